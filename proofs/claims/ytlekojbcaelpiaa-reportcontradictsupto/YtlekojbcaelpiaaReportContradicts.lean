/- ReportContradicts returns true, for all inputs of bulk at most 1048576. -/
import Derived.Test.YtlekojbcaelpiaaBa5
set_option linter.unusedVariables false
set_option linter.unusedSimpArgs false

/- Facts for ReportMerges: rows of numbers, sums that wrap, lists merged twice. -/
namespace Go.Proofs.Ytlekojbcaelpiaa
open Go.RowKit
theorem idxI {tok : Option (Nat × Nat)} {l : List Int} {k : Nat} {x : Int} (hx : l[k]? = some x) : cmdIndexAddr Try.prog 22 (.row tok 1 l.length (l.map iA)) (iA k) = some (.val (.rptr (iA x :: (l.drop (k + 1)).map iA))) := by
  have h := el22.idx (tok := tok) (n := l.length) (k := k) (xs := l.map iA) (List.getElem?_eq_some_iff.1 hx).1
  rw [h, Nat.mul_one, ← List.map_drop, drop_at hx, List.map_cons]
theorem hAddW (t : TypeId) (x y : Operand) (a b c : Int) (h : IntKind.i64.wrap (a + b) = c) : pB .add t x y (.int .i64 a) (.int .i64 b) (iA c) := by
  subst h
  have e : (peek Try.prog (do eqGuard .add t x y (.int .i64 a) (.int .i64 b); binOp .add t (.int .i64 a) (.int .i64 b))).map (fun v => Cmd.val (.sc v)) = some (.val (iA (IntKind.i64.wrap (a + b)))) := rfl
  exact e
theorem wrap_I64 (n : Int) : I64 (IntKind.i64.wrap n) := by rw [IntKind.wrap_i64]; constructor <;> omega
theorem tmod3 (y : Int) : I64 (y.tmod 3) := by
  have h1 := Int.tmod_lt_of_pos y (b := 3) (by omega)
  have h2 : -3 < y.tmod 3 := Int.lt_tmod_of_pos y (by omega)
  exact ⟨by omega, by omega⟩
theorem sameR_refl (r : Rp) : sameR r r = true := eqI_refl _
theorem samesB_refl (l : List Rp) : samesB l l = true := by
  rw [samesB_iff]
  refine ⟨rfl, fun k x y hx hy => ?_⟩
  rw [hx] at hy; cases hy; exact sameR_refl x
theorem wrongR_len (con : Rp → Rp → Bool) (l : List Rp) : (wrongR con l).length ≤ l.length := by
  unfold wrongR; rw [List.length_map]; exact List.length_filter_le _ _
theorem dbl_len (l : List Rp) : (l.reverse.flatMap fun x => [x, x]).length = 2 * l.length := by
  have h : ∀ l : List Rp, (l.flatMap fun x => [x, x]).length = 2 * l.length := fun l => by
    induction l with
    | nil => rfl
    | cons x l ih => rw [List.flatMap_cons, List.length_append, ih]; simp; omega
  rw [h, List.length_reverse]
/-- both ways to say that a report fits an outcome -/
theorem agrees_eq (r : Rp) (es : List Ev) (en : Int) : agreesB r es en = agrR r es en := by
  unfold agreesB agrR begB sameOut eqE
  have hp : r.events <+: es ↔ r.events.length ≤ es.length ∧ r.events = es.take r.events.length := by
    constructor
    · intro h; exact ⟨h.length_le, (List.prefix_iff_eq_take.1 h)⟩
    · intro h; exact List.prefix_iff_eq_take.2 h.2
  cases hc : r.cut with
  | true =>
    simp only [if_true, Bool.true_or, Bool.and_true]
    rw [Bool.eq_iff_iff]
    simp only [Bool.and_eq_true, decide_eq_true_eq]
    exact hp.symm
  | false =>
    simp only [Bool.false_eq_true, if_false, Bool.false_or]
    rw [Bool.eq_iff_iff]
    simp only [Bool.and_eq_true, decide_eq_true_eq]
    constructor
    · rintro ⟨h1, h2⟩
      exact ⟨by rw [h1]; exact List.prefix_rfl, by rw [h1], h2.symm⟩
    · rintro ⟨h1, h2, h3⟩
      exact ⟨h1.eq_of_length h2.symm, h3.symm⟩
theorem take_min {a b : List Ev} : a.take (min a.length b.length) = b.take (min a.length b.length) ↔ a <+: b ∨ b <+: a := by
  constructor
  · intro h
    rcases Nat.le_total a.length b.length with hl | hl
    · rw [Nat.min_eq_left hl, List.take_length] at h
      exact .inl (by rw [h]; exact List.take_prefix _ _)
    · rw [Nat.min_eq_right hl, List.take_length] at h
      exact .inr (by rw [← h]; exact List.take_prefix _ _)
  · rintro (h | h)
    · have hl := h.length_le
      rw [Nat.min_eq_left hl, List.take_length]
      exact List.prefix_iff_eq_take.1 h
    · have hl := h.length_le
      rw [Nat.min_eq_right hl, List.take_length]
      exact (List.prefix_iff_eq_take.1 h).symm
theorem contr_eq : contrR = contrB := by
  funext a b
  unfold contrR contrB
  rw [agrees_eq, agrees_eq]
  split
  · rfl
  split
  · rfl
  split
  · unfold begB eqE
    rw [Bool.eq_iff_iff]
    simp only [Bool.and_eq_true, Bool.not_eq_true', decide_eq_false_iff_not, take_min]
    constructor
    · rintro ⟨h1, h2⟩ (h | h)
      · exact h2 h
      · exact h1 h
    · intro h; exact ⟨fun h1 => h (.inr h1), fun h1 => h (.inl h1)⟩
  · rfl
/-- what is sorted, valid and of different numbers is merged into itself -/
theorem fold_of {l c : List Rp} (hs : Srt c) (h : (firsts l).Perm c) : foldR l = c := srt_eq (fold_perm l).1 hs ((fold_perm l).2.trans h)
theorem firsts_nodup : ∀ (d acc : List Rp), (∀ x ∈ d, validB x = true) → ((acc ++ d).map (·.id)).Nodup → d.foldl stepM acc = acc ++ d
  | [], acc, _, _ => by simp
  | x :: d, acc, hv, hn => by
    have hx : x.id ∉ acc.map (·.id) := fun h => by
      rw [List.map_append, List.map_cons, List.nodup_append] at hn
      exact hn.2.2 _ h _ (by simp) rfl
    rw [List.foldl_cons]
    have e : stepM acc x = acc ++ [x] := by unfold stepM; rw [if_pos ⟨hv x (by simp), hx⟩]
    rw [e, firsts_nodup d (acc ++ [x]) (fun y hy => hv y (by simp [hy])) (by simpa using hn)]
    simp
theorem firsts_dbl : ∀ (d acc : List Rp), (∀ x ∈ d, validB x = true) → ((acc ++ d).map (·.id)).Nodup → (d.flatMap fun x => [x, x]).foldl stepM acc = acc ++ d
  | [], acc, _, _ => by simp
  | x :: d, acc, hv, hn => by
    have hx : x.id ∉ acc.map (·.id) := fun h => by
      rw [List.map_append, List.map_cons, List.nodup_append] at hn
      exact hn.2.2 _ h _ (by simp) rfl
    rw [List.flatMap_cons, List.foldl_append, List.foldl_cons, List.foldl_cons, List.foldl_nil]
    have e : stepM acc x = acc ++ [x] := by unfold stepM; rw [if_pos ⟨hv x (by simp), hx⟩]
    have e2 : stepM (acc ++ [x]) x = acc ++ [x] := by unfold stepM; rw [if_neg (fun h => h.2 (by simp))]
    rw [e, e2, firsts_dbl d (acc ++ [x]) (fun y hy => hv y (by simp [hy])) (by simpa using hn)]
    simp
theorem srt_nodup {c : List Rp} (h : Srt c) : (c.map (·.id)).Nodup := by
  rw [List.nodup_iff_pairwise_ne, List.pairwise_map]
  exact h.imp fun h => by omega
theorem fold_fold (l : List Rp) : foldR (foldR l) = foldR l := by
  refine fold_of (fold_perm l).1 ?_
  have := firsts_nodup (foldR l) [] (fun x hx => (fold_mem hx).2) (by simpa using srt_nodup (fold_perm l).1)
  unfold firsts
  rw [this]; simp
theorem fold_back (l : List Rp) : foldR ((foldR l).reverse.flatMap fun x => [x, x]) = foldR l := by
  refine fold_of (fold_perm l).1 ?_
  have := firsts_dbl (foldR l).reverse [] (fun x hx => (fold_mem (by simpa using hx)).2) (by
    rw [List.nil_append, List.map_reverse]; exact (List.reverse_perm _).nodup_iff.2 (srt_nodup (fold_perm l).1))
  unfold firsts
  rw [this]; simp
end Go.Proofs.Ytlekojbcaelpiaa

/- ReportContradicts: the walk. -/
namespace Go.Proofs.Ytlekojbcaelpiaa
open Go.RowKit
theorem hRem' (t : TypeId) (x y : Operand) (a b c : Int) (hb : b ≠ 0) (h : a.tmod b = c) (hc : I64 c) : pB .rem t x y (.int .i64 a) (.int .i64 b) (iA c) := hRem t x y a b c hb h hc
noncomputable abbrev C7 : Code := bodyOf Try.f7
noncomputable abbrev P7 : Code := post 9 C7
noncomputable abbrev E7 : Code := sY P7
noncomputable abbrev T7 : Code := post 2 E7
def st7a (l : List Int) (oes : List Ev) (oen : Int) : St := { n := 131, slots := [(9, .ptr 9 0), (19, .sc (.slice none 0 0)), (20, rowR (allR l))], objs := [(9, (62, [rowE oes, iA (oen)]))], lens := [] }
def st7 (l : List Int) (oes : List Ev) (oen : Int) (i n : Nat) (cs : List AV) : St := { n := 131, slots := [(9, .ptr 9 0), (19, .row (some (119, 30)) 6 (n) (cs)), (20, rowR (allR l)), (21, iA ((i : Nat) : Int))], objs := [(9, (62, [rowE oes, iA (oen)]))], lens := [(119, n * 6)] }
def st7f (bs : List Rp) : St := { n := 131, slots := [(19, rowR bs)], objs := [], lens := [] }
noncomputable def s7n (l : List Int) (oes : List Ev) (oen : Int) : St := { st7a l oes oen with slots := (19, .row (some (119, 30)) 6 0 []) :: (st7a l oes oen).slots, lens := (119, 0) :: (st7a l oes oen).lens }
noncomputable def s7b (l : List Int) (oes : List Ev) (oen : Int) : St := stOf (runCode Try.prog (orc []) (liveOf 7) 0 (fR T7) (s7n l oes oen))
theorem m7_round {l : List Int} {oes : List Ev} {oen : Int} {i n : Nat} {cs : List AV} {x : Rp} (hx : (allR l)[i]? = some x) (hn : n ≤ 1000) (ha : (allR l).length ≤ 1000) (hoe : oes.length ≤ 1000000) {Q : Out → Prop}
    (q : ∀ s', clean [9, 19, 20, 21] [9, 119] s' = (if agrR x oes oen = true ∧ x.ver = 0 then st7 l oes oen (i + 1) (n + 1) (cs ++ rpC x) else st7 l oes oen (i + 1) n cs) → Q (.go s')) : Judg (fB T7) (st7 l oes oen i n cs) Q := by
  have hil : i < (allR l).length := (List.getElem?_eq_some_iff.1 hx).1
  have h33 := ok33 x oes oen hoe
  cases hb : agrR x oes oen with
  | false =>
    rw [hb] at h33 q
    rw [if_neg (by simp)] at q
    exact Judg.run' 7 (orcC [(103, plainR (bA false))] [(95, .val (bA true)), (100, .val (.rptr (iA (x.id) :: iA (x.ver) :: rowI x.args :: rowE x.events :: bA (x.cut) :: iA (x.en) :: rpsA ((allR l).drop (i + 1))))), (97, .val (iA ((i + 1 : Nat) : Int)))]) (.go (stOf (runCode Try.prog (orcC [(103, plainR (bA false))] [(95, .val (bA true)), (100, .val (.rptr (iA (x.id) :: iA (x.ver) :: rowI x.args :: rowE x.events :: bA (x.cut) :: iA (x.en) :: rpsA ((allR l).drop (i + 1))))), (97, .val (iA ((i + 1 : Nat) : Int)))]) (liveOf 7) 0 (fB T7) (st7 l oes oen i n cs)))) [pB .add 3 (.tmp 96) (.const (.int .i64 1)) (.int .i64 ((i : Nat) : Int)) (.int .i64 (1)) (iA ((i + 1 : Nat) : Int)), Ok Try.prog 33 [.agg [iA (x.id), iA (x.ver), rowI x.args, rowE x.events, bA (x.cut), iA (x.en)], .agg [rowE oes, iA (oen)]] (plainR (bA false)), cmdIndexAddr Try.prog 28 (rowR (allR l)) (iA ((i : Nat) : Int)) = some (.val (.rptr (iA (x.id) :: iA (x.ver) :: rowI x.args :: rowE x.events :: bA (x.cut) :: iA (x.en) :: rpsA ((allR l).drop (i + 1))))), pB .lss 3 (.tmp 92) (.tmp 94) (.int .i64 ((i : Nat) : Int)) (.int .i64 (((allR l).length : Nat) : Int)) (bA true)] (by kernel_rfl) (by kernel_rfl) (allc (hAdd _ _ _ _ _ _ (by simp) ⟨by omega, by omega⟩) (allc (h33) (allc (el28.idxR hx) (allc (hLss _ _ _ _ _ _ (decide_eq_true (by omega))) allnil)))) (q _ (by kernel_rfl))
  | true =>
    rw [hb] at h33 q
    by_cases hv : x.ver = 0
    · rw [if_pos ⟨rfl, hv⟩] at q
      exact Judg.run' 7 (orcC [(103, plainR (bA true)), (117, plainR (rpA x))] [(95, .val (bA true)), (100, .val (.rptr (iA (x.id) :: iA (x.ver) :: rowI x.args :: rowE x.events :: bA (x.cut) :: iA (x.en) :: rpsA ((allR l).drop (i + 1))))), (107, .val (.rptr (iA (x.id) :: iA (x.ver) :: rowI x.args :: rowE x.events :: bA (x.cut) :: iA (x.en) :: rpsA ((allR l).drop (i + 1))))), (110, .val (bA true)), (115, .val (.rptr (iA (x.id) :: iA (x.ver) :: rowI x.args :: rowE x.events :: bA (x.cut) :: iA (x.en) :: rpsA ((allR l).drop (i + 1))))), (119, .grow 119 30 6 (n) (cs) (1) ([iA (x.id), iA (x.ver), rowI x.args, rowE x.events, bA (x.cut), iA (x.en)])), (97, .val (iA ((i + 1 : Nat) : Int)))]) (.go (stOf (runCode Try.prog (orcC [(103, plainR (bA true)), (117, plainR (rpA x))] [(95, .val (bA true)), (100, .val (.rptr (iA (x.id) :: iA (x.ver) :: rowI x.args :: rowE x.events :: bA (x.cut) :: iA (x.en) :: rpsA ((allR l).drop (i + 1))))), (107, .val (.rptr (iA (x.id) :: iA (x.ver) :: rowI x.args :: rowE x.events :: bA (x.cut) :: iA (x.en) :: rpsA ((allR l).drop (i + 1))))), (110, .val (bA true)), (115, .val (.rptr (iA (x.id) :: iA (x.ver) :: rowI x.args :: rowE x.events :: bA (x.cut) :: iA (x.en) :: rpsA ((allR l).drop (i + 1))))), (119, .grow 119 30 6 (n) (cs) (1) ([iA (x.id), iA (x.ver), rowI x.args, rowE x.events, bA (x.cut), iA (x.en)])), (97, .val (iA ((i + 1 : Nat) : Int)))]) (liveOf 7) 0 (fB T7) (st7 l oes oen i n cs)))) [pB .add 3 (.tmp 96) (.const (.int .i64 1)) (.int .i64 ((i : Nat) : Int)) (.int .i64 (1)) (iA ((i + 1 : Nat) : Int)), cmdAppend Try.prog 52 52 (.row (some (119, 30)) 6 (n) (cs)) (.row (some (118, 30)) 6 (1) ([iA (x.id), iA (x.ver), rowI x.args, rowE x.events, bA (x.cut), iA (x.en)])) = some (.grow 119 30 6 (n) (cs) (1) ([iA (x.id), iA (x.ver), rowI x.args, rowE x.events, bA (x.cut), iA (x.en)])), n * 6 = n * 6, Ok Try.prog 11 [.agg [iA (x.id), iA (x.ver), rowI x.args, rowE x.events, bA (x.cut), iA (x.en)]] (plainR (rpA x)), cmdIndexAddr Try.prog 28 (rowR (allR l)) (iA ((i : Nat) : Int)) = some (.val (.rptr (iA (x.id) :: iA (x.ver) :: rowI x.args :: rowE x.events :: bA (x.cut) :: iA (x.en) :: rpsA ((allR l).drop (i + 1))))), pB .eql 3 (.tmp 109) (.const (.int .i64 0)) (.int .i64 (x.ver)) (.int .i64 (0)) (bA true), cmdIndexAddr Try.prog 28 (rowR (allR l)) (iA ((i : Nat) : Int)) = some (.val (.rptr (iA (x.id) :: iA (x.ver) :: rowI x.args :: rowE x.events :: bA (x.cut) :: iA (x.en) :: rpsA ((allR l).drop (i + 1))))), Ok Try.prog 33 [.agg [iA (x.id), iA (x.ver), rowI x.args, rowE x.events, bA (x.cut), iA (x.en)], .agg [rowE oes, iA (oen)]] (plainR (bA true)), cmdIndexAddr Try.prog 28 (rowR (allR l)) (iA ((i : Nat) : Int)) = some (.val (.rptr (iA (x.id) :: iA (x.ver) :: rowI x.args :: rowE x.events :: bA (x.cut) :: iA (x.en) :: rpsA ((allR l).drop (i + 1))))), pB .lss 3 (.tmp 92) (.tmp 94) (.int .i64 ((i : Nat) : Int)) (.int .i64 (((allR l).length : Nat) : Int)) (bA true)] (by kernel_rfl) (by kernel_rfl) (allc (hAdd _ _ _ _ _ _ (by simp) ⟨by omega, by omega⟩) (allc (el52.grow (rowOf_row _ _ _ _) (fits_of (by omega) (by omega))) (allc (rfl) (allc (ok11 x) (allc (el28.idxR hx) (allc (hEql _ _ _ _ _ _ (by rw [beq_iff_eq]; exact hv)) (allc (el28.idxR hx) (allc (h33) (allc (el28.idxR hx) (allc (hLss _ _ _ _ _ _ (decide_eq_true (by omega))) allnil)))))))))) (q _ (by kernel_rfl))
    · rw [if_neg (fun h => hv h.2)] at q
      exact Judg.run' 7 (orcC [(103, plainR (bA true))] [(95, .val (bA true)), (100, .val (.rptr (iA (x.id) :: iA (x.ver) :: rowI x.args :: rowE x.events :: bA (x.cut) :: iA (x.en) :: rpsA ((allR l).drop (i + 1))))), (107, .val (.rptr (iA (x.id) :: iA (x.ver) :: rowI x.args :: rowE x.events :: bA (x.cut) :: iA (x.en) :: rpsA ((allR l).drop (i + 1))))), (110, .val (bA false)), (97, .val (iA ((i + 1 : Nat) : Int)))]) (.go (stOf (runCode Try.prog (orcC [(103, plainR (bA true))] [(95, .val (bA true)), (100, .val (.rptr (iA (x.id) :: iA (x.ver) :: rowI x.args :: rowE x.events :: bA (x.cut) :: iA (x.en) :: rpsA ((allR l).drop (i + 1))))), (107, .val (.rptr (iA (x.id) :: iA (x.ver) :: rowI x.args :: rowE x.events :: bA (x.cut) :: iA (x.en) :: rpsA ((allR l).drop (i + 1))))), (110, .val (bA false)), (97, .val (iA ((i + 1 : Nat) : Int)))]) (liveOf 7) 0 (fB T7) (st7 l oes oen i n cs)))) [pB .add 3 (.tmp 96) (.const (.int .i64 1)) (.int .i64 ((i : Nat) : Int)) (.int .i64 (1)) (iA ((i + 1 : Nat) : Int)), pB .eql 3 (.tmp 109) (.const (.int .i64 0)) (.int .i64 (x.ver)) (.int .i64 (0)) (bA false), cmdIndexAddr Try.prog 28 (rowR (allR l)) (iA ((i : Nat) : Int)) = some (.val (.rptr (iA (x.id) :: iA (x.ver) :: rowI x.args :: rowE x.events :: bA (x.cut) :: iA (x.en) :: rpsA ((allR l).drop (i + 1))))), Ok Try.prog 33 [.agg [iA (x.id), iA (x.ver), rowI x.args, rowE x.events, bA (x.cut), iA (x.en)], .agg [rowE oes, iA (oen)]] (plainR (bA true)), cmdIndexAddr Try.prog 28 (rowR (allR l)) (iA ((i : Nat) : Int)) = some (.val (.rptr (iA (x.id) :: iA (x.ver) :: rowI x.args :: rowE x.events :: bA (x.cut) :: iA (x.en) :: rpsA ((allR l).drop (i + 1))))), pB .lss 3 (.tmp 92) (.tmp 94) (.int .i64 ((i : Nat) : Int)) (.int .i64 (((allR l).length : Nat) : Int)) (bA true)] (by kernel_rfl) (by kernel_rfl) (allc (hAdd _ _ _ _ _ _ (by simp) ⟨by omega, by omega⟩) (allc (hEql _ _ _ _ _ _ (by rw [beq_eq_false_iff_ne]; exact hv)) (allc (el28.idxR hx) (allc (h33) (allc (el28.idxR hx) (allc (hLss _ _ _ _ _ _ (decide_eq_true (by omega))) allnil)))))) (q _ (by kernel_rfl))
theorem law7_any (l h : List Int) (p q : Int) (hl : l.length ≤ 90000000) (hw : I64s l) (oes : List Ev) (oen v en2 v2 : Int) (k : Nat) (ra rb rc rd : Rp) (c1 c2 : List Rp) (w1 w2 : List Int)
    (hoe : oes.length ≤ 1000) (hoen : 0 ≤ oen ∧ oen ≤ 1000) (hv0 : 0 ≤ v ∧ v ≤ 1000) (hen2 : (oen + 1).tmod 3 = en2) (hen2' : 0 ≤ en2 ∧ en2 ≤ 3) (hv2 : (v + 1).tmod 32 = v2) (hv2' : 0 ≤ v2 ∧ v2 ≤ 32)
    (h31 : Ok Try.prog 31 [rowI h] (plainR (outA oes oen))) (h19 : Ok Try.prog 19 [iA p, iA 32] (plainR (iA v))) (h19k : Ok Try.prog 19 [iA q, iA ((oes.length + 1 : Nat) : Int)] (plainR (iA ((k : Nat) : Int))))
    (mra : Ok Try.prog 34 [iA 3, iA v, .sc (.slice none 0 0), outA oes oen, iA ((k : Nat) : Int)] (plainR (rpA ra))) (mrb : Ok Try.prog 34 [iA 1, iA v, .sc (.slice none 0 0), outA oes oen, iA (-1)] (plainR (rpA rb)))
    (mrc : Ok Try.prog 34 [iA 2, iA v, .sc (.slice none 0 0), outA oes en2, iA (-1)] (plainR (rpA rc))) (mrd : Ok Try.prog 34 [iA 4, iA v2, .sc (.slice none 0 0), .sc (.agg #[.slice none 0 0, .int .i64 0]), iA (-1)] (plainR (rpA rd)))
    (h26a : Ok Try.prog 26 [rowR [ra, rb, rd]] (plainR (.tup [rowR c1, rowI w1]))) (h26b : Ok Try.prog 26 [rowR [rc, rb, ra, rd]] (plainR (.tup [rowR c2, rowI w2])))
    (hc1 : c1.length = 3) (hw1 : w1.length = 0) (hc2 : c2.length = 4) (h30 : Ok Try.prog 30 [rowI w2, rowI [1, 2]] (plainR (bA true)))
    (hfin : ∀ bs : List Rp, (∀ r ∈ bs, agrR r oes oen = true) → (wrongR contrB (foldR bs)).length = 0) : Ok Try.prog 7 [rowI l, rowI h, iA p, iA q] (plainR (bA true)) := by
  refine Ok.judgW Try.func7 (c := C7) rfl (by simp [Try.ntmps7]) ?_
  refine Judg.pre' 7 (orcC [(25, plainR (outA oes oen)), (27, plainR (iA v)), (35, plainR (iA ((k : Nat) : Int))), (36, plainR (rpA ra)), (39, plainR (rpA rb)), (48, plainR (rpA rc)), (53, plainR (rpA rd)), (59, plainR (.tup [rowR c1, rowI w1])), (68, plainR (.tup [rowR c2, rowI w2])), (87, plainR (bA true)), (91, ownR 25 (allR l))] [(34, .val (iA ((oes.length + 1 : Nat) : Int))), (45, .val (iA (oen + 1))), (46, .val (iA (en2))), (50, .val (iA (v + 1))), (51, .val (iA (v2))), (73, .val (bA false)), (77, .val (bA false)), (82, .val (bA false))]) 12 (stOf (runCode Try.prog (orcC [(25, plainR (outA oes oen)), (27, plainR (iA v)), (35, plainR (iA ((k : Nat) : Int))), (36, plainR (rpA ra)), (39, plainR (rpA rb)), (48, plainR (rpA rc)), (53, plainR (rpA rd)), (59, plainR (.tup [rowR c1, rowI w1])), (68, plainR (.tup [rowR c2, rowI w2])), (87, plainR (bA true)), (91, ownR 25 (allR l))] [(34, .val (iA ((oes.length + 1 : Nat) : Int))), (45, .val (iA (oen + 1))), (46, .val (iA (en2))), (50, .val (iA (v + 1))), (51, .val (iA (v2))), (73, .val (bA false)), (77, .val (bA false)), (82, .val (bA false))]) (liveOf 7) 0 (Ytlekojbcaelpiaa.pre 12 C7) (start [rowI l, rowI h, iA p, iA q] 131))) [Ok Try.prog 25 [rowI l] (ownR 25 (allR l)), Ok Try.prog 30 [rowI w2, .row none 1 (2) ([iA (1), iA (2)])] (plainR (bA true)), pB .neq 3 (.tmp 81) (.const (.int .i64 4)) (.int .i64 ((c2.length : Nat) : Int)) (.int .i64 (4)) (bA false), pB .neq 3 (.tmp 76) (.const (.int .i64 0)) (.int .i64 ((w1.length : Nat) : Int)) (.int .i64 (0)) (bA false), pB .neq 3 (.tmp 72) (.const (.int .i64 3)) (.int .i64 ((c1.length : Nat) : Int)) (.int .i64 (3)) (bA false), Ok Try.prog 26 [.row none 6 (4) ([iA (rc.id), iA (rc.ver), rowI rc.args, rowE rc.events, bA (rc.cut), iA (rc.en), iA (rb.id), iA (rb.ver), rowI rb.args, rowE rb.events, bA (rb.cut), iA (rb.en), iA (ra.id), iA (ra.ver), rowI ra.args, rowE ra.events, bA (ra.cut), iA (ra.en), iA (rd.id), iA (rd.ver), rowI rd.args, rowE rd.events, bA (rd.cut), iA (rd.en)])] (plainR (.tup [rowR c2, rowI w2])), Ok Try.prog 26 [.row none 6 (3) ([iA (ra.id), iA (ra.ver), rowI ra.args, rowE ra.events, bA (ra.cut), iA (ra.en), iA (rb.id), iA (rb.ver), rowI rb.args, rowE rb.events, bA (rb.cut), iA (rb.en), iA (rd.id), iA (rd.ver), rowI rd.args, rowE rd.events, bA (rd.cut), iA (rd.en)])] (plainR (.tup [rowR c1, rowI w1])), Ok Try.prog 34 [iA (4), iA (v2), .sc (.slice none 0 0), .sc (.agg #[.slice none 0 0, .int .i64 (0)]), iA (-1)] (plainR (rpA rd)), pB .rem 3 (.tmp 50) (.const (.int .i64 32)) (.int .i64 (v + 1)) (.int .i64 (32)) (iA (v2)), pB .add 3 (.tmp 49) (.const (.int .i64 1)) (.int .i64 (v)) (.int .i64 (1)) (iA (v + 1)), Ok Try.prog 34 [iA (2), iA (v), .sc (.slice none 0 0), .agg [rowE oes, iA (en2)], iA (-1)] (plainR (rpA rc)), pB .rem 3 (.tmp 45) (.const (.int .i64 3)) (.int .i64 (oen + 1)) (.int .i64 (3)) (iA (en2)), pB .add 3 (.tmp 44) (.const (.int .i64 1)) (.int .i64 (oen)) (.int .i64 (1)) (iA (oen + 1)), Ok Try.prog 34 [iA (1), iA (v), .sc (.slice none 0 0), .agg [rowE oes, iA (oen)], iA (-1)] (plainR (rpA rb)), Ok Try.prog 34 [iA (3), iA (v), .sc (.slice none 0 0), .agg [rowE oes, iA (oen)], iA ((k : Nat) : Int)] (plainR (rpA ra)), Ok Try.prog 19 [iA (q), iA ((oes.length + 1 : Nat) : Int)] (plainR (iA ((k : Nat) : Int))), pB .add 3 (.tmp 33) (.const (.int .i64 1)) (.int .i64 ((oes.length : Nat) : Int)) (.int .i64 (1)) (iA ((oes.length + 1 : Nat) : Int)), Ok Try.prog 19 [iA (p), iA (32)] (plainR (iA v)), Ok Try.prog 31 [rowI h] (plainR (outA oes oen))] (by kernel_rfl) (by kernel_rfl) (allc (ok25 l hl hw) (allc (h30) (allc (hNeq _ _ _ _ _ _ (by rw [bne_eq_false_iff_eq]; omega)) (allc (hNeq _ _ _ _ _ _ (by rw [bne_eq_false_iff_eq]; omega)) (allc (hNeq _ _ _ _ _ _ (by rw [bne_eq_false_iff_eq]; omega)) (allc (h26b) (allc (h26a) (allc (mrd) (allc (hRem _ _ _ _ _ _ (by omega) hv2 ⟨by omega, by omega⟩) (allc (hAdd _ _ _ _ _ _ rfl ⟨by omega, by omega⟩) (allc (mrc) (allc (hRem _ _ _ _ _ _ (by omega) hen2 ⟨by omega, by omega⟩) (allc (hAdd _ _ _ _ _ _ rfl ⟨by omega, by omega⟩) (allc (mrb) (allc (mra) (allc (h19k) (allc (hAdd _ _ _ _ _ _ (by simp) ⟨by omega, by omega⟩) (allc (h19) (allc (h31) allnil))))))))))))))))))) ?_
  refine Judg.clean (L := [9, 19, 20]) (N := [9]) (t := st7a l oes oen) (by kernel_rfl) ?_
  refine Judg.nilSlot 19 119 30 6 (by kernel_rfl) (by kernel_rfl) ?_
  have hal : (allR l).length ≤ 8 := by unfold allR; simp; omega
  refine Judg.for_ (ι := Nat × List Rp) [9, 19, 20, 21] [9, 119] (fun a => st7 l oes oen a.1 a.2.length (rpsA a.2)) (fun a => (allR l).length - a.1) (fun a => a.1 ≤ (allR l).length ∧ a.2.length ≤ a.1 ∧ ∀ r ∈ a.2, agrR r oes oen = true ∧ r ∈ allR l) (by kernel_rfl) (orc []) (liveOf 7) (s1 := s7b l oes oen) (by kernel_rfl)
    (by rw [show (s7b l oes oen).log = [] by kernel_rfl]; exact allnil) (0, []) ⟨Nat.zero_le _, Nat.le_refl _, fun r hr => by cases hr⟩ (by kernel_rfl) ?_
  rintro ⟨i, bs⟩ ⟨hi, hbl, hbs⟩
  simp only at hi hbl hbs ⊢
  by_cases hlt : i < (allR l).length
  · obtain ⟨x, hx⟩ : ∃ x, (allR l)[i]? = some x := ⟨_, List.getElem?_eq_getElem hlt⟩
    refine m7_round hx (by omega) (by omega) (by omega) fun s' hs => ?_
    by_cases hc : agrR x oes oen = true ∧ x.ver = 0
    · rw [if_pos hc] at hs
      refine ⟨(i + 1, bs ++ [x]), ⟨by show i + 1 ≤ _; omega, by show (bs ++ [x]).length ≤ i + 1; simp; omega, fun r hr => ?_⟩, by show (allR l).length - (i + 1) < (allR l).length - i; omega, ?_⟩
      · rcases List.mem_append.1 hr with hr | hr
        · exact hbs r hr
        · simp only [List.mem_singleton] at hr; subst hr; exact ⟨hc.1, List.mem_of_getElem? hx⟩
      · rw [hs]
        have e1 : (bs ++ [x]).length = bs.length + 1 := by simp
        have e2 : rpsA (bs ++ [x]) = rpsA bs ++ rpC x := by rw [rpsA_append]; simp [rpsA]
        rw [e1, e2]
    · rw [if_neg hc] at hs
      exact ⟨(i + 1, bs), ⟨by show i + 1 ≤ _; omega, by show bs.length ≤ i + 1; omega, hbs⟩, by show (allR l).length - (i + 1) < (allR l).length - i; omega, hs⟩
  · obtain rfl : i = (allR l).length := by omega
    have hbf : ∀ r ∈ bs, Fit r := fun r hr => by
      have := (hbs r hr).2
      unfold allR at this
      obtain ⟨j, _, rfl⟩ := List.mem_map.1 this
      exact (sz_one _).fit (by omega) (by omega)
    have h26c := ok26 bs (by omega) hbf
    have hw3 := hfin bs fun r hr => (hbs r hr).1
    generalize foldR bs = c3 at *
    generalize wrongR contrB c3 = w3 at *
    obtain ⟨n, hn⟩ : ∃ n, bs.length = n := ⟨_, rfl⟩
    obtain ⟨cs, hcs⟩ : ∃ cs, rpsA bs = cs := ⟨_, rfl⟩
    rw [hn, hcs]
    refine Judg.run' 7 (orc [(95, .val (bA false))]) (.exit 0 (stOf (runCode Try.prog (orc [(95, .val (bA false))]) (liveOf 7) 0 (fB T7) (st7 l oes oen (allR l).length n cs)))) [pB .lss 3 (.tmp 92) (.tmp 94) (.int .i64 (((allR l).length : Nat) : Int)) (.int .i64 (((allR l).length : Nat) : Int)) (bA false)] (by kernel_rfl) (by kernel_rfl) (allc (hLss _ _ _ _ _ _ (decide_eq_false (by omega))) allnil) ?_
    show Judg (fK T7) _ _
    rw [← hn, ← hcs]
    refine Judg.clean (L := [19]) (N := []) (t := st7f bs) (by kernel_rfl) ?_
    exact Judg.run' 7 (orcC [(122, plainR (.tup [rowR c3, rowI w3])), (129, plainR (bA true))] [(127, .val (bA true))]) (.ret (stOf (runCode Try.prog (orcC [(122, plainR (.tup [rowR c3, rowI w3])), (129, plainR (bA true))] [(127, .val (bA true))]) (liveOf 7) 0 (fK T7) (st7f bs)))) [Ok Try.prog 16 [] (plainR (bA true)), pB .eql 3 (.tmp 126) (.const (.int .i64 0)) (.int .i64 ((w3.length : Nat) : Int)) (.int .i64 (0)) (bA true), Ok Try.prog 26 [rowR bs] (plainR (.tup [rowR c3, rowI w3]))] (by kernel_rfl) (by kernel_rfl) (allc (ok16) (allc (hEql _ _ _ _ _ _ (by rw [beq_iff_eq]; omega)) (allc (h26c) allnil))) (fin_retW (l := []) _ (by kernel_rfl) allnil (ResImp.refl _))
end Go.Proofs.Ytlekojbcaelpiaa

/- ReportContradicts returns true, for all inputs of bulk at most 1048576. -/
namespace Go.Proofs.Ytlekojbcaelpiaa
open Go.ChangeShapes Go.WideShapes Go.ChangeAt Go.RowKit
theorem agr_out {r : Rp} {es : List Ev} {en : Int} (h : agrR r es en = true) (hc : r.cut = false) : r.events = es ∧ r.en = en := by
  unfold agrR begB at h
  rw [hc, Bool.false_or] at h
  simp only [Bool.and_eq_true, decide_eq_true_eq] at h
  exact ⟨h.1.eq_of_length h.2.1.symm, h.2.2.symm⟩
theorem no_contr {x y : Rp} {es : List Ev} {en : Int} (hx : agrR x es en = true) (hy : agrR y es en = true) : contrB x y = false := by
  rw [← contr_eq]
  unfold contrR
  split
  · rfl
  split
  · rfl
  split
  · have h1 : x.events <+: es := by unfold agrR begB at hx; simp only [Bool.and_eq_true, decide_eq_true_eq] at hx; exact hx.1
    have h2 : y.events <+: es := by unfold agrR begB at hy; simp only [Bool.and_eq_true, decide_eq_true_eq] at hy; exact hy.1
    unfold begB
    rcases List.prefix_or_prefix_of_prefix h1 h2 with h | h
    · rw [decide_eq_true h]; simp
    · rw [decide_eq_true h]; simp
  split
  · rename_i hcc hxc
    have hyc : y.cut = false := by
      cases hq : y.cut with
      | false => rfl
      | true => rw [hxc, hq] at hcc; exact absurd rfl hcc
    obtain ⟨e1, e2⟩ := agr_out hy hyc
    rw [e1, e2, hx]; rfl
  · rename_i hxc
    obtain ⟨e1, e2⟩ := agr_out hx (by simpa using hxc)
    rw [e1, e2, hy]; rfl
theorem contr_ver {x y : Rp} (h : x.ver ≠ y.ver) : contrB x y = false := by
  unfold contrB; rw [if_pos h]
theorem contr_self (x : Rp) : contrB x x = false := by
  cases hc : x.cut with
  | false => exact no_contr (es := x.events) (en := x.en) (by unfold agrR begB; rw [decide_eq_true List.prefix_rfl]; simp) (by unfold agrR begB; rw [decide_eq_true List.prefix_rfl]; simp)
  | true => exact no_contr (es := x.events) (en := x.en) (by unfold agrR begB; rw [decide_eq_true List.prefix_rfl]; simp) (by unfold agrR begB; rw [decide_eq_true List.prefix_rfl]; simp)
theorem wrong_none {l : List Rp} (h : ∀ x ∈ l, ∀ y ∈ l, contrB x y = false) : wrongR contrB l = [] := by
  unfold wrongR
  rw [List.map_eq_nil_iff, List.filter_eq_nil_iff]
  intro x hx hc
  obtain ⟨y, hy, e⟩ := List.any_eq_true.1 hc
  rw [h x hx y hy] at e; cases e
theorem Ok.args {f : Nat} {args args' : List AV} {r : Res} (h : ∀ (pr : Nat → Nat → Prop) (w : World) (cs : List Value), VL pr w cs args' → VL pr w cs args) (k : Ok Try.prog f args r) : Ok Try.prog f args' r := ⟨k.1, fun w pr cs hp hV => k.2 w pr cs hp (h pr w cs hV)⟩
theorem nil_V {pr : Nat → Nat → Prop} {w : World} {c : Value} {size : Nat} (h : V pr w c (.sc (.slice none 0 0))) : V pr w c (.row none size 0 []) := by
  have hc : c = .slice none 0 0 := h
  subst hc
  exact ⟨none, 0, rfl, Nat.le_refl _, by simp [maxLen], by simp, fun h => absurd h (by omega)⟩
theorem nil34 {a b e : Int} {X : AV} {r : Res} (h : Ok Try.prog 34 [iA a, iA b, rowI [], X, iA e] r) : Ok Try.prog 34 [iA a, iA b, .sc (.slice none 0 0), X, iA e] r :=
  h.args fun pr w cs hV => by
    obtain ⟨c0, _, rfl, h0, c1, _, rfl, h1, c2, _, rfl, h2, h3⟩ := hV
    exact ⟨c0, _, rfl, h0, c1, _, rfl, h1, c2, _, rfl, nil_V h2, h3⟩
theorem nil34o {a b e : Int} {A : AV} {r : Res} (h : Ok Try.prog 34 [iA a, iA b, A, outA [] 0, iA e] r) : Ok Try.prog 34 [iA a, iA b, A, .sc (.agg #[.slice none 0 0, .int .i64 0]), iA e] r :=
  h.args fun pr w cs hV => by
    obtain ⟨c0, _, rfl, h0, c1, _, rfl, h1, c2, _, rfl, h2, c3, _, rfl, h3, h4⟩ := hV
    have hc : c3 = .agg #[.slice none 0 0, .int .i64 0] := h3
    subst hc
    exact ⟨c0, _, rfl, h0, c1, _, rfl, h1, c2, _, rfl, h2, _, _, rfl, ⟨[.slice none 0 0, .int .i64 0], rfl, fun u hu => by simp at hu; rcases hu with rfl | rfl <;> rfl, _, _, rfl, nil_V rfl, _, _, rfl, rfl, rfl⟩, h4⟩
theorem law7 (l h : List Int) (p q : Int) (hl : l.length ≤ 90000000) (hw : I64s l) (hlh : h.length ≤ 90000000) (hwh : I64s h) (hp : I64 p) (hq : I64 q) : Ok Try.prog 7 [rowI l, rowI h, iA p, iA q] (plainR (bA true)) := by
  have h31 := ok31 h (by omega) hwh
  have hle := evsOf'_le h
  have hev := evsOf'_ok h (min h.length 9)
  have hgen := evsB_gen h (min h.length 9)
  have hen := atZ_rng h 0 3 (by omega)
  generalize evsOf' h (min h.length 9) = oes at *
  generalize atZ h 0 3 = oen at *
  have v0 := aroundZ_nonneg p 32 (by omega)
  have v1 := aroundZ_lt p 32 (by omega)
  have h19 := ok19 p 32 (by omega) (by omega) hp
  have k0 := aroundZ_nonneg q ((oes.length + 1 : Nat) : Int) (by omega)
  have k1 := aroundZ_lt q ((oes.length + 1 : Nat) : Int) (by omega)
  have h19k := ok19 q ((oes.length + 1 : Nat) : Int) (by omega) (by omega) hq
  generalize aroundZ p 32 = v at *
  obtain ⟨k, hk⟩ : ∃ k : Nat, aroundZ q ((oes.length + 1 : Nat) : Int) = k := ⟨(aroundZ q ((oes.length + 1 : Nat) : Int)).toNat, by omega⟩
  rw [hk] at h19k k1
  obtain ⟨en2, hen2⟩ : ∃ e, (oen + 1).tmod 3 = e := ⟨_, rfl⟩
  obtain ⟨v2, hv2⟩ : ∃ e, (v + 1).tmod 32 = e := ⟨_, rfl⟩
  have een : en2 = (oen + 1) % 3 := by rw [← hen2]; exact Int.tmod_eq_emod_of_nonneg (by omega)
  have ev2 : v2 = (v + 1) % 32 := by rw [← hv2]; exact Int.tmod_eq_emod_of_nonneg (by omega)
  have hkl : k ≤ oes.length := by omega
  obtain ⟨ra, hra⟩ : ∃ ra : Rp, ra = ⟨3, v, [], oes.take k, true, 0⟩ := ⟨_, rfl⟩
  obtain ⟨rb, hrb⟩ : ∃ rb : Rp, rb = ⟨1, v, [], oes, false, oen⟩ := ⟨_, rfl⟩
  obtain ⟨rc, hrc⟩ : ∃ rc : Rp, rc = ⟨2, v, [], oes, false, en2⟩ := ⟨_, rfl⟩
  obtain ⟨rd, hrd⟩ : ∃ rd : Rp, rd = ⟨4, v2, [], [], false, 0⟩ := ⟨_, rfl⟩
  have ca : cutRef 3 v [] oes oen (k : Int) = ra := by unfold cutRef; rw [if_pos ⟨by omega, by omega⟩, hra]; simp
  have cb : cutRef 1 v [] oes oen (-1) = rb := by unfold cutRef; rw [if_neg (by omega), hrb]
  have cc : cutRef 2 v [] oes en2 (-1) = rc := by unfold cutRef; rw [if_neg (by omega), hrc]
  have cd : cutRef 4 v2 [] [] 0 (-1) = rd := by unfold cutRef; rw [if_neg (by omega), hrd]
  have nil64 : I64s ([] : List Int) := fun x hx => by cases hx
  have vld : ∀ (id ver en ev : Int) (es : List Ev), 1 ≤ id ∧ id ≤ 4 → 0 ≤ ver ∧ ver ≤ 31 → 0 ≤ en ∧ en ≤ 2 → es.length ≤ 8 → evsB es = true → (∀ e ∈ es, EvOk e) → validB (cutRef id ver [] es en ev) = true ∧ Fit (cutRef id ver [] es en ev) := fun id ver en ev es h1 h2 h3 h4 h5 h6 =>
    ⟨valid_cut ⟨by omega, by omega⟩ h2 (by simp) rfl (by omega) h5 h3, (sz_cut (na := 0) (ne := 8) (i64_small (by omega) (by omega)) (i64_small (by omega) (by omega)) (i64_small (by omega) (by omega)) nil64 h6 (by simp) h4).fit (by omega) (by omega)⟩
  have va := vld 3 v oen k oes ⟨by omega, by omega⟩ ⟨by omega, by omega⟩ ⟨by omega, by omega⟩ hle hgen hev
  have vb := vld 1 v oen (-1) oes ⟨by omega, by omega⟩ ⟨by omega, by omega⟩ ⟨by omega, by omega⟩ hle hgen hev
  have vc := vld 2 v en2 (-1) oes ⟨by omega, by omega⟩ ⟨by omega, by omega⟩ ⟨by omega, by omega⟩ hle hgen hev
  have vd := vld 4 v2 0 (-1) [] ⟨by omega, by omega⟩ ⟨by omega, by omega⟩ ⟨by omega, by omega⟩ (by simp) rfl (fun e he => by cases he)
  rw [ca] at va; rw [cb] at vb; rw [cc] at vc; rw [cd] at vd
  have ida : ra.id = 3 := by rw [hra]
  have idb : rb.id = 1 := by rw [hrb]
  have idc : rc.id = 2 := by rw [hrc]
  have idd : rd.id = 4 := by rw [hrd]
  have f1 : foldR [ra, rb, rd] = [rb, ra, rd] := by
    refine fold_of (by simp [Srt, ida, idb, idd]) ?_
    have := firsts_nodup [ra, rb, rd] [] (fun x hx => by simp at hx; rcases hx with rfl | rfl | rfl; exact va.1; exact vb.1; exact vd.1) (by simp [ida, idb, idd])
    unfold firsts; rw [this]
    exact List.Perm.swap _ _ _
  have f2 : foldR [rc, rb, ra, rd] = [rb, rc, ra, rd] := by
    refine fold_of (by simp [Srt, ida, idb, idc, idd]) ?_
    have := firsts_nodup [rc, rb, ra, rd] [] (fun x hx => by simp at hx; rcases hx with rfl | rfl | rfl | rfl; exact vc.1; exact vb.1; exact va.1; exact vd.1) (by simp [ida, idb, idc, idd])
    unfold firsts; rw [this]
    exact List.Perm.swap _ _ _
  have agA : ∀ en, agrR ra oes en = true := fun en => by
    rw [hra]; unfold agrR begB
    rw [decide_eq_true (List.take_prefix k oes)]; rfl
  have agB : agrR rb oes oen = true := by rw [hrb]; unfold agrR begB; rw [decide_eq_true List.prefix_rfl]; simp
  have agC : agrR rc oes en2 = true := by rw [hrc]; unfold agrR begB; rw [decide_eq_true List.prefix_rfl]; simp
  have verA : ra.ver = v := by rw [hra]
  have verB : rb.ver = v := by rw [hrb]
  have verC : rc.ver = v := by rw [hrc]
  have verD : rd.ver = v2 := by rw [hrd]
  have hvv : v2 ≠ v := by omega
  have cbc : contrB rb rc = true := by
    rw [← contr_eq, hrb, hrc]
    unfold contrR
    have : eqI ([] : List Int) [] = true := rfl
    simp only [this]
    simp [agrR, begB]
    omega
  have ccb : contrB rc rb = true := by
    rw [← contr_eq, hrb, hrc]
    unfold contrR
    have : eqI ([] : List Int) [] = true := rfl
    simp only [this]
    simp [agrR, begB]
    omega
  have xab := no_contr (agA oen) agB
  have xba := no_contr agB (agA oen)
  have xac := no_contr (agA en2) agC
  have xca := no_contr agC (agA en2)
  have dA : contrB rd ra = false := contr_ver (by rw [verD, verA]; exact hvv)
  have dB : contrB rd rb = false := contr_ver (by rw [verD, verB]; exact hvv)
  have dC : contrB rd rc = false := contr_ver (by rw [verD, verC]; exact hvv)
  have Ad : contrB ra rd = false := contr_ver (by rw [verD, verA]; exact hvv.symm)
  have Bd : contrB rb rd = false := contr_ver (by rw [verD, verB]; exact hvv.symm)
  have Cd : contrB rc rd = false := contr_ver (by rw [verD, verC]; exact hvv.symm)
  have w1 : wrongR contrB [rb, ra, rd] = [] := wrong_none fun x hx y hy => by
    simp at hx hy
    rcases hx with rfl | rfl | rfl <;> rcases hy with rfl | rfl | rfl <;> first | exact contr_self _ | assumption
  have w2 : wrongR contrB [rb, rc, ra, rd] = [1, 2] := by
    unfold wrongR
    simp [List.filter_cons, contr_self, cbc, ccb, xab, xba, xac, xca, dA, dB, dC, Ad, Bd, Cd, idb, idc]
  have h26a := ok26 [ra, rb, rd] (by simp) (fun r hr => by simp at hr; rcases hr with rfl | rfl | rfl; exact va.2; exact vb.2; exact vd.2)
  have h26b := ok26 [rc, rb, ra, rd] (by simp) (fun r hr => by simp at hr; rcases hr with rfl | rfl | rfl | rfl; exact vc.2; exact vb.2; exact va.2; exact vd.2)
  rw [f1, w1] at h26a
  rw [f2, w2] at h26b
  have m34 : ∀ (id ver en ev : Int) (es : List Ev), es.length ≤ 8 → Ok Try.prog 34 [iA id, iA ver, .sc (.slice none 0 0), outA es en, iA ev] (plainR (rpA (cutRef id ver [] es en ev))) := fun id ver en ev es he => nil34 (ok34 id ver en ev [] es (by simp) (by omega))
  have ma := m34 3 v oen k oes hle
  have mb := m34 1 v oen (-1) oes hle
  have mc := m34 2 v en2 (-1) oes hle
  have md := nil34o (m34 4 v2 0 (-1) [] (by simp))
  rw [ca] at ma; rw [cb] at mb; rw [cc] at mc; rw [cd] at md
  exact law7_any l h p q hl hw oes oen v en2 v2 k ra rb rc rd _ _ _ _ (by omega) ⟨by omega, by omega⟩ ⟨by omega, by omega⟩ hen2 ⟨by omega, by omega⟩ hv2 ⟨by omega, by omega⟩ h31 h19 h19k ma mb mc md h26a h26b rfl rfl rfl (ok30 [1, 2] [1, 2] (by simp) (by simp))
    fun bs hbs => by
      rw [wrong_none fun x hx y hy => no_contr (hbs x (fold_mem hx).1) (hbs y (fold_mem hy).1)]; rfl

set_option maxRecDepth 100000 in
theorem reportContradicts_contract (H : Type) (enc : TypeId × Value → H) (W : World) (base : Nat) (args : Array Value) (ds gs : List (DataW H)) (before : List MemPlace)
    (hval : ∀ (j : Nat) t v, Try.f7.params[j]? = some t → args[j]? = some v → Value.okWide Try.prog W .any base t v)
    (hW : DataW.Whole enc Try.prog Try.f7.params.toList Rows.reportContradictsSpec.vars false W args.toList ds gs before) (hk : Rows.uptoSmall H (ds ++ gs) = true) :
    Calls Try.prog 7 args W fun e W' => ∃ v, e = .returned v ∧ Rows.reportContradictsSpec.post enc Try.prog Try.f7 false true false false W args v W' := by
  have hW' := hW
  obtain ⟨p, q, hA0, hV, rfl, hfz, hnd⟩ := hW
  have hA : DataW.TrodAll enc Try.prog W 0 (fun _ => true) true Try.f7.params.toList args.toList ds p := hA0
  rw [Try.params7] at hA hval
  obtain ⟨v0, vs0, d0, ds0, p0, q0, hargs, rfl, rfl, h0, r0⟩ := trodAll_cons hA
  obtain ⟨v1, vs1, d1, ds1, p1, q1, rfl, rfl, rfl, h1, r1⟩ := trodAll_cons r0
  obtain ⟨v2, vs2, d2, ds2, p2, q2, rfl, rfl, rfl, h2, r2⟩ := trodAll_cons r1
  obtain ⟨v3, vs3, d3, ds3, p3, q3, rfl, rfl, rfl, h3, r3⟩ := trodAll_cons r2
  obtain ⟨rfl, rfl, rfl⟩ := trodAll_nil r3
  obtain rfl : args = #[v0, v1, v2, v3] := by cases args; simp_all
  obtain ⟨rfl, rfl⟩ := trodVars_none hV
  obtain ⟨a2, rfl, rfl, rfl, w2⟩ := open_int Try.underlying3 (hval 2 3 v2 rfl rfl) h2
  obtain ⟨a3, rfl, rfl, rfl, w3⟩ := open_int Try.underlying3 (hval 3 3 v3 rfl rfl) h3
  clear hA0
  simp only [List.append_nil, List.nil_append] at hW' hk
  have hlt0 : ∀ x ∈ p0, x.block < W.heap.size := fun x hx => hW'.lt x (by simp [hx])
  obtain ⟨l0, hV0, hw0, hb0⟩ := open22 (okWide_slice Try.underlying22 (hval 0 22 v0 rfl rfl)) h0 hlt0
  have hlt1 : ∀ x ∈ p1, x.block < W.heap.size := fun x hx => hW'.lt x (by simp [hx])
  obtain ⟨l1, hV1, hw1, hb1⟩ := open22 (okWide_slice Try.underlying22 (hval 1 22 v1 rfl rfl)) h1 hlt1
  have hbulk : Rows.uptoBulkAll (H := H) [d0, d1, .lit (.int .i64 a2), .lit (.int .i64 a3)] ≤ 1048576 := bound_of hk
  simp only [Rows.uptoBulkAll] at hbulk
  have hcall := (law7 l0 l1 a2 a3 (by omega) hw0 (by omega) hw1 (wf_I64 w2) (wf_I64 w3)).2 W (pr0 W) [v0, v1, .int .i64 a2, .int .i64 a3] (pr0_lt W) ⟨_, _, rfl, hV0, _, _, rfl, hV1, _, _, rfl, rfl, _, _, rfl, rfl, rfl⟩
  refine hcall.mono ?_
  rintro e W' ⟨v, pr', rfl, hbel, _, _, hres, _⟩
  have hv : v = .bool true := hres
  subst hv
  refine ⟨_, rfl, _, _, _, [], (p0 ++ (p1 ++ ([] ++ ([] ++ [])))), [], hW', ?_, ?_, rfl, hbel.frame _, fun h => by cases h⟩
  · show DataW.TrodAll enc Try.prog W' _ _ false [4] [.bool true] [.lit (.bool true)] []
    exact trodAll_cons_mk (p := []) (p' := []) (shut_bool Try.underlying4 _) trodAll_mk0
  · show DataW.TrodAll enc Try.prog W' 0 _ true [22, 22, 3, 3] [v0, v1, .int .i64 a2, .int .i64 a3] [d0, d1, .lit (.int .i64 a2), .lit (.int .i64 a3)] _
    exact trodAll_cons_mk (keep22 h0 hbel hlt0) (trodAll_cons_mk (keep22 h1 hbel hlt1) (trodAll_cons_mk (shut_int Try.underlying3 w2) (trodAll_cons_mk (shut_int Try.underlying3 w3) (trodAll_mk0))))

set_option maxRecDepth 100000 in
theorem reportContradicts_lifted (os : Os) (started : os.Started) (H : Type) (enc : TypeId × Value → H) (F : Stop.Interp) :
    ReturnsInHanded {} Try.checked os 7 .any ((Rows.OpenSpec.upto Rows.reportContradictsSpec).pre6 enc Try.prog Try.f7 Rows.reportContradictsUptoRow.domain false) (((Rows.OpenSpec.upto Rows.reportContradictsSpec).at F).post enc Try.prog Try.f7 false true false false) := by
  refine returnsInHanded_of_cond (C := Try.checked) (s := Rows.OpenSpec.upto Rows.reportContradictsSpec) (k := Rows.uptoSmall) rfl own0 started (by kernel_rfl) Try.func7
    (OpenSpec.witness (enc := enc) (C := Try.checked) (s := Rows.OpenSpec.upto Rows.reportContradictsSpec) (k := Rows.uptoSmall) rfl false ⟨#[], #[.slice none 0 0, .slice none 0 0, .int .i64 0, .int .i64 0], []⟩ 8 (by kernel_rfl) (by kernel_rfl) (by kernel_rfl)
      (x := ([.nil, .nil, .lit (.int .i64 0), .lit (.int .i64 0)], [], [])) (by kernel_rfl) rfl (by kernel_rfl)) ?_
  intro W base args ds gs before hval hW _ hk _
  exact reportContradicts_contract H enc W base args ds gs before hval hW hk
theorem reportContradictsUpto_proved : Rows.ReportContradictsUptoSaid :=
  OpenClaim.holds_of_cond 7 Try.f7 rfl rfl rfl rfl rfl rfl rfl ⟨rfl, rfl, rfl, rfl, rfl⟩ rfl rfl rfl rfl rfl (by kernel_rfl) Try.func7 (by kernel_rfl)
    (of_decide_eq_true (by kernel_rfl)) (by unfold Func.isWrapper; first | (rw [if_pos (by decide +kernel)]; kernel_rfl) | (rw [if_neg (by decide +kernel)]; exact ⟨rfl, rfl⟩))
    (fun os started H enc _ F => reportContradicts_lifted os started H enc F)
end Go.Proofs.Ytlekojbcaelpiaa
