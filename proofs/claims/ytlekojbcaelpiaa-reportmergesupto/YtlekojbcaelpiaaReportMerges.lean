/- ReportMerges returns true, for all inputs of bulk at most 1048576. -/
import Derived.Test.YtlekojbcaelpiaaBa5
set_option linter.unusedVariables false
set_option linter.unusedSimpArgs false

/- Facts for ReportMerges: rows of numbers, sums that wrap, lists merged twice. -/
namespace Go.Proofs.Ytlekojbcaelpiaa
open Go.RowKit
theorem idxI {tok : Option (Nat × Nat)} {l : List Int} {k : Nat} {x : Int} (hx : l[k]? = some x) : cmdIndexAddr Try.prog 22 (.row tok 1 l.length (l.map iA)) (iA k) = some (.val (.rptr (iA x :: (l.drop (k + 1)).map iA))) := by
  have h := el22.idx (tok := tok) (n := l.length) (k := k) (xs := l.map iA) (List.getElem?_eq_some_iff.1 hx).1
  rw [h, Nat.mul_one, ← List.map_drop, drop_at hx, List.map_cons]
theorem hAddW (t : TypeId) (x y : Operand) (a b c : Int) (h : IntKind.i64.wrap (a + b) = c) : pB .add t x y (.int .i64 a) (.int .i64 b) (iA c) := by
  subst h
  have e : (peek Try.prog (do eqGuard .add t x y (.int .i64 a) (.int .i64 b); binOp .add t (.int .i64 a) (.int .i64 b))).map (fun v => Cmd.val (.sc v)) = some (.val (iA (IntKind.i64.wrap (a + b)))) := rfl
  exact e
theorem wrap_I64 (n : Int) : I64 (IntKind.i64.wrap n) := by rw [IntKind.wrap_i64]; constructor <;> omega
theorem tmod3 (y : Int) : I64 (y.tmod 3) := by
  have h1 := Int.tmod_lt_of_pos y (b := 3) (by omega)
  have h2 : -3 < y.tmod 3 := Int.lt_tmod_of_pos y (by omega)
  exact ⟨by omega, by omega⟩
theorem sameR_refl (r : Rp) : sameR r r = true := eqI_refl _
theorem samesB_refl (l : List Rp) : samesB l l = true := by
  rw [samesB_iff]
  refine ⟨rfl, fun k x y hx hy => ?_⟩
  rw [hx] at hy; cases hy; exact sameR_refl x
theorem wrongR_len (con : Rp → Rp → Bool) (l : List Rp) : (wrongR con l).length ≤ l.length := by
  unfold wrongR; rw [List.length_map]; exact List.length_filter_le _ _
theorem dbl_len (l : List Rp) : (l.reverse.flatMap fun x => [x, x]).length = 2 * l.length := by
  have h : ∀ l : List Rp, (l.flatMap fun x => [x, x]).length = 2 * l.length := fun l => by
    induction l with
    | nil => rfl
    | cons x l ih => rw [List.flatMap_cons, List.length_append, ih]; simp; omega
  rw [h, List.length_reverse]
/-- both ways to say that a report fits an outcome -/
theorem agrees_eq (r : Rp) (es : List Ev) (en : Int) : agreesB r es en = agrR r es en := by
  unfold agreesB agrR begB sameOut eqE
  have hp : r.events <+: es ↔ r.events.length ≤ es.length ∧ r.events = es.take r.events.length := by
    constructor
    · intro h; exact ⟨h.length_le, (List.prefix_iff_eq_take.1 h)⟩
    · intro h; exact List.prefix_iff_eq_take.2 h.2
  cases hc : r.cut with
  | true =>
    simp only [if_true, Bool.true_or, Bool.and_true]
    rw [Bool.eq_iff_iff]
    simp only [Bool.and_eq_true, decide_eq_true_eq]
    exact hp.symm
  | false =>
    simp only [Bool.false_eq_true, if_false, Bool.false_or]
    rw [Bool.eq_iff_iff]
    simp only [Bool.and_eq_true, decide_eq_true_eq]
    constructor
    · rintro ⟨h1, h2⟩
      exact ⟨by rw [h1]; exact List.prefix_rfl, by rw [h1], h2.symm⟩
    · rintro ⟨h1, h2, h3⟩
      exact ⟨h1.eq_of_length h2.symm, h3.symm⟩
theorem take_min {a b : List Ev} : a.take (min a.length b.length) = b.take (min a.length b.length) ↔ a <+: b ∨ b <+: a := by
  constructor
  · intro h
    rcases Nat.le_total a.length b.length with hl | hl
    · rw [Nat.min_eq_left hl, List.take_length] at h
      exact .inl (by rw [h]; exact List.take_prefix _ _)
    · rw [Nat.min_eq_right hl, List.take_length] at h
      exact .inr (by rw [← h]; exact List.take_prefix _ _)
  · rintro (h | h)
    · have hl := h.length_le
      rw [Nat.min_eq_left hl, List.take_length]
      exact List.prefix_iff_eq_take.1 h
    · have hl := h.length_le
      rw [Nat.min_eq_right hl, List.take_length]
      exact (List.prefix_iff_eq_take.1 h).symm
theorem contr_eq : contrR = contrB := by
  funext a b
  unfold contrR contrB
  rw [agrees_eq, agrees_eq]
  split
  · rfl
  split
  · rfl
  split
  · unfold begB eqE
    rw [Bool.eq_iff_iff]
    simp only [Bool.and_eq_true, Bool.not_eq_true', decide_eq_false_iff_not, take_min]
    constructor
    · rintro ⟨h1, h2⟩ (h | h)
      · exact h2 h
      · exact h1 h
    · intro h; exact ⟨fun h1 => h (.inr h1), fun h1 => h (.inl h1)⟩
  · rfl
/-- what is sorted, valid and of different numbers is merged into itself -/
theorem fold_of {l c : List Rp} (hs : Srt c) (h : (firsts l).Perm c) : foldR l = c := srt_eq (fold_perm l).1 hs ((fold_perm l).2.trans h)
theorem firsts_nodup : ∀ (d acc : List Rp), (∀ x ∈ d, validB x = true) → ((acc ++ d).map (·.id)).Nodup → d.foldl stepM acc = acc ++ d
  | [], acc, _, _ => by simp
  | x :: d, acc, hv, hn => by
    have hx : x.id ∉ acc.map (·.id) := fun h => by
      rw [List.map_append, List.map_cons, List.nodup_append] at hn
      exact hn.2.2 _ h _ (by simp) rfl
    rw [List.foldl_cons]
    have e : stepM acc x = acc ++ [x] := by unfold stepM; rw [if_pos ⟨hv x (by simp), hx⟩]
    rw [e, firsts_nodup d (acc ++ [x]) (fun y hy => hv y (by simp [hy])) (by simpa using hn)]
    simp
theorem firsts_dbl : ∀ (d acc : List Rp), (∀ x ∈ d, validB x = true) → ((acc ++ d).map (·.id)).Nodup → (d.flatMap fun x => [x, x]).foldl stepM acc = acc ++ d
  | [], acc, _, _ => by simp
  | x :: d, acc, hv, hn => by
    have hx : x.id ∉ acc.map (·.id) := fun h => by
      rw [List.map_append, List.map_cons, List.nodup_append] at hn
      exact hn.2.2 _ h _ (by simp) rfl
    rw [List.flatMap_cons, List.foldl_append, List.foldl_cons, List.foldl_cons, List.foldl_nil]
    have e : stepM acc x = acc ++ [x] := by unfold stepM; rw [if_pos ⟨hv x (by simp), hx⟩]
    have e2 : stepM (acc ++ [x]) x = acc ++ [x] := by unfold stepM; rw [if_neg (fun h => h.2 (by simp))]
    rw [e, e2, firsts_dbl d (acc ++ [x]) (fun y hy => hv y (by simp [hy])) (by simpa using hn)]
    simp
theorem srt_nodup {c : List Rp} (h : Srt c) : (c.map (·.id)).Nodup := by
  rw [List.nodup_iff_pairwise_ne, List.pairwise_map]
  exact h.imp fun h => by omega
theorem fold_fold (l : List Rp) : foldR (foldR l) = foldR l := by
  refine fold_of (fold_perm l).1 ?_
  have := firsts_nodup (foldR l) [] (fun x hx => (fold_mem hx).2) (by simpa using srt_nodup (fold_perm l).1)
  unfold firsts
  rw [this]; simp
theorem fold_back (l : List Rp) : foldR ((foldR l).reverse.flatMap fun x => [x, x]) = foldR l := by
  refine fold_of (fold_perm l).1 ?_
  have := firsts_dbl (foldR l).reverse [] (fun x hx => (fold_mem (by simpa using hx)).2) (by
    rw [List.nil_append, List.map_reverse]; exact (List.reverse_perm _).nodup_iff.2 (srt_nodup (fold_perm l).1))
  unfold firsts
  rw [this]; simp
end Go.Proofs.Ytlekojbcaelpiaa

/- ReportMerges: the walk. -/
namespace Go.Proofs.Ytlekojbcaelpiaa
open Go.RowKit
noncomputable abbrev C5 : Code := bodyOf Try.f5
noncomputable abbrev T5 : Code := post 2 C5
noncomputable abbrev K5 : Code := fK T5
noncomputable abbrev T5b : Code := post 4 K5
def st5 (h : List Int) (p q : Int) (i n : Nat) (cs : List AV) : St := { n := 149, slots := [(1, rowI h), (2, iA (p)), (3, iA (q)), (9, .row (some (23, 25)) 6 (n) (cs)), (10, iA ((i : Nat) : Int))], objs := [], lens := [(23, n * 6)] }
noncomputable def s5a (l h : List Int) (p q : Int) : St := stOf (runCode Try.prog (orcC [(23, ownR 25 (allR l))] []) (liveOf 5) 0 (Ytlekojbcaelpiaa.pre 2 C5) (start [rowI l, rowI h, iA p, iA q] 149))
def st5z (l h : List Int) (p q : Int) : St := { n := 149, slots := [(1, rowI h), (2, iA (p)), (3, iA (q)), (9, .row (some (23, 25)) 6 ((allR l).length) (rpsA (allR l)))], objs := [], lens := [(23, (allR l).length * 6)] }
noncomputable def s5b (l h : List Int) (p q : Int) : St := stOf (runCode Try.prog (orc []) (liveOf 5) 0 (fR T5) (st5z l h p q))
def st5m (lz : List Rp) : St := { n := 149, slots := [(9, rowR lz)], objs := [], lens := [] }
def st5n (c : List Rp) (w : List Int) : St := { n := 149, slots := [(12, rowR c), (13, rowI w), (14, rowR c), (15, rowI w), (16, rowR c), (17, rowI w), (18, .sc (.slice none 0 0))], objs := [], lens := [] }
noncomputable def s5c (c : List Rp) (w : List Int) : St := { st5n c w with slots := (18, .row (some (110, 25)) 6 0 []) :: (st5n c w).slots, lens := (110, 0) :: (st5n c w).lens }
noncomputable def s5d (c : List Rp) (w : List Int) : St := stOf (runCode Try.prog (orc []) (liveOf 5) 0 (fR T5b) (s5c c w))
def st5o (c : List Rp) (w : List Int) (i n : Nat) (cs : List AV) : St := { n := 149, slots := [(12, rowR c), (13, rowI w), (14, rowR c), (15, rowI w), (16, rowR c), (17, rowI w), (18, .row (some (110, 25)) 6 (n) (cs)), (19, iA ((i : Nat) : Int))], objs := [], lens := [(110, n * 6)] }
def st5p (c bs : List Rp) (w : List Int) : St := { n := 149, slots := [(12, rowR c), (13, rowI w), (14, rowR c), (15, rowI w), (16, rowR c), (17, rowI w), (18, rowR bs)], objs := [], lens := [] }
theorem m5_round {h : List Int} {p q : Int} {i : Nat} {lz : List Rp} {y : Int} {x : Rp} {k : Nat} (hy : h[i]? = some y) (hx : lz[k]? = some x) (hk : aroundZ y lz.length = k) (hwy : I64 y) (hi : i < 5) (ha : lz.length ≤ 1000) (hlh : h.length ≤ 100000000)
    (hla : x.args.length ≤ 1000000) (hle : x.events.length ≤ 1000000) {Q : Out → Prop}
    (q1 : ∀ z s', (z = x ∨ z = spoiltR x (IntKind.i64.wrap (p + i)) (IntKind.i64.wrap (q + y))) → clean [1, 2, 3, 9, 10] [23] s' = st5 h p q (i + 1) (lz ++ [z]).length (rpsA (lz ++ [z])) → Q (.go s')) : Judg (fB T5) (st5 h p q i lz.length (rpsA lz)) Q := by
  have hil : i < h.length := (List.getElem?_eq_some_iff.1 hy).1
  have hkl : k < lz.length := (List.getElem?_eq_some_iff.1 hx).1
  have h19 := ok19 y lz.length (by omega) (by omega) hwy
  rw [hk] at h19
  obtain ⟨pw, hpw⟩ : ∃ pw, IntKind.i64.wrap (p + i) = pw := ⟨_, rfl⟩
  obtain ⟨qw, hqw⟩ : ∃ qw, IntKind.i64.wrap (q + y) = qw := ⟨_, rfl⟩
  have hlen : ∀ z : Rp, (lz ++ [z]).length = lz.length + 1 := fun z => by simp
  have hrps : ∀ z : Rp, rpsA (lz ++ [z]) = rpsA lz ++ rpC z := fun z => by rw [rpsA_append]; simp [rpsA]
  by_cases hm : y.tmod 3 = 0
  · have hq := q1 x
    rw [hlen, hrps] at hq
    exact Judg.run' 5 (orcC [(46, plainR (iA ((k : Nat) : Int)))] [(27, .val (bA true)), (30, .val (bA true)), (35, .val (bA true)), (42, .val (.rptr (iA (y) :: (h.drop (i + 1)).map iA))), (47, .val (.rptr (iA (x.id) :: iA (x.ver) :: rowI x.args :: rowE x.events :: bA (x.cut) :: iA (x.en) :: rpsA (lz.drop (k + 1))))), (51, .val (.rptr (iA (y) :: (h.drop (i + 1)).map iA))), (53, .val (iA (y.tmod 3))), (54, .val (bA false)), (69, .grow 23 25 6 (lz.length) (rpsA lz) (1) ([iA (x.id), iA (x.ver), rowI x.args, rowE x.events, bA (x.cut), iA (x.en)])), (38, .val (iA ((i + 1 : Nat) : Int)))]) (.go (stOf (runCode Try.prog (orcC [(46, plainR (iA ((k : Nat) : Int)))] [(27, .val (bA true)), (30, .val (bA true)), (35, .val (bA true)), (42, .val (.rptr (iA (y) :: (h.drop (i + 1)).map iA))), (47, .val (.rptr (iA (x.id) :: iA (x.ver) :: rowI x.args :: rowE x.events :: bA (x.cut) :: iA (x.en) :: rpsA (lz.drop (k + 1))))), (51, .val (.rptr (iA (y) :: (h.drop (i + 1)).map iA))), (53, .val (iA (y.tmod 3))), (54, .val (bA false)), (69, .grow 23 25 6 (lz.length) (rpsA lz) (1) ([iA (x.id), iA (x.ver), rowI x.args, rowE x.events, bA (x.cut), iA (x.en)])), (38, .val (iA ((i + 1 : Nat) : Int)))]) (liveOf 5) 0 (fB T5) (st5 h p q i lz.length (rpsA lz))))) [pB .add 3 (.tmp 37) (.const (.int .i64 1)) (.int .i64 ((i : Nat) : Int)) (.int .i64 (1)) (iA ((i + 1 : Nat) : Int)), cmdAppend Try.prog 28 28 (.row (some (23, 25)) 6 (lz.length) (rpsA lz)) (.row (some (68, 25)) 6 (1) ([iA (x.id), iA (x.ver), rowI x.args, rowE x.events, bA (x.cut), iA (x.en)])) = some (.grow 23 25 6 (lz.length) (rpsA lz) (1) ([iA (x.id), iA (x.ver), rowI x.args, rowE x.events, bA (x.cut), iA (x.en)])), lz.length * 6 = lz.length * 6, pB .neq 3 (.tmp 53) (.const (.int .i64 0)) (.int .i64 (y.tmod 3)) (.int .i64 (0)) (bA false), pB .rem 3 (.tmp 52) (.const (.int .i64 3)) (.int .i64 (y)) (.int .i64 (3)) (iA (y.tmod 3)), cmdIndexAddr Try.prog 22 (rowI h) (iA ((i : Nat) : Int)) = some (.val (.rptr (iA (y) :: (h.drop (i + 1)).map iA))), cmdIndexAddr Try.prog 28 (.row (some (23, 25)) 6 (lz.length) (rpsA lz)) (iA ((k : Nat) : Int)) = some (.val (.rptr (iA (x.id) :: iA (x.ver) :: rowI x.args :: rowE x.events :: bA (x.cut) :: iA (x.en) :: rpsA (lz.drop (k + 1))))), Ok Try.prog 19 [iA (y), iA ((lz.length : Nat) : Int)] (plainR (iA ((k : Nat) : Int))), cmdIndexAddr Try.prog 22 (rowI h) (iA ((i : Nat) : Int)) = some (.val (.rptr (iA (y) :: (h.drop (i + 1)).map iA))), pB .gtr 3 (.tmp 34) (.const (.int .i64 0)) (.int .i64 ((lz.length : Nat) : Int)) (.int .i64 (0)) (bA true), pB .lss 3 (.tmp 29) (.const (.int .i64 5)) (.int .i64 ((i : Nat) : Int)) (.int .i64 (5)) (bA true), pB .lss 3 (.tmp 24) (.tmp 26) (.int .i64 ((i : Nat) : Int)) (.int .i64 ((h.length : Nat) : Int)) (bA true)] (by kernel_rfl) (by kernel_rfl) (allc (hAdd _ _ _ _ _ _ (by simp) ⟨by omega, by omega⟩) (allc (el28.grow (rowOf_row _ _ _ _) (fits_of (by omega) (by omega))) (allc (rfl) (allc (hNeq _ _ _ _ _ _ (by rw [bne_eq_false_iff_eq]; exact hm)) (allc (hRem _ _ _ _ _ _ (by omega) rfl (tmod3 y)) (allc (idxI hy) (allc (el28.idxR hx) (allc (h19) (allc (idxI hy) (allc (hGtr _ _ _ _ _ _ (decide_eq_true (by omega))) (allc (hLss _ _ _ _ _ _ (decide_eq_true (by omega))) (allc (hLss _ _ _ _ _ _ (decide_eq_true (by omega))) allnil)))))))))))) (hq _ (.inl rfl) (by kernel_rfl))
  · obtain ⟨z, hz⟩ : ∃ z, spoiltR x pw qw = z := ⟨_, rfl⟩
    have h9 := ok9 x pw qw (by rw [← hpw]; exact wrap_I64 _) (by rw [← hqw]; exact wrap_I64 _) hla hle
    rw [hz] at h9
    have hq := q1 z
    rw [hlen, hrps, hpw, hqw, hz] at hq
    exact Judg.run' 5 (orcC [(46, plainR (iA ((k : Nat) : Int))), (65, plainR (rpA z))] [(27, .val (bA true)), (30, .val (bA true)), (35, .val (bA true)), (42, .val (.rptr (iA (y) :: (h.drop (i + 1)).map iA))), (47, .val (.rptr (iA (x.id) :: iA (x.ver) :: rowI x.args :: rowE x.events :: bA (x.cut) :: iA (x.en) :: rpsA (lz.drop (k + 1))))), (51, .val (.rptr (iA (y) :: (h.drop (i + 1)).map iA))), (53, .val (iA (y.tmod 3))), (54, .val (bA true)), (58, .val (iA (pw))), (62, .val (.rptr (iA (y) :: (h.drop (i + 1)).map iA))), (64, .val (iA (qw))), (69, .grow 23 25 6 (lz.length) (rpsA lz) (1) ([iA (z.id), iA (z.ver), rowI z.args, rowE z.events, bA (z.cut), iA (z.en)])), (38, .val (iA ((i + 1 : Nat) : Int)))]) (.go (stOf (runCode Try.prog (orcC [(46, plainR (iA ((k : Nat) : Int))), (65, plainR (rpA z))] [(27, .val (bA true)), (30, .val (bA true)), (35, .val (bA true)), (42, .val (.rptr (iA (y) :: (h.drop (i + 1)).map iA))), (47, .val (.rptr (iA (x.id) :: iA (x.ver) :: rowI x.args :: rowE x.events :: bA (x.cut) :: iA (x.en) :: rpsA (lz.drop (k + 1))))), (51, .val (.rptr (iA (y) :: (h.drop (i + 1)).map iA))), (53, .val (iA (y.tmod 3))), (54, .val (bA true)), (58, .val (iA (pw))), (62, .val (.rptr (iA (y) :: (h.drop (i + 1)).map iA))), (64, .val (iA (qw))), (69, .grow 23 25 6 (lz.length) (rpsA lz) (1) ([iA (z.id), iA (z.ver), rowI z.args, rowE z.events, bA (z.cut), iA (z.en)])), (38, .val (iA ((i + 1 : Nat) : Int)))]) (liveOf 5) 0 (fB T5) (st5 h p q i lz.length (rpsA lz))))) [pB .add 3 (.tmp 37) (.const (.int .i64 1)) (.int .i64 ((i : Nat) : Int)) (.int .i64 (1)) (iA ((i + 1 : Nat) : Int)), cmdAppend Try.prog 28 28 (.row (some (23, 25)) 6 (lz.length) (rpsA lz)) (.row (some (68, 25)) 6 (1) ([iA (z.id), iA (z.ver), rowI z.args, rowE z.events, bA (z.cut), iA (z.en)])) = some (.grow 23 25 6 (lz.length) (rpsA lz) (1) ([iA (z.id), iA (z.ver), rowI z.args, rowE z.events, bA (z.cut), iA (z.en)])), lz.length * 6 = lz.length * 6, Ok Try.prog 9 [.agg [iA (x.id), iA (x.ver), rowI x.args, rowE x.events, bA (x.cut), iA (x.en)], iA (pw), iA (qw)] (plainR (rpA z)), pB .add 3 (.tmp 59) (.tmp 63) (.int .i64 (q)) (.int .i64 (y)) (iA (qw)), cmdIndexAddr Try.prog 22 (rowI h) (iA ((i : Nat) : Int)) = some (.val (.rptr (iA (y) :: (h.drop (i + 1)).map iA))), pB .add 3 (.tmp 56) (.tmp 57) (.int .i64 (p)) (.int .i64 ((i : Nat) : Int)) (iA (pw)), pB .neq 3 (.tmp 53) (.const (.int .i64 0)) (.int .i64 (y.tmod 3)) (.int .i64 (0)) (bA true), pB .rem 3 (.tmp 52) (.const (.int .i64 3)) (.int .i64 (y)) (.int .i64 (3)) (iA (y.tmod 3)), cmdIndexAddr Try.prog 22 (rowI h) (iA ((i : Nat) : Int)) = some (.val (.rptr (iA (y) :: (h.drop (i + 1)).map iA))), cmdIndexAddr Try.prog 28 (.row (some (23, 25)) 6 (lz.length) (rpsA lz)) (iA ((k : Nat) : Int)) = some (.val (.rptr (iA (x.id) :: iA (x.ver) :: rowI x.args :: rowE x.events :: bA (x.cut) :: iA (x.en) :: rpsA (lz.drop (k + 1))))), Ok Try.prog 19 [iA (y), iA ((lz.length : Nat) : Int)] (plainR (iA ((k : Nat) : Int))), cmdIndexAddr Try.prog 22 (rowI h) (iA ((i : Nat) : Int)) = some (.val (.rptr (iA (y) :: (h.drop (i + 1)).map iA))), pB .gtr 3 (.tmp 34) (.const (.int .i64 0)) (.int .i64 ((lz.length : Nat) : Int)) (.int .i64 (0)) (bA true), pB .lss 3 (.tmp 29) (.const (.int .i64 5)) (.int .i64 ((i : Nat) : Int)) (.int .i64 (5)) (bA true), pB .lss 3 (.tmp 24) (.tmp 26) (.int .i64 ((i : Nat) : Int)) (.int .i64 ((h.length : Nat) : Int)) (bA true)] (by kernel_rfl) (by kernel_rfl) (allc (hAdd _ _ _ _ _ _ (by simp) ⟨by omega, by omega⟩) (allc (el28.grow (rowOf_row _ _ _ _) (fits_of (by omega) (by omega))) (allc (rfl) (allc (h9) (allc (hAddW _ _ _ _ _ _ hqw) (allc (idxI hy) (allc (hAddW _ _ _ _ _ _ hpw) (allc (hNeq _ _ _ _ _ _ (by rw [bne_iff_ne]; exact hm)) (allc (hRem _ _ _ _ _ _ (by omega) rfl (tmod3 y)) (allc (idxI hy) (allc (el28.idxR hx) (allc (h19) (allc (idxI hy) (allc (hGtr _ _ _ _ _ _ (decide_eq_true (by omega))) (allc (hLss _ _ _ _ _ _ (decide_eq_true (by omega))) (allc (hLss _ _ _ _ _ _ (decide_eq_true (by omega))) allnil)))))))))))))))) (hq _ (.inr rfl) (by kernel_rfl))
theorem m5_turn {c : List Rp} {w : List Int} {i k n : Nat} {cs : List AV} {x : Rp} (hx : c[k]? = some x) (hk : k = c.length - 1 - i) (hi : i < c.length) (hc : c.length ≤ 1000) (hn : n ≤ 10000) {Q : Out → Prop}
    (q1 : ∀ s', clean [12, 13, 14, 15, 16, 17, 18, 19] [110] s' = st5o c w (i + 1) (n + 2) (cs ++ (rpC x ++ rpC x)) → Q (.go s')) : Judg (fB T5b) (st5o c w i n cs) Q := by
  exact Judg.run' 5 (orc [(89, .val (bA true)), (96, .val (iA ((c.length - 1 : Nat) : Int))), (98, .val (iA ((k : Nat) : Int))), (99, .val (.rptr (iA (x.id) :: iA (x.ver) :: rowI x.args :: rowE x.events :: bA (x.cut) :: iA (x.en) :: rpsA (c.drop (k + 1))))), (104, .val (iA ((c.length - 1 : Nat) : Int))), (106, .val (iA ((k : Nat) : Int))), (107, .val (.rptr (iA (x.id) :: iA (x.ver) :: rowI x.args :: rowE x.events :: bA (x.cut) :: iA (x.en) :: rpsA (c.drop (k + 1))))), (110, .grow 110 25 6 (n) (cs) (2) ([iA (x.id), iA (x.ver), rowI x.args, rowE x.events, bA (x.cut), iA (x.en), iA (x.id), iA (x.ver), rowI x.args, rowE x.events, bA (x.cut), iA (x.en)])), (91, .val (iA ((i + 1 : Nat) : Int)))]) (.go (stOf (runCode Try.prog (orc [(89, .val (bA true)), (96, .val (iA ((c.length - 1 : Nat) : Int))), (98, .val (iA ((k : Nat) : Int))), (99, .val (.rptr (iA (x.id) :: iA (x.ver) :: rowI x.args :: rowE x.events :: bA (x.cut) :: iA (x.en) :: rpsA (c.drop (k + 1))))), (104, .val (iA ((c.length - 1 : Nat) : Int))), (106, .val (iA ((k : Nat) : Int))), (107, .val (.rptr (iA (x.id) :: iA (x.ver) :: rowI x.args :: rowE x.events :: bA (x.cut) :: iA (x.en) :: rpsA (c.drop (k + 1))))), (110, .grow 110 25 6 (n) (cs) (2) ([iA (x.id), iA (x.ver), rowI x.args, rowE x.events, bA (x.cut), iA (x.en), iA (x.id), iA (x.ver), rowI x.args, rowE x.events, bA (x.cut), iA (x.en)])), (91, .val (iA ((i + 1 : Nat) : Int)))]) (liveOf 5) 0 (fB T5b) (st5o c w i n cs)))) [pB .add 3 (.tmp 90) (.const (.int .i64 1)) (.int .i64 ((i : Nat) : Int)) (.int .i64 (1)) (iA ((i + 1 : Nat) : Int)), cmdAppend Try.prog 28 28 (.row (some (110, 25)) 6 (n) (cs)) (.row (some (109, 25)) 6 (2) ([iA (x.id), iA (x.ver), rowI x.args, rowE x.events, bA (x.cut), iA (x.en), iA (x.id), iA (x.ver), rowI x.args, rowE x.events, bA (x.cut), iA (x.en)])) = some (.grow 110 25 6 (n) (cs) (2) ([iA (x.id), iA (x.ver), rowI x.args, rowE x.events, bA (x.cut), iA (x.en), iA (x.id), iA (x.ver), rowI x.args, rowE x.events, bA (x.cut), iA (x.en)])), n * 6 = n * 6, cmdIndexAddr Try.prog 28 (rowR c) (iA ((k : Nat) : Int)) = some (.val (.rptr (iA (x.id) :: iA (x.ver) :: rowI x.args :: rowE x.events :: bA (x.cut) :: iA (x.en) :: rpsA (c.drop (k + 1))))), pB .sub 3 (.tmp 104) (.tmp 105) (.int .i64 ((c.length - 1 : Nat) : Int)) (.int .i64 ((i : Nat) : Int)) (iA ((k : Nat) : Int)), pB .sub 3 (.tmp 103) (.const (.int .i64 1)) (.int .i64 ((c.length : Nat) : Int)) (.int .i64 (1)) (iA ((c.length - 1 : Nat) : Int)), cmdIndexAddr Try.prog 28 (rowR c) (iA ((k : Nat) : Int)) = some (.val (.rptr (iA (x.id) :: iA (x.ver) :: rowI x.args :: rowE x.events :: bA (x.cut) :: iA (x.en) :: rpsA (c.drop (k + 1))))), pB .sub 3 (.tmp 96) (.tmp 97) (.int .i64 ((c.length - 1 : Nat) : Int)) (.int .i64 ((i : Nat) : Int)) (iA ((k : Nat) : Int)), pB .sub 3 (.tmp 95) (.const (.int .i64 1)) (.int .i64 ((c.length : Nat) : Int)) (.int .i64 (1)) (iA ((c.length - 1 : Nat) : Int)), pB .lss 3 (.tmp 86) (.tmp 88) (.int .i64 ((i : Nat) : Int)) (.int .i64 ((c.length : Nat) : Int)) (bA true)] (by kernel_rfl) (by kernel_rfl) (allc (hAdd _ _ _ _ _ _ (by simp) ⟨by omega, by omega⟩) (allc (el28.grow (rowOf_row _ _ _ _) (fits_of (by omega) (by omega))) (allc (rfl) (allc (el28.idxR hx) (allc (hSub _ _ _ _ _ _ (by omega) ⟨by omega, by omega⟩) (allc (hSub _ _ _ _ _ _ (by omega) ⟨by omega, by omega⟩) (allc (el28.idxR hx) (allc (hSub _ _ _ _ _ _ (by omega) ⟨by omega, by omega⟩) (allc (hSub _ _ _ _ _ _ (by omega) ⟨by omega, by omega⟩) (allc (hLss _ _ _ _ _ _ (decide_eq_true (by omega))) allnil)))))))))) (q1 _ (by kernel_rfl))
theorem law5_any (l h : List Int) (p q : Int) (hl : l.length ≤ 90000000) (hw : I64s l) (hlh : h.length ≤ 90000000) (hwh : I64s h) (hp : I64 p) (hq : I64 q)
    (hfin : ∀ lz : List Rp, (∀ r ∈ lz, Sz 6 1298 r) → lz.length ≤ 1000 → wrongR contrR (foldR lz) = wrongR contrB (foldR lz) ∧ foldR (foldR lz) = foldR lz ∧ foldR ((foldR lz).reverse.flatMap fun x => [x, x]) = foldR lz) : Ok Try.prog 5 [rowI l, rowI h, iA p, iA q] (plainR (bA true)) := by
  refine Ok.judgW Try.func5 (c := C5) rfl (by simp [Try.ntmps5]) ?_
  refine Judg.pre' 5 (orcC [(23, ownR 25 (allR l))] []) 2 (s5a l h p q) [Ok Try.prog 25 [rowI l] (ownR 25 (allR l))] (by kernel_rfl) (by kernel_rfl) (allc (ok25 l hl hw) allnil) ?_
  refine Judg.clean (L := [1, 2, 3, 9]) (N := [23]) (t := st5z l h p q) (by kernel_rfl) ?_
  refine Judg.for_ (ι := Nat × List Rp) [1, 2, 3, 9, 10] [23] (fun a => st5 h p q a.1 a.2.length (rpsA a.2)) (fun a => 5 - a.1) (fun a => a.1 ≤ 5 ∧ a.2.length ≤ 8 + a.1 ∧ ∀ r ∈ a.2, Sz (1 + a.1) (8 + 258 * a.1) r) (by kernel_rfl) (orc []) (liveOf 5) (s1 := s5b l h p q) (by kernel_rfl)
    (by rw [show (s5b l h p q).log = [] by kernel_rfl]; exact allnil) (0, allR l) ⟨Nat.zero_le _, by unfold allR; simp; omega, fun r hr => by
      unfold allR at hr
      obtain ⟨j, _, rfl⟩ := List.mem_map.1 hr
      exact sz_one _⟩ (by kernel_rfl) ?_
  rintro ⟨i, lz⟩ ⟨hi, hlen, hsz⟩
  simp only at hi hlen hsz ⊢
  have hrest : ∀ {s : St}, clean [9] [] s = st5m lz → Judg K5 s (fun out => ∃ s1 l r', ResImp r' (plainR (bA true)) ∧ (out = .go s1 ∨ out = .ret s1) ∧ (resVals Try.prog s1 Try.f5.results.toList).bind (resOf s1) = some (r', l) ∧ ∀ p ∈ l, p) := fun {s} hs => by
    refine Judg.clean hs ?_
    have hsz6 : ∀ r ∈ lz, Sz 6 1298 r := fun r hr => (hsz r hr).mono (by omega) (by omega)
    have hfa : ∀ r ∈ lz, Fit r := fun r hr => (hsz6 r hr).fit (by omega) (by omega)
    obtain ⟨f1, f2, f3⟩ := hfin lz hsz6 (by omega)
    have hcl := fold_len lz
    have hcf : ∀ r ∈ foldR lz, Fit r := fun r hr => hfa r (fold_mem hr).1
    have h27 := ok27 lz (by omega)
    have h26a := ok26 lz (by omega) hfa
    have h28 := ok28 lz (by omega) hfa
    have h26c := ok26 (foldR lz) (by omega) hcf
    rw [f1] at h28
    rw [f2] at h26c
    have h27c := ok27 (foldR lz) (by omega)
    have h29 := ok29 (foldR lz) (foldR lz) hcf hcf (by omega) (by omega)
    rw [samesB_refl] at h29
    have h30 := ok30 (wrongR contrB (foldR lz)) (wrongR contrB (foldR lz)) (by have := wrongR_len contrB (foldR lz); omega) (by have := wrongR_len contrB (foldR lz); omega)
    rw [eqI_refl] at h30
    have hbf : ∀ r ∈ ((foldR lz).reverse.flatMap fun x => [x, x]), Fit r := fun r hr => by
      obtain ⟨x, hx, hr⟩ := List.mem_flatMap.1 hr
      simp at hr; subst hr
      exact hcf _ (by simpa using hx)
    have hbl : ((foldR lz).reverse.flatMap fun x => [x, x]).length = 2 * (foldR lz).length := dbl_len _
    have h26b := ok26 _ (by rw [hbl]; omega) hbf
    have h27b := ok27 ((foldR lz).reverse.flatMap fun x => [x, x]) (by rw [hbl]; omega)
    rw [f3] at h26b
    generalize wrongR contrB (foldR lz) = w at *
    generalize hbs : ((foldR lz).reverse.flatMap fun x => [x, x]) = bs at *
    generalize hc : foldR lz = c at *
    refine Judg.pre' 5 (orcC [(72, ownR 30 lz), (73, plainR (.tup [rowR c, rowI w])), (78, plainR (.tup [rowR c, rowI w])), (83, plainR (.tup [rowR c, rowI w]))] []) 4 (stOf (runCode Try.prog (orcC [(72, ownR 30 lz), (73, plainR (.tup [rowR c, rowI w])), (78, plainR (.tup [rowR c, rowI w])), (83, plainR (.tup [rowR c, rowI w]))] []) (liveOf 5) 0 (Ytlekojbcaelpiaa.pre 4 K5) (st5m lz))) [Ok Try.prog 26 [rowR c] (plainR (.tup [rowR c, rowI w])), Ok Try.prog 28 [rowR lz] (plainR (.tup [rowR c, rowI w])), Ok Try.prog 26 [rowR lz] (plainR (.tup [rowR c, rowI w])), Ok Try.prog 27 [rowR lz] (ownR 30 lz)] (by kernel_rfl) (by kernel_rfl) (allc (h26c) (allc (h28) (allc (h26a) (allc (h27) allnil)))) ?_
    refine Judg.clean (L := [12, 13, 14, 15, 16, 17, 18]) (N := []) (t := st5n c w) (by kernel_rfl) ?_
    refine Judg.nilSlot 18 110 25 6 (by kernel_rfl) (by kernel_rfl) ?_
    refine Judg.for_ (ι := Nat) [12, 13, 14, 15, 16, 17, 18, 19] [110] (fun i => st5o c w i (2 * i) (rpsA ((c.reverse.take i).flatMap fun x => [x, x]))) (fun i => c.length - i) (fun i => i ≤ c.length) (by kernel_rfl) (orc []) (liveOf 5) (s1 := s5d c w) (by kernel_rfl)
      (by rw [show (s5d c w).log = [] by kernel_rfl]; exact allnil) 0 (Nat.zero_le _) (by kernel_rfl) ?_
    intro i hi
    by_cases hlt : i < c.length
    · obtain ⟨x, hx⟩ : ∃ x, c[c.length - 1 - i]? = some x := ⟨_, List.getElem?_eq_getElem (by omega)⟩
      refine m5_turn hx rfl hlt (by omega) (by omega) fun s' h => ⟨i + 1, by omega, by omega, ?_⟩
      rw [h]
      have hr : c.reverse[i]? = some x := by rw [List.getElem?_reverse hlt]; exact hx
      have e : rpsA ((c.reverse.take (i + 1)).flatMap fun x => [x, x]) = rpsA ((c.reverse.take i).flatMap fun x => [x, x]) ++ (rpC x ++ rpC x) := by
        rw [take_succ_at hr, List.flatMap_append, rpsA_append]; simp [rpsA]
      rw [e, show 2 * (i + 1) = 2 * i + 2 by omega]
    · obtain rfl : i = c.length := by omega
      rw [show c.reverse.take c.length = c.reverse from List.take_of_length_le (by simp), hbs]
      obtain ⟨n, hn⟩ : ∃ n, 2 * c.length = n := ⟨_, rfl⟩
      rw [hn] at hbl
      rw [hn, ← hbl]
      refine Judg.run' 5 (orc [(89, .val (bA false))]) (.exit 2 (stOf (runCode Try.prog (orc [(89, .val (bA false))]) (liveOf 5) 0 (fB T5b) (st5o c w c.length bs.length (rpsA bs))))) [pB .lss 3 (.tmp 86) (.tmp 88) (.int .i64 ((c.length : Nat) : Int)) (.int .i64 ((c.length : Nat) : Int)) (bA false)] (by kernel_rfl) (by kernel_rfl) (allc (hLss _ _ _ _ _ _ (decide_eq_false (by omega))) allnil) ?_
      show Judg (fK T5b) _ _
      refine Judg.clean (L := [12, 13, 14, 15, 16, 17, 18]) (N := []) (t := st5p c bs w) (by kernel_rfl) ?_
      exact Judg.run' 5 (orcC [(113, ownR 30 bs), (114, plainR (.tup [rowR c, rowI w])), (119, ownR 30 c), (120, plainR (bA true)), (124, plainR (bA true)), (129, plainR (bA true)), (134, plainR (bA true)), (139, plainR (bA true)), (144, plainR (bA true)), (147, plainR (bA true))] []) (.ret (stOf (runCode Try.prog (orcC [(113, ownR 30 bs), (114, plainR (.tup [rowR c, rowI w])), (119, ownR 30 c), (120, plainR (bA true)), (124, plainR (bA true)), (129, plainR (bA true)), (134, plainR (bA true)), (139, plainR (bA true)), (144, plainR (bA true)), (147, plainR (bA true))] []) (liveOf 5) 0 (fK T5b) (st5p c bs w)))) [Ok Try.prog 16 [] (plainR (bA true)), Ok Try.prog 30 [rowI w, rowI w] (plainR (bA true)), Ok Try.prog 29 [rowR c, rowR c] (plainR (bA true)), Ok Try.prog 30 [rowI w, rowI w] (plainR (bA true)), Ok Try.prog 29 [rowR c, rowR c] (plainR (bA true)), Ok Try.prog 30 [rowI w, rowI w] (plainR (bA true)), Ok Try.prog 29 [rowR c, rowR c] (plainR (bA true)), Ok Try.prog 27 [rowR c] (ownR 30 c), Ok Try.prog 26 [rowR bs] (plainR (.tup [rowR c, rowI w])), Ok Try.prog 27 [rowR bs] (ownR 30 bs)] (by kernel_rfl) (by kernel_rfl) (allc (ok16) (allc (h30) (allc (h29) (allc (h30) (allc (h29) (allc (h30) (allc (h29) (allc (h27c) (allc (h26b) (allc (h27b) allnil)))))))))) (fin_retW (l := []) _ (by kernel_rfl) allnil (ResImp.refl _))
  by_cases h1 : i < h.length
  · by_cases h2 : i < 5
    · by_cases h3 : 0 < lz.length
      · obtain ⟨y, hy⟩ : ∃ y, h[i]? = some y := ⟨_, List.getElem?_eq_getElem h1⟩
        have a1 := aroundZ_nonneg y lz.length (by omega)
        have a2 := aroundZ_lt y lz.length (by omega)
        obtain ⟨k, hk⟩ : ∃ k : Nat, aroundZ y lz.length = k := ⟨(aroundZ y lz.length).toNat, by omega⟩
        obtain ⟨x, hx⟩ : ∃ x, lz[k]? = some x := ⟨_, List.getElem?_eq_getElem (by omega)⟩
        have sx := hsz x (List.mem_of_getElem? hx)
        have fx := sx.fit (by omega) (by omega)
        refine m5_round hy hx hk (hwh y (List.mem_of_getElem? hy)) h2 (by omega) (by omega) fx.la (by have := fx.le; omega) fun z s' hz h => ⟨(i + 1, lz ++ [z]), ⟨by show i + 1 ≤ 5; omega, by show (lz ++ [z]).length ≤ 8 + (i + 1); simp; omega, fun r hr => ?_⟩, by show 5 - (i + 1) < 5 - i; omega, h⟩
        have hzz : Sz (1 + (i + 1)) (8 + 258 * (i + 1)) z := by
          rcases hz with rfl | rfl
          · exact sx.mono (by omega) (by omega)
          · exact (sz_spoilt sx _ _ (wrap_I64 _)).mono (by omega) (by omega)
        rcases List.mem_append.1 hr with hr | hr
        · exact (hsz r hr).mono (by omega) (by omega)
        · simp only [List.mem_singleton] at hr; subst hr; exact hzz
      · refine Judg.run' 5 (orc [(27, .val (bA true)), (30, .val (bA true)), (35, .val (bA false))]) (.exit 0 (stOf (runCode Try.prog (orc [(27, .val (bA true)), (30, .val (bA true)), (35, .val (bA false))]) (liveOf 5) 0 (fB T5) (st5 h p q i lz.length (rpsA lz))))) [pB .gtr 3 (.tmp 34) (.const (.int .i64 0)) (.int .i64 ((lz.length : Nat) : Int)) (.int .i64 (0)) (bA false), pB .lss 3 (.tmp 29) (.const (.int .i64 5)) (.int .i64 ((i : Nat) : Int)) (.int .i64 (5)) (bA true), pB .lss 3 (.tmp 24) (.tmp 26) (.int .i64 ((i : Nat) : Int)) (.int .i64 ((h.length : Nat) : Int)) (bA true)] (by kernel_rfl) (by kernel_rfl) (allc (hGtr _ _ _ _ _ _ (decide_eq_false (by omega))) (allc (hLss _ _ _ _ _ _ (decide_eq_true (by omega))) (allc (hLss _ _ _ _ _ _ (decide_eq_true (by omega))) allnil))) ?_
        exact hrest (by kernel_rfl)
    · refine Judg.run' 5 (orc [(27, .val (bA true)), (30, .val (bA false))]) (.exit 0 (stOf (runCode Try.prog (orc [(27, .val (bA true)), (30, .val (bA false))]) (liveOf 5) 0 (fB T5) (st5 h p q i lz.length (rpsA lz))))) [pB .lss 3 (.tmp 29) (.const (.int .i64 5)) (.int .i64 ((i : Nat) : Int)) (.int .i64 (5)) (bA false), pB .lss 3 (.tmp 24) (.tmp 26) (.int .i64 ((i : Nat) : Int)) (.int .i64 ((h.length : Nat) : Int)) (bA true)] (by kernel_rfl) (by kernel_rfl) (allc (hLss _ _ _ _ _ _ (decide_eq_false (by omega))) (allc (hLss _ _ _ _ _ _ (decide_eq_true (by omega))) allnil)) ?_
      exact hrest (by kernel_rfl)
  · refine Judg.run' 5 (orc [(27, .val (bA false))]) (.exit 0 (stOf (runCode Try.prog (orc [(27, .val (bA false))]) (liveOf 5) 0 (fB T5) (st5 h p q i lz.length (rpsA lz))))) [pB .lss 3 (.tmp 24) (.tmp 26) (.int .i64 ((i : Nat) : Int)) (.int .i64 ((h.length : Nat) : Int)) (bA false)] (by kernel_rfl) (by kernel_rfl) (allc (hLss _ _ _ _ _ _ (decide_eq_false (by omega))) allnil) ?_
    exact hrest (by kernel_rfl)
end Go.Proofs.Ytlekojbcaelpiaa

/- ReportMerges returns true, for all inputs of bulk at most 1048576. -/
namespace Go.Proofs.Ytlekojbcaelpiaa
open Go.ChangeShapes Go.WideShapes Go.ChangeAt Go.RowKit
theorem law5 (l h : List Int) (p q : Int) (hl : l.length ≤ 90000000) (hw : I64s l) (hlh : h.length ≤ 90000000) (hwh : I64s h) (hp : I64 p) (hq : I64 q) : Ok Try.prog 5 [rowI l, rowI h, iA p, iA q] (plainR (bA true)) :=
  law5_any l h p q hl hw hlh hwh hp hq fun lz _ _ => ⟨by rw [contr_eq], fold_fold lz, fold_back lz⟩

set_option maxRecDepth 100000 in
theorem reportMerges_contract (H : Type) (enc : TypeId × Value → H) (W : World) (base : Nat) (args : Array Value) (ds gs : List (DataW H)) (before : List MemPlace)
    (hval : ∀ (j : Nat) t v, Try.f5.params[j]? = some t → args[j]? = some v → Value.okWide Try.prog W .any base t v)
    (hW : DataW.Whole enc Try.prog Try.f5.params.toList Rows.reportMergesSpec.vars false W args.toList ds gs before) (hk : Rows.uptoSmall H (ds ++ gs) = true) :
    Calls Try.prog 5 args W fun e W' => ∃ v, e = .returned v ∧ Rows.reportMergesSpec.post enc Try.prog Try.f5 false true false false W args v W' := by
  have hW' := hW
  obtain ⟨p, q, hA0, hV, rfl, hfz, hnd⟩ := hW
  have hA : DataW.TrodAll enc Try.prog W 0 (fun _ => true) true Try.f5.params.toList args.toList ds p := hA0
  rw [Try.params5] at hA hval
  obtain ⟨v0, vs0, d0, ds0, p0, q0, hargs, rfl, rfl, h0, r0⟩ := trodAll_cons hA
  obtain ⟨v1, vs1, d1, ds1, p1, q1, rfl, rfl, rfl, h1, r1⟩ := trodAll_cons r0
  obtain ⟨v2, vs2, d2, ds2, p2, q2, rfl, rfl, rfl, h2, r2⟩ := trodAll_cons r1
  obtain ⟨v3, vs3, d3, ds3, p3, q3, rfl, rfl, rfl, h3, r3⟩ := trodAll_cons r2
  obtain ⟨rfl, rfl, rfl⟩ := trodAll_nil r3
  obtain rfl : args = #[v0, v1, v2, v3] := by cases args; simp_all
  obtain ⟨rfl, rfl⟩ := trodVars_none hV
  obtain ⟨a2, rfl, rfl, rfl, w2⟩ := open_int Try.underlying3 (hval 2 3 v2 rfl rfl) h2
  obtain ⟨a3, rfl, rfl, rfl, w3⟩ := open_int Try.underlying3 (hval 3 3 v3 rfl rfl) h3
  clear hA0
  simp only [List.append_nil, List.nil_append] at hW' hk
  have hlt0 : ∀ x ∈ p0, x.block < W.heap.size := fun x hx => hW'.lt x (by simp [hx])
  obtain ⟨l0, hV0, hw0, hb0⟩ := open22 (okWide_slice Try.underlying22 (hval 0 22 v0 rfl rfl)) h0 hlt0
  have hlt1 : ∀ x ∈ p1, x.block < W.heap.size := fun x hx => hW'.lt x (by simp [hx])
  obtain ⟨l1, hV1, hw1, hb1⟩ := open22 (okWide_slice Try.underlying22 (hval 1 22 v1 rfl rfl)) h1 hlt1
  have hbulk : Rows.uptoBulkAll (H := H) [d0, d1, .lit (.int .i64 a2), .lit (.int .i64 a3)] ≤ 1048576 := bound_of hk
  simp only [Rows.uptoBulkAll] at hbulk
  have hcall := (law5 l0 l1 a2 a3 (by omega) hw0 (by omega) hw1 (wf_I64 w2) (wf_I64 w3)).2 W (pr0 W) [v0, v1, .int .i64 a2, .int .i64 a3] (pr0_lt W) ⟨_, _, rfl, hV0, _, _, rfl, hV1, _, _, rfl, rfl, _, _, rfl, rfl, rfl⟩
  refine hcall.mono ?_
  rintro e W' ⟨v, pr', rfl, hbel, _, _, hres, _⟩
  have hv : v = .bool true := hres
  subst hv
  refine ⟨_, rfl, _, _, _, [], (p0 ++ (p1 ++ ([] ++ ([] ++ [])))), [], hW', ?_, ?_, rfl, hbel.frame _, fun h => by cases h⟩
  · show DataW.TrodAll enc Try.prog W' _ _ false [4] [.bool true] [.lit (.bool true)] []
    exact trodAll_cons_mk (p := []) (p' := []) (shut_bool Try.underlying4 _) trodAll_mk0
  · show DataW.TrodAll enc Try.prog W' 0 _ true [22, 22, 3, 3] [v0, v1, .int .i64 a2, .int .i64 a3] [d0, d1, .lit (.int .i64 a2), .lit (.int .i64 a3)] _
    exact trodAll_cons_mk (keep22 h0 hbel hlt0) (trodAll_cons_mk (keep22 h1 hbel hlt1) (trodAll_cons_mk (shut_int Try.underlying3 w2) (trodAll_cons_mk (shut_int Try.underlying3 w3) (trodAll_mk0))))

set_option maxRecDepth 100000 in
theorem reportMerges_lifted (os : Os) (started : os.Started) (H : Type) (enc : TypeId × Value → H) (F : Stop.Interp) :
    ReturnsInHanded {} Try.checked os 5 .any ((Rows.OpenSpec.upto Rows.reportMergesSpec).pre6 enc Try.prog Try.f5 Rows.reportMergesUptoRow.domain false) (((Rows.OpenSpec.upto Rows.reportMergesSpec).at F).post enc Try.prog Try.f5 false true false false) := by
  refine returnsInHanded_of_cond (C := Try.checked) (s := Rows.OpenSpec.upto Rows.reportMergesSpec) (k := Rows.uptoSmall) rfl own0 started (by kernel_rfl) Try.func5
    (OpenSpec.witness (enc := enc) (C := Try.checked) (s := Rows.OpenSpec.upto Rows.reportMergesSpec) (k := Rows.uptoSmall) rfl false ⟨#[], #[.slice none 0 0, .slice none 0 0, .int .i64 0, .int .i64 0], []⟩ 8 (by kernel_rfl) (by kernel_rfl) (by kernel_rfl)
      (x := ([.nil, .nil, .lit (.int .i64 0), .lit (.int .i64 0)], [], [])) (by kernel_rfl) rfl (by kernel_rfl)) ?_
  intro W base args ds gs before hval hW _ hk _
  exact reportMerges_contract H enc W base args ds gs before hval hW hk
theorem reportMergesUpto_proved : Rows.ReportMergesUptoSaid :=
  OpenClaim.holds_of_cond 5 Try.f5 rfl rfl rfl rfl rfl rfl rfl ⟨rfl, rfl, rfl, rfl, rfl⟩ rfl rfl rfl rfl rfl (by kernel_rfl) Try.func5 (by kernel_rfl)
    (of_decide_eq_true (by kernel_rfl)) (by unfold Func.isWrapper; first | (rw [if_pos (by decide +kernel)]; kernel_rfl) | (rw [if_neg (by decide +kernel)]; exact ⟨rfl, rfl⟩))
    (fun os started H enc _ F => reportMerges_lifted os started H enc F)
end Go.Proofs.Ytlekojbcaelpiaa
