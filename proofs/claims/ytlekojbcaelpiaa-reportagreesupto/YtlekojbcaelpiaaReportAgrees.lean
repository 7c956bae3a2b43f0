/- ReportAgrees returns true, for all inputs of bulk at most 1048576. -/
import Derived.Test.YtlekojbcaelpiaaBa5
set_option linter.unusedVariables false
set_option linter.unusedSimpArgs false

/- Facts for ReportMerges: rows of numbers, sums that wrap, lists merged twice. -/
namespace Go.Proofs.Ytlekojbcaelpiaa
open Go.RowKit
theorem idxI {tok : Option (Nat × Nat)} {l : List Int} {k : Nat} {x : Int} (hx : l[k]? = some x) : cmdIndexAddr Try.prog 22 (.row tok 1 l.length (l.map iA)) (iA k) = some (.val (.rptr (iA x :: (l.drop (k + 1)).map iA))) := by
  have h := el22.idx (tok := tok) (n := l.length) (k := k) (xs := l.map iA) (List.getElem?_eq_some_iff.1 hx).1
  rw [h, Nat.mul_one, ← List.map_drop, drop_at hx, List.map_cons]
theorem hAddW (t : TypeId) (x y : Operand) (a b c : Int) (h : IntKind.i64.wrap (a + b) = c) : pB .add t x y (.int .i64 a) (.int .i64 b) (iA c) := by
  subst h
  have e : (peek Try.prog (do eqGuard .add t x y (.int .i64 a) (.int .i64 b); binOp .add t (.int .i64 a) (.int .i64 b))).map (fun v => Cmd.val (.sc v)) = some (.val (iA (IntKind.i64.wrap (a + b)))) := rfl
  exact e
theorem wrap_I64 (n : Int) : I64 (IntKind.i64.wrap n) := by rw [IntKind.wrap_i64]; constructor <;> omega
theorem tmod3 (y : Int) : I64 (y.tmod 3) := by
  have h1 := Int.tmod_lt_of_pos y (b := 3) (by omega)
  have h2 : -3 < y.tmod 3 := Int.lt_tmod_of_pos y (by omega)
  exact ⟨by omega, by omega⟩
theorem sameR_refl (r : Rp) : sameR r r = true := eqI_refl _
theorem samesB_refl (l : List Rp) : samesB l l = true := by
  rw [samesB_iff]
  refine ⟨rfl, fun k x y hx hy => ?_⟩
  rw [hx] at hy; cases hy; exact sameR_refl x
theorem wrongR_len (con : Rp → Rp → Bool) (l : List Rp) : (wrongR con l).length ≤ l.length := by
  unfold wrongR; rw [List.length_map]; exact List.length_filter_le _ _
theorem dbl_len (l : List Rp) : (l.reverse.flatMap fun x => [x, x]).length = 2 * l.length := by
  have h : ∀ l : List Rp, (l.flatMap fun x => [x, x]).length = 2 * l.length := fun l => by
    induction l with
    | nil => rfl
    | cons x l ih => rw [List.flatMap_cons, List.length_append, ih]; simp; omega
  rw [h, List.length_reverse]
/-- both ways to say that a report fits an outcome -/
theorem agrees_eq (r : Rp) (es : List Ev) (en : Int) : agreesB r es en = agrR r es en := by
  unfold agreesB agrR begB sameOut eqE
  have hp : r.events <+: es ↔ r.events.length ≤ es.length ∧ r.events = es.take r.events.length := by
    constructor
    · intro h; exact ⟨h.length_le, (List.prefix_iff_eq_take.1 h)⟩
    · intro h; exact List.prefix_iff_eq_take.2 h.2
  cases hc : r.cut with
  | true =>
    simp only [if_true, Bool.true_or, Bool.and_true]
    rw [Bool.eq_iff_iff]
    simp only [Bool.and_eq_true, decide_eq_true_eq]
    exact hp.symm
  | false =>
    simp only [Bool.false_eq_true, if_false, Bool.false_or]
    rw [Bool.eq_iff_iff]
    simp only [Bool.and_eq_true, decide_eq_true_eq]
    constructor
    · rintro ⟨h1, h2⟩
      exact ⟨by rw [h1]; exact List.prefix_rfl, by rw [h1], h2.symm⟩
    · rintro ⟨h1, h2, h3⟩
      exact ⟨h1.eq_of_length h2.symm, h3.symm⟩
theorem take_min {a b : List Ev} : a.take (min a.length b.length) = b.take (min a.length b.length) ↔ a <+: b ∨ b <+: a := by
  constructor
  · intro h
    rcases Nat.le_total a.length b.length with hl | hl
    · rw [Nat.min_eq_left hl, List.take_length] at h
      exact .inl (by rw [h]; exact List.take_prefix _ _)
    · rw [Nat.min_eq_right hl, List.take_length] at h
      exact .inr (by rw [← h]; exact List.take_prefix _ _)
  · rintro (h | h)
    · have hl := h.length_le
      rw [Nat.min_eq_left hl, List.take_length]
      exact List.prefix_iff_eq_take.1 h
    · have hl := h.length_le
      rw [Nat.min_eq_right hl, List.take_length]
      exact (List.prefix_iff_eq_take.1 h).symm
theorem contr_eq : contrR = contrB := by
  funext a b
  unfold contrR contrB
  rw [agrees_eq, agrees_eq]
  split
  · rfl
  split
  · rfl
  split
  · unfold begB eqE
    rw [Bool.eq_iff_iff]
    simp only [Bool.and_eq_true, Bool.not_eq_true', decide_eq_false_iff_not, take_min]
    constructor
    · rintro ⟨h1, h2⟩ (h | h)
      · exact h2 h
      · exact h1 h
    · intro h; exact ⟨fun h1 => h (.inr h1), fun h1 => h (.inl h1)⟩
  · rfl
/-- what is sorted, valid and of different numbers is merged into itself -/
theorem fold_of {l c : List Rp} (hs : Srt c) (h : (firsts l).Perm c) : foldR l = c := srt_eq (fold_perm l).1 hs ((fold_perm l).2.trans h)
theorem firsts_nodup : ∀ (d acc : List Rp), (∀ x ∈ d, validB x = true) → ((acc ++ d).map (·.id)).Nodup → d.foldl stepM acc = acc ++ d
  | [], acc, _, _ => by simp
  | x :: d, acc, hv, hn => by
    have hx : x.id ∉ acc.map (·.id) := fun h => by
      rw [List.map_append, List.map_cons, List.nodup_append] at hn
      exact hn.2.2 _ h _ (by simp) rfl
    rw [List.foldl_cons]
    have e : stepM acc x = acc ++ [x] := by unfold stepM; rw [if_pos ⟨hv x (by simp), hx⟩]
    rw [e, firsts_nodup d (acc ++ [x]) (fun y hy => hv y (by simp [hy])) (by simpa using hn)]
    simp
theorem firsts_dbl : ∀ (d acc : List Rp), (∀ x ∈ d, validB x = true) → ((acc ++ d).map (·.id)).Nodup → (d.flatMap fun x => [x, x]).foldl stepM acc = acc ++ d
  | [], acc, _, _ => by simp
  | x :: d, acc, hv, hn => by
    have hx : x.id ∉ acc.map (·.id) := fun h => by
      rw [List.map_append, List.map_cons, List.nodup_append] at hn
      exact hn.2.2 _ h _ (by simp) rfl
    rw [List.flatMap_cons, List.foldl_append, List.foldl_cons, List.foldl_cons, List.foldl_nil]
    have e : stepM acc x = acc ++ [x] := by unfold stepM; rw [if_pos ⟨hv x (by simp), hx⟩]
    have e2 : stepM (acc ++ [x]) x = acc ++ [x] := by unfold stepM; rw [if_neg (fun h => h.2 (by simp))]
    rw [e, e2, firsts_dbl d (acc ++ [x]) (fun y hy => hv y (by simp [hy])) (by simpa using hn)]
    simp
theorem srt_nodup {c : List Rp} (h : Srt c) : (c.map (·.id)).Nodup := by
  rw [List.nodup_iff_pairwise_ne, List.pairwise_map]
  exact h.imp fun h => by omega
theorem fold_fold (l : List Rp) : foldR (foldR l) = foldR l := by
  refine fold_of (fold_perm l).1 ?_
  have := firsts_nodup (foldR l) [] (fun x hx => (fold_mem hx).2) (by simpa using srt_nodup (fold_perm l).1)
  unfold firsts
  rw [this]; simp
theorem fold_back (l : List Rp) : foldR ((foldR l).reverse.flatMap fun x => [x, x]) = foldR l := by
  refine fold_of (fold_perm l).1 ?_
  have := firsts_dbl (foldR l).reverse [] (fun x hx => (fold_mem (by simpa using hx)).2) (by
    rw [List.nil_append, List.map_reverse]; exact (List.reverse_perm _).nodup_iff.2 (srt_nodup (fold_perm l).1))
  unfold firsts
  rw [this]; simp
end Go.Proofs.Ytlekojbcaelpiaa

/- ReportAgrees: the walk. -/
namespace Go.Proofs.Ytlekojbcaelpiaa
open Go.RowKit
noncomputable abbrev C6 : Code := bodyOf Try.f6
noncomputable abbrev T6 : Code := post 6 C6
noncomputable abbrev T6b : Code := post 1 (fK T6)
def st6a (x0 x1 : Rp) (oes : List Ev) (oen p q u : Int) : St := { n := 121, slots := [(2, iA (p)), (3, iA (q)), (4, iA (u)), (11, .ptr 11 0), (12, .row none 6 (2) ([iA (x0.id), iA (x0.ver), rowI x0.args, rowE x0.events, bA (x0.cut), iA (x0.en), iA (x1.id), iA (x1.ver), rowI x1.args, rowE x1.events, bA (x1.cut), iA (x1.en)])), (13, .ptr 13 0), (14, .ptr 14 0), (15, .ptr 15 0)], objs := [(11, (25, [iA (x0.id), iA (x0.ver), rowI x0.args, rowE x0.events, bA (x0.cut), iA (x0.en)])), (13, (62, [rowE oes, iA (oen)])), (14, (62, [rowE x0.events, iA (x0.en)])), (15, (62, [.row none 3 (0 + x0.events.length + oes.length) ([] ++ evA x0.events ++ evA oes), iA (oen)]))], lens := [] }
def st6 (x0 x1 : Rp) (oes : List Ev) (oen p q u : Int) (k : Nat) : St := { n := 121, slots := [(2, iA (p)), (3, iA (q)), (4, iA (u)), (11, .ptr 11 0), (12, .row none 6 (2) ([iA (x0.id), iA (x0.ver), rowI x0.args, rowE x0.events, bA (x0.cut), iA (x0.en), iA (x1.id), iA (x1.ver), rowI x1.args, rowE x1.events, bA (x1.cut), iA (x1.en)])), (13, .ptr 13 0), (14, .ptr 14 0), (15, .ptr 15 0), (16, iA ((k : Nat) : Int))], objs := [(11, (25, [iA (x0.id), iA (x0.ver), rowI x0.args, rowE x0.events, bA (x0.cut), iA (x0.en)])), (13, (62, [rowE oes, iA (oen)])), (14, (62, [rowE x0.events, iA (x0.en)])), (15, (62, [.row none 3 (0 + x0.events.length + oes.length) ([] ++ evA x0.events ++ evA oes), iA (oen)]))], lens := [] }
def st6m (x0 x1 : Rp) (oes : List Ev) (oen p q u : Int) : St := { n := 121, slots := [(2, iA (p)), (3, iA (q)), (4, iA (u)), (11, .ptr 11 0), (13, .ptr 13 0)], objs := [(11, (25, [iA (x0.id), iA (x0.ver), rowI x0.args, rowE x0.events, bA (x0.cut), iA (x0.en)])), (13, (62, [rowE oes, iA (oen)]))], lens := [] }
def st6c (x0 x1 : Rp) (oes : List Ev) (oen p q u : Int) (w : Int) : St := { n := 121, slots := [(2, iA (p)), (3, iA (q)), (11, .ptr 11 0), (13, .ptr 13 0), (18, .row none 1 (2) ([iA (w - 1), iA (u)]))], objs := [(11, (25, [iA (x0.id), iA (x0.ver), rowI x0.args, rowE x0.events, bA (x0.cut), iA (x0.en)])), (13, (62, [rowE oes, iA (oen)]))], lens := [] }
def st6b (x0 : Rp) (oes : List Ev) (oen p q u w : Int) (k : Nat) : St := { n := 121, slots := [(2, iA (p)), (3, iA (q)), (11, .ptr 11 0), (13, .ptr 13 0), (18, .row none 1 (2) ([iA (w - 1), iA (u)])), (19, iA ((k : Nat) : Int))], objs := [(11, (25, [iA (x0.id), iA (x0.ver), rowI x0.args, rowE x0.events, bA (x0.cut), iA (x0.en)])), (13, (62, [rowE oes, iA (oen)]))], lens := [] }
noncomputable def s6b (x0 x1 : Rp) (oes : List Ev) (oen p q u : Int) : St := stOf (runCode Try.prog (orc []) (liveOf 6) 0 (fR T6) (st6a x0 x1 oes oen p q u))
noncomputable def s6d (x0 x1 : Rp) (oes : List Ev) (oen p q u : Int) (w : Int) : St := stOf (runCode Try.prog (orc []) (liveOf 6) 0 (fR T6b) (st6c x0 x1 oes oen p q u w))
set_option maxHeartbeats 1000000 in
theorem law6_any (l h : List Int) (p q u w : Int) (x0 x1 y0 y1 : Rp) (oes : List Ev) (oen : Int) (b0o b0f b0c b1o b1f b1c : Bool) (hoe : oes.length ≤ 1000) (hxe : x0.events.length ≤ 1000) (hw0 : 0 ≤ w ∧ w ≤ 1000)
    (h8 : Ok Try.prog 8 [rowI l] (plainR (rpA x0))) (h9 : Ok Try.prog 9 [rpA x0, iA p, iA q] (plainR (rpA x1))) (h31 : Ok Try.prog 31 [rowI h] (plainR (outA oes oen))) (h19 : Ok Try.prog 19 [iA u, iA 10] (plainR (iA w)))
    (g0o : Ok Try.prog 32 [rpA x0, outA oes oen] (plainR (bA b0o))) (k0o : Ok Try.prog 33 [rpA x0, outA oes oen] (plainR (bA b0o))) (g0f : Ok Try.prog 32 [rpA x0, outA x0.events x0.en] (plainR (bA b0f))) (k0f : Ok Try.prog 33 [rpA x0, outA x0.events x0.en] (plainR (bA b0f))) (g0c : Ok Try.prog 32 [rpA x0, .agg [.row none 3 (0 + x0.events.length + oes.length) ([] ++ evA x0.events ++ evA oes), iA oen]] (plainR (bA b0c))) (k0c : Ok Try.prog 33 [rpA x0, .agg [.row none 3 (0 + x0.events.length + oes.length) ([] ++ evA x0.events ++ evA oes), iA oen]] (plainR (bA b0c))) (g1o : Ok Try.prog 32 [rpA x1, outA oes oen] (plainR (bA b1o))) (k1o : Ok Try.prog 33 [rpA x1, outA oes oen] (plainR (bA b1o))) (g1f : Ok Try.prog 32 [rpA x1, outA x0.events x0.en] (plainR (bA b1f))) (k1f : Ok Try.prog 33 [rpA x1, outA x0.events x0.en] (plainR (bA b1f))) (g1c : Ok Try.prog 32 [rpA x1, .agg [.row none 3 (0 + x0.events.length + oes.length) ([] ++ evA x0.events ++ evA oes), iA oen]] (plainR (bA b1c))) (k1c : Ok Try.prog 33 [rpA x1, .agg [.row none 3 (0 + x0.events.length + oes.length) ([] ++ evA x0.events ++ evA oes), iA oen]] (plainR (bA b1c)))
    (m340 : Ok Try.prog 34 [iA q, iA p, rowI x0.args, outA oes oen, iA (w - 1)] (plainR (rpA y0))) (m350 : Ok Try.prog 35 [iA q, iA p, rowI x0.args, outA oes oen, iA (w - 1)] (plainR (rpA y0))) (m230 : Ok Try.prog 23 [rpA y0, rpA y0] (plainR (bA true)))
    (m341 : Ok Try.prog 34 [iA q, iA p, rowI x0.args, outA oes oen, iA u] (plainR (rpA y1))) (m351 : Ok Try.prog 35 [iA q, iA p, rowI x0.args, outA oes oen, iA u] (plainR (rpA y1))) (m231 : Ok Try.prog 23 [rpA y1, rpA y1] (plainR (bA true))) :
    Ok Try.prog 6 [rowI l, rowI h, iA p, iA q, iA u] (plainR (bA true)) := by
  refine Ok.judgW Try.func6 (c := C6) rfl (by simp [Try.ntmps6]) ?_
  refine Judg.pre' 6 (orcC [(21, plainR (rpA x0)), (26, plainR (rpA x1)), (29, plainR (outA oes oen))] [(38, .grow 35 71 3 (0) ([]) (x0.events.length) (evA x0.events)), (41, .grow 35 71 3 (0 + x0.events.length) ([] ++ evA x0.events) (oes.length) (evA oes))]) 6 (stOf (runCode Try.prog (orcC [(21, plainR (rpA x0)), (26, plainR (rpA x1)), (29, plainR (outA oes oen))] [(38, .grow 35 71 3 (0) ([]) (x0.events.length) (evA x0.events)), (41, .grow 35 71 3 (0 + x0.events.length) ([] ++ evA x0.events) (oes.length) (evA oes))]) (liveOf 6) 0 (Ytlekojbcaelpiaa.pre 6 C6) (start [rowI l, rowI h, iA p, iA q, iA u] 121))) [cmdAppend Try.prog 23 23 (.row (some (35, 71)) 3 (0 + x0.events.length) ([] ++ evA x0.events)) (rowE oes) = some (.grow 35 71 3 (0 + x0.events.length) ([] ++ evA x0.events) (oes.length) (evA oes)), (0 + x0.events.length) * 3 = (0 + x0.events.length) * 3, cmdAppend Try.prog 23 23 (.row (some (35, 71)) 3 (0) ([])) (rowE x0.events) = some (.grow 35 71 3 (0) ([]) (x0.events.length) (evA x0.events)), 0 = 0 * 3, Ok Try.prog 31 [rowI h] (plainR (outA oes oen)), Ok Try.prog 9 [.agg [iA (x0.id), iA (x0.ver), rowI x0.args, rowE x0.events, bA (x0.cut), iA (x0.en)], iA (p), iA (q)] (plainR (rpA x1)), Ok Try.prog 8 [rowI l] (plainR (rpA x0))] (by kernel_rfl) (by kernel_rfl) (allc (el23.grow (rowOf_row _ _ _ _) (fits_of (by omega) (by omega))) (allc (rfl) (allc (el23.grow (rowOf_row _ _ _ _) (fits_of (by omega) (by omega))) (allc (rfl) (allc (h31) (allc (h9) (allc (h8) allnil))))))) ?_
  refine Judg.clean (L := [2, 3, 4, 11, 12, 13, 14, 15]) (N := [11, 13, 14, 15]) (t := st6a x0 x1 oes oen p q u) (by kernel_rfl) ?_
  refine Judg.for_ (ι := Nat) [2, 3, 4, 11, 12, 13, 14, 15, 16] [11, 13, 14, 15] (fun k => st6 x0 x1 oes oen p q u k) (fun k => 2 - k) (fun k => k ≤ 2) (by kernel_rfl) (orc []) (liveOf 6) (s1 := s6b x0 x1 oes oen p q u) (by kernel_rfl)
    (by rw [show (s6b x0 x1 oes oen p q u).log = [] by kernel_rfl]; exact allnil) 0 (Nat.zero_le _) (by kernel_rfl) ?_
  intro k hk
  have hk' : k = 0 ∨ k = 1 ∨ k = 2 := by omega
  rcases hk' with rfl | rfl | rfl
  · exact Judg.run' 6 (orcC [(53, plainR (rpA x0)), (56, plainR (bA b0o)), (62, plainR (bA b0o)), (67, plainR (bA b0f)), (73, plainR (bA b0f)), (79, plainR (bA b0c)), (85, plainR (bA b0c))] [(63, .val (bA false)), (74, .val (bA false)), (86, .val (bA false))]) (.go (stOf (runCode Try.prog (orcC [(53, plainR (rpA x0)), (56, plainR (bA b0o)), (62, plainR (bA b0o)), (67, plainR (bA b0f)), (73, plainR (bA b0f)), (79, plainR (bA b0c)), (85, plainR (bA b0c))] [(63, .val (bA false)), (74, .val (bA false)), (86, .val (bA false))]) (liveOf 6) 0 (fB T6) (st6 x0 x1 oes oen p q u 0)))) [pB .neq 4 (.tmp 79) (.tmp 85) (.bool (b0c)) (.bool (b0c)) (bA false), Ok Try.prog 33 [.agg [iA (x0.id), iA (x0.ver), rowI x0.args, rowE x0.events, bA (x0.cut), iA (x0.en)], .agg [.row none 3 (0 + x0.events.length + oes.length) ([] ++ evA x0.events ++ evA oes), iA (oen)]] (plainR (bA b0c)), Ok Try.prog 32 [.agg [iA (x0.id), iA (x0.ver), rowI x0.args, rowE x0.events, bA (x0.cut), iA (x0.en)], .agg [.row none 3 (0 + x0.events.length + oes.length) ([] ++ evA x0.events ++ evA oes), iA (oen)]] (plainR (bA b0c)), pB .neq 4 (.tmp 67) (.tmp 73) (.bool (b0f)) (.bool (b0f)) (bA false), Ok Try.prog 33 [.agg [iA (x0.id), iA (x0.ver), rowI x0.args, rowE x0.events, bA (x0.cut), iA (x0.en)], .agg [rowE x0.events, iA (x0.en)]] (plainR (bA b0f)), Ok Try.prog 32 [.agg [iA (x0.id), iA (x0.ver), rowI x0.args, rowE x0.events, bA (x0.cut), iA (x0.en)], .agg [rowE x0.events, iA (x0.en)]] (plainR (bA b0f)), pB .neq 4 (.tmp 56) (.tmp 62) (.bool (b0o)) (.bool (b0o)) (bA false), Ok Try.prog 33 [.agg [iA (x0.id), iA (x0.ver), rowI x0.args, rowE x0.events, bA (x0.cut), iA (x0.en)], .agg [rowE oes, iA (oen)]] (plainR (bA b0o)), Ok Try.prog 32 [.agg [iA (x0.id), iA (x0.ver), rowI x0.args, rowE x0.events, bA (x0.cut), iA (x0.en)], .agg [rowE oes, iA (oen)]] (plainR (bA b0o)), Ok Try.prog 11 [.agg [iA (x0.id), iA (x0.ver), rowI x0.args, rowE x0.events, bA (x0.cut), iA (x0.en)]] (plainR (rpA x0))] (by kernel_rfl) (by kernel_rfl) (allc (hNeqB _ _ _ _ _ _ (by simp)) (allc (k0c) (allc (g0c) (allc (hNeqB _ _ _ _ _ _ (by simp)) (allc (k0f) (allc (g0f) (allc (hNeqB _ _ _ _ _ _ (by simp)) (allc (k0o) (allc (g0o) (allc (ok11 x0) allnil)))))))))) ⟨1, by omega, by omega, by kernel_rfl⟩
  · exact Judg.run' 6 (orcC [(53, plainR (rpA x1)), (56, plainR (bA b1o)), (62, plainR (bA b1o)), (67, plainR (bA b1f)), (73, plainR (bA b1f)), (79, plainR (bA b1c)), (85, plainR (bA b1c))] [(63, .val (bA false)), (74, .val (bA false)), (86, .val (bA false))]) (.go (stOf (runCode Try.prog (orcC [(53, plainR (rpA x1)), (56, plainR (bA b1o)), (62, plainR (bA b1o)), (67, plainR (bA b1f)), (73, plainR (bA b1f)), (79, plainR (bA b1c)), (85, plainR (bA b1c))] [(63, .val (bA false)), (74, .val (bA false)), (86, .val (bA false))]) (liveOf 6) 0 (fB T6) (st6 x0 x1 oes oen p q u 1)))) [pB .neq 4 (.tmp 79) (.tmp 85) (.bool (b1c)) (.bool (b1c)) (bA false), Ok Try.prog 33 [.agg [iA (x1.id), iA (x1.ver), rowI x1.args, rowE x1.events, bA (x1.cut), iA (x1.en)], .agg [.row none 3 (0 + x0.events.length + oes.length) ([] ++ evA x0.events ++ evA oes), iA (oen)]] (plainR (bA b1c)), Ok Try.prog 32 [.agg [iA (x1.id), iA (x1.ver), rowI x1.args, rowE x1.events, bA (x1.cut), iA (x1.en)], .agg [.row none 3 (0 + x0.events.length + oes.length) ([] ++ evA x0.events ++ evA oes), iA (oen)]] (plainR (bA b1c)), pB .neq 4 (.tmp 67) (.tmp 73) (.bool (b1f)) (.bool (b1f)) (bA false), Ok Try.prog 33 [.agg [iA (x1.id), iA (x1.ver), rowI x1.args, rowE x1.events, bA (x1.cut), iA (x1.en)], .agg [rowE x0.events, iA (x0.en)]] (plainR (bA b1f)), Ok Try.prog 32 [.agg [iA (x1.id), iA (x1.ver), rowI x1.args, rowE x1.events, bA (x1.cut), iA (x1.en)], .agg [rowE x0.events, iA (x0.en)]] (plainR (bA b1f)), pB .neq 4 (.tmp 56) (.tmp 62) (.bool (b1o)) (.bool (b1o)) (bA false), Ok Try.prog 33 [.agg [iA (x1.id), iA (x1.ver), rowI x1.args, rowE x1.events, bA (x1.cut), iA (x1.en)], .agg [rowE oes, iA (oen)]] (plainR (bA b1o)), Ok Try.prog 32 [.agg [iA (x1.id), iA (x1.ver), rowI x1.args, rowE x1.events, bA (x1.cut), iA (x1.en)], .agg [rowE oes, iA (oen)]] (plainR (bA b1o)), Ok Try.prog 11 [.agg [iA (x1.id), iA (x1.ver), rowI x1.args, rowE x1.events, bA (x1.cut), iA (x1.en)]] (plainR (rpA x1))] (by kernel_rfl) (by kernel_rfl) (allc (hNeqB _ _ _ _ _ _ (by simp)) (allc (k1c) (allc (g1c) (allc (hNeqB _ _ _ _ _ _ (by simp)) (allc (k1f) (allc (g1f) (allc (hNeqB _ _ _ _ _ _ (by simp)) (allc (k1o) (allc (g1o) (allc (ok11 x1) allnil)))))))))) ⟨2, by omega, by omega, by kernel_rfl⟩
  · refine Judg.run' 6 (orc []) (.exit 0 (stOf (runCode Try.prog (orc []) (liveOf 6) 0 (fB T6) (st6 x0 x1 oes oen p q u 2)))) [] (by kernel_rfl) (by kernel_rfl) allnil ?_
    show Judg (fK T6) _ _
    refine Judg.clean (L := [2, 3, 4, 11, 13]) (N := [11, 13]) (t := st6m x0 x1 oes oen p q u) (by kernel_rfl) ?_
    refine Judg.pre' 6 (orcC [(89, plainR (iA w))] [(90, .val (iA (w - 1)))]) 1 (stOf (runCode Try.prog (orcC [(89, plainR (iA w))] [(90, .val (iA (w - 1)))]) (liveOf 6) 0 (Ytlekojbcaelpiaa.pre 1 (fK T6)) (st6m x0 x1 oes oen p q u))) [pB .sub 3 (.tmp 89) (.const (.int .i64 1)) (.int .i64 (w)) (.int .i64 (1)) (iA (w - 1)), Ok Try.prog 19 [iA (u), iA (10)] (plainR (iA w))] (by kernel_rfl) (by kernel_rfl) (allc (hSub _ _ _ _ _ _ rfl ⟨by omega, by omega⟩) (allc (h19) allnil)) ?_
    refine Judg.clean (L := [2, 3, 11, 13, 18]) (N := [11, 13]) (t := st6c x0 x1 oes oen p q u w) (by kernel_rfl) ?_
    refine Judg.for_ (ι := Nat) [2, 3, 11, 13, 18, 19] [11, 13] (fun k => st6b x0 oes oen p q u w k) (fun k => 2 - k) (fun k => k ≤ 2) (by kernel_rfl) (orc []) (liveOf 6) (s1 := s6d x0 x1 oes oen p q u w) (by kernel_rfl)
      (by rw [show (s6d x0 x1 oes oen p q u w).log = [] by kernel_rfl]; exact allnil) 0 (Nat.zero_le _) (by kernel_rfl) ?_
    intro k hk
    have hk' : k = 0 ∨ k = 1 ∨ k = 2 := by omega
    rcases hk' with rfl | rfl | rfl
    · exact Judg.run' 6 (orcC [(106, plainR (rpA y0)), (107, plainR (rpA y0)), (117, plainR (rpA y0)), (118, plainR (bA true))] []) (.go (stOf (runCode Try.prog (orcC [(106, plainR (rpA y0)), (107, plainR (rpA y0)), (117, plainR (rpA y0)), (118, plainR (bA true))] []) (liveOf 6) 0 (fB T6b) (st6b x0 oes oen p q u w 0)))) [Ok Try.prog 23 [rpA y0, rpA y0] (plainR (bA true)), Ok Try.prog 35 [iA (q), iA (p), rowI x0.args, .agg [rowE oes, iA (oen)], iA (w - 1)] (plainR (rpA y0)), Ok Try.prog 24 [rpA y0] (plainR (rpA y0)), Ok Try.prog 34 [iA (q), iA (p), rowI x0.args, .agg [rowE oes, iA (oen)], iA (w - 1)] (plainR (rpA y0))] (by kernel_rfl) (by kernel_rfl) (allc (m230) (allc (m350) (allc (ok24 y0) (allc (m340) allnil)))) ⟨1, by omega, by omega, by kernel_rfl⟩
    · exact Judg.run' 6 (orcC [(106, plainR (rpA y1)), (107, plainR (rpA y1)), (117, plainR (rpA y1)), (118, plainR (bA true))] []) (.go (stOf (runCode Try.prog (orcC [(106, plainR (rpA y1)), (107, plainR (rpA y1)), (117, plainR (rpA y1)), (118, plainR (bA true))] []) (liveOf 6) 0 (fB T6b) (st6b x0 oes oen p q u w 1)))) [Ok Try.prog 23 [rpA y1, rpA y1] (plainR (bA true)), Ok Try.prog 35 [iA (q), iA (p), rowI x0.args, .agg [rowE oes, iA (oen)], iA (u)] (plainR (rpA y1)), Ok Try.prog 24 [rpA y1] (plainR (rpA y1)), Ok Try.prog 34 [iA (q), iA (p), rowI x0.args, .agg [rowE oes, iA (oen)], iA (u)] (plainR (rpA y1))] (by kernel_rfl) (by kernel_rfl) (allc (m231) (allc (m351) (allc (ok24 y1) (allc (m341) allnil)))) ⟨2, by omega, by omega, by kernel_rfl⟩
    · refine Judg.run' 6 (orc []) (.exit 2 (stOf (runCode Try.prog (orc []) (liveOf 6) 0 (fB T6b) (st6b x0 oes oen p q u w 2)))) [] (by kernel_rfl) (by kernel_rfl) allnil ?_
      show Judg (fK T6b) _ _
      exact Judg.run' 6 (orcC [(120, plainR (bA true))] []) (.ret (stOf (runCode Try.prog (orcC [(120, plainR (bA true))] []) (liveOf 6) 0 (fK T6b) ((stOf (runCode Try.prog (orc []) (liveOf 6) 0 (fB T6b) (st6b x0 oes oen p q u w 2))))))) [Ok Try.prog 16 [] (plainR (bA true))] (by kernel_rfl) (by kernel_rfl) (allc (ok16) allnil) (fin_retW (l := []) _ (by kernel_rfl) allnil (ResImp.refl _))
end Go.Proofs.Ytlekojbcaelpiaa

/- ReportAgrees returns true, for all inputs of bulk at most 1048576. -/
namespace Go.Proofs.Ytlekojbcaelpiaa
open Go.ChangeShapes Go.WideShapes Go.ChangeAt Go.RowKit
theorem agr32 (r : Rp) (es : List Ev) (en : Int) (hr : Fit r) (he : es.length ≤ 1000000) : Ok Try.prog 32 [rpA r, outA es en] (plainR (bA (agrR r es en))) := by
  have h := ok32 r es en hr he
  rw [agrees_eq] at h; exact h
theorem rowcat (a b : List Ev) : AV.row none 3 (0 + a.length + b.length) ([] ++ evA a ++ evA b) = rowE (a ++ b) := by
  unfold rowE
  rw [List.length_append, evA_append, List.nil_append, Nat.zero_add]
theorem law6 (l h : List Int) (p q u : Int) (hl : l.length ≤ 90000000) (hw : I64s l) (hlh : h.length ≤ 90000000) (hwh : I64s h) (hp : I64 p) (hq : I64 q) (hu : I64 u) : Ok Try.prog 6 [rowI l, rowI h, iA p, iA q, iA u] (plainR (bA true)) := by
  have s0 := sz_one l
  have s1 := sz_spoilt s0 p q hq
  have f0 := s0.fit (by omega) (by omega)
  have f1 := s1.fit (by omega) (by omega)
  have h31 := ok31 h (by omega) hwh
  have hle := evsOf'_le h
  have hev := evsOf'_ok h (min h.length 9)
  have hen := atZ_bd h 0 3 (by omega) (by omega)
  have h8 := ok8 l (by omega) hw
  have h9 := ok9 (oneR l) p q hp hq (by have := f0.la; omega) (by have := f0.le; omega)
  generalize evsOf' h (min h.length 9) = oes at *
  generalize atZ h 0 3 = oen at *
  generalize spoiltR (oneR l) p q = x1 at *
  generalize oneR l = x0 at *
  have hx8 : x0.events.length ≤ 8 := s0.2.1
  have hcat : ∀ x : Rp, Fit x → Ok Try.prog 32 [rpA x, .agg [.row none 3 (0 + x0.events.length + oes.length) ([] ++ evA x0.events ++ evA oes), iA oen]] (plainR (bA (agrR x (x0.events ++ oes) oen))) := fun x fx => by
    rw [rowcat]
    exact agr32 x (x0.events ++ oes) oen fx (by simp; omega)
  have hcat2 : ∀ x : Rp, Ok Try.prog 33 [rpA x, .agg [.row none 3 (0 + x0.events.length + oes.length) ([] ++ evA x0.events ++ evA oes), iA oen]] (plainR (bA (agrR x (x0.events ++ oes) oen))) := fun x => by
    rw [rowcat]
    exact ok33 x (x0.events ++ oes) oen (by simp; omega)
  have a10 := aroundZ_bd u 10 (by omega) (by omega)
  have hcut : ∀ ev : Int, Fit (cutRef q p x0.args oes oen ev) := fun ev => (sz_cut hq hp (i64_small (by omega) (by omega)) s0.2.2.args hev s0.1 hle).fit (by omega) (by omega)
  have hs : ∀ ev : Int, Ok Try.prog 23 [rpA (cutRef q p x0.args oes oen ev), rpA (cutRef q p x0.args oes oen ev)] (plainR (bA true)) := fun ev => by
    have h := ok23 _ _ (hcut ev) (hcut ev)
    rw [sameR_refl] at h; exact h
  exact law6_any l h p q u (aroundZ u 10) x0 x1 (cutRef q p x0.args oes oen (aroundZ u 10 - 1)) (cutRef q p x0.args oes oen u) oes oen _ _ _ _ _ _ (by omega) (by omega) a10 h8 h9 h31 (ok19 u 10 (by omega) (by omega) hu)
    (agr32 x0 oes oen f0 (by omega)) (ok33 x0 oes oen (by omega)) (agr32 x0 x0.events x0.en f0 (by omega)) (ok33 x0 x0.events x0.en (by omega)) (hcat x0 f0) (hcat2 x0)
    (agr32 x1 oes oen f1 (by omega)) (ok33 x1 oes oen (by omega)) (agr32 x1 x0.events x0.en f1 (by omega)) (ok33 x1 x0.events x0.en (by omega)) (hcat x1 f1) (hcat2 x1)
    (ok34 q p oen _ x0.args oes (by have := s0.1; omega) (by omega)) (ok35 q p oen _ x0.args oes) (hs _) (ok34 q p oen u x0.args oes (by have := s0.1; omega) (by omega)) (ok35 q p oen u x0.args oes) (hs u)

set_option maxRecDepth 100000 in
theorem reportAgrees_contract (H : Type) (enc : TypeId × Value → H) (W : World) (base : Nat) (args : Array Value) (ds gs : List (DataW H)) (before : List MemPlace)
    (hval : ∀ (j : Nat) t v, Try.f6.params[j]? = some t → args[j]? = some v → Value.okWide Try.prog W .any base t v)
    (hW : DataW.Whole enc Try.prog Try.f6.params.toList Rows.reportAgreesSpec.vars false W args.toList ds gs before) (hk : Rows.uptoSmall H (ds ++ gs) = true) :
    Calls Try.prog 6 args W fun e W' => ∃ v, e = .returned v ∧ Rows.reportAgreesSpec.post enc Try.prog Try.f6 false true false false W args v W' := by
  have hW' := hW
  obtain ⟨p, q, hA0, hV, rfl, hfz, hnd⟩ := hW
  have hA : DataW.TrodAll enc Try.prog W 0 (fun _ => true) true Try.f6.params.toList args.toList ds p := hA0
  rw [Try.params6] at hA hval
  obtain ⟨v0, vs0, d0, ds0, p0, q0, hargs, rfl, rfl, h0, r0⟩ := trodAll_cons hA
  obtain ⟨v1, vs1, d1, ds1, p1, q1, rfl, rfl, rfl, h1, r1⟩ := trodAll_cons r0
  obtain ⟨v2, vs2, d2, ds2, p2, q2, rfl, rfl, rfl, h2, r2⟩ := trodAll_cons r1
  obtain ⟨v3, vs3, d3, ds3, p3, q3, rfl, rfl, rfl, h3, r3⟩ := trodAll_cons r2
  obtain ⟨v4, vs4, d4, ds4, p4, q4, rfl, rfl, rfl, h4, r4⟩ := trodAll_cons r3
  obtain ⟨rfl, rfl, rfl⟩ := trodAll_nil r4
  obtain rfl : args = #[v0, v1, v2, v3, v4] := by cases args; simp_all
  obtain ⟨rfl, rfl⟩ := trodVars_none hV
  obtain ⟨a2, rfl, rfl, rfl, w2⟩ := open_int Try.underlying3 (hval 2 3 v2 rfl rfl) h2
  obtain ⟨a3, rfl, rfl, rfl, w3⟩ := open_int Try.underlying3 (hval 3 3 v3 rfl rfl) h3
  obtain ⟨a4, rfl, rfl, rfl, w4⟩ := open_int Try.underlying3 (hval 4 3 v4 rfl rfl) h4
  clear hA0
  simp only [List.append_nil, List.nil_append] at hW' hk
  have hlt0 : ∀ x ∈ p0, x.block < W.heap.size := fun x hx => hW'.lt x (by simp [hx])
  obtain ⟨l0, hV0, hw0, hb0⟩ := open22 (okWide_slice Try.underlying22 (hval 0 22 v0 rfl rfl)) h0 hlt0
  have hlt1 : ∀ x ∈ p1, x.block < W.heap.size := fun x hx => hW'.lt x (by simp [hx])
  obtain ⟨l1, hV1, hw1, hb1⟩ := open22 (okWide_slice Try.underlying22 (hval 1 22 v1 rfl rfl)) h1 hlt1
  have hbulk : Rows.uptoBulkAll (H := H) [d0, d1, .lit (.int .i64 a2), .lit (.int .i64 a3), .lit (.int .i64 a4)] ≤ 1048576 := bound_of hk
  simp only [Rows.uptoBulkAll] at hbulk
  have hcall := (law6 l0 l1 a2 a3 a4 (by omega) hw0 (by omega) hw1 (wf_I64 w2) (wf_I64 w3) (wf_I64 w4)).2 W (pr0 W) [v0, v1, .int .i64 a2, .int .i64 a3, .int .i64 a4] (pr0_lt W) ⟨_, _, rfl, hV0, _, _, rfl, hV1, _, _, rfl, rfl, _, _, rfl, rfl, _, _, rfl, rfl, rfl⟩
  refine hcall.mono ?_
  rintro e W' ⟨v, pr', rfl, hbel, _, _, hres, _⟩
  have hv : v = .bool true := hres
  subst hv
  refine ⟨_, rfl, _, _, _, [], (p0 ++ (p1 ++ ([] ++ ([] ++ ([] ++ []))))), [], hW', ?_, ?_, rfl, hbel.frame _, fun h => by cases h⟩
  · show DataW.TrodAll enc Try.prog W' _ _ false [4] [.bool true] [.lit (.bool true)] []
    exact trodAll_cons_mk (p := []) (p' := []) (shut_bool Try.underlying4 _) trodAll_mk0
  · show DataW.TrodAll enc Try.prog W' 0 _ true [22, 22, 3, 3, 3] [v0, v1, .int .i64 a2, .int .i64 a3, .int .i64 a4] [d0, d1, .lit (.int .i64 a2), .lit (.int .i64 a3), .lit (.int .i64 a4)] _
    exact trodAll_cons_mk (keep22 h0 hbel hlt0) (trodAll_cons_mk (keep22 h1 hbel hlt1) (trodAll_cons_mk (shut_int Try.underlying3 w2) (trodAll_cons_mk (shut_int Try.underlying3 w3) (trodAll_cons_mk (shut_int Try.underlying3 w4) (trodAll_mk0)))))

set_option maxRecDepth 100000 in
theorem reportAgrees_lifted (os : Os) (started : os.Started) (H : Type) (enc : TypeId × Value → H) (F : Stop.Interp) :
    ReturnsInHanded {} Try.checked os 6 .any ((Rows.OpenSpec.upto Rows.reportAgreesSpec).pre6 enc Try.prog Try.f6 Rows.reportAgreesUptoRow.domain false) (((Rows.OpenSpec.upto Rows.reportAgreesSpec).at F).post enc Try.prog Try.f6 false true false false) := by
  refine returnsInHanded_of_cond (C := Try.checked) (s := Rows.OpenSpec.upto Rows.reportAgreesSpec) (k := Rows.uptoSmall) rfl own0 started (by kernel_rfl) Try.func6
    (OpenSpec.witness (enc := enc) (C := Try.checked) (s := Rows.OpenSpec.upto Rows.reportAgreesSpec) (k := Rows.uptoSmall) rfl false ⟨#[], #[.slice none 0 0, .slice none 0 0, .int .i64 0, .int .i64 0, .int .i64 0], []⟩ 8 (by kernel_rfl) (by kernel_rfl) (by kernel_rfl)
      (x := ([.nil, .nil, .lit (.int .i64 0), .lit (.int .i64 0), .lit (.int .i64 0)], [], [])) (by kernel_rfl) rfl (by kernel_rfl)) ?_
  intro W base args ds gs before hval hW _ hk _
  exact reportAgrees_contract H enc W base args ds gs before hval hW hk
theorem reportAgreesUpto_proved : Rows.ReportAgreesUptoSaid :=
  OpenClaim.holds_of_cond 6 Try.f6 rfl rfl rfl rfl rfl rfl rfl ⟨rfl, rfl, rfl, rfl, rfl⟩ rfl rfl rfl rfl rfl (by kernel_rfl) Try.func6 (by kernel_rfl)
    (of_decide_eq_true (by kernel_rfl)) (by unfold Func.isWrapper; first | (rw [if_pos (by decide +kernel)]; kernel_rfl) | (rw [if_neg (by decide +kernel)]; exact ⟨rfl, rfl⟩))
    (fun os started H enc _ F => reportAgrees_lifted os started H enc F)
end Go.Proofs.Ytlekojbcaelpiaa
