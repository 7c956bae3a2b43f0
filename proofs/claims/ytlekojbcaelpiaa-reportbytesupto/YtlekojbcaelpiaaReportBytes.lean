/- ReportBytes returns true, for all inputs of bulk at most 1048576. -/
import Derived.Test.YtlekojbcaelpiaaBa5
set_option linter.unusedVariables false
set_option linter.unusedSimpArgs false

/- Facts for ReportMerges: rows of numbers, sums that wrap, lists merged twice. -/
namespace Go.Proofs.Ytlekojbcaelpiaa
open Go.RowKit
theorem idxI {tok : Option (Nat × Nat)} {l : List Int} {k : Nat} {x : Int} (hx : l[k]? = some x) : cmdIndexAddr Try.prog 22 (.row tok 1 l.length (l.map iA)) (iA k) = some (.val (.rptr (iA x :: (l.drop (k + 1)).map iA))) := by
  have h := el22.idx (tok := tok) (n := l.length) (k := k) (xs := l.map iA) (List.getElem?_eq_some_iff.1 hx).1
  rw [h, Nat.mul_one, ← List.map_drop, drop_at hx, List.map_cons]
theorem hAddW (t : TypeId) (x y : Operand) (a b c : Int) (h : IntKind.i64.wrap (a + b) = c) : pB .add t x y (.int .i64 a) (.int .i64 b) (iA c) := by
  subst h
  have e : (peek Try.prog (do eqGuard .add t x y (.int .i64 a) (.int .i64 b); binOp .add t (.int .i64 a) (.int .i64 b))).map (fun v => Cmd.val (.sc v)) = some (.val (iA (IntKind.i64.wrap (a + b)))) := rfl
  exact e
theorem wrap_I64 (n : Int) : I64 (IntKind.i64.wrap n) := by rw [IntKind.wrap_i64]; constructor <;> omega
theorem tmod3 (y : Int) : I64 (y.tmod 3) := by
  have h1 := Int.tmod_lt_of_pos y (b := 3) (by omega)
  have h2 : -3 < y.tmod 3 := Int.lt_tmod_of_pos y (by omega)
  exact ⟨by omega, by omega⟩
theorem sameR_refl (r : Rp) : sameR r r = true := eqI_refl _
theorem samesB_refl (l : List Rp) : samesB l l = true := by
  rw [samesB_iff]
  refine ⟨rfl, fun k x y hx hy => ?_⟩
  rw [hx] at hy; cases hy; exact sameR_refl x
theorem wrongR_len (con : Rp → Rp → Bool) (l : List Rp) : (wrongR con l).length ≤ l.length := by
  unfold wrongR; rw [List.length_map]; exact List.length_filter_le _ _
theorem dbl_len (l : List Rp) : (l.reverse.flatMap fun x => [x, x]).length = 2 * l.length := by
  have h : ∀ l : List Rp, (l.flatMap fun x => [x, x]).length = 2 * l.length := fun l => by
    induction l with
    | nil => rfl
    | cons x l ih => rw [List.flatMap_cons, List.length_append, ih]; simp; omega
  rw [h, List.length_reverse]
/-- both ways to say that a report fits an outcome -/
theorem agrees_eq (r : Rp) (es : List Ev) (en : Int) : agreesB r es en = agrR r es en := by
  unfold agreesB agrR begB sameOut eqE
  have hp : r.events <+: es ↔ r.events.length ≤ es.length ∧ r.events = es.take r.events.length := by
    constructor
    · intro h; exact ⟨h.length_le, (List.prefix_iff_eq_take.1 h)⟩
    · intro h; exact List.prefix_iff_eq_take.2 h.2
  cases hc : r.cut with
  | true =>
    simp only [if_true, Bool.true_or, Bool.and_true]
    rw [Bool.eq_iff_iff]
    simp only [Bool.and_eq_true, decide_eq_true_eq]
    exact hp.symm
  | false =>
    simp only [Bool.false_eq_true, if_false, Bool.false_or]
    rw [Bool.eq_iff_iff]
    simp only [Bool.and_eq_true, decide_eq_true_eq]
    constructor
    · rintro ⟨h1, h2⟩
      exact ⟨by rw [h1]; exact List.prefix_rfl, by rw [h1], h2.symm⟩
    · rintro ⟨h1, h2, h3⟩
      exact ⟨h1.eq_of_length h2.symm, h3.symm⟩
theorem take_min {a b : List Ev} : a.take (min a.length b.length) = b.take (min a.length b.length) ↔ a <+: b ∨ b <+: a := by
  constructor
  · intro h
    rcases Nat.le_total a.length b.length with hl | hl
    · rw [Nat.min_eq_left hl, List.take_length] at h
      exact .inl (by rw [h]; exact List.take_prefix _ _)
    · rw [Nat.min_eq_right hl, List.take_length] at h
      exact .inr (by rw [← h]; exact List.take_prefix _ _)
  · rintro (h | h)
    · have hl := h.length_le
      rw [Nat.min_eq_left hl, List.take_length]
      exact List.prefix_iff_eq_take.1 h
    · have hl := h.length_le
      rw [Nat.min_eq_right hl, List.take_length]
      exact (List.prefix_iff_eq_take.1 h).symm
theorem contr_eq : contrR = contrB := by
  funext a b
  unfold contrR contrB
  rw [agrees_eq, agrees_eq]
  split
  · rfl
  split
  · rfl
  split
  · unfold begB eqE
    rw [Bool.eq_iff_iff]
    simp only [Bool.and_eq_true, Bool.not_eq_true', decide_eq_false_iff_not, take_min]
    constructor
    · rintro ⟨h1, h2⟩ (h | h)
      · exact h2 h
      · exact h1 h
    · intro h; exact ⟨fun h1 => h (.inr h1), fun h1 => h (.inl h1)⟩
  · rfl
/-- what is sorted, valid and of different numbers is merged into itself -/
theorem fold_of {l c : List Rp} (hs : Srt c) (h : (firsts l).Perm c) : foldR l = c := srt_eq (fold_perm l).1 hs ((fold_perm l).2.trans h)
theorem firsts_nodup : ∀ (d acc : List Rp), (∀ x ∈ d, validB x = true) → ((acc ++ d).map (·.id)).Nodup → d.foldl stepM acc = acc ++ d
  | [], acc, _, _ => by simp
  | x :: d, acc, hv, hn => by
    have hx : x.id ∉ acc.map (·.id) := fun h => by
      rw [List.map_append, List.map_cons, List.nodup_append] at hn
      exact hn.2.2 _ h _ (by simp) rfl
    rw [List.foldl_cons]
    have e : stepM acc x = acc ++ [x] := by unfold stepM; rw [if_pos ⟨hv x (by simp), hx⟩]
    rw [e, firsts_nodup d (acc ++ [x]) (fun y hy => hv y (by simp [hy])) (by simpa using hn)]
    simp
theorem firsts_dbl : ∀ (d acc : List Rp), (∀ x ∈ d, validB x = true) → ((acc ++ d).map (·.id)).Nodup → (d.flatMap fun x => [x, x]).foldl stepM acc = acc ++ d
  | [], acc, _, _ => by simp
  | x :: d, acc, hv, hn => by
    have hx : x.id ∉ acc.map (·.id) := fun h => by
      rw [List.map_append, List.map_cons, List.nodup_append] at hn
      exact hn.2.2 _ h _ (by simp) rfl
    rw [List.flatMap_cons, List.foldl_append, List.foldl_cons, List.foldl_cons, List.foldl_nil]
    have e : stepM acc x = acc ++ [x] := by unfold stepM; rw [if_pos ⟨hv x (by simp), hx⟩]
    have e2 : stepM (acc ++ [x]) x = acc ++ [x] := by unfold stepM; rw [if_neg (fun h => h.2 (by simp))]
    rw [e, e2, firsts_dbl d (acc ++ [x]) (fun y hy => hv y (by simp [hy])) (by simpa using hn)]
    simp
theorem srt_nodup {c : List Rp} (h : Srt c) : (c.map (·.id)).Nodup := by
  rw [List.nodup_iff_pairwise_ne, List.pairwise_map]
  exact h.imp fun h => by omega
theorem fold_fold (l : List Rp) : foldR (foldR l) = foldR l := by
  refine fold_of (fold_perm l).1 ?_
  have := firsts_nodup (foldR l) [] (fun x hx => (fold_mem hx).2) (by simpa using srt_nodup (fold_perm l).1)
  unfold firsts
  rw [this]; simp
theorem fold_back (l : List Rp) : foldR ((foldR l).reverse.flatMap fun x => [x, x]) = foldR l := by
  refine fold_of (fold_perm l).1 ?_
  have := firsts_dbl (foldR l).reverse [] (fun x hx => (fold_mem (by simpa using hx)).2) (by
    rw [List.nil_append, List.map_reverse]; exact (List.reverse_perm _).nodup_iff.2 (srt_nodup (fold_perm l).1))
  unfold firsts
  rw [this]; simp
end Go.Proofs.Ytlekojbcaelpiaa

/- The encoding of reports is canonical: both decoders answer alike, and refuse each beginning. -/
namespace Go.Proofs.Ytlekojbcaelpiaa
open Go.RowKit

theorem beV_digs : ∀ (k m : Nat), m < 256 ^ k → beV id (digs m k k) = m
  | 0, m, h => by simp at h; subst h; rfl
  | k + 1, m, h => by
    have e : m = (m / 256) * 256 + m % 256 := by omega
    have hm : m / 256 < 256 ^ k := by rw [Nat.pow_succ] at h; omega
    have ih := beV_digs k (m / 256) hm
    conv => lhs; rw [e]
    rw [digs_snoc _ _ _ (by omega), beV_snoc, ih]
    simp; omega
theorem encZ_U8 {v : Int} (h : I64 v) : U8s (encZ v) := encZ_u8 v h
/-- what has been written is read -/
theorem enc_get {v : Int} (h : I64 v) (t : List Int) (ht : U8s t) : getZ (encZ v ++ t) = (v, (encZ v).length, 0) := by
  have hu : U8s (encZ v ++ t) := fun x hx => by
    rcases List.mem_append.1 hx with hx | hx
    · exact encZ_U8 h x hx
    · exact ht x hx
  rw [← refZ_getZ _ hu]
  have hm := mag_lt v h.1 h.2
  have hnb := nb_le (mag v) hm
  obtain ⟨hs1, hs2⟩ := nb_spec (mag v) hm
  obtain ⟨k, hk⟩ : ∃ k, nb (mag v) = k := ⟨_, rfl⟩
  obtain ⟨x0, hx0⟩ : ∃ x0, headB v = x0 := ⟨_, rfl⟩
  have hneg : (v < 0 ↔ x0 < 128) := by rw [← hx0]; unfold headB; split <;> omega
  have hfx : fl x0 x0 - 128 = k := by
    rw [← hx0, ← hk]; unfold headB fl
    by_cases hv : v < 0
    · rw [if_pos hv, if_pos (by omega)]; omega
    · rw [if_neg hv, if_neg (by omega)]; omega
  have hlo : ¬ (x0 < 119 ∨ 136 < x0) := by rw [← hx0]; unfold headB; split <;> omega
  obtain ⟨ds, hds⟩ : ∃ ds, (digs (mag v) k k).map (flipB v) = ds := ⟨_, rfl⟩
  have hlen : ds.length = k := by rw [← hds, List.length_map, digs_length]
  have henc : encZ v = x0 :: ds := by unfold encZ; rw [hk, hx0, hds]
  have hdU : U8s ds := fun x hx => encZ_U8 h x (by rw [henc]; simp [hx])
  have hflip : ds.map (fl x0) = digs (mag v) k k := by
    rw [← hds, List.map_map]
    have : (fl x0 ∘ flipB v) = id := funext fun c => by
      show fl x0 (flipB v c) = c
      unfold fl flipB
      by_cases hv : v < 0
      · rw [if_pos (hneg.1 hv), if_pos hv]; omega
      · rw [if_neg (fun hh => hv (hneg.2 hh)), if_neg hv]
    rw [this, List.map_id]
  have hbd : ∀ c ∈ ds, 0 ≤ fl x0 c ∧ fl x0 c ≤ 255 := fun c hc => fl_bd (hdU c hc)
  have hM : beV (fl x0) ds = mag v := by
    have h1 := digs_beV (fl x0) ds hbd
    rw [hlen, hflip] at h1
    have h2 := beV_lt (fl x0) ds fun c hc => (hbd c hc).2
    rw [hlen] at h2
    rw [← beV_digs k _ h2, h1, beV_digs k _ (by rw [← hk]; exact hs1)]
  have hnum : numZ x0 (mag v) = v := by
    unfold numZ mag
    by_cases hv : v < 0
    · rw [if_pos (hneg.1 hv), if_pos hv]; omega
    · rw [if_neg (fun hh => hv (hneg.2 hh)), if_neg hv]; omega
  rw [henc, List.cons_append]
  unfold refZ
  simp only
  rw [if_neg hlo, hfx, Int.toNat_natCast]
  have htk : (ds ++ t).take k = ds := by rw [List.take_append_of_le_length (by omega), List.take_of_length_le (by omega)]
  rw [if_neg (by rw [List.length_append]; omega), htk, hM, if_neg (by omega), hnum, henc, if_pos rfl]
  simp [hlen]
theorem get_enc {b : List Int} (hu : U8s b) {v : Int} {n : Nat} (h : getZ b = (v, n, 0)) : encZ v = b.take n ∧ n ≤ b.length ∧ I64 v ∧ 1 ≤ n := by
  rcases getZ_form b hu with ⟨e, he, hz⟩ | ⟨v', n', hz, h1, h2, h3, h4, h5⟩
  · rw [h] at hz; cases hz; omega
  rw [h] at hz; cases hz
  refine ⟨?_, h2, ⟨h4, by omega⟩, h1⟩
  rw [← refZ_getZ b hu] at h
  unfold refZ at h
  cases b with
  | nil => cases h
  | cons x0 t =>
    simp only at h
    split at h
    · cases h
    split at h
    · cases h
    split at h
    · cases h
    split at h
    · rename_i hc
      cases h
      rw [hc]; rfl
    · cases h
theorem rd_enc : ∀ (l acc p t : List Int), I64s l → U8s (p ++ l.flatMap encZ ++ t) → rdZ (p ++ l.flatMap encZ ++ t) l.length p.length acc = (0, acc ++ l, p.length + (l.flatMap encZ).length)
  | [], acc, p, t, _, _ => by simp [rdZ]
  | x :: l, acc, p, t, hl, hu => by
    have hg : getZ ((p ++ (x :: l).flatMap encZ ++ t).drop p.length) = (x, (encZ x).length, 0) := by
      rw [List.append_assoc, List.drop_left, List.flatMap_cons, List.append_assoc]
      exact enc_get (hl x (by simp)) _ fun y hy => hu y (by
        rw [List.flatMap_cons]
        simp only [List.mem_append] at hy ⊢
        rcases hy with hy | hy
        · exact .inl (.inr (.inr hy))
        · exact .inr hy)
    rw [List.length_cons, rdZ_ok _ _ _ _ _ _ hg]
    have e : p ++ (x :: l).flatMap encZ ++ t = (p ++ encZ x) ++ l.flatMap encZ ++ t := by rw [List.flatMap_cons]; simp
    have ih := rd_enc l (acc ++ [x]) (p ++ encZ x) t (fun y hy => hl y (by simp [hy])) (by rw [← e]; exact hu)
    rw [List.length_append] at ih
    rw [e, ih]
    simp [List.flatMap_cons]; omega
theorem flat_ge (l : List Int) : l.length ≤ (l.flatMap encZ).length := by
  induction l with
  | nil => simp
  | cons x l ih => rw [List.flatMap_cons, List.length_append, encZ_length, List.length_cons]; omega
theorem enc_gets {l : List Int} (hl : I64s l) (hn : l.length ≤ 1000000000) (t : List Int) (ht : U8s t) : getsZ (encInts l ++ t) = (0, l, (encInts l).length) := by
  have hi : I64 (l.length : Int) := ⟨by omega, by omega⟩
  have hu : U8s (encInts l ++ t) := fun x hx => by
    rcases List.mem_append.1 hx with hx | hx
    · exact encInts_u8 l hl hn x hx
    · exact ht x hx
  have e : encInts l ++ t = encZ l.length ++ (l.flatMap encZ ++ t) := by unfold encInts; simp
  have hg : getZ (encInts l ++ t) = ((l.length : Int), (encZ l.length).length, 0) := by
    rw [e]
    exact enc_get hi _ fun x hx => hu x (by rw [e]; exact List.mem_append.2 (.inr hx))
  have hc := cntZ_ok _ _ _ hg (by omega) (by
    have := flat_ge l
    rw [e]; simp only [List.length_append]; omega)
  rw [getsZ_ok _ _ _ hc, Int.toNat_natCast]
  have := rd_enc l [] (encZ l.length) t hl (by rw [List.append_assoc, ← e]; exact hu)
  rw [List.append_assoc, ← e] at this
  rw [this]
  simp [encInts]
theorem rd_read : ∀ (j k : Nat) (acc : List Int) (b : List Int), U8s b → k ≤ b.length → ∀ l n, rdZ b j k acc = (0, l, n) → ∃ l', l = acc ++ l' ∧ l'.length = j ∧ k ≤ n ∧ n ≤ b.length ∧ (b.drop k).take (n - k) = l'.flatMap encZ
  | 0, k, acc, b, _, hk, l, n, h => by
    simp [rdZ] at h
    obtain ⟨rfl, rfl⟩ := h
    exact ⟨[], by simp, rfl, Nat.le_refl _, hk, by simp⟩
  | j + 1, k, acc, b, hu, hk, l, n, h => by
    rcases getZ_form (b.drop k) (hu.drop k) with ⟨e, he, hz⟩ | ⟨v, m, hz, h1, h2, _⟩
    · rw [rdZ_bad _ _ _ _ _ _ _ hz (by omega)] at h
      simp at h; omega
    · rw [rdZ_ok _ _ _ _ _ _ hz] at h
      obtain ⟨g1, g2, g3, _⟩ := get_enc (hu.drop k) hz
      rw [List.length_drop] at h2
      obtain ⟨l', q1, q2, q3, q4, q5⟩ := rd_read j (k + m) (acc ++ [v]) b hu (by omega) l n h
      refine ⟨v :: l', by rw [q1]; simp, by simp [q2], by omega, q4, ?_⟩
      rw [List.flatMap_cons, g1, ← q5]
      have e1 : (b.drop k).take (n - k) = (b.drop k).take (m + (n - (k + m))) := by congr 1; omega
      rw [e1, List.take_add, List.drop_drop]
theorem gets_read {b l : List Int} {n : Nat} (hu : U8s b) (h : getsZ b = (0, l, n)) : b.take n = encInts l ∧ n ≤ b.length ∧ I64s l ∧ l.length ≤ b.length := by
  have hform := getsZ_form b hu
  rcases hform with ⟨e, he, hz⟩ | ⟨l', n', hz, q1, q2, q3⟩
  · rw [h] at hz; cases hz; omega
  rw [h] at hz; cases hz
  refine ⟨?_, q1, q3, q2⟩
  rcases cntZ_form b hu with ⟨v, m, e, hc, he⟩ | ⟨N, m, hc, hN⟩
  · rw [getsZ_bad b v m e hc (by omega)] at h; cases h; omega
  · rw [getsZ_ok b N m hc, Int.toNat_natCast] at h
    have hg : getZ b = ((N : Int), m, 0) := by
      unfold cntZ at hc
      split at hc
      · rename_i hne; rw [hc] at hne; simp at hne
      · split at hc
        · simp at hc
        · split at hc
          · simp at hc
          · exact hc
    obtain ⟨g1, g2, g3, _⟩ := get_enc hu hg
    obtain ⟨l', r1, r2, r3, r4, r5⟩ := rd_read N m [] b hu (by omega) l n h
    rw [List.nil_append] at r1
    subst r1
    unfold encInts
    rw [r2, g1, ← r5, ← List.take_add]
    congr 1; omega
end Go.Proofs.Ytlekojbcaelpiaa

/- Both decoders of reports answer alike; what is encoded is decoded; a beginning is refused. -/
namespace Go.Proofs.Ytlekojbcaelpiaa
open Go.RowKit
theorem nums_of_evs3 : ∀ (l : List Int), l.length % 3 = 0 → nums (evs3 l) = l
  | [], _ => rfl
  | [a], h => by simp at h
  | [a, b], h => by simp at h
  | a :: b :: c :: l, h => by
    have := nums_of_evs3 l (by simp at h; omega)
    simp only [evs3, nums, List.flatMap_cons, nums3] at this ⊢
    rw [this]; rfl
theorem evs3_of_nums : ∀ (l : List Ev), evs3 (nums l) = l
  | [] => rfl
  | ⟨p, k, n⟩ :: l => by
    have := evs3_of_nums l
    simp only [nums, List.flatMap_cons, nums3] at this ⊢
    simp only [List.cons_append, List.nil_append, evs3]
    rw [this]
theorem preB_iff (b p : List Int) : preB b p = true ↔ ∃ t, b = p ++ t := by
  unfold preB eqI
  simp only [Bool.and_eq_true, decide_eq_true_eq]
  constructor
  · rintro ⟨_, h2⟩
    exact ⟨b.drop p.length, by conv => lhs; rw [← List.take_append_drop p.length b, h2]⟩
  · rintro ⟨t, rfl⟩
    exact ⟨by simp, by simp⟩
theorem U8s.left {a b : List Int} (h : U8s (a ++ b)) : U8s a := fun x hx => h x (List.mem_append.2 (.inl hx))
theorem U8s.right {a b : List Int} (h : U8s (a ++ b)) : U8s b := fun x hx => h x (List.mem_append.2 (.inr hx))
/-- a report that has been written is read -/
theorem read_enc (x : Rp) (h : Fit x) (t : List Int) (ht : U8s t) : readR (bytesR x ++ t) = some x ∧ getsZ (bytesR x ++ t) = (0, [x.id, x.ver, cutN x.cut, x.en], (encInts [x.id, x.ver, cutN x.cut, x.en]).length) := by
  have hu : U8s (bytesR x ++ t) := fun y hy => by
    rcases List.mem_append.1 hy with hy | hy
    · exact bytesR_u8 x h y hy
    · exact ht y hy
  have e1 : bytesR x ++ t = encInts [x.id, x.ver, cutN x.cut, x.en] ++ (encInts x.args ++ (encInts (nums x.events) ++ t)) := by unfold bytesR; simp
  rw [e1] at hu ⊢
  have u2 := hu.right
  have u3 := u2.right
  have g1 := enc_gets h.wf.four (by simp) _ u2
  have g2 := enc_gets h.wf.args (by have := h.la; omega) _ u3
  have g3 := enc_gets h.wf.evs (by rw [nums_length]; have := h.le; omega) _ ht
  refine ⟨?_, g1⟩
  unfold readR
  rw [g1]
  simp only [List.drop_left]
  rw [g2]
  simp only [List.drop_left]
  rw [g3]
  simp only [ne_eq, not_true, if_false]
  rw [if_neg (by rw [nums_length]; omega), evs3_of_nums]
  obtain ⟨id, ver, args, evs, cut, en⟩ := x
  cases cut <;> rfl
theorem dec_enc (x : Rp) (h : Fit x) (hv : validB x = true) (t : List Int) (ht : U8s t) : decB (bytesR x ++ t) = some (x, (bytesR x).length) := by
  have he : encB x = bytesR x := by unfold encB; rw [if_pos hv]
  unfold decB
  rw [(read_enc x h t ht).1]
  simp only
  rw [he]
  have hpos : 0 < (bytesR x).length := by
    unfold bytesR encInts
    simp only [List.length_append, encZ_length]; omega
  rw [if_pos ⟨hpos, (preB_iff _ _).2 ⟨t, rfl⟩⟩]
/-- what is read, in full -/
theorem read_parts {b : List Int} (hu : U8s b) {r : Rp} (h : readR b = some r) : ∃ a2 l3 t, I64 a2 ∧ b = encInts [r.id, r.ver, a2, r.en] ++ encInts r.args ++ encInts l3 ++ t ∧ l3.length % 3 = 0 ∧ r.events = evs3 l3 ∧ r.cut = (a2 == 1) ∧ I64s [r.id, r.ver, a2, r.en] ∧
    getsZ b = (0, [r.id, r.ver, a2, r.en], (encInts [r.id, r.ver, a2, r.en]).length) ∧ getsZ (b.drop (encInts [r.id, r.ver, a2, r.en]).length) = (0, r.args, (encInts r.args).length) ∧
    getsZ (b.drop ((encInts [r.id, r.ver, a2, r.en]).length + (encInts r.args).length)) = (0, l3, (encInts l3).length) := by
  unfold readR at h
  rcases getsZ_form b hu with ⟨e, he, hz⟩ | ⟨l1, n1, hz1, _⟩
  · rw [hz, if_pos (by simp; omega)] at h; cases h
  rw [hz1] at h
  simp only [ne_eq, not_true, if_false] at h
  split at h
  case h_2 => cases h
  rename_i a0 a1 a2 a3 _hx
  rcases getsZ_form (b.drop n1) (hu.drop n1) with ⟨e, he, hz⟩ | ⟨l2, n2, hz2, _⟩
  · rw [hz, if_pos (by simp; omega)] at h; cases h
  rw [hz2] at h
  simp only [not_true, if_false] at h
  rcases getsZ_form ((b.drop n1).drop n2) ((hu.drop n1).drop n2) with ⟨e, he, hz⟩ | ⟨l3, n3, hz3, _⟩
  · rw [hz, if_pos (by simp; omega)] at h; cases h
  rw [hz3] at h
  simp only [not_true, if_false] at h
  split at h
  · cases h
  rename_i h3
  simp only [Option.some.injEq] at h
  subst h
  obtain ⟨p1, p2, p3, _⟩ := gets_read hu hz1
  obtain ⟨q1, q2, q3, _⟩ := gets_read (hu.drop n1) hz2
  obtain ⟨s1, s2, s3, _⟩ := gets_read ((hu.drop n1).drop n2) hz3
  have k1 : (encInts [a0, a1, a2, a3]).length = n1 := by rw [← p1, List.length_take]; omega
  have k2 : (encInts l2).length = n2 := by rw [← q1, List.length_take]; omega
  have k3 : (encInts l3).length = n3 := by rw [← s1, List.length_take]; omega
  refine ⟨a2, l3, ((b.drop n1).drop n2).drop n3, p3 a2 (by simp), ?_, by simpa using h3, rfl, rfl, p3, by rw [hz1, k1], by rw [k1, hz2, k2], by rw [k1, k2, ← List.drop_drop, hz3, k3]⟩
  show b = encInts [a0, a1, a2, a3] ++ encInts l2 ++ encInts l3 ++ _
  rw [← p1, ← q1, ← s1, List.append_assoc, List.append_assoc, List.take_append_drop, List.take_append_drop, List.take_append_drop]
theorem dec_eq {b : List Int} (hb : b.length ≤ 900000) (hu : U8s b) : decB b = decR b := by
  obtain ⟨_, hfit⟩ := ok44 b hb hu
  cases hr : readR b with
  | none =>
    have h1 : decB b = none := by unfold decB; rw [hr]
    rw [h1]
    unfold readR at hr
    unfold decR
    rcases getsZ_form b hu with ⟨e, he, hz⟩ | ⟨l1, n1, hz1, _⟩
    · rw [hz, if_pos (by simp; omega)]
    rw [hz1] at hr ⊢
    simp only [ne_eq, not_true, if_false] at hr ⊢
    split at hr
    case h_2 =>
      rename_i hno
      split
      · exact absurd rfl (hno _ _ _ _)
      · rfl
    rename_i a0 a1 a2 a3
    simp only
    rcases getsZ_form (b.drop n1) (hu.drop n1) with ⟨e, he, hz⟩ | ⟨l2, n2, hz2, _⟩
    · rw [hz, if_pos (by simp; omega)]
    rw [hz2] at hr ⊢
    simp only [not_true, if_false] at hr ⊢
    rw [← List.drop_drop]
    rcases getsZ_form ((b.drop n1).drop n2) ((hu.drop n1).drop n2) with ⟨e, he, hz⟩ | ⟨l3, n3, hz3, _⟩
    · rw [hz, if_pos (by simp; omega)]
    rw [hz3] at hr ⊢
    simp only [not_true, if_false] at hr ⊢
    split at hr
    · rename_i h3; rw [if_pos h3]
    · cases hr
  | some r =>
    have hf := hfit r hr
    obtain ⟨a2, l3, t, ha2, hbb, h3, hev, hcut, h4, g1, g2, g3⟩ := read_parts hu hr
    have hnum : nums r.events = l3 := by rw [hev]; exact nums_of_evs3 l3 h3
    have hcut2 : (decide (a2 = 1)) = r.cut := by rw [hcut]; by_cases h : a2 = 1 <;> simp [h]
    have hR : decR b = if a2 ≠ 0 ∧ a2 ≠ 1 then none else if validB r = true then some (r, (encInts [r.id, r.ver, a2, r.en]).length + (encInts r.args).length + (encInts l3).length) else none := by
      unfold decR
      rw [g1]
      simp only [ne_eq, not_true, if_false]
      rw [g2]
      simp only [not_true, if_false]
      rw [g3]
      simp only [not_true, if_false]
      rw [if_neg (by simpa using h3), hcut2, ← hev]
    rw [hR]
    unfold decB
    rw [hr]
    simp only
    cases hv : validB r with
    | false =>
      have he : encB r = [] := by unfold encB; rw [hv]; rfl
      rw [he, if_neg (by simp)]
      split <;> simp
    | true =>
      have he : encB r = bytesR r := by unfold encB; rw [if_pos hv]
      have hpos : 0 < (bytesR r).length := by
        unfold bytesR encInts
        simp only [List.length_append, encZ_length]; omega
      rw [he]
      simp only [if_true]
      by_cases hc : a2 ≠ 0 ∧ a2 ≠ 1
      · rw [if_pos hc, if_neg]
        rintro ⟨_, hp⟩
        obtain ⟨t', ht'⟩ := (preB_iff _ _).1 hp
        have hu' := hu
        rw [ht'] at hu'
        have := (read_enc r hf t' hu'.right).2
        rw [← ht', g1] at this
        simp only [Prod.mk.injEq, List.cons.injEq, true_and] at this
        have hcn : a2 = cutN r.cut := this.1.1
        unfold cutN at hcn
        split at hcn <;> omega
      · rw [if_neg hc]
        have ha : cutN r.cut = a2 := by
          rw [hcut]
          by_cases h1 : a2 = 1
          · subst h1; rfl
          · have h0 : a2 = 0 := Classical.byContradiction fun h => hc ⟨h, h1⟩
            subst h0; rfl
        have hby : bytesR r = encInts [r.id, r.ver, a2, r.en] ++ encInts r.args ++ encInts l3 := by unfold bytesR; rw [ha, hnum]
        rw [if_pos ⟨hpos, (preB_iff _ _).2 ⟨t, by rw [hby]; exact hbb⟩⟩, hby]
        simp only [List.length_append]
theorem dec_short (x : Rp) (h : Fit x) (hv : validB x = true) {k : Nat} (hk : k < (bytesR x).length) (hb : (bytesR x).length ≤ 900000) : decB ((bytesR x).take k) = none := by
  cases hd : decB ((bytesR x).take k) with
  | none => rfl
  | some p =>
    exfalso
    have hu := bytesR_u8 x h
    have hu2 : U8s ((bytesR x).take k) := fun y hy => hu y (List.mem_of_mem_take hy)
    obtain ⟨_, hfit⟩ := ok44 ((bytesR x).take k) (by rw [List.length_take]; omega) hu2
    unfold decB at hd
    cases hr : readR ((bytesR x).take k) with
    | none => rw [hr] at hd; cases hd
    | some r =>
      rw [hr] at hd
      simp only at hd
      split at hd
      · rename_i hc
        obtain ⟨h0, hp⟩ := hc
        have hvr : validB r = true := by
          cases hq : validB r with
          | true => rfl
          | false => unfold encB at h0; rw [hq] at h0; simp at h0
        have he : encB r = bytesR r := by unfold encB; rw [if_pos hvr]
        rw [he] at hp
        obtain ⟨t, ht⟩ := (preB_iff _ _).1 hp
        have hlen : (bytesR r).length ≤ k := by
          have := congrArg List.length ht
          rw [List.length_take, List.length_append] at this; omega
        have hx : bytesR x = bytesR r ++ (t ++ (bytesR x).drop k) := by
          rw [← List.append_assoc, ← ht, List.take_append_drop]
        have hut : U8s (t ++ (bytesR x).drop k) := by rw [hx] at hu; exact hu.right
        have d1 := dec_enc r (hfit r hr) hvr _ hut
        rw [← hx] at d1
        have d2 := dec_enc x h hv [] (fun y hy => by cases hy)
        rw [List.append_nil, d1] at d2
        simp only [Option.some.injEq, Prod.mk.injEq] at d2
        omega
      · cases hd
theorem dec_fit {b : List Int} (hb : b.length ≤ 900000) (hu : U8s b) : ∃ (y : Rp) (m : Nat) (e : Int), decA (decB b) = .tup [rpA y, iA m, iA e] ∧ Fit y := by
  obtain ⟨_, hfit⟩ := ok44 b hb hu
  cases hd : decB b with
  | none => exact ⟨rp0, 0, 2, rfl, fit0⟩
  | some p =>
    refine ⟨p.1, p.2, 0, rfl, ?_⟩
    unfold decB at hd
    cases hr : readR b with
    | none => rw [hr] at hd; cases hd
    | some r =>
      rw [hr] at hd
      simp only at hd
      split at hd
      · cases hd; exact hfit r hr
      · cases hd
end Go.Proofs.Ytlekojbcaelpiaa

/- ReportBytes: the walk. -/
namespace Go.Proofs.Ytlekojbcaelpiaa
open Go.RowKit
theorem hiU {tok : Option (Nat × Nat)} {b : List Int} {k : Nat} (h : k ≤ b.length) : cmdSlice Try.prog 34 (.row tok 1 b.length (b.map uA)) none (some (iA k)) none = some (.val (rowU (b.take k))) := by
  unfold rowU
  rw [el34.slHi (rowOf_row _ _ _ _) h, Nat.mul_one, ← List.map_take, List.length_take, Nat.min_eq_left h]
theorem loU {tok : Option (Nat × Nat)} {b : List Int} {k : Nat} (h : k ≤ b.length) : cmdSlice Try.prog 34 (.row tok 1 b.length (b.map uA)) (some (iA k)) none none = some (.val (rowU (b.drop k))) := by
  unfold rowU
  rw [el34.slLo (rowOf_row _ _ _ _) h, Nat.mul_one, Nat.mul_one, ← List.map_drop, List.take_of_length_le (by simp), List.length_drop]
theorem hConvB (p : Int) : (peek Try.prog (convert 3 5 (.int .i64 p))).map (fun v => Cmd.val (.sc v)) = some (.val (uA (IntKind.u8.wrap p))) := by kernel_rfl
noncomputable abbrev C4 : Code := bodyOf Try.f4
noncomputable abbrev P4 : Code := post 8 C4
noncomputable abbrev R10b : Code := sX P4
noncomputable abbrev R11b : Code := sX (sY P4)
noncomputable abbrev K4 : Code := sY (sY P4)
noncomputable abbrev T4 : Code := sY K4
def st4a (x0 : Rp) (bs more : List Int) (p q : Int) (k : Nat) : St := { n := 158, slots := [(1, iA (p)), (2, iA (q)), (3, rowU more), (9, .ptr 9 0), (10, rowU bs), (14, iA ((k : Nat) : Int))], objs := [(9, (25, [iA (x0.id), iA (x0.ver), rowI x0.args, rowE x0.events, bA (x0.cut), iA (x0.en)]))], lens := [] }
def st4b (x0 : Rp) (bs more : List Int) (p q : Int) (k : Nat) (n : Nat) (cs : List AV) : St := { n := 158, slots := [(1, iA (p)), (2, iA (q)), (3, rowU more), (9, .ptr 9 0), (10, rowU bs), (14, iA ((k : Nat) : Int)), (18, .row none 1 (n) (cs))], objs := [(9, (25, [iA (x0.id), iA (x0.ver), rowI x0.args, rowE x0.events, bA (x0.cut), iA (x0.en)]))], lens := [] }
def st4c (c bk bd be s mf : List Int) (cw : Int) : St := { n := 158, slots := [(19, .row none 1 (5) ([rowU c, .row none 1 (bk.length + bd.length) (bk.map uA ++ bd.map uA), .row none 1 (bk.length + 1 + be.length) (bk.map uA ++ [uA (cw)] ++ be.map uA), rowU s, rowU mf]))], objs := [], lens := [] }
def st4 (c bk bd be s mf : List Int) (cw : Int) (i : Nat) : St := { n := 158, slots := [(19, .row none 1 (5) ([rowU c, .row none 1 (bk.length + bd.length) (bk.map uA ++ bd.map uA), .row none 1 (bk.length + 1 + be.length) (bk.map uA ++ [uA (cw)] ++ be.map uA), rowU s, rowU mf])), (20, iA ((i : Nat) : Int))], objs := [], lens := [] }
noncomputable def s4d (c bk bd be s mf : List Int) (cw : Int) : St := stOf (runCode Try.prog (orc []) (liveOf 4) 0 (fR T4) (st4c c bk bd be s mf cw))
theorem m4_start (l : List Int) (x0 : Rp) (bs more : List Int) (p q : Int) (k : Nat) (m30 : List Int) (hk : k < bs.length) (hbl : bs.length ≤ 100000) (hm3 : m30.length ≤ 30)
    (h8 : Ok Try.prog 8 [rowI l] (plainR (rpA x0))) (h14 : Ok Try.prog 14 [rpA x0] (ownU bs)) (h18a : Ok Try.prog 18 [rowU bs, iA ((bs.length : Nat) : Int)] (ownU bs)) (h18b : Ok Try.prog 18 [rowU more, iA 30] (ownU m30))
    (h17a : Ok Try.prog 17 [.row none 1 (bs.length + m30.length) (bs.map uA ++ m30.map uA)] (plainR (.tup [rpA x0, iA ((bs.length : Nat) : Int), iA 0]))) (h19 : Ok Try.prog 19 [iA q, iA ((bs.length : Nat) : Int)] (plainR (iA ((k : Nat) : Int))))
    (h17b : Ok Try.prog 17 [rowU (bs.take k)] (plainR (.tup [rpA rp0, iA 0, iA 2]))) (h20 : Ok Try.prog 20 [rpA x0, rpA x0] (plainR (bA true))) {Q : Out → Prop} (J : Judg P4 (st4a x0 bs more p q k) Q) : Judg C4 (start [rowI l, iA p, iA q, rowU more] 158) Q := by
  refine Judg.pre' 4 (orcC [(28, plainR (rpA x0)), (30, plainR (rpA x0)), (31, ownU bs), (39, ownU bs), (41, ownU m30), (43, plainR (.tup [rpA x0, iA ((bs.length : Nat) : Int), iA 0])), (50, plainR (iA ((k : Nat) : Int))), (55, plainR (.tup [rpA rp0, iA 0, iA 2])), (70, plainR (rpA x0)), (71, plainR (bA true))] [(34, .val (bA false)), (42, .grow 39 5 1 (bs.length) (bs.map uA) (m30.length) (m30.map uA)), (54, .val (rowU (bs.take k))), (65, .val (bA false))]) 8 (stOf (runCode Try.prog (orcC [(28, plainR (rpA x0)), (30, plainR (rpA x0)), (31, ownU bs), (39, ownU bs), (41, ownU m30), (43, plainR (.tup [rpA x0, iA ((bs.length : Nat) : Int), iA 0])), (50, plainR (iA ((k : Nat) : Int))), (55, plainR (.tup [rpA rp0, iA 0, iA 2])), (70, plainR (rpA x0)), (71, plainR (bA true))] [(34, .val (bA false)), (42, .grow 39 5 1 (bs.length) (bs.map uA) (m30.length) (m30.map uA)), (54, .val (rowU (bs.take k))), (65, .val (bA false))]) (liveOf 4) 0 (Ytlekojbcaelpiaa.pre 8 C4) (start [rowI l, iA p, iA q, rowU more] 158))) [Ok Try.prog 20 [.agg [iA (x0.id), iA (x0.ver), rowI x0.args, rowE x0.events, bA (x0.cut), iA (x0.en)], rpA x0] (plainR (bA true)), Ok Try.prog 11 [.agg [iA (x0.id), iA (x0.ver), rowI x0.args, rowE x0.events, bA (x0.cut), iA (x0.en)]] (plainR (rpA x0)), pB .neq 3 (.tmp 62) (.tmp 64) (.int .i64 ((bs.length : Nat) : Int)) (.int .i64 ((bs.length : Nat) : Int)) (bA false), Ok Try.prog 17 [rowU (bs.take k)] (plainR (.tup [rpA rp0, iA 0, iA 2])), cmdSlice Try.prog 34 (.row (some (31, 5)) 1 (bs.length) (bs.map uA)) none (some (iA ((k : Nat) : Int))) none = some (.val (rowU (bs.take k))), Ok Try.prog 19 [iA (q), iA ((bs.length : Nat) : Int)] (plainR (iA ((k : Nat) : Int))), Ok Try.prog 17 [.row none 1 (bs.length + m30.length) (bs.map uA ++ m30.map uA)] (plainR (.tup [rpA x0, iA ((bs.length : Nat) : Int), iA 0])), cmdAppend Try.prog 34 34 (.row (some (39, 5)) 1 (bs.length) (bs.map uA)) (.row (some (41, 5)) 1 (m30.length) (m30.map uA)) = some (.grow 39 5 1 (bs.length) (bs.map uA) (m30.length) (m30.map uA)), bs.length * 1 = bs.length * 1, Ok Try.prog 18 [rowU more, iA (30)] (ownU m30), Ok Try.prog 18 [rowU bs, iA ((bs.length : Nat) : Int)] (ownU bs), pB .eql 3 (.tmp 33) (.const (.int .i64 0)) (.int .i64 ((bs.length : Nat) : Int)) (.int .i64 (0)) (bA false), Ok Try.prog 14 [rpA x0] (ownU bs), Ok Try.prog 11 [.agg [iA (x0.id), iA (x0.ver), rowI x0.args, rowE x0.events, bA (x0.cut), iA (x0.en)]] (plainR (rpA x0)), Ok Try.prog 8 [rowI l] (plainR (rpA x0))] (by kernel_rfl) (by kernel_rfl) (allc (h20) (allc (ok11 x0) (allc (hNeq _ _ _ _ _ _ (by simp)) (allc (h17b) (allc (hiU (by omega)) (allc (h19) (allc (h17a) (allc (el34.grow (rowOf_row _ _ _ _) (fits_of (by omega) (by omega))) (allc (rfl) (allc (h18b) (allc (h18a) (allc (hEql _ _ _ _ _ _ (by rw [beq_eq_false_iff_ne]; omega)) (allc (h14) (allc (ok11 x0) (allc (h8) allnil))))))))))))))) ?_
  exact Judg.clean (L := [1, 2, 3, 9, 10, 14]) (N := [9]) (t := st4a x0 bs more p q k) (by kernel_rfl) J
theorem m4_end (x0 : Rp) (bs more : List Int) (p q : Int) (k : Nat) (c bk bd be s mf : List Int) (cw : Int) (x1 : Rp) (mz : Nat) (y0 y1 y2 y3 y4 : Rp) (m0 m1 m2 m3 m4 e0 e1 e2 e3 e4 : Int) (hcv : (peek Try.prog (convert 3 5 (.int .i64 p))).map (fun v => Cmd.val (.sc v)) = some (.val (uA cw)))
    (h18k : Ok Try.prog 18 [rowU bs, iA ((k : Nat) : Int)] (ownU bk)) (h9 : Ok Try.prog 9 [rpA x0, iA p, iA q] (plainR (rpA x1))) (h21 : Ok Try.prog 21 [rpA x1] (ownU s)) (hbd : cmdSlice Try.prog 34 (rowU bs) (some (iA ((k + 1 : Nat) : Int))) none none = some (.val (rowU bd)))
    (hbe : cmdSlice Try.prog 34 (rowU bs) (some (iA ((k : Nat) : Int))) none none = some (.val (rowU be))) (hmf : cmdSlice Try.prog 34 (rowU more) none (some (iA ((mz : Nat) : Int))) none = some (.val (rowU mf))) (hmz : min more.length 40 = mz)
    (hbk : bk.length ≤ 100000) (hbd2 : bd.length ≤ 100000) (hbe2 : be.length ≤ 100000) (hk : k ≤ 100000)
    (a0 : Ok Try.prog 17 [rowU c] (plainR (.tup [rpA y0, iA m0, iA e0]))) (b0 : Ok Try.prog 22 [rowU c] (plainR (.tup [rpA y0, iA m0, iA e0]))) (s0 : Ok Try.prog 23 [rpA y0, rpA y0] (plainR (bA true))) (a1 : Ok Try.prog 17 [.row none 1 (bk.length + bd.length) (bk.map uA ++ bd.map uA)] (plainR (.tup [rpA y1, iA m1, iA e1]))) (b1 : Ok Try.prog 22 [.row none 1 (bk.length + bd.length) (bk.map uA ++ bd.map uA)] (plainR (.tup [rpA y1, iA m1, iA e1]))) (s1 : Ok Try.prog 23 [rpA y1, rpA y1] (plainR (bA true))) (a2 : Ok Try.prog 17 [.row none 1 (bk.length + 1 + be.length) (bk.map uA ++ [uA (cw)] ++ be.map uA)] (plainR (.tup [rpA y2, iA m2, iA e2]))) (b2 : Ok Try.prog 22 [.row none 1 (bk.length + 1 + be.length) (bk.map uA ++ [uA (cw)] ++ be.map uA)] (plainR (.tup [rpA y2, iA m2, iA e2]))) (s2 : Ok Try.prog 23 [rpA y2, rpA y2] (plainR (bA true))) (a3 : Ok Try.prog 17 [rowU s] (plainR (.tup [rpA y3, iA m3, iA e3]))) (b3 : Ok Try.prog 22 [rowU s] (plainR (.tup [rpA y3, iA m3, iA e3]))) (s3 : Ok Try.prog 23 [rpA y3, rpA y3] (plainR (bA true))) (a4 : Ok Try.prog 17 [rowU mf] (plainR (.tup [rpA y4, iA m4, iA e4]))) (b4 : Ok Try.prog 22 [rowU mf] (plainR (.tup [rpA y4, iA m4, iA e4]))) (s4 : Ok Try.prog 23 [rpA y4, rpA y4] (plainR (bA true))) : Judg K4 (st4b x0 bs more p q k c.length (c.map uA)) (fun out => ∃ s1 l r', ResImp r' (plainR (bA true)) ∧ (out = .go s1 ∨ out = .ret s1) ∧ (resVals Try.prog s1 Try.f4.results.toList).bind (resOf s1) = some (r', l) ∧ ∀ p ∈ l, p) := by
  refine Judg.seqE (by kernel_rfl) ?_
  refine Judg.run' 4 (orcC [(90, ownU bk), (98, ownU bk), (110, plainR (rpA x1)), (111, ownU s)] [(93, .val (iA ((k + 1 : Nat) : Int))), (94, .val (rowU bd)), (95, .grow 90 5 1 (bk.length) (bk.map uA) (bd.length) (bd.map uA)), (100, .val (uA (cw))), (102, .grow 98 5 1 (bk.length) (bk.map uA) (1) ([uA (cw)])), (105, .val (rowU be)), (106, .grow 98 5 1 (bk.length + 1) (bk.map uA ++ [uA (cw)]) (be.length) (be.map uA)), (115, .val (iA ((mz : Nat) : Int))), (116, .val (rowU mf))]) (.go (stOf (runCode Try.prog (orcC [(90, ownU bk), (98, ownU bk), (110, plainR (rpA x1)), (111, ownU s)] [(93, .val (iA ((k + 1 : Nat) : Int))), (94, .val (rowU bd)), (95, .grow 90 5 1 (bk.length) (bk.map uA) (bd.length) (bd.map uA)), (100, .val (uA (cw))), (102, .grow 98 5 1 (bk.length) (bk.map uA) (1) ([uA (cw)])), (105, .val (rowU be)), (106, .grow 98 5 1 (bk.length + 1) (bk.map uA ++ [uA (cw)]) (be.length) (be.map uA)), (115, .val (iA ((mz : Nat) : Int))), (116, .val (rowU mf))]) (liveOf 4) 0 (sX K4) (st4b x0 bs more p q k c.length (c.map uA))))) [cmdSlice Try.prog 34 (rowU more) none (some (iA ((mz : Nat) : Int))) none = some (.val (rowU mf)), pMin [3, 3] 3 (iA ((more.length : Nat) : Int)) (iA (40)) (iA ((mz : Nat) : Int)), Ok Try.prog 21 [rpA x1] (ownU s), Ok Try.prog 9 [.agg [iA (x0.id), iA (x0.ver), rowI x0.args, rowE x0.events, bA (x0.cut), iA (x0.en)], iA (p), iA (q)] (plainR (rpA x1)), cmdAppend Try.prog 34 34 (.row (some (98, 5)) 1 (bk.length + 1) (bk.map uA ++ [uA (cw)])) (rowU be) = some (.grow 98 5 1 (bk.length + 1) (bk.map uA ++ [uA (cw)]) (be.length) (be.map uA)), (bk.length + 1) * 1 = (bk.length + 1) * 1, cmdSlice Try.prog 34 (rowU bs) (some (iA ((k : Nat) : Int))) none none = some (.val (rowU be)), cmdAppend Try.prog 34 34 (.row (some (98, 5)) 1 (bk.length) (bk.map uA)) (.row (some (101, 5)) 1 (1) ([uA (cw)])) = some (.grow 98 5 1 (bk.length) (bk.map uA) (1) ([uA (cw)])), bk.length * 1 = bk.length * 1, (peek Try.prog (convert 3 5 (.int .i64 (p)))).map (fun v => Cmd.val (.sc v)) = some (.val (uA (cw))), Ok Try.prog 18 [rowU bs, iA ((k : Nat) : Int)] (ownU bk), cmdAppend Try.prog 34 34 (.row (some (90, 5)) 1 (bk.length) (bk.map uA)) (rowU bd) = some (.grow 90 5 1 (bk.length) (bk.map uA) (bd.length) (bd.map uA)), bk.length * 1 = bk.length * 1, cmdSlice Try.prog 34 (rowU bs) (some (iA ((k + 1 : Nat) : Int))) none none = some (.val (rowU bd)), pB .add 3 (.tmp 92) (.const (.int .i64 1)) (.int .i64 ((k : Nat) : Int)) (.int .i64 (1)) (iA ((k + 1 : Nat) : Int)), Ok Try.prog 18 [rowU bs, iA ((k : Nat) : Int)] (ownU bk)] (by kernel_rfl) (by kernel_rfl) (allc (hmf) (allc (hMin _ _ _ _ _ hmz) (allc (h21) (allc (h9) (allc (el34.grow (rowOf_row _ _ _ _) (fits_of (by omega) (by omega))) (allc (rfl) (allc (hbe) (allc (el34.grow (rowOf_row _ _ _ _) (fits_of (by omega) (by omega))) (allc (rfl) (allc (hcv) (allc (h18k) (allc (el34.grow (rowOf_row _ _ _ _) (fits_of (by omega) (by omega))) (allc (rfl) (allc (hbd) (allc (hAdd _ _ _ _ _ _ (by simp) ⟨by omega, by omega⟩) (allc (h18k) allnil)))))))))))))))) ?_
  show Judg T4 _ _
  refine Judg.clean (L := [19]) (N := []) (t := st4c c bk bd be s mf cw) (by kernel_rfl) ?_
  refine Judg.for_ (ι := Nat) [19, 20] [] (fun i => st4 c bk bd be s mf cw i) (fun i => 5 - i) (fun i => i ≤ 5) (by kernel_rfl) (orc []) (liveOf 4) (s1 := s4d c bk bd be s mf cw) (by kernel_rfl)
    (by rw [show (s4d c bk bd be s mf cw).log = [] by kernel_rfl]; exact allnil) 0 (Nat.zero_le _) (by kernel_rfl) ?_
  intro i hi
  have hi' : i = 0 ∨ i = 1 ∨ i = 2 ∨ i = 3 ∨ i = 4 ∨ i = 5 := by omega
  rcases hi' with rfl | rfl | rfl | rfl | rfl | rfl
  · exact Judg.run' 4 (orcC [(129, plainR (.tup [rpA y0, iA m0, iA e0])), (138, plainR (.tup [rpA y0, iA m0, iA e0])), (152, plainR (rpA y0)), (154, plainR (bA true))] [(144, .val (bA false)), (148, .val (bA false))]) (.go (stOf (runCode Try.prog (orcC [(129, plainR (.tup [rpA y0, iA m0, iA e0])), (138, plainR (.tup [rpA y0, iA m0, iA e0])), (152, plainR (rpA y0)), (154, plainR (bA true))] [(144, .val (bA false)), (148, .val (bA false))]) (liveOf 4) 0 (fB T4) (st4 c bk bd be s mf cw 0)))) [Ok Try.prog 23 [rpA y0, .agg [iA (y0.id), iA (y0.ver), rowI y0.args, rowE y0.events, bA (y0.cut), iA (y0.en)]] (plainR (bA true)), Ok Try.prog 24 [.agg [iA (y0.id), iA (y0.ver), rowI y0.args, rowE y0.events, bA (y0.cut), iA (y0.en)]] (plainR (rpA y0)), pB .neq 3 (.tmp 146) (.tmp 147) (.int .i64 (m0)) (.int .i64 (m0)) (bA false), pB .neq 39 (.tmp 142) (.tmp 143) (.int .i64 (e0)) (.int .i64 (e0)) (bA false), Ok Try.prog 22 [rowU c] (plainR (.tup [rpA y0, iA m0, iA e0])), Ok Try.prog 17 [rowU c] (plainR (.tup [rpA y0, iA m0, iA e0]))] (by kernel_rfl) (by kernel_rfl) (allc (s0) (allc (ok24 y0) (allc (hNeq _ _ _ _ _ _ (by simp)) (allc (hNeq _ _ _ _ _ _ (by simp)) (allc (b0) (allc (a0) allnil)))))) ⟨1, by omega, by omega, by kernel_rfl⟩
  · exact Judg.run' 4 (orcC [(129, plainR (.tup [rpA y1, iA m1, iA e1])), (138, plainR (.tup [rpA y1, iA m1, iA e1])), (152, plainR (rpA y1)), (154, plainR (bA true))] [(144, .val (bA false)), (148, .val (bA false))]) (.go (stOf (runCode Try.prog (orcC [(129, plainR (.tup [rpA y1, iA m1, iA e1])), (138, plainR (.tup [rpA y1, iA m1, iA e1])), (152, plainR (rpA y1)), (154, plainR (bA true))] [(144, .val (bA false)), (148, .val (bA false))]) (liveOf 4) 0 (fB T4) (st4 c bk bd be s mf cw 1)))) [Ok Try.prog 23 [rpA y1, .agg [iA (y1.id), iA (y1.ver), rowI y1.args, rowE y1.events, bA (y1.cut), iA (y1.en)]] (plainR (bA true)), Ok Try.prog 24 [.agg [iA (y1.id), iA (y1.ver), rowI y1.args, rowE y1.events, bA (y1.cut), iA (y1.en)]] (plainR (rpA y1)), pB .neq 3 (.tmp 146) (.tmp 147) (.int .i64 (m1)) (.int .i64 (m1)) (bA false), pB .neq 39 (.tmp 142) (.tmp 143) (.int .i64 (e1)) (.int .i64 (e1)) (bA false), Ok Try.prog 22 [.row none 1 (bk.length + bd.length) (bk.map uA ++ bd.map uA)] (plainR (.tup [rpA y1, iA m1, iA e1])), Ok Try.prog 17 [.row none 1 (bk.length + bd.length) (bk.map uA ++ bd.map uA)] (plainR (.tup [rpA y1, iA m1, iA e1]))] (by kernel_rfl) (by kernel_rfl) (allc (s1) (allc (ok24 y1) (allc (hNeq _ _ _ _ _ _ (by simp)) (allc (hNeq _ _ _ _ _ _ (by simp)) (allc (b1) (allc (a1) allnil)))))) ⟨2, by omega, by omega, by kernel_rfl⟩
  · exact Judg.run' 4 (orcC [(129, plainR (.tup [rpA y2, iA m2, iA e2])), (138, plainR (.tup [rpA y2, iA m2, iA e2])), (152, plainR (rpA y2)), (154, plainR (bA true))] [(144, .val (bA false)), (148, .val (bA false))]) (.go (stOf (runCode Try.prog (orcC [(129, plainR (.tup [rpA y2, iA m2, iA e2])), (138, plainR (.tup [rpA y2, iA m2, iA e2])), (152, plainR (rpA y2)), (154, plainR (bA true))] [(144, .val (bA false)), (148, .val (bA false))]) (liveOf 4) 0 (fB T4) (st4 c bk bd be s mf cw 2)))) [Ok Try.prog 23 [rpA y2, .agg [iA (y2.id), iA (y2.ver), rowI y2.args, rowE y2.events, bA (y2.cut), iA (y2.en)]] (plainR (bA true)), Ok Try.prog 24 [.agg [iA (y2.id), iA (y2.ver), rowI y2.args, rowE y2.events, bA (y2.cut), iA (y2.en)]] (plainR (rpA y2)), pB .neq 3 (.tmp 146) (.tmp 147) (.int .i64 (m2)) (.int .i64 (m2)) (bA false), pB .neq 39 (.tmp 142) (.tmp 143) (.int .i64 (e2)) (.int .i64 (e2)) (bA false), Ok Try.prog 22 [.row none 1 (bk.length + 1 + be.length) (bk.map uA ++ [uA (cw)] ++ be.map uA)] (plainR (.tup [rpA y2, iA m2, iA e2])), Ok Try.prog 17 [.row none 1 (bk.length + 1 + be.length) (bk.map uA ++ [uA (cw)] ++ be.map uA)] (plainR (.tup [rpA y2, iA m2, iA e2]))] (by kernel_rfl) (by kernel_rfl) (allc (s2) (allc (ok24 y2) (allc (hNeq _ _ _ _ _ _ (by simp)) (allc (hNeq _ _ _ _ _ _ (by simp)) (allc (b2) (allc (a2) allnil)))))) ⟨3, by omega, by omega, by kernel_rfl⟩
  · exact Judg.run' 4 (orcC [(129, plainR (.tup [rpA y3, iA m3, iA e3])), (138, plainR (.tup [rpA y3, iA m3, iA e3])), (152, plainR (rpA y3)), (154, plainR (bA true))] [(144, .val (bA false)), (148, .val (bA false))]) (.go (stOf (runCode Try.prog (orcC [(129, plainR (.tup [rpA y3, iA m3, iA e3])), (138, plainR (.tup [rpA y3, iA m3, iA e3])), (152, plainR (rpA y3)), (154, plainR (bA true))] [(144, .val (bA false)), (148, .val (bA false))]) (liveOf 4) 0 (fB T4) (st4 c bk bd be s mf cw 3)))) [Ok Try.prog 23 [rpA y3, .agg [iA (y3.id), iA (y3.ver), rowI y3.args, rowE y3.events, bA (y3.cut), iA (y3.en)]] (plainR (bA true)), Ok Try.prog 24 [.agg [iA (y3.id), iA (y3.ver), rowI y3.args, rowE y3.events, bA (y3.cut), iA (y3.en)]] (plainR (rpA y3)), pB .neq 3 (.tmp 146) (.tmp 147) (.int .i64 (m3)) (.int .i64 (m3)) (bA false), pB .neq 39 (.tmp 142) (.tmp 143) (.int .i64 (e3)) (.int .i64 (e3)) (bA false), Ok Try.prog 22 [rowU s] (plainR (.tup [rpA y3, iA m3, iA e3])), Ok Try.prog 17 [rowU s] (plainR (.tup [rpA y3, iA m3, iA e3]))] (by kernel_rfl) (by kernel_rfl) (allc (s3) (allc (ok24 y3) (allc (hNeq _ _ _ _ _ _ (by simp)) (allc (hNeq _ _ _ _ _ _ (by simp)) (allc (b3) (allc (a3) allnil)))))) ⟨4, by omega, by omega, by kernel_rfl⟩
  · exact Judg.run' 4 (orcC [(129, plainR (.tup [rpA y4, iA m4, iA e4])), (138, plainR (.tup [rpA y4, iA m4, iA e4])), (152, plainR (rpA y4)), (154, plainR (bA true))] [(144, .val (bA false)), (148, .val (bA false))]) (.go (stOf (runCode Try.prog (orcC [(129, plainR (.tup [rpA y4, iA m4, iA e4])), (138, plainR (.tup [rpA y4, iA m4, iA e4])), (152, plainR (rpA y4)), (154, plainR (bA true))] [(144, .val (bA false)), (148, .val (bA false))]) (liveOf 4) 0 (fB T4) (st4 c bk bd be s mf cw 4)))) [Ok Try.prog 23 [rpA y4, .agg [iA (y4.id), iA (y4.ver), rowI y4.args, rowE y4.events, bA (y4.cut), iA (y4.en)]] (plainR (bA true)), Ok Try.prog 24 [.agg [iA (y4.id), iA (y4.ver), rowI y4.args, rowE y4.events, bA (y4.cut), iA (y4.en)]] (plainR (rpA y4)), pB .neq 3 (.tmp 146) (.tmp 147) (.int .i64 (m4)) (.int .i64 (m4)) (bA false), pB .neq 39 (.tmp 142) (.tmp 143) (.int .i64 (e4)) (.int .i64 (e4)) (bA false), Ok Try.prog 22 [rowU mf] (plainR (.tup [rpA y4, iA m4, iA e4])), Ok Try.prog 17 [rowU mf] (plainR (.tup [rpA y4, iA m4, iA e4]))] (by kernel_rfl) (by kernel_rfl) (allc (s4) (allc (ok24 y4) (allc (hNeq _ _ _ _ _ _ (by simp)) (allc (hNeq _ _ _ _ _ _ (by simp)) (allc (b4) (allc (a4) allnil)))))) ⟨5, by omega, by omega, by kernel_rfl⟩
  · refine Judg.run' 4 (orc []) (.exit 0 (stOf (runCode Try.prog (orc []) (liveOf 4) 0 (fB T4) (st4 c bk bd be s mf cw 5)))) [] (by kernel_rfl) (by kernel_rfl) allnil ?_
    show Judg (fK T4) _ _
    exact Judg.run' 4 (orcC [(157, plainR (bA true))] []) (.ret (stOf (runCode Try.prog (orcC [(157, plainR (bA true))] []) (liveOf 4) 0 (fK T4) ((stOf (runCode Try.prog (orc []) (liveOf 4) 0 (fB T4) (st4 c bk bd be s mf cw 5))))))) [Ok Try.prog 16 [] (plainR (bA true))] (by kernel_rfl) (by kernel_rfl) (allc (ok16) allnil) (fin_retW (l := []) _ (by kernel_rfl) allnil (ResImp.refl _))
end Go.Proofs.Ytlekojbcaelpiaa

/- ReportBytes: a byte of a row of one's own is written. -/
namespace Go.Proofs.Ytlekojbcaelpiaa
open Go.RowKit

/-- a store into a block that nobody knows; then somebody may know it -/
theorem Rel.setNew {γ : Gh} {w0 w : World} {s : St} {a : Act} (h : Rel γ w0 s a w) {g : Nat} {cs : Array Value} (hg : ∀ d, γ.blk d ≠ some g) (hp : ∀ i, ¬ γ.pr g i) (hf : γ.fr g = none) (hb : γ.base ≤ g) (hlt : g < w.heap.size) (n : Nat) :
    Rel { γ with pr := fun b i => γ.pr b i ∨ (b = g ∧ i < n) } w0 s a (w.setRow g cs) := by
  have hsz : (w.setRow g cs).heap.size = w.heap.size := by simp [World.setRow]
  have hoth : ∀ k, k ≠ g → (w.setRow g cs).heap[k]? = w.heap[k]? := fun k hk => setRow_other w g k cs hk
  have hkept : ∀ d, Kept γ { γ with pr := fun b i => γ.pr b i ∨ (b = g ∧ i < n) } s.lens s.lens w (w.setRow g cs) d := fun d => .inl ⟨rfl, rfl, fun _ k hkd => hoth k (fun e => by subst e; exact hg d hkd)⟩
  refine h.frame (γ' := { γ with pr := fun b i => γ.pr b i ∨ (b = g ∧ i < n) }) s.lens rfl (fun b i u hq hc => ⟨.inl hq, ?_⟩) (fun d _ _ _ _ => hkept d) (fun d _ _ _ _ _ => hkept d) ?_ ?_ h.inj (fun d b hd => by rw [hsz]; exact h.blt d b hd) (fun b i hq => ?_) (setRow_below cs hb) rfl (fun k o hk => ⟨?_, (h.frm k o hk).2⟩)
  · rw [setRow_cell_other w g cs (fun e => by subst e; exact hp i hq)]; exact hc
  · intro d ty xs b hx hd
    obtain ⟨k1, b', cs', k2, k3, k4, k5, k6, k7⟩ := h.obj d ty xs hx
    have : b' = b := by rw [hd] at k2; exact (Option.some.inj k2).symm
    subst this
    refine ⟨k1, hd, hoth b' (fun e => by subst e; exact hg d hd), fun i hq => ?_⟩
    rcases hq with hq | ⟨e, _⟩
    · exact k7 i hq
    · subst e; exact hg d hd
  · intro d len k hl hd
    have := h.len d len k hl hd
    refine ⟨this.1, fun i hq => ?_⟩
    rcases hq with hq | ⟨e, _⟩
    · exact this.2 i hq
    · subst e; exact absurd hd (hg d)
  · rw [hsz]
    rcases hq with hq | ⟨e, _⟩
    · exact h.plt b i hq
    · subst e; exact hlt
  · rw [hoth k (fun e => by subst e; rw [hf] at hk; cases hk)]; exact (h.frm k o hk).1
theorem byts_set (l : List Int) (k : Nat) (v : Int) : (byts l).set k (.int .u8 v) = byts (l.set k v) := by
  unfold byts; rw [List.map_set]
set_option maxRecDepth 100000 in
theorem m4_store {x0 : Rp} {bs more : List Int} {p q : Int} {k : Nat} {cw : Int} (hk : k < bs.length) (hbl : bs.length ≤ 100000) (hcw : cw = IntKind.u8.wrap p) (h18 : Ok Try.prog 18 [rowU bs, iA ((bs.length : Nat) : Int)] (ownU bs)) {Q : Out → Prop}
    (J : Judg K4 (st4b x0 bs more p q k bs.length ((bs.set k cw).map uA)) Q) : Judg P4 (st4a x0 bs more p q k) Q := fun γ w0 a w hr => by
  have hc0 : P4 = .seq R10b (.seq R11b K4) := by kernel_rfl
  have hc1 : R10b = .region (rId R10b) (rOps R10b) false := by kernel_rfl
  have hc2 : R11b = .region (rId R11b) (rOps R11b) false := by kernel_rfl
  have v10 : V γ.pr w (a.tmps.getD 10 undef) (rowU bs) := (hr.slot 10 (rowU bs) rfl).plain
  have v14 : a.tmps.getD 14 undef = .int .i64 k := hr.slot 14 (iA ((k : Nat) : Int)) rfl
  have v1 : a.tmps.getD 1 undef = .int .i64 p := hr.slot 1 (iA p) rfl
  obtain ⟨A10, k10, e10, _⟩ := id v10
  have hsz : a.tmps.size = 158 := hr.size
  have d0 : ((rOps R10b)[0]!).dst = some 78 := by kernel_rfl
  have d1 : ((rOps R10b)[1]!).dst = some 79 := by kernel_rfl
  have d2 : ((rOps R10b)[2]!).dst = some 80 := by kernel_rfl
  have d3 : ((rOps R10b)[3]!).dst = some 81 := by kernel_rfl
  have d4 : ((rOps R10b)[4]!).dst = some 18 := by kernel_rfl
  have g0 : ((rOps R11b)[0]!).dst = some 82 := by kernel_rfl
  have g1 : ((rOps R11b)[1]!).dst = some 83 := by kernel_rfl
  have g2 : ((rOps R11b)[2]!).dst = some 84 := by kernel_rfl
  have g3 : ((rOps R11b)[3]!).dst = some 85 := by kernel_rfl
  have g4 : ((rOps R11b)[4]!).dst = some 86 := by kernel_rfl
  have g5 : ((rOps R11b)[5]!).dst = none := by kernel_rfl
  have hl0 : List.range (rOps R10b).size = [0, 1, 2, 3, 4] := by kernel_rfl
  have hl1 : List.range (rOps R11b).size = [0, 1, 2, 3, 4, 5] := by kernel_rfl
  -- the function's call
  have hcall := h18.2 w γ.pr [a.tmps.getD 10 undef, .int .i64 bs.length] hr.plt ⟨_, _, rfl, v10, _, _, rfl, rfl, rfl⟩
  generalize ha1 : ((a.put (some 78) (a.tmps.getD 10 undef)).put (some 79) (a.tmps.getD 10 undef)).put (some 80) (.int .i64 bs.length) = a1
  have s1 : a1.tmps.size = 158 := by rw [← ha1]; simp [Act.put, hsz]
  have e78 : a1.eval (.tmp 78) = a.tmps.getD 10 undef := by
    rw [← ha1, put_eval_ne (by omega), put_eval_ne (by omega), put_eval_eq (by omega)]
  have e80 : a1.eval (.tmp 80) = .int .i64 bs.length := by
    rw [← ha1, put_eval_eq (by simp [Act.put]; omega)]
  have e14 : a1.eval (.tmp 14) = .int .i64 k := by
    rw [← ha1, put_eval_ne (by omega), put_eval_ne (by omega), put_eval_ne (by omega)]; exact v14
  have e1 : a1.eval (.tmp 1) = .int .i64 p := by
    rw [← ha1, put_eval_ne (by omega), put_eval_ne (by omega), put_eval_ne (by omega)]; exact v1
  have hr1 : Rel γ w0 (st4a x0 bs more p q k) a1 w := by
    rw [← ha1]
    exact ((hr.putAny (by rfl)).putAny (by rfl)).putAny (by rfl)
  rw [hc0, hc1]
  refine wp_seq (wp_region ?_)
  show wpOps Try.prog (rOps R10b) _ (List.range (rOps R10b).size) a w
  rw [hl0]
  have o0 : ((rOps R10b)[0]!).op = .move (.tmp 10) := by kernel_rfl
  have o1 : ((rOps R10b)[1]!).op = .move (.tmp 10) := by kernel_rfl
  refine wpOps_val (o := (rOps R10b)[0]!) (c := a.tmps.getD 10 undef) (w' := w) (by kernel_rfl) (by kernel_rfl) (by simp only [execOp, o0, Sem.run_pure]; rfl) ?_
  rw [d0]
  refine wpOps_val (o := (rOps R10b)[1]!) (c := a.tmps.getD 10 undef) (w' := w) (by kernel_rfl) (by kernel_rfl) (by simp only [execOp, o1, Sem.run_pure]; rw [put_eval_ne (by omega)]; rfl) ?_
  rw [d1]
  refine wpOps_val (o := (rOps R10b)[2]!) (c := .int .i64 bs.length) (w' := w) (by kernel_rfl) (by kernel_rfl) ?_ ?_
  · have ho : ((rOps R10b)[2]!).op = .call (match ((rOps R10b)[2]!).op with | .call c => c | _ => default) := by kernel_rfl
    have hcal : (match ((rOps R10b)[2]!).op with | .call c => c | _ => default : Call).callee = .builtin .len := by kernel_rfl
    have hargs : (match ((rOps R10b)[2]!).op with | .call c => c | _ => default : Call).args = #[.tmp 79] := by kernel_rfl
    have hty : (match ((rOps R10b)[2]!).op with | .call c => c | _ => default : Call).argTypes = #[34] := by kernel_rfl
    rw [op_builtin ho hcal, hargs, hty]
    have e79 : ((a.put (some 78) (a.tmps.getD 10 undef)).put (some 79) (a.tmps.getD 10 undef)).eval (.tmp 79) = .slice A10 bs.length k10 := by
      rw [put_eval_eq (by simp [Act.put]; omega), e10]
    simp only [builtin, List.map_toArray, List.map_cons, List.map_nil, e79]
    refine v_run ?_
    simp [Builtin.len_, run_underlying Try.underlying34, goInt]
  rw [d2, ha1]
  have ecall := exec_call (P := Try.prog) (w := w) (a := a1) (o := (rOps R10b)[3]!) (x := .func 18) (g := 18) (cb := #[]) (args := #[a.tmps.getD 10 undef, .int .i64 bs.length]) (c := match ((rOps R10b)[3]!).op with | .call c => c | _ => default) (by kernel_rfl) (by kernel_rfl) rfl (by
      have e2 : (match ((rOps R10b)[3]!).op with | .call c => c | _ => default : Call).args = #[.tmp 78, .tmp 80] := by kernel_rfl
      rw [e2]
      simp only [List.map_toArray, List.map_cons, List.map_nil]
      rw [e78, e80]) (enters Try.func18 rfl)
  refine wpOps_call (by kernel_rfl) (by kernel_rfl) (by simpa using ecall) hcall ?_
  rintro e w1 ⟨c18, pr', rfl, hbel, _, _, hV18, hown⟩
  refine ⟨_, rfl, ?_⟩
  rw [d3]
  have hw1 := hr1.called hbel
  rcases hown 5 rfl with ⟨A, q1, q2⟩ | ⟨us, ho, _⟩
  · omega
  have hus := own_VL (tok := none) ho (by have := hV18; unfold ownU rowU at this; exact this)
  rw [uA_map, VL_sc] at hus
  obtain ⟨rfl, hone⟩ := hus
  rcases ho.2 with ⟨_, q2⟩ | ⟨g, cap, cur, rfl, b1, b2, b3, b4, b5, b6⟩
  · omega
  have hglt : g < w1.heap.size := (Array.getElem?_eq_some_iff.1 b2).1
  have hgblk : ∀ d, γ.blk d ≠ some g := fun d hd => by have := hr.blt d g hd; omega
  have hgpr : ∀ i, ¬ γ.pr g i := fun i hq => by have := hr.plt g i hq; omega
  have hgfr : γ.fr g = none := by
    cases hq : γ.fr g with
    | none => rfl
    | some o => have := hr.lt_of hq; omega
  have hbase : γ.base ≤ g := by have := hr.base; omega
  have o4 : ((rOps R10b)[4]!).op = .assign (.tmp 81) := by kernel_rfl
  refine wpOps_val (o := (rOps R10b)[4]!) (c := .slice (some ⟨g, 0, none⟩) bs.length cap) (w' := w1) (by kernel_rfl) (by kernel_rfl) (by simp only [execOp, o4, Sem.run_pure]; rw [put_eval_eq (by omega)]) ?_
  rw [d4]
  generalize ha2 : (a1.put (some 81) (.slice (some ⟨g, 0, none⟩) bs.length cap)).put (some 18) (.slice (some ⟨g, 0, none⟩) bs.length cap) = a2
  have s2 : a2.tmps.size = 158 := by rw [← ha2]; simp [Act.put, s1]
  have f18 : a2.eval (.tmp 18) = .slice (some ⟨g, 0, none⟩) bs.length cap := by rw [← ha2, put_eval_eq (by simp [Act.put]; omega)]
  have f14 : a2.eval (.tmp 14) = .int .i64 k := by rw [← ha2, put_eval_ne (by omega), put_eval_ne (by omega), e14]
  have f1 : a2.eval (.tmp 1) = .int .i64 p := by rw [← ha2, put_eval_ne (by omega), put_eval_ne (by omega), e1]
  have hr2 : Rel γ w0 (st4a x0 bs more p q k) a2 w1 := by
    rw [← ha2]
    exact (hw1.putAny (by rfl)).putAny (by rfl)
  show (Code.seq R11b K4).wp Try.prog _ a2 w1
  rw [hc2]
  refine wp_seq (wp_region ?_)
  show wpOps Try.prog (rOps R11b) _ (List.range (rOps R11b).size) a2 w1
  rw [hl1]
  have u0 : ((rOps R11b)[0]!).op = .move (.tmp 18) := by kernel_rfl
  have u1 : ((rOps R11b)[1]!).op = .move (.tmp 14) := by kernel_rfl
  have u2 : ((rOps R11b)[2]!).op = .move (.tmp 1) := by kernel_rfl
  have u3 : ((rOps R11b)[3]!).op = .convert 3 5 (.tmp 84) := by kernel_rfl
  have u4 : ((rOps R11b)[4]!).op = .indexAddr 34 (.tmp 82) (.tmp 83) := by kernel_rfl
  have u5 : ((rOps R11b)[5]!).op = .store 5 (.tmp 86) (.tmp 85) := by kernel_rfl
  refine wpOps_val (o := (rOps R11b)[0]!) (c := .slice (some ⟨g, 0, none⟩) bs.length cap) (w' := w1) (by kernel_rfl) (by kernel_rfl) (by simp only [execOp, u0, Sem.run_pure, f18]) ?_
  rw [g0]
  refine wpOps_val (o := (rOps R11b)[1]!) (c := .int .i64 k) (w' := w1) (by kernel_rfl) (by kernel_rfl) (by simp only [execOp, u1, Sem.run_pure]; rw [put_eval_ne (by omega), f14]) ?_
  rw [g1]
  refine wpOps_val (o := (rOps R11b)[2]!) (c := .int .i64 p) (w' := w1) (by kernel_rfl) (by kernel_rfl) (by simp only [execOp, u2, Sem.run_pure]; rw [put_eval_ne (by omega), put_eval_ne (by omega), f1]) ?_
  rw [g2]
  refine wpOps_val (o := (rOps R11b)[3]!) (c := .int .u8 cw) (w' := w1) (by kernel_rfl) (by kernel_rfl) ?_ ?_
  · simp only [execOp, u3]
    rw [put_eval_eq (by simp [Act.put]; omega)]
    refine v_run ?_
    have hpk : peek Try.prog (convert 3 5 (.int .i64 p)) = some (.int .u8 cw) := by rw [hcw]; kernel_rfl
    exact peek_run hpk w1
  rw [g3]
  refine wpOps_val (o := (rOps R11b)[4]!) (c := .pointer (some ⟨g, k, none⟩)) (w' := w1) (by kernel_rfl) (by kernel_rfl) ?_ ?_
  · simp only [execOp, u4]
    rw [put_eval_ne (by omega), put_eval_ne (by omega), put_eval_ne (by omega), put_eval_eq (by omega), put_eval_ne (by omega), put_eval_ne (by omega), put_eval_eq (by simp [Act.put]; omega)]
    refine v_run ?_
    simp [Instr.indexAt, asIntOf, run_underlying Try.underlying34, run_size' (show szT Try.prog 5 = some 1 by rfl), Addr.add_lit]
    omega
  rw [g4]
  have hkc : k + 0 + [Value.int .u8 cw].length ≤ cur.size := by rw [b5]; simp only [List.length_cons, List.length_nil]; omega
  have hst := run_storeCells_at (P := Try.prog) g k 5 [.int .u8 cw] 0 cur w1 b2 hkc (fun u hu => by rw [List.mem_singleton.1 hu]; rfl)
  generalize hls : (cur.toList.take (k + 0) ++ [Value.int .u8 cw] ++ cur.toList.drop (k + 0 + [Value.int .u8 cw].length)) = ls at hst
  have hls2 : ls = cur.toList.set k (.int .u8 cw) := by
    rw [← hls, List.set_eq_take_append_cons_drop, if_pos (by simp at hkc ⊢; omega)]; simp
  refine wpOps_skip (o := (rOps R11b)[5]!) (w' := w1.setRow g ls.toArray) (by kernel_rfl) (by kernel_rfl) ?_ ?_
  · simp only [execOp, u5]
    rw [put_eval_eq (by simp [Act.put]; omega), put_eval_ne (by omega), put_eval_eq (by simp [Act.put]; omega)]
    simp [Instr.storeAt, Instr.sureAddr, storeVar, run_size' (show szT Try.prog 5 = some 1 by rfl), Value.cells, hst]
  rw [g5]
  have hown2 : (w1.setRow g ls.toArray).ownsRow γ.base 5 1 (.slice (some ⟨g, 0, none⟩) bs.length cap) bs.length (byts (bs.set k cw)) := by
    refine ⟨by simp [byts], .inr ⟨g, cap, ls.toArray, rfl, hbase, setRow_heap w1 g cur ls.toArray 5 (0, 0) b2, b3, b4, by rw [hls2]; simpa using b5, ?_⟩⟩
    rw [hls2]
    simp only
    rw [List.take_set, b6, byts_set]
  have hr3 := hr2.setNew (cs := ls.toArray) hgblk hgpr hgfr hbase hglt bs.length
  have hVn : V (fun b i => γ.pr b i ∨ (b = g ∧ i < bs.length)) (w1.setRow g ls.toArray) (.slice (some ⟨g, 0, none⟩) bs.length cap) (.row none 1 bs.length ((bs.set k cw).map uA)) := by
    rw [uA_map]
    exact V_own hown2 b3 b4 (VL_sc.2 rfl) (byts_oneCell _) (fun i hi => .inr ⟨rfl, by omega⟩) none
  have hr4 := ((((hr3.putAny (d := 82) (c := .slice (some ⟨g, 0, none⟩) bs.length cap) (by rfl)).putAny (d := 83) (c := .int .i64 k) (by rfl)).putAny (d := 84) (c := .int .i64 p) (by rfl)).putAny (d := 85) (c := .int .u8 cw) (by rfl)).putAny (d := 86) (c := .pointer (some ⟨g, k, none⟩)) (by rfl)
  generalize ha3 : ((((a2.put (some 82) (.slice (some ⟨g, 0, none⟩) bs.length cap)).put (some 83) (.int .i64 k)).put (some 84) (.int .i64 p)).put (some 85) (.int .u8 cw)).put (some 86) (.pointer (some ⟨g, k, none⟩)) = a3 at hr4 ⊢
  have e18 : a3.tmps.getD 18 undef = .slice (some ⟨g, 0, none⟩) bs.length cap := by
    have : a3.eval (.tmp 18) = .slice (some ⟨g, 0, none⟩) bs.length cap := by
      rw [← ha3, put_eval_ne (by omega), put_eval_ne (by omega), put_eval_ne (by omega), put_eval_ne (by omega), put_eval_ne (by omega), f18]
    exact this
  have hr5 : Rel { γ with pr := fun b i => γ.pr b i ∨ (b = g ∧ i < bs.length) } w0 (st4b x0 bs more p q k bs.length ((bs.set k cw).map uA)) a3 (w1.setRow g ls.toArray) := by
    refine ⟨hr4.size, hr4.defers, hr4.below, hr4.base, fun t x hx => ?_, hr4.obj, hr4.len, hr4.inj, hr4.blt, hr4.plt, hr4.frm⟩
    by_cases ht : t = 18
    · subst ht
      have hx' : x = .row none 1 bs.length ((bs.set k cw).map uA) := by
        have : look (st4b x0 bs more p q k bs.length ((bs.set k cw).map uA)).slots 18 = some (.row none 1 bs.length ((bs.set k cw).map uA)) := rfl
        rw [this] at hx; exact (Option.some.inj hx).symm
      subst hx'
      rw [e18]
      exact AVR.nil_of_V hVn
    · refine hr4.slot t x ?_
      have hne : ∀ y, look ([(18, y)] : List (Nat × AV)) t = none := fun y => by rw [look_cons, if_neg (fun e => ht e.symm)]; rfl
      simp only [st4b, st4a, look_cons] at hx ⊢
      simp only [if_neg (fun e : 18 = t => ht e.symm)] at hx
      exact hx
  have hge : GExt γ { γ with pr := fun b i => γ.pr b i ∨ (b = g ∧ i < bs.length) } := ⟨rfl, fun b i hb hq => by
    rcases hq with hq | ⟨e, _⟩
    · exact hq
    · subst e; omega, rfl⟩
  exact wp_mono (J _ w0 a3 _ hr5) fun e a' w' ⟨out, hq, hpo⟩ => ⟨out, hq, PostOf.trans hge hpo⟩
end Go.Proofs.Ytlekojbcaelpiaa

/- ReportBytes returns true, for all inputs of bulk at most 1048576. -/
namespace Go.Proofs.Ytlekojbcaelpiaa
open Go.ChangeShapes Go.WideShapes Go.ChangeAt Go.RowKit
theorem wrap_U8 (p : Int) : U8 (IntKind.u8.wrap p) := by
  have e : IntKind.u8.wrap p = p % 256 := by simp [IntKind.wrap, IntKind.bits, IntKind.signed]
  rw [e]; exact ⟨by omega, by omega⟩
theorem bytes_small {na ne : Nat} {r : Rp} (h : Sz na ne r) (hna : na ≤ 1000) (hne : ne ≤ 1000) : (bytesR r).length ≤ 40000 := by
  obtain ⟨h1, h2, h3⟩ := h
  have a := encInts_le _ h3.four (by simp)
  have b := encInts_le _ h3.args (by omega)
  have c := encInts_le _ h3.evs (by rw [nums_length]; omega)
  rw [nums_length] at c
  simp only [List.length_cons, List.length_nil] at a
  unfold bytesR
  rw [List.length_append, List.length_append]; omega
theorem dec_both {t : List Int} (hb : t.length ≤ 900000) (hu : U8s t) : ∃ (y : Rp) (m e : Int), Ok Try.prog 17 [rowU t] (plainR (.tup [rpA y, iA m, iA e])) ∧ Ok Try.prog 22 [rowU t] (plainR (.tup [rpA y, iA m, iA e])) ∧ Ok Try.prog 23 [rpA y, rpA y] (plainR (bA true)) := by
  obtain ⟨y, m, e, hd, fy⟩ := dec_fit hb hu
  have h1 := ok17 t hb hu
  have h2 := ok22 t hb hu
  rw [← dec_eq hb hu, hd] at h2
  rw [hd] at h1
  have h3 := ok23 y y fy fy
  rw [sameR_refl] at h3
  exact ⟨y, m, e, h1, h2, h3⟩
theorem rowU_cat (a b : List Int) : AV.row none 1 (a.length + b.length) (a.map uA ++ b.map uA) = rowU (a ++ b) := by
  unfold rowU; rw [List.length_append, List.map_append]
theorem rowU_cat3 (a : List Int) (x : Int) (b : List Int) : AV.row none 1 (a.length + 1 + b.length) (a.map uA ++ [uA x] ++ b.map uA) = rowU (a ++ [x] ++ b) := by
  unfold rowU; rw [List.length_append, List.length_append, List.map_append, List.map_append]; rfl
theorem law4 (l : List Int) (p q : Int) (more : List Int) (hl : l.length ≤ 90000000) (hw : I64s l) (hp : I64 p) (hq : I64 q) (hlm : more.length ≤ 80000000) (hum : U8s more) : Ok Try.prog 4 [rowI l, iA p, iA q, rowU more] (plainR (bA true)) := by
  have s0 := sz_one l
  have s1 := sz_spoilt s0 p q hq
  have hv := valid_one l
  have f0 := s0.fit (by omega) (by omega)
  have f1 := s1.fit (by omega) (by omega)
  have h8 := ok8 l (by omega) hw
  have h9 := ok9 (oneR l) p q hp hq (by have := f0.la; omega) (by have := f0.le; omega)
  have h14 := ok14 (oneR l) f0
  have h20 := ok20 (oneR l) (oneR l) f0 f0
  rw [sameR_refl] at h20
  have h21 := ok21 (spoiltR (oneR l) p q) f1
  have hsl := bytes_small s1 (by omega) (by omega)
  have hsu := bytesR_u8 (spoiltR (oneR l) p q) f1
  have hbl := bytes_small s0 (by omega) (by omega)
  have hbu := bytesR_u8 (oneR l) f0
  have hde := dec_enc (oneR l) f0 hv
  have hds := fun {k : Nat} (hk : k < (bytesR (oneR l)).length) => dec_short (oneR l) f0 hv hk (by omega)
  have hpos : 0 < (bytesR (oneR l)).length := by
    unfold bytesR encInts
    simp only [List.length_append, encZ_length]; omega
  have he : encB (oneR l) = bytesR (oneR l) := by unfold encB; rw [if_pos hv]
  rw [he] at h14
  generalize bytesR (spoiltR (oneR l) p q) = s at *
  generalize spoiltR (oneR l) p q = x1 at *
  generalize bytesR (oneR l) = bs at *
  generalize oneR l = x0 at *
  have a0 := aroundZ_nonneg q (bs.length : Int) (by omega)
  have a1 := aroundZ_lt q (bs.length : Int) (by omega)
  have h19 := ok19 q (bs.length : Int) (by omega) (by omega) hq
  obtain ⟨k, hk⟩ : ∃ k : Nat, aroundZ q (bs.length : Int) = k := ⟨(aroundZ q (bs.length : Int)).toNat, by omega⟩
  rw [hk] at h19 a1
  have hkl : k < bs.length := by omega
  have h18a := few_any bs bs.length bs.length (Nat.min_self _) (by omega)
  rw [List.take_length] at h18a
  have h18b := few_any more 30 _ rfl (by omega)
  have h18k := few_any bs k k (Nat.min_eq_right (by omega)) (by omega)
  have hm30 : (more.take (min more.length 30)).length ≤ 30 := by rw [List.length_take]; omega
  have hu30 : U8s (more.take (min more.length 30)) := fun x hx => hum x (List.mem_of_mem_take hx)
  have h17a := ok17 (bs ++ more.take (min more.length 30)) (by rw [List.length_append]; omega) (fun x hx => by
    rcases List.mem_append.1 hx with hx | hx
    · exact hbu x hx
    · exact hu30 x hx)
  rw [hde _ hu30, ← rowU_cat] at h17a
  have h17b := ok17 (bs.take k) (by rw [List.length_take]; omega) (fun x hx => hbu x (List.mem_of_mem_take hx))
  rw [hds hkl] at h17b
  obtain ⟨cw, hcw⟩ : ∃ cw, IntKind.u8.wrap p = cw := ⟨_, rfl⟩
  have hcu : U8 cw := by rw [← hcw]; exact wrap_U8 p
  have hcv := hConvB p
  rw [hcw] at hcv
  have uk : U8s (bs.take k) := fun x hx => hbu x (List.mem_of_mem_take hx)
  have ud : ∀ j, U8s (bs.drop j) := fun j x hx => hbu x (List.mem_of_mem_drop hx)
  obtain ⟨y0, m0, e0, A0, B0, S0⟩ := dec_both (t := bs.set k cw) (by rw [List.length_set]; omega) (fun x hx => by
    rcases List.mem_or_eq_of_mem_set hx with hx | rfl
    · exact hbu x hx
    · exact hcu)
  obtain ⟨y1, m1, e1, A1, B1, S1⟩ := dec_both (t := bs.take k ++ bs.drop (k + 1)) (by rw [List.length_append, List.length_take, List.length_drop]; omega) (fun x hx => by
    rcases List.mem_append.1 hx with hx | hx
    · exact uk x hx
    · exact ud _ x hx)
  obtain ⟨y2, m2, e2, A2, B2, S2⟩ := dec_both (t := bs.take k ++ [cw] ++ bs.drop k) (by rw [List.length_append, List.length_append, List.length_take, List.length_drop]; simp; omega) (fun x hx => by
    rcases List.mem_append.1 hx with hx | hx
    · rcases List.mem_append.1 hx with hx | hx
      · exact uk x hx
      · simp only [List.mem_singleton] at hx; subst hx; exact hcu
    · exact ud _ x hx)
  obtain ⟨y3, m3, e3, A3, B3, S3⟩ := dec_both (t := s) (by omega) hsu
  obtain ⟨y4, m4, e4, A4, B4, S4⟩ := dec_both (t := more.take (min more.length 40)) (by rw [List.length_take]; omega) (fun x hx => hum x (List.mem_of_mem_take hx))
  rw [← rowU_cat] at A1 B1
  rw [← rowU_cat3] at A2 B2
  refine Ok.judgW Try.func4 (c := C4) rfl (by simp [Try.ntmps4]) ?_
  show Judg C4 (start [rowI l, iA p, iA q, rowU more] 158) _
  refine m4_start l x0 bs more p q k (more.take (min more.length 30)) hkl (by omega) hm30 h8 h14 h18a h18b h17a h19 h17b h20 ?_
  refine m4_store hkl (by omega) hcw.symm h18a ?_
  have hset : bs.length = (bs.set k cw).length := by rw [List.length_set]
  rw [hset]
  exact m4_end x0 bs more p q k (bs.set k cw) (bs.take k) (bs.drop (k + 1)) (bs.drop k) s (more.take (min more.length 40)) cw x1 (min more.length 40) y0 y1 y2 y3 y4 m0 m1 m2 m3 m4 e0 e1 e2 e3 e4 hcv h18k h9 h21 (loU (by omega)) (loU (by omega)) (hiU (by omega)) rfl
    (by rw [List.length_take]; omega) (by rw [List.length_drop]; omega) (by rw [List.length_drop]; omega) (by omega) A0 B0 S0 A1 B1 S1 A2 B2 S2 A3 B3 S3 A4 B4 S4

set_option maxRecDepth 100000 in
theorem reportBytes_contract (H : Type) (enc : TypeId × Value → H) (W : World) (base : Nat) (args : Array Value) (ds gs : List (DataW H)) (before : List MemPlace)
    (hval : ∀ (j : Nat) t v, Try.f4.params[j]? = some t → args[j]? = some v → Value.okWide Try.prog W .any base t v)
    (hW : DataW.Whole enc Try.prog Try.f4.params.toList Rows.reportBytesSpec.vars false W args.toList ds gs before) (hk : Rows.uptoSmall H (ds ++ gs) = true) :
    Calls Try.prog 4 args W fun e W' => ∃ v, e = .returned v ∧ Rows.reportBytesSpec.post enc Try.prog Try.f4 false true false false W args v W' := by
  have hW' := hW
  obtain ⟨p, q, hA0, hV, rfl, hfz, hnd⟩ := hW
  have hA : DataW.TrodAll enc Try.prog W 0 (fun _ => true) true Try.f4.params.toList args.toList ds p := hA0
  rw [Try.params4] at hA hval
  obtain ⟨v0, vs0, d0, ds0, p0, q0, hargs, rfl, rfl, h0, r0⟩ := trodAll_cons hA
  obtain ⟨v1, vs1, d1, ds1, p1, q1, rfl, rfl, rfl, h1, r1⟩ := trodAll_cons r0
  obtain ⟨v2, vs2, d2, ds2, p2, q2, rfl, rfl, rfl, h2, r2⟩ := trodAll_cons r1
  obtain ⟨v3, vs3, d3, ds3, p3, q3, rfl, rfl, rfl, h3, r3⟩ := trodAll_cons r2
  obtain ⟨rfl, rfl, rfl⟩ := trodAll_nil r3
  obtain rfl : args = #[v0, v1, v2, v3] := by cases args; simp_all
  obtain ⟨rfl, rfl⟩ := trodVars_none hV
  obtain ⟨a1, rfl, rfl, rfl, w1⟩ := open_int Try.underlying3 (hval 1 3 v1 rfl rfl) h1
  obtain ⟨a2, rfl, rfl, rfl, w2⟩ := open_int Try.underlying3 (hval 2 3 v2 rfl rfl) h2
  clear hA0
  simp only [List.append_nil, List.nil_append] at hW' hk
  have hlt0 : ∀ x ∈ p0, x.block < W.heap.size := fun x hx => hW'.lt x (by simp [hx])
  obtain ⟨l0, hV0, hw0, hb0⟩ := open22 (okWide_slice Try.underlying22 (hval 0 22 v0 rfl rfl)) h0 hlt0
  have hlt3 : ∀ x ∈ p3, x.block < W.heap.size := fun x hx => hW'.lt x (by simp [hx])
  obtain ⟨l3, hV3, hw3, hb3⟩ := open34 (okWide_slice Try.underlying34 (hval 3 34 v3 rfl rfl)) h3 hlt3
  have hbulk : Rows.uptoBulkAll (H := H) [d0, .lit (.int .i64 a1), .lit (.int .i64 a2), d3] ≤ 1048576 := bound_of hk
  simp only [Rows.uptoBulkAll] at hbulk
  have hcall := (law4 l0 a1 a2 l3 (by omega) hw0 (wf_I64 w1) (wf_I64 w2) (by omega) hw3).2 W (pr0 W) [v0, .int .i64 a1, .int .i64 a2, v3] (pr0_lt W) ⟨_, _, rfl, hV0, _, _, rfl, rfl, _, _, rfl, rfl, _, _, rfl, hV3, rfl⟩
  refine hcall.mono ?_
  rintro e W' ⟨v, pr', rfl, hbel, _, _, hres, _⟩
  have hv : v = .bool true := hres
  subst hv
  refine ⟨_, rfl, _, _, _, [], (p0 ++ ([] ++ ([] ++ (p3 ++ [])))), [], hW', ?_, ?_, rfl, hbel.frame _, fun h => by cases h⟩
  · show DataW.TrodAll enc Try.prog W' _ _ false [4] [.bool true] [.lit (.bool true)] []
    exact trodAll_cons_mk (p := []) (p' := []) (shut_bool Try.underlying4 _) trodAll_mk0
  · show DataW.TrodAll enc Try.prog W' 0 _ true [22, 3, 3, 34] [v0, .int .i64 a1, .int .i64 a2, v3] [d0, .lit (.int .i64 a1), .lit (.int .i64 a2), d3] _
    exact trodAll_cons_mk (keep22 h0 hbel hlt0) (trodAll_cons_mk (shut_int Try.underlying3 w1) (trodAll_cons_mk (shut_int Try.underlying3 w2) (trodAll_cons_mk (keep34 h3 hbel hlt3) (trodAll_mk0))))

set_option maxRecDepth 100000 in
theorem reportBytes_lifted (os : Os) (started : os.Started) (H : Type) (enc : TypeId × Value → H) (F : Stop.Interp) :
    ReturnsInHanded {} Try.checked os 4 .any ((Rows.OpenSpec.upto Rows.reportBytesSpec).pre6 enc Try.prog Try.f4 Rows.reportBytesUptoRow.domain false) (((Rows.OpenSpec.upto Rows.reportBytesSpec).at F).post enc Try.prog Try.f4 false true false false) := by
  refine returnsInHanded_of_cond (C := Try.checked) (s := Rows.OpenSpec.upto Rows.reportBytesSpec) (k := Rows.uptoSmall) rfl own0 started (by kernel_rfl) Try.func4
    (OpenSpec.witness (enc := enc) (C := Try.checked) (s := Rows.OpenSpec.upto Rows.reportBytesSpec) (k := Rows.uptoSmall) rfl false ⟨#[], #[.slice none 0 0, .int .i64 0, .int .i64 0, .slice none 0 0], []⟩ 8 (by kernel_rfl) (by kernel_rfl) (by kernel_rfl)
      (x := ([.nil, .lit (.int .i64 0), .lit (.int .i64 0), .nil], [], [])) (by kernel_rfl) rfl (by kernel_rfl)) ?_
  intro W base args ds gs before hval hW _ hk _
  exact reportBytes_contract H enc W base args ds gs before hval hW hk
theorem reportBytesUpto_proved : Rows.ReportBytesUptoSaid :=
  OpenClaim.holds_of_cond 4 Try.f4 rfl rfl rfl rfl rfl rfl rfl ⟨rfl, rfl, rfl, rfl, rfl⟩ rfl rfl rfl rfl rfl (by kernel_rfl) Try.func4 (by kernel_rfl)
    (of_decide_eq_true (by kernel_rfl)) (by unfold Func.isWrapper; first | (rw [if_pos (by decide +kernel)]; kernel_rfl) | (rw [if_neg (by decide +kernel)]; exact ⟨rfl, rfl⟩))
    (fun os started H enc _ F => reportBytes_lifted os started H enc F)
end Go.Proofs.Ytlekojbcaelpiaa
