/- Contracts of the functions that the laws of scorialaw11 reach, part 1. -/
import Derived.RowKit3
import Derived.Below
import Derived.Laws.AppendOwn
import Derived.Laws.OwnMore
import Derived.OrdersHeld
import Derived.Test.YtmhoefpienagkaaDoorProg
import Derived.Orders
import Derived.Laws.Cells
import Derived.Laws.CopyRow
import Derived.Laws.Tables
import Derived.Great.BuildSlice
section
/- Memory of one's own as named rows: what they hold, and what a store, an append, a cut and a new row do to them. -/
set_option linter.unusedSectionVars false
namespace Go.Proofs.YtmhoefpienagkaaDoor
open Go.RowKit

/-- what a name stands for: a slice value, how many elements, their cells -/
structure RowS where
  v : Value
  n : Nat
  xs : List Value

/-- the block that a slice value with room owns -/
def blkOf : Value → Option Nat
  | .slice (some a) _ (_ + 1) => some a.block
  | _ => none
/-- the address of a cell of a slice value -/
def ptrAt (v : Value) (k : Nat) : Addr := match v with
  | .slice (some a) _ _ => a.add k
  | _ => ⟨0, k, none⟩

def Holds (w : World) (B e size : Nat) (r : RowS) : Prop :=
  r.xs.length = r.n * size ∧ (∀ u ∈ r.xs, u.oneCell' = true) ∧
  ((∃ A, r.v = .slice A 0 0 ∧ r.n = 0) ∨
   ∃ g o cap cur, r.v = .slice (some ⟨g, o, none⟩) r.n (cap + 1) ∧ B ≤ g ∧ w.heap[g]? = some (.cells cur e (0, 0)) ∧ r.n ≤ cap + 1 ∧ cap + 1 ≤ maxLen ∧ cur.size = o + (cap + 1) * size ∧ (cur.toList.drop o).take (r.n * size) = r.xs)

theorem Addr.add_k (g o k : Nat) : (⟨g, o, none⟩ : Addr).add k = ⟨g, o + k, none⟩ := by
  unfold Addr.add; split <;> simp_all
theorem Addr.add_add (a : Addr) (j k : Nat) (h : a.spot = none) : (a.add j).add k = a.add (j + k) := by
  obtain ⟨g, o, s⟩ := a
  simp only at h; subst h
  rw [Addr.add_k, Addr.add_k, Addr.add_k, Nat.add_assoc]

section
variable {w w' : World} {B e size : Nat} {r : RowS}
theorem Holds.cell (h : Holds w B e size r) {i : Nat} {u : Value} (hu : r.xs[i]? = some u) : w.cell? (ptrAt r.v i) = some u := by
  obtain ⟨h1, _, h2⟩ := h
  have hi : i < r.xs.length := (List.getElem?_eq_some_iff.1 hu).1
  rcases h2 with ⟨A, _, hn⟩ | ⟨g, o, cap, cur, hv, _, hg, hn, _, hs, ht⟩
  · rw [h1, hn] at hi; omega
  · rw [hv]
    simp only [ptrAt, Addr.add_k, World.cell?, hg, Option.isSome_none, Bool.false_eq_true, if_false]
    rw [← ht, List.getElem?_take] at hu
    split at hu
    · rw [List.getElem?_drop] at hu
      simpa using hu
    · cases hu
theorem Holds.frozen (h : Holds w B e size r) {i : Nat} (hi : i < r.xs.length) : w.frozen? (ptrAt r.v i) = false := by
  obtain ⟨h1, _, h2⟩ := h
  rcases h2 with ⟨A, _, hn⟩ | ⟨g, o, cap, cur, hv, _, hg, hn, _, hs, ht⟩
  · rw [h1, hn] at hi; omega
  · rw [hv]
    simp [ptrAt, Addr.add_k, World.frozen?, hg]
theorem Holds.blk (h : Holds w B e size r) {g : Nat} (hg : blkOf r.v = some g) : B ≤ g ∧ g < w.heap.size := by
  obtain ⟨h1, _, h2⟩ := h
  rcases h2 with ⟨A, hv, hn⟩ | ⟨g', o, cap, cur, hv, hb, hh, _⟩
  · rw [hv] at hg; cases A <;> simp [blkOf] at hg
  · rw [hv] at hg; simp only [blkOf, Option.some.injEq] at hg; subst hg
    exact ⟨hb, (Array.getElem?_eq_some_iff.1 hh).1⟩
theorem Holds.kept (h : Holds w B e size r) (hk : ∀ g, blkOf r.v = some g → w'.heap[g]? = w.heap[g]?) : Holds w' B e size r := by
  obtain ⟨h1, h0, h2⟩ := h
  refine ⟨h1, h0, ?_⟩
  rcases h2 with hn | ⟨g, o, cap, cur, hv, hb, hh, rest⟩
  · exact .inl hn
  · refine .inr ⟨g, o, cap, cur, hv, hb, ?_, rest⟩
    rw [hk g (by rw [hv]; rfl)]; exact hh
theorem Holds.nil (A : Option Addr) : Holds w B e size ⟨.slice A 0 0, 0, []⟩ := ⟨by simp, by simp, .inl ⟨A, rfl, rfl⟩⟩
theorem Holds.take (h : Holds w B e size r) {k : Nat} (hk : k ≤ r.n) {A : Option Addr} {n cap : Nat} (hv : r.v = .slice A n cap) : Holds w B e size ⟨.slice A k cap, k, r.xs.take (k * size)⟩ := by
  obtain ⟨h1, h0, h2⟩ := h
  have hle : k * size ≤ r.n * size := Nat.mul_le_mul_right _ hk
  refine ⟨by simp only [List.length_take, h1]; omega, fun u hu => h0 u (List.mem_of_mem_take hu), ?_⟩
  rcases h2 with ⟨A', hv', hn⟩ | ⟨g, o, cap', cur, hv', hb, hh, hn, hm, hs, ht⟩
  · rw [hv] at hv'
    cases hv'
    exact .inl ⟨A, by simp only [Value.slice.injEq, true_and, and_true]; omega, by simp only; omega⟩
  · rw [hv] at hv'
    cases hv'
    refine .inr ⟨g, o, cap', cur, rfl, hb, hh, by simp only; omega, hm, hs, ?_⟩
    simp only
    rw [← ht, List.take_take, Nat.min_eq_left hle]
theorem Holds.drop (h : Holds w B e size r) {k : Nat} (hk : k ≤ r.n) {A : Option Addr} {n cap : Nat} (hv : r.v = .slice A n cap) :
    Holds w B e size ⟨.slice (if cap = k then A else A.map (·.add (k * size))) (r.n - k) (cap - k), r.n - k, r.xs.drop (k * size)⟩ := by
  obtain ⟨h1, h0, h2⟩ := h
  have hle : k * size ≤ r.n * size := Nat.mul_le_mul_right _ hk
  refine ⟨by simp only [List.length_drop, h1, Nat.sub_mul], fun u hu => h0 u (List.mem_of_mem_drop hu), ?_⟩
  rcases h2 with ⟨A', hv', hn⟩ | ⟨g, o, cap', cur, hv', hb, hh, hn, hm, hs, ht⟩
  · rw [hv] at hv'
    cases hv'
    have : k = 0 := by omega
    subst this
    exact .inl ⟨A, by simp; omega, by simp only; omega⟩
  · rw [hv] at hv'
    cases hv'
    by_cases hc : cap' + 1 = k
    · have e1 : r.n - k = 0 := by omega
      have e2 : cap' + 1 - k = 0 := by omega
      exact .inl ⟨some ⟨g, o, none⟩, by show Value.slice (if cap' + 1 = k then _ else _) (r.n - k) (cap' + 1 - k) = _; rw [if_pos hc, e1, e2], e1⟩
    · obtain ⟨c2, hc2⟩ : ∃ c2, cap' + 1 - k = c2 + 1 := ⟨cap' - k, by omega⟩
      have hmul : (cap' + 1) * size = k * size + (c2 + 1) * size := by rw [← Nat.add_mul]; congr 1; omega
      have hmul2 : r.n * size = k * size + (r.n - k) * size := by rw [← Nat.add_mul]; congr 1; omega
      refine .inr ⟨g, o + k * size, c2, cur, by show Value.slice (if cap' + 1 = k then _ else _) (r.n - k) (cap' + 1 - k) = _; rw [if_neg hc, hc2, Option.map_some, Addr.add_k], hb, hh, by show r.n - k ≤ c2 + 1; omega, by omega, by omega, ?_⟩
      show (cur.toList.drop (o + k * size)).take ((r.n - k) * size) = r.xs.drop (k * size)
      rw [← ht, List.drop_take, List.drop_drop]
      congr 1
      omega
end

/-- what the call's own memory holds: every name owns its row, and no two names one block -/
structure Mem {α : Type} (ty sz : α → Nat) (w : World) (B : Nat) (ρ : α → RowS) : Prop where
  row : ∀ d, Holds w B (ty d) (sz d) (ρ d)
  inj : ∀ d d' g, blkOf (ρ d).v = some g → blkOf (ρ d').v = some g → d = d'

def upd {α : Type} [DecidableEq α] (ρ : α → RowS) (d : α) (r : RowS) : α → RowS := fun x => if x = d then r else ρ x
theorem upd_same {α : Type} [DecidableEq α] (ρ : α → RowS) (d : α) (r : RowS) : upd ρ d r d = r := by simp [upd]
theorem upd_ne {α : Type} [DecidableEq α] (ρ : α → RowS) {d x : α} (r : RowS) (h : x ≠ d) : upd ρ d r x = ρ x := by simp [upd, h]

section
variable {α : Type} [DecidableEq α] {ty sz : α → Nat} {w w' : World} {B : Nat} {ρ : α → RowS}
theorem Mem.kept (h : Mem ty sz w B ρ) (hk : ∀ k, B ≤ k → k < w.heap.size → w'.heap[k]? = w.heap[k]?) : Mem ty sz w' B ρ :=
  ⟨fun d => (h.row d).kept fun g hg => hk g ((h.row d).blk hg).1 ((h.row d).blk hg).2, h.inj⟩
theorem Mem.called (h : Mem ty sz w B ρ) (hb : Below w.heap.size w w') : Mem ty sz w' B ρ := h.kept fun k _ hk => hb.block k hk
/-- one name changes its row; the others' blocks stay -/
theorem Mem.change (h : Mem ty sz w B ρ) (d : α) (r : RowS) (hr : Holds w' B (ty d) (sz d) r) (hk : ∀ d', d' ≠ d → ∀ g, blkOf (ρ d').v = some g → w'.heap[g]? = w.heap[g]?)
    (hn : ∀ g, blkOf r.v = some g → blkOf (ρ d).v = some g ∨ w.heap.size ≤ g) : Mem ty sz w' B (upd ρ d r) := by
  have key : ∀ d', d' ≠ d → ∀ g, blkOf r.v = some g → blkOf (ρ d').v ≠ some g := fun d' hd g hg hg' => by
    rcases hn g hg with h1 | h1
    · exact hd (h.inj d' d g hg' h1)
    · have := ((h.row d').blk hg').2; omega
  refine ⟨fun d' => ?_, fun d1 d2 g h1 h2 => ?_⟩
  · by_cases hd : d' = d
    · subst hd; rw [upd_same]; exact hr
    · rw [upd_ne ρ r hd]; exact (h.row d').kept (hk d' hd)
  · by_cases e1 : d1 = d <;> by_cases e2 : d2 = d
    · rw [e1, e2]
    · subst e1; rw [upd_same] at h1; rw [upd_ne ρ r e2] at h2; exact absurd h2 (key d2 e2 g h1)
    · subst e2; rw [upd_same] at h2; rw [upd_ne ρ r e1] at h1; exact absurd h1 (key d1 e1 g h2)
    · rw [upd_ne ρ r e1] at h1; rw [upd_ne ρ r e2] at h2; exact h.inj d1 d2 g h1 h2
theorem Mem.cell (h : Mem ty sz w B ρ) (d : α) {i : Nat} {u : Value} (hu : (ρ d).xs[i]? = some u) : w.cell? (ptrAt (ρ d).v i) = some u := (h.row d).cell hu
theorem Mem.frozen (h : Mem ty sz w B ρ) (d : α) {i : Nat} (hi : i < (ρ d).xs.length) : w.frozen? (ptrAt (ρ d).v i) = false := (h.row d).frozen hi
theorem Mem.take (h : Mem ty sz w B ρ) (d : α) {k : Nat} (hk : k ≤ (ρ d).n) {A : Option Addr} {n cap : Nat} (hv : (ρ d).v = .slice A n cap) : Mem ty sz w B (upd ρ d ⟨.slice A k cap, k, (ρ d).xs.take (k * sz d)⟩) :=
  h.change d _ ((h.row d).take hk hv) (fun _ _ _ _ => rfl) fun g hg => .inl (by
    rw [hv]; cases A <;> cases cap <;> simp_all [blkOf])
theorem Mem.drop (h : Mem ty sz w B ρ) (d : α) {k : Nat} (hk : k ≤ (ρ d).n) {A : Option Addr} {n cap : Nat} (hv : (ρ d).v = .slice A n cap) :
    Mem ty sz w B (upd ρ d ⟨.slice (if cap = k then A else A.map (·.add (k * sz d))) ((ρ d).n - k) (cap - k), (ρ d).n - k, (ρ d).xs.drop (k * sz d)⟩) :=
  h.change d _ ((h.row d).drop hk hv) (fun _ _ _ _ => rfl) fun g hg => .inl (by
    rw [hv]
    cases A with
    | none => split at hg <;> simp [blkOf] at hg
    | some a =>
      cases cap with
      | zero => split at hg <;> simp [blkOf] at hg
      | succ c =>
        have hab : ∀ q, (a.add q).block = a.block := fun q => by unfold Addr.add; split <;> rfl
        split at hg
        · rename_i hc; have : c + 1 - k = 0 := by omega
          rw [this] at hg; simp [blkOf] at hg
        · obtain ⟨c2, hc2⟩ : ∃ c2, c + 1 - k = c2 + 1 ∨ c + 1 - k = 0 := ⟨c - k, by omega⟩
          rcases hc2 with hc2 | hc2
          · rw [hc2] at hg; simpa [blkOf, hab] using hg
          · rw [hc2] at hg; simp [blkOf] at hg)
theorem Mem.nil (h : Mem ty sz w B ρ) (d : α) (A : Option Addr) : Mem ty sz w B (upd ρ d ⟨.slice A 0 0, 0, []⟩) :=
  h.change d _ (Holds.nil A) (fun _ _ _ _ => rfl) fun g hg => by cases A <;> simp [blkOf] at hg
/-- a new block -/
theorem Mem.alloc (h : Mem ty sz w B ρ) (d : α) (n : Nat) (xs : List Value) (hB : B ≤ w.heap.size) (hn : 0 < n) (hm : n ≤ maxLen) (hl : xs.length = n * sz d) (h1 : ∀ u ∈ xs, u.oneCell' = true) :
    Mem ty sz (w.alloc (.cells xs.toArray (ty d))) B (upd ρ d ⟨.slice (some ⟨w.heap.size, 0, none⟩) n n, n, xs⟩) := by
  obtain ⟨c, rfl⟩ : ∃ c, n = c + 1 := ⟨n - 1, by omega⟩
  refine h.change d _ ⟨hl, h1, .inr ⟨w.heap.size, 0, c, xs.toArray, rfl, hB, heap_alloc_new w _, Nat.le_refl _, hm, by simpa using hl, ?_⟩⟩ (fun d' hd g hg => heap_alloc_old w _ g ((h.row d').blk hg).2) fun g hg => .inr (by simp only [blkOf, Option.some.injEq] at hg; omega)
  simp only [List.drop_zero, ← hl, List.take_length]
/-- a row that a callee made -/
theorem Mem.adopt (h : Mem ty sz w B ρ) (hb : Below w.heap.size w w') (hB : B ≤ w.heap.size) (d : α) {v : Value} {n : Nat} {us : List Value} (h1 : ∀ u ∈ us, u.oneCell' = true)
    (ho : (∃ A, v = .slice A 0 0 ∧ n = 0 ∧ us = []) ∨ w'.ownsRow w.heap.size (ty d) (sz d) v n us) : Mem ty sz w' B (upd ρ d ⟨v, n, us⟩) := by
  have hold : ∀ d', d' ≠ d → ∀ g, blkOf (ρ d').v = some g → w'.heap[g]? = w.heap[g]? := fun d' _ g hg => hb.block g ((h.row d').blk hg).2
  rcases ho with ⟨A, rfl, rfl, rfl⟩ | ⟨hl, ⟨rfl, rfl⟩ | ⟨g, cap, cur, rfl, hb1, hg, hn, hm, hs, ht⟩⟩
  · exact h.change d _ (Holds.nil A) hold fun g hg => by cases A <;> simp [blkOf] at hg
  · have : us = [] := List.eq_nil_of_length_eq_zero (by simpa using hl)
    subst this
    exact h.change d _ (Holds.nil none) hold fun g hg => by simp [blkOf] at hg
  · cases cap with
    | zero =>
      have : n = 0 := by omega
      subst this
      have : us = [] := List.eq_nil_of_length_eq_zero (by simpa using hl)
      subst this
      exact h.change d _ (Holds.nil _) hold fun g hg => by simp [blkOf] at hg
    | succ c =>
      refine h.change d _ ⟨hl, h1, .inr ⟨g, 0, c, cur, rfl, by omega, hg, hn, hm, by simpa using hs, by simpa using ht⟩⟩ hold fun g' hg' => .inr ?_
      simp only [blkOf, Option.some.injEq] at hg'; omega
end
end Go.Proofs.YtmhoefpienagkaaDoor
end

section
/- Memory of one's own as named rows: stores and appends of the machine. -/
set_option linter.unusedSectionVars false
namespace Go.Proofs.YtmhoefpienagkaaDoor
open Go.RowKit

/-- cells laid into a list from an index on -/
def puts (xs : List Value) (i : Nat) (vs : List Value) : List Value := xs.take i ++ vs ++ xs.drop (i + vs.length)
theorem puts_length {xs vs : List Value} {i : Nat} (h : i + vs.length ≤ xs.length) : (puts xs i vs).length = xs.length := by
  simp [puts]; omega
theorem puts_one (xs : List Value) (i : Nat) (v : Value) (h : i < xs.length) : puts xs i [v] = xs.set i v := by
  rw [List.set_eq_take_append_cons_drop, if_pos h]; simp [puts]
theorem puts_mem {xs vs : List Value} {i : Nat} {u : Value} (h : u ∈ puts xs i vs) : u ∈ xs ∨ u ∈ vs := by
  simp only [puts, List.mem_append] at h
  rcases h with (h | h) | h
  · exact .inl (List.mem_of_mem_take h)
  · exact .inr h
  · exact .inl (List.mem_of_mem_drop h)

section
variable {α : Type} [DecidableEq α] {ty sz : α → Nat} {w w' : World} {B : Nat} {ρ : α → RowS} {P : Program}
theorem Mem.store (h : Mem ty sz w B ρ) (d : α) {i : Nat} {vs : List Value} (hi : i + vs.length ≤ (ρ d).xs.length) (h0 : 0 < vs.length) (h1 : ∀ u ∈ vs, u.oneCell' = true) :
    ∃ w', (storeCells (ptrAt (ρ d).v i) vs).run P w = .ok () w' ∧ Mem ty sz w' B (upd ρ d ⟨(ρ d).v, (ρ d).n, puts (ρ d).xs i vs⟩) ∧ Below B w w' ∧ w'.heap.size = w.heap.size := by
  obtain ⟨hl, hone, hh⟩ := h.row d
  rcases hh with ⟨A, hv, hn⟩ | ⟨g, o, cap, cur, hv, hb, hg, hn, hm, hs, ht⟩
  · rw [hl, hn] at hi; omega
  · have hle : (ρ d).n * sz d ≤ (cap + 1) * sz d := Nat.mul_le_mul_right _ hn
    have hfit : o + i + vs.length ≤ cur.size := by omega
    have hst := run_storeCells_at (P := P) g (o + i) (ty d) vs 0 cur w hg (by omega) h1
    simp only [Nat.add_zero] at hst
    refine ⟨w.setRow g (cur.toList.take (o + i) ++ vs ++ cur.toList.drop (o + i + vs.length)).toArray, by rw [hv]; simpa only [ptrAt, Addr.add_k] using hst, ?_, ⟨rfl, rfl, rfl, by simp [World.setRow], fun k hk => setRow_other w g k _ (by omega)⟩, by simp [World.setRow]⟩
    refine h.change d _ ⟨by rw [puts_length hi]; exact hl, fun u hu => (puts_mem hu).elim (hone u) (h1 u), .inr ⟨g, o, cap, _, hv, hb, setRow_heap w g cur _ _ _ hg, hn, hm, ?_, ?_⟩⟩ (fun d' hd g' hg' => setRow_other w g g' _ fun e => hd (h.inj d' d g' hg' (by rw [hv, e]; rfl))) fun g' hg' => .inl hg'
    · simp only [List.size_toArray, List.length_append, List.length_take, List.length_drop, Array.length_toList]; omega
    · simp only
      have hx : (ρ d).xs.length = (ρ d).n * sz d := hl
      rw [← ht]
      unfold puts
      refine List.ext_getElem? fun t => ?_
      have e1 : (cur.toList.take (o + i)).length = o + i := by simp; omega
      have e2 : (((cur.toList.drop o).take ((ρ d).n * sz d)).take i).length = i := by simp; omega
      by_cases h2 : t < (ρ d).n * sz d
      · rw [List.getElem?_take, if_pos h2, List.getElem?_drop, List.append_assoc, List.append_assoc]
        by_cases h3 : t < i
        · rw [List.getElem?_append_left (by rw [e1]; omega), List.getElem?_append_left (by rw [e2]; exact h3), List.getElem?_take, if_pos (by omega), List.getElem?_take, if_pos h3, List.getElem?_take, if_pos h2, List.getElem?_drop]
        · rw [List.getElem?_append_right (l₁ := cur.toList.take (o + i)) (by rw [e1]; omega), List.getElem?_append_right (l₁ := ((cur.toList.drop o).take ((ρ d).n * sz d)).take i) (by rw [e2]; omega), e1, e2]
          have e3 : o + t - (o + i) = t - i := by omega
          rw [e3]
          by_cases h4 : t - i < vs.length
          · rw [List.getElem?_append_left h4, List.getElem?_append_left h4]
          · rw [List.getElem?_append_right (by omega), List.getElem?_append_right (by omega), List.getElem?_drop, List.getElem?_drop, List.getElem?_take, if_pos (by omega), List.getElem?_drop]
            congr 1; omega
      · rw [List.getElem?_take, if_neg h2, List.getElem?_eq_none]
        simp; omega

variable (t tt : TypeId) (d : α) (i : TypeInfo) (z : Value) (bytes : Nat) (ht : P.underlying t = some (.slice (ty d))) (hi : P.info? (ty d) = some i) (hz : i.zero = some z)
    (hsize : i.size = sz d) (hby : i.bytes = bytes) (hzs : z.cells.size = sz d) (hz1 : z.cells.toList.all (·.oneCell') = true)
include ht hi hz hsize hby hzs hz1
theorem Mem.append (h : Mem ty sz w B ρ) (hB : B ≤ w.heap.size) (ad : Addr) (m cp : Nat) (news : List Value) (hl : news.length = m * sz d) (hnews : ∀ j u, news[j]? = some u → w.cell? (ad.add j) = some u) (hm : 0 < m)
    (h1 : ∀ u ∈ news, u.oneCell' = true) (h63 : (ρ d).n + m ≤ maxLen) (hbytes : ((ρ d).n + m) * bytes ≤ 140737488355328) :
    ∃ v' w', (Builtin.append_ #[t, t] tt #[(ρ d).v, .slice (some ad) m cp]).run P w = .ok v' w' ∧ Mem ty sz w' B (upd ρ d ⟨v', (ρ d).n + m, (ρ d).xs ++ news⟩) ∧ Below B w w' := by
  subst hby
  obtain ⟨hlx, hone, hh⟩ := h.row d
  have hsmall : (ρ d).n + m ≤ 9223372036854775807 := by simp only [maxLen] at h63; omega
  have hone2 : ∀ u ∈ (ρ d).xs ++ news, u.oneCell' = true := fun u hu => (List.mem_append.1 hu).elim (hone u) (h1 u)
  have hlen : ((ρ d).xs ++ news).length = ((ρ d).n + m) * sz d := by rw [List.length_append, hlx, hl, Nat.add_mul]
  have grown : ∀ old : Nat, old < (ρ d).n + m → Mem ty sz (w.drew.alloc (.cells ((ρ d).xs.toArray ++ news.toArray ++ Builtin.zeroCells z.cells (grownCap w ((ρ d).n + m) old (ty d) - ((ρ d).n + m))) (ty d))) B
      (upd ρ d ⟨.slice (some ⟨w.heap.size, 0, none⟩) ((ρ d).n + m) (grownCap w ((ρ d).n + m) old (ty d)), (ρ d).n + m, (ρ d).xs ++ news⟩) ∧
      Below B w (w.drew.alloc (.cells ((ρ d).xs.toArray ++ news.toArray ++ Builtin.zeroCells z.cells (grownCap w ((ρ d).n + m) old (ty d) - ((ρ d).n + m))) (ty d))) := by
    intro old ho
    have hge := grownCap_ge w ((ρ d).n + m) old (ty d)
    have hcm : grownCap w ((ρ d).n + m) old (ty d) ≤ maxLen := grownCap_le_maxLen w ((ρ d).n + m) old (ty d) h63
    generalize grownCap w ((ρ d).n + m) old (ty d) = cap at hge hcm
    obtain ⟨c, rfl⟩ : ∃ c, cap = c + 1 := ⟨cap - 1, by omega⟩
    refine ⟨h.change d _ ⟨hlen, hone2, .inr ⟨w.heap.size, 0, c, _, rfl, hB, heap_alloc_new w.drew _, hge, hcm, ?_, ?_⟩⟩ (fun d' hd g hg => heap_alloc_old w.drew _ g ((h.row d').blk hg).2) fun g hg => .inr (by simp only [blkOf, Option.some.injEq] at hg; omega), ((Below.refl B w).drew).alloc hB _⟩
    · simp only [Array.size_append, List.size_toArray, size_zeroCells, hzs, hlx, hl, ← Nat.add_mul, Nat.zero_add]
      congr 1
      omega
    · simp only [Array.toList_append, List.append_assoc, List.drop_zero]
      rw [← List.append_assoc, ← hlen]
      exact List.take_left
  rcases hh with ⟨A, hv, hn⟩ | ⟨g, o, cap, cur, hv, hb, hg, hn, hcm, hs, htk⟩
  · have hx : (ρ d).xs = [] := List.eq_nil_of_length_eq_zero (by rw [hlx, hn]; simp)
    have hgr := grown 0 (by omega)
    rw [hx, hn] at hgr ⊢
    simp only [Nat.zero_add, List.nil_append, Array.empty_append] at hgr ⊢
    rw [hv]
    have hl' : news.length = m * i.size := by rw [hl, hsize]
    rw [hn] at hsmall hbytes
    cases A with
    | none =>
      have hr := run_append_nil (P := P) w t tt (ty d) i z ht hi hz ad m cp news hl' hnews hm (by omega) (by simp only [Nat.zero_add] at hbytes; omega)
      exact ⟨_, _, hr, hgr.1, hgr.2⟩
    | some a0 =>
      have hr := run_append_grow (P := P) w t tt (ty d) i z ht hi hz a0 0 0 [] (by simp) (by simp) ad m cp news hl' hnews (by omega) (by omega) (growslice_fits (by omega) hbytes)
      simp only [Nat.zero_add, Array.empty_append] at hr
      exact ⟨_, _, hr, hgr.1, hgr.2⟩
  · rw [hv]
    by_cases hroom : (ρ d).n + m ≤ cap + 1
    · have hfit : (ρ d).n * sz d + news.length ≤ (cap + 1) * sz d := by rw [hl, ← Nat.add_mul]; exact Nat.mul_le_mul_right _ hroom
      have hf := run_firstCells_some (P := P) w i.size m ad m cp news (by rw [hl, hsize]) hnews
      have hst := run_storeCells_at (P := P) g (o + (ρ d).n * sz d) (ty d) news 0 cur w hg (by omega) h1
      simp only [Nat.add_zero] at hst
      have hr : (Builtin.append_ #[t, t] tt #[.slice (some ⟨g, o, none⟩) (ρ d).n (cap + 1), .slice (some ad) m cp]).run P w =
          .ok (.slice (some ⟨g, o, none⟩) ((ρ d).n + m) (cap + 1)) (w.setRow g (cur.toList.take (o + (ρ d).n * sz d) ++ news ++ cur.toList.drop (o + (ρ d).n * sz d + news.length)).toArray) := by
        rw [hsize] at hf
        simp only [List.append_assoc] at hst
        simp [Builtin.append_, run_underlying ht, sizeOf, typeInfo, hi, Builtin.lenOf, hroom, hf, Addr.add_k, hsize, hst]
      refine ⟨_, _, hr, h.change d _ ⟨hlen, hone2, .inr ⟨g, o, cap, _, rfl, hb, setRow_heap w g cur _ _ _ hg, hroom, hcm, ?_, ?_⟩⟩ (fun d' hd g' hg' => setRow_other w g g' _ fun e => hd (h.inj d' d g' hg' (by rw [hv, e]; rfl))) fun g' hg' => .inl (by rw [hv]; exact hg'), ⟨rfl, rfl, rfl, by simp [World.setRow], fun k hk => setRow_other w g k _ (by omega)⟩⟩
      · simp only [List.size_toArray, List.length_append, List.length_take, List.length_drop, Array.length_toList]; omega
      · simp only
        have e1 : cur.toList.take (o + (ρ d).n * sz d) = cur.toList.take o ++ (ρ d).xs := by
          rw [← htk, List.take_add]
        rw [e1, List.append_assoc, List.append_assoc, List.drop_append_of_le_length (by simp; omega)]
        have e2 : (cur.toList.take o).drop o = [] := List.drop_eq_nil_of_le (by simp; omega)
        rw [e2, List.nil_append, ← List.append_assoc, ← hlen]
        exact List.take_left
    · have holds : ∀ j u, (ρ d).xs[j]? = some u → w.cell? ((⟨g, o, none⟩ : Addr).add j) = some u := fun j u hu => by
        have := (h.row d).cell hu
        rw [hv] at this
        exact this
      have hr := run_append_grow (P := P) w t tt (ty d) i z ht hi hz ⟨g, o, none⟩ (ρ d).n (cap + 1) (ρ d).xs (by rw [hlx, hsize]) holds ad m cp news (by rw [hl, hsize]) hnews (by omega) (by omega) (growslice_fits (by omega) hbytes)
      have hgr := grown (cap + 1) (by omega)
      exact ⟨_, _, hr, hgr.1, hgr.2⟩
omit hz hby hzs hz1 in
theorem Mem.append_none (h : Mem ty sz w B ρ) (A' : Option Addr) (c' : Nat) :
    (Builtin.append_ #[t, t] tt #[(ρ d).v, .slice A' 0 c']).run P w = .ok (ρ d).v w := by
  have hf : (Builtin.firstCells i.size 0 (.slice A' 0 c')).run P w = .ok #[] w := by
    cases A' <;> simp [Builtin.firstCells, loadCells, loadCellsFrom]
  obtain ⟨hlx, hone, hh⟩ := h.row d
  rcases hh with ⟨A, hv, hn⟩ | ⟨g, o, cap, cur, hv, hb, hg, hn, hcm, hs, htk⟩
  · rw [hv]; rw [hsize] at hf
    cases A <;> simp [Builtin.append_, run_underlying ht, sizeOf, typeInfo, hi, Builtin.lenOf, hf, storeCells, hsize]
  · rw [hv]; rw [hsize] at hf
    simp [Builtin.append_, run_underlying ht, sizeOf, typeInfo, hi, Builtin.lenOf, hn, hf, storeCells, hsize]
end
end Go.Proofs.YtmhoefpienagkaaDoor
end

/- Walking a function with its own values: a judgement on code, operations in whatever order, quiet operations all at once. -/
namespace Go.Proofs.YtmhoefpienagkaaDoor
open Go.RowKit

/-- how a piece of code is left -/
inductive RX where
  | go (a : Act)
  | exit (id : Nat) (a : Act)
  | ret (a : Act)
  | panic (ch : List PanicEntry) (ds : List Deferred)
def onX (R : RX → World → Prop) : Exit → Act → World → Prop
  | .normal, a, w => R (.go a) w
  | .exit id, a, w => R (.exit id a) w
  | .ret, a, w => R (.ret a) w
  | .panic ch, a, w => R (.panic ch a.defers) w
  | _, _, _ => False
def WX (P : Program) (c : Code) (a : Act) (w : World) (R : RX → World → Prop) : Prop := c.wp P (onX R) a w

/-- is an operation left? -/
def anyLeft (ops : Array Oper) (listed : Array Bool) : Bool := (List.range ops.size).any fun m => !listed.getD m true
/-- Whatever order is picked from here on; behind every operation but the last one S holds. -/
def wpS (P : Program) (ops : Array Oper) (Q : Exit → Act → World → Prop) (S : World → Prop) : Nat → Array Bool → Act → World → Prop
  | 0, listed, a, w => Region.ready .any ops listed = [] ∧ Q .normal a w
  | fuel + 1, listed, a, w =>
    (Region.ready .any ops listed = [] → Q .normal a w) ∧
    ∀ i ∈ Region.ready .any ops listed, wpOp P ops Q i (fun a' w' => (anyLeft ops (listed.setIfInBounds i true) = true → S w') ∧ wpS P ops Q S fuel (listed.setIfInBounds i true) a' w') a w
/-- somebody waits for it, or nobody else is left -/
def heir (ops : Array Oper) (listed : Array Bool) (i : Nat) : Bool :=
  (List.range ops.size).any (fun m => !Nat.beq m i && !listed.getD m true && match ops[m]? with | some o => o.after.any (fun e => Region.binds .any e && Nat.beq e.on i) | none => false) ||
  (List.range ops.size).all fun m => Nat.beq m i || listed.getD m true
section
variable {P : Program} {ops : Array Oper} {Q : Exit → Act → World → Prop} {S : World → Prop}
theorem wpAny_of_S : ∀ (fuel : Nat) (listed : Array Bool) (a : Act) (w : World), wpS P ops Q S fuel listed a w → wpAny P .any ops Q fuel listed a w
  | 0, _, _, _, h => h
  | fuel + 1, _, _, _, h => ⟨h.1, fun i hi => wpOp_mono (fun a' w' h' => wpAny_of_S fuel _ a' w' h'.2) (h.2 i hi)⟩
theorem heir_spec {listed : Array Bool} {i j : Nat} (h : heir ops listed i = true) (hj : j ∈ Region.ready .any ops listed) (hji : j ≠ i) (hun : listed.getD i true = false) :
    ∃ m, m < ops.size ∧ m ≠ i ∧ m ≠ j ∧ listed.getD m true = false ∧ ∃ o, ops[m]? = some o ∧ ∃ e ∈ o.after, Region.binds .any e = true ∧ e.on = i := by
  obtain ⟨hjun, oj, hoj, hall⟩ := mem_ready.1 hj
  have hjs : j < ops.size := (Array.getElem?_eq_some_iff.1 hoj).1
  unfold heir at h
  rw [Bool.or_eq_true] at h
  rcases h with h | h
  · obtain ⟨m, hm, h⟩ := List.any_eq_true.1 h
    simp only [Bool.and_eq_true, Bool.not_eq_true'] at h
    obtain ⟨⟨h1, h2⟩, h3⟩ := h
    have hmi : m ≠ i := fun e => by subst e; simp at h1
    cases ho : ops[m]? with
    | none => rw [ho] at h3; cases h3
    | some o =>
      rw [ho] at h3
      obtain ⟨e, he, hb⟩ := Array.any_eq_true'.1 h3
      simp only [Bool.and_eq_true] at hb
      have hon : e.on = i := Nat.eq_of_beq_eq_true hb.2
      refine ⟨m, List.mem_range.1 hm, hmi, fun e2 => ?_, h2, o, ho, e, he, hb.1, hon⟩
      subst e2
      rw [hoj] at ho; cases ho
      have := hall e he hb.1
      rw [hon] at this
      rcases Nat.lt_or_ge i listed.size with h' | h'
      · simp [h'] at this hun; rw [hun] at this; cases this
      · simp [Array.getElem?_eq_none h'] at this
  · have := List.all_eq_true.1 h j (List.mem_range.2 hjs)
    rw [hjun, Bool.or_false] at this
    exact absurd (Nat.eq_of_beq_eq_true this) hji
/-- an operation that may come up now may be taken first, if it yields its value wherever S holds -/
theorem wpS_first {i : Nat} {oi : Oper} {v : Value} (hi : ops[i]? = some oi) (hsel : ∀ (j : Nat) (o : Oper) cs b, ops[j]? = some o → o.op ≠ .select cs b)
    (hQ : ∀ c a w, Q (.panic c) (a.put oi.dst v) w → Q (.panic c) a w) :
    ∀ (fuel : Nat) (listed : Array Bool) (a : Act) (w : World),
      (∀ j oj, ops[j]? = some oj → j ≠ i → listed.getD j true = false → (∀ e ∈ oj.after, Region.binds .any e = true → e.on ≠ i) → oi.apart ops oj = true) →
      heir ops listed i = true → i ∈ Region.ready .any ops listed → YieldsIf P ops S oi v a → S w →
      wpS P ops Q S fuel (listed.setIfInBounds i true) (a.put oi.dst v) w → wpS P ops Q S (fuel + 1) listed a w := by
  intro fuel
  induction fuel with
  | zero =>
    intro listed a w _ _ hr hy hS H
    refine ⟨fun h => (by rw [h] at hr; cases hr), fun j hj => ?_⟩
    by_cases hji : j = i
    · subst hji; exact hy.wpOp hi hS ⟨fun _ => hS, H⟩
    · have := ready_mono hj hji
      rw [H.1] at this
      cases this
  | succ fuel ih =>
    intro listed a w hfree hheir hr hy hS H
    refine ⟨fun h => (by rw [h] at hr; cases hr), fun j hj => ?_⟩
    by_cases hji : j = i
    · subst hji; exact hy.wpOp hi hS ⟨fun _ => hS, H⟩
    · have h1 := H.2 j (ready_mono hj hji)
      obtain ⟨hjun, oj, hoj, hall⟩ := mem_ready.1 hj
      have hiun := (mem_ready.1 hr).1
      have hnot : ∀ e ∈ oj.after, Region.binds .any e = true → e.on ≠ i := fun e he hb heq => by
        have h1 := hall e he hb
        rw [heq] at h1
        rcases Nat.lt_or_ge i listed.size with h' | h'
        · simp [h'] at hiun h1; rw [hiun] at h1; cases h1
        · simp [Array.getElem?_eq_none h'] at h1
      obtain ⟨m, hms, hmi, hmj, hmun, om, hom, e, he, heb, heo⟩ := heir_spec hheir hj hji hiun
      have hleft : anyLeft ops ((listed.setIfInBounds i true).setIfInBounds j true) = true := by
        unfold anyLeft
        refine List.any_eq_true.2 ⟨m, List.mem_range.2 hms, ?_⟩
        rw [getD_set_ne true (Ne.symm hmj), getD_set_ne true (Ne.symm hmi), hmun]; rfl
      have h2 := wpOp_putIf hoj (hfree j oj hoj hji hjun hnot) (fun cs b => hsel i oi cs b hi) (fun cs b => hsel j oj cs b hoj) hQ hy h1
      have hfree' : ∀ k ok, ops[k]? = some ok → k ≠ i → (listed.setIfInBounds j true).getD k true = false →
          (∀ e ∈ ok.after, Region.binds .any e = true → e.on ≠ i) → oi.apart ops ok = true := fun k ok hk hki hun hno => by
        refine hfree k ok hk hki ?_ hno
        by_cases hjk : j = k
        · subst hjk; exact hjun
        · rw [getD_set_ne true hjk] at hun; exact hun
      have hheir' : heir ops (listed.setIfInBounds j true) i = true := by
        unfold heir
        rw [Bool.or_eq_true]
        left
        refine List.any_eq_true.2 ⟨m, List.mem_range.2 hms, ?_⟩
        have hb : Nat.beq m i = false := by cases hq : Nat.beq m i with | false => rfl | true => exact absurd (Nat.eq_of_beq_eq_true hq) hmi
        rw [getD_set_ne true (Ne.symm hmj), hmun, hb, hom]
        simp only [Bool.not_false, Bool.and_self, Bool.true_and]
        exact Array.any_eq_true'.2 ⟨e, he, by rw [heb, heo]; simp⟩
      refine wpOp_mono (fun a' w' h3 => ⟨fun _ => h3.2.1 hleft, ih (listed.setIfInBounds j true) a' w' hfree' hheir' (ready_mono hr (Ne.symm hji)) h3.1 (h3.2.1 hleft) ?_⟩) h2
      rw [Array.setIfInBounds_comm _ _ hji]
      exact h3.2.2
end
/-- the operations that are left: in a row, or in any order that fits -/
inductive Todo where
  | seq (l : List Nat)
  | any (fuel : Nat) (listed : Array Bool)
def WT (P : Program) (ops : Array Oper) (S : World → Prop) (R : RX → World → Prop) : Todo → Act → World → Prop
  | .seq l, a, w => wpOps P ops (onX R) l a w
  | .any f listed, a, w => wpS P ops (onX R) S f listed a w
def Todo.next (ops : Array Oper) : Todo → List (Nat × Todo)
  | .seq [] => []
  | .seq (i :: l) => [(i, .seq l)]
  | .any f listed => (Region.ready .any ops listed).map fun i => (i, .any (f - 1) (listed.setIfInBounds i true))
def Todo.left (ops : Array Oper) : Todo → Bool
  | .seq _ => false
  | .any _ listed => anyLeft ops listed
def Todo.roomy : Todo → Bool
  | .seq _ => true
  | .any f _ => Nat.blt 0 f

section
variable {P : Program} {ops : Array Oper} {R R' : RX → World → Prop} {a : Act} {w w' : World} {S : World → Prop}
theorem WX.mono {c : Code} (h : WX P c a w R) (hr : ∀ o w, R o w → R' o w) : WX P c a w R' := wp_mono h fun e a w hq => by
  cases e <;> first | exact hr _ _ hq | exact hq
theorem WX.seq {x y : Code} (h : WX P x a w fun o w' => match o with | .go a' => WX P y a' w' R | o => R o w') : WX P (.seq x y) a w R :=
  wp_seq (wp_mono h fun e a w hq => by cases e <;> exact hq)
theorem WX.skip (h : R (.go a) w) : WX P .skip a w R := wp_skip h
theorem WX.retC (h : R (.ret a) w) : WX P .ret a w R := wp_ret h
theorem WX.exitC {id : Nat} (h : R (.exit id a) w) : WX P (.exit id) a w R := wp_exit h
theorem WX.cond {c : Operand} {x y : Code} {t : Bool} (hc : a.eval c = .bool t) (h : WX P (if t then x else y) a w R) : WX P (.cond c x y) a w R := wp_cond hc h
theorem WX.condT {c : Operand} {x y : Code} (hc : a.eval c = .bool true) (h : WX P x a w R) : WX P (.cond c x y) a w R := wp_cond_true hc h
theorem WX.condF {c : Operand} {x y : Code} (hc : a.eval c = .bool false) (h : WX P y a w R) : WX P (.cond c x y) a w R := wp_cond_false hc h
theorem WX.block {id : Nat} {c : Code} (h : WX P c a w fun o w' => match o with | .exit id' a' => if id' = id then R (.go a') w' else R o w' | o => R o w') : WX P (.block id c) a w R :=
  wp_block (wp_mono h fun e a w hq => by
    cases e <;> simp only [onX, Exit.inBlock] at hq ⊢ <;> first | exact hq | (split at hq <;> simp_all [onX]))
theorem WX.loop {c : Code} (I : Act → World → Prop) (μ : Act → World → Nat) (h0 : I a w)
    (round : ∀ a w, I a w → WX P c a w fun o w' => match o with | .go a' => I a' w' ∧ μ a' w' < μ a w | o => R o w') : WX P (.loop c) a w R :=
  wp_loop I μ h0 fun a w hi => wp_mono (round a w hi) fun e a w hq => by cases e <;> exact hq
theorem WX.region {id : Nat} (h : WT P ops S R (.seq (List.range ops.size)) a w) : WX P (.region id ops false) a w R := wp_region h
theorem WX.draw {id : Nat} (S : World → Prop) (hm : P.follows .mixedOrders = true) (h : WT P ops S R (.any ops.size (Array.replicate ops.size false)) a { w with drawn := w.drawn + 1 }) : WX P (.region id ops true) a w R := wp_region_any hm (wpAny_of_S _ _ _ _ h)
theorem WT.shift {l : List Nat} {S' : World → Prop} (h : WT P ops S' R (.seq l) a w) : WT P ops S R (.seq l) a w := h

theorem WT.done {T : Todo} (ht : T.next ops = []) (h : R (.go a) w) : WT P ops S R T a w := by
  cases T with
  | seq l => cases l with
    | nil => exact h
    | cons i l => simp [Todo.next] at ht
  | any f listed =>
    have hr : Region.ready .any ops listed = [] := by simpa [Todo.next] using ht
    cases f with
    | zero => exact ⟨hr, h⟩
    | succ f => exact ⟨fun _ => h, by rw [hr]; simp⟩
/-- what is asked behind one operation -/
def WTn (P : Program) (ops : Array Oper) (S : World → Prop) (R : RX → World → Prop) (T : Todo) (a : Act) (w : World) : Prop := (T.left ops = true → S w) ∧ WT P ops S R T a w
theorem WT.step {T : Todo} (hr : T.roomy = true) (hne : T.next ops ≠ []) (h : ∀ p ∈ T.next ops, wpOp P ops (onX R) p.1 (WTn P ops S R p.2) a w) : WT P ops S R T a w := by
  cases T with
  | seq l => cases l with
    | nil => simp [Todo.next] at hne
    | cons i l =>
      have := h (i, .seq l) (by simp [Todo.next])
      show wpOps P ops (onX R) (i :: l) a w
      rw [wpOps_cons]; exact wpOp_mono (fun _ _ k => k.2) this
  | any f listed =>
    have h1 : 0 < f := by simpa [Todo.roomy, Nat.blt_eq] using hr
    obtain ⟨g, rfl⟩ : ∃ g, f = g + 1 := ⟨f - 1, by omega⟩
    refine ⟨fun e => absurd (by simpa [Todo.next] using e) hne, fun i hi => ?_⟩
    exact h (i, .any g (listed.setIfInBounds i true)) (by simp only [Todo.next, Nat.add_sub_cancel]; exact List.mem_map.2 ⟨i, hi, rfl⟩)
theorem WT.one {T T' : Todo} {i : Nat} (hr : T.roomy = true) (hn : T.next ops = [(i, T')]) (h : wpOp P ops (onX R) i (WTn P ops S R T') a w) : WT P ops S R T a w :=
  WT.step hr (by rw [hn]; simp) fun p hp => by rw [hn] at hp; rw [List.mem_singleton.1 hp]; exact h
theorem WT.two {T T1 T2 : Todo} {i j : Nat} (hr : T.roomy = true) (hn : T.next ops = [(i, T1), (j, T2)]) (h1 : wpOp P ops (onX R) i (WTn P ops S R T1) a w) (h2 : wpOp P ops (onX R) j (WTn P ops S R T2) a w) : WT P ops S R T a w :=
  WT.step hr (by rw [hn]; simp) fun p hp => by
    rw [hn] at hp
    rcases List.mem_cons.1 hp with e | hp
    · rw [e]; exact h1
    · rw [List.mem_singleton.1 hp]; exact h2
theorem WT.three {T T1 T2 T3 : Todo} {i j k : Nat} (hr : T.roomy = true) (hn : T.next ops = [(i, T1), (j, T2), (k, T3)]) (h1 : wpOp P ops (onX R) i (WTn P ops S R T1) a w) (h2 : wpOp P ops (onX R) j (WTn P ops S R T2) a w)
    (h3 : wpOp P ops (onX R) k (WTn P ops S R T3) a w) : WT P ops S R T a w :=
  WT.step hr (by rw [hn]; simp) fun p hp => by
    rw [hn] at hp
    rcases List.mem_cons.1 hp with e | hp
    · rw [e]; exact h1
    · rcases List.mem_cons.1 hp with e | hp
      · rw [e]; exact h2
      · rw [List.mem_singleton.1 hp]; exact h3

variable {Q : Exit → Act → World → Prop} {K : Act → World → Prop} {i : Nat} {o : Oper}
theorem op_val {c : Value} (ho : ops[i]? = some o) (hg : Region.wanted o (yielded ops a.tmps) = true) (h : (execOp a.eval o).run P w = .ok (.value c) w') (hk : K (a.put o.dst c) w') : wpOp P ops Q i K a w := by
  unfold Go.wpOp
  simp only [ho, hg, if_true]
  left
  unfold Oper.wp
  rw [h]; exact hk
theorem op_skip (ho : ops[i]? = some o) (hg : Region.wanted o (yielded ops a.tmps) = true) (h : (execOp a.eval o).run P w = .ok .skip w') (hk : K (a.put o.dst undef) w') : wpOp P ops Q i K a w := by
  unfold Go.wpOp
  simp only [ho, hg, if_true]
  left
  unfold Oper.wp
  rw [h]; exact hk
theorem op_defer {d : Deferred} (ho : ops[i]? = some o) (hg : Region.wanted o (yielded ops a.tmps) = true) (h : (execOp a.eval o).run P w = .ok (.defer d) w') (hk : K ({ a with defers := d :: a.defers }.put o.dst undef) w') : wpOp P ops Q i K a w := by
  unfold Go.wpOp
  simp only [ho, hg, if_true]
  left
  unfold Oper.wp
  rw [h]; exact hk
theorem op_panic {v : Value} (ho : ops[i]? = some o) (hg : Region.wanted o (yielded ops a.tmps) = true) (h : (execOp a.eval o).run P w = .halt (.panic v) w') (hk : Q (.panic [{ v, recovered := false }]) a w') : wpOp P ops Q i K a w := by
  unfold Go.wpOp
  simp only [ho, hg, if_true]
  left
  unfold Oper.wp
  rw [h]; exact hk
/-- what becomes of a call -/
def onCall (R : RX → World → Prop) (K : Act → World → Prop) (a : Act) (d : Option Nat) : Ending → World → Prop
  | .returned v, w => K (a.put d v) w
  | .panicked ch, w => R (.panic ch a.defers) w
  | .outgrown, _ => False
theorem op_call {g : Nat} {cs : Array Value} {S : Ending → World → Prop} (ho : ops[i]? = some o) (hg : Region.wanted o (yielded ops a.tmps) = true) (h : (execOp a.eval o).run P w = .ok (.enter g cs) w) (hc : Calls P g cs w S)
    (hk : ∀ e w', S e w' → onCall R K a o.dst e w') : wpOp P ops (onX R) i K a w := by
  unfold Go.wpOp
  simp only [ho, hg, if_true]
  left
  unfold Oper.wp
  rw [h, Oper.upon_enter]
  refine hc.mono ?_
  intro e w' hS
  have := hk e w' hS
  cases e with
  | returned v => exact this
  | panicked ch => exact this
  | outgrown => exact this.elim
end

/-- the value of a computation that asks nothing of memory -/
def peekS (P : Program) {α : Type} : Sem α → Option α
  | .pure a => some a
  | .program k => peekS P (k P)
  | _ => none
theorem peekS_run {P : Program} {α : Type} : ∀ {m : Sem α} {a : α}, peekS P m = some a → ∀ w, m.run P w = .ok a w
  | .pure a, b, h, w => by simp [peekS] at h; subst h; rfl
  | .program k, b, h, w => by simp only [peekS] at h; exact peekS_run h w
  | .load .., _, h, _ | .store .., _, h, _ | .new .., _, h, _ | .shape .., _, h, _ | .freeze .., _, h, _ | .frozen .., _, h, _ | .getObj .., _, h, _
  | .setObj .., _, h, _ | .choose .., _, h, _ | .sys .., _, h, _ | .mark .., _, h, _ | .halt .., _, h, _ => by simp [peekS] at h
def lookS {α : Type} : List (Nat × α) → Nat → Option α
  | [], _ => none
  | (k, v) :: l, t => match Nat.beq k t with | true => some v | false => lookS l t

section
variable (P : Program) (ops : Array Oper) (S : World → Prop) (hs : List (Nat × Value))
/-- what a quiet operation yields; a hint's claim -/
def quietVal (i : Nat) (o : Oper) (a : Act) : Option (Value × List Prop) :=
  match Region.wanted o (yielded ops a.tmps) with
  | false => some (undef, [])
  | true => match lookS hs i with
    | some v => some (v, [∀ w, S w → (execOp a.eval o).run P w = .ok (.value v) w])
    | none => match peekS P (execOp a.eval o) with
      | some (.value v) => some (v, [])
      | _ => none
def firstQuiet (f : Nat) (listed : Array Bool) (a : Act) : List Nat → Option (Todo × Act × List Prop)
  | [] => none
  | i :: l => match ops[i]? with
    | some o => match quietVal P ops S hs i o a, Region.free .any ops listed i && (Region.ready .any ops listed).contains i && heir ops listed i with
      | some (v, ps), true => some (.any f (listed.setIfInBounds i true), a.put o.dst v, ps)
      | _, _ => firstQuiet f listed a l
    | none => firstQuiet f listed a l
def quiet1 : Todo → Act → Option (Todo × Act × List Prop)
  | .seq [], _ => none
  | .seq (i :: l), a => match ops[i]? with
    | some o => (quietVal P ops S hs i o a).map fun r => (.seq l, a.put o.dst r.1, r.2)
    | none => none
  | .any 0 _, _ => none
  | .any (f + 1) listed, a => match Region.noSelect ops with
    | true => firstQuiet P ops S hs f listed a (Region.ready .any ops listed)
    | false => none
def quiets : Nat → Todo → Act → List Prop → Todo × Act × List Prop
  | 0, T, a, log => (T, a, log)
  | n + 1, T, a, log => match quiet1 P ops S hs T a with
    | some (T', a', ps) => quiets n T' a' (ps ++ log)
    | none => (T, a, log)
end
section
variable {P : Program} {ops : Array Oper} {S : World → Prop} {hs : List (Nat × Value)} {R : RX → World → Prop} {w : World}
theorem quietVal_yields {i : Nat} {o : Oper} {a : Act} {v : Value} {ps : List Prop} (h : quietVal P ops S hs i o a = some (v, ps)) (hp : ∀ p ∈ ps, p) : YieldsIf P ops S o v a := by
  unfold quietVal at h
  split at h
  · rename_i hw; cases h; exact .inr ⟨hw, rfl⟩
  · rename_i hw
    left
    refine ⟨hw, ?_⟩
    split at h
    · cases h; exact hp _ (by simp)
    · split at h
      · rename_i hpk; cases h; exact fun w _ => peekS_run hpk w
      · cases h
theorem onX_put (d : Option Nat) (v : Value) (c : List PanicEntry) (a : Act) (w : World) (h : onX R (.panic c) (a.put d v) w) : onX R (.panic c) a w := by
  cases d <;> exact h
theorem firstQuiet_sound {f : Nat} {listed : Array Bool} {a a' : Act} {T' : Todo} {ps : List Prop} (hsel : Region.noSelect ops = true) : ∀ {l : List Nat}, firstQuiet P ops S hs f listed a l = some (T', a', ps) → (∀ p ∈ ps, p) → S w → WT P ops S R T' a' w → WT P ops S R (.any (f + 1) listed) a w
  | [], h, _, _, _ => by simp [firstQuiet] at h
  | i :: l, h, hp, hS, k => by
    unfold firstQuiet at h
    split at h
    · rename_i o ho
      split at h
      · rename_i v ps' hq hf
        cases h
        simp only [Bool.and_eq_true] at hf
        exact wpS_first ho (Region.noSelect_spec hsel) (fun c a w hh => onX_put _ _ c a w hh) f listed a w (Region.free_spec ho hf.1.1) hf.2 (by simpa using hf.1.2) (quietVal_yields hq hp) hS k
      · exact firstQuiet_sound hsel h hp hS k
    · exact firstQuiet_sound hsel h hp hS k
theorem quiet1_sound {T T' : Todo} {a a' : Act} {ps : List Prop} (h : quiet1 P ops S hs T a = some (T', a', ps)) (hp : ∀ p ∈ ps, p) (hS : S w) (k : WT P ops S R T' a' w) : WT P ops S R T a w := by
  unfold quiet1 at h
  split at h
  · cases h
  · split at h
    · rename_i o ho
      simp only [Option.map_eq_some_iff] at h
      obtain ⟨⟨v, ps'⟩, hq, e⟩ := h
      cases e
      show wpOps P ops (onX R) (_ :: _) _ w
      rw [wpOps_cons]
      exact (quietVal_yields hq hp).wpOp ho hS k
    · cases h
  · cases h
  · split at h
    · rename_i hsel
      exact firstQuiet_sound hsel h hp hS k
    · cases h
theorem quiets_sound : ∀ {n : Nat} {T T' : Todo} {a a' : Act} {log log' : List Prop}, quiets P ops S hs n T a log = (T', a', log') → (∀ p ∈ log', p) → S w → WT P ops S R T' a' w → WT P ops S R T a w ∧ ∀ p ∈ log, p
  | 0, T, T', a, a', log, log', h, hp, hS, k => by cases h; exact ⟨k, hp⟩
  | n + 1, T, T', a, a', log, log', h, hp, hS, k => by
    unfold quiets at h
    split at h
    · rename_i T1 a1 ps hq
      obtain ⟨k1, hp1⟩ := quiets_sound h hp hS k
      exact ⟨quiet1_sound hq (fun p hpp => hp1 p (List.mem_append_left _ hpp)) hS k1, fun p hpp => hp1 p (List.mem_append_right _ hpp)⟩
    · cases h; exact ⟨k, hp⟩
theorem WT.quiet (n : Nat) (hs : List (Nat × Value)) {T : Todo} {a : Act} (T' : Todo) (a' : Act) (log : List Prop) (h : quiets P ops S hs n T a [] = (T', a', log)) (hS : S w) (hp : ∀ p ∈ log, p) (k : WT P ops S R T' a' w) : WT P ops S R T a w := (quiets_sound h hp hS k).1
end

/-- a function's contract -/
theorem calls_of_WX {P : Program} {f : Nat} {fn : Func} {c : Code} {args : Array Value} {w : World} {R : Ending → World → Prop} (hf : P.funcs[f]? = some fn) (hb : fn.body = some c)
    (h : WX P c { tmps := args ++ Array.replicate (fn.ntmps - args.size) undef, defers := [] } w fun o w' => match o with
      | .go a | .ret a => a.defers = [] ∧ ∃ v, (results fn a.tmps).run P w' = .ok v w' ∧ R (.returned v) w'
      | .panic ch ds => ds = [] ∧ R (.panicked ch) w'
      | .exit _ _ => False) : Calls P f args w R :=
  calls_of_wp hf hb (wp_mono h fun e a w hq => by cases e <;> first | exact hq | exact hq.elim)
end Go.Proofs.YtmhoefpienagkaaDoor

/- Walks by what is known of the temporaries. -/
namespace Go.Proofs.YtmhoefpienagkaaDoor
open Go.RowKit

abbrev Sls := List (Nat × Value)
/-- what is known of the temporaries -/
structure SL (n : Nat) (L : Sls) (ds : List Deferred) (a : Act) : Prop where
  size : a.tmps.size = n
  defs : a.defers = ds
  slot : ∀ t v, lookS L t = some v → a.tmps.getD t undef = v
def knownX (L : Sls) : Operand → Bool
  | .tmp t => (lookS L t).isSome
  | _ => true
def evalD (L : Sls) : Operand → Value
  | .tmp t => (lookS L t).getD undef
  | .const v => v
  | .global g => .pointer (some ⟨g, 0, none⟩)
  | .func f => .func (.func f) #[] #[]
def knownO (L : Sls) (o : Oper) : Bool := o.op.operands.toList.all (knownX L) && (match o.op with | .select .. => false | _ => true)
def putL (d : Option Nat) (v : Value) (L : Sls) : Sls := match d with | some d => (d, v) :: L | none => L
def maskL (ts : List Nat) (L : Sls) : Sls := ts.filterMap fun t => (lookS L t).map fun v => (t, v)
def inN (n : Nat) (o : Oper) : Bool := match o.dst with | some d => Nat.blt d n | none => true

section
variable {n : Nat} {L : Sls} {ds : List Deferred} {a : Act}
theorem lookS_cons (k : Nat) (v : Value) (l : Sls) (t : Nat) : lookS ((k, v) :: l) t = if k = t then some v else lookS l t := by
  simp only [lookS]
  split
  · rename_i h; rw [if_pos (Nat.eq_of_beq_eq_true h)]
  · rename_i h; rw [if_neg (Nat.ne_of_beq_eq_false h)]
theorem SL.eval (h : SL n L ds a) {x : Operand} (hx : knownX L x = true) : a.eval x = evalD L x := by
  cases x with
  | tmp t =>
    simp only [knownX, Option.isSome_iff_exists] at hx
    obtain ⟨v, hv⟩ := hx
    simp only [evalD, hv, Option.getD_some]
    exact h.slot t v hv
  | _ => rfl
theorem SL.exec (h : SL n L ds a) {o : Oper} (ho : knownO L o = true) : execOp a.eval o = execOp (evalD L) o := by
  simp only [knownO, Bool.and_eq_true, List.all_eq_true] at ho
  refine execOp_congr o (fun cs b e => ?_) fun x hx => h.eval (ho.1 x (by simpa using hx))
  rw [e] at ho; exact absurd ho.2 (by simp)
theorem SL.put (h : SL n L ds a) (d : Option Nat) (v : Value) (hd : ∀ e, d = some e → e < n) : SL n (putL d v L) ds (a.put d v) := by
  cases d with
  | none => exact h
  | some d =>
    refine ⟨by simp [Act.put, h.size], h.defs, fun t u hu => ?_⟩
    simp only [putL, lookS_cons] at hu
    have hd' : d < a.tmps.size := by rw [h.size]; exact hd d rfl
    simp only [Act.put]
    split at hu
    · rename_i e; subst e; cases hu
      simp [Array.getD, hd']
    · rename_i e
      have := h.slot t u hu
      rw [← this]
      simp only [Array.getD_eq_getD_getElem?, Array.getElem?_setIfInBounds_ne e]
theorem lookS_mask : ∀ (ts : List Nat) {t : Nat} {v : Value}, lookS (maskL ts L) t = some v → lookS L t = some v
  | [], t, v, h => by simp [maskL, lookS] at h
  | s :: ts, t, v, h => by
    unfold maskL at h
    rw [List.filterMap_cons] at h
    cases hs : lookS L s with
    | none => rw [hs] at h; exact lookS_mask ts h
    | some u =>
      rw [hs] at h
      simp only [Option.map_some] at h
      rw [lookS_cons] at h
      split at h
      · rename_i e; subst e; rw [hs]; exact h
      · exact lookS_mask ts h
theorem SL.mask (h : SL n L ds a) (ts : List Nat) : SL n (maskL ts L) ds a := ⟨h.size, h.defs, fun t v hv => h.slot t v (lookS_mask ts hv)⟩
theorem inN_spec {o : Oper} (h : inN n o = true) : ∀ e, o.dst = some e → e < n := fun e he => by
  unfold inN at h; rw [he] at h; simpa [Nat.blt_eq] using h
end

/-- the guard, if it is known -/
def wantL (ops : Array Oper) (L : Sls) (o : Oper) : Option Bool := match o.guard with
  | none => some true
  | some (j, want) => match (ops[j]?).bind (·.dst) with
    | some t => match lookS L t with
      | some (.bool b) => some (b == want)
      | _ => none
    | none => none
theorem SL.wanted {n : Nat} {L : Sls} {ds : List Deferred} {a : Act} (h : SL n L ds a) {ops : Array Oper} {o : Oper} {b : Bool} (hw : wantL ops L o = some b) : Region.wanted o (yielded ops a.tmps) = b := by
  unfold wantL at hw
  unfold Region.wanted
  split at hw
  · rename_i hg; rw [hg]; cases hw; rfl
  · rename_i j want hg
    rw [hg]
    split at hw
    · rename_i t ht
      split at hw
      · rename_i c hl
        cases hw
        have := h.slot t _ hl
        simp only [yielded, ht, Option.bind_some]
        have hlt : t < a.tmps.size := by
          rcases Nat.lt_or_ge t a.tmps.size with hq | hq
          · exact hq
          · simp [Array.getD, Nat.not_lt.2 hq, undef] at this
        have hq : a.tmps[t]? = some (.bool c) := by
          rw [Array.getElem?_eq_getElem hlt]
          simpa [Array.getD, hlt] using this
        simp only [hq]
        rfl
      · cases hw
    · cases hw

/-- what is left of a region, for whatever temporaries of which this is known -/
def JT (P : Program) (ops : Array Oper) (S : World → Prop) (R : RX → World → Prop) (n : Nat) (ds : List Deferred) (T : Todo) (L : Sls) (w : World) : Prop := ∀ a, SL n L ds a → WT P ops S R T a w
def JO (P : Program) (ops : Array Oper) (S : World → Prop) (R : RX → World → Prop) (n : Nat) (ds : List Deferred) (i : Nat) (T : Todo) (L : Sls) (w : World) : Prop := ∀ a, SL n L ds a → wpOp P ops (onX R) i (WTn P ops S R T) a w
def JX (P : Program) (R : RX → World → Prop) (n : Nat) (ds : List Deferred) (c : Code) (L : Sls) (w : World) : Prop := ∀ a, SL n L ds a → WX P c a w R

section
variable (P : Program) (ops : Array Oper) (n : Nat)
def pureVal (L : Sls) (o : Oper) : Option Value := match wantL ops L o with
  | some true => match knownO L o with
    | true => match peekS P (execOp (evalD L) o) with
      | some (.value v) => some v
      | _ => none
    | false => none
  | some false => some undef
  | none => none
/-- may it be taken first? -/
def takes : Todo → Nat → Option Todo
  | .seq (j :: l), i => match Nat.beq i j with | true => some (.seq l) | false => none
  | .seq [], _ => none
  | .any 0 _, _ => none
  | .any (f + 1) listed, i => match Region.noSelect ops && Region.free .any ops listed i && (Region.ready .any ops listed).contains i && heir ops listed i with
    | true => some (.any f (listed.setIfInBounds i true))
    | false => none
def firstPure (T : Todo) (L : Sls) : List Nat → Option (Todo × Sls)
  | [] => none
  | i :: l => match ops[i]? with
    | some o => match inN n o, pureVal P ops L o, takes ops T i with
      | true, some v, some T' => some (T', putL o.dst v L)
      | _, _, _ => firstPure T L l
    | none => firstPure T L l
def pures : Nat → Todo → Sls → Todo × Sls
  | 0, T, L => (T, L)
  | k + 1, T, L => match firstPure P ops n T L ((T.next ops).map (·.1)) with
    | some (T', L') => pures k T' L'
    | none => (T, L)
end

section
variable {P : Program} {ops : Array Oper} {S : World → Prop} {R : RX → World → Prop} {n : Nat} {ds : List Deferred} {T T' : Todo} {L L' : Sls} {w w' : World} {i : Nat} {o : Oper}
theorem WT.take {a : Act} {v : Value} (ho : ops[i]? = some o) (ht : takes ops T i = some T') (hy : YieldsIf P ops S o v a) (hS : S w) (k : WT P ops S R T' (a.put o.dst v) w) : WT P ops S R T a w := by
  unfold takes at ht
  split at ht
  · rename_i j l
    split at ht
    · rename_i hb
      have := Nat.eq_of_beq_eq_true hb
      subst this
      cases ht
      show wpOps P ops (onX R) (_ :: _) _ w
      rw [wpOps_cons]
      exact hy.wpOp ho hS k
    · cases ht
  · cases ht
  · cases ht
  · rename_i f listed
    split at ht
    · rename_i hc
      cases ht
      simp only [Bool.and_eq_true] at hc
      exact wpS_first ho (Region.noSelect_spec hc.1.1.1) (fun c a w hh => onX_put _ _ c a w hh) f listed a w (Region.free_spec ho hc.1.1.2) hc.2 (by simpa using hc.1.2) hy hS k
    · cases ht
/-- the value of one operation, wherever S holds -/
theorem JT.hint (i : Nat) (o : Oper) (v : Value) (T' : Todo) (ho : ops[i]? = some o) (hw : wantL ops L o = some true) (hn : inN n o = true) (hk : knownO L o = true) (ht : takes ops T i = some T') (hS : S w) (h : ∀ w, S w → (execOp (evalD L) o).run P w = .ok (.value v) w)
    (k : JT P ops S R n ds T' (putL o.dst v L) w) : JT P ops S R n ds T L w := fun a ha =>
  WT.take ho ht (.inl ⟨ha.wanted hw, fun w hS => by rw [ha.exec hk]; exact h w hS⟩) hS (k _ (ha.put _ _ (inN_spec hn)))
theorem firstPure_sound (hS : S w) : ∀ {l : List Nat}, firstPure P ops n T L l = some (T', L') → JT P ops S R n ds T' L' w → JT P ops S R n ds T L w
  | [], h, _ => by simp [firstPure] at h
  | i :: l, h, k => by
    unfold firstPure at h
    split at h
    · rename_i o ho
      split at h
      · rename_i v T1 hn hv ht
        cases h
        intro a ha
        unfold pureVal at hv
        split at hv
        · rename_i hw
          split at hv
          · rename_i hk
            split at hv
            · rename_i hp
              cases hv
              exact WT.take ho ht (.inl ⟨ha.wanted hw, fun w _ => by rw [ha.exec hk]; exact peekS_run hp w⟩) hS (k _ (ha.put _ _ (inN_spec hn)))
            · cases hv
          · cases hv
        · rename_i hw
          cases hv
          exact WT.take ho ht (.inr ⟨ha.wanted hw, rfl⟩) hS (k _ (ha.put _ _ (inN_spec hn)))
        · cases hv
      · exact firstPure_sound hS h k
    · exact firstPure_sound hS h k
theorem pures_sound (hS : S w) : ∀ {m : Nat} {T T' : Todo} {L L' : Sls}, pures P ops n m T L = (T', L') → JT P ops S R n ds T' L' w → JT P ops S R n ds T L w
  | 0, T, T', L, L', h, k => by cases h; exact k
  | m + 1, T, T', L, L', h, k => by
    unfold pures at h
    split at h
    · rename_i T1 L1 hq
      exact firstPure_sound hS hq (pures_sound hS h k)
    · cases h; exact k
/-- all quiet operations at once -/
theorem JT.pure (m : Nat) (T' : Todo) (L' : Sls) (hS : S w) (h : pures P ops n m T L = (T', L')) (k : JT P ops S R n ds T' L' w) : JT P ops S R n ds T L w := pures_sound hS h k
theorem JT.done (ht : T.next ops = []) (h : ∀ a, SL n L ds a → R (.go a) w) : JT P ops S R n ds T L w := fun a ha => WT.done ht (h a ha)
theorem JT.one (i : Nat) (T' : Todo) (hr : T.roomy = true) (hn : T.next ops = [(i, T')]) (h : JO P ops S R n ds i T' L w) : JT P ops S R n ds T L w := fun a ha => WT.one hr hn (h a ha)
theorem JT.two (i j : Nat) (T1 T2 : Todo) (hr : T.roomy = true) (hn : T.next ops = [(i, T1), (j, T2)]) (h1 : JO P ops S R n ds i T1 L w) (h2 : JO P ops S R n ds j T2 L w) : JT P ops S R n ds T L w := fun a ha => WT.two hr hn (h1 a ha) (h2 a ha)
theorem JT.three (i j l : Nat) (T1 T2 T3 : Todo) (hr : T.roomy = true) (hn : T.next ops = [(i, T1), (j, T2), (l, T3)]) (h1 : JO P ops S R n ds i T1 L w) (h2 : JO P ops S R n ds j T2 L w) (h3 : JO P ops S R n ds l T3 L w) : JT P ops S R n ds T L w := fun a ha => WT.three hr hn (h1 a ha) (h2 a ha) (h3 a ha)
theorem JT.mask (ts : List Nat) (L' : Sls) (h : maskL ts L = L') (k : JT P ops S R n ds T L' w) : JT P ops S R n ds T L w := fun a ha => by subst h; exact k a (ha.mask ts)
theorem JT.shift {l : List Nat} (S' : World → Prop) (h : JT P ops S' R n ds (.seq l) L w) : JT P ops S R n ds (.seq l) L w := fun a ha => WT.shift (h a ha)
theorem JO.val (o : Oper) (v : Value) (w' : World) (ho : ops[i]? = some o) (hw : wantL ops L o = some true) (hn : inN n o = true) (hk : knownO L o = true) (h : (execOp (evalD L) o).run P w = .ok (.value v) w')
    (hS : T'.left ops = true → S w') (k : JT P ops S R n ds T' (putL o.dst v L) w') : JO P ops S R n ds i T' L w := fun a ha =>
  op_val ho (ha.wanted hw) (by rw [ha.exec hk]; exact h) ⟨hS, k _ (ha.put _ _ (inN_spec hn))⟩
theorem JO.skip (o : Oper) (w' : World) (ho : ops[i]? = some o) (hw : wantL ops L o = some true) (hn : inN n o = true) (hk : knownO L o = true) (h : (execOp (evalD L) o).run P w = .ok .skip w')
    (hS : T'.left ops = true → S w') (k : JT P ops S R n ds T' (putL o.dst undef L) w') : JO P ops S R n ds i T' L w := fun a ha =>
  op_skip ho (ha.wanted hw) (by rw [ha.exec hk]; exact h) ⟨hS, k _ (ha.put _ _ (inN_spec hn))⟩
theorem JO.defer (o : Oper) (d : Deferred) (ho : ops[i]? = some o) (hw : wantL ops L o = some true) (hn : inN n o = true) (hk : knownO L o = true) (h : (execOp (evalD L) o).run P w = .ok (.defer d) w)
    (hS : T'.left ops = true → S w) (k : JT P ops S R n (d :: ds) T' (putL o.dst undef L) w) : JO P ops S R n ds i T' L w := fun a ha =>
  op_defer ho (ha.wanted hw) (by rw [ha.exec hk]; exact h) ⟨hS, k _ (SL.put (a := { a with defers := d :: a.defers }) (ds := d :: ds) ⟨ha.size, by simp [ha.defs], ha.slot⟩ _ _ (inN_spec hn))⟩
theorem JO.panic (o : Oper) (v : Value) (w' : World) (ho : ops[i]? = some o) (hw : wantL ops L o = some true) (hk : knownO L o = true) (h : (execOp (evalD L) o).run P w = .halt (.panic v) w')
    (k : R (.panic [{ v, recovered := false }] ds) w') : JO P ops S R n ds i T' L w := fun a ha =>
  op_panic (w' := w') ho (ha.wanted hw) (by rw [ha.exec hk]; exact h) (by show R (.panic _ a.defers) w'; rw [ha.defs]; exact k)
/-- what becomes of a call -/
def AfterCall (P : Program) (ops : Array Oper) (S : World → Prop) (R : RX → World → Prop) (n : Nat) (ds : List Deferred) (T : Todo) (L : Sls) (d : Option Nat) : Ending → World → Prop
  | .returned v, w => (T.left ops = true → S w) ∧ JT P ops S R n ds T (putL d v L) w
  | .panicked ch, w => R (.panic ch ds) w
  | .outgrown, _ => False
theorem JO.call (o : Oper) (g : Nat) (cs : Array Value) {C : Ending → World → Prop} (ho : ops[i]? = some o) (hw : wantL ops L o = some true) (hn : inN n o = true) (hk : knownO L o = true) (h : (execOp (evalD L) o).run P w = .ok (.enter g cs) w) (hc : Calls P g cs w C)
    (k : ∀ e w', C e w' → AfterCall P ops S R n ds T' L o.dst e w') : JO P ops S R n ds i T' L w := fun a ha =>
  op_call ho (ha.wanted hw) (by rw [ha.exec hk]; exact h) hc fun e w' hC => by
    have := k e w' hC
    cases e with
    | returned v => exact ⟨this.1, this.2 _ (ha.put _ _ (inN_spec hn))⟩
    | panicked ch => show R (.panic ch a.defers) w'; rw [ha.defs]; exact this
    | outgrown => exact this

theorem JX.reg (S : World → Prop) {id : Nat} {y c : Code} (hc : c = .seq (.region id ops false) y)
    (h : JT P ops S (fun o w' => match o with | .go a => WX P y a w' R | o => R o w') n ds (.seq (List.range ops.size)) L w) : JX P R n ds c L w := fun a ha => by
  subst hc; exact WX.seq (WX.region (h a ha))
theorem JX.drw (S : World → Prop) {id : Nat} {y c : Code} (hm : P.follows .mixedOrders = true) (hc : c = .seq (.region id ops true) y)
    (h : JT P ops S (fun o w' => match o with | .go a => WX P y a w' R | o => R o w') n ds (.any ops.size (Array.replicate ops.size false)) L { w with drawn := w.drawn + 1 }) : JX P R n ds c L w := fun a ha => by
  subst hc; exact WX.seq (WX.draw S hm (h a ha))
theorem JX.reg1 (S : World → Prop) {id : Nat} {c : Code} (hc : c = .region id ops false) (h : JT P ops S R n ds (.seq (List.range ops.size)) L w) : JX P R n ds c L w := fun a ha => by
  subst hc; exact WX.region (h a ha)
theorem JX.drw1 (S : World → Prop) {id : Nat} {c : Code} (hm : P.follows .mixedOrders = true) (hc : c = .region id ops true) (h : JT P ops S R n ds (.any ops.size (Array.replicate ops.size false)) L { w with drawn := w.drawn + 1 }) : JX P R n ds c L w := fun a ha => by
  subst hc; exact WX.draw S hm (h a ha)
/-- the region is done: what stands behind it -/
theorem JT.fin {y : Code} (ht : T.next ops = []) (h : JX P R n ds y L w) : JT P ops S (fun o w' => match o with | .go a => WX P y a w' R | o => R o w') n ds T L w := JT.done ht h
theorem JX.mask (ts : List Nat) (L' : Sls) (h : maskL ts L = L') {c : Code} (k : JX P R n ds c L' w) : JX P R n ds c L w := fun a ha => by subst h; exact k a (ha.mask ts)
theorem JX.seqE {x y c : Code} (hc : c = .seq x y) (h : JX P (fun o w' => match o with | .go a => WX P y a w' R | o => R o w') n ds x L w) : JX P R n ds c L w := fun a ha => by subst hc; exact WX.seq (h a ha)
theorem JX.condT {c : Code} {x : Operand} {y z : Code} (hc : c = .cond x y z) (hk : knownX L x = true) (hv : evalD L x = .bool true) (h : JX P R n ds y L w) : JX P R n ds c L w := fun a ha => by
  subst hc; exact WX.condT (by rw [ha.eval hk]; exact hv) (h a ha)
theorem JX.condF {c : Code} {x : Operand} {y z : Code} (hc : c = .cond x y z) (hk : knownX L x = true) (hv : evalD L x = .bool false) (h : JX P R n ds z L w) : JX P R n ds c L w := fun a ha => by
  subst hc; exact WX.condF (by rw [ha.eval hk]; exact hv) (h a ha)
theorem JX.skip {c : Code} (hc : c = .skip) (h : ∀ a, SL n L ds a → R (.go a) w) : JX P R n ds c L w := fun a ha => by subst hc; exact WX.skip (h a ha)
theorem JX.ret {c : Code} (hc : c = .ret) (h : ∀ a, SL n L ds a → R (.ret a) w) : JX P R n ds c L w := fun a ha => by subst hc; exact WX.retC (h a ha)
end

/-- how a function ends -/
def FnEnd (P : Program) (fn : Func) (R : Ending → World → Prop) : RX → World → Prop
  | .go a, w | .ret a, w => a.defers = [] ∧ ∃ v, (results fn a.tmps).run P w = .ok v w ∧ R (.returned v) w
  | .panic ch ds, w => ds = [] ∧ R (.panicked ch) w
  | .exit _ _, _ => False
theorem calls_of_JX {P : Program} {f : Nat} {fn : Func} {c : Code} {args : List Value} {w : World} {R : Ending → World → Prop} (hf : P.funcs[f]? = some fn) (hb : fn.body = some c) (hle : args.length ≤ fn.ntmps)
    (h : JX P (FnEnd P fn R) fn.ntmps [] c ((List.range args.length).zip args) w) : Calls P f args.toArray w R := by
  refine calls_of_WX hf hb ?_
  refine (h _ ⟨by simp; omega, rfl, fun t v hv => ?_⟩).mono fun o w' hR => by cases o <;> exact hR
  have key : ∀ (xs : List Value) (k : Nat), lookS ((List.range' k xs.length).zip xs) t = some v → k ≤ t ∧ xs[t - k]? = some v := by
    intro xs
    induction xs with
    | nil => intro k hk; simp [lookS] at hk
    | cons x xs ih =>
      intro k hk
      rw [List.length_cons, List.range'_succ, List.zip_cons_cons, lookS_cons] at hk
      split at hk
      · rename_i e; subst e; cases hk; simp
      · rename_i e
        obtain ⟨h1, h2⟩ := ih (k + 1) hk
        refine ⟨by omega, ?_⟩
        rw [show t - k = (t - (k + 1)) + 1 by omega]; simpa using h2
  have := (key args 0 (by rw [← List.range_eq_range']; exact hv)).2
  have hlt : t < args.length := (List.getElem?_eq_some_iff.1 this).1
  have hg : args[t] = v := (List.getElem?_eq_some_iff.1 this).2
  have h2 : t < (args.toArray ++ Array.replicate (fn.ntmps - args.toArray.size) undef).size := by simp; omega
  rw [Array.getD, dif_pos h2]
  simp [Array.getElem_append, hlt, hg]
end Go.Proofs.YtmhoefpienagkaaDoor

/- The machine of package vm as plain data: what one method of it does to a machine, with none where Go itself would panic. -/
namespace Go.Proofs.YtmhoefpienagkaaDoor.Vm

structure Ins where
  op : Int
  a : Int
  b : Int
  deriving DecidableEq, Repr
structure FunC where
  params : Int
  words : Int
  body : List Ins
  frm : List Int
  deriving DecidableEq, Repr
structure Cod where
  chans : Int
  funs : List FunC
  deriving DecidableEq, Repr
structure TryR where
  at_ : Int
  word : Int
  height : Int
  deriving DecidableEq, Repr
structure Frm where
  fn : Int
  at_ : Int
  words : List Int
  stack : List Int
  tries : List TryR
  deriving DecidableEq, Repr
structure Stt where
  procs : List (List Frm)
  chans : List (List Int)
  steps : Int
  deriving DecidableEq, Repr
structure Evt where
  p : Int
  k : Int
  n : Int
  deriving DecidableEq, Repr
structure Mac where
  c : Cod
  s : Stt
  proc : Nat
  fuel : Int
  events : List Evt
  deriving DecidableEq, Repr

/-- an element at an index that may be no index -/
def ix {α : Type} (l : List α) (i : Int) : Option α := if 0 ≤ i then l[i.toNat]? else none
/-- with an element set, if the index is one -/
def put {α : Type} (l : List α) (i : Int) (x : α) : Option (List α) := if 0 ≤ i ∧ i.toNat < l.length then some (l.set i.toNat x) else none

namespace Mac
def frames (M : Mac) : Option (List Frm) := M.s.procs[M.proc]?
def top (M : Mac) : Option Frm := M.frames.bind (·.getLast?)
def setFrames (M : Mac) (l : List Frm) : Mac := { M with s := { M.s with procs := M.s.procs.set M.proc l } }
def setTop (M : Mac) (f : Frm) : Option Mac := M.frames.bind fun l => if l = [] then none else some (M.setFrames (l.dropLast ++ [f]))
def push (M : Mac) (n : Int) : Option Mac := do
  let f ← M.top
  M.setTop { f with stack := f.stack ++ [n] }
def pop (M : Mac) : Option (Int × Mac) := do
  let f ← M.top
  let n ← f.stack.getLast?
  let M ← M.setTop { f with stack := f.stack.dropLast }
  pure (n, M)
def args (M : Mac) (n : Int) : Option (List Int × Mac) := do
  let f ← M.top
  if 0 ≤ n ∧ n.toNat ≤ f.stack.length then
    let at_ := f.stack.length - n.toNat
    let M ← M.setTop { f with stack := f.stack.take at_ }
    pure (f.stack.drop at_, M)
  else none
end Mac
/-- the frame of a call -/
def frame (c : Cod) (f : Int) (args : List Int) : Option Frm := do
  let g ← ix c.funs f
  if (args.length : Int) ≤ g.words then pure ⟨f, 0, args ++ List.replicate (g.words - args.length).toNat 0, [], []⟩ else none
/-- the next instruction of a process -/
def next (c : Cod) (p : List Frm) : Option Ins := do
  let f ← p.getLast?
  let g ← ix c.funs f.fn
  ix g.body f.at_

/-- what an instruction leaves: it went on, or threw a code -/
inductive Res where
  | on (M : Mac)
  | thrown (code : Int) (M : Mac)
  deriving DecidableEq, Repr

namespace Mac
def event (M : Mac) (kind n : Int) : Mac := { M with events := M.events ++ [⟨M.proc, kind, n⟩] }
def setAt (M : Mac) (n : Int) : Option Mac := do
  let f ← M.top
  M.setTop { f with at_ := n }
def iload (M : Mac) (i : Ins) : Option Res := do
  let f ← M.top
  let n ← ix f.words i.a
  return .on (← M.push n)
def istore (M : Mac) (i : Ins) : Option Res := do
  let (n, M) ← M.pop
  let f ← M.top
  let l ← put f.words i.a n
  return .on (← M.setTop { f with words := l })
def ielem (M : Mac) (i : Ins) : Option Res := do
  let (n, M) ← M.pop
  if n < 0 ∨ i.b ≤ n then return .thrown 1 M
  let f ← M.top
  let x ← ix f.words (i.a + n)
  return .on (← M.push x)
def iput (M : Mac) (i : Ins) : Option Res := do
  let (n, M) ← M.pop
  let (k, M) ← M.pop
  if k < 0 ∨ i.b ≤ k then return .thrown 1 M
  let f ← M.top
  let l ← put f.words (i.a + k) n
  return .on (← M.setTop { f with words := l })
/-- op: what word.Op returns -/
def iop (op : Int → Int → Int → Int × Int) (M : Mac) (i : Ins) : Option Res := do
  let (b, M) ← M.pop
  let (a, M) ← M.pop
  let (r, code) := op i.a a b
  if code ≠ 0 then return .thrown code M
  return .on (← M.push r)
def inot (M : Mac) : Option Res := do
  let (n, M) ← M.pop
  return .on (← M.push (if n = 0 then 1 else 0))
def ijump (M : Mac) (i : Ins) : Option Res := do return .on (← M.setAt i.a)
def ifalse (M : Mac) (i : Ins) : Option Res := do
  let (n, M) ← M.pop
  if n = 0 then return .on (← M.setAt i.a)
  return .on M
def icall (M : Mac) (i : Ins) : Option Res := do
  let l ← M.frames
  if 8 ≤ l.length then return .thrown 3 M
  let (ar, M) ← M.args i.b
  let f ← frame M.c i.a ar
  let l ← M.frames
  return .on (M.setFrames (l ++ [f]))
def ireturn (M : Mac) : Option Res := do
  let (n, M) ← M.pop
  let l ← M.frames
  let M := M.setFrames l.dropLast
  if l.dropLast = [] then return .on (M.event 1 n)
  return .on (← M.push n)
def ithrow (M : Mac) : Option Res := do
  let (n, M) ← M.pop
  return .thrown n M
def itry (M : Mac) (i : Ins) : Option Res := do
  let f ← M.top
  return .on (← M.setTop { f with tries := f.tries ++ [⟨i.a, i.b, f.stack.length⟩] })
def idone (M : Mac) : Option Res := do
  let f ← M.top
  if f.tries = [] then none
  return .on (← M.setTop { f with tries := f.tries.dropLast })
def setChan (M : Mac) (k : Nat) (l : List Int) : Mac := { M with s := { M.s with chans := M.s.chans.set k l } }
def isend (M : Mac) (i : Ins) : Option Res := do
  let l ← ix M.s.chans i.a
  let (n, M) ← M.pop
  return .on (M.setChan i.a.toNat (l ++ [n]))
def irecv (M : Mac) (i : Ins) : Option Res := do
  let l ← ix M.s.chans i.a
  match l with
  | [] => none
  | n :: l => return .on ((← M.push n).setChan i.a.toNat l)
def ispawn (M : Mac) (i : Ins) : Option Res := do
  if 4 ≤ M.s.procs.length then return .thrown 4 M
  let (ar, M) ← M.args i.b
  let f ← frame M.c i.a ar
  return .on { M with s := { M.s with procs := M.s.procs ++ [[f]] } }
def iout (M : Mac) : Option Res := do
  let (n, M) ← M.pop
  return .on (M.event 0 n)
def idrop (M : Mac) : Option Res := do
  let (_, M) ← M.pop
  return .on M
/-- lets a handler go on, or ends the process: over the frames, the innermost one first -/
def throwIn (code : Int) : List Frm → Option (List Frm)
  | [] => some []
  | f :: fs => match f.tries.getLast? with
    | none => throwIn code fs
    | some t => do
      let l ← put f.words t.word code
      if 0 ≤ t.height ∧ t.height.toNat ≤ f.stack.length then some ({ f with tries := f.tries.dropLast, stack := f.stack.take t.height.toNat, at_ := t.at_, words := l } :: fs) else none
def throw (M : Mac) (code : Int) : Option Mac := do
  let l ← M.frames
  let l' ← throwIn code l.reverse
  let M := M.setFrames l'.reverse
  if l' = [] then return M.event 2 code
  return M
/-- the table of the instructions -/
def instr (op : Int → Int → Int → Int × Int) (M : Mac) (i : Ins) : Option Res :=
  if i.op = 0 then (M.push i.a).map .on else if i.op = 1 then M.iload i else if i.op = 2 then M.istore i else if i.op = 3 then M.ielem i
  else if i.op = 4 then M.iput i else if i.op = 5 then M.iop op i else if i.op = 6 then M.inot else if i.op = 7 then M.ijump i
  else if i.op = 8 then M.ifalse i else if i.op = 9 then M.icall i else if i.op = 10 then M.ireturn else if i.op = 11 then M.ithrow
  else if i.op = 12 then M.itry i else if i.op = 13 then M.idone else if i.op = 14 then M.isend i else if i.op = 15 then M.irecv i
  else if i.op = 16 then M.ispawn i else if i.op = 17 then M.iout else if i.op = 18 then M.idrop else none
def execute (op : Int → Int → Int → Int × Int) (M : Mac) : Option Mac := do
  let l ← M.frames
  let i ← next M.c l
  let M := { M with s := { M.s with steps := M.s.steps + 1 } }
  let f ← M.top
  let M ← M.setTop { f with at_ := f.at_ + 1 }
  match ← M.instr op i with
  | .on M => some M
  | .thrown code M => M.throw code
/-- the n-th word from the top of the stack -/
def last (f : Frm) (n : Nat) : Option Int := if n ≤ f.stack.length then f.stack[f.stack.length - n]? else none
def throws (op : Int → Int → Int → Int × Int) (M : Mac) : Option Bool := do
  let l ← M.frames
  let i ← next M.c l
  let f ← M.top
  if i.op = 11 then return true
  else if i.op = 3 then
    let n ← last f 1
    return decide (n < 0 ∨ i.b ≤ n)
  else if i.op = 4 then
    let n ← last f 2
    return decide (n < 0 ∨ i.b ≤ n)
  else if i.op = 5 then
    let a ← last f 2
    let b ← last f 1
    return decide ((op i.a a b).2 ≠ 0)
  else if i.op = 9 then return decide (8 ≤ l.length)
  else return false
def visible (op : Int → Int → Int → Int × Int) (M : Mac) : Option Bool := do
  let l ← M.frames
  let i ← next M.c l
  if i.op = 14 ∨ i.op = 15 ∨ i.op = 16 ∨ i.op = 17 then return true
  else if i.op = 10 then return decide (l.length = 1)
  else if l.any (fun f => decide (0 < f.tries.length)) then return false
  else M.throws op
/-- whether it goes on no further, and the error then -/
def halt (op : Int → Int → Int → Int × Int) (M : Mac) : Option (Option Int) :=
  M.frames.bind fun l => if l = [] then some (some 0) else
    (M.visible op).bind fun b => if b = true then some (some 0) else if M.fuel ≤ M.s.steps then some (some 13) else some none
/-- lets the process go on, by n instructions at most -/
def go (op : Int → Int → Int → Int × Int) : Nat → Mac → Option (Int × Mac)
  | 0, M => (M.halt op).bind fun h => h.map fun e => (e, M)
  | n + 1, M => (M.halt op).bind fun h => match h with
    | some e => some (e, M)
    | none => (M.execute op).bind (go op n)
def on (op : Int → Int → Int → Int × Int) (M : Mac) : Option (Int × Mac) := M.go op (M.fuel - M.s.steps).toNat
end Mac
def emptyS : Stt := ⟨[], [], 0⟩
/-- New: state, events, error -/
def newV (op : Int → Int → Int → Int × Int) (c : Cod) (args : List Int) (fuel : Int) : Option (Stt × List Evt × Int) := do
  let g ← c.funs[0]?
  if (args.length : Int) ≠ g.params ∨ args.any (fun n => decide (n < -8 ∨ 7 < n)) then return (emptyS, [], 1)
  let f ← frame c 0 args
  if c.chans < 0 then none
  let (e, M) ← Mac.on op ⟨c, ⟨[[f]], List.replicate c.chans.toNat [], 0⟩, 0, fuel, []⟩
  return (M.s, M.events, e)
def ready (c : Cod) (s : Stt) (p : List Frm) : Option Bool :=
  if p = [] then some false else do
    let i ← next c p
    if i.op = 14 then
      let l ← ix s.chans i.a
      return decide (l.length < 2)
    else if i.op = 15 then
      let l ← ix s.chans i.a
      return decide (0 < l.length)
    else return true
def readyFrom (c : Cod) (s : Stt) : Nat → List (List Frm) → Option (List Int)
  | _, [] => some []
  | k, p :: ps => do
    let b ← ready c s p
    let l ← readyFrom c s (k + 1) ps
    return if b then (k : Int) :: l else l
def readyV (c : Cod) (s : Stt) : Option (List Int) := readyFrom c s 0 s.procs
def turnV (op : Int → Int → Int → Int × Int) (c : Cod) (s : Stt) (proc fuel : Int) : Option (Stt × List Evt × Int) :=
  if proc < 0 ∨ (s.procs.length : Int) ≤ proc then some (emptyS, [], 1) else do
    let p ← ix s.procs proc
    if (← ready c s p) = false then return (emptyS, [], 1)
    if fuel ≤ s.steps then return (s, [], 13)
    let M ← Mac.execute op ⟨c, s, proc.toNat, fuel, []⟩
    let (e, M) ← M.on op
    if e = 0 ∧ s.procs.length < M.s.procs.length then
      let (e, M) ← Mac.on op { M with proc := s.procs.length }
      return (M.s, M.events, e)
    return (M.s, M.events, e)
def endedV (c : Cod) (s : Stt) : Option Int :=
  if s.procs.all (fun p => decide (p = [])) then some 0 else do
    let l ← readyV c s
    return if l = [] then 1 else -1
def clamp (turn : Nat) (sched ready : List Int) : Option Int :=
  match sched[turn]? with
  | some p => if p ∈ ready then some p else ready.head?
  | none => ready.head?
structure RunR where
  args : List Int
  sched : List Int
  steps : Int
  events : List Evt
  fin : Int
  deriving DecidableEq, Repr
/-- the turns of Run from a turn on: n at most -/
def turns (op : Int → Int → Int → Int × Int) (c : Cod) (sch : List Int) (fuel : Int) : Nat → Nat → Stt → RunR → Option RunR
  | 0, _, s, r => do
    let e ← endedV c s
    return { r with fin := if e < 0 then 2 else e, steps := s.steps }
  | n + 1, turn, s, r => do
    let e ← endedV c s
    if 0 ≤ e then return { r with fin := e, steps := s.steps }
    let p ← clamp turn sch (← readyV c s)
    let (s', evs, e) ← turnV op c s p fuel
    let r := { r with sched := r.sched ++ [p], events := r.events ++ evs }
    if e ≠ 0 then return { r with fin := 2, steps := fuel }
    turns op c sch fuel n (turn + 1) s' r
def emptyR : RunR := ⟨[], [], 0, [], 0⟩
def runV (op : Int → Int → Int → Int × Int) (c : Cod) (args sch : List Int) (fuel : Int) : Option (RunR × Int) :=
  if fuel < 0 ∨ 4096 < fuel then some (emptyR, 5) else do
    let (s, evs, e) ← newV op c args fuel
    if e = 13 then return (⟨args, [], fuel, [], 2⟩, 0)
    if e ≠ 0 then return (emptyR, e)
    let r ← turns op c sch fuel 256 0 s ⟨args, [], 0, evs, 0⟩
    return (r, 0)
def replayV (op : Int → Int → Int → Int × Int) (c : Cod) (r : RunR) (fuel : Int) : Option Bool := do
  let (x, e) ← runV op c r.args r.sched fuel
  return decide (e = 0 ∧ x = r)
/-- the code that lives of scorialaw11 runs -/
def codeL : Cod := ⟨0, [⟨0, 0, [⟨0, 3, 0⟩, ⟨17, 0, 0⟩, ⟨0, 5, 0⟩, ⟨10, 0, 0⟩], []⟩]⟩
def op0 : Int → Int → Int → Int × Int := fun _ _ _ => (0, 0)
theorem lives_a : runV op0 codeL [] [] 10 = some (⟨[], [0, 0], 4, [⟨0, 0, 3⟩, ⟨0, 1, 5⟩], 0⟩, 0) := by decide +kernel
theorem lives_b : runV op0 codeL [] [] 1 = some (⟨[], [0], 1, [], 2⟩, 0) := by decide +kernel
theorem lives_c : replayV op0 codeL ⟨[], [0, 0], 4, [⟨0, 0, 3⟩, ⟨0, 1, 5⟩], 0⟩ 10 = some true := by decide +kernel
end Go.Proofs.YtmhoefpienagkaaDoor.Vm

/- The plain machine seen at the innermost frame of its process: every method computes there. -/
namespace Go.Proofs.YtmhoefpienagkaaDoor.Vm
namespace Mac
variable {M : Mac} {l : List Frm} {f g : Frm}
/-- the process's frames are these -/
def at_ (M : Mac) (l : List Frm) (f : Frm) : Mac := M.setFrames (l ++ [f])
theorem frames_lt (h : M.frames = some l) : M.proc < M.s.procs.length := by
  unfold frames at h; exact (List.getElem?_eq_some_iff.1 h).1
theorem frames_set (h : M.proc < M.s.procs.length) : (M.setFrames l).frames = some l := by
  simp [frames, setFrames, h]
theorem set_set {x y : List Frm} : (M.setFrames x).setFrames y = M.setFrames y := by simp [setFrames]
theorem set_proc : (M.setFrames l).proc = M.proc := rfl
theorem set_lt (h : M.proc < M.s.procs.length) : (M.setFrames l).proc < (M.setFrames l).s.procs.length := by simpa [setFrames] using h
theorem set_self (h : M.frames = some l) : M.setFrames l = M := by
  have hl := frames_lt h
  unfold frames at h
  have : M.s.procs.set M.proc l = M.s.procs := by
    apply List.ext_getElem?
    intro i
    by_cases hi : M.proc = i
    · subst hi; rw [List.getElem?_set_self hl, h]
    · rw [List.getElem?_set_ne hi]
  unfold setFrames; rw [this]
theorem top_at (h : M.proc < M.s.procs.length) : (M.at_ l f).top = some f := by
  unfold top at_; rw [frames_set h]; simp
theorem setTop_at (h : M.proc < M.s.procs.length) : (M.at_ l f).setTop g = some (M.at_ l g) := by
  unfold setTop at_; rw [frames_set h]; simp [set_set]
theorem push_at (h : M.proc < M.s.procs.length) (n : Int) : (M.at_ l f).push n = some (M.at_ l { f with stack := f.stack ++ [n] }) := by
  unfold push; rw [top_at h]; simp [setTop_at h]
theorem pop_at (h : M.proc < M.s.procs.length) {n : Int} {s : List Int} (hs : f.stack = s ++ [n]) : (M.at_ l f).pop = some (n, M.at_ l { f with stack := s }) := by
  unfold pop; rw [top_at h]; simp [setTop_at h, hs]
theorem pop_none (h : M.proc < M.s.procs.length) (hs : f.stack = []) : (M.at_ l f).pop = none := by
  unfold pop; rw [top_at h]; simp [hs]
end Mac
end Go.Proofs.YtmhoefpienagkaaDoor.Vm

section
/- How a machine lies in memory: names for its rows, and what a change of one part leaves of the others. -/
set_option linter.unusedSectionVars false
namespace Go.Proofs.YtmhoefpienagkaaDoor
open Go.RowKit
open Vm (Mac Frm TryR Evt Stt)

/-- the rows of machine k; loc: any other row, of elements of a type t and s cells -/
inductive Nm where
  | root (k : Nat)
  | procs (k : Nat)
  | frames (k p : Nat)
  | words (k p f : Nat)
  | stack (k p f : Nat)
  | tries (k p f : Nat)
  | chs (k : Nat)
  | chan (k i : Nat)
  | evs (k : Nat)
  | loc (t s i : Nat)
  deriving DecidableEq
def Nm.own (k : Nat) : Nm → Prop
  | .root j | .procs j | .frames j _ | .words j _ _ | .stack j _ _ | .tries j _ _ | .chs j | .chan j _ | .evs j => j = k
  | .loc .. => False
abbrev Env := Nm → RowS
def tyN : Nm → Nat
 | .root _ => 108
  | .procs _ => 115
  | .frames .. => 111
  | .words .. | .stack .. | .chan .. => 3
  | .tries .. => 135
  | .chs _ => 22
  | .evs _ => 33
  | .loc t _ _ => t
def szN : Nm → Nat
  | .root _ => 8
  | .procs _ | .words .. | .stack .. | .chan .. | .chs _ => 1
  | .frames .. => 5
  | .tries .. | .evs _ => 3
  | .loc _ s _ => s
abbrev MM (w : World) (B : Nat) (ρ : Env) : Prop := Mem tyN szN w B ρ
def iV (n : Int) : Value := .int .i64 n
def ints (l : List Int) : List Value := l.map iV
def triesC (l : List TryR) : List Value := l.flatMap fun t => [iV t.at_, iV t.word, iV t.height]
def evC (l : List Evt) : List Value := l.flatMap fun e => [iV e.p, iV e.k, iV e.n]
def frame5 (ρ : Env) (k p i : Nat) (f : Frm) : List Value := [iV f.fn, iV f.at_, (ρ (.words k p i)).v, (ρ (.stack k p i)).v, (ρ (.tries k p i)).v]
def frC (ρ : Env) (k p : Nat) : Nat → List Frm → List Value
  | _, [] => []
  | i, f :: fs => frame5 ρ k p i f ++ frC ρ k p (i + 1) fs
def rowIs (r : RowS) (n : Nat) (xs : List Value) : Prop := r.n = n ∧ r.xs = xs
/-- a frame's own rows -/
structure FrLay (ρ : Env) (k p i : Nat) (f : Frm) : Prop where
  words : rowIs (ρ (.words k p i)) f.words.length (ints f.words)
  stack : rowIs (ρ (.stack k p i)) f.stack.length (ints f.stack)
  tries : rowIs (ρ (.tries k p i)) f.tries.length (triesC f.tries)
/-- a process's rows -/
structure PrLay (ρ : Env) (k p : Nat) (fs : List Frm) : Prop where
  row : rowIs (ρ (.frames k p)) fs.length (frC ρ k p 0 fs)
  fr : ∀ i f, fs[i]? = some f → FrLay ρ k p i f
def rootC (ρ : Env) (k : Nat) (vF : Value) (M : Mac) : List Value :=
  [iV M.c.chans, vF, (ρ (.procs k)).v, (ρ (.chs k)).v, iV M.s.steps, iV M.proc, iV M.fuel, (ρ (.evs k)).v]
structure Lay (ρ : Env) (k : Nat) (vF : Value) (M : Mac) : Prop where
  root : rowIs (ρ (.root k)) 1 (rootC ρ k vF M)
  procs : rowIs (ρ (.procs k)) M.s.procs.length ((List.range M.s.procs.length).map fun p => (ρ (.frames k p)).v)
  proc : ∀ p fs, M.s.procs[p]? = some fs → PrLay ρ k p fs
  chs : rowIs (ρ (.chs k)) M.s.chans.length ((List.range M.s.chans.length).map fun i => (ρ (.chan k i)).v)
  chan : ∀ i l, M.s.chans[i]? = some l → rowIs (ρ (.chan k i)) l.length (ints l)
  evs : rowIs (ρ (.evs k)) M.events.length (evC M.events)

section
variable {ρ ρ' : Env} {k p : Nat} {vF : Value} {M : Mac} {l fs : List Frm} {f f' : Frm}
theorem frC_append : ∀ (l l' : List Frm) (i : Nat), frC ρ k p i (l ++ l') = frC ρ k p i l ++ frC ρ k p (i + l.length) l'
  | [], l', i => by simp [frC]
  | f :: l, l', i => by simp only [List.cons_append, frC, frC_append l l' (i + 1), List.append_assoc, List.length_cons]; rw [show i + 1 + l.length = i + (l.length + 1) by omega]
theorem frC_length : ∀ (l : List Frm) (i : Nat), (frC ρ k p i l).length = l.length * 5
  | [], i => rfl
  | f :: l, i => by simp only [frC, List.length_append, frC_length l (i + 1), List.length_cons, frame5, List.length_nil]; omega
theorem frC_congr : ∀ (l : List Frm) (i : Nat), (∀ j, i ≤ j → j < i + l.length → (ρ' (.words k p j)).v = (ρ (.words k p j)).v ∧ (ρ' (.stack k p j)).v = (ρ (.stack k p j)).v ∧ (ρ' (.tries k p j)).v = (ρ (.tries k p j)).v) → frC ρ' k p i l = frC ρ k p i l
  | [], _, _ => rfl
  | f :: l, i, h => by
    obtain ⟨h1, h2, h3⟩ := h i (Nat.le_refl _) (by simp)
    simp only [frC, frame5, h1, h2, h3]
    rw [frC_congr l (i + 1) fun j hj hl => h j (by omega) (by simp only [List.length_cons]; omega)]
theorem frC_snoc (l : List Frm) (f : Frm) : frC ρ k p 0 (l ++ [f]) = frC ρ k p 0 l ++ frame5 ρ k p l.length f := by
  rw [frC_append]; simp [frC]
theorem ints_length (l : List Int) : (ints l).length = l.length := by simp [ints]
theorem ints_append (a b : List Int) : ints (a ++ b) = ints a ++ ints b := by simp [ints]
theorem triesC_length (l : List TryR) : (triesC l).length = l.length * 3 := by
  induction l with
  | nil => rfl
  | cons t l ih => simp only [triesC, List.flatMap_cons, List.length_append, List.length_cons, List.length_nil] at ih ⊢; omega
theorem triesC_append (a b : List TryR) : triesC (a ++ b) = triesC a ++ triesC b := by simp [triesC]
theorem evC_append (a b : List Evt) : evC (a ++ b) = evC a ++ evC b := by simp [evC]
theorem PrLay.congr (h : PrLay ρ k p fs) (h1 : ρ' (.frames k p) = ρ (.frames k p)) (h2 : ∀ i, ρ' (.words k p i) = ρ (.words k p i) ∧ ρ' (.stack k p i) = ρ (.stack k p i) ∧ ρ' (.tries k p i) = ρ (.tries k p i)) : PrLay ρ' k p fs := by
  refine ⟨?_, fun i f hf => ?_⟩
  · rw [h1, frC_congr fs 0 fun j _ _ => ⟨by rw [(h2 j).1], by rw [(h2 j).2.1], by rw [(h2 j).2.2]⟩]; exact h.row
  · obtain ⟨a, b, c⟩ := h.fr i f hf
    exact ⟨by rw [(h2 i).1]; exact a, by rw [(h2 i).2.1]; exact b, by rw [(h2 i).2.2]; exact c⟩
/-- a process's frames change -/
theorem Lay.frames_upd (h : Lay ρ k vF M) (fs' : List Frm)
    (hoff : ∀ d, d ≠ .procs k → (∀ q, d = .frames k q → q ≠ M.proc) → (∀ q i, d = .words k q i → q ≠ M.proc) → (∀ q i, d = .stack k q i → q ≠ M.proc) → (∀ q i, d = .tries k q i → q ≠ M.proc) → ρ' d = ρ d)
    (hv : (ρ' (.procs k)).v = (ρ (.procs k)).v) (hp : rowIs (ρ' (.procs k)) M.s.procs.length ((List.range M.s.procs.length).map fun p => (ρ' (.frames k p)).v)) (hfs : PrLay ρ' k M.proc fs') : Lay ρ' k vF (M.setFrames fs') := by
  have e1 : ρ' (.root k) = ρ (.root k) := hoff _ (by simp) (by simp) (by simp) (by simp) (by simp)
  have e2 : ρ' (.chs k) = ρ (.chs k) := hoff _ (by simp) (by simp) (by simp) (by simp) (by simp)
  have e3 : ρ' (.evs k) = ρ (.evs k) := hoff _ (by simp) (by simp) (by simp) (by simp) (by simp)
  have e4 : ∀ i, ρ' (.chan k i) = ρ (.chan k i) := fun i => hoff _ (by simp) (by simp) (by simp) (by simp) (by simp)
  refine ⟨?_, ?_, fun p fs hf => ?_, ?_, fun i l hl => ?_, ?_⟩
  · have := h.root
    unfold rootC at this ⊢
    rw [e1, e2, e3, hv]; exact this
  · simpa [Vm.Mac.setFrames] using hp
  · by_cases hpp : p = M.proc
    · subst hpp
      simp only [Vm.Mac.setFrames] at hf
      rw [List.getElem?_set_self'] at hf
      cases hm : M.s.procs[M.proc]? with
      | none => rw [hm] at hf; simp at hf
      | some x => rw [hm] at hf; simp at hf; subst hf; exact hfs
    · simp only [Vm.Mac.setFrames] at hf
      rw [List.getElem?_set_ne (fun e => hpp e.symm)] at hf
      refine (h.proc p fs hf).congr (hoff _ (by simp) (by simp [hpp]) (by simp) (by simp) (by simp)) fun i => ⟨hoff _ (by simp) (by simp) (by simp [hpp]) (by simp) (by simp), hoff _ (by simp) (by simp) (by simp) (by simp [hpp]) (by simp), hoff _ (by simp) (by simp) (by simp) (by simp) (by simp [hpp])⟩
  · have := h.chs
    rw [e2]
    simp only [Vm.Mac.setFrames, e4]; exact this
  · rw [e4]; exact h.chan i l (by simpa [Vm.Mac.setFrames] using hl)
  · rw [e3]; exact h.evs
theorem setFrames_at (M : Mac) (l : List Frm) (f : Frm) : (M.at_ l f).setFrames (l ++ [f']) = M.at_ l f' := by simp [Vm.Mac.at_, Vm.Mac.set_set]
theorem at_proc (M : Mac) (l : List Frm) (f : Frm) : (M.at_ l f).proc = M.proc := rfl
theorem at_procs (hp : M.proc < M.s.procs.length) : (M.at_ l f).s.procs[M.proc]? = some (l ++ [f]) := by simp [Vm.Mac.at_, Vm.Mac.setFrames, hp]
/-- the innermost frame changes -/
theorem Lay.top_upd (h : Lay ρ k vF (M.at_ l f)) (hlt : M.proc < M.s.procs.length)
    (hoff : ∀ d, d ≠ .frames k M.proc → d ≠ .words k M.proc l.length → d ≠ .stack k M.proc l.length → d ≠ .tries k M.proc l.length → ρ' d = ρ d)
    (hv : (ρ' (.frames k M.proc)).v = (ρ (.frames k M.proc)).v) (hn : (ρ' (.frames k M.proc)).n = l.length + 1) (hx : (ρ' (.frames k M.proc)).xs = frC ρ k M.proc 0 l ++ frame5 ρ' k M.proc l.length f') (hf : FrLay ρ' k M.proc l.length f') :
    Lay ρ' k vF (M.at_ l f') := by
  rw [← setFrames_at M l f]
  have hP := h.proc _ _ (at_procs hlt)
  have e2 : ρ' (.procs k) = ρ (.procs k) := hoff _ (by simp) (by simp) (by simp) (by simp)
  have hsame : ∀ i, i ≠ l.length → ρ' (.words k M.proc i) = ρ (.words k M.proc i) ∧ ρ' (.stack k M.proc i) = ρ (.stack k M.proc i) ∧ ρ' (.tries k M.proc i) = ρ (.tries k M.proc i) := fun i hi =>
    ⟨hoff _ (by simp) (by simp [hi]) (by simp) (by simp), hoff _ (by simp) (by simp) (by simp [hi]) (by simp), hoff _ (by simp) (by simp) (by simp) (by simp [hi])⟩
  refine h.frames_upd (l ++ [f']) (fun d h1 h2 h3 h4 h5 => hoff d (fun e => h2 _ e rfl) (fun e => h3 _ _ e rfl) (fun e => h4 _ _ e rfl) (fun e => h5 _ _ e rfl)) (by rw [e2]) ?_ ⟨?_, fun i g hg => ?_⟩
  · have := h.procs
    rw [e2]
    refine ⟨this.1, this.2.trans (List.map_congr_left fun q hq => ?_)⟩
    by_cases hqp : q = M.proc
    · rw [hqp, hv]
    · rw [hoff _ (by simp [hqp]) (by simp) (by simp) (by simp)]
  · refine ⟨by simpa [at_proc] using hn, ?_⟩
    rw [at_proc, frC_snoc, hx, frC_congr (ρ := ρ) (ρ' := ρ') l 0 fun j _ hj => ?_]
    have := hsame j (by omega)
    exact ⟨by rw [this.1], by rw [this.2.1], by rw [this.2.2]⟩
  · rw [at_proc]
    by_cases hi : i < l.length
    · have := hsame i (by omega)
      have hg' := hP.fr i g (by rw [List.getElem?_append_left hi] at hg ⊢; exact hg)
      obtain ⟨a, b, c⟩ := hg'
      exact ⟨by rw [this.1]; exact a, by rw [this.2.1]; exact b, by rw [this.2.2]; exact c⟩
    · rw [List.getElem?_append_right (by omega)] at hg
      have h0 : i - l.length = 0 := by
        by_cases h0 : i - l.length = 0
        · exact h0
        · rw [List.getElem?_eq_none (by simp; omega)] at hg; cases hg
      rw [h0] at hg; simp at hg; subst hg
      have : i = l.length := by omega
      subst this; exact hf
end
end Go.Proofs.YtmhoefpienagkaaDoor
end

section
/- How a machine lies in memory: changes of the other parts. -/
set_option linter.unusedSectionVars false
namespace Go.Proofs.YtmhoefpienagkaaDoor
open Go.RowKit
open Vm (Mac Frm TryR Evt Stt)

section
variable {ρ ρ' : Env} {k p : Nat} {vF : Value} {M M' : Mac} {l fs : List Frm} {f f' : Frm}
/-- the machine's own cells change -/
theorem Lay.root_upd (h : Lay ρ k vF M) (hs : M'.s.procs = M.s.procs) (hc : M'.s.chans = M.s.chans) (he : M'.events = M.events) (hoff : ∀ d, d ≠ .root k → ρ' d = ρ d) (hr : rowIs (ρ' (.root k)) 1 (rootC ρ' k vF M')) : Lay ρ' k vF M' := by
  refine ⟨hr, ?_, fun p fs hf => ?_, ?_, fun i l hl => ?_, ?_⟩
  · rw [hs, hoff _ (by simp)]
    have := h.procs
    refine ⟨this.1, this.2.trans (List.map_congr_left fun q _ => by rw [hoff _ (by simp)])⟩
  · rw [hs] at hf
    exact (h.proc p fs hf).congr (hoff _ (by simp)) fun i => ⟨hoff _ (by simp), hoff _ (by simp), hoff _ (by simp)⟩
  · rw [hc, hoff _ (by simp)]
    have := h.chs
    refine ⟨this.1, this.2.trans (List.map_congr_left fun q _ => by rw [hoff _ (by simp)])⟩
  · rw [hc] at hl; rw [hoff _ (by simp)]; exact h.chan i l hl
  · rw [he, hoff _ (by simp)]; exact h.evs
/-- the events change -/
theorem Lay.ev_upd (h : Lay ρ k vF M) (evs : List Evt) (hoff : ∀ d, d ≠ .root k → d ≠ .evs k → ρ' d = ρ d) (hr : rowIs (ρ' (.root k)) 1 (rootC ρ' k vF M)) (he : rowIs (ρ' (.evs k)) evs.length (evC evs)) : Lay ρ' k vF { M with events := evs } := by
  refine ⟨hr, ?_, fun p fs hf => ?_, ?_, fun i l hl => ?_, he⟩
  · rw [hoff _ (by simp) (by simp)]
    have := h.procs
    refine ⟨this.1, this.2.trans (List.map_congr_left fun q _ => by rw [hoff _ (by simp) (by simp)])⟩
  · exact (h.proc p fs hf).congr (hoff _ (by simp) (by simp)) fun i => ⟨hoff _ (by simp) (by simp), hoff _ (by simp) (by simp), hoff _ (by simp) (by simp)⟩
  · rw [hoff _ (by simp) (by simp)]
    have := h.chs
    refine ⟨this.1, this.2.trans (List.map_congr_left fun q _ => by rw [hoff _ (by simp) (by simp)])⟩
  · rw [hoff _ (by simp) (by simp)]; exact h.chan i l hl
/-- a channel changes -/
theorem Lay.chan_upd (h : Lay ρ k vF M) (i : Nat) (l : List Int) (hoff : ∀ d, d ≠ .chs k → d ≠ .chan k i → ρ' d = ρ d) (hv : (ρ' (.chs k)).v = (ρ (.chs k)).v)
    (hc : rowIs (ρ' (.chs k)) M.s.chans.length ((List.range M.s.chans.length).map fun i => (ρ' (.chan k i)).v)) (hl : rowIs (ρ' (.chan k i)) l.length (ints l)) : Lay ρ' k vF (M.setChan i l) := by
  refine ⟨?_, ?_, fun p fs hf => ?_, ?_, fun j l' hl' => ?_, ?_⟩
  · have := h.root
    unfold rootC at this ⊢
    rw [hoff (.root k) (by simp) (by simp), hoff (.procs k) (by simp) (by simp), hoff (.evs k) (by simp) (by simp), hv]; exact this
  · rw [hoff _ (by simp) (by simp)]
    have := h.procs
    refine ⟨this.1, this.2.trans (List.map_congr_left fun q _ => by rw [hoff _ (by simp) (by simp)])⟩
  · exact (h.proc p fs hf).congr (hoff _ (by simp) (by simp)) fun i => ⟨hoff _ (by simp) (by simp), hoff _ (by simp) (by simp), hoff _ (by simp) (by simp)⟩
  · simpa [Vm.Mac.setChan] using hc
  · simp only [Vm.Mac.setChan] at hl'
    by_cases hj : j = i
    · subst hj
      rw [List.getElem?_set_self'] at hl'
      cases hm : M.s.chans[j]? with
      | none => rw [hm] at hl'; simp at hl'
      | some x => rw [hm] at hl'; simp at hl'; subst hl'; exact hl
    · rw [List.getElem?_set_ne (fun e => hj e.symm)] at hl'
      rw [hoff _ (by simp) (by simp [hj])]; exact h.chan j l' hl'
  · rw [hoff _ (by simp) (by simp)]; exact h.evs
/-- a process more -/
theorem Lay.spawn_upd (h : Lay ρ k vF M) (f : Frm)
    (hoff : ∀ d, d ≠ .root k → d ≠ .procs k → d ≠ .frames k M.s.procs.length → d ≠ .words k M.s.procs.length 0 → d ≠ .stack k M.s.procs.length 0 → d ≠ .tries k M.s.procs.length 0 → ρ' d = ρ d)
    (hr : rowIs (ρ' (.root k)) 1 (rootC ρ' k vF M)) (hp : rowIs (ρ' (.procs k)) (M.s.procs.length + 1) ((List.range (M.s.procs.length + 1)).map fun p => (ρ' (.frames k p)).v)) (hP : PrLay ρ' k M.s.procs.length [f]) :
    Lay ρ' k vF { M with s := { M.s with procs := M.s.procs ++ [[f]] } } := by
  refine ⟨hr, by simpa using hp, fun p fs hf => ?_, ?_, fun i l hl => ?_, ?_⟩
  · simp only at hf
    by_cases hpl : p < M.s.procs.length
    · rw [List.getElem?_append_left hpl] at hf
      have hne : p ≠ M.s.procs.length := by omega
      exact (h.proc p fs hf).congr (hoff _ (by simp) (by simp) (by simp [hne]) (by simp) (by simp) (by simp)) fun i => ⟨hoff _ (by simp) (by simp) (by simp) (by simp [hne]) (by simp) (by simp), hoff _ (by simp) (by simp) (by simp) (by simp) (by simp [hne]) (by simp), hoff _ (by simp) (by simp) (by simp) (by simp) (by simp) (by simp [hne])⟩
    · rw [List.getElem?_append_right (by omega)] at hf
      have h0 : p - M.s.procs.length = 0 := by
        by_cases h0 : p - M.s.procs.length = 0
        · exact h0
        · rw [List.getElem?_eq_none (by simp; omega)] at hf; cases hf
      rw [h0] at hf; simp at hf; subst hf
      have : p = M.s.procs.length := by omega
      subst this; exact hP
  · rw [hoff _ (by simp) (by simp) (by simp) (by simp) (by simp) (by simp)]
    have := h.chs
    refine ⟨this.1, this.2.trans (List.map_congr_left fun q _ => by rw [hoff _ (by simp) (by simp) (by simp) (by simp) (by simp) (by simp)])⟩
  · rw [hoff _ (by simp) (by simp) (by simp) (by simp) (by simp) (by simp)]; exact h.chan i l hl
  · rw [hoff _ (by simp) (by simp) (by simp) (by simp) (by simp) (by simp)]; exact h.evs

/-- what the walks look at: the cells on the way to the innermost frame -/
theorem Lay.cell_procs (h : Lay ρ k vF M) : (ρ (.root k)).xs[2]? = some (ρ (.procs k)).v := by rw [h.root.2]; rfl
theorem Lay.cell_proc (h : Lay ρ k vF M) : (ρ (.root k)).xs[5]? = some (iV M.proc) := by rw [h.root.2]; rfl
theorem Lay.cell_frames (h : Lay ρ k vF M) (hp : p < M.s.procs.length) : (ρ (.procs k)).xs[p]? = some (ρ (.frames k p)).v := by
  rw [h.procs.2, List.getElem?_map, List.getElem?_range hp]; rfl
theorem Lay.top_frame (h : Lay ρ k vF (M.at_ l f)) (hlt : M.proc < M.s.procs.length) : PrLay ρ k M.proc (l ++ [f]) := h.proc _ _ (at_procs hlt)
theorem Lay.top_xs (h : Lay ρ k vF (M.at_ l f)) (hlt : M.proc < M.s.procs.length) : (ρ (.frames k M.proc)).xs = frC ρ k M.proc 0 l ++ frame5 ρ k M.proc l.length f := by
  rw [(h.top_frame hlt).row.2, frC_snoc]
theorem Lay.top_n (h : Lay ρ k vF (M.at_ l f)) (hlt : M.proc < M.s.procs.length) : (ρ (.frames k M.proc)).n = l.length + 1 := by
  rw [(h.top_frame hlt).row.1]; simp
theorem Lay.top_cell (h : Lay ρ k vF (M.at_ l f)) (hlt : M.proc < M.s.procs.length) (j : Nat) : (ρ (.frames k M.proc)).xs[l.length * 5 + j]? = (frame5 ρ k M.proc l.length f)[j]? := by
  rw [h.top_xs hlt, List.getElem?_append_right (by rw [frC_length]; omega), frC_length]
  congr 1; omega
theorem Lay.top_own (h : Lay ρ k vF (M.at_ l f)) (hlt : M.proc < M.s.procs.length) : FrLay ρ k M.proc l.length f := (h.top_frame hlt).fr l.length f (by simp)
/-- cells of the innermost frame laid anew -/
theorem puts_top {xs : List Value} {c5 vs c5' : List Value} {l j : Nat} (hx : xs.length = l * 5) (hc : c5' = puts c5 j vs) : puts (xs ++ c5) (l * 5 + j) vs = xs ++ c5' := by
  rw [hc]
  unfold puts
  have e1 : l * 5 + j = xs.length + j := by omega
  have e2 : l * 5 + j + vs.length = xs.length + (j + vs.length) := by omega
  rw [e2, e1, List.take_append, List.take_of_length_le (by omega : xs.length ≤ xs.length + j), List.drop_append, List.drop_of_length_le (by omega : xs.length ≤ xs.length + (j + vs.length))]
  simp [List.append_assoc]
end
end Go.Proofs.YtmhoefpienagkaaDoor
end

/- The tables of functions of the program: what lies in their cells. -/
namespace Go.Proofs.YtmhoefpienagkaaDoor
def fnV (n : Nat) : Value := .func (.func n) #[] #[]
def instrTab : List (Addr × Value) := [(⟨1, 0, none⟩, fnV 109), (⟨1, 1, none⟩, fnV 110), (⟨1, 2, none⟩, fnV 111), (⟨1, 3, none⟩, fnV 112), (⟨1, 4, none⟩, fnV 113), (⟨1, 5, none⟩, fnV 114), (⟨1, 6, none⟩, fnV 115), (⟨1, 7, none⟩, fnV 116), (⟨1, 8, none⟩, fnV 117), (⟨1, 9, none⟩, fnV 118), (⟨1, 10, none⟩, fnV 119), (⟨1, 11, none⟩, fnV 120), (⟨1, 12, none⟩, fnV 121), (⟨1, 13, none⟩, fnV 122), (⟨1, 14, none⟩, fnV 123), (⟨1, 15, none⟩, fnV 124), (⟨1, 16, none⟩, fnV 125), (⟨1, 17, none⟩, fnV 126), (⟨1, 18, none⟩, fnV 127)]
def opTab : List (Addr × Value) := [(⟨3, 0, none⟩, fnV 132), (⟨3, 1, none⟩, .bool false), (⟨3, 2, none⟩, .bool false), (⟨3, 3, none⟩, fnV 133), (⟨3, 4, none⟩, .bool false), (⟨3, 5, none⟩, .bool false), (⟨3, 6, none⟩, fnV 134), (⟨3, 7, none⟩, .bool false), (⟨3, 8, none⟩, .bool false), (⟨3, 9, none⟩, fnV 135), (⟨3, 10, none⟩, .bool true), (⟨3, 11, none⟩, .bool false), (⟨3, 12, none⟩, fnV 136), (⟨3, 13, none⟩, .bool true), (⟨3, 14, none⟩, .bool false), (⟨3, 15, none⟩, fnV 137), (⟨3, 16, none⟩, .bool false), (⟨3, 17, none⟩, .bool false), (⟨3, 18, none⟩, fnV 138), (⟨3, 19, none⟩, .bool false), (⟨3, 20, none⟩, .bool false), (⟨3, 21, none⟩, fnV 139), (⟨3, 22, none⟩, .bool false), (⟨3, 23, none⟩, .bool false), (⟨3, 24, none⟩, fnV 140), (⟨3, 25, none⟩, .bool false), (⟨3, 26, none⟩, .bool false), (⟨3, 27, none⟩, fnV 142), (⟨3, 28, none⟩, .bool false), (⟨3, 29, none⟩, .bool false), (⟨3, 30, none⟩, fnV 143), (⟨3, 31, none⟩, .bool false), (⟨3, 32, none⟩, .bool true), (⟨3, 33, none⟩, fnV 145), (⟨3, 34, none⟩, .bool false), (⟨3, 35, none⟩, .bool true), (⟨3, 36, none⟩, fnV 146), (⟨3, 37, none⟩, .bool false), (⟨3, 38, none⟩, .bool true), (⟨3, 39, none⟩, fnV 147), (⟨3, 40, none⟩, .bool false), (⟨3, 41, none⟩, .bool true)]
def globs : List (Addr × Value) := instrTab ++ opTab
end Go.Proofs.YtmhoefpienagkaaDoor

/- Abstract values of the seat's own interpreter, and how a value of the model reads as one. -/
namespace Go.Proofs.YtmhoefpienagkaaDoor
open Go.RowKit

/-- undef: nothing is known; sc: this very value; row: a slice (its name if it may be appended to, the cells of an element, its length, its cells); mt: a slice of length and capacity 0; agg: a struct's cells; tup: a call's results;
ptr: the address of a cell of a local variable; rptr: the address of cells that stay as they are. -/
inductive AV where
  | undef
  | sc (v : Value)
  | row (tok : Option (Nat × Nat)) (size n : Nat) (xs : List AV)
  | mt
  | agg (xs : List AV)
  | tup (xs : List AV)
  | ptr (d off : Nat)
  | rptr (xs : List AV)
  deriving Inhabited

mutual
def V (pr : Nat → Nat → Prop) (w : World) (c : Value) : AV → Prop
  | .undef => True
  | .sc v => c = v
  | .row _ size n xs => ∃ A cap, c = .slice A n cap ∧ n ≤ cap ∧ cap ≤ maxLen ∧ xs.length = n * size ∧ (0 < n → ∃ b o, A = some ⟨b, o, none⟩ ∧ VC pr w b o xs)
  | .mt => ∃ A, c = .slice A 0 0
  | .agg xs => ∃ cs : List Value, c = .agg cs.toArray ∧ (∀ u ∈ cs, u.oneCell' = true) ∧ VL pr w cs xs
  | .tup xs => ∃ cs : List Value, c = .tuple cs.toArray ∧ VL pr w cs xs
  | .ptr _ _ => False
  | .rptr xs => ∃ b o, c = .pointer (some ⟨b, o, none⟩) ∧ VC pr w b o xs
def VL (pr : Nat → Nat → Prop) (w : World) (cs : List Value) : List AV → Prop
  | [] => cs = []
  | x :: xs => ∃ c cs', cs = c :: cs' ∧ V pr w c x ∧ VL pr w cs' xs
def VC (pr : Nat → Nat → Prop) (w : World) (b i : Nat) : List AV → Prop
  | [] => True
  | x :: xs => (∃ u, w.cell? ⟨b, i, none⟩ = some u ∧ pr b i ∧ u.oneCell' = true ∧ V pr w u x) ∧ VC pr w b (i + 1) xs
end

section
variable {pr pr' : Nat → Nat → Prop} {w w' : World} (h : ∀ b i u, pr b i → w.cell? ⟨b, i, none⟩ = some u → pr' b i ∧ w'.cell? ⟨b, i, none⟩ = some u)
include h
mutual
theorem V.mono : ∀ (x : AV) {c : Value}, V pr w c x → V pr' w' c x
  | .undef, _, _ => have _ := h; trivial
  | .sc _, _, hv => hv
  | .row _ _ _ xs, _, ⟨A, cap, e, h1, h2, h3, h4⟩ => ⟨A, cap, e, h1, h2, h3, fun hn => let ⟨b, o, e, hc⟩ := h4 hn; ⟨b, o, e, VC.mono xs hc⟩⟩
  | .mt, _, hv => hv
  | .agg xs, _, ⟨cs, e, h1, hv⟩ => ⟨cs, e, h1, VL.mono xs hv⟩
  | .tup xs, _, ⟨cs, e, hv⟩ => ⟨cs, e, VL.mono xs hv⟩
  | .ptr _ _, _, hv => hv
  | .rptr xs, _, ⟨b, o, e, hc⟩ => ⟨b, o, e, VC.mono xs hc⟩
theorem VL.mono : ∀ (xs : List AV) {cs : List Value}, VL pr w cs xs → VL pr' w' cs xs
  | [], _, hv => have _ := h; hv
  | x :: xs, _, ⟨c, cs, e, h1, h2⟩ => ⟨c, cs, e, V.mono x h1, VL.mono xs h2⟩
theorem VC.mono : ∀ (xs : List AV) {b i : Nat}, VC pr w b i xs → VC pr' w' b i xs
  | [], _, _, _ => trivial
  | x :: xs, b, i, ⟨⟨u, h1, h2, h3, h4⟩, h5⟩ => ⟨⟨u, (h b i u h2 h1).2, (h b i u h2 h1).1, h3, V.mono x h4⟩, VC.mono xs h5⟩
end
end

section
variable {pr : Nat → Nat → Prop} {w : World}
theorem VL.length : ∀ {xs : List AV} {cs : List Value}, VL pr w cs xs → cs.length = xs.length
  | [], _, h => by simp only [VL] at h; subst h; rfl
  | x :: xs, _, h => by simp only [VL] at h; obtain ⟨c, cs', rfl, _, h2⟩ := h; simp [VL.length h2]
theorem VL.at_ : ∀ {xs : List AV} {cs : List Value} {i : Nat} {x : AV}, VL pr w cs xs → xs[i]? = some x → ∃ c, cs[i]? = some c ∧ V pr w c x
  | [], _, _, _, _, hx => by simp at hx
  | y :: xs, _, 0, x, h, hx => by
    simp only [VL] at h; obtain ⟨c, cs', rfl, h1, h2⟩ := h
    simp at hx; subst hx; exact ⟨c, rfl, h1⟩
  | y :: xs, _, i + 1, x, h, hx => by
    simp only [VL] at h; obtain ⟨c, cs', rfl, h1, h2⟩ := h
    have := VL.at_ h2 (i := i) (x := x) (by simpa using hx)
    simpa using this
theorem VC.at_ : ∀ {xs : List AV} {b o i : Nat} {x : AV}, VC pr w b o xs → xs[i]? = some x → ∃ u, w.cell? ⟨b, o + i, none⟩ = some u ∧ pr b (o + i) ∧ u.oneCell' = true ∧ V pr w u x
  | [], _, _, _, _, _, hx => by simp at hx
  | y :: xs, _, o, 0, x, h, hx => by
    simp only [VC] at h
    simp at hx; subst hx; exact h.1
  | y :: xs, b, o, i + 1, x, h, hx => by
    simp only [VC] at h
    have := VC.at_ h.2 (i := i) (x := x) (by simpa using hx)
    rw [show o + (i + 1) = o + 1 + i by omega]; exact this
theorem VC.of_at : ∀ {xs : List AV} {b o : Nat}, (∀ i x, xs[i]? = some x → ∃ u, w.cell? ⟨b, o + i, none⟩ = some u ∧ pr b (o + i) ∧ u.oneCell' = true ∧ V pr w u x) → VC pr w b o xs
  | [], _, _, _ => trivial
  | x :: xs, b, o, h => by
    refine ⟨h 0 x rfl, VC.of_at fun i y hy => ?_⟩
    have := h (i + 1) y (by simpa using hy)
    rw [show o + (i + 1) = o + 1 + i by omega] at this; exact this
theorem VC.drop {xs : List AV} {b o : Nat} (h : VC pr w b o xs) (k : Nat) : VC pr w b (o + k) (xs.drop k) :=
  VC.of_at fun i x hx => by
    rw [List.getElem?_drop] at hx
    rw [Nat.add_assoc]; exact h.at_ hx
theorem VC.take {xs : List AV} {b o : Nat} (h : VC pr w b o xs) (k : Nat) : VC pr w b o (xs.take k) :=
  VC.of_at fun i x hx => by
    rw [List.getElem?_take] at hx
    split at hx
    · exact h.at_ hx
    · cases hx
theorem VL.of_at : ∀ {xs : List AV} {cs : List Value}, cs.length = xs.length → (∀ (i : Nat) (x : AV) (c : Value), xs[i]? = some x → cs[i]? = some c → V pr w c x) → VL pr w cs xs
  | [], cs, hl, _ => by simpa [VL] using hl
  | x :: xs, [], hl, _ => by simp at hl
  | x :: xs, c :: cs, hl, h => ⟨c, cs, rfl, h 0 x c rfl rfl, VL.of_at (by simpa using hl) fun i x c hx hc => h (i + 1) x c (by simpa using hx) (by simpa using hc)⟩
theorem VL.append : ∀ {xs ys : List AV} {cs ds : List Value}, VL pr w cs xs → VL pr w ds ys → VL pr w (cs ++ ds) (xs ++ ys)
  | [], _, _, _, h, h' => by simp only [VL] at h; subst h; simpa using h'
  | x :: xs, _, _, _, h, h' => by simp only [VL] at h; obtain ⟨c, cs', rfl, h1, h2⟩ := h; exact ⟨c, _, rfl, h1, VL.append h2 h'⟩
end

/-- the cells' values, if all are known -/
def allVals : List AV → Option (List Value)
  | [] => some []
  | .sc v :: xs => (allVals xs).map (v :: ·)
  | _ :: _ => none
/-- a struct of these cells -/
def mkAgg (xs : List AV) : AV := match allVals xs with | some vs => .sc (.agg vs.toArray) | none => .agg xs
/-- the cells of a value -/
def cellsOf : AV → List AV
  | .sc v => v.cells.toList.map .sc
  | .agg xs => xs
  | x => [x]
/-- without the right to append -/
def plain1 : AV → AV
  | .row _ s n xs => .row none s n xs
  | .ptr _ _ => .undef
  | .tup _ => .undef
  | x => x
def plain : AV → AV
  | .tup xs => .tup (xs.map plain1)
  | x => plain1 x

section
variable {pr : Nat → Nat → Prop} {w : World}
theorem VL_sc : ∀ {vs cs : List Value}, VL pr w cs (vs.map .sc) ↔ cs = vs
  | [], cs => by simp [VL]
  | v :: vs, cs => by
    simp only [List.map_cons, VL, VL_sc, V]
    constructor
    · rintro ⟨c, cs', rfl, rfl, rfl⟩; rfl
    · rintro rfl; exact ⟨v, vs, rfl, rfl, rfl⟩
theorem allVals_sc : ∀ {xs : List AV} {vs : List Value}, allVals xs = some vs → xs = vs.map .sc
  | [], vs, h => by simp [allVals] at h; subst h; rfl
  | .sc v :: xs, vs, h => by
    simp only [allVals, Option.map_eq_some_iff] at h
    obtain ⟨us, h, rfl⟩ := h
    rw [allVals_sc h]; rfl
  | .undef :: _, _, h => by simp [allVals] at h
  | .row .. :: _, _, h => by simp [allVals] at h
  | .mt :: _, _, h => by simp [allVals] at h
  | .agg _ :: _, _, h => by simp [allVals] at h
  | .tup _ :: _, _, h => by simp [allVals] at h
  | .ptr .. :: _, _, h => by simp [allVals] at h
  | .rptr _ :: _, _, h => by simp [allVals] at h
theorem V_mkAgg {xs : List AV} {cs : List Value} (h1 : ∀ u ∈ cs, u.oneCell' = true) (h : VL pr w cs xs) : V pr w (.agg cs.toArray) (mkAgg xs) := by
  unfold mkAgg
  split
  · rename_i vs hv
    rw [allVals_sc hv, VL_sc] at h
    subst h; simp [V]
  · exact ⟨cs, rfl, h1, h⟩
theorem V_plain1 {c : Value} : ∀ {x : AV}, V pr w c x → V pr w c (plain1 x)
  | .undef, h => h
  | .sc _, h => h
  | .row .., h => by simpa only [plain1, V] using h
  | .mt, h => h
  | .agg _, h => h
  | .tup _, h => trivial
  | .ptr .., h => trivial
  | .rptr _, h => h
theorem VL_plain1 : ∀ {xs : List AV} {cs : List Value}, VL pr w cs xs → VL pr w cs (xs.map plain1)
  | [], _, h => h
  | x :: xs, _, h => by simp only [VL] at h; obtain ⟨c, cs', rfl, h1, h2⟩ := h; exact ⟨c, cs', rfl, V_plain1 h1, VL_plain1 h2⟩
end
/-- tables of functions lie in memory as the program's start laid them -/
def GlobAt (B : Nat) (w : World) : Prop := ∀ p ∈ globs, w.cell? p.1 = some p.2 ∧ p.1.block < B
abbrev Glob (w : World) : Prop := GlobAt w.heap.size w
theorem GlobAt.below {B : Nat} {w w' : World} (h : GlobAt B w) (hb : Below B w w') : GlobAt B w' := fun p hp => ⟨(hb.cell (h p hp).2).trans (h p hp).1, (h p hp).2⟩
theorem GlobAt.mono {B B' : Nat} {w : World} (h : GlobAt B w) (hb : B ≤ B') : GlobAt B' w := fun p hp => ⟨(h p hp).1, Nat.lt_of_lt_of_le (h p hp).2 hb⟩
structure Res where
  v : AV
  own : Option Nat
def OwnRow (B : Nat) (pr : Nat → Nat → Prop) (w : World) (e : Nat) (c : Value) : AV → Prop
  | .row _ size n _ => (∃ A, c = .slice A 0 0 ∧ n = 0) ∨ ∃ us, w.ownsRow B e size c n us ∧ ∀ g, c.ownBlock = some g → ∀ i, pr g i → i < n * size
  | _ => True
def OwnRes (B : Nat) (pr : Nat → Nat → Prop) (w : World) (e : Nat) (c : Value) : AV → Prop
  | .tup (x :: _) => ∀ c0 cs, c = .tuple (c0 :: cs).toArray → OwnRow B pr w e c0 x
  | x => OwnRow B pr w e c x
/-- the function may be entered -/
def Enters (P : Program) (f : Nat) : Prop := ∃ fn, P.funcs[f]? = some fn ∧ (fn.name == "runtime.NumGoroutine") = false ∧ fn.body.isNone = false
/-- THE CONTRACT: at all arguments that read as args, it answers what reads as r; older memory stays as it is. -/
def Ok (P : Program) (f : Nat) (args : List AV) (r : Res) : Prop :=
  Enters P f ∧ ∀ (w : World) (pr : Nat → Nat → Prop) (cs : List Value), Glob w → (∀ b i, pr b i → b < w.heap.size) → VL pr w cs args →
    Calls P f cs.toArray w fun e w' => ∃ c pr', e = .returned c ∧ Below w.heap.size w w' ∧ (∀ b i, pr' b i → b < w'.heap.size) ∧ (∀ b i, b < w.heap.size → pr' b i → pr b i) ∧ V pr' w' c r.v ∧
      ∀ e, r.own = some e → OwnRes w.heap.size pr' w' e c r.v
end Go.Proofs.YtmhoefpienagkaaDoor

/- The seat's own interpreter: runs a function's code on abstract values. -/
namespace Go.Proofs.YtmhoefpienagkaaDoor
open Go.RowKit

/-- the value of a computation that asks nothing of memory -/
def peek (P : Program) {α : Type} : Sem α → Option α
  | .pure a => some a
  | .program k => peek P (k P)
  | _ => none
theorem peek_run {P : Program} {α : Type} : ∀ {m : Sem α} {a : α}, peek P m = some a → ∀ w, m.run P w = .ok a w
  | .pure a, b, h, w => by simp [peek] at h; subst h; rfl
  | .program k, b, h, w => by simp only [peek] at h; exact peek_run h w
  | .load .., _, h, _ | .store .., _, h, _ | .new .., _, h, _ | .shape .., _, h, _ | .freeze .., _, h, _ | .frozen .., _, h, _ | .getObj .., _, h, _
  | .setObj .., _, h, _ | .choose .., _, h, _ | .sys .., _, h, _ | .mark .., _, h, _ | .halt .., _, h, _ => by simp [peek] at h

def look {α : Type} : List (Nat × α) → Nat → Option α
  | [], _ => none
  | (k, v) :: l, t => match Nat.beq k t with | true => some v | false => look l t

structure St where
  n : Nat
  slots : List (Nat × AV)
  objs : List (Nat × (Nat × List AV))
  lens : List (Nat × Nat)
  log : List Prop := []

def St.eval (s : St) : Operand → AV
  | .tmp t => (look s.slots t).getD .undef
  | .const v => .sc v
  | .func f => .sc (.func (.func f) #[] #[])
  | .global _ => .undef

inductive Cmd where
  | val (v : AV)
  | load (d off n : Nat) (isAgg : Bool)
  | store (d off : Nat) (xs : List AV)
  | box (ty : Nat) (xs : List AV)
  | fresh (e size n : Nat) (xs : List AV)
  | grow (d e size n : Nat) (xs : List AV) (m : Nat) (ys : List AV)
  | ret (r : Res) (need : Prop)

/-- answers from outside: of calls, and of operations whose answer is proved beside -/
structure Orc where
  call : Option Nat → Nat → List AV → Option Res
  hint : Option Nat → Option Cmd := fun _ => none

def takeN : Nat → List AV → Option (List AV)
  | 0, _ => some []
  | n + 1, x :: xs => (takeN n xs).map (x :: ·)
  | _ + 1, [] => none
def setAt (xs : List AV) (off : Nat) : List AV → List AV
  | [] => xs
  | y :: ys => setAt (xs.set off y) (off + 1) ys
/-- the cells of a value that may be laid into memory -/
def cells? : AV → Option (List AV)
  | .sc v => match v.cells.toList.all (·.oneCell') with | true => some (v.cells.toList.map .sc) | false => none
  | .agg xs => some (xs.map plain1)
  | .undef | .tup _ => none
  | x => some [x]
def fillA (place : Nat → Option (Nat × Nat)) (xs : List AV) : List (Nat × AV) → Option (List AV)
  | [] => some xs
  | (i, v) :: rest =>
    match place i, cells? v with
    | some (off, size), some ys => if ys.length = size ∧ off + size ≤ xs.length then fillA place (setAt xs off ys) rest else none
    | _, _ => none

section
variable (P : Program)
def isAggT (t : TypeId) : Option Bool := match P.underlying t with
  | some (.struct _) | some (.array _ _) => some true
  | some _ => some false
  | none => none
def szT (t : TypeId) : Option Nat := (P.info? t).map (·.size)
def fieldT (t : TypeId) (k : Nat) : Option Field := match P.underlying t with
  | some (.struct fs) => fs[k]?
  | _ => none
def elemT (t : TypeId) : Option TypeId := match P.underlying t with
  | some (.slice e) => some e
  | _ => none
def zeroT (t : TypeId) : Option (List AV) := ((P.info? t).bind (·.zero)).bind fun z => cells? (.sc z)

def cmdAlloc (e : TypeId) : Option Cmd := (zeroT P e).map fun xs => .box e xs
def cmdBox (e : TypeId) (x : AV) : Option Cmd := (cells? x).map fun xs => .box e xs
def placesT (fs : List Field) : List (Nat × Nat) := fs.map fun f => (f.offset, (szT P f.type).getD 0)
def knownT (fs : List Field) : Bool := fs.all fun f => (szT P f.type).isSome
def cmdBuild (t : TypeId) (parts : List (Nat × AV)) : Option Cmd :=
  match zeroT P t, P.underlying t with
  | some z, some (.struct fs) =>
    match knownT P fs.toList with
    | true => (fillA (fun i => (placesT P fs.toList)[i]?) z parts).map fun xs => .val (mkAgg xs)
    | false => none
  | _, _ => none
def cmdBuildSlice (t : TypeId) (len : Nat) (parts : List (Nat × AV)) : Option Cmd :=
  match elemT P t with
  | some e =>
    match szT P e, zeroT P e with
    | some size, some z =>
      if 0 < size ∧ z.length = size ∧ len * size ≤ 2 ^ 24 then
        (fillA (fun i => some (i * size, size)) (List.replicate (len * size) .undef) parts).map fun xs => .fresh e size len xs
      else none
    | _, _ => none
  | none => none
def cmdLoad (t : TypeId) (x : AV) : Option Cmd :=
  match isAggT P t, szT P t, x with
  | some true, some n, .ptr d off => some (.load d off n true)
  | some false, _, .ptr d off => some (.load d off 1 false)
  | some true, some n, .rptr xs => (takeN n xs).map fun ys => .val (mkAgg ys)
  | some false, _, .rptr (y :: _) => some (.val (plain1 y))
  | _, _, _ => none
def cmdStore (t : TypeId) (x v : AV) : Option Cmd :=
  match szT P t, x, cells? v with
  | some n, .ptr d off, some ys => match Nat.beq n ys.length with | true => some (.store d off ys) | false => none
  | _, _, _ => none
def cmdFieldAddr (t : TypeId) (x : AV) (k : Nat) : Option Cmd :=
  match fieldT P t k with
  | some f =>
    match (szT P f.type).any (0 < ·), x with
    | true, .ptr d off => some (.val (.ptr d (off + f.offset)))
    | true, .rptr xs => some (.val (.rptr (xs.drop f.offset)))
    | _, _ => none
  | none => none
def cmdField (t : TypeId) (x : AV) (k : Nat) : Option Cmd :=
  match x, fieldT P t k with
  | .sc v, _ => (peek P (Instr.field t v k)).map fun v => .val (.sc v)
  | .agg xs, some f =>
    match isAggT P f.type, szT P f.type, xs.drop f.offset with
    | some true, some n, ys => (takeN n ys).map fun ys => .val (mkAgg ys)
    | some false, _, y :: _ => some (.val (plain1 y))
    | _, _, _ => none
  | _, _ => none
def arrT (t : TypeId) : Option (Nat × Nat) := match P.underlying t with
  | some (.array len e) => (szT P e).map fun size => (len, size)
  | _ => none
def cmdIndexAddr (t : TypeId) (x i : AV) : Option Cmd :=
  match x, i, (elemT P t).bind (szT P) with
  | .row _ size n xs, .sc (.int _ i), some size' => if size' = size ∧ 0 ≤ i ∧ i < n then some (.val (.rptr (xs.drop (i.toNat * size)))) else none
  | .ptr d off, .sc (.int _ i), _ => match arrT P t with
    | some (len, size) => if 0 ≤ i ∧ i < len then some (.val (.ptr d (off + i.toNat * size))) else none
    | none => none
  | _, _, _ => none
def boundOf : Option AV → Nat → Option Nat
  | none, d => some d
  | some (.sc (.int _ i)), _ => if 0 ≤ i then some i.toNat else none
  | _, _ => none
def rowOf (size : Nat) : AV → Option (Nat × List AV)
  | .row _ size' n xs => if size' = size then some (n, xs) else none
  | .mt => some (0, [])
  | .sc (.slice none 0 0) => some (0, [])
  | _ => none
def cmdSlice (t : TypeId) (x : AV) (lo hi mx : Option AV) : Option Cmd :=
  match (elemT P t).bind (szT P) with
  | some size => match rowOf size x with
    | some (n, xs) =>
      match boundOf lo 0, boundOf hi n, mx with
      | some l, some h, none => if l ≤ h ∧ h ≤ n then some (.val (.row none size (h - l) ((xs.drop (l * size)).take ((h - l) * size)))) else none
      | some l, some h, some mx =>
        match boundOf (some mx) 0 with
        | some m => if l ≤ h ∧ h ≤ m ∧ m ≤ n ∧ hi.isSome then some (.val (if m = l then .mt else .row none size (h - l) ((xs.drop (l * size)).take ((h - l) * size)))) else none
        | none => none
      | _, _, _ => none
    | none => none
  | none => none
def cmdLen (t : TypeId) (ty : TypeId) (x : AV) : Option Cmd :=
  match x with
  | .sc v => (peek P (Builtin.len_ #[t] ty #[v])).map fun v => .val (.sc v)
  | .row _ _ n _ => (elemT P t).map fun _ => .val (.sc (.int .i64 n))
  | .mt => (elemT P t).map fun _ => .val (.sc (.int .i64 0))
  | _ => none
def fits (n m bytes : Nat) : Bool := Nat.ble (n + m) maxLen && Nat.ble ((n + m) * bytes) 140737488355328
def cmdAppend (t t' : TypeId) (s x : AV) : Option Cmd :=
  match Nat.beq t t', elemT P t with
  | true, some e =>
    match P.info? e, zeroT P e with
    | some i, some z =>
      match rowOf i.size x, s with
      | some (m, ys), .row (some (d, e')) size n xs =>
        if e' = e ∧ size = i.size ∧ 0 < size ∧ z.length = size ∧ fits n m i.bytes then some (.grow d e size n xs m ys) else none
      | some (m, ys), .mt => if 0 < i.size ∧ z.length = i.size ∧ fits 0 m i.bytes then some (.fresh e i.size m ys) else none
      | some (m, ys), .sc (.slice none 0 0) => if 0 < i.size ∧ z.length = i.size ∧ fits 0 m i.bytes then some (.fresh e i.size m ys) else none
      | _, _ => none
    | _, _ => none
  | _, _ => none
def scs : List AV → Option (List Value) := allVals
def cmdBuiltin (b : Builtin) (xs : List AV) (ts : List TypeId) (ty : TypeId) : Option Cmd :=
  match b, xs, ts with
  | .len, [x], [t] => cmdLen P t ty x
  | .append, [s, x], [t, t'] => cmdAppend P t t' s x
  | .min, xs, ts => (scs xs).bind fun vs => (peek P (Builtin.min_ ts.toArray ty vs.toArray)).map fun v => .val (.sc v)
  | .max, xs, ts => (scs xs).bind fun vs => (peek P (Builtin.max_ ts.toArray ty vs.toArray)).map fun v => .val (.sc v)
  | _, _, _ => none
def cmdValue (call : Nat → List AV → Option Res) (f : AV) (xs : List AV) : Option Cmd :=
  match f with
  | .sc (.func (.func g) fst cap) => match fst.toList, cap.toList with
    | [], [] => (call g (xs.map plain)).map fun r => .ret r (Ok P g (xs.map plain) r)
    | _, _ => none
  | _ => none
def cmdCall (call : Nat → List AV → Option Res) (c : Call) (ty : TypeId) (ev : Operand → AV) : Option Cmd :=
  match c.callee with
  | .builtin b => cmdBuiltin P b (c.args.toList.map ev) c.argTypes.toList ty
  | .value f => cmdValue P call (ev f) (c.args.toList.map ev)
  | _ => none
def cmdOf (call : Orc) (ev : Operand → AV) (o : Oper) : Option Cmd :=
  match o.op with
  | .move x | .assign x => some (.val (ev x))
  | .pick c a b => match ev c with
    | .sc (.bool c) => some (.val (match c with | true => ev a | false => ev b))
    | _ => none
  | .alloc e => cmdAlloc P e
  | .box e x => cmdBox e (ev x)
  | .build t ps => cmdBuild P t (ps.toList.map fun p => (p.1, plain (ev p.2)))
  | .buildSlice t len ps => cmdBuildSlice P t len (ps.toList.map fun p => (p.1, plain (ev p.2)))
  | .load t x => cmdLoad P t (ev x)
  | .store t x v => cmdStore P t (ev x) (ev v)
  | .fieldAddr t x k => cmdFieldAddr P t (ev x) k
  | .field t x k => cmdField P t (ev x) k
  | .indexAddr t x i => cmdIndexAddr P t (ev x) (ev i)
  | .slice t x lo hi mx => cmdSlice P t (ev x) (lo.map ev) (hi.map ev) (mx.map ev)
  | .extract x i => match ev x with
    | .tup xs => match xs[i]? with
      | some (.tup _) => none
      | some x => some (.val x)
      | none => none
    | _ => none
  | .binOp op t x y _ => match ev x, ev y with
    | .sc a, .sc b => (peek P (do eqGuard op t x y a b; binOp op t a b)).map fun v => .val (.sc v)
    | _, _ => none
  | .unOp op _ x => match ev x with
    | .sc a => (peek P (Op.unary op a)).map fun v => .val (.sc v)
    | _ => none
  | .convert src dst x => match ev x with
    | .sc a => (peek P (convert src dst a)).map fun v => .val (.sc v)
    | _ => none
  | .call c => cmdCall P (call.call o.dst) c o.type ev
  | _ => none
end

/-- does the name stand in the value? -/
def ment1 (d : Nat) : AV → Bool
  | .row (some (n, _)) _ _ _ => Nat.beq n d
  | .ptr n _ => Nat.beq n d
  | _ => false
def ment (d : Nat) : AV → Bool
  | .tup xs => xs.any (ment1 d)
  | x => ment1 d x
def St.absent (s : St) (d : Nat) : Bool :=
  s.slots.all (fun p => !ment d p.2) && s.objs.all (fun p => !Nat.beq p.1 d && p.2.2.all fun x => !ment d x) && s.lens.all fun p => !Nat.beq p.1 d
def avoids (F : List Nat) (x : AV) : Bool := F.all fun d => !ment d x
def avoidsN (F : List Nat) (n : Nat) : Bool := F.all fun d => !Nat.beq n d

def St.put (s : St) (dst : Option Nat) (v : AV) : Option St :=
  match dst with
  | none => some s
  | some d => match Nat.blt d s.n with | true => some { s with slots := (d, v) :: s.slots } | false => none
def tag (d e : Nat) : AV → AV
  | .row _ size n xs => .row (some (d, e)) size n xs
  | .tup (.row _ size n xs :: rest) => .tup (.row (some (d, e)) size n xs :: rest)
  | x => x
def lenOf : AV → Option Nat
  | .row _ size n _ => some (n * size)
  | .tup (.row _ size n _ :: _) => some (n * size)
  | _ => none
def St.apply (F : List Nat) (s : St) (dst : Option Nat) : Cmd → Option St
  | .val v => match avoids F v with | true => s.put dst v | false => none
  | .load d off n isAgg => match look s.objs d, avoidsN F d with
    | some (_, xs), true => match isAgg with
      | true => (takeN n (xs.drop off)).bind fun ys => match avoids F (mkAgg (ys.map plain1)) with | true => s.put dst (mkAgg (ys.map plain1)) | false => none
      | false => match xs.drop off with
        | y :: _ => match avoids F y with | true => s.put dst y | false => none
        | [] => none
    | _, _ => none
  | .store d off ys => match look s.objs d, avoidsN F d, ys.all (avoids F) with
    | some (ty, xs), true, true => match Nat.ble (off + ys.length) xs.length, dst, xs.all (avoids F) with
      | true, none, true => some { s with objs := (d, (ty, xs.take off ++ ys ++ xs.drop (off + ys.length))) :: s.objs }
      | _, _, _ => none
    | _, _, _ => none
  | .box ty xs => match dst, xs.all (avoids F) with
    | some d, true => match s.absent d, avoidsN F d, Nat.blt d s.n with
      | true, true, true => some { s with slots := (d, .ptr d 0) :: s.slots, objs := (d, (ty, xs)) :: s.objs }
      | _, _, _ => none
    | _, _ => none
  | .fresh e size n xs => match dst with
    | some d => match s.absent d, avoidsN F d, Nat.blt d s.n with
      | true, true, true => some { s with slots := (d, .row (some (d, e)) size n xs) :: s.slots, lens := (d, n * size) :: s.lens }
      | _, _, _ => none
    | none => none
  | .grow d e size n xs m ys => match look s.lens d, avoidsN F d, dst with
    | some len, true, some t => match Nat.blt t s.n with
      | true => some { s with slots := (t, .row (some (d, e)) size (n + m) (xs ++ ys)) :: s.slots, lens := (d, (n + m) * size) :: s.lens, log := (len = n * size) :: s.log }
      | false => none
    | _, _, _ => none
  | .ret r need => match r.own, dst with
    | some e, some d => match lenOf r.v, s.absent d, avoidsN F d, Nat.blt d s.n with
      | some len, true, true, true => some { s with slots := (d, tag d e (plain r.v)) :: s.slots, lens := (d, len) :: s.lens, log := need :: s.log }
      | _, _, _, _ => none
    | _, _ => St.put { s with log := need :: s.log } dst (plain r.v)

inductive Out where
  | go (s : St)
  | exit (id : Nat) (s : St)
  | ret (s : St)

section
variable (P : Program) (call : Orc)
def wants (ops : Array Oper) (s : St) (o : Oper) : Option Bool :=
  match o.guard with
  | none => some true
  | some (j, want) => match (ops[j]?).bind (·.dst) with
    | some t => match look s.slots t with
      | some (.sc (.bool b)) => some (b == want)
      | some (.sc _) => some false
      | _ => none
    | none => none
def stepOp (ops : Array Oper) (F : List Nat) (o : Oper) (s : St) : Option St :=
  match wants ops s o with
  | some true => match call.hint o.dst with
    | some c => (s.apply F o.dst c).map fun t => { t with log := (cmdOf P call s.eval o = some c) :: t.log }
    | none => (cmdOf P call s.eval o).bind (s.apply F o.dst)
  | some false => s.put o.dst (.sc undef)
  | none => none
def runOps (ops : Array Oper) : List (List Nat × Oper) → St → Option St
  | [], s => some s
  | (F, o) :: l, s => (stepOp P call ops F o s).bind (runOps ops l)
end

/-- a name is given away: who has it may append no more -/
def scr1 (d : Nat) (x : AV) : AV := match ment1 d x with | true => plain1 x | false => x
def scr (d : Nat) (x : AV) : AV := match ment d x with | true => plain x | false => x
def St.scrub (s : St) (d : Nat) : St :=
  { n := s.n
    slots := s.slots.map fun p => (p.1, scr d p.2)
    objs := (s.objs.filter fun p => !Nat.beq p.1 d).map fun p => (p.1, (p.2.1, p.2.2.map (scr1 d)))
    lens := s.lens.filter fun p => !Nat.beq p.1 d
    log := s.log }
section
variable (P : Program) (call : Orc)
def givesName (o : Oper) : Option Nat := match o.op with
  | .alloc _ | .box .. | .buildSlice .. | .call _ => o.dst
  | _ => none
def stepS (ops : Array Oper) (o : Oper) (s : St) : Option St :=
  match stepOp P call ops [] o s with
  | some s' => some s'
  | none => match givesName o with
    | some d => stepOp P call ops [] o (s.scrub d)
    | none => none
def runS (ops : Array Oper) : List Oper → St → Option St
  | [], s => some s
  | o :: l, s => (stepS P call ops o s).bind (runS ops l)
end

/-- the operations in front of which none may be moved: for each, all that it waits for -/
def waitsFor : List Oper → List (List Nat) → List (List Nat)
  | [], acc => acc
  | o :: l, acc => waitsFor l (acc ++ [o.after.toList.flatMap fun e => match Region.binds .any e with | true => e.on :: acc.getD e.on [] | false => []])
inductive Cls where
  | quiet | load | store | box | row | append
  deriving DecidableEq
def clsOf (o : Oper) : Cls :=
  match o.op with
  | .alloc _ | .box .. => .box
  | .load .. => .load
  | .store .. => .store
  | .buildSlice .. => .row
  | .call c => match c.callee with
    | .builtin .append => .append
    | .value _ => .row
    | _ => .quiet
  | _ => .quiet
def naming (o : Oper) : Option Nat := match clsOf o with
  | .box | .row | .append => o.dst
  | _ => none
def clash : Cls → Cls → Bool
  | .load, .store | .store, .load | .store, .store | .append, .append => true
  | _, _ => false
def beside (ops : Array Oper) (x y : Oper) : Bool := x.apart ops y && !clash (clsOf x) (clsOf y)
def waitsOf (ops : Array Oper) : List (List Nat) := waitsFor ops.toList []
def has (l : List Nat) (k : Nat) : Bool := l.any (Nat.beq · k)
/-- may the region's operations be carried out in the order of the text? -/
def drawOk (ops : Array Oper) : Bool :=
  let W := waitsOf ops
  (List.range ops.size).all fun j => match ops[j]? with
    | some y => (y.after.toList.all fun e => !Region.binds .any e || Nat.blt e.on j) &&
      ((W.getD j []).all fun k => Nat.blt k j && y.after.toList.any fun e => Region.binds .any e && (Nat.beq e.on k || has (W.getD e.on []) k)) &&
      (List.range j).all fun i => has (W.getD j []) i || match ops[i]? with
        | some x => beside ops x y
        | none => false
    | none => false
/-- names that an operation must not meet -/
def banned (ops : Array Oper) (j : Nat) : List Nat :=
  let W := waitsOf ops
  (List.range ops.size).filterMap fun i => match Nat.beq i j || has (W.getD j []) i || has (W.getD i []) j with
    | true => none
    | false => (ops[i]?).bind naming
def bans (ops : Array Oper) : List (List Nat × Oper) := (List.range ops.size).filterMap fun j => (ops[j]?).map fun o => (banned ops j, o)

/-- without the right to append, unless the name is kept -/
def keep1 (names : List Nat) : AV → AV
  | .row (some (d, e)) size n xs => match has names d with | true => .row (some (d, e)) size n xs | false => .row none size n xs
  | .ptr d off => match has names d with | true => .ptr d off | false => .undef
  | .tup _ => .undef
  | x => x
def St.mask (s : St) (live names : List Nat) : St :=
  { n := s.n
    slots := live.map fun t => (t, keep1 names ((look s.slots t).getD .undef))
    objs := names.filterMap fun t => (look s.objs t).map fun x => (t, (x.1, x.2.map (keep1 names)))
    lens := names.filterMap fun t => (look s.lens t).map fun x => (t, x)
    log := s.log }
def maskIf (live : Option (List Nat × List Nat)) (s : St) : St := match live with | some l => s.mask l.1 l.2 | none => s

def iter (f : St → Option Out) : Nat → St → Option Out
  | 0, _ => none
  | n + 1, s => match f s with
    | some (.go s') => iter f n s'
    | o => o

section
variable (P : Program) (call : Orc) (live : Nat → Option (List Nat × List Nat)) (fuel : Nat)
def runRegion (ops : Array Oper) (draw : Bool) (s : St) : Option St :=
  match draw with
  | false => runS P call ops ops.toList s
  | true => match drawOk ops with
    | true => runOps P call ops (bans ops) s
    | false => none
def runCode : Code → St → Option Out
  | .skip, s => some (.go s)
  | .region id ops draw, s => (runRegion P call ops draw (maskIf (live id) s)).map .go
  | .seq a b, s => match runCode a s with
    | some (.go s') => runCode b s'
    | o => o
  | .cond c a b, s => match s.eval c with
    | .sc (.bool true) => runCode a s
    | .sc (.bool false) => runCode b s
    | _ => none
  | .block id c, s => match runCode c s with
    | some (.exit id' s') => match Nat.beq id' id with | true => some (.go s') | false => some (.exit id' s')
    | o => o
  | .loop c, s => iter (runCode c) fuel s
  | .exit id, s => some (.exit id s)
  | .ret, s => some (.ret s)
  | .label _, s => some (.go s)
  | _, _ => none
end

def start (args : List AV) (n : Nat) : St := { n, slots := (List.range args.length).zip args, objs := [], lens := [] }
def cellVal (P : Program) (s : St) (t : TypeId) (x : AV) : Option AV :=
  match x with
  | .ptr d off => match look s.objs d, isAggT P t, szT P t with
    | some (_, xs), some true, some n => (takeN n (xs.drop off)).map fun ys => mkAgg (ys.map plain1)
    | some (_, xs), some false, _ => (xs.drop off).head?
    | _, _, _ => none
  | _ => none
def resVals (P : Program) (s : St) : List ResultVar → Option (List AV)
  | [] => some []
  | .tmp t :: l => (resVals P s l).map (s.eval (.tmp t) :: ·)
  | .cell b t :: l => match cellVal P s t (s.eval (.tmp b)), resVals P s l with
    | some x, some xs => some (x :: xs)
    | _, _ => none
/-- a result: may the caller append to it? -/
def ownOf (s : St) : AV → Option (Nat × Prop)
  | .row (some (d, e)) size n _ => (look s.lens d).map fun len => (e, len = n * size)
  | _ => none
def resOf (s : St) : List AV → Option (Res × List Prop)
  | [x] => match ownOf s x with
    | some (e, p) => some ({ v := plain1 x, own := some e }, [p])
    | none => some ({ v := plain1 x, own := none }, [])
  | [] => some ({ v := .tup [], own := none }, [])
  | x :: y :: l => match ownOf s x with
    | some (e, p) => some ({ v := .tup ((x :: y :: l).map plain1), own := some e }, [p])
    | none => some ({ v := .tup ((x :: y :: l).map plain1), own := none }, [])
def runBody (P : Program) (call : Orc) (live : Nat → Option (List Nat × List Nat)) (fuel : Nat) (fn : Func) (args : List AV) : Option (Res × List Prop) :=
  match fn.body with
  | some c =>
    match Nat.ble args.length fn.ntmps, runCode P call live fuel c (start args fn.ntmps) with
    | true, some (.go s) | true, some (.ret s) => ((resVals P s fn.results.toList).bind (resOf s)).map fun r => (r.1, r.2 ++ s.log)
    | _, _ => none
  | none => none
end Go.Proofs.YtmhoefpienagkaaDoor

/- The interpreter's states and the machine's: what it means that one stands for the other, and what keeps it. -/
namespace Go.Proofs.YtmhoefpienagkaaDoor
open Go.RowKit

structure Gh where
  base : Nat
  pr : Nat → Nat → Prop
  blk : Nat → Option Nat
  /-- blocks that nobody touches -/
  fr : Nat → Option Obj := fun _ => none

/-- of old memory no more is looked at -/
structure GExt (γ γ' : Gh) : Prop where
  base : γ'.base = γ.base
  old : ∀ b i, b < γ.base → γ'.pr b i → γ.pr b i
  fr : γ'.fr = γ.fr
theorem GExt.refl (γ : Gh) : GExt γ γ := ⟨rfl, fun _ _ _ h => h, rfl⟩
theorem GExt.trans {γ γ' γ'' : Gh} (h : GExt γ γ') (k : GExt γ' γ'') : GExt γ γ'' := ⟨k.base.trans h.base, fun b i hb hp => h.old b i hb (k.old b i (by rw [h.base]; exact hb) hp), k.fr.trans h.fr⟩

def Own (γ : Gh) (w : World) (c : Value) (d e size n : Nat) : Prop :=
  (∃ A, c = .slice A 0 0 ∧ n = 0) ∨ (∃ us, w.ownsRow γ.base e size c n us ∧ ∀ g, c.ownBlock = some g → γ.blk d = some g)
def AVR1 (γ : Gh) (L : List (Nat × Nat)) (w : World) (c : Value) : AV → Prop
  | .row (some (d, e)) size n xs => V γ.pr w c (.row (some (d, e)) size n xs) ∧ ∀ len, look L d = some len → n * size ≤ len ∧ (n * size = len → Own γ w c d e size n)
  | .ptr d off => (∃ b, c = .pointer (some ⟨b, off, none⟩) ∧ γ.blk d = some b) ∧ look L d = none
  | x => V γ.pr w c x
def AVRL (γ : Gh) (L : List (Nat × Nat)) (w : World) (cs : List Value) : List AV → Prop
  | [] => cs = []
  | x :: xs => ∃ c cs', cs = c :: cs' ∧ AVR1 γ L w c x ∧ AVRL γ L w cs' xs
def AVR (γ : Gh) (L : List (Nat × Nat)) (w : World) (c : Value) : AV → Prop
  | .tup xs => ∃ cs : List Value, c = .tuple cs.toArray ∧ AVRL γ L w cs xs
  | x => AVR1 γ L w c x

theorem AVR1.of_V {γ : Gh} {L : List (Nat × Nat)} {w : World} {c : Value} : ∀ {x : AV}, V γ.pr w c x → AVR1 γ L w c (plain1 x)
  | .undef, h => h
  | .sc _, h => h
  | .row t s n xs, h => by simp only [plain1, AVR1]; simpa only [V] using h
  | .mt, h => h
  | .agg _, h => h
  | .tup _, _ => trivial
  | .ptr _ _, _ => trivial
  | .rptr _, h => h
theorem AVR.of_AVR1 {γ : Gh} {L : List (Nat × Nat)} {w : World} {c : Value} : ∀ {x : AV}, (∀ xs, x ≠ .tup xs) → AVR1 γ L w c x → AVR γ L w c x
  | .tup xs, hn, _ => absurd rfl (hn xs)
  | .undef, _, h => h
  | .sc _, _, h => h
  | .row .., _, h => h
  | .mt, _, h => h
  | .agg _, _, h => h
  | .ptr _ _, _, h => h
  | .rptr _, _, h => h
theorem plain1_tup (x : AV) : ∀ xs, plain1 x ≠ .tup xs := by cases x <;> simp [plain1]
theorem AVR.of_V {γ : Gh} {L : List (Nat × Nat)} {w : World} {c : Value} {x : AV} (h : V γ.pr w c x) : AVR γ L w c (plain1 x) := AVR.of_AVR1 (plain1_tup x) (AVR1.of_V h)
theorem AVR.plain1 {γ : Gh} {L : List (Nat × Nat)} {w : World} {c : Value} {x : AV} (h : AVR γ L w c x) (hn : ∀ xs, x ≠ .tup xs) : AVR1 γ L w c x := by
  cases x <;> first | exact h | exact absurd rfl (hn _)
/-- what can be said of it whoever owns it -/
theorem AVR1.plain {γ : Gh} {L : List (Nat × Nat)} {w : World} {c : Value} : ∀ {x : AV}, AVR1 γ L w c x → V γ.pr w c (plain1 x)
  | .undef, h => h
  | .sc _, h => h
  | .row none .., h => by simpa only [plain1, AVR1, V] using h
  | .row (some (d, _)) .., h => by have := h.1; simpa only [plain1, AVR1, V] using this
  | .mt, h => h
  | .agg _, h => h
  | .tup _, _ => trivial
  | .ptr d _, _ => trivial
  | .rptr _, h => h
theorem AVRL.plain {γ : Gh} {L : List (Nat × Nat)} {w : World} : ∀ {xs : List AV} {cs : List Value}, AVRL γ L w cs xs → VL γ.pr w cs (xs.map plain1)
  | [], _, h => h
  | x :: xs, _, ⟨c, cs', e, h1, h2⟩ => ⟨c, cs', e, h1.plain, AVRL.plain h2⟩
theorem AVR.plain {γ : Gh} {L : List (Nat × Nat)} {w : World} {c : Value} : ∀ {x : AV}, AVR γ L w c x → V γ.pr w c (plain x)
  | .tup xs, ⟨cs, e, h⟩ => ⟨cs, e, h.plain⟩
  | .undef, h => AVR1.plain (L := L) (x := .undef) h
  | .sc v, h => AVR1.plain (L := L) (x := .sc v) h
  | .row t s n xs, h => AVR1.plain (L := L) (x := .row t s n xs) h
  | .mt, h => AVR1.plain (L := L) (x := .mt) h
  | .agg xs, h => AVR1.plain (L := L) (x := .agg xs) h
  | .ptr d o, h => AVR1.plain (L := L) (x := .ptr d o) h
  | .rptr xs, h => AVR1.plain (L := L) (x := .rptr xs) h
theorem AVRL.length {γ : Gh} {L : List (Nat × Nat)} {w : World} : ∀ {xs : List AV} {cs : List Value}, AVRL γ L w cs xs → cs.length = xs.length
  | [], _, h => by simp only [AVRL] at h; subst h; rfl
  | x :: xs, _, ⟨c, cs', e, h1, h2⟩ => by subst e; simp [AVRL.length h2]
theorem AVRL.at_ {γ : Gh} {L : List (Nat × Nat)} {w : World} : ∀ {xs : List AV} {cs : List Value} {i : Nat} {x : AV}, AVRL γ L w cs xs → xs[i]? = some x → ∃ c, cs[i]? = some c ∧ AVR1 γ L w c x
  | [], _, _, _, _, hx => by simp at hx
  | y :: xs, _, 0, x, ⟨c, cs', e, h1, h2⟩, hx => by subst e; simp at hx; subst hx; exact ⟨c, rfl, h1⟩
  | y :: xs, _, i + 1, x, ⟨c, cs', e, h1, h2⟩, hx => by
    subst e
    have := AVRL.at_ h2 (i := i) (x := x) (by simpa using hx)
    simpa using this
theorem AVRL.of_at {γ : Gh} {L : List (Nat × Nat)} {w : World} : ∀ {xs : List AV} {cs : List Value}, cs.length = xs.length → (∀ (i : Nat) (x : AV) (c : Value), xs[i]? = some x → cs[i]? = some c → AVR1 γ L w c x) → AVRL γ L w cs xs
  | [], cs, hl, _ => by simpa [AVRL] using hl
  | x :: xs, [], hl, _ => by simp at hl
  | x :: xs, c :: cs, hl, h => ⟨c, cs, rfl, h 0 x c rfl rfl, AVRL.of_at (by simpa using hl) fun i x c hx hc => h (i + 1) x c (by simpa using hx) (by simpa using hc)⟩

def Kept (γ γ' : Gh) (L L' : List (Nat × Nat)) (w w' : World) (d : Nat) : Prop :=
  (γ'.blk d = γ.blk d ∧ look L' d = look L d ∧ (look L d ≠ none → ∀ g, γ.blk d = some g → w'.heap[g]? = w.heap[g]?)) ∨
  ∃ len len', look L d = some len ∧ look L' d = some len' ∧ len < len'

section
variable {γ γ' : Gh} {L L' : List (Nat × Nat)} {w w' : World}
theorem Own.frame {c : Value} {d e size n : Nat} (hb : γ'.base = γ.base) (h : Own γ w c d e size n) (h1 : γ'.blk d = γ.blk d) (h2 : ∀ g, γ.blk d = some g → w'.heap[g]? = w.heap[g]?) : Own γ' w' c d e size n := by
  rcases h with h | ⟨us, ho, hg⟩
  · exact .inl h
  · refine .inr ⟨us, ⟨ho.1, ?_⟩, fun g hh => h1.trans (hg g hh)⟩
    rw [hb]
    rcases ho.2 with h | ⟨g, cap, cur, rfl, a1, a2, a3⟩
    · exact .inl h
    · exact .inr ⟨g, cap, cur, rfl, a1, (h2 g (hg g rfl)).trans a2, a3⟩
variable (hb : γ'.base = γ.base) (hV : ∀ b i u, γ.pr b i → w.cell? ⟨b, i, none⟩ = some u → γ'.pr b i ∧ w'.cell? ⟨b, i, none⟩ = some u)
include hb hV
theorem AVR1.frame {c : Value} : ∀ {x : AV}, (∀ d, ment1 d x = true → Kept γ γ' L L' w w' d) → AVR1 γ L w c x → AVR1 γ' L' w' c x
  | .undef, _, h => h
  | .sc _, _, h => h
  | .row none s n xs, _, h => V.mono hV (.row none s n xs) h
  | .row (some (d, e)) s n xs, hn, h => by
    refine ⟨V.mono hV _ h.1, fun len hl => ?_⟩
    rcases hn d (by simp [ment1]) with ⟨h1, h2, h3⟩ | ⟨l1, l2, h1, h2, h3⟩
    · rw [h2] at hl
      exact ⟨(h.2 len hl).1, fun he => ((h.2 len hl).2 he).frame hb h1 (h3 (by rw [hl]; simp))⟩
    · rw [h2] at hl; cases hl
      have := (h.2 l1 h1).1
      exact ⟨by omega, fun he => by omega⟩
  | .mt, _, h => V.mono hV .mt h
  | .agg xs, _, h => V.mono hV (.agg xs) h
  | .tup xs, _, h => V.mono hV (.tup xs) h
  | .rptr xs, _, h => V.mono hV (.rptr xs) h
  | .ptr d off, hn, ⟨⟨b, h1, h2⟩, h3⟩ => by
    rcases hn d (by simp [ment1]) with ⟨a1, a2, a3⟩ | ⟨l1, l2, a1, a2, a3⟩
    · exact ⟨⟨b, h1, a1.trans h2⟩, a2.trans h3⟩
    · rw [h3] at a1; cases a1
theorem AVRL.frame : ∀ {xs : List AV} {cs : List Value}, (∀ d, xs.any (ment1 d) = true → Kept γ γ' L L' w w' d) → AVRL γ L w cs xs → AVRL γ' L' w' cs xs
  | [], _, _, h => h
  | x :: xs, _, hn, ⟨c, cs', e, h1, h2⟩ => ⟨c, cs', e, h1.frame hb hV fun d hd => hn d (by simp [hd]), AVRL.frame (fun d hd => hn d (by simp only [List.any_cons, hd, Bool.or_true])) h2⟩
theorem AVR.frame {c : Value} : ∀ {x : AV}, (∀ d, ment d x = true → Kept γ γ' L L' w w' d) → AVR γ L w c x → AVR γ' L' w' c x
  | .tup xs, hn, ⟨cs, e, h⟩ => ⟨cs, e, h.frame hb hV hn⟩
  | .undef, hn, h => AVR1.frame hb hV (c := c) (x := .undef) hn h
  | .sc v, hn, h => AVR1.frame hb hV (c := c) (x := .sc v) hn h
  | .row t s n xs, hn, h => AVR1.frame hb hV (c := c) (x := .row t s n xs) hn h
  | .mt, hn, h => AVR1.frame hb hV (c := c) (x := .mt) hn h
  | .agg xs, hn, h => AVR1.frame hb hV (c := c) (x := .agg xs) hn h
  | .ptr d o, hn, h => AVR1.frame hb hV (c := c) (x := .ptr d o) hn h
  | .rptr xs, hn, h => AVR1.frame hb hV (c := c) (x := .rptr xs) hn h
end

structure Rel (γ : Gh) (w0 : World) (s : St) (a : Act) (w : World) : Prop where
  size : a.tmps.size = s.n
  defers : a.defers = []
  below : Below γ.base w0 w
  base : γ.base ≤ w.heap.size
  slot : ∀ t x, look s.slots t = some x → AVR γ s.lens w (a.tmps.getD t undef) x
  obj : ∀ d ty xs, look s.objs d = some (ty, xs) → look s.lens d = none ∧ ∃ b cs, γ.blk d = some b ∧ γ.base ≤ b ∧ w.heap[b]? = some (.cells cs.toArray ty (0, 0)) ∧ AVRL γ s.lens w cs xs ∧
    (∀ c ∈ cs, c.oneCell' = true) ∧ ∀ i, ¬ γ.pr b i
  len : ∀ d len g, look s.lens d = some len → γ.blk d = some g → γ.base ≤ g ∧ ∀ i, γ.pr g i → i < len
  inj : ∀ d d' b, γ.blk d = some b → γ.blk d' = some b → d = d'
  blt : ∀ d b, γ.blk d = some b → b < w.heap.size
  plt : ∀ b i, γ.pr b i → b < w.heap.size
  frm : ∀ k o, γ.fr k = some o → w.heap[k]? = some o ∧ ∀ d, γ.blk d ≠ some k
  gl : GlobAt γ.base w0

theorem Rel.withLog {γ : Gh} {w0 w : World} {s : St} {a : Act} (h : Rel γ w0 s a w) (l : List Prop) : Rel γ w0 { s with log := l } a w :=
  ⟨h.size, h.defers, h.below, h.base, h.slot, h.obj, h.len, h.inj, h.blt, h.plt, h.frm, h.gl⟩

theorem look_cons {α : Type} (k : Nat) (v : α) (l : List (Nat × α)) (t : Nat) : look ((k, v) :: l) t = if k = t then some v else look l t := by
  simp only [look]
  by_cases h : k = t
  · subst h; simp
  · rw [if_neg h]
    have : Nat.beq k t = false := by rw [← Bool.not_eq_true, Nat.beq_eq]; exact h
    rw [this]
theorem look_mem {α : Type} {l : List (Nat × α)} {t : Nat} {v : α} (h : look l t = some v) : (t, v) ∈ l := by
  induction l with
  | nil => simp [look] at h
  | cons p l ih =>
    obtain ⟨k, u⟩ := p
    rw [look_cons] at h
    split at h
    · rename_i e; subst e; cases h; exact List.mem_cons_self
    · exact List.mem_cons_of_mem _ (ih h)
structure Absent (s : St) (d : Nat) : Prop where
  slot : ∀ t x, look s.slots t = some x → ment d x = false
  obj : ∀ d' ty xs, look s.objs d' = some (ty, xs) → d' ≠ d ∧ ∀ x ∈ xs, ment d x = false
  obj' : look s.objs d = none
  len : look s.lens d = none
theorem Absent.of {s : St} {d : Nat} (h : s.absent d = true) : Absent s d := by
  simp only [St.absent, Bool.and_eq_true, List.all_eq_true, Bool.not_eq_true'] at h
  obtain ⟨⟨h1, h2⟩, h3⟩ := h
  refine ⟨fun t x hx => h1 _ (look_mem hx), fun d' ty xs hx => ?_, ?_, ?_⟩
  · have := h2 _ (look_mem hx)
    refine ⟨fun e => ?_, fun x hx => this.2 x hx⟩
    have := this.1
    simp [e] at this
  · cases hh : look s.objs d with
    | none => rfl
    | some p => have := (h2 _ (look_mem hh)).1; simp at this
  · cases hh : look s.lens d with
    | none => rfl
    | some p => have := h3 _ (look_mem hh); simp at this

section
variable {γ γ' : Gh} {w0 w w' : World} {s s' : St} {a : Act}
theorem ment1_ment {d : Nat} {x : AV} (h : ment1 d x = true) : ment d x = true := by cases x <;> simp_all [ment, ment1]
/-- The relation is kept where names, world and ghosts change so that all visible names are kept. -/
theorem Rel.frame (h : Rel γ w0 s a w) (L : List (Nat × Nat)) (hb : γ'.base = γ.base)
    (hV : ∀ b i u, γ.pr b i → w.cell? ⟨b, i, none⟩ = some u → γ'.pr b i ∧ w'.cell? ⟨b, i, none⟩ = some u)
    (hs : ∀ d t x, look s.slots t = some x → ment d x = true → Kept γ γ' s.lens L w w' d)
    (ho : ∀ d d' ty xs, look s.objs d' = some (ty, xs) → xs.any (ment1 d) = true → Kept γ γ' s.lens L w w' d)
    (ho2 : ∀ d ty xs b, look s.objs d = some (ty, xs) → γ.blk d = some b → look L d = none ∧ γ'.blk d = some b ∧ w'.heap[b]? = w.heap[b]? ∧ ∀ i, ¬ γ'.pr b i)
    (hl : ∀ d len g, look L d = some len → γ'.blk d = some g → γ.base ≤ g ∧ ∀ i, γ'.pr g i → i < len)
    (hi : ∀ d d' b, γ'.blk d = some b → γ'.blk d' = some b → d = d') (hblt : ∀ d b, γ'.blk d = some b → b < w'.heap.size) (hplt : ∀ b i, γ'.pr b i → b < w'.heap.size)
    (hbel : Below γ.base w w') (hff : γ'.fr = γ.fr) (hfm : ∀ k o, γ.fr k = some o → w'.heap[k]? = some o ∧ ∀ d, γ'.blk d ≠ some k) : Rel γ' w0 { s with lens := L } a w' where
  size := h.size
  defers := h.defers
  below := by rw [hb]; exact h.below.trans hbel
  base := by rw [hb]; exact Nat.le_trans h.base hbel.size
  slot t x hx := (h.slot t x hx).frame hb hV fun d hd => hs d t x hx hd
  obj d ty xs hx := by
    obtain ⟨h1, b, cs, h2, h3, h4, h5, h6, h7⟩ := h.obj d ty xs hx
    obtain ⟨k1, k2, k3, k4⟩ := ho2 d ty xs b hx h2
    exact ⟨k1, b, cs, k2, by rw [hb]; exact h3, k3.trans h4, h5.frame hb hV fun d' hd => ho d' d ty xs hx hd, h6, k4⟩
  len d len g h1 h2 := by rw [hb]; exact hl d len g h1 h2
  inj := hi
  blt := hblt
  plt := hplt
  frm k o hk := hfm k o (by rw [← hff]; exact hk)
  gl := by rw [hb]; exact h.gl
/-- new blocks, new protected cells in them -/
theorem Rel.grow_world (h : Rel γ w0 s a w) (pr' : Nat → Nat → Prop) (hbel : Below w.heap.size w w') (h1 : ∀ b i, γ.pr b i → pr' b i) (h2 : ∀ b i, pr' b i → γ.pr b i ∨ w.heap.size ≤ b ∧ b < w'.heap.size) :
    Rel { γ with pr := pr' } w0 s a w' := by
  have hk : ∀ d, Kept γ { γ with pr := pr' } s.lens s.lens w w' d := fun d => .inl ⟨rfl, rfl, fun _ g hg => hbel.block g (h.blt d g hg)⟩
  have hnew : ∀ d b i, γ.blk d = some b → pr' b i → γ.pr b i := fun d b i hg hp => by
    rcases h2 b i hp with hp | hp
    · exact hp
    · have := h.blt d b hg; omega
  refine h.frame (γ' := { γ with pr := pr' }) s.lens rfl (fun b i u hp hc => ⟨h1 b i hp, ?_⟩) (fun d _ _ _ _ => hk d) (fun d _ _ _ _ _ => hk d) ?_ ?_ h.inj
    (fun d b hd => Nat.lt_of_lt_of_le (h.blt d b hd) hbel.size) (fun b i hp => ?_) (hbel.mono h.base) rfl (fun k o hk => ⟨(hbel.block k (Array.getElem?_eq_some_iff.1 (h.frm k o hk).1).1).trans (h.frm k o hk).1, (h.frm k o hk).2⟩)
  · rw [hbel.cell (h.plt b i hp)]; exact hc
  · intro d ty xs b hx hd
    obtain ⟨k1, b', cs, k2, k3, k4, k5, k6, k7⟩ := h.obj d ty xs hx
    have : b' = b := by rw [hd] at k2; exact (Option.some.inj k2).symm
    subst this
    exact ⟨k1, hd, hbel.block b' (h.blt d b' hd), fun i hp => k7 i (hnew d b' i hd hp)⟩
  · intro d len g hl hd
    have := h.len d len g hl hd
    exact ⟨this.1, fun i hp => this.2 i (hnew d g i hd hp)⟩
  · rcases h2 b i hp with hp | hp
    · exact Nat.lt_of_lt_of_le (h.plt b i hp) hbel.size
    · exact hp.2
theorem Rel.drew (h : Rel γ w0 s a w) (hh : w'.heap = w.heap) (h1 : w'.os = w.os) (h2 : w'.tape = w.tape) (h3 : w'.output = w.output) : Rel γ w0 s a w' :=
  h.grow_world (γ := γ) γ.pr ⟨h1, h2, h3, by rw [hh]; exact Nat.le_refl _, fun k _ => by rw [hh]⟩ (fun _ _ hp => hp) (fun _ _ hp => .inl hp)
/-- a new name for a block (or for none) -/
theorem Rel.name (h : Rel γ w0 s a w) {d : Nat} (hd : Absent s d) (g : Option Nat) (hg : ∀ b, g = some b → b < w.heap.size ∧ ∀ d', γ.blk d' ≠ some b) (hfr : ∀ b, g = some b → γ.fr b = none) :
    Rel { γ with blk := fun d' => if d' = d then g else γ.blk d' } w0 s a w := by
  have hk : ∀ d', d' ≠ d → Kept γ { γ with blk := fun d' => if d' = d then g else γ.blk d' } s.lens s.lens w w d' := fun d' hne => .inl ⟨by simp [hne], rfl, fun _ _ _ => rfl⟩
  refine h.frame (γ' := { γ with blk := fun d' => if d' = d then g else γ.blk d' }) s.lens rfl (fun b i u hp hc => ⟨hp, hc⟩) ?_ ?_ ?_ ?_ ?_ ?_ h.plt (Below.refl _ _) rfl (fun k o hk => ⟨(h.frm k o hk).1, fun d' hd' => by
    simp only at hd'
    split at hd'
    · rw [hfr k hd'] at hk; cases hk
    · exact (h.frm k o hk).2 d' hd'⟩)
  · intro d' t x hx hm
    refine hk d' fun e => ?_
    subst e; rw [hd.slot t x hx] at hm; cases hm
  · intro d' d'' ty xs hx hm
    refine hk d' fun e => ?_
    subst e
    obtain ⟨x, hx', hm⟩ := List.any_eq_true.1 hm
    have := (hd.obj d'' ty xs hx).2 x hx'
    rw [ment1_ment hm] at this; cases this
  · intro d' ty xs b hx hb
    have hne := (hd.obj d' ty xs hx).1
    obtain ⟨k1, b', cs, k2, k3, k4, k5, k6, k7⟩ := h.obj d' ty xs hx
    have : b' = b := by rw [hb] at k2; exact (Option.some.inj k2).symm
    subst this
    exact ⟨k1, by simp [hne, hb], rfl, k7⟩
  · intro d' len g' hl hb
    have hne : d' ≠ d := fun e => by subst e; rw [hd.len] at hl; cases hl
    simp only [hne, if_false] at hb
    exact h.len d' len g' hl hb
  · intro d1 d2 b h1 h2
    simp only at h1 h2
    by_cases e1 : d1 = d <;> by_cases e2 : d2 = d
    · rw [e1, e2]
    · simp only [e1, if_true, e2, if_false] at h1 h2; exact absurd h2 ((hg b h1).2 d2)
    · simp only [e1, if_false, e2, if_true] at h1 h2; exact absurd h1 ((hg b h2).2 d1)
    · simp only [e1, e2, if_false] at h1 h2; exact h.inj d1 d2 b h1 h2
  · intro d' b hb
    simp only at hb
    by_cases e1 : d' = d
    · simp only [e1, if_true] at hb; exact (hg b hb).1
    · simp only [e1, if_false] at hb; exact h.blt d' b hb
/-- a length for a name that has none -/
theorem Rel.setLen (h : Rel γ w0 s a w) {d len : Nat} (hd : Absent s d) (hg : ∀ g, γ.blk d = some g → γ.base ≤ g ∧ ∀ i, γ.pr g i → i < len) : Rel γ w0 { s with lens := (d, len) :: s.lens } a w := by
  have hk : ∀ d', d' ≠ d → Kept γ γ s.lens ((d, len) :: s.lens) w w d' := fun d' hne => .inl ⟨rfl, by rw [look_cons, if_neg (Ne.symm hne)], fun _ _ _ => rfl⟩
  refine h.frame (γ' := γ) ((d, len) :: s.lens) rfl (fun b i u hp hc => ⟨hp, hc⟩) ?_ ?_ ?_ ?_ h.inj h.blt h.plt (Below.refl _ _) rfl h.frm
  · intro d' t x hx hm
    refine hk d' fun e => ?_
    subst e; rw [hd.slot t x hx] at hm; cases hm
  · intro d' d'' ty xs hx hm
    refine hk d' fun e => ?_
    subst e
    obtain ⟨x, hx', hm⟩ := List.any_eq_true.1 hm
    have := (hd.obj d'' ty xs hx).2 x hx'
    rw [ment1_ment hm] at this; cases this
  · intro d' ty xs b hx hb
    have hne := (hd.obj d' ty xs hx).1
    obtain ⟨k1, b', cs, k2, k3, k4, k5, k6, k7⟩ := h.obj d' ty xs hx
    have : b' = b := by rw [hb] at k2; exact (Option.some.inj k2).symm
    subst this
    exact ⟨by rw [look_cons, if_neg (Ne.symm hne)]; exact k1, hb, rfl, k7⟩
  · intro d' len' g hl hb
    rw [look_cons] at hl
    split at hl
    · rename_i e; subst e; cases hl; exact hg g hb
    · exact h.len d' len' g hl hb
theorem Rel.put {dst : Option Nat} {x : AV} {c : Value} (h : Rel γ w0 s a w) (hs : s.put dst x = some s') (hx : AVR γ s.lens w c x) : Rel γ w0 s' (a.put dst c) w := by
  cases dst with
  | none => simp only [St.put, Option.some.injEq] at hs; subst hs; exact h
  | some d =>
    simp only [St.put] at hs
    split at hs
    · rename_i hlt
      have hlt : d < s.n := by simpa [Nat.blt_eq] using hlt
      simp only [Option.some.injEq] at hs
      subst hs
      have hd : d < a.tmps.size := by rw [h.size]; exact hlt
      refine { h with size := by simp [Act.put, h.size], defers := h.defers, slot := fun t y hy => ?_ }
      simp only [look_cons] at hy
      by_cases e : d = t
      · subst e
        rw [if_pos rfl] at hy; cases hy
        have : (a.put (some d) c).tmps.getD d undef = c := by simp [Act.put, Array.getD, hd]
        rw [this]; exact hx
      · rw [if_neg e] at hy
        have : (a.put (some d) c).tmps.getD t undef = a.tmps.getD t undef := by simp [Act.put, Array.getElem?_setIfInBounds_ne e]
        rw [this]; exact h.slot t y hy
    · cases hs
theorem Rel.eval (h : Rel γ w0 s a w) (x : Operand) : AVR γ s.lens w (a.eval x) (s.eval x) := by
  cases x with
  | tmp t =>
    simp only [Act.eval, St.eval]
    cases hx : look s.slots t with
    | none => exact trivial
    | some x => exact h.slot t x hx
  | const v => exact rfl
  | global g => exact trivial
  | func f => exact rfl
end
end Go.Proofs.YtmhoefpienagkaaDoor

/- Operations that only yield a value: what the interpreter says is what the machine does. -/
namespace Go.Proofs.YtmhoefpienagkaaDoor
open Go.RowKit

section
variable {P : Program}
theorem run_isAgg' {t : TypeId} {r : Bool} (h : isAggT P t = some r) (w : World) : (isAgg t).run P w = .ok r w := by
  unfold isAggT at h
  cases hu : P.underlying t with
  | none => simp [hu] at h
  | some d => cases d <;> simp [hu] at h <;> subst h <;> simp [isAgg, run_underlying hu]
theorem run_size' {t : TypeId} {n : Nat} (h : szT P t = some n) (w : World) : (sizeOf t).run P w = .ok n w := by
  unfold szT at h
  cases hi : P.info? t with
  | none => simp [hi] at h
  | some i => simp [hi] at h; subst h; simp [sizeOf, typeInfo, hi]
theorem takeN_spec : ∀ {n : Nat} {xs ys : List AV}, takeN n xs = some ys → ys = xs.take n ∧ ys.length = n
  | 0, xs, ys, h => by simp [takeN] at h; subst h; simp
  | n + 1, [], ys, h => by simp [takeN] at h
  | n + 1, x :: xs, ys, h => by
    simp only [takeN, Option.map_eq_some_iff] at h
    obtain ⟨zs, h, rfl⟩ := h
    obtain ⟨h1, h2⟩ := takeN_spec h
    exact ⟨by rw [h1]; rfl, by simp [h2]⟩
theorem VC.vals {pr : Nat → Nat → Prop} {w : World} {b : Nat} : ∀ {xs : List AV} {o : Nat}, VC pr w b o xs → ∃ cs, VL pr w cs xs ∧ (∀ u ∈ cs, u.oneCell' = true) ∧ ∀ j v, cs[j]? = some v → w.cell? ⟨b, o + j, none⟩ = some v
  | [], _, _ => ⟨[], rfl, by simp, by simp⟩
  | x :: xs, o, h => by
    simp only [VC] at h
    obtain ⟨⟨u, h1, h2, h3, h4⟩, h5⟩ := h
    obtain ⟨cs, k1, k2, k3⟩ := VC.vals h5
    refine ⟨u :: cs, ⟨u, cs, rfl, h4, k1⟩, ?_, fun j v hj => ?_⟩
    · intro u' hu
      rcases List.mem_cons.1 hu with rfl | hu
      · exact h3
      · exact k2 _ hu
    · cases j with
      | zero => simp at hj; subst hj; exact h1
      | succ j =>
        have := k3 j v (by simpa using hj)
        rw [show o + (j + 1) = o + 1 + j by omega]; exact this
theorem run_load_agg {t : TypeId} {n b o : Nat} {cs : List Value} {w : World} (h1 : isAggT P t = some true) (h2 : szT P t = some n) (hl : cs.length = n)
    (hc : ∀ j v, cs[j]? = some v → w.cell? ⟨b, o + j, none⟩ = some v) : (loadVar t ⟨b, o, none⟩).run P w = .ok (.agg cs.toArray) w := by
  subst hl
  have := run_loadCells_list (P := P) w ⟨b, o, none⟩ cs (fun j v hj => by rw [Addr.add_lit]; exact hc j v hj)
  simp [loadVar, run_isAgg' h1, run_size' h2, this]
theorem run_load_one {t : TypeId} {b o : Nat} {v : Value} {w : World} (h1 : isAggT P t = some false) (hc : w.cell? ⟨b, o, none⟩ = some v) : (loadVar t ⟨b, o, none⟩).run P w = .ok v w := by
  simp [loadVar, run_isAgg' h1, load, Sem.run, hc]
theorem v_run {m : Sem Value} {c : Value} {w w' : World} (h : m.run P w = .ok c w') : (do pure (Next.value (← m)) : Sem Next).run P w = .ok (.value c) w' := by
  simp [h]
end

theorem VL.set {pr : Nat → Nat → Prop} {w : World} {u : Value} {y : AV} (hu : V pr w u y) : ∀ {xs : List AV} {cs : List Value} {i : Nat}, VL pr w cs xs → VL pr w (cs.set i u) (xs.set i y)
  | [], _, _, h => by simp only [VL] at h; subst h; simp [VL]
  | x :: xs, _, 0, ⟨c, cs, e, h1, h2⟩ => by subst e; exact ⟨u, cs, rfl, hu, h2⟩
  | x :: xs, _, i + 1, ⟨c, cs, e, h1, h2⟩ => by subst e; exact ⟨c, _, rfl, h1, VL.set hu h2⟩
def setAtV (cs : List Value) (off : Nat) : List Value → List Value
  | [] => cs
  | u :: us => setAtV (cs.set off u) (off + 1) us
theorem VL.setAt {pr : Nat → Nat → Prop} {w : World} : ∀ {ys : List AV} {us : List Value} {xs : List AV} {cs : List Value} {off : Nat}, VL pr w us ys → VL pr w cs xs → VL pr w (setAtV cs off us) (setAt xs off ys)
  | [], _, _, _, _, h, h' => by simp only [VL] at h; subst h; exact h'
  | y :: ys, _, _, _, _, ⟨c, cs, e, h1, h2⟩, h' => by subst e; simp only [setAtV, YtmhoefpienagkaaDoor.setAt]; exact VL.setAt h2 (VL.set h1 h')
theorem setAtV_length : ∀ (us cs : List Value) (off : Nat), (setAtV cs off us).length = cs.length
  | [], _, _ => rfl
  | u :: us, cs, off => by simp [setAtV, setAtV_length us]
theorem setAt_length : ∀ (us cs : List AV) (off : Nat), (setAt cs off us).length = cs.length
  | [], _, _ => rfl
  | u :: us, cs, off => by simp [setAt, setAt_length us]
theorem mem_setAtV {u : Value} : ∀ (us cs : List Value) (off : Nat), u ∈ setAtV cs off us → u ∈ cs ∨ u ∈ us
  | [], _, _, h => .inl h
  | v :: us, cs, off, h => by
    rcases mem_setAtV us _ _ h with h | h
    · rcases List.mem_or_eq_of_mem_set h with h | h
      · exact .inl h
      · exact .inr (by simp [h])
    · exact .inr (List.mem_cons_of_mem _ h)
theorem fold_setAtV (off : Nat) : ∀ (us : List Value) (k : Nat) (cs : Array Value), ((us.zipIdx k).foldl (fun cs (c, j) => cs.setIfInBounds (off + j) c) cs).toList = setAtV cs.toList (off + k) us
  | [], k, cs => rfl
  | u :: us, k, cs => by
    simp only [List.zipIdx_cons, List.foldl_cons, setAtV]
    rw [fold_setAtV off us (k + 1)]
    simp [Nat.add_assoc]
theorem cells_sound {pr : Nat → Nat → Prop} {w : World} {c : Value} : ∀ {x : AV} {ys : List AV}, cells? x = some ys → V pr w c x → ∃ ds : List Value, c.cells = ds.toArray ∧ VL pr w ds ys ∧ ∀ d ∈ ds, d.oneCell' = true
  | .sc v, ys, h, hv => by
    simp only [cells?] at h
    split at h
    · rename_i hall
      simp only [Option.some.injEq] at h; subst h
      simp only [V] at hv; subst hv
      exact ⟨c.cells.toList, by simp, VL_sc.2 rfl, fun d hd => List.all_eq_true.1 hall d hd⟩
    · cases h
  | .agg xs, ys, h, hv => by
    simp only [cells?, Option.some.injEq] at h; subst h
    obtain ⟨cs, e, h1, h2⟩ := hv
    subst e
    exact ⟨cs, rfl, VL_plain1 h2, h1⟩
  | .undef, ys, h, _ => by simp [cells?] at h
  | .tup _, ys, h, _ => by simp [cells?] at h
  | .ptr _ _, ys, h, hv => by simp only [V] at hv
  | .row t s n xs, ys, h, hv => by
    simp only [cells?, Option.some.injEq] at h; subst h
    obtain ⟨A, cap, e, h'⟩ := id hv
    subst e
    exact ⟨[_], rfl, ⟨_, _, rfl, hv, rfl⟩, by simp [Value.oneCell']⟩
  | .mt, ys, h, hv => by
    simp only [cells?, Option.some.injEq] at h; subst h
    obtain ⟨A, e⟩ := id hv
    subst e
    exact ⟨[_], rfl, ⟨_, _, rfl, hv, rfl⟩, by simp [Value.oneCell']⟩
  | .rptr xs, ys, h, hv => by
    simp only [cells?, Option.some.injEq] at h; subst h
    obtain ⟨b, o, e, h'⟩ := id hv
    subst e
    exact ⟨[_], rfl, ⟨_, _, rfl, hv, rfl⟩, by simp [Value.oneCell']⟩
/-- the parts of a literal -/
def VP (pr : Nat → Nat → Prop) (w : World) : List (Nat × Value) → List (Nat × AV) → Prop
  | [], [] => True
  | (i, c) :: cs, (j, x) :: xs => i = j ∧ V pr w c x ∧ VP pr w cs xs
  | _, _ => False
theorem fill_sound {pr : Nat → Nat → Prop} {w : World} {place : Nat → Option (Nat × Nat)} : ∀ {ps : List (Nat × AV)} {vs : List (Nat × Value)} {xs ys : List AV} {cs : Array Value}, fillA place xs ps = some ys → VP pr w vs ps → VL pr w cs.toList xs → (∀ u ∈ cs.toList, u.oneCell' = true) →
    ∃ ds : Array Value, Instr.fill place cs vs = some ds ∧ VL pr w ds.toList ys ∧ (∀ u ∈ ds.toList, u.oneCell' = true) ∧ ds.size = cs.size
  | [], [], xs, ys, cs, h, _, hl, h1 => by simp [fillA] at h; subst h; exact ⟨cs, rfl, hl, h1, rfl⟩
  | [], _ :: _, _, _, _, _, hv, _, _ => by simp [VP] at hv
  | _ :: _, [], _, _, _, _, hv, _, _ => by simp [VP] at hv
  | (i, x) :: ps, (j, c) :: vs, xs, ys, cs, h, hv, hl, h1 => by
    obtain ⟨rfl, hv1, hv2⟩ := hv
    simp only [fillA] at h
    split at h
    · rename_i off size zs hp hc
      split at h
      · rename_i hcond
        obtain ⟨ds, e1, e2, e3⟩ := cells_sound hc hv1
        have hlen := VL.length hl
        have hlen2 := VL.length e2
        simp only [Instr.fill, hp, e1]
        have hs : ¬ ((decide (ds.toArray.size ≠ size) || decide (off + ds.toArray.size > cs.size)) = true) := by
          simp only [List.size_toArray, ne_eq, gt_iff_lt, Bool.or_eq_true, decide_eq_true_eq, not_or, Decidable.not_not, Nat.not_lt]
          rw [Array.length_toList] at hlen
          exact ⟨by omega, by omega⟩
        rw [if_neg hs]
        have hf : (ds.toArray.zipIdx.foldl (fun cs (c, j) => cs.setIfInBounds (off + j) c) cs).toList = setAtV cs.toList off ds := by
          have := fold_setAtV off ds 0 cs
          rw [← Array.foldl_toList]
          simpa using this
        have := fill_sound (place := place) (vs := vs) (cs := ds.toArray.zipIdx.foldl (fun cs (c, j) => cs.setIfInBounds (off + j) c) cs) h hv2 (by rw [hf]; exact VL.setAt e2 hl) (by
          rw [hf]; intro u hu
          rcases mem_setAtV _ _ _ hu with hu | hu
          · exact h1 u hu
          · exact e3 u hu)
        obtain ⟨es, g1, g2, g3, g4⟩ := this
        refine ⟨es, g1, g2, g3, g4.trans ?_⟩
        rw [← Array.length_toList, hf, setAtV_length, Array.length_toList]
      · cases h
    · cases h

section
variable {P : Program} {γ : Gh} {L : List (Nat × Nat)} {w : World} {a : Act} {ev : Operand → AV} (E : ∀ x, AVR γ L w (a.eval x) (ev x))
include E
theorem ev_sc {x : Operand} {v : Value} (h : ev x = .sc v) : a.eval x = v := by have := E x; rw [h] at this; exact this
theorem ev_V {x : Operand} : V γ.pr w (a.eval x) (plain (ev x)) := (E x).plain
theorem vp_parts : ∀ (ps : List (Nat × Operand)), VP γ.pr w (ps.map fun (i, x) => (i, a.eval x)) (ps.map fun p => (p.1, plain (ev p.2)))
  | [] => trivial
  | (i, x) :: ps => ⟨rfl, ev_V E, vp_parts ps⟩
theorem vl_args : ∀ (xs : List Operand), VL γ.pr w (xs.map a.eval) ((xs.map ev).map plain)
  | [] => rfl
  | x :: xs => ⟨_, _, rfl, ev_V E, vl_args xs⟩
theorem scs_args : ∀ (xs : List Operand) {vs : List Value}, scs (xs.map ev) = some vs → xs.map a.eval = vs
  | [], vs, h => by simp [scs, allVals] at h; subst h; rfl
  | x :: xs, vs, h => by
    cases hx : ev x <;> simp only [scs, List.map_cons, hx, allVals, Option.map_eq_some_iff, reduceCtorEq] at h
    obtain ⟨us, h, rfl⟩ := h
    simp only [List.map_cons, ev_sc E hx]
    rw [scs_args xs h]
theorem run_bound {x : Operand} {d l y : Nat} {code : BoundsCode} (h : boundOf (some (ev x)) d = some l) (hy : l ≤ y) : (Instr.sliceBound (a.eval x) y code).run P w = .ok l w := by
  cases hx : ev x <;> simp only [hx, boundOf, reduceCtorEq] at h
  rename_i v
  have he := ev_sc E hx
  cases v <;> simp only [boundOf, reduceCtorEq] at h
  rename_i k i
  split at h
  · rename_i h0
    cases h
    have : i ≤ (y : Int) := by omega
    simp [Instr.sliceBound, he, asIntOf, h0, this]
  · cases h
end

theorem zero_sound {P : Program} {t : TypeId} {z : List AV} (h : zeroT P t = some z) : ∃ i v, P.info? t = some i ∧ i.zero = some v ∧ cells? (.sc v) = some z := by
  unfold zeroT at h
  cases hi : P.info? t with
  | none => simp [hi] at h
  | some i =>
    cases hz : i.zero with
    | none => simp [hi, hz] at h
    | some v => simp [hi, hz] at h; exact ⟨i, v, rfl, hz, h⟩
theorem places_sound {P : Program} : ∀ {fs : List Field}, knownT P fs = true → fs.mapM (fun f => (P.info? f.type).map fun i => (f.offset, i.size)) = some (placesT P fs)
  | [], _ => rfl
  | f :: fs, h => by
    simp only [knownT, List.all_cons, Bool.and_eq_true] at h
    have ih := places_sound (P := P) (fs := fs) h.2
    cases hi : P.info? f.type with
    | none => have := h.1; simp [szT, hi] at this
    | some i =>
      simp only [List.mapM_cons, hi, Option.map_some, ih, placesT, List.map_cons, szT, Option.getD_some]
      rfl
theorem elem_sound {P : Program} {t e : TypeId} (h : elemT P t = some e) : P.underlying t = some (.slice e) := by
  unfold elemT at h
  split at h
  · rename_i e' hu; cases h; exact hu
  · cases h
theorem field_sound {P : Program} {t : TypeId} {k : Nat} {f : Field} (h : fieldT P t k = some f) : ∃ fs, P.underlying t = some (.struct fs) ∧ fs[k]? = some f := by
  unfold fieldT at h
  split at h
  · rename_i fs hu; exact ⟨fs, hu, h⟩
  · cases h
end Go.Proofs.YtmhoefpienagkaaDoor

/- Operations that only yield a value: the law. -/
namespace Go.Proofs.YtmhoefpienagkaaDoor
open Go.RowKit

section
variable {P : Program} {γ : Gh} {L : List (Nat × Nat)} {w : World} {a : Act} {ev : Operand → AV} (E : ∀ x, AVR γ L w (a.eval x) (ev x))
include E

theorem vs_load {t : TypeId} {x : Operand} {v : AV} (h : cmdLoad P t (ev x) = some (.val v)) : ∃ c, (Instr.loadAt t (a.eval x)).run P w = .ok c w ∧ AVR γ L w c v := by
  unfold cmdLoad at h
  split at h
  · simp at h
  · simp at h
  · rename_i n xs hagg hsz hx
    simp only [Option.map_eq_some_iff, Cmd.val.injEq] at h
    obtain ⟨ys, ht, rfl⟩ := h
    have hE := E x
    rw [hx] at hE
    obtain ⟨b, o, e, hc⟩ := hE
    obtain ⟨rfl, hl⟩ := takeN_spec ht
    obtain ⟨cs, k1, k2, k3⟩ := (hc.take n).vals
    refine ⟨_, ?_, AVR.of_AVR1 (by unfold mkAgg; split <;> simp) (by
      have := V_mkAgg k2 k1
      unfold mkAgg at this ⊢
      split at this <;> exact this)⟩
    · have := run_load_agg (P := P) hagg hsz (by rw [k1.length, hl]) k3
      simp [Instr.loadAt, e, Instr.sureAddr, this]
  · rename_i y xs hagg hx
    simp only [Option.some.injEq, Cmd.val.injEq] at h
    subst h
    have hE := E x
    rw [hx] at hE
    obtain ⟨b, o, e, hc⟩ := hE
    simp only [VC] at hc
    obtain ⟨⟨u, h1, h2, h3, h4⟩, _⟩ := hc
    refine ⟨u, ?_, AVR.of_V h4⟩
    have := run_load_one (P := P) hagg h1
    simp [Instr.loadAt, e, Instr.sureAddr, this]
  · cases h

theorem vs_fieldAddr {t : TypeId} {x : Operand} {k : Nat} {v : AV} (h : cmdFieldAddr P t (ev x) k = some (.val v)) : ∃ c, (Instr.fieldAt t (a.eval x) k).run P w = .ok c w ∧ AVR γ L w c v := by
  unfold cmdFieldAddr at h
  split at h
  · rename_i f hf
    obtain ⟨fs, hu, hk⟩ := field_sound hf
    have hnz : ∀ n, szT P f.type = some n → (decide (0 < n)) = true → (do if (← sizeOf f.type) = 0 then pure false else pure true : Sem Bool).run P w = .ok true w := by
      intro n hn h0; simp only [Sem.run_bind, run_size' hn, Result.andThen_ok]; rw [if_neg (by simpa using Nat.ne_of_gt (by simpa using h0))]; rfl
    split at h
    · rename_i d off hz hx
      simp only [Option.some.injEq, Cmd.val.injEq] at h; subst h
      have hE := E x
      rw [hx] at hE
      obtain ⟨⟨b, e, hb⟩, hl⟩ := hE
      cases hs : szT P f.type with
      | none => simp [hs] at hz
      | some n =>
        have h0 : n ≠ 0 := by simp [hs] at hz; omega
        refine ⟨.pointer (some ⟨b, off + f.offset, none⟩), ?_, ⟨b, rfl, hb⟩, hl⟩
        simp [Instr.fieldAt, run_underlying hu, hk, e, Instr.sureAddr, fieldPlace, run_size' hs, h0, Addr.add_lit]
    · rename_i xs hz hx
      simp only [Option.some.injEq, Cmd.val.injEq] at h; subst h
      have hE := E x
      rw [hx] at hE
      obtain ⟨b, o, e, hc⟩ := hE
      cases hs : szT P f.type with
      | none => simp [hs] at hz
      | some n =>
        have h0 : n ≠ 0 := by simp [hs] at hz; omega
        refine ⟨.pointer (some ⟨b, o + f.offset, none⟩), ?_, b, _, rfl, hc.drop _⟩
        simp [Instr.fieldAt, run_underlying hu, hk, e, Instr.sureAddr, fieldPlace, run_size' hs, h0, Addr.add_lit]
    · cases h
  · cases h

theorem vs_field {t : TypeId} {x : Operand} {k : Nat} {v : AV} (h : cmdField P t (ev x) k = some (.val v)) : ∃ c, (Instr.field t (a.eval x) k).run P w = .ok c w ∧ AVR γ L w c v := by
  unfold cmdField at h
  split at h
  · rename_i u _ hx
    simp only [Option.map_eq_some_iff, Cmd.val.injEq] at h
    obtain ⟨r, hp, rfl⟩ := h
    exact ⟨r, by rw [ev_sc E hx]; exact peek_run hp w, rfl⟩
  · rename_i xs f hx hf
    obtain ⟨fs, hu, hk⟩ := field_sound hf
    have hE := E x
    rw [hx] at hE
    obtain ⟨cs, e, h1, hc⟩ := hE
    have hd : ∀ k, VL γ.pr w (cs.drop k) (xs.drop k) := fun k => VL.of_at (by simp [hc.length]) fun i y c hy hc' => by
      rw [List.getElem?_drop] at hy hc'
      obtain ⟨c', h1, h2⟩ := hc.at_ hy
      rw [h1] at hc'; cases hc'; exact h2
    split at h
    · rename_i n hagg hsz
      simp only [Option.map_eq_some_iff, Cmd.val.injEq] at h
      obtain ⟨ys, ht, rfl⟩ := h
      obtain ⟨rfl, hl⟩ := takeN_spec ht
      have hq := hd f.offset
      have hq2 : VL γ.pr w ((cs.drop f.offset).take n) ((xs.drop f.offset).take n) := VL.of_at (by simp [hc.length]) fun i y c hy hc' => by
        rw [List.getElem?_take] at hy hc'
        split at hy
        · rename_i hlt
          rw [if_pos hlt] at hc'
          obtain ⟨c', h1, h2⟩ := hq.at_ hy
          rw [h1] at hc'; cases hc'; exact h2
        · cases hy
      have h1' : ∀ u ∈ (cs.drop f.offset).take n, u.oneCell' = true := fun u hu => h1 u (List.mem_of_mem_drop (List.mem_of_mem_take hu))
      refine ⟨.agg ((cs.drop f.offset).take n).toArray, ?_, AVR.of_AVR1 (by unfold mkAgg; split <;> simp) (by
        have := V_mkAgg h1' hq2
        unfold mkAgg at this ⊢
        split at this <;> exact this)⟩
      simp [Instr.field, run_underlying hu, hk, e, asAgg, part, run_isAgg' hagg, run_size' hsz, List.drop_take]
    · rename_i y ys hagg hdr
      simp only [Option.some.injEq, Cmd.val.injEq] at h; subst h
      have hy : xs[f.offset]? = some y := by
        have : (xs.drop f.offset)[0]? = some y := by rw [hdr]; rfl
        simpa [List.getElem?_drop] using this
      obtain ⟨c, k1, k2⟩ := hc.at_ hy
      refine ⟨c, ?_, AVR.of_V k2⟩
      simp [Instr.field, run_underlying hu, hk, e, asAgg, part, run_isAgg' hagg, k1]
    · cases h
  · cases h

theorem vs_indexAddr {t : TypeId} {x i : Operand} {v : AV} (h : cmdIndexAddr P t (ev x) (ev i) = some (.val v)) : ∃ c, (Instr.indexAt t (a.eval x) (a.eval i)).run P w = .ok c w ∧ AVR γ L w c v := by
  unfold cmdIndexAddr at h
  split at h
  · rename_i tok size n xs k i' size' hx hi hs
    split at h
    · rename_i hc
      obtain ⟨rfl, h0, hn⟩ := hc
      simp only [Option.some.injEq, Cmd.val.injEq] at h; subst h
      simp only [Option.bind_eq_some_iff] at hs
      obtain ⟨e, he, hs⟩ := hs
      have hu := elem_sound he
      have hV : V γ.pr w (a.eval x) (.row tok size' n xs) := by
        have := E x; rw [hx] at this
        cases tok with
        | none => exact this
        | some p => exact this.1
      obtain ⟨A, cap, ex, hcap, _, hlen, hrow⟩ := hV
      obtain ⟨b, o, rfl, hcell⟩ := hrow (by omega)
      refine ⟨.pointer (some ⟨b, o + i'.toNat * size', none⟩), ?_, b, _, rfl, hcell.drop _⟩
      simp [Instr.indexAt, ev_sc E hi, asIntOf, run_underlying hu, ex, h0, hn, run_size' hs, Addr.add_lit]
    · cases h
  · rename_i d off k i' hx hi
    split at h
    · rename_i len size ha
      split at h
      · rename_i hc
        obtain ⟨h0, hn⟩ := hc
        simp only [Option.some.injEq, Cmd.val.injEq] at h; subst h
        unfold arrT at ha
        split at ha
        · rename_i len' e hu
          simp only [Option.map_eq_some_iff, Prod.mk.injEq] at ha
          obtain ⟨size', hs, rfl, rfl⟩ := ha
          have hE := E x
          rw [hx] at hE
          obtain ⟨⟨b, ex, hb⟩, hl⟩ := hE
          refine ⟨.pointer (some ⟨b, off + i'.toNat * size', none⟩), ?_, ⟨b, rfl, hb⟩, hl⟩
          simp [Instr.indexAt, ev_sc E hi, asIntOf, run_underlying hu, ex, Instr.sureAddr, h0, hn, run_size' hs, Addr.add_lit]
        · cases ha
      · cases h
    · cases h
  · cases h

omit E in
theorem rowOf_V {pr : Nat → Nat → Prop} {c : Value} {size n : Nat} {xs : List AV} : ∀ {x : AV}, rowOf size x = some (n, xs) → V pr w c (plain x) → V pr w c (.row none size n xs)
  | .row t size' n xs, h, hv => by
    simp only [rowOf] at h
    split at h
    · rename_i e; subst e
      simp only [Option.some.injEq, Prod.mk.injEq] at h
      obtain ⟨rfl, rfl⟩ := h
      exact hv
    · cases h
  | .mt, h, hv => by
    simp only [rowOf, Option.some.injEq, Prod.mk.injEq] at h
    obtain ⟨rfl, rfl⟩ := h
    obtain ⟨A, e⟩ := hv
    exact ⟨A, 0, e, Nat.le_refl _, by simp [maxLen], by simp, fun h => absurd h (by omega)⟩
  | .sc v, h, hv => by
    have hv : c = v := hv
    subst hv
    unfold rowOf at h
    split at h
    · rename_i hh; cases hh
    · rename_i hh; cases hh
    · rename_i hh
      injection hh with hh
      subst hh
      simp only [Option.some.injEq, Prod.mk.injEq] at h
      obtain ⟨rfl, rfl⟩ := h
      exact ⟨none, 0, rfl, Nat.le_refl _, by simp [maxLen], by simp, fun h => absurd h (by omega)⟩
    · cases h
  | .undef, h, _ => by simp [rowOf] at h
  | .agg _, h, _ => by simp [rowOf] at h
  | .tup _, h, _ => by simp [rowOf] at h
  | .ptr _ _, h, _ => by simp [rowOf] at h
  | .rptr _, h, _ => by simp [rowOf] at h

theorem vs_slice {t : TypeId} {x : Operand} {lo hi mx : Option Operand} {v : AV} (h : cmdSlice P t (ev x) (lo.map ev) (hi.map ev) (mx.map ev) = some (.val v)) :
    ∃ c, (Instr.sliceAt t (a.eval x) (lo.map a.eval) (hi.map a.eval) (mx.map a.eval)).run P w = .ok c w ∧ AVR γ L w c v := by
  unfold cmdSlice at h
  split at h
  case h_2 => cases h
  rename_i size he
  split at h
  case h_2 => cases h
  rename_i n xs hx
  have hV : V γ.pr w (a.eval x) (.row none size n xs) := rowOf_V hx (ev_V E)
  obtain ⟨A, cap, ex, hcap, hcap2, hlen, hrow⟩ := hV
  have key : ∀ (l h m : Nat), l ≤ h → h ≤ n → h ≤ m → m ≤ cap → V γ.pr w (.slice (if m = l then A else A.map (·.add (l * size))) (h - l) (m - l)) (.row none size (h - l) ((xs.drop (l * size)).take ((h - l) * size))) := by
    intro l h m h1 h2 h3 h4
    refine ⟨_, _, rfl, by omega, by omega, ?_, fun hpos => ?_⟩
    · rw [List.length_take, List.length_drop, hlen, ← Nat.sub_mul]
      exact Nat.min_eq_left (Nat.mul_le_mul_right _ (by omega))
    · obtain ⟨b, o, rfl, hc⟩ := hrow (by omega)
      rw [if_neg (by omega)]
      exact ⟨b, _, by simp only [Option.map_some, Addr.add_lit], (hc.drop _).take _⟩
  simp only [Option.bind_eq_some_iff] at he
  obtain ⟨e, he, hs⟩ := he
  have hu := elem_sound he
  split at h
  · rename_i l hh hlo hhi hmx
    split at h
    · rename_i hcond
      obtain ⟨c1, c2⟩ := hcond
      simp only [Option.some.injEq, Cmd.val.injEq] at h; subst h
      have hm : mx = none := by cases mx with | none => rfl | some _ => simp at hmx
      subst hm
      refine ⟨_, ?_, AVR.of_AVR1 (by simp) (key l hh cap c1 c2 (by omega) (Nat.le_refl _))⟩
      cases hi with
      | none =>
        simp [boundOf] at hhi; subst hhi
        simp only [Instr.sliceAt, Sem.run_bind, run_underlying hu, Result.andThen_ok, Instr.slice, ex, Option.map_none, Instr.sliceBounds, Sem.run_pure, Option.isSome_none, Bool.false_eq_true, if_false]
        rcases lo with _ | ql
        · simp [boundOf] at hlo; subst hlo; simp [run_size' hs]
        · have hl' := run_bound (P := P) (y := n) (code := .sliceB) E hlo c1
          simp [hl', run_size' hs]
      | some q =>
        have hb := run_bound (P := P) (y := cap) (code := .sliceAcap) E hhi (by omega)
        simp only [Instr.sliceAt, Sem.run_bind, run_underlying hu, Result.andThen_ok, Instr.slice, ex, Option.map_none, Option.map_some, Instr.sliceBounds, Sem.run_pure, Option.isSome_none, Bool.false_eq_true, if_false, if_true, hb]
        rcases lo with _ | ql
        · simp [boundOf] at hlo; subst hlo; simp [run_size' hs]
        · have hl' := run_bound (P := P) (y := hh) (code := .sliceB) E hlo c1
          simp [hl', run_size' hs]
    · cases h
  · rename_i l hh mv hlo hhi hmx
    split at h
    · rename_i m hm
      split at h
      · rename_i hcond
        obtain ⟨c1, c2, c3, c4⟩ := hcond
        simp only [Option.some.injEq, Cmd.val.injEq] at h; subst h
        cases mx with
        | none => simp at hmx
        | some q2 =>
          simp only [Option.map_some, Option.some.injEq] at hmx
          subst hmx
          cases hi with
          | none => simp at c4
          | some q =>
            have hb := run_bound (P := P) (y := m) (code := .slice3B) E hhi c2
            have hb2 := run_bound (P := P) (y := cap) (code := .slice3Acap) E hm (by omega)
            refine ⟨.slice (if m = l then A else A.map (·.add (l * size))) (hh - l) (m - l), ?_, ?_⟩
            · simp only [Instr.sliceAt, Sem.run_bind, run_underlying hu, Result.andThen_ok, Instr.slice, ex, Option.map_some, Instr.sliceBounds, Sem.run_pure, Option.isSome_some, if_true, hb, hb2]
              rcases lo with _ | ql
              · simp [boundOf] at hlo; subst hlo; simp [run_size' hs]
              · have hl' := run_bound (P := P) (y := hh) (code := .slice3C) E hlo c1
                simp [hl', run_size' hs]
            · by_cases hml : m = l
              · rw [if_pos hml, if_pos hml]
                exact ⟨A, by rw [show hh - l = 0 by omega, show m - l = 0 by omega]⟩
              · have := key l hh m c1 (by omega) c2 (by omega)
                rw [if_neg hml] at this ⊢
                rw [if_neg hml]
                exact this
      · cases h
    · cases h
  · cases h

theorem vs_len {t ty : TypeId} {x : Operand} {v : AV} (h : cmdLen P t ty (ev x) = some (.val v)) : ∃ c, (Builtin.len_ #[t] ty #[a.eval x]).run P w = .ok c w ∧ AVR γ L w c v := by
  unfold cmdLen at h
  split at h
  · rename_i u hx
    simp only [Option.map_eq_some_iff, Cmd.val.injEq] at h
    obtain ⟨r, hp, rfl⟩ := h
    exact ⟨r, by rw [ev_sc E hx]; exact peek_run hp w, rfl⟩
  · rename_i tok size n xs hx
    simp only [Option.map_eq_some_iff, Cmd.val.injEq] at h
    obtain ⟨e, he, rfl⟩ := h
    have hu := elem_sound he
    have hV : V γ.pr w (a.eval x) (.row tok size n xs) := by
      have := E x; rw [hx] at this
      cases tok with
      | none => exact this
      | some p => exact this.1
    obtain ⟨A, cap, ex, _⟩ := hV
    exact ⟨.int .i64 n, by simp [Builtin.len_, run_underlying hu, ex, goInt], rfl⟩
  · rename_i hx
    simp only [Option.map_eq_some_iff, Cmd.val.injEq] at h
    obtain ⟨e, he, rfl⟩ := h
    have hu := elem_sound he
    have hV := E x
    rw [hx] at hV
    obtain ⟨A, ex⟩ := hV
    exact ⟨.int .i64 0, by simp [Builtin.len_, run_underlying hu, ex, goInt], rfl⟩
  · cases h

theorem vs_build {t : TypeId} {ps : Array (Nat × Operand)} {v : AV} (h : cmdBuild P t (ps.toList.map fun p => (p.1, plain (ev p.2))) = some (.val v)) :
    ∃ c, (Instr.build t (ps.map fun (i, x) => (i, a.eval x))).run P w = .ok c w ∧ AVR γ L w c v := by
  unfold cmdBuild at h
  split at h
  · rename_i z fs hz hu
    split at h
    · rename_i hk
      simp only [Option.map_eq_some_iff, Cmd.val.injEq] at h
      obtain ⟨ys, hf, rfl⟩ := h
      obtain ⟨i, zv, hi, hzv, hzc⟩ := zero_sound hz
      obtain ⟨ds, e1, e2, e3⟩ := cells_sound (pr := γ.pr) (w := w) hzc (c := zv) rfl
      obtain ⟨es, k1, k2, k3, _⟩ := fill_sound (cs := zv.cells) hf (vp_parts E ps.toList) (by rw [e1]; exact e2) (by rw [e1]; exact e3)
      refine ⟨.agg es, ?_, ?_⟩
      · refine run_build w t _ es ?_
        unfold Program.built
        simp only [hi, hu, hzv, places_sound hk]
        simpa using k1
      · have := V_mkAgg k3 k2
        refine AVR.of_AVR1 (by unfold mkAgg; split <;> simp) ?_
        simp only [Array.toArray_toList] at this
        unfold mkAgg at this ⊢
        split at this <;> exact this
    · cases h
  · cases h
end
end Go.Proofs.YtmhoefpienagkaaDoor

/- Operations that turn memory: new variables, loads, stores, append. -/
namespace Go.Proofs.YtmhoefpienagkaaDoor
open Go.RowKit

theorem acells_sound {γ : Gh} {L : List (Nat × Nat)} {w : World} {c : Value} : ∀ {x : AV} {ys : List AV}, cells? x = some ys → AVR γ L w c x → ∃ ds : List Value, c.cells = ds.toArray ∧ AVRL γ L w ds ys ∧ ∀ d ∈ ds, d.oneCell' = true
  | .sc v, ys, h, hv => by
    simp only [cells?] at h
    split at h
    · rename_i hall
      simp only [Option.some.injEq] at h; subst h
      have hv : c = v := hv
      subst hv
      refine ⟨c.cells.toList, by simp, AVRL.of_at (by simp) fun i x u hx hu => ?_, fun d hd => List.all_eq_true.1 hall d hd⟩
      simp only [List.getElem?_map, hu, Option.map_some, Option.some.injEq] at hx
      subst hx; exact rfl
    · cases h
  | .agg xs, ys, h, hv => by
    simp only [cells?, Option.some.injEq] at h; subst h
    obtain ⟨cs, e, h1, h2⟩ := hv
    subst e
    refine ⟨cs, rfl, AVRL.of_at (by simp [h2.length]) fun i x u hx hu => ?_, h1⟩
    simp only [List.getElem?_map, Option.map_eq_some_iff] at hx
    obtain ⟨y, hy, rfl⟩ := hx
    obtain ⟨c', k1, k2⟩ := h2.at_ hy
    rw [hu] at k1; cases k1
    exact AVR1.of_V k2
  | .undef, ys, h, _ => by simp [cells?] at h
  | .tup _, ys, h, _ => by simp [cells?] at h
  | .ptr d off, ys, h, hv => by
    simp only [cells?, Option.some.injEq] at h; subst h
    obtain ⟨⟨b, e, h'⟩, h''⟩ := id hv
    subst e
    exact ⟨[_], rfl, ⟨_, _, rfl, hv, rfl⟩, by simp [Value.oneCell']⟩
  | .row t s n xs, ys, h, hv => by
    simp only [cells?, Option.some.injEq] at h; subst h
    have hV : V γ.pr w c (.row none s n xs) := by
      cases t with
      | none => exact hv
      | some p => simpa only [V] using hv.1
    obtain ⟨A, cap, e, h'⟩ := hV
    subst e
    exact ⟨[_], rfl, ⟨_, _, rfl, hv, rfl⟩, by simp [Value.oneCell']⟩
  | .mt, ys, h, hv => by
    simp only [cells?, Option.some.injEq] at h; subst h
    obtain ⟨A, e⟩ := id hv
    subst e
    exact ⟨[_], rfl, ⟨_, _, rfl, hv, rfl⟩, by simp [Value.oneCell']⟩
  | .rptr xs, ys, h, hv => by
    simp only [cells?, Option.some.injEq] at h; subst h
    obtain ⟨b, o, e, h'⟩ := id hv
    subst e
    exact ⟨[_], rfl, ⟨_, _, rfl, hv, rfl⟩, by simp [Value.oneCell']⟩

theorem wp_value {P : Program} {o : Oper} {a : Act} {w w' : World} {K : Act → World → Prop} {Q : Exit → Act → World → Prop} {c : Value} (h : (execOp a.eval o).run P w = .ok (.value c) w') (hk : K (a.put o.dst c) w') : o.wp P a w K Q := by
  unfold Oper.wp; rw [h]; exact hk
theorem wp_skip_ {P : Program} {o : Oper} {a : Act} {w w' : World} {K : Act → World → Prop} {Q : Exit → Act → World → Prop} (h : (execOp a.eval o).run P w = .ok .skip w') (hk : K (a.put o.dst undef) w') : o.wp P a w K Q := by
  unfold Oper.wp; rw [h]; exact hk

theorem VC.of_VL {pr : Nat → Nat → Prop} {w : World} {b : Nat} : ∀ {xs : List AV} {cs : List Value} {o : Nat}, VL pr w cs xs → (∀ j v, cs[j]? = some v → w.cell? ⟨b, o + j, none⟩ = some v ∧ pr b (o + j) ∧ v.oneCell' = true) → VC pr w b o xs
  | [], _, _, _, _ => trivial
  | x :: xs, _, o, ⟨c, cs, e, h1, h2⟩, h => by
    subst e
    obtain ⟨k1, k2, k3⟩ := h 0 c rfl
    refine ⟨⟨c, k1, k2, k3, h1⟩, VC.of_VL h2 fun j v hj => ?_⟩
    have := h (j + 1) v (by simpa using hj)
    rw [show o + (j + 1) = o + 1 + j by omega] at this; exact this

section
variable {P : Program} {γ : Gh} {w0 w : World} {s s' : St} {a : Act} {o : Oper} {F : List Nat} {K : Act → World → Prop} {Q : Exit → Act → World → Prop}

theorem step_val (hrel : Rel γ w0 s a w) {c : Value} {v : AV} (hr : (execOp a.eval o).run P w = .ok (.value c) w) (hv : AVR γ s.lens w c v) (hs : s.apply F o.dst (.val v) = some s')
    (hK : ∀ γ' a' w', GExt γ γ' → Rel γ' w0 s' a' w' → K a' w') : o.wp P a w K Q := by
  simp only [St.apply] at hs
  split at hs
  · exact wp_value hr (hK γ _ _ (GExt.refl γ) (hrel.put hs hv))
  · cases hs

theorem step_load (hrel : Rel γ w0 s a w) {t : TypeId} {x : Operand} {d off n : Nat} {agg : Bool} (ho : o.op = .load t x) (hx : s.eval x = .ptr d off) (h1 : isAggT P t = some agg) (h2 : agg = true → szT P t = some n)
    (hs : s.apply F o.dst (.load d off n agg) = some s') (hK : ∀ γ' a' w', GExt γ γ' → Rel γ' w0 s' a' w' → K a' w') : o.wp P a w K Q := by
  have hE := hrel.eval x
  rw [hx] at hE
  obtain ⟨⟨b, e, hb⟩, _⟩ := hE
  simp only [St.apply] at hs
  split at hs
  case h_2 => cases hs
  rename_i ty xs hobj _
  obtain ⟨_, b', cs, k2, k3, k4, k5, k6, k7⟩ := hrel.obj d ty xs hobj
  have : b' = b := by rw [hb] at k2; exact (Option.some.inj k2).symm
  subst this
  have hcell : ∀ j v, cs[j]? = some v → w.cell? ⟨b', j, none⟩ = some v := fun j v hj => by
    rw [cell_of_row w b' j cs.toArray ty (0, 0) k4]; simpa using hj
  have hop : execOp a.eval o = (do pure (Next.value (← Instr.loadAt t (a.eval x))) : Sem Next) := by simp only [execOp, ho]
  cases agg with
  | true =>
    simp only [Option.bind_eq_some_iff] at hs
    obtain ⟨ys, ht, hs⟩ := hs
    split at hs
    case h_2 => cases hs
    obtain ⟨rfl, hl⟩ := takeN_spec ht
    have hsub : AVRL γ s.lens w ((cs.drop off).take n) ((xs.drop off).take n) := AVRL.of_at (by simp [k5.length]) fun i y c hy hc => by
      rw [List.getElem?_take] at hy hc
      split at hy
      · rename_i hlt
        rw [if_pos hlt] at hc
        rw [List.getElem?_drop] at hy hc
        obtain ⟨c', q1, q2⟩ := k5.at_ hy
        rw [hc] at q1; cases q1; exact q2
      · cases hy
    have hV := hsub.plain
    have hone : ∀ u ∈ (cs.drop off).take n, u.oneCell' = true := fun u hu => k6 u (List.mem_of_mem_drop (List.mem_of_mem_take hu))
    have hrun := run_load_agg (P := P) (w := w) (b := b') (o := off) (cs := (cs.drop off).take n) h1 (h2 rfl) (by rw [hsub.length, hl]) (fun j v hj => by
      rw [List.getElem?_take] at hj
      split at hj
      · rw [List.getElem?_drop] at hj; exact hcell _ _ hj
      · cases hj)
    refine wp_value (c := .agg ((cs.drop off).take n).toArray) (w' := w) ?_ (hK γ _ _ (GExt.refl γ) (hrel.put hs (AVR.of_AVR1 (by unfold mkAgg; split <;> simp) (by
      have := V_mkAgg hone hV
      unfold mkAgg at this ⊢
      split at this <;> exact this))))
    rw [hop]
    exact v_run (by simp [Instr.loadAt, e, Instr.sureAddr, hrun])
  | false =>
    simp only at hs
    split at hs
    case h_2 => cases hs
    rename_i y rest hdr
    split at hs
    case h_2 => cases hs
    have hy : xs[off]? = some y := by
      have : (xs.drop off)[0]? = some y := by rw [hdr]; rfl
      simpa [List.getElem?_drop] using this
    obtain ⟨c, q1, q2⟩ := k5.at_ hy
    have hone := k6 c (List.mem_of_getElem? q1)
    have hrun := run_load_one (P := P) h1 (hcell off c q1)
    refine wp_value (c := c) (w' := w) ?_ (hK γ _ _ (GExt.refl γ) (hrel.put hs (AVR.of_AVR1 (fun zs hz => ?_) q2)))
    · rw [hop]
      exact v_run (by simp [Instr.loadAt, e, Instr.sureAddr, hrun])
    · subst hz
      obtain ⟨cs', e', _⟩ := q2
      subst e'; simp [Value.oneCell'] at hone

theorem setRow_cell_other (w : World) (g : Nat) (cs : Array Value) {b i : Nat} (h : b ≠ g) : (w.setRow g cs).cell? ⟨b, i, none⟩ = w.cell? ⟨b, i, none⟩ :=
  World.cell?_of_block (setRow_other w g b cs h)
theorem setRow_below {B g : Nat} {w : World} (cs : Array Value) (h : B ≤ g) : Below B w (w.setRow g cs) :=
  ⟨rfl, rfl, rfl, by simp [World.setRow], fun k hk => setRow_other w g k cs (by omega)⟩
theorem AVRL.append {γ : Gh} {L : List (Nat × Nat)} {w : World} : ∀ {xs ys : List AV} {cs ds : List Value}, AVRL γ L w cs xs → AVRL γ L w ds ys → AVRL γ L w (cs ++ ds) (xs ++ ys)
  | [], _, _, _, h, h' => by simp only [AVRL] at h; subst h; simpa using h'
  | x :: xs, _, _, _, ⟨c, cs', e, h1, h2⟩, h' => by subst e; exact ⟨c, _, rfl, h1, AVRL.append h2 h'⟩
theorem AVRL.drop {γ : Gh} {L : List (Nat × Nat)} {w : World} {xs : List AV} {cs : List Value} (h : AVRL γ L w cs xs) (k : Nat) : AVRL γ L w (cs.drop k) (xs.drop k) :=
  AVRL.of_at (by simp [h.length]) fun i y c hy hc => by
    rw [List.getElem?_drop] at hy hc
    obtain ⟨c', q1, q2⟩ := h.at_ hy
    rw [hc] at q1; cases q1; exact q2
theorem AVRL.take {γ : Gh} {L : List (Nat × Nat)} {w : World} {xs : List AV} {cs : List Value} (h : AVRL γ L w cs xs) (k : Nat) : AVRL γ L w (cs.take k) (xs.take k) :=
  AVRL.of_at (by simp [h.length]) fun i y c hy hc => by
    rw [List.getElem?_take] at hy hc
    split at hy
    · rename_i hlt
      rw [if_pos hlt] at hc
      obtain ⟨c', q1, q2⟩ := h.at_ hy
      rw [hc] at q1; cases q1; exact q2
    · cases hy

theorem step_store (hrel : Rel γ w0 s a w) {t : TypeId} {x v : Operand} {d off : Nat} {ys : List AV} (ho : o.op = .store t x v) (hx : s.eval x = .ptr d off) (h2 : szT P t = some ys.length) (hc : cells? (s.eval v) = some ys)
    (hs : s.apply F o.dst (.store d off ys) = some s') (hK : ∀ γ' a' w', GExt γ γ' → Rel γ' w0 s' a' w' → K a' w') : o.wp P a w K Q := by
  have hE := hrel.eval x
  rw [hx] at hE
  obtain ⟨⟨b, e, hb⟩, hlen⟩ := hE
  simp only [St.apply] at hs
  split at hs
  case h_2 => cases hs
  rename_i ty xs hobj _ _
  split at hs
  case h_2 => cases hs
  rename_i hle hdst _
  have hle : off + ys.length ≤ xs.length := by simpa [Nat.ble_eq] using hle
  simp only [Option.some.injEq] at hs
  obtain ⟨k1, b', cs, k2, k3, k4, k5, k6, k7⟩ := hrel.obj d ty xs hobj
  have : b' = b := by rw [hb] at k2; exact (Option.some.inj k2).symm
  subst this
  obtain ⟨ds, e1, e2, e3⟩ := acells_sound hc (hrel.eval v)
  have hl1 := k5.length
  have hl2 := e2.length
  have hrun := run_storeCells_at P b' off ty ds 0 cs.toArray w k4 (by simp; omega) e3
  simp only [Nat.add_zero] at hrun
  have hop : execOp a.eval o = (do Instr.storeAt t (a.eval x) (a.eval v); pure Next.skip : Sem Next) := by simp only [execOp, ho]
  refine wp_skip_ (w' := w.setRow b' (cs.take off ++ ds ++ cs.drop (off + ds.length)).toArray) ?_ ?_
  · rw [hop]
    simp [Instr.storeAt, e, Instr.sureAddr, storeVar, run_size' h2, e1, hl2, hrun]
  · rw [hdst]
    refine hK γ _ _ (GExt.refl γ) ?_
    subst hs
    have hkept : ∀ d', Kept γ γ s.lens s.lens w (w.setRow b' (cs.take off ++ ds ++ cs.drop (off + ds.length)).toArray) d' := fun d' => .inl ⟨rfl, rfl, fun hne g hg => setRow_other w b' g _ fun e => by
      subst e
      have := hrel.inj d' d g hg hb
      subst this
      exact hne k1⟩
    have hV : ∀ b i u, γ.pr b i → w.cell? ⟨b, i, none⟩ = some u → γ.pr b i ∧ (w.setRow b' (cs.take off ++ ds ++ cs.drop (off + ds.length)).toArray).cell? ⟨b, i, none⟩ = some u := fun b i u hp hcell => by
      refine ⟨hp, ?_⟩
      rw [setRow_cell_other w b' _ (fun e => by subst e; exact k7 i hp)]; exact hcell
    have hsz : (w.setRow b' (cs.take off ++ ds ++ cs.drop (off + ds.length)).toArray).heap.size = w.heap.size := by simp [World.setRow]
    refine ⟨hrel.size, hrel.defers, hrel.below.trans (setRow_below _ k3), by rw [hsz]; exact hrel.base, fun t' x' hx' => (hrel.slot t' x' hx').frame rfl hV fun d' _ => hkept d', ?_, hrel.len, hrel.inj, by rw [hsz]; exact hrel.blt, by rw [hsz]; exact hrel.plt, fun k o hk => ⟨by rw [setRow_other w b' k _ (fun e => by subst e; exact (hrel.frm _ o hk).2 d hb)]; exact (hrel.frm k o hk).1, (hrel.frm k o hk).2⟩, hrel.gl⟩
    intro d' ty' xs' hx'
    rw [look_cons] at hx'
    by_cases hd : d = d'
    · rw [if_pos hd] at hx'
      simp only [Option.some.injEq, Prod.mk.injEq] at hx'
      obtain ⟨rfl, rfl⟩ := hx'
      subst hd
      refine ⟨k1, b', _, hb, k3, setRow_heap w b' cs.toArray _ ty (0, 0) k4, ?_, ?_, k7⟩
      · rw [← hl2]
        exact (((k5.frame rfl hV fun d' _ => hkept d').take off).append (e2.frame rfl hV fun d' _ => hkept d')).append ((k5.frame rfl hV fun d' _ => hkept d').drop _)
      · intro c hc'
        simp only [List.mem_append] at hc'
        rcases hc' with (hc' | hc') | hc'
        · exact k6 c (List.mem_of_mem_take hc')
        · exact e3 c hc'
        · exact k6 c (List.mem_of_mem_drop hc')
    · rw [if_neg hd] at hx'
      obtain ⟨q1, b2, cs2, q2, q3, q4, q5, q6, q7⟩ := hrel.obj d' ty' xs' hx'
      refine ⟨q1, b2, cs2, q2, q3, ?_, q5.frame rfl hV fun d' _ => hkept d', q6, q7⟩
      rw [setRow_other w b' b2 _ fun e => by subst e; exact hd (hrel.inj d d' b2 hb q2)]; exact q4

theorem fresh_block (hrel : Rel γ w0 s a w) : ∀ b, some w.heap.size = some b → ∀ d', γ.blk d' ≠ some b := fun b hb d' h => by
  have := hrel.blt d' b h
  cases hb; omega

theorem fresh_fr (hrel : Rel γ w0 s a w) {g : Nat} (hg : w.heap.size ≤ g) : γ.fr g = none := by
  cases h : γ.fr g with
  | none => rfl
  | some o => have := (Array.getElem?_eq_some_iff.1 (hrel.frm g o h).1).1; omega
/-- a new variable -/
theorem rel_box (hrel : Rel γ w0 s a w) {d ty : Nat} {xs : List AV} {cs : List Value} (hab : s.absent d = true) (hlt : d < s.n)
    (hcs : ∀ γ' w', Rel γ' w0 s a w' → AVRL γ' s.lens w' cs xs) (h1 : ∀ c ∈ cs, c.oneCell' = true) :
    ∃ γ', GExt γ γ' ∧ Rel γ' w0 { s with slots := (d, .ptr d 0) :: s.slots, objs := (d, (ty, xs)) :: s.objs } (a.put (some d) (.pointer (some ⟨w.heap.size, 0, none⟩))) (w.alloc (.cells cs.toArray ty)) := by
  have hA := Absent.of hab
  have r1 : Rel γ w0 s a (w.alloc (.cells cs.toArray ty)) := hrel.grow_world γ.pr ((Below.refl _ _).alloc (Nat.le_refl _) _) (fun _ _ h => h) (fun _ _ h => .inl h)
  have r2 := r1.name hA (some w.heap.size) (fun b hb => ⟨by cases hb; simp, fresh_block hrel b hb⟩) (fun b hb => by cases hb; exact fresh_fr hrel (Nat.le_refl _))
  have hc := hcs _ _ r2
  refine ⟨{ γ with pr := γ.pr, blk := fun d' => if d' = d then some w.heap.size else γ.blk d' }, ⟨rfl, fun _ _ _ h => h, rfl⟩, ?_⟩
  have r3 := r2.put (dst := some d) (x := .ptr d 0) (c := .pointer (some ⟨w.heap.size, 0, none⟩)) (s' := { s with slots := (d, .ptr d 0) :: s.slots })
    (by simp only [St.put]; rw [show Nat.blt d s.n = true by simpa [Nat.blt_eq] using hlt]) ⟨⟨w.heap.size, rfl, by simp⟩, hA.len⟩
  refine { r3 with obj := fun d' ty' xs' hx' => ?_ }
  rw [look_cons] at hx'
  by_cases hd : d = d'
  · rw [if_pos hd] at hx'
    simp only [Option.some.injEq, Prod.mk.injEq] at hx'
    obtain ⟨rfl, rfl⟩ := hx'
    subst hd
    exact ⟨hA.len, w.heap.size, cs, by simp, hrel.base, heap_alloc_new w _, hc, h1, fun i hp => absurd (hrel.plt _ _ hp) (by omega)⟩
  · rw [if_neg hd] at hx'
    exact r3.obj d' ty' xs' hx'

/-- a new row -/
theorem rel_fresh0 (hrel : Rel γ w0 s a w) {w' : World} {d e size n : Nat} {xs : List AV} {c : Value} {pr' : Nat → Nat → Prop} (hab : s.absent d = true) (hbel : Below w.heap.size w w')
    (h1 : ∀ b i, γ.pr b i → pr' b i) (h2 : ∀ b i, pr' b i → γ.pr b i ∨ w.heap.size ≤ b ∧ b < w'.heap.size)
    (hV : V pr' w' c (.row none size n xs))
    (hown : (∃ A, c = .slice A 0 0 ∧ n = 0) ∨ ∃ us g, w'.ownsRow w.heap.size e size c n us ∧ (c.ownBlock = none ∨ c.ownBlock = some g) ∧ w.heap.size ≤ g ∧ g < w'.heap.size ∧ ∀ i, pr' g i → i < n * size) :
    ∃ γ', GExt γ γ' ∧ γ'.pr = pr' ∧ Rel γ' w0 { s with lens := (d, n * size) :: s.lens } a w' ∧ AVR1 γ' ((d, n * size) :: s.lens) w' c (.row (some (d, e)) size n xs) := by
  have hA := Absent.of hab
  have r1 := hrel.grow_world pr' hbel h1 h2
  have hlen : look ((d, n * size) :: s.lens) d = some (n * size) := by rw [look_cons, if_pos rfl]
  have hV' : V pr' w' c (.row (some (d, e)) size n xs) := by simpa only [V] using hV
  have hold : ∀ b i, b < γ.base → pr' b i → γ.pr b i := fun b i hb hp => by
    rcases h2 b i hp with h | ⟨h, _⟩
    · exact h
    · have := hrel.base; omega
  rcases hown with h0 | ⟨us, g, ho, hg, hg1, hg2, hg3⟩
  · have r2 := r1.name hA none (by simp) (by simp)
    have r3 := r2.setLen (len := n * size) hA (by simp)
    exact ⟨{ γ with pr := pr', blk := fun d' => if d' = d then none else γ.blk d' }, ⟨rfl, hold, rfl⟩, rfl, r3, ⟨hV', fun len hl => by
      rw [hlen] at hl; cases hl; exact ⟨Nat.le_refl _, fun _ => .inl h0⟩⟩⟩
  · have r2 := r1.name hA (some g) (fun b hb => ⟨by cases hb; exact hg2, fun d' h => by have := hrel.blt d' b h; cases hb; omega⟩) (fun b hb => by cases hb; exact fresh_fr hrel hg1)
    have r3 := r2.setLen (len := n * size) hA (fun g' hg' => by simp at hg'; subst hg'; exact ⟨Nat.le_trans hrel.base hg1, hg3⟩)
    refine ⟨{ γ with pr := pr', blk := fun d' => if d' = d then some g else γ.blk d' }, ⟨rfl, hold, rfl⟩, rfl, r3, ⟨hV', fun len hl => ?_⟩⟩
    rw [hlen] at hl; cases hl
    refine ⟨Nat.le_refl _, fun _ => .inr ⟨us, ⟨ho.1, ?_⟩, fun g' hg' => ?_⟩⟩
    · rcases ho.2 with h | ⟨g', cap, cur, q1, q2, q3⟩
      · exact .inl h
      · exact .inr ⟨g', cap, cur, q1, Nat.le_trans hrel.base q2, q3⟩
    · rcases hg with hg | hg
      · rw [hg] at hg'; cases hg'
      · rw [hg] at hg'; cases hg'; simp
theorem rel_fresh (hrel : Rel γ w0 s a w) {w' : World} {d e size n : Nat} {xs : List AV} {c : Value} {pr' : Nat → Nat → Prop} (hab : s.absent d = true) (hlt : d < s.n) (hbel : Below w.heap.size w w')
    (h1 : ∀ b i, γ.pr b i → pr' b i) (h2 : ∀ b i, pr' b i → γ.pr b i ∨ w.heap.size ≤ b ∧ b < w'.heap.size)
    (hV : V pr' w' c (.row none size n xs))
    (hown : (∃ A, c = .slice A 0 0 ∧ n = 0) ∨ ∃ us g, w'.ownsRow w.heap.size e size c n us ∧ (c.ownBlock = none ∨ c.ownBlock = some g) ∧ w.heap.size ≤ g ∧ g < w'.heap.size ∧ ∀ i, pr' g i → i < n * size) :
    ∃ γ', GExt γ γ' ∧ Rel γ' w0 { s with slots := (d, .row (some (d, e)) size n xs) :: s.slots, lens := (d, n * size) :: s.lens } (a.put (some d) c) w' := by
  obtain ⟨γ', e1, _, e3, e4⟩ := rel_fresh0 hrel hab hbel h1 h2 hV hown
  exact ⟨γ', e1, e3.put (dst := some d) (x := .row (some (d, e)) size n xs) (c := c) (by simp only [St.put]; rw [show Nat.blt d s.n = true by simpa [Nat.blt_eq] using hlt]) e4⟩
end
end Go.Proofs.YtmhoefpienagkaaDoor

/- append, new rows, calls. -/
namespace Go.Proofs.YtmhoefpienagkaaDoor
open Go.RowKit

section
variable {P : Program} (w : World)
theorem grown_row (e : TypeId) (size need cap : Nat) (z : Value) (olds news : List Value) (hz : z.cells.size = size) (hl : (olds ++ news).length = need * size) (hc : need ≤ cap) (hm : cap ≤ maxLen) :
    (w.drew.alloc (.cells (olds.toArray ++ news.toArray ++ Builtin.zeroCells z.cells (cap - need)) e)).ownsRow w.heap.size e size (.slice (some ⟨w.heap.size, 0, none⟩) need cap) need (olds ++ news) := by
  refine ⟨hl, .inr ⟨w.heap.size, cap, _, rfl, Nat.le_refl _, heap_alloc_new w.drew _, hc, hm, ?_, ?_⟩⟩
  · simp only [Array.size_append, List.size_toArray, size_zeroCells, hz]
    rw [List.length_append] at hl
    rw [hl, ← Nat.add_mul]
    congr 1; omega
  · simp only [Array.toList_append]
    rw [← hl]
    exact List.take_left
theorem below_drew_alloc (o : Obj) : Below w.heap.size w (w.drew.alloc o) := ((Below.refl _ w).drew).alloc (Nat.le_refl _) o

variable (t ty e : TypeId) (i : TypeInfo) (z : Value) (size bytes : Nat) (ht : P.underlying t = some (.slice e)) (hi : P.info? e = some i) (hz : i.zero = some z)
    (hsize : i.size = size) (hby : i.bytes = bytes) (hzs : z.cells.size = size)
    (ad : Addr) (m cp : Nat) (news : List Value) (hl : news.length = m * size) (hnews : ∀ j u, news[j]? = some u → w.cell? (ad.add j) = some u) (hm : 0 < m)
include ht hi hz hsize hby hzs hl hnews hm
theorem append_new (A0 : Option Addr) (h63 : m ≤ maxLen) (hbytes : m * bytes ≤ 140737488355328) :
    ∃ cap w', (Builtin.append_ #[t, t] ty #[.slice A0 0 0, .slice (some ad) m cp]).run P w = .ok (.slice (some ⟨w.heap.size, 0, none⟩) m cap) w' ∧ m ≤ cap ∧
      w'.ownsRow w.heap.size e size (.slice (some ⟨w.heap.size, 0, none⟩) m cap) m news ∧ Below w.heap.size w w' ∧ w.heap.size < w'.heap.size := by
  subst hsize; subst hby
  have hsmall : m ≤ 9223372036854775807 := by simp only [maxLen] at h63; omega
  have hge := grownCap_ge w m 0 e
  have hcm : grownCap w m 0 e ≤ maxLen := grownCap_le_maxLen w m 0 e h63
  have hg := grown_row w e i.size m (grownCap w m 0 e) z [] news hzs (by simpa using hl) hge hcm
  simp only [List.nil_append, Array.empty_append] at hg
  rcases A0 with _ | a0
  · have hr := run_append_nil (P := P) w t ty e i z ht hi hz ad m cp news hl hnews hm (by omega) (by omega)
    exact ⟨_, _, hr, hge, hg, below_drew_alloc w _, by simp⟩
  · have hr := run_append_grow (P := P) w t ty e i z ht hi hz a0 0 0 [] (by simp) (by simp) ad m cp news hl hnews (by omega) (by omega) (growslice_fits (by omega) (by simpa using hbytes))
    simp only [Nat.zero_add, Array.empty_append] at hr
    exact ⟨_, _, hr, hge, hg, below_drew_alloc w _, by simp⟩
theorem append_more (base : Nat) (hsz : 0 < size) (c : Value) (n : Nat) (us : List Value) (hown : w.ownsRow base e size c n us) (h1 : ∀ u ∈ news, u.oneCell' = true) (h63 : n + m ≤ maxLen) (hbytes : (n + m) * bytes ≤ 140737488355328) :
    ∃ g cap w', (Builtin.append_ #[t, t] ty #[c, .slice (some ad) m cp]).run P w = .ok (.slice (some ⟨g, 0, none⟩) (n + m) cap) w' ∧ n + m ≤ cap ∧ cap ≤ maxLen ∧ g < w'.heap.size ∧
      ((g = w.heap.size ∧ Below w.heap.size w w' ∧ w'.ownsRow w.heap.size e size (.slice (some ⟨g, 0, none⟩) (n + m) cap) (n + m) (us ++ news)) ∨
       (c.ownBlock = some g ∧ w.grownBy w' (some g) ∧ w'.ownsRow base e size (.slice (some ⟨g, 0, none⟩) (n + m) cap) (n + m) (us ++ news) ∧ ∀ j u, j < n * size → w.cell? ⟨g, j, none⟩ = some u → w'.cell? ⟨g, j, none⟩ = some u)) := by
  have hsmall : n + m ≤ 9223372036854775807 := by simp only [maxLen] at h63; omega
  have hlen : (us ++ news).length = (n + m) * size := by rw [List.length_append, hown.1, hl, Nat.add_mul]
  rcases hown.2 with ⟨rfl, rfl⟩ | ⟨g, cap, cur, rfl, hbg, hg, hnc, hcm, hcs, htake⟩
  · have hus : us = [] := List.eq_nil_of_length_eq_zero (by simpa using hown.1)
    subst hus
    obtain ⟨cap, w', hr, h2, h3, h4, h5⟩ := append_new w t ty e i z size bytes ht hi hz hsize hby hzs ad m cp news hl hnews hm none (by omega) (by simpa using hbytes)
    refine ⟨w.heap.size, cap, w', by simpa using hr, by omega, ?_, h5, .inl ⟨rfl, h4, by simpa using h3⟩⟩
    rcases h3.2 with ⟨hh, _⟩ | ⟨_, cap', _, hh, _, _, _, hh2, _⟩
    · cases hh
    · cases hh; exact hh2
  · by_cases hroom : n + m ≤ cap
    · obtain ⟨w', hr, h2, h3⟩ := run_append_fits (P := P) w base t ty e i size ht hi hsize g n cap us hown ad m cp news hl hnews h1 hroom
      refine ⟨g, cap, w', hr, hroom, hcm, ?_, .inr ⟨rfl, h3, h2, fun j u hj hc => ?_⟩⟩
      · exact Nat.lt_of_lt_of_le (Array.getElem?_eq_some_iff.1 hg).1 h3.size
      · have hu : us[j]? = some u := by
          have hjl : j < us.length := by rw [hown.1]; exact hj
          have := hown.cells (g := g) rfl j us[j] (List.getElem?_eq_getElem hjl)
          rw [Addr.add_lit, Nat.zero_add, hc] at this
          rw [List.getElem?_eq_getElem hjl]; exact this.symm
        have := h2.cells (g := g) rfl j u (by rw [List.getElem?_append_left (by rw [hown.1]; exact hj)]; exact hu)
        rwa [Addr.add_lit, Nat.zero_add] at this
    · subst hsize; subst hby
      have holds : ∀ j u, us[j]? = some u → w.cell? ((⟨g, 0, none⟩ : Addr).add j) = some u := hown.cells (g := g) rfl
      have hr := run_append_grow (P := P) w t ty e i z ht hi hz ⟨g, 0, none⟩ n cap us hown.1 holds ad m cp news hl hnews (by omega) (by omega) (growslice_fits (by omega) hbytes)
      have hge := grownCap_ge w (n + m) cap e
      have hcm' : grownCap w (n + m) cap e ≤ maxLen := grownCap_le_maxLen w (n + m) cap e h63
      exact ⟨w.heap.size, _, _, hr, hge, hcm', by simp, .inl ⟨rfl, below_drew_alloc w _, grown_row w e i.size (n + m) _ z us news hzs hlen hge hcm'⟩⟩
end
theorem append_none {P : Program} (w : World) (t ty e : TypeId) (i : TypeInfo) (ht : P.underlying t = some (.slice e)) (hi : P.info? e = some i) (A : Option Addr) (n cap : Nat) (hc : n ≤ cap) (A' : Option Addr) (c' : Nat) :
    (Builtin.append_ #[t, t] ty #[.slice A n cap, .slice A' 0 c']).run P w = .ok (.slice A n cap) w := by
  have hf : (Builtin.firstCells i.size 0 (.slice A' 0 c')).run P w = .ok #[] w := by
    cases A' <;> simp [Builtin.firstCells, loadCells, loadCellsFrom]
  cases A <;> simp [Builtin.append_, run_underlying ht, sizeOf, typeInfo, hi, Builtin.lenOf, hc, hf, storeCells]
theorem row_vals {pr : Nat → Nat → Prop} {w : World} {c : Value} {tok : Option (Nat × Nat)} {size m : Nat} {ys : List AV} (h : V pr w c (.row tok size m ys)) :
    ∃ A cp news, c = .slice A m cp ∧ m ≤ cp ∧ ys.length = m * size ∧ (m = 0 ∨ ∃ ad, A = some ad ∧ news.length = m * size ∧ VL pr w news ys ∧ (∀ u ∈ news, u.oneCell' = true) ∧ ∀ j u, news[j]? = some u → w.cell? (ad.add j) = some u) := by
  obtain ⟨A, cap, e, h1, h2, h3, h4⟩ := h
  rcases Nat.eq_zero_or_pos m with h0 | h0
  · exact ⟨A, cap, [], e, h1, h3, .inl h0⟩
  · obtain ⟨b, o, e', hc⟩ := h4 h0
    obtain ⟨cs, k1, k2, k3⟩ := hc.vals
    exact ⟨A, cap, cs, e, h1, h3, .inr ⟨_, e', by rw [k1.length, h3], k1, k2, fun j u hj => by rw [Addr.add_lit]; exact k3 j u hj⟩⟩

/-- a row that lies in a block -/
theorem V_own {pr : Nat → Nat → Prop} {w : World} {base e size n g cap : Nat} {us : List Value} {xs : List AV} (h : w.ownsRow base e size (.slice (some ⟨g, 0, none⟩) n cap) n us) (hc : n ≤ cap) (hm : cap ≤ maxLen)
    (hl : VL pr w us xs) (h1 : ∀ u ∈ us, u.oneCell' = true) (hp : ∀ i, i < n * size → pr g i) (tok : Option (Nat × Nat)) : V pr w (.slice (some ⟨g, 0, none⟩) n cap) (.row tok size n xs) := by
  refine ⟨_, _, rfl, hc, hm, by rw [← hl.length, h.1], fun _ => ⟨g, 0, rfl, VC.of_VL hl fun j v hj => ?_⟩⟩
  have hlt : j < us.length := (List.getElem?_eq_some_iff.1 hj).1
  have := h.cells (g := g) rfl j v hj
  rw [Addr.add_lit] at this
  exact ⟨this, hp _ (by rw [Nat.zero_add, ← h.1]; exact hlt), h1 v (List.mem_of_getElem? hj)⟩
end Go.Proofs.YtmhoefpienagkaaDoor

/- append and new rows at the relation; the contract of a function; a call. -/
namespace Go.Proofs.YtmhoefpienagkaaDoor
open Go.RowKit

section
variable {P : Program} {γ : Gh} {w0 w w' : World} {s s' : St} {a : Act} {o : Oper} {F : List Nat} {K : Act → World → Prop} {Q : Exit → Act → World → Prop}

theorem rowOf_sound {pr : Nat → Nat → Prop} {c : Value} {size m : Nat} {ys : List AV} : ∀ {x : AV}, rowOf size x = some (m, ys) → V pr w c (plain x) →
    ∃ A cp, c = .slice A m cp ∧ ys.length = m * size ∧ (m = 0 ∨ ∃ ad news, A = some ad ∧ news.length = m * size ∧ VL pr w news ys ∧ (∀ u ∈ news, u.oneCell' = true) ∧ ∀ j u, news[j]? = some u → w.cell? (ad.add j) = some u)
  | .row t size' n xs, h, hv => by
    simp only [rowOf] at h
    split at h
    · rename_i e; subst e
      simp only [Option.some.injEq, Prod.mk.injEq] at h
      obtain ⟨rfl, rfl⟩ := h
      obtain ⟨A, cp, news, e, _, h2, h3⟩ := row_vals (tok := none) hv
      refine ⟨A, cp, e, h2, h3.imp id fun ⟨ad, k⟩ => ⟨ad, news, k⟩⟩
    · cases h
  | .mt, h, hv => by
    simp only [rowOf, Option.some.injEq, Prod.mk.injEq] at h
    obtain ⟨rfl, rfl⟩ := h
    obtain ⟨A, e⟩ := hv
    exact ⟨A, 0, e, by simp, .inl rfl⟩
  | .sc v, h, hv => by
    have hv : c = v := hv
    subst hv
    unfold rowOf at h
    split at h
    · rename_i hh; cases hh
    · rename_i hh; cases hh
    · rename_i hh
      injection hh with hh
      subst hh
      simp only [Option.some.injEq, Prod.mk.injEq] at h
      obtain ⟨rfl, rfl⟩ := h
      exact ⟨none, 0, rfl, by simp, .inl rfl⟩
    · cases h
  | .undef, h, _ => by simp [rowOf] at h
  | .agg _, h, _ => by simp [rowOf] at h
  | .tup _, h, _ => by simp [rowOf] at h
  | .ptr _ _, h, _ => by simp [rowOf] at h
  | .rptr _, h, _ => by simp [rowOf] at h

theorem Rel.sameLens (h : Rel γ w0 s a w) {L : List (Nat × Nat)} (hL : ∀ d, look L d = look s.lens d) : Rel γ w0 { s with lens := L } a w := by
  refine h.frame (γ' := γ) L rfl (fun b i u hp hc => ⟨hp, hc⟩) (fun d _ _ _ _ => .inl ⟨rfl, hL d, fun _ _ _ => rfl⟩) (fun d _ _ _ _ _ => .inl ⟨rfl, hL d, fun _ _ _ => rfl⟩) ?_ (fun d len g h1 h2 => h.len d len g (by rw [← hL]; exact h1) h2) h.inj h.blt h.plt (Below.refl _ _) rfl h.frm
  intro d ty xs b hx hd
  obtain ⟨k1, b', cs, k2, k3, k4, k5, k6, k7⟩ := h.obj d ty xs hx
  have : b' = b := by rw [hd] at k2; exact (Option.some.inj k2).symm
  subst this
  exact ⟨by rw [hL]; exact k1, hd, rfl, k7⟩

theorem rel_grow (h : Rel γ w0 s a w) {d len len' g : Nat} (hlen : look s.lens d = some len) (hlt : len < len') (hg : g < w'.heap.size)
    (halt : (g = w.heap.size ∧ Below w.heap.size w w') ∨ (γ.blk d = some g ∧ w.grownBy w' (some g) ∧ ∀ j u, j < len → w.cell? ⟨g, j, none⟩ = some u → w'.cell? ⟨g, j, none⟩ = some u)) :
    (∀ b i u, γ.pr b i → w.cell? ⟨b, i, none⟩ = some u → w'.cell? ⟨b, i, none⟩ = some u) ∧
    Rel { γ with pr := fun b i => γ.pr b i ∨ (b = g ∧ i < len'), blk := fun d' => if d' = d then some g else γ.blk d' } w0 { s with lens := (d, len') :: s.lens } a w' := by
  have hcell : ∀ b i u, γ.pr b i → w.cell? ⟨b, i, none⟩ = some u → w'.cell? ⟨b, i, none⟩ = some u := by
    intro b i u hp hc
    rcases halt with ⟨_, hb⟩ | ⟨hblk, hgr, hc'⟩
    · rw [hb.cell (h.plt b i hp)]; exact hc
    · by_cases e : b = g
      · subst e; exact hc' i u ((h.len d len b hlen hblk).2 i hp) hc
      · rw [World.cell?_of_block (w := w) (hgr.block b (h.plt b i hp) (fun e' => e (Option.some.inj e')))]; exact hc
  have hsize : w.heap.size ≤ w'.heap.size := by
    rcases halt with ⟨_, hb⟩ | ⟨_, hgr, _⟩
    · exact hb.size
    · exact hgr.size
  have hother : ∀ d' g', d' ≠ d → γ.blk d' = some g' → g' ≠ g ∧ w'.heap[g']? = w.heap[g']? := by
    intro d' g' hne hb
    have hlt := h.blt d' g' hb
    rcases halt with ⟨e, hbl⟩ | ⟨hblk, hgr, _⟩
    · exact ⟨by omega, hbl.block g' hlt⟩
    · have : g' ≠ g := fun e => by subst e; exact hne (h.inj d' d g' hb hblk)
      exact ⟨this, hgr.block g' hlt (fun e => this (Option.some.inj e))⟩
  have hk : ∀ d', Kept γ { γ with pr := fun b i => γ.pr b i ∨ (b = g ∧ i < len'), blk := fun d' => if d' = d then some g else γ.blk d' } s.lens ((d, len') :: s.lens) w w' d' := by
    intro d'
    by_cases e : d' = d
    · subst e; exact .inr ⟨len, len', hlen, by rw [look_cons, if_pos rfl], hlt⟩
    · exact .inl ⟨by simp [e], by rw [look_cons, if_neg (Ne.symm e)], fun _ g' hg' => (hother d' g' e hg').2⟩
  refine ⟨hcell, h.frame (γ' := { γ with pr := fun b i => γ.pr b i ∨ (b = g ∧ i < len'), blk := fun d' => if d' = d then some g else γ.blk d' }) ((d, len') :: s.lens) rfl (fun b i u hp hc => ⟨.inl hp, hcell b i u hp hc⟩) (fun d' _ _ _ _ => hk d') (fun d' _ _ _ _ _ => hk d') ?_ ?_ ?_ ?_ ?_ ?_ rfl ?_⟩
  · intro d' ty xs b hx hb
    obtain ⟨k1, b', cs, k2, k3, k4, k5, k6, k7⟩ := h.obj d' ty xs hx
    have : b' = b := by rw [hb] at k2; exact (Option.some.inj k2).symm
    subst this
    have hne : d' ≠ d := fun e => by subst e; rw [hlen] at k1; cases k1
    refine ⟨by rw [look_cons, if_neg (Ne.symm hne)]; exact k1, by simp [hne, hb], (hother d' b' hne hb).2, ?_⟩
    rintro i (hp | ⟨e, _⟩)
    · exact k7 i hp
    · exact (hother d' b' hne hb).1 e
  · intro d' len1 g1 h1 h2
    rw [look_cons] at h1
    by_cases e : d' = d
    · subst e
      rw [if_pos rfl] at h1; cases h1
      simp only [if_true] at h2; cases h2
      refine ⟨?_, ?_⟩
      · rcases halt with ⟨e, _⟩ | ⟨hblk, _⟩
        · rw [e]; exact h.base
        · exact (h.len d' len g hlen hblk).1
      · rintro i (hp | ⟨_, hi⟩)
        · rcases halt with ⟨e, _⟩ | ⟨hblk, _⟩
          · have := h.plt g i hp; omega
          · have := (h.len d' len g hlen hblk).2 i hp; omega
        · exact hi
    · rw [if_neg (Ne.symm e)] at h1
      simp only [e, if_false] at h2
      refine ⟨(h.len d' len1 g1 h1 h2).1, ?_⟩
      rintro i (hp | ⟨e', _⟩)
      · exact (h.len d' len1 g1 h1 h2).2 i hp
      · exact absurd e' (hother d' g1 e h2).1
  · intro d1 d2 b h1 h2
    simp only at h1 h2
    by_cases e1 : d1 = d <;> by_cases e2 : d2 = d
    · rw [e1, e2]
    · simp only [e1, if_true] at h1; simp only [e2, if_false] at h2
      rw [← h1] at h2; exact absurd rfl (hother d2 g e2 h2).1
    · simp only [e1, if_false] at h1; simp only [e2, if_true] at h2
      rw [← h2] at h1; exact absurd rfl (hother d1 g e1 h1).1
    · simp only [e1, e2, if_false] at h1 h2; exact h.inj d1 d2 b h1 h2
  · intro d' b hb
    simp only at hb
    by_cases e : d' = d
    · simp only [e, if_true] at hb; cases hb; exact hg
    · simp only [e, if_false] at hb; exact Nat.lt_of_lt_of_le (h.blt d' b hb) hsize
  · rintro b i (hp | ⟨e, _⟩)
    · exact Nat.lt_of_lt_of_le (h.plt b i hp) hsize
    · subst e; exact hg
  · rcases halt with ⟨_, hb⟩ | ⟨hblk, hgr, _⟩
    · exact hb.mono h.base
    · exact (Below.refl _ _).grown hgr h.base (fun k hk => by cases hk; exact (h.len d len g hlen hblk).1)
  · intro k o hk
    obtain ⟨q1, q2⟩ := h.frm k o hk
    have hklt := (Array.getElem?_eq_some_iff.1 q1).1
    have hkg : k ≠ g := by
      rcases halt with ⟨e, _⟩ | ⟨hblk, _⟩
      · omega
      · intro e; subst e; exact q2 d hblk
    refine ⟨?_, fun d' hd' => ?_⟩
    · rcases halt with ⟨_, hb⟩ | ⟨_, hgr, _⟩
      · exact (hb.block k hklt).trans q1
      · exact (hgr.block k hklt (fun e => hkg (Option.some.inj e))).trans q1
    · simp only at hd'
      split at hd'
      · exact hkg (Option.some.inj hd').symm
      · exact q2 d' hd'

theorem own_VL {pr : Nat → Nat → Prop} {base e size n : Nat} {c : Value} {us : List Value} {xs : List AV} {tok : Option (Nat × Nat)} (ho : w.ownsRow base e size c n us) (hv : V pr w c (.row tok size n xs)) : VL pr w us xs ∧ ∀ u ∈ us, u.oneCell' = true := by
  obtain ⟨A, cap, e', _, _, h3, h4⟩ := hv
  rcases Nat.eq_zero_or_pos n with h0 | h0
  · subst h0
    have h1 : us = [] := List.eq_nil_of_length_eq_zero (by simpa using ho.1)
    have h2 : xs = [] := List.eq_nil_of_length_eq_zero (by simpa using h3)
    subst h1; subst h2; exact ⟨rfl, by simp⟩
  · obtain ⟨b, o, e2, hc⟩ := h4 h0
    rcases ho.2 with ⟨_, hn⟩ | ⟨g, cap', cur, ec, _⟩
    · omega
    · rw [ec] at e'
      injection e' with e1 e3 e4
      rw [e2] at e1; cases e1
      have hcells := ho.cells (g := b) (by rw [ec]; rfl)
      have hat : ∀ (i : Nat) (x : AV) (u : Value), xs[i]? = some x → us[i]? = some u → V pr w u x ∧ u.oneCell' = true := fun i x u hx hu => by
        obtain ⟨u', k1, k2, k3, k4⟩ := hc.at_ hx
        have := hcells i u hu
        rw [Addr.add_lit, k1] at this
        cases this; exact ⟨k4, k3⟩
      have hl : us.length = xs.length := by rw [ho.1, h3]
      refine ⟨VL.of_at hl fun i x u hx hu => (hat i x u hx hu).1, fun u hu => ?_⟩
      obtain ⟨i, hi, rfl⟩ := List.mem_iff_getElem.1 hu
      exact (hat i _ _ (List.getElem?_eq_getElem (hl ▸ hi)) (List.getElem?_eq_getElem hi)).2

theorem fits_sound {n m bytes : Nat} (h : fits n m bytes = true) : n + m ≤ maxLen ∧ (n + m) * bytes ≤ 140737488355328 := by
  simpa [fits, Nat.ble_eq] using h

/-- append, the value side: what it answers at a slice of length and capacity 0 -/
theorem step_append_new (hrel : Rel γ w0 s a w) {t e ty : TypeId} {i : TypeInfo} {z : List AV} {A0 : Option Addr} {c2 : Value} {x : AV} {m d : Nat} {ys : List AV}
    (hop : ∀ c w', (Builtin.append_ #[t, t] ty #[.slice A0 0 0, c2]).run P w = .ok c w' → (execOp a.eval o).run P w = .ok (.value c) w')
    (ht : elemT P t = some e) (hi : P.info? e = some i) (hz : zeroT P e = some z) (hr : rowOf i.size x = some (m, ys)) (hx : V γ.pr w c2 (plain x)) (h0 : 0 < i.size) (hzl : z.length = i.size) (hf : fits 0 m i.bytes = true)
    (hdst : o.dst = some d) (hab : s.absent d = true) (hlt : d < s.n)
    (hK : ∀ γ' a' w', GExt γ γ' → Rel γ' w0 { s with slots := (d, .row (some (d, e)) i.size m ys) :: s.slots, lens := (d, m * i.size) :: s.lens } a' w' → K a' w') : o.wp P a w K Q := by
  have hu := elem_sound ht
  obtain ⟨i', zv, hi', hzv, hzc⟩ := zero_sound hz
  rw [hi] at hi'; cases hi'
  have hzs : zv.cells.size = i.size := by
    obtain ⟨ds, e1, e2, _⟩ := cells_sound (pr := γ.pr) (w := w) hzc (c := zv) rfl
    rw [e1, List.size_toArray, e2.length, hzl]
  obtain ⟨hf1, hf2⟩ := fits_sound hf
  obtain ⟨A, cp, rfl, hyl, hrow⟩ := rowOf_sound hr hx
  rcases Nat.eq_zero_or_pos m with h | hm
  · subst h
    have hr2 := append_none (P := P) w t ty e i hu hi A0 0 0 (Nat.le_refl _) A cp
    have hys : ys = [] := List.eq_nil_of_length_eq_zero (by simpa using hyl)
    subst hys
    obtain ⟨γ', hb, hR⟩ := rel_fresh (e := e) (size := i.size) (n := 0) (xs := []) (c := .slice A0 0 0) hrel hab hlt (Below.refl _ w) (fun b i h => h) (fun b i h => .inl h) ⟨A0, 0, rfl, by simp, by simp [maxLen], by simp, fun h => absurd h (by omega)⟩ (.inl ⟨A0, rfl, rfl⟩)
    refine wp_value (hop _ _ hr2) ?_
    rw [hdst]
    exact hK γ' _ _ hb hR
  · rcases hrow with h | ⟨ad, news, rfl, hnl, hvl, h1, hnews⟩
    · omega
    obtain ⟨cap, w', hr, hcap, hown, hbel, hsz⟩ := append_new (P := P) w t ty e i zv i.size i.bytes hu hi hzv rfl rfl hzs ad m cp news hnl hnews hm A0 (by simpa using hf1) (by simpa using hf2)
    have hcm : cap ≤ maxLen := by
      rcases hown.2 with ⟨hh, _⟩ | ⟨_, cap', _, hh, _, _, _, hh2, _⟩
      · cases hh
      · cases hh; exact hh2
    have hV : V (fun b j => γ.pr b j ∨ (b = w.heap.size ∧ j < m * i.size)) w' (.slice (some ⟨w.heap.size, 0, none⟩) m cap) (.row none i.size m ys) :=
      V_own hown hcap hcm (VL.mono (fun b j u hp hc => ⟨.inl hp, by rw [hbel.cell (hrel.plt b j hp)]; exact hc⟩) ys hvl) h1 (fun j hj => .inr ⟨rfl, hj⟩) none
    obtain ⟨γ', hb, hR⟩ := rel_fresh (e := e) (pr' := fun b j => γ.pr b j ∨ (b = w.heap.size ∧ j < m * i.size)) hrel hab hlt hbel (fun b i h => .inl h) (fun b j h => by
      rcases h with h | ⟨h, _⟩
      · exact .inl h
      · exact .inr ⟨by omega, by omega⟩) hV (.inr ⟨news, w.heap.size, hown, .inr rfl, Nat.le_refl _, hsz, fun j h => by
        rcases h with h | ⟨_, h⟩
        · exact absurd (hrel.plt _ _ h) (by omega)
        · exact h⟩)
    refine wp_value (hop _ _ hr) ?_
    rw [hdst]
    exact hK γ' _ _ hb hR

theorem step_append_more (hrel : Rel γ w0 s a w) {t e ty : TypeId} {i : TypeInfo} {z : List AV} {c1 c2 : Value} {x : AV} {n m d t' : Nat} {xs ys : List AV}
    (hop : ∀ c w', (Builtin.append_ #[t, t] ty #[c1, c2]).run P w = .ok c w' → (execOp a.eval o).run P w = .ok (.value c) w')
    (ht : elemT P t = some e) (hi : P.info? e = some i) (hz : zeroT P e = some z) (hr : rowOf i.size x = some (m, ys)) (hx : V γ.pr w c2 (plain x)) (h0 : 0 < i.size) (hzl : z.length = i.size) (hf : fits n m i.bytes = true)
    (hs : AVR1 γ s.lens w c1 (.row (some (d, e)) i.size n xs)) (hlen : look s.lens d = some (n * i.size)) (hdst : o.dst = some t') (hlt : t' < s.n)
    (hK : ∀ γ' a' w', GExt γ γ' → Rel γ' w0 { s with slots := (t', .row (some (d, e)) i.size (n + m) (xs ++ ys)) :: s.slots, lens := (d, (n + m) * i.size) :: s.lens } a' w' → K a' w') : o.wp P a w K Q := by
  have hu := elem_sound ht
  obtain ⟨i', zv, hi', hzv, hzc⟩ := zero_sound hz
  rw [hi] at hi'; cases hi'
  have hzs : zv.cells.size = i.size := by
    obtain ⟨ds, e1, e2, _⟩ := cells_sound (pr := γ.pr) (w := w) hzc (c := zv) rfl
    rw [e1, List.size_toArray, e2.length, hzl]
  obtain ⟨hf1, hf2⟩ := fits_sound hf
  obtain ⟨A, cp, rfl, hyl, hrow⟩ := rowOf_sound hr hx
  obtain ⟨hV1, hlens⟩ := hs
  have hown := (hlens _ hlen).2 rfl
  have hblt : Nat.blt t' s.n = true := by simpa [Nat.blt_eq] using hlt
  rcases Nat.eq_zero_or_pos m with h | hm
  · subst h
    have hys : ys = [] := List.eq_nil_of_length_eq_zero (by simpa using hyl)
    subst hys
    obtain ⟨A1, cap1, e1, hc1, _⟩ := id hV1
    subst e1
    have hr := append_none (P := P) w t ty e i hu hi A1 n cap1 hc1 A cp
    refine wp_value (hop _ _ hr) ?_
    rw [hdst]
    have hL : ∀ d', look ((d, (n + 0) * i.size) :: s.lens) d' = look s.lens d' := fun d' => by
      rw [look_cons]
      by_cases ed : d = d'
      · rw [if_pos ed, ← ed, hlen]; rfl
      · rw [if_neg ed]
    refine hK γ _ _ (GExt.refl γ) ((hrel.sameLens hL).put (dst := some t') (x := .row (some (d, e)) i.size (n + 0) (xs ++ [])) (by simp only [St.put]; rw [hblt]) ?_)
    rw [List.append_nil]
    exact ⟨hV1, fun len hl => hlens len (by rw [← hL d]; exact hl)⟩
  · rcases hrow with h | ⟨ad, news, rfl, hnl, hvl, h1, hnews⟩
    · omega
    have hlt2 : n * i.size < (n + m) * i.size := Nat.mul_lt_mul_of_pos_right (by omega) h0
    -- what append answers
    have key : ∃ g cap w' us base, (Builtin.append_ #[t, t] ty #[c1, .slice (some ad) m cp]).run P w = .ok (.slice (some ⟨g, 0, none⟩) (n + m) cap) w' ∧ n + m ≤ cap ∧ cap ≤ maxLen ∧ g < w'.heap.size ∧ γ.base ≤ base ∧
        w'.ownsRow base e i.size (.slice (some ⟨g, 0, none⟩) (n + m) cap) (n + m) (us ++ news) ∧ VL γ.pr w us xs ∧ (∀ u ∈ us, u.oneCell' = true) ∧
        ((g = w.heap.size ∧ Below w.heap.size w w') ∨ (γ.blk d = some g ∧ w.grownBy w' (some g) ∧ ∀ j u, j < n * i.size → w.cell? ⟨g, j, none⟩ = some u → w'.cell? ⟨g, j, none⟩ = some u)) := by
      rcases hown with ⟨A1, rfl, rfl⟩ | ⟨us, ho, hblk⟩
      · obtain ⟨cap, w', hr, hcap, hown, hbel, hsz⟩ := append_new (P := P) w t ty e i zv i.size i.bytes hu hi hzv rfl rfl hzs ad m cp news hnl hnews hm A1 (by simpa using hf1) (by simpa using hf2)
        have hcm : cap ≤ maxLen := by
          rcases hown.2 with ⟨hh, _⟩ | ⟨_, cap', _, hh, _, _, _, hh2, _⟩
          · cases hh
          · cases hh; exact hh2
        have hxs : xs = [] := by
          obtain ⟨_, _, _, _, _, hl, _⟩ := hV1
          exact List.eq_nil_of_length_eq_zero (by simpa using hl)
        subst hxs
        exact ⟨w.heap.size, cap, w', [], w.heap.size, by simpa using hr, by omega, hcm, hsz, hrel.base, by simpa using hown, rfl, by simp, .inl ⟨rfl, hbel⟩⟩
      · obtain ⟨g, cap, w', hr, hcap, hcm, hg, hh⟩ := append_more (P := P) w t ty e i zv i.size i.bytes hu hi hzv rfl rfl hzs ad m cp news hnl hnews hm γ.base h0 c1 n us ho h1 hf1 hf2
        obtain ⟨k1, k2⟩ := own_VL ho hV1
        rcases hh with ⟨e1, hb, ho'⟩ | ⟨e1, hgr, ho', hcl⟩
        · exact ⟨g, cap, w', us, w.heap.size, hr, hcap, hcm, hg, hrel.base, ho', k1, k2, .inl ⟨e1, hb⟩⟩
        · exact ⟨g, cap, w', us, γ.base, hr, hcap, hcm, hg, Nat.le_refl _, ho', k1, k2, .inr ⟨hblk g e1, hgr, hcl⟩⟩
    obtain ⟨g, cap, w', us, base, hr, hcap, hcm, hg, hbase, ho, hvl1, h11, halt⟩ := key
    obtain ⟨hcell, hR⟩ := rel_grow hrel hlen hlt2 hg halt
    refine wp_value (hop _ _ hr) ?_
    rw [hdst]
    have hmono : ∀ b j u, γ.pr b j → w.cell? ⟨b, j, none⟩ = some u → (γ.pr b j ∨ (b = g ∧ j < (n + m) * i.size)) ∧ w'.cell? ⟨b, j, none⟩ = some u := fun b j u hp hc => ⟨.inl hp, hcell b j u hp hc⟩
    refine hK { γ with pr := fun b j => γ.pr b j ∨ (b = g ∧ j < (n + m) * i.size), blk := fun d' => if d' = d then some g else γ.blk d' } _ _ ?_ (hR.put (dst := some t') (x := .row (some (d, e)) i.size (n + m) (xs ++ ys)) (by simp only [St.put]; rw [hblt]) ⟨?_, fun len hl => ?_⟩)
    · refine ⟨rfl, fun b j hb hp => ?_, rfl⟩
      rcases hp with hp | ⟨e, _⟩
      · exact hp
      · exfalso
        rcases halt with ⟨e', _⟩ | ⟨hblk, _⟩
        · have := hrel.base; omega
        · have := (hrel.len d _ g hlen hblk).1; omega
    · refine V_own ho hcap hcm ((VL.mono (pr' := fun b j => γ.pr b j ∨ (b = g ∧ j < (n + m) * i.size)) hmono xs hvl1).append (VL.mono hmono ys hvl)) ?_ (fun j hj => .inr ⟨rfl, hj⟩) _
      intro u hu
      rcases List.mem_append.1 hu with hu | hu
      · exact h11 u hu
      · exact h1 u hu
    · simp only [look_cons, if_true] at hl
      cases hl
      refine ⟨Nat.le_refl _, fun _ => .inr ⟨us ++ news, own_base' ho hbase, fun g' hg' => ?_⟩⟩
      simp only [Value.ownBlock, Option.some.injEq] at hg'
      subst hg'; simp
where
  own_base' {w : World} {b b' : Nat} {e : TypeId} {size n : Nat} {v : Value} {xs : List Value} (h : w.ownsRow b e size v n xs) (hb : b' ≤ b) : w.ownsRow b' e size v n xs := by
    obtain ⟨h1, h2⟩ := h
    refine ⟨h1, ?_⟩
    rcases h2 with h2 | ⟨g, cap, cur, hv, hg, r⟩
    · exact .inl h2
    · exact .inr ⟨g, cap, cur, hv, by omega, r⟩
end
end Go.Proofs.YtmhoefpienagkaaDoor

/- The contract of a function; a call; one step of a region. -/
namespace Go.Proofs.YtmhoefpienagkaaDoor
open Go.RowKit

section
variable {P : Program} {γ : Gh} {w0 w w' : World} {s s' : St} {a : Act} {o : Oper} {F : List Nat} {K : Act → World → Prop} {Q : Exit → Act → World → Prop}

theorem V_plain {pr : Nat → Nat → Prop} {c : Value} : ∀ {x : AV}, V pr w c x → V pr w c (plain x)
  | .tup xs, ⟨cs, e, h⟩ => ⟨cs, e, VL_plain1 h⟩
  | .undef, h => h
  | .sc _, h => h
  | .row .., h => by simpa only [plain, plain1, V] using h
  | .mt, h => h
  | .agg _, h => h
  | .ptr .., _ => trivial
  | .rptr _, h => h
theorem AVR_plain {L : List (Nat × Nat)} {c : Value} : ∀ {x : AV}, V γ.pr w c x → AVR γ L w c (plain x)
  | .tup xs, ⟨cs, e, h⟩ => ⟨cs, e, AVRL.of_at (by simp [h.length]) fun i y u hy hu => by
      simp only [List.getElem?_map, Option.map_eq_some_iff] at hy
      obtain ⟨y', hy', rfl⟩ := hy
      obtain ⟨u', k1, k2⟩ := h.at_ hy'
      rw [hu] at k1; cases k1
      exact AVR1.of_V k2⟩
  | .undef, h => AVR.of_V (x := .undef) h
  | .sc v, h => AVR.of_V (x := .sc v) h
  | .row t s n xs, h => AVR.of_V (x := .row t s n xs) h
  | .mt, h => AVR.of_V (x := .mt) h
  | .agg xs, h => AVR.of_V (x := .agg xs) h
  | .ptr d off, h => AVR.of_V (x := .ptr d off) h
  | .rptr xs, h => AVR.of_V (x := .rptr xs) h

theorem run_callFunc {g : Nat} (h : Enters P g) (cs : Array Value) : (callFunc g cs).run P w = .ok (.enter g cs) w := by
  obtain ⟨fn, h1, h2, h3⟩ := h
  have h2' : fn.name ≠ "runtime.NumGoroutine" := by simpa using h2
  have h3' : fn.body ≠ none := fun e => by rw [e] at h3; cases h3
  simp [callFunc, program, Sem.run, h1, h2', h3']

theorem own_row_fresh {B e : Nat} {pr : Nat → Nat → Prop} {c : Value} {t : Option (Nat × Nat)} {size n : Nat} {xs : List AV} (h : OwnRow B pr w' e c (.row t size n xs)) :
    (∃ A, c = .slice A 0 0 ∧ n = 0) ∨ ∃ us g, w'.ownsRow B e size c n us ∧ (c.ownBlock = none ∨ c.ownBlock = some g) ∧ B ≤ g ∧ g < w'.heap.size ∧ ∀ i, pr g i → i < n * size := by
  rcases h with h | ⟨us, h1, h2⟩
  · exact .inl h
  · rcases h1.2 with ⟨e1, e2⟩ | ⟨g, cap, cur, e1, e2, e3, _⟩
    · exact .inl ⟨none, e1, e2⟩
    · exact .inr ⟨us, g, h1, .inr (by rw [e1]; rfl), e2, (Array.getElem?_eq_some_iff.1 e3).1, h2 g (by rw [e1]; rfl)⟩

theorem step_call (hrel : Rel γ w0 s a w) {g : Nat} {args : List AV} {r : Res} (hok : Ok P g args r) (cs : List Value) (hargs : VL γ.pr w cs args) (hop : (execOp a.eval o).run P w = (callFunc g cs.toArray).run P w)
    {need : Prop} (hs : s.apply F o.dst (.ret r need) = some s') (hK : ∀ γ' a' w', GExt γ γ' → Rel γ' w0 s' a' w' → K a' w') : o.wp P a w K Q := by
  unfold Oper.wp
  rw [hop, run_callFunc hok.1, Oper.upon_enter]
  refine (hok.2 w γ.pr cs ((hrel.gl.below hrel.below).mono hrel.base) hrel.plt hargs).mono ?_
  rintro e w' ⟨c, pr', rfl, hbel, hp1, hp2, hV, hown⟩
  -- the ghosts behind the call
  have g1 : ∀ b i, γ.pr b i → γ.pr b i ∨ (w.heap.size ≤ b ∧ pr' b i) := fun b i h => .inl h
  have g2 : ∀ b i, (γ.pr b i ∨ (w.heap.size ≤ b ∧ pr' b i)) → γ.pr b i ∨ w.heap.size ≤ b ∧ b < w'.heap.size := fun b i h => h.imp id fun h => ⟨h.1, hp1 b i h.2⟩
  have hmono : ∀ b i u, pr' b i → w'.cell? ⟨b, i, none⟩ = some u → (γ.pr b i ∨ (w.heap.size ≤ b ∧ pr' b i)) ∧ w'.cell? ⟨b, i, none⟩ = some u := fun b i u h hc => by
    refine ⟨?_, hc⟩
    rcases Nat.lt_or_ge b w.heap.size with hlt | hge
    · exact .inl (hp2 b i hlt h)
    · exact .inr ⟨hge, h⟩
  have hV2 : V (fun b i => γ.pr b i ∨ (w.heap.size ≤ b ∧ pr' b i)) w' c r.v := V.mono hmono r.v hV
  have hR := hrel.grow_world (fun b i => γ.pr b i ∨ (w.heap.size ≤ b ∧ pr' b i)) hbel g1 g2
  have ownmono : ∀ c' x e, OwnRow w.heap.size pr' w' e c' x → OwnRow w.heap.size (fun b i => γ.pr b i ∨ (w.heap.size ≤ b ∧ pr' b i)) w' e c' x := by
    intro c' x e h
    cases x <;> try exact trivial
    rcases h with h | ⟨us, h1, h2⟩
    · exact .inl h
    · refine .inr ⟨us, h1, fun g hg i hi => ?_⟩
      rcases hi with hi | ⟨_, hi⟩
      · have := (h1.lt g hg).1
        exact absurd (hrel.plt g i hi) (by omega)
      · exact h2 g hg i hi
  simp only [St.apply] at hs
  split at hs
  · rename_i e d hoe hdst
    split at hs
    case h_2 => cases hs
    rename_i len hlen hab _ hlt
    have hlt' : d < s.n := by simpa [Nat.blt_eq] using hlt
    simp only [Option.some.injEq] at hs
    have how := hown e hoe
    rw [hdst]
    unfold lenOf at hlen
    split at hlen
    · rename_i t size n xs hv
      cases hlen
      rw [hv] at hV2 how hs
      obtain ⟨γ', b1, b2⟩ := rel_fresh (e := e) hrel hab hlt' hbel g1 g2 (by simpa only [V] using hV2) (own_row_fresh (ownmono c (.row t size n xs) e how))
      subst hs
      exact hK γ' _ _ b1 (b2.withLog (need :: s.log))
    · rename_i t size n xs rest hv
      cases hlen
      rw [hv] at hV2 how hs
      obtain ⟨cs', ec, hVL⟩ := hV2
      simp only [VL] at hVL
      obtain ⟨c0, cs'', e', hv0, hvr⟩ := hVL
      subst e'
      obtain ⟨γ', b1, b2, b3, b4⟩ := rel_fresh0 (e := e) (xs := xs) (c := c0) (size := size) (n := n) hrel hab hbel g1 g2 (by simpa only [V] using hv0) (own_row_fresh (ownmono c0 (.row t size n xs) e (how c0 cs'' ec)))
      subst hs
      refine hK γ' _ _ b1 ((b3.withLog (need :: s.log)).put (dst := some d) (x := .tup (.row (some (d, e)) size n xs :: rest.map plain1)) (by simp only [St.put]; rw [hlt]; simp [plain, tag, plain1]) ?_)
      refine ⟨c0 :: cs'', ec, c0, cs'', rfl, b4, AVRL.of_at (by simp [hvr.length]) fun i y u hy hu => ?_⟩
      simp only [List.getElem?_map, Option.map_eq_some_iff] at hy
      obtain ⟨y', hy', rfl⟩ := hy
      obtain ⟨u', k1, k2⟩ := hvr.at_ hy'
      rw [hu] at k1; cases k1
      exact AVR1.of_V (by rw [b2]; exact k2)
    · cases hlen
  · exact hK { γ with pr := fun b i => γ.pr b i ∨ (w.heap.size ≤ b ∧ pr' b i) } _ _ ⟨rfl, fun b i hb hp => hp.elim id fun h => absurd h.1 (by have := hrel.base; omega), rfl⟩ ((hR.withLog (need :: s.log)).put hs (AVR_plain hV2))
end
end Go.Proofs.YtmhoefpienagkaaDoor

/- One operation of a region: what the interpreter does is what the machine does. -/
namespace Go.Proofs.YtmhoefpienagkaaDoor
open Go.RowKit

section
variable {P : Program} {γ : Gh} {w0 w w' : World} {s s' : St} {a : Act} {o : Oper} {F : List Nat} {K : Act → World → Prop} {Q : Exit → Act → World → Prop}

theorem box_step (hrel : Rel γ w0 s a w) {ty : Nat} {xs : List AV} {v : Value} (hrun : (execOp a.eval o).run P w = .ok (.value (.pointer (some ⟨w.heap.size, 0, none⟩))) (w.alloc (.cells v.cells ty)))
    (hcs : ∀ γ' w', Rel γ' w0 s a w' → ∃ ds : List Value, v.cells = ds.toArray ∧ AVRL γ' s.lens w' ds xs ∧ ∀ d ∈ ds, d.oneCell' = true)
    (hs : s.apply F o.dst (.box ty xs) = some s') (hK : ∀ γ' a' w', GExt γ γ' → Rel γ' w0 s' a' w' → K a' w') : o.wp P a w K Q := by
  simp only [St.apply] at hs
  split at hs
  case h_2 => cases hs
  rename_i d hdst _
  split at hs
  case h_2 => cases hs
  rename_i hab _ hlt
  simp only [Option.some.injEq] at hs
  obtain ⟨ds, e1, _, e3⟩ := hcs γ w hrel
  obtain ⟨γ', b1, b2⟩ := rel_box (ty := ty) (xs := xs) (cs := ds) hrel hab (by simpa [Nat.blt_eq] using hlt) (fun γ' w' h => by
    obtain ⟨ds', k1, k2, _⟩ := hcs γ' w' h
    have : ds' = ds := by rw [e1] at k1; simpa using k1.symm
    subst this; exact k2) e3
  refine wp_value hrun ?_
  rw [hdst, e1]
  subst hs
  exact hK γ' _ _ b1 b2

theorem slice_step (hrel : Rel γ w0 s a w) {t : TypeId} {len : Nat} {ps : Array (Nat × Operand)} {cmd : Cmd} (ho : o.op = .buildSlice t len ps) (hc : cmdBuildSlice P t len (ps.toList.map fun p => (p.1, plain (s.eval p.2))) = some cmd)
    (hs : s.apply F o.dst cmd = some s') (hK : ∀ γ' a' w', GExt γ γ' → Rel γ' w0 s' a' w' → K a' w') : o.wp P a w K Q := by
  unfold cmdBuildSlice at hc
  split at hc
  case h_2 => cases hc
  rename_i e he
  split at hc
  case h_2 => cases hc
  rename_i size z hsz hz
  split at hc
  case isFalse => cases hc
  rename_i hcond
  obtain ⟨h0, hzl, hsm⟩ := hcond
  simp only [Option.map_eq_some_iff] at hc
  obtain ⟨xs, hf, rfl⟩ := hc
  have hu := elem_sound he
  obtain ⟨i, zv, hi, hzv, hzc⟩ := zero_sound hz
  have hsize : i.size = size := by simp [szT, hi] at hsz; exact hsz
  subst hsize
  simp only [St.apply] at hs
  split at hs
  case h_2 => cases hs
  rename_i d hdst
  split at hs
  case h_2 => cases hs
  rename_i hab _ hlt
  simp only [Option.some.injEq] at hs
  have hlt' : d < s.n := by simpa [Nat.blt_eq] using hlt
  have hop : execOp a.eval o = (do pure (Next.value (← Instr.buildSlice t len (ps.map fun (i, x) => (i, a.eval x)))) : Sem Next) := by simp only [execOp, ho]
  have hone : ∀ u ∈ zv.cells, u.oneCell' = true := by
    simp only [cells?] at hzc
    split at hzc
    · rename_i hall; intro u hu; exact List.all_eq_true.1 hall u (by simpa using hu)
    · cases hzc
  have hzs : zv.cells.size = i.size := by
    obtain ⟨ds, e1, e2, _⟩ := cells_sound (pr := γ.pr) (w := w) hzc (c := zv) rfl
    rw [e1, List.size_toArray, e2.length, hzl]
  rcases Nat.eq_zero_or_pos len with hl0 | hl0
  · subst hl0
    have hps : ps.toList = [] := by
      cases hps : ps.toList with
      | nil => rfl
      | cons p rest =>
        rw [hps] at hf
        simp only [List.map_cons, fillA] at hf
        split at hf
        · rename_i off size ys hp hcc
          split at hf
          · rename_i hcond
            obtain ⟨h1, h2⟩ := hcond
            simp only [Option.some.injEq, Prod.mk.injEq] at hp
            simp at h2
            omega
          · cases hf
        · cases hf
    have hps' : ps = #[] := by rw [← Array.toArray_toList (xs := ps), hps]
    subst hps'
    simp only [List.map_nil, fillA, Nat.zero_mul, List.replicate_zero, Option.some.injEq] at hf
    subst hf
    have hrun : (Instr.buildSlice t 0 (#[].map fun (p : Nat × Operand) => (p.1, a.eval p.2))).run P w = .ok (.slice (some ⟨w.heap.size, 0, none⟩) 0 0) (w.alloc (.cells #[] e)) := by
      have h0 : (Array.range 0).map (fun _ : Nat => (default : Value)) = #[] := by apply Array.eq_empty_of_size_eq_zero; simp
      simp [Instr.buildSlice, run_underlying hu, sizeOf, typeInfo, hi, Instr.fill, newRow, h0]
    obtain ⟨γ', b1, b2⟩ := rel_fresh (e := e) (size := i.size) (n := 0) (xs := []) (c := .slice (some ⟨w.heap.size, 0, none⟩) 0 0) hrel hab hlt' ((Below.refl _ w).alloc (Nat.le_refl _) (.cells #[] e)) (fun b i h => h) (fun b i h => .inl h) ⟨_, 0, rfl, by simp, by simp [maxLen], by simp, fun h => absurd h (by omega)⟩ (.inl ⟨_, rfl, rfl⟩)
    refine wp_value (by rw [hop]; exact v_run hrun) ?_
    rw [hdst]
    subst hs
    exact hK γ' _ _ b1 b2
  · -- the cells of the literal
    have hpos : ¬ len * i.size = 0 := Nat.ne_of_gt (Nat.mul_pos hl0 h0)
    have hini : VL γ.pr w ((Array.range (len * i.size)).map (zv.cells[· % zv.cells.size]!)).toList (List.replicate (len * i.size) .undef) := VL.of_at (by simp) fun j x c hx _ => by
      rw [List.getElem?_replicate] at hx
      split at hx
      · cases hx; exact trivial
      · cases hx
    have hini1 : ∀ u ∈ ((Array.range (len * i.size)).map (zv.cells[· % zv.cells.size]!)).toList, u.oneCell' = true := by
      intro u hu
      rw [Array.mem_toList_iff, Array.mem_map] at hu
      obtain ⟨j, _, rfl⟩ := hu
      have hlt : j % zv.cells.size < zv.cells.size := Nat.mod_lt _ (by omega)
      have : zv.cells[j % zv.cells.size]! = zv.cells[j % zv.cells.size] := by simp [hlt]
      rw [this]
      exact hone _ (Array.getElem_mem hlt)
    obtain ⟨ds, k1, k2, k3, k4⟩ := fill_sound hf (vp_parts hrel.eval ps.toList) hini hini1
    have hrun := run_buildSlice (P := P) w t e len (ps.map fun (i, x) => (i, a.eval x)) ds i zv hu hi hzv (by omega) hpos (by simpa using k1)
    have hds : ds.size = len * i.size := by rw [k4]; simp
    have hown : (w.alloc (.cells ds e)).ownsRow w.heap.size e i.size (.slice (some ⟨w.heap.size, 0, none⟩) len len) len ds.toList :=
      ⟨by simpa using hds, .inr ⟨w.heap.size, len, ds, rfl, Nat.le_refl _, heap_alloc_new w _, Nat.le_refl _, by
        have : len ≤ len * i.size := Nat.le_mul_of_pos_right _ h0
        simp only [maxLen]; omega, hds, by rw [← hds, ← Array.length_toList]; exact List.take_length⟩⟩
    have hlm : len ≤ maxLen := by
      have : len ≤ len * i.size := Nat.le_mul_of_pos_right _ h0
      simp only [maxLen]; omega
    have hbel := (Below.refl w.heap.size w).alloc (Nat.le_refl _) (.cells ds e)
    have hV : V (fun b j => γ.pr b j ∨ (b = w.heap.size ∧ j < len * i.size)) (w.alloc (.cells ds e)) (.slice (some ⟨w.heap.size, 0, none⟩) len len) (.row none i.size len xs) :=
      V_own hown (Nat.le_refl _) hlm (VL.mono (fun b j u hp hc => ⟨.inl hp, by rw [hbel.cell (hrel.plt b j hp)]; exact hc⟩) xs k2) k3 (fun j hj => .inr ⟨rfl, hj⟩) none
    obtain ⟨γ', b1, b2⟩ := rel_fresh (e := e) (pr' := fun b j => γ.pr b j ∨ (b = w.heap.size ∧ j < len * i.size)) hrel hab hlt' hbel (fun b i h => .inl h) (fun b j h => by
      rcases h with h | ⟨h, _⟩
      · exact .inl h
      · exact .inr ⟨by omega, by simp; omega⟩) hV (.inr ⟨_, w.heap.size, hown, .inr rfl, Nat.le_refl _, by simp, fun j h => by
        rcases h with h | ⟨_, h⟩
        · exact absurd (hrel.plt _ _ h) (by omega)
        · exact h⟩)
    refine wp_value (by rw [hop]; exact v_run hrun) ?_
    rw [hdst]
    subst hs
    exact hK γ' _ _ b1 b2

theorem append_step (hrel : Rel γ w0 s a w) {t t' ty : TypeId} {x1 x2 : Operand} {cmd : Cmd} (hop : ∀ c w', (Builtin.append_ #[t, t'] ty #[a.eval x1, a.eval x2]).run P w = .ok c w' → (execOp a.eval o).run P w = .ok (.value c) w')
    (hc : cmdAppend P t t' (s.eval x1) (s.eval x2) = some cmd) (hs : s.apply F o.dst cmd = some s') (hlog : ∀ p ∈ s'.log, p) (hK : ∀ γ' a' w', GExt γ γ' → Rel γ' w0 s' a' w' → K a' w') : o.wp P a w K Q := by
  unfold cmdAppend at hc
  split at hc
  case h_2 => cases hc
  rename_i e htt he
  have htt : t = t' := Nat.eq_of_beq_eq_true htt
  subst htt
  split at hc
  case h_2 => cases hc
  rename_i i z hi hz
  have hE1 := hrel.eval x1
  have hE2 := (hrel.eval x2).plain
  split at hc
  · rename_i m ys d e' size n xs hr hx1
    split at hc
    case isFalse => cases hc
    rename_i hcond
    obtain ⟨rfl, rfl, h0, hzl, hf⟩ := hcond
    simp only [Option.some.injEq] at hc; subst hc
    simp only [St.apply] at hs
    split at hs
    case h_2 => cases hs
    rename_i len tt hlen _ hdst
    split at hs
    case h_2 => cases hs
    rename_i hlt
    simp only [Option.some.injEq] at hs
    have hl : len = n * i.size := hlog _ (by rw [← hs]; simp)
    subst hl
    rw [hx1] at hE1
    subst hs
    exact step_append_more hrel hop he hi hz hr hE2 h0 hzl hf hE1 hlen hdst (by simpa [Nat.blt_eq] using hlt) fun γ' a' w' e hr => hK γ' a' w' e (hr.withLog _)
  · rename_i m ys hr hx1
    split at hc
    case isFalse => cases hc
    rename_i hcond
    obtain ⟨h0, hzl, hf⟩ := hcond
    simp only [Option.some.injEq] at hc; subst hc
    simp only [St.apply] at hs
    split at hs
    case h_2 => cases hs
    rename_i d hdst
    split at hs
    case h_2 => cases hs
    rename_i hab _ hlt
    simp only [Option.some.injEq] at hs
    rw [hx1] at hE1
    obtain ⟨A, e1⟩ := hE1
    rw [e1] at hop
    subst hs
    exact step_append_new hrel hop he hi hz hr hE2 h0 hzl hf hdst hab (by simpa [Nat.blt_eq] using hlt) hK
  · rename_i m ys hr hx1
    split at hc
    case isFalse => cases hc
    rename_i hcond
    obtain ⟨h0, hzl, hf⟩ := hcond
    simp only [Option.some.injEq] at hc; subst hc
    simp only [St.apply] at hs
    split at hs
    case h_2 => cases hs
    rename_i d hdst
    split at hs
    case h_2 => cases hs
    rename_i hab _ hlt
    simp only [Option.some.injEq] at hs
    have e1 := ev_sc hrel.eval hx1
    rw [e1] at hop
    subst hs
    exact step_append_new hrel hop he hi hz hr hE2 h0 hzl hf hdst hab (by simpa [Nat.blt_eq] using hlt) hK
  · cases hc
end
end Go.Proofs.YtmhoefpienagkaaDoor

/- One operation of a region: the law. -/
namespace Go.Proofs.YtmhoefpienagkaaDoor
open Go.RowKit

section
variable {P : Program} {γ : Gh} {w0 w w' : World} {s s' : St} {a : Act} {F : List Nat} {K : Act → World → Prop} {Q : Exit → Act → World → Prop}

theorem wants_sound (hrel : Rel γ w0 s a w) {ops : Array Oper} {o : Oper} {b : Bool} (h : wants ops s o = some b) : Region.wanted o (yielded ops a.tmps) = b := by
  unfold wants at h
  unfold Region.wanted
  split at h
  · rename_i hg; rw [hg]; simpa using h
  · rename_i j want hg
    rw [hg]
    simp only
    split at h
    case h_2 => cases h
    rename_i t ht
    have key : ∀ v, look s.slots t = some (.sc v) → a.tmps.getD t undef = v := fun v hv => hrel.slot t _ hv
    have hy : yielded ops a.tmps j = match a.tmps[t]? with | some (.bool b) => some b | _ => none := by
      unfold yielded; rw [ht]; rfl
    have hget : ∀ v, a.tmps.getD t undef = v → v ≠ undef → a.tmps[t]? = some v := fun v hv hne => by
      rcases Nat.lt_or_ge t a.tmps.size with hlt | hge
      · rw [Array.getElem?_eq_getElem hlt]
        rw [← hv]; simp [Array.getD, hlt]
      · exfalso; apply hne; rw [← hv]; simp [Array.getD, Nat.not_lt.2 hge]
    rw [hy]
    split at h
    · rename_i b' hl
      have hv := key _ hl
      have := hget _ hv (by simp [undef])
      rw [this]
      simp only [Option.some.injEq] at h
      subst h
      cases b' <;> cases want <;> rfl
    · rename_i v hnb hl
      have hv := key _ hl
      simp only [Option.some.injEq] at h
      subst h
      split
      · rename_i b' hh
        have : a.tmps.getD t undef = .bool b' := by
          have hlt : t < a.tmps.size := (Array.getElem?_eq_some_iff.1 hh).1
          have := (Array.getElem?_eq_some_iff.1 hh).2
          simp [Array.getD, hlt, this]
        rw [hv] at this
        subst this
        exact (hnb b' rfl).elim
      · rfl
    · cases h

theorem op_builtin {o : Oper} {c : Call} {b : Builtin} (ho : o.op = .call c) (hb : c.callee = .builtin b) :
    (execOp a.eval o).run P w = (builtin b c.argTypes o.type (c.args.map fun | .const _ => true | _ => false) (c.args.map a.eval)).run P w := by
  simp only [execOp, ho, resolve, hb, Sem.run_bind, Sem.run_pure, Result.andThen_ok, invoke]
  rfl

theorem args_one {ev : Operand → AV} {args : Array Operand} {x : AV} (h : args.toList.map ev = [x]) : ∃ x1, args = #[x1] ∧ ev x1 = x := by
  rcases hl : args.toList with _ | ⟨x1, _ | ⟨x2, l⟩⟩ <;> rw [hl] at h <;> simp at h
  exact ⟨x1, by rw [← Array.toArray_toList (xs := args), hl], h⟩
theorem args_two {ev : Operand → AV} {args : Array Operand} {x y : AV} (h : args.toList.map ev = [x, y]) : ∃ x1 x2, args = #[x1, x2] ∧ ev x1 = x ∧ ev x2 = y := by
  rcases hl : args.toList with _ | ⟨x1, _ | ⟨x2, _ | ⟨x3, l⟩⟩⟩ <;> rw [hl] at h <;> simp at h
  exact ⟨x1, x2, by rw [← Array.toArray_toList (xs := args), hl], h.1, h.2⟩
theorem types_one {ts : Array TypeId} {t : TypeId} (h : ts.toList = [t]) : ts = #[t] := by rw [← Array.toArray_toList (xs := ts), h]
theorem types_two {ts : Array TypeId} {t u : TypeId} (h : ts.toList = [t, u]) : ts = #[t, u] := by rw [← Array.toArray_toList (xs := ts), h]

theorem put_log {t : St} {dst : Option Nat} {x : AV} (h : t.put dst x = some s') : s'.log = t.log := by
  cases dst with
  | none => simp only [St.put, Option.some.injEq] at h; subst h; rfl
  | some d =>
    simp only [St.put] at h
    split at h
    · cases h; rfl
    · cases h
theorem ret_logged {F : List Nat} {dst : Option Nat} {r : Res} {need : Prop} (hs : s.apply F dst (.ret r need) = some s') (hlog : ∀ p ∈ s'.log, p) : need := by
  simp only [St.apply] at hs
  split at hs
  · split at hs
    · cases hs; exact hlog need (by simp)
    · cases hs
  · have := put_log hs
    exact hlog need (by rw [this]; simp)

theorem call_sound {call : Nat → List AV → Option Res} {o : Oper} {c : Call} (ho : o.op = .call c) {cmd : Cmd} (hrel : Rel γ w0 s a w) (hc : cmdCall P call c o.type s.eval = some cmd)
    (hs : s.apply F o.dst cmd = some s') (hlog : ∀ p ∈ s'.log, p) (hK : ∀ γ' a' w', GExt γ γ' → Rel γ' w0 s' a' w' → K a' w') : o.wp P a w K Q := by
  unfold cmdCall at hc
  split at hc
  · rename_i b hcal
    generalize hargs : c.args.toList.map s.eval = xs at hc
    generalize hty : c.argTypes.toList = ts at hc
    unfold cmdBuiltin at hc
    split at hc
    · rename_i x t
      obtain ⟨x1, h1, h2⟩ := args_one hargs
      have ht := types_one hty
      have hval : ∃ v, cmd = .val v := by
        unfold cmdLen at hc
        split at hc <;> first | (simp only [Option.map_eq_some_iff] at hc; obtain ⟨_, _, rfl⟩ := hc; exact ⟨_, rfl⟩) | cases hc
      obtain ⟨v, rfl⟩ := hval
      rw [← h2] at hc
      obtain ⟨u, hr, hv⟩ := vs_len hrel.eval hc
      refine step_val hrel ?_ hv hs hK
      rw [op_builtin ho hcal, h1, ht]
      simp only [builtin, List.map_toArray, List.map_cons, List.map_nil]
      exact v_run hr
    · rename_i x1' x2' t t'
      obtain ⟨x1, x2, h1, h2, h3⟩ := args_two hargs
      have ht := types_two hty
      rw [← h2, ← h3] at hc
      refine append_step (ty := o.type) hrel (fun u w' hr => ?_) hc hs hlog hK
      rw [op_builtin ho hcal, h1, ht]
      simp only [builtin, List.map_toArray, List.map_cons, List.map_nil]
      exact v_run hr
    all_goals first | (cases hc; done) | skip
    all_goals
      simp only [Option.bind_eq_some_iff, Option.map_eq_some_iff] at hc
      obtain ⟨vs, hvs, v, hp, rfl⟩ := hc
      rw [← hargs] at hvs
      have := scs_args hrel.eval c.args.toList hvs
      refine step_val hrel (c := v) ?_ (show AVR γ s.lens w v (.sc v) from rfl) hs hK
      rw [op_builtin ho hcal]
      have e : c.args.map a.eval = vs.toArray := by rw [← this]; exact (Array.toArray_toList (xs := c.args.map a.eval)).symm.trans (by rw [Array.toList_map])
      have e2 : c.argTypes = ts.toArray := by rw [← hty]
      simp only [builtin, e, e2]
      exact v_run (peek_run hp w)
  · rename_i f hcal
    unfold cmdValue at hc
    split at hc
    case h_2 => cases hc
    rename_i g fst cap hf
    split at hc
    case h_2 => cases hc
    rename_i hf1 hf2
    simp only [Option.map_eq_some_iff] at hc
    obtain ⟨r, hr, rfl⟩ := hc
    have e1 := ev_sc hrel.eval hf
    have q1 : fst = #[] := by rw [← Array.toArray_toList (xs := fst), hf1]
    have q2 : cap = #[] := by rw [← Array.toArray_toList (xs := cap), hf2]
    subst q1; subst q2
    have hok : Ok P g ((c.args.toList.map s.eval).map plain) r := ret_logged hs hlog
    refine step_call hrel hok (c.args.toList.map a.eval) (vl_args hrel.eval _) ?_ hs hK
    have e : c.args.map a.eval = (c.args.toList.map a.eval).toArray := (Array.toArray_toList (xs := c.args.map a.eval)).symm.trans (by rw [Array.toList_map])
    simp only [execOp, ho, resolve, hcal, e1, Deferred.ofValue, Sem.run_bind, Sem.run_pure, Result.andThen_ok, invoke, e]
    simp
  · cases hc

theorem cmd_sound {call : Orc} {o : Oper} (hrel : Rel γ w0 s a w) {cmd : Cmd} (hc : cmdOf P call s.eval o = some cmd)
    (hs : s.apply F o.dst cmd = some s') (hlog : ∀ p ∈ s'.log, p) (hK : ∀ γ' a' w', GExt γ γ' → Rel γ' w0 s' a' w' → K a' w') : o.wp P a w K Q := by
  have E := hrel.eval
  obtain ⟨dst, op, type, pos, after, guard⟩ := o
  cases op <;> simp only [cmdOf, reduceCtorEq] at hc
  case move x =>
    simp only [Option.some.injEq] at hc; subst hc
    exact step_val hrel (by simp only [execOp, Sem.run_pure]) (E x) hs hK
  case assign x =>
    simp only [Option.some.injEq] at hc; subst hc
    exact step_val hrel (by simp only [execOp, Sem.run_pure]) (E x) hs hK
  case pick c x y =>
    split at hc
    case h_2 => cases hc
    rename_i b hcv
    simp only [Option.some.injEq] at hc; subst hc
    have := ev_sc E hcv
    refine step_val hrel (c := if b then a.eval x else a.eval y) (by simp [execOp, this, asBool]) ?_ hs hK
    cases b
    · exact E y
    · exact E x
  case alloc e =>
    simp only [cmdAlloc, Option.map_eq_some_iff] at hc
    obtain ⟨xs, hz, rfl⟩ := hc
    obtain ⟨i, zv, hi', hzv, hzc⟩ := zero_sound hz
    refine box_step hrel (v := zv) ?_ (fun γ' w' h => acells_sound hzc rfl) hs hK
    simp [execOp, Instr.alloc, zeroValue, typeInfo, hi', hzv, newVar, newRow]
  case box e x =>
    simp only [cmdBox, Option.map_eq_some_iff] at hc
    obtain ⟨xs, hz, rfl⟩ := hc
    refine box_step hrel (v := a.eval x) ?_ (fun γ' w' h => acells_sound hz (h.eval x)) hs hK
    simp [execOp, Instr.box, newVar, newRow]
  case build t ps =>
    have hval : ∃ v, cmd = .val v := by
      unfold cmdBuild at hc
      split at hc
      · split at hc
        · simp only [Option.map_eq_some_iff] at hc; obtain ⟨_, _, rfl⟩ := hc; exact ⟨_, rfl⟩
        · cases hc
      · cases hc
    obtain ⟨v, rfl⟩ := hval
    obtain ⟨c, hr, hv⟩ := vs_build E hc
    exact step_val hrel (v_run hr) hv hs hK
  case buildSlice t len ps => exact slice_step hrel rfl hc hs hK
  case load t x =>
    have hc' := hc
    unfold cmdLoad at hc
    split at hc
    · rename_i n d off h1 h2 hx
      simp only [Option.some.injEq] at hc; subst hc
      exact step_load hrel (t := t) (x := x) rfl hx h1 (fun _ => h2) hs hK
    · rename_i d off h1 hx
      simp only [Option.some.injEq] at hc; subst hc
      exact step_load hrel (t := t) (x := x) rfl hx h1 (fun h => by cases h) hs hK
    · simp only [Option.map_eq_some_iff] at hc
      obtain ⟨ys, _, rfl⟩ := hc
      obtain ⟨c, hr, hv⟩ := vs_load E hc'
      exact step_val hrel (v_run hr) hv hs hK
    · simp only [Option.some.injEq] at hc; subst hc
      obtain ⟨c, hr, hv⟩ := vs_load E hc'
      exact step_val hrel (v_run hr) hv hs hK
    · cases hc
  case store t x v =>
    unfold cmdStore at hc
    split at hc
    case h_2 => cases hc
    rename_i n d off ys h1 hx hcv
    split at hc
    case h_2 => cases hc
    rename_i hn
    have hn := Nat.eq_of_beq_eq_true hn
    subst hn
    simp only [Option.some.injEq] at hc; subst hc
    exact step_store hrel (t := t) (x := x) (v := v) rfl hx h1 hcv hs hK
  case fieldAddr t x k =>
    have hval : ∃ v, cmd = .val v := by
      unfold cmdFieldAddr at hc
      split at hc
      · split at hc <;> first | (simp only [Option.some.injEq] at hc; subst hc; exact ⟨_, rfl⟩) | cases hc
      · cases hc
    obtain ⟨v, rfl⟩ := hval
    obtain ⟨c, hr, hv⟩ := vs_fieldAddr E hc
    exact step_val hrel (v_run hr) hv hs hK
  case field t x k =>
    have hval : ∃ v, cmd = .val v := by
      unfold cmdField at hc
      split at hc
      · simp only [Option.map_eq_some_iff] at hc; obtain ⟨_, _, rfl⟩ := hc; exact ⟨_, rfl⟩
      · split at hc
        · simp only [Option.map_eq_some_iff] at hc; obtain ⟨_, _, rfl⟩ := hc; exact ⟨_, rfl⟩
        · simp only [Option.some.injEq] at hc; subst hc; exact ⟨_, rfl⟩
        · cases hc
      · cases hc
    obtain ⟨v, rfl⟩ := hval
    obtain ⟨c, hr, hv⟩ := vs_field E hc
    exact step_val hrel (v_run hr) hv hs hK
  case indexAddr t x i =>
    have hval : ∃ v, cmd = .val v := by
      unfold cmdIndexAddr at hc
      split at hc
      · split at hc
        · simp only [Option.some.injEq] at hc; subst hc; exact ⟨_, rfl⟩
        · cases hc
      · split at hc
        · split at hc
          · simp only [Option.some.injEq] at hc; subst hc; exact ⟨_, rfl⟩
          · cases hc
        · cases hc
      · cases hc
    obtain ⟨v, rfl⟩ := hval
    obtain ⟨c, hr, hv⟩ := vs_indexAddr E hc
    exact step_val hrel (v_run hr) hv hs hK
  case slice t x lo hg mx =>
    have hval : ∃ v, cmd = .val v := by
      unfold cmdSlice at hc
      split at hc
      case h_2 => cases hc
      split at hc
      case h_2 => cases hc
      split at hc
      · split at hc
        · simp only [Option.some.injEq] at hc; subst hc; exact ⟨_, rfl⟩
        · cases hc
      · split at hc
        · split at hc
          · simp only [Option.some.injEq] at hc; subst hc; exact ⟨_, rfl⟩
          · cases hc
        · cases hc
      · cases hc
    obtain ⟨v, rfl⟩ := hval
    obtain ⟨c, hr, hv⟩ := vs_slice E hc
    exact step_val hrel (v_run hr) hv hs hK
  case extract x i =>
    split at hc
    case h_2 => cases hc
    rename_i xs hx
    have hE := E x
    rw [hx] at hE
    obtain ⟨cs, e1, e2⟩ := hE
    split at hc
    · cases hc
    · rename_i y hnt hy
      simp only [Option.some.injEq] at hc; subst hc
      obtain ⟨c, k1, k2⟩ := e2.at_ hy
      refine step_val hrel (c := c) ?_ (AVR.of_AVR1 (fun zs hz => ?_) k2) hs hK
      · simp only [execOp]
        exact v_run (by simp [Instr.extract, e1, k1])
      · subst hz; exact (hnt zs rfl).elim
    · cases hc
  case binOp op t x y u =>
    split at hc
    case h_2 => cases hc
    rename_i b c hx hy
    simp only [Option.map_eq_some_iff] at hc
    obtain ⟨r, hp, rfl⟩ := hc
    have e1 := ev_sc E hx
    have e2 := ev_sc E hy
    refine step_val hrel (c := r) ?_ (show AVR γ s.lens w r (.sc r) from rfl) hs hK
    simp only [execOp, e1, e2]
    exact v_run (peek_run hp w)
  case unOp op t x =>
    split at hc
    case h_2 => cases hc
    rename_i b hx
    simp only [Option.map_eq_some_iff] at hc
    obtain ⟨r, hp, rfl⟩ := hc
    have e1 := ev_sc E hx
    refine step_val hrel (c := r) ?_ (show AVR γ s.lens w r (.sc r) from rfl) hs hK
    simp only [execOp, e1]
    exact v_run (peek_run hp w)
  case convert src dst' x =>
    split at hc
    case h_2 => cases hc
    rename_i b hx
    simp only [Option.map_eq_some_iff] at hc
    obtain ⟨r, hp, rfl⟩ := hc
    have e1 := ev_sc E hx
    refine step_val hrel (c := r) ?_ (show AVR γ s.lens w r (.sc r) from rfl) hs hK
    simp only [execOp, e1]
    exact v_run (peek_run hp w)
  case call c => exact call_sound rfl hrel hc hs hlog hK

theorem step_sound {call : Orc} {ops : Array Oper} {i : Nat} {o : Oper} (hi : ops[i]? = some o) (hrel : Rel γ w0 s a w)
    (hs : stepOp P call ops F o s = some s') (hlog : ∀ p ∈ s'.log, p) (hK : ∀ γ' a' w', GExt γ γ' → Rel γ' w0 s' a' w' → K a' w') : wpOp P ops Q i K a w := by
  unfold stepOp at hs
  unfold wpOp
  rw [hi]
  simp only
  split at hs
  case h_3 => cases hs
  case h_2 hw =>
    rw [wants_sound hrel hw]
    simp only [Bool.false_eq_true, if_false]
    exact hK γ _ _ (GExt.refl γ) (hrel.put hs rfl)
  rename_i hw
  rw [wants_sound hrel hw]
  simp only [if_true]
  refine .inl ?_
  split at hs
  · rename_i c hh
    simp only [Option.map_eq_some_iff] at hs
    obtain ⟨t, ht, rfl⟩ := hs
    have hc : cmdOf P call s.eval o = some c := hlog _ (by simp)
    exact cmd_sound hrel hc ht (fun p hp => hlog p (by simp [hp])) fun γ' a' w' e hr => hK γ' a' w' e (hr.withLog _)
  · simp only [Option.bind_eq_some_iff] at hs
    obtain ⟨cmd, hc, hs⟩ := hs
    exact cmd_sound hrel hc hs hlog hK
end
end Go.Proofs.YtmhoefpienagkaaDoor

/- Two operations that do not wait for each other may change places. -/
namespace Go.Proofs.YtmhoefpienagkaaDoor
open Go.RowKit

def Cmd.ro : Cmd → Option Nat
  | .load d .. => some d
  | .store d .. => some d
  | _ => none
def Cmd.wo : Cmd → Option Nat
  | .store d .. => some d
  | _ => none
def Cmd.rl : Cmd → Option Nat
  | .grow d .. => some d
  | _ => none
def Cmd.names : Cmd → Bool
  | .box .. | .fresh .. => true
  | .ret r _ => r.own.isSome
  | _ => false
def Cmd.boxes : Cmd → Bool
  | .box .. => true
  | _ => false

structure Eff (F : List Nat) (dst : Option Nat) (c : Cmd) (s : St) (A : List (Nat × AV)) (B : List (Nat × (Nat × List AV))) (C : List (Nat × Nat)) (D : List Prop) : Prop where
  keyA : ∀ p ∈ A, dst = some p.1
  keyB : ∀ p ∈ B, c.wo = some p.1 ∨ (c.boxes = true ∧ dst = some p.1)
  keyC : ∀ p ∈ C, c.rl = some p.1 ∨ (c.names = true ∧ dst = some p.1)
  avA : ∀ f ∈ F, ∀ p ∈ A, ment f p.2 = false
  avB : ∀ f ∈ F, ∀ p ∈ B, p.1 ≠ f ∧ ∀ x ∈ p.2.2, ment f x = false
  avC : ∀ f ∈ F, ∀ p ∈ C, p.1 ≠ f
  rdO : ∀ d, c.ro = some d → d ∉ F
  rdL : ∀ d, c.rl = some d → d ∉ F
  abs : ∀ d, c.names = true → dst = some d → s.absent d = true
  again : ∀ s2 : St, s2.n = s.n → (∀ d, c.ro = some d → look s2.objs d = look s.objs d) → (∀ d, c.rl = some d → look s2.lens d = look s.lens d) → (∀ d, c.names = true → dst = some d → s2.absent d = true) →
    s2.apply F dst c = some { n := s2.n, slots := A ++ s2.slots, objs := B ++ s2.objs, lens := C ++ s2.lens, log := D ++ s2.log }

theorem beq_false' {d f : Nat} (h : d ≠ f) : Nat.beq d f = false := by rw [← Bool.not_eq_true, Nat.beq_eq]; exact h
theorem avoids_iff {F : List Nat} {x : AV} : avoids F x = true ↔ ∀ f ∈ F, ment f x = false := by simp [avoids]
theorem avoidsN_iff {F : List Nat} {n : Nat} : avoidsN F n = true ↔ ∀ f ∈ F, n ≠ f := by
  simp only [avoidsN, List.all_eq_true, Bool.not_eq_true', ← Bool.not_eq_true, Nat.beq_eq]
theorem ment1_plain1 (f : Nat) (x : AV) : ment1 f (plain1 x) = false := by cases x <;> simp [plain1, ment1]
theorem ment_plain (f : Nat) (x : AV) : ment f (plain x) = false := by
  cases x with
  | tup xs =>
    simp only [plain, ment, List.any_map]
    rw [← Bool.not_eq_true, List.any_eq_true]
    rintro ⟨y, _, h⟩
    simp only [Function.comp, ment1_plain1] at h
    cases h
  | _ => simp [plain, plain1, ment, ment1]
theorem ment_tag {f d e : Nat} (h : d ≠ f) (x : AV) : ment f (tag d e (plain x)) = false := by
  cases x with
  | tup xs =>
    have hp := ment_plain f (.tup xs)
    cases xs with
    | nil => rfl
    | cons y ys =>
      cases y with
      | row t s n zs =>
        simp only [plain, List.map_cons, plain1, tag, ment, List.any_cons, ment1, beq_false' h, Bool.false_or] at hp ⊢
        exact hp
      | _ => exact hp
  | row t s n xs => simp [plain, plain1, tag, ment, ment1, beq_false' h]
  | _ => simp [plain, plain1, tag, ment, ment1]
theorem put_eff {F : List Nat} {s s' : St} {dst : Option Nat} {v : AV} (h : s.put dst v = some s') (hv : avoids F v = true) :
    ∃ A : List (Nat × AV), s' = { s with slots := A ++ s.slots } ∧ (∀ p ∈ A, dst = some p.1) ∧ (∀ f ∈ F, ∀ p ∈ A, ment f p.2 = false) ∧ ∀ s2 : St, s2.n = s.n → s2.put dst v = some { s2 with slots := A ++ s2.slots } := by
  cases dst with
  | none => simp only [St.put, Option.some.injEq] at h; subst h; exact ⟨[], rfl, by simp, by simp, fun s2 _ => rfl⟩
  | some d =>
    simp only [St.put] at h
    split at h
    · rename_i hlt
      simp only [Option.some.injEq] at h; subst h
      refine ⟨[(d, v)], rfl, by simp, fun f hf p hp => ?_, fun s2 h2 => ?_⟩
      · simp at hp; subst hp; exact avoids_iff.1 hv f hf
      · simp only [St.put, h2, hlt]; rfl
    · cases h

theorem apply_eff {F : List Nat} {s s' : St} {dst : Option Nat} {c : Cmd} (h : s.apply F dst c = some s') :
    ∃ A B C D, s' = { n := s.n, slots := A ++ s.slots, objs := B ++ s.objs, lens := C ++ s.lens, log := D ++ s.log } ∧ Eff F dst c s A B C D := by
  cases c with
  | val v =>
    simp only [St.apply] at h
    split at h
    case h_2 => cases h
    rename_i hv
    obtain ⟨A, e, k1, k2, k3⟩ := put_eff h hv
    refine ⟨A, [], [], [], by simpa using e, ⟨k1, by simp, by simp, k2, by simp, by simp, by simp [Cmd.ro], by simp [Cmd.rl], by simp [Cmd.names], fun s2 h1 _ _ _ => ?_⟩⟩
    simp only [St.apply, hv]
    simpa using k3 s2 h1
  | load d off n agg =>
    simp only [St.apply] at h
    split at h
    case h_2 => cases h
    rename_i ty xs hobj hav
    have hd : d ∉ F := fun hd => (avoidsN_iff.1 hav d hd) rfl
    cases agg with
    | true =>
      simp only [Option.bind_eq_some_iff] at h
      obtain ⟨ys, ht, h⟩ := h
      split at h
      case h_2 => cases h
      rename_i hv
      obtain ⟨A, e, k1, k2, k3⟩ := put_eff h hv
      refine ⟨A, [], [], [], by simpa using e, ⟨k1, by simp, by simp, k2, by simp, by simp, fun d' he => by simp [Cmd.ro] at he; subst he; exact hd, by simp [Cmd.rl], by simp [Cmd.names], fun s2 h1 h2 _ _ => ?_⟩⟩
      simp only [St.apply, h2 d rfl, hobj, hav, ht, Option.bind_some, hv]
      simpa using k3 s2 h1
    | false =>
      simp only at h
      split at h
      case h_2 => cases h
      rename_i y rest hdr
      split at h
      case h_2 => cases h
      rename_i hv
      obtain ⟨A, e, k1, k2, k3⟩ := put_eff h hv
      refine ⟨A, [], [], [], by simpa using e, ⟨k1, by simp, by simp, k2, by simp, by simp, fun d' he => by simp [Cmd.ro] at he; subst he; exact hd, by simp [Cmd.rl], by simp [Cmd.names], fun s2 h1 h2 _ _ => ?_⟩⟩
      simp only [St.apply, h2 d rfl, hobj, hav, hdr, hv]
      simpa using k3 s2 h1
  | store d off ys =>
    simp only [St.apply] at h
    split at h
    case h_2 => cases h
    rename_i ty xs hobj hav hys
    have hd : d ∉ F := fun hd => (avoidsN_iff.1 hav d hd) rfl
    split at h
    case h_2 => cases h
    rename_i hle hxs
    simp only [Option.some.injEq] at h; subst h
    have hm : ∀ f ∈ F, ∀ x ∈ xs, ment f x = false := fun f hf x hx => avoids_iff.1 (List.all_eq_true.1 hxs x hx) f hf
    · refine ⟨[], [(d, (ty, xs.take off ++ ys ++ xs.drop (off + ys.length)))], [], [], rfl, ⟨by simp, by simp [Cmd.wo], by simp, by simp, ?_, by simp, fun d' he => by simp [Cmd.ro] at he; subst he; exact hd, by simp [Cmd.rl], by simp [Cmd.names], fun s2 h1 h2 _ _ => ?_⟩⟩
      · intro f hf p hp
        simp only [List.mem_singleton] at hp
        subst hp
        refine ⟨fun e => hd (by simp only at e; rw [e]; exact hf), fun x hx => ?_⟩
        simp only [List.mem_append] at hx
        rcases hx with (hx | hx) | hx
        · exact hm f hf x (List.mem_of_mem_take hx)
        · exact avoids_iff.1 (List.all_eq_true.1 hys x hx) f hf
        · exact hm f hf x (List.mem_of_mem_drop hx)
      · simp only [St.apply, h2 d rfl, hobj, hav, hys, hle, hxs]; rfl
  | box ty xs =>
    simp only [St.apply] at h
    split at h
    case h_2 => cases h
    rename_i d hxs
    split at h
    case h_2 => cases h
    rename_i hab hav hlt
    simp only [Option.some.injEq] at h; subst h
    refine ⟨[(d, .ptr d 0)], [(d, (ty, xs))], [], [], rfl, ⟨by simp, by simp [Cmd.boxes], by simp, ?_, ?_, by simp, by simp [Cmd.ro], by simp [Cmd.rl], fun d' _ he => by cases he; exact hab, fun s2 h1 _ _ h4 => ?_⟩⟩
    · intro f hf p hp
      simp only [List.mem_singleton] at hp; subst hp
      simp only [ment, ment1]; exact beq_false' (avoidsN_iff.1 hav f hf)
    · intro f hf p hp
      simp only [List.mem_singleton] at hp; subst hp
      exact ⟨avoidsN_iff.1 hav f hf, fun x hx => avoids_iff.1 (List.all_eq_true.1 hxs x hx) f hf⟩
    · simp only [St.apply, hxs, h4 d rfl rfl, hav, h1, hlt]; rfl
  | fresh e size n xs =>
    simp only [St.apply] at h
    split at h
    case h_2 => cases h
    rename_i d
    split at h
    case h_2 => cases h
    rename_i hab hav hlt
    simp only [Option.some.injEq] at h; subst h
    refine ⟨[(d, .row (some (d, e)) size n xs)], [], [(d, n * size)], [], rfl, ⟨by simp, by simp, by simp [Cmd.names], ?_, by simp, ?_, by simp [Cmd.ro], by simp [Cmd.rl], fun d' _ he => by cases he; exact hab, fun s2 h1 _ _ h4 => ?_⟩⟩
    · intro f hf p hp
      simp only [List.mem_singleton] at hp; subst hp
      simp only [ment, ment1]; exact beq_false' (avoidsN_iff.1 hav f hf)
    · intro f hf p hp
      simp only [List.mem_singleton] at hp; subst hp
      exact avoidsN_iff.1 hav f hf
    · simp only [St.apply, h4 d rfl rfl, hav, h1, hlt]; rfl
  | grow d e size n xs m ys =>
    simp only [St.apply] at h
    split at h
    case h_2 => cases h
    rename_i len t hlen hav
    have hd : d ∉ F := fun hd => (avoidsN_iff.1 hav d hd) rfl
    split at h
    case h_2 => cases h
    rename_i hlt
    simp only [Option.some.injEq] at h; subst h
    refine ⟨[(t, .row (some (d, e)) size (n + m) (xs ++ ys))], [], [(d, (n + m) * size)], [len = n * size], rfl, ⟨by simp, by simp, by simp [Cmd.rl], ?_, by simp, ?_, by simp [Cmd.ro], fun d' he => by simp [Cmd.rl] at he; subst he; exact hd, by simp [Cmd.names], fun s2 h1 _ h3 _ => ?_⟩⟩
    · intro f hf p hp
      simp only [List.mem_singleton] at hp; subst hp
      simp only [ment, ment1]; exact beq_false' (avoidsN_iff.1 hav f hf)
    · intro f hf p hp
      simp only [List.mem_singleton] at hp; subst hp
      exact avoidsN_iff.1 hav f hf
    · simp only [St.apply, h3 d rfl, hlen, hav, h1, hlt]; rfl
  | ret r need =>
    have plainCase : (∀ e d, r.own = some e → dst = some d → False) → St.put { s with log := need :: s.log } dst (plain r.v) = some s' → (∀ s2 : St, s2.apply F dst (.ret r need) = St.put { s2 with log := need :: s2.log } dst (plain r.v)) →
        ∃ A B C D, s' = { n := s.n, slots := A ++ s.slots, objs := B ++ s.objs, lens := C ++ s.lens, log := D ++ s.log } ∧ Eff F dst (.ret r need) s A B C D := by
      intro hno h e2
      obtain ⟨A, e, k1, k2, k3⟩ := put_eff (F := F) h (avoids_iff.2 fun f _ => ment_plain f _)
      refine ⟨A, [], [], [need], by simpa using e, ⟨k1, by simp, by simp, k2, by simp, by simp, by simp [Cmd.ro], by simp [Cmd.rl], fun d hn hd => ?_, fun s2 h1 _ _ _ => ?_⟩⟩
      · exfalso
        simp only [Cmd.names, Option.isSome_iff_exists] at hn
        obtain ⟨e', he⟩ := hn
        exact hno e' d he hd
      · rw [e2]
        simpa using k3 { s2 with log := need :: s2.log } h1
    rcases hoe : r.own with _ | e
    · have e2 : ∀ s2 : St, s2.apply F dst (.ret r need) = St.put { s2 with log := need :: s2.log } dst (plain r.v) := fun s2 => by simp only [St.apply, hoe]
      exact plainCase (fun e d he _ => by rw [hoe] at he; cases he) (by rw [← e2]; exact h) e2
    · rcases dst with _ | d
      · have e2 : ∀ s2 : St, s2.apply F none (.ret r need) = St.put { s2 with log := need :: s2.log } none (plain r.v) := fun s2 => by simp only [St.apply, hoe]
        exact plainCase (fun e d he hd => by cases hd) (by rw [← e2]; exact h) e2
      · simp only [St.apply, hoe] at h
        split at h
        case h_2 => cases h
        rename_i len hlen hab hav hlt
        simp only [Option.some.injEq] at h; subst h
        refine ⟨[(d, tag d e (plain r.v))], [], [(d, len)], [need], rfl, ⟨by simp, by simp, by simp [Cmd.names, hoe], ?_, by simp, ?_, by simp [Cmd.ro], by simp [Cmd.rl], fun d' _ he => by cases he; exact hab, fun s2 h1 _ _ h4 => ?_⟩⟩
        · intro f hf p hp
          simp only [List.mem_singleton] at hp; subst hp
          exact ment_tag (avoidsN_iff.1 hav f hf) _
        · intro f hf p hp
          simp only [List.mem_singleton] at hp; subst hp
          exact avoidsN_iff.1 hav f hf
        · simp only [St.apply, hoe, hlen, h4 d (by simp [Cmd.names, hoe]) rfl, hav, h1, hlt]; rfl
end Go.Proofs.YtmhoefpienagkaaDoor
