/- The iterator of slices.Chunk. -/
/- slices.Chunk at 3: its closure, as an iterator. -/
import Derived.RangeFuncBox
import Derived.RangeFuncLeaves
import Derived.RangeFuncWrites
import Derived.Shelf.Abstract
import Derived.WalkKit
import Derived.OwnWalkIn
import Derived.TacticsInMore
import Derived.LoopNIn
import Derived.LoopIn
import Derived.Deep.QuietTactic
import Derived.BigQuiet
import Derived.Lib.Hide
import Derived.Test.YtlekojbcaelpiaaProg
set_option linter.unusedVariables false
set_option linter.unusedSimpArgs false
namespace Go.Proofs.Ytlekojbcaelpiaa
open Go.RowKit Go.Shelf

attribute [local go_sem] Oper.semAt_some

def chunkV (b off j : Nat) : Value := .slice (some ⟨b, off + 3 * j, none⟩) 3 3
/-- the two boxes that the closure looks at -/
structure Boxes (bs bn : Nat) (A : Option Addr) (n cap : Nat) (W : World) : Prop where
  s : W.heap[bs]? = some (.cells #[.slice A n cap] 22 (0, 0))
  n : W.heap[bn]? = some (.cells #[.int .i64 3] 3 (0, 0))
def KpB (bs bn : Nat) (W W' : World) : Prop := W'.heap[bs]? = W.heap[bs]? ∧ W'.heap[bn]? = W.heap[bn]?
theorem Boxes.kp {bs bn n cap : Nat} {A : Option Addr} {W W' : World} (h : Boxes bs bn A n cap W) (k : KpB bs bn W W') : Boxes bs bn A n cap W' := ⟨k.1.trans h.s, k.2.trans h.n⟩
theorem Boxes.cs {bs bn n cap : Nat} {A : Option Addr} {W : World} (h : Boxes bs bn A n cap W) : W.cell? ⟨bs, 0, none⟩ = some (.slice A n cap) := by simp [World.cell?, h.s]
theorem Boxes.cn {bs bn n cap : Nat} {A : Option Addr} {W : World} (h : Boxes bs bn A n cap W) : W.cell? ⟨bn, 0, none⟩ = some (.int .i64 3) := by simp [World.cell?, h.n]
theorem fin_take {q k : Nat} (h : k < q) : (List.finRange q).take (k + 1) = (List.finRange q).take k ++ [⟨k, h⟩] := by
  rw [List.take_add_one, List.getElem?_eq_getElem (by simpa using h)]; simp
set_option maxRecDepth 100000 in
set_option maxHeartbeats 2000000 in
theorem chunk1_in (n l bs bn b off q cap : Nat) (A : Option Addr) (hA : 0 < q → A = some ⟨b, off, none⟩) (hq : q ≤ 100000000) (hcap : 3 * q ≤ cap) (hcap2 : cap ≤ 9223372036854775807) (J Jx : List (Fin q) → World → Prop)
    (hJ : ∀ s W d, J s W → J s (W.drewN d))
    (hY : ∀ pre x W, J pre W → pre.length < q → YieldAt Fence.wide (n - 1) Try.prog l #[chunkV b off x.1] W fun e W' =>
      (e = .returned (.bool true) ∧ J (pre ++ [x]) W' ∧ KpB bs bn W W') ∨ (e = .returned (.bool false) ∧ Jx (pre ++ [x]) W'))
    (W : World) (hB : Boxes bs bn A (3 * q) cap W) (h0 : J [] W) :
    CallsIn Fence.wide n Try.prog 75 #[.func (.yield l) #[] #[], .pointer (some ⟨bs, 0, none⟩), .pointer (some ⟨bn, 0, none⟩)] W fun e W' => (∃ v, e = .returned v) ∧
      ((∃ xs, xs = List.finRange q ∧ J xs W') ∨ (∃ pre, True ∧ Jx pre W')) := by
  refine callsIn_of_wp Try.func75 rfl trivial ?_ rfl
  simp only [Try.ntmps75, List.size_toArray, List.length_cons, List.length_nil, Nat.reduceAdd, Nat.reduceSub, Array.replicate_succ, Array.replicate_zero, List.push_toArray, List.append_toArray, List.nil_append, List.cons_append]
  gi_wp2
  gi_loopw [4] (fun i wr => ∃ k : Nat, k ≤ q ∧ i = .int .i64 ((3 * k : Nat) : Int) ∧ J ((List.finRange q).take k) wr ∧ Boxes bs bn A (3 * q) cap wr)
    (fun i _ => 3 * q - (intOf i).toNat)
  case atStart => exact ⟨0, Nat.zero_le _, rfl, by simpa using h0, hB⟩
  case round =>
    obtain ⟨k, hk, rfl, hJs, hBx⟩ := hrel
    by_cases hlt : k < q
    · obtain rfl := hA (by omega)
      clear hA
      have hcs := hBx.cs
      have hcn := hBx.cn
      have hk0 : (0 : Int) ≤ ((3 * k : Nat) : Int) := by omega
      have hk1 : ((3 * k : Nat) : Int) ≤ ((3 * q : Nat) : Int) := by omega
      have hk2 : ((3 * k : Nat) : Int) ≤ (cap : Int) := by omega
      have hk3 : 3 * k ≤ 3 * q := by omega
      gi_wp2
      refine wpIn_wide.2 ?_
      go_quiet (fail)
      have hB2 : ∀ d, Boxes bs bn (some ⟨b, off, none⟩) (3 * q) cap (wr.drewN d) := fun d => ⟨hBx.s, hBx.n⟩
      obtain ⟨wq, hwq⟩ : ∃ wq, wr.drewN nq = wq := ⟨_, rfl⟩
      have hJq : J ((List.finRange q).take k) wq := by rw [← hwq]; exact hJ _ _ _ hJs
      have hBq : Boxes bs bn (some ⟨b, off, none⟩) (3 * q) cap wq := by rw [← hwq]; exact hB2 _
      rw [hwq]
      clear hwq hB2 hcs hcn hBx hJs
      have hcs := hBq.cs
      have hcn := hBq.cn
      obtain ⟨fn, tmps, assign, body, hy, hR⟩ := hY _ ⟨k, hlt⟩ wq hJq (by simp; omega)
      have hk4 : 3 * k + 3 ≤ cap := by omega
      have hk5 : 3 * k + 3 ≤ 3 * q := by omega
      have e1 : IntKind.i64.wrap (((3 * k : Nat) : Int) + 3) = ((3 * k + 3 : Nat) : Int) := by rw [IntKind.wrap_i64]; omega
      have e2 : wrap64 (((3 * k : Nat) : Int) + 3) = ((3 * k + 3 : Nat) : Int) := by unfold wrap64; omega
      unfold chunkV at hy
      simp only at hy
      gi_wp2
      refine ⟨fun h => Bool.noConfusion h, hR.mono ?_⟩
      rintro e W3 (⟨rfl, hJ3, hk3⟩ | ⟨rfl, hJx3⟩)
      · have hB3 := hBq.kp hk3
        have hcs3 := hB3.cs
        have hcn3 := hB3.cn
        clear hcs hcn
        gi_wp2
        go_roundw
        case rel => exact ⟨k + 1, by omega, by congr 1, by rw [fin_take hlt]; exact hJ3, hB3⟩
        case measure => simp [intOf]; omega
      · gi_wp2
        refine bodyPost_ret (results_none rfl _ _ _) rfl ?_
        exact ⟨⟨_, rfl⟩, .inr ⟨_, trivial, hJx3⟩⟩
    · obtain rfl : k = q := by omega
      clear hA
      have hcs := hBx.cs
      have hcn := hBx.cn
      gi_wp2
      go_end0
      exact ⟨⟨_, rfl⟩, .inl ⟨_, rfl, by rw [List.take_of_length_le (by simp)] at hJs; exact hJs⟩⟩
/-- slices.Chunk(l, 3): two boxes, and the closure over them. -/
theorem chunk_in (A : Option Addr) (n cap : Nat) (w : World) :
    Calls Try.prog 62 #[.slice A n cap, .int .i64 3] w fun e w' => e = .returned (.func (.func 75) #[] #[.pointer (some ⟨w.heap.size, 0, none⟩), .pointer (some ⟨w.heap.size + 1, 0, none⟩)]) ∧
      w' = (w.alloc (.cells #[.slice A n cap] 22)).alloc (.cells #[.int .i64 3] 3) := by
  go_enter Try.func62, Try.ntmps62
  go_wp2
  go_ret
  exact ⟨rfl, rfl⟩
/-- what the closure gives: q pieces of three numbers each -/
theorem chunk_stops (n bs bn b off q cap : Nat) (A : Option Addr) (hA : 0 < q → A = some ⟨b, off, none⟩) (hq : q ≤ 100000000) (hcap : 3 * q ≤ cap) (hcap2 : cap ≤ 9223372036854775807) (w : World) (hbs : bs < w.heap.size) (hbn : bn < w.heap.size) (hB : Boxes bs bn A (3 * q) cap w) :
    SeqStopsK Fence.wide n Try.prog 75 #[.pointer (some ⟨bs, 0, none⟩), .pointer (some ⟨bn, 0, none⟩)] (fun x : Fin q => #[chunkV b off x.1]) (KpB bs bn) (fun xs => xs = List.finRange q) (fun _ => True) q w := fun l J Jx W hW hJ hJx hY h0 => by
  refine (chunk1_in n l bs bn b off q cap A hA hq hcap hcap2 J Jx (fun s W' d hs => hJ s W' _ none hs ⟨rfl, rfl, rfl, Nat.le_refl _, fun _ _ _ => rfl⟩ (fun r e => by cases e)) hY W ⟨(hW.block bs hbs).trans hB.s, (hW.block bn hbn).trans hB.n⟩ h0).mono ?_
  rintro e W' ⟨he, h | h⟩
  · exact ⟨he, .inl h⟩
  · exact ⟨he, .inr h⟩
end Go.Proofs.Ytlekojbcaelpiaa
