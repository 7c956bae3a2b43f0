/- Contracts of the functions that the laws of scorialaw38 reach, part 2. -/
import Derived.Test.YtlekojbcaelpiaaProg
import Derived.RowKit3
import Derived.Below
import Derived.Laws.AppendOwn
import Derived.Orders
import Derived.Laws.Cells
import Derived.Laws.CopyRow
import Derived.Laws.Tables
import Derived.Great.BuildSlice
import Derived.Laws.OwnMore
import Derived.Test.YtlekojbcaelpiaaBa1
set_option linter.unusedVariables false
set_option linter.unusedSimpArgs false

/- wire.GetInt. -/
namespace Go.Proofs.Ytlekojbcaelpiaa
open Go.RowKit

theorem add_pos1 (a : Addr) (j : Nat) : a.add (1 + j) = ⟨a.block, a.off + 1 + j, none⟩ := by unfold Addr.add; rw [if_neg (by omega)]; simp [Nat.add_assoc]
def fl (x0 d : Int) : Int := if x0 < 128 then 255 - d else d
def beV (f : Int → Int) (l : List Int) : Nat := l.foldl (fun m c => m * 256 + (f c).toNat) 0
theorem beV_snoc (f : Int → Int) (l : List Int) (c : Int) : beV f (l ++ [c]) = beV f l * 256 + (f c).toNat := by simp [beV]
theorem beV_ltAux (f : Int → Int) : ∀ (l : List Int) (m : Nat), (∀ c ∈ l, f c ≤ 255) → l.foldl (fun m c => m * 256 + (f c).toNat) m + 1 ≤ (m + 1) * 256 ^ l.length := by
  intro l
  induction l with
  | nil => intro m _; simp
  | cons c l ih =>
    intro m h
    have h1 := ih (m * 256 + (f c).toNat) (fun c hc => h c (by simp [hc]))
    have h2 := h c (by simp)
    refine Nat.le_trans h1 ?_
    rw [List.length_cons, Nat.pow_succ, Nat.mul_comm (256 ^ l.length) 256, ← Nat.mul_assoc]
    exact Nat.mul_le_mul_right _ (by omega)
theorem beV_lt (f : Int → Int) (l : List Int) (h : ∀ c ∈ l, f c ≤ 255) : beV f l < 256 ^ l.length := by
  have := beV_ltAux f l 0 h
  simp only [Nat.zero_add, Nat.one_mul] at this
  exact this
def resZ (neg : Bool) (M k : Nat) : Int × Nat × Int := if 9223372036854775808 ≤ M then (0, 0, 2) else (if neg then -1 - (M : Int) else M, k + 1, 0)
theorem resZ_big (neg : Bool) (M k : Nat) (h : 9223372036854775808 ≤ M) : resZ neg M k = (0, 0, 2) := by unfold resZ; rw [if_pos h]
theorem resZ_pos (M k : Nat) (h : M < 9223372036854775808) : resZ false M k = ((M : Int), k + 1, 0) := by unfold resZ; rw [if_neg (by omega)]; rfl
theorem resZ_neg (M k : Nat) (h : M < 9223372036854775808) : resZ true M k = (-1 - (M : Int), k + 1, 0) := by unfold resZ; rw [if_neg (by omega)]; rfl
/-- what wire.GetInt answers: the number, how many bytes, the error -/
def getZ (b : List Int) : Int × Nat × Int :=
  match b with
  | [] => (0, 0, 3)
  | x0 :: t =>
    if 8 < fl x0 x0 - 128 then (0, 0, 2)
    else if t.length < (fl x0 x0 - 128).toNat then (0, 0, 3)
    else if 0 < fl x0 x0 - 128 ∧ fl x0 (t.getD 0 0) = 0 then (0, 0, 2)
    else resZ (decide (x0 < 128)) (beV (fl x0) (t.take (fl x0 x0 - 128).toNat)) (fl x0 x0 - 128).toNat
def ansV (r : Int × Nat × Int) : Value := .tuple #[.int .i64 r.1, .int .i64 (r.2.1 : Nat), .int .i64 r.2.2]
theorem or_add (M : Nat) (y : Int) (hM : (M : Int) < 72057594037927936) (h0 : 0 ≤ y) (h1 : y ≤ 255) : bits .or .u64 ((M : Int) * 256) y = ((M * 256 + y.toNat : Nat) : Int) := by
  obtain ⟨n, rfl⟩ := Int.eq_ofNat_of_zero_le h0
  have hlt : n < 2 ^ 8 := by omega
  show IntKind.u64.wrap ((BitVec.ofInt 64 ((M : Int) * 256) ||| BitVec.ofInt 64 (n : Int)).toNat : Int) = _
  rw [show (M : Int) * 256 = ((M * 256 : Nat) : Int) by omega, BitVec.ofInt_natCast, BitVec.ofInt_natCast, BitVec.toNat_or, BitVec.toNat_ofNat, BitVec.toNat_ofNat, Nat.mod_eq_of_lt (by omega), Nat.mod_eq_of_lt (by omega)]
  rw [show M * 256 = M <<< 8 by rw [Nat.shiftLeft_eq], ← Nat.shiftLeft_add_eq_or_of_lt hlt, Nat.shiftLeft_eq, IntKind.wrap_u64]
  simp; omega
theorem not_i64 (M : Nat) (h : M < 9223372036854775808) : IntKind.i64.wrap (bits .xor .u64 IntKind.u64.max (M : Int)) = -1 - (M : Int) := by
  have e1 : IntKind.u64.max = 18446744073709551615 := by decide
  rw [e1]
  show IntKind.i64.wrap (IntKind.u64.wrap ((BitVec.ofInt 64 18446744073709551615 ^^^ BitVec.ofInt 64 (M : Int)).toNat : Int)) = _
  have e3 : BitVec.ofInt 64 18446744073709551615 = BitVec.allOnes 64 := by decide
  rw [e3, BitVec.allOnes_xor, BitVec.toNat_not, BitVec.ofInt_natCast, BitVec.toNat_ofNat, IntKind.wrap_u64, IntKind.wrap_i64]
  omega

set_option maxRecDepth 100000 in
set_option maxHeartbeats 2000000 in
theorem getIntPos_big (A : Option Addr) (cp B : Nat) (t : List Int) (k : Nat) (w : World) (hl : t.length ≤ 1000000000) (hcp : t.length + 1 ≤ cp) (hcp2 : cp ≤ 9223372036854775807) (hk : k ≤ 127)
    (hr : Reads w B 1 A (t.length + 1) (byts ((128 + (k : Int)) :: t))) (hu : U8s t) (hk8 : 8 < k) :
    Calls Try.prog 88 #[.slice A (t.length + 1) cp] w fun e w' => e = .returned (ansV (0, 0, 2)) ∧ w = w' := by
  obtain ⟨ad, y0, rfl, hadB, hc0, hy0⟩ := hr.byte_ (k := 0) (by omega)
  have e0 : y0 = (128 + (k : Int)) := by have := hy0.out; simpa using this.symm
  subst e0
  have hX0 : bits .xor .u8 (128 + (k : Int)) 0 = 128 + (k : Int) := by rw [xor0 _ (by omega) (by omega)]
  have hne : (((t.length : Int) + 1) == 0) = false := by rw [beq_eq_false_iff_ne]; omega
  have hne' : (((t.length + 1 : Nat) : Int) == 0) = false := by rw [beq_eq_false_iff_ne]; omega
  have hc0' : w.cell? ad = some (.int .u8 (128 + (k : Int))) := hc0
  have hkk : (128 + (k : Int) - 128) = k := by omega
  clear hc0
  clear hr
  go_enter Try.func88, Try.ntmps88
  go_wp2
  go_ret3
  exact ⟨rfl, rfl⟩

set_option maxRecDepth 100000 in
set_option maxHeartbeats 2000000 in
theorem getIntPos_more (A : Option Addr) (cp B : Nat) (t : List Int) (k : Nat) (w : World) (hl : t.length ≤ 1000000000) (hcp : t.length + 1 ≤ cp) (hcp2 : cp ≤ 9223372036854775807) (hk : k ≤ 127)
    (hr : Reads w B 1 A (t.length + 1) (byts ((128 + (k : Int)) :: t))) (hu : U8s t) (hk8 : k ≤ 8) (hlk : t.length < k) :
    Calls Try.prog 88 #[.slice A (t.length + 1) cp] w fun e w' => e = .returned (ansV (0, 0, 3)) ∧ w = w' := by
  obtain ⟨ad, y0, rfl, hadB, hc0, hy0⟩ := hr.byte_ (k := 0) (by omega)
  have e0 : y0 = (128 + (k : Int)) := by have := hy0.out; simpa using this.symm
  subst e0
  have hX0 : bits .xor .u8 (128 + (k : Int)) 0 = 128 + (k : Int) := by rw [xor0 _ (by omega) (by omega)]
  have hne : (((t.length : Int) + 1) == 0) = false := by rw [beq_eq_false_iff_ne]; omega
  have hne' : (((t.length + 1 : Nat) : Int) == 0) = false := by rw [beq_eq_false_iff_ne]; omega
  have hc0' : w.cell? ad = some (.int .u8 (128 + (k : Int))) := hc0
  have hkk : (128 + (k : Int) - 128) = k := by omega
  clear hc0
  clear hr
  go_enter Try.func88, Try.ntmps88
  go_wp2
  go_ret3
  exact ⟨rfl, rfl⟩

set_option maxRecDepth 100000 in
set_option maxHeartbeats 2000000 in
theorem getIntPos_zero (A : Option Addr) (cp B : Nat) (t : List Int) (x1 : Int) (k : Nat) (w : World) (hl : t.length ≤ 1000000000) (hcp : t.length + 1 ≤ cp) (hcp2 : cp ≤ 9223372036854775807) (hk : k ≤ 127)
    (hr : Reads w B 1 A (t.length + 1) (byts ((128 + (k : Int)) :: t))) (hu : U8s t) (hk8 : k ≤ 8) (hlk : k ≤ t.length) (hk1 : 1 ≤ k) (h1 : t[0]? = some x1) (hz : x1 = 0) :
    Calls Try.prog 88 #[.slice A (t.length + 1) cp] w fun e w' => e = .returned (ansV (0, 0, 2)) ∧ w = w' := by
  obtain ⟨ad, y0, rfl, hadB, hc0, hy0⟩ := hr.byte_ (k := 0) (by omega)
  have e0 : y0 = (128 + (k : Int)) := by have := hy0.out; simpa using this.symm
  subst e0
  have hX0 : bits .xor .u8 (128 + (k : Int)) 0 = 128 + (k : Int) := by rw [xor0 _ (by omega) (by omega)]
  have hne : (((t.length : Int) + 1) == 0) = false := by rw [beq_eq_false_iff_ne]; omega
  have hne' : (((t.length + 1 : Nat) : Int) == 0) = false := by rw [beq_eq_false_iff_ne]; omega
  have hc0' : w.cell? ad = some (.int .u8 (128 + (k : Int))) := hc0
  have hkk : (128 + (k : Int) - 128) = k := by omega
  clear hc0
  obtain ⟨ad', y1, hA', _, hc1, hy1⟩ := hr.byte_ (k := 1) (by omega)
  injection hA' with hA'
  subst hA'
  have e1 : y1 = x1 := by have := hy1.out; rw [List.getElem?_cons_succ, h1] at this; exact (Option.some.inj this).symm
  subst e1
  have hc1' : w.cell? ⟨ad.block, ad.off + 1, none⟩ = some (.int .u8 y1) := hc1
  obtain ⟨u0, u1⟩ := hu.at_ h1
  have hX1 : bits .xor .u8 y1 0 = y1 := xor0 _ u0 u1
  clear hc1 h1
  have hb1 : (y1 == 0) = true := by rw [beq_iff_eq]; exact hz
  clear hz
  clear hr
  go_enter Try.func88, Try.ntmps88
  go_wp2
  go_ret3
  exact ⟨rfl, rfl⟩

set_option maxRecDepth 100000 in
set_option maxHeartbeats 2000000 in
theorem getIntPos_main (A : Option Addr) (cp B : Nat) (t : List Int) (x1 : Int) (k : Nat) (w : World) (hl : t.length ≤ 1000000000) (hcp : t.length + 1 ≤ cp) (hcp2 : cp ≤ 9223372036854775807) (hk : k ≤ 127)
    (hr : Reads w B 1 A (t.length + 1) (byts ((128 + (k : Int)) :: t))) (hu : U8s t) (hk8 : k ≤ 8) (hlk : k ≤ t.length) (hk1 : 1 ≤ k) (h1 : t[0]? = some x1) (hz : ¬ x1 = 0) :
    Calls Try.prog 88 #[.slice A (t.length + 1) cp] w fun e w' => e = .returned (ansV (resZ false (beV (fun d => d) (t.take k)) k)) ∧ w = w' := by
  obtain ⟨ad, y0, rfl, hadB, hc0, hy0⟩ := hr.byte_ (k := 0) (by omega)
  have e0 : y0 = (128 + (k : Int)) := by have := hy0.out; simpa using this.symm
  subst e0
  have hX0 : bits .xor .u8 (128 + (k : Int)) 0 = 128 + (k : Int) := by rw [xor0 _ (by omega) (by omega)]
  have hne : (((t.length : Int) + 1) == 0) = false := by rw [beq_eq_false_iff_ne]; omega
  have hne' : (((t.length + 1 : Nat) : Int) == 0) = false := by rw [beq_eq_false_iff_ne]; omega
  have hc0' : w.cell? ad = some (.int .u8 (128 + (k : Int))) := hc0
  have hkk : (128 + (k : Int) - 128) = k := by omega
  clear hc0
  obtain ⟨ad', y1, hA', _, hc1, hy1⟩ := hr.byte_ (k := 1) (by omega)
  injection hA' with hA'
  subst hA'
  have e1 : y1 = x1 := by have := hy1.out; rw [List.getElem?_cons_succ, h1] at this; exact (Option.some.inj this).symm
  subst e1
  have hc1' : w.cell? ⟨ad.block, ad.off + 1, none⟩ = some (.int .u8 y1) := hc1
  obtain ⟨u0, u1⟩ := hu.at_ h1
  have hX1 : bits .xor .u8 y1 0 = y1 := xor0 _ u0 u1
  clear hc1 h1
  have hb1 : (y1 == 0) = false := by rw [beq_eq_false_iff_ne]; exact hz
  clear hz
  go_enter Try.func88, Try.ntmps88
  go_wp2
  go_loop [7, 48] (fun m i => ∃ j M : Nat, j ≤ k ∧ i = .int .i64 j ∧ m = .int .u64 M ∧ Hid (M = beV (fun d => d) (t.take j))) (fun _ i => k - (intOf i).toNat)
  case atStart => exact ⟨0, 0, by omega, rfl, rfl, by show 0 = beV _ _; simp [beV]⟩
  case round =>
    obtain ⟨j, M, hj, rfl, rfl, hM⟩ := hrel
    have hMlt : M < 256 ^ j := by
      have := beV_lt (fun d => d) (t.take j) (fun c hc => by have := hu c (List.mem_of_mem_take hc); unfold U8 at this; omega)
      rw [← hM.out, List.length_take] at this
      exact Nat.lt_of_lt_of_le this (Nat.pow_le_pow_right (by omega) (by omega))
    by_cases hjk : j < k
    · obtain ⟨ad2, y, hA2, _, hcj, hy⟩ := hr.byte_ (k := 1 + j) (by omega)
      injection hA2 with hA2
      subst hA2
      have hcj' : w.cell? ⟨ad.block, ad.off + 1 + j, none⟩ = some (.int .u8 y) := by
        have := hcj; rw [add_pos1] at this; exact this
      have hty : t[j]? = some y := by have := hy.out; rw [Nat.add_comm, List.getElem?_cons_succ] at this; exact this
      obtain ⟨v0, v1⟩ := hu.at_ hty
      have HT := Lib.hid hty
      have hXy : bits .xor .u8 y 0 = y := xor0 _ v0 v1
      have hM56 : (M : Int) < 72057594037927936 := by
        have : 256 ^ j ≤ 256 ^ 7 := Nat.pow_le_pow_right (by omega) (by omega)
        omega
      have hOr := or_add M (y) hM56 (by omega) (by omega)
      have hz0 : 0 ≤ (y) := by omega
      clear hcj hMlt hty
      go_wp2
      go_round
      case rel => exact ⟨j + 1, M * 256 + (y).toNat, by omega, by go_num, by first | rfl | rw [hOr] | (congr 1; omega), by show _ = beV _ _; rw [List.take_add_one, HT.out, Option.toList_some, beV_snoc, ← hM.out]⟩
      case measure => simp [intOf]; omega
    · obtain rfl : j = k := by omega
      have hM63 : M < 18446744073709551616 := by
        have : 256 ^ j ≤ 256 ^ 8 := Nat.pow_le_pow_right (by omega) (by omega)
        omega
      have HL := Lib.hid hM63
      clear hMlt hM63
      go_wp2
      all_goals first
        | (have ht : 0 < (M : Int) / 9223372036854775808 := by assumption
           have HT := Lib.hid (resZ_big false (beV (fun d => d) (t.take j)) j (by rw [← hM.out]; omega))
           go_ret3
           exact ⟨by rw [HT.out]; rfl, rfl⟩)
        | (have ht : (M : Int) / 9223372036854775808 ≤ 0 := by assumption
           have hN := not_i64 M (by omega)
           have HT := Lib.hid (resZ_pos (beV (fun d => d) (t.take j)) j (by rw [← hM.out]; omega))
           go_ret3
           exact ⟨by rw [HT.out, ← hM.out]; first | rfl | (simp only [ansV]; rw [← hN]; rfl) | (simp [ansV]; rw [← hN]; simp only [wrap64, IntKind.wrap_i64]), rfl⟩)

set_option maxRecDepth 100000 in
set_option maxHeartbeats 2000000 in
theorem getIntNeg_big (A : Option Addr) (cp B : Nat) (t : List Int) (k : Nat) (w : World) (hl : t.length ≤ 1000000000) (hcp : t.length + 1 ≤ cp) (hcp2 : cp ≤ 9223372036854775807) (hk : k ≤ 127)
    (hr : Reads w B 1 A (t.length + 1) (byts ((127 - (k : Int)) :: t))) (hu : U8s t) (hk8 : 8 < k) :
    Calls Try.prog 88 #[.slice A (t.length + 1) cp] w fun e w' => e = .returned (ansV (0, 0, 2)) ∧ w = w' := by
  obtain ⟨ad, y0, rfl, hadB, hc0, hy0⟩ := hr.byte_ (k := 0) (by omega)
  have e0 : y0 = (127 - (k : Int)) := by have := hy0.out; simpa using this.symm
  subst e0
  have hX0 : bits .xor .u8 (127 - (k : Int)) 255 = 128 + (k : Int) := by rw [xor255 _ (by omega) (by omega)]; omega
  have hne : (((t.length : Int) + 1) == 0) = false := by rw [beq_eq_false_iff_ne]; omega
  have hne' : (((t.length + 1 : Nat) : Int) == 0) = false := by rw [beq_eq_false_iff_ne]; omega
  have hc0' : w.cell? ad = some (.int .u8 (127 - (k : Int))) := hc0
  have hkk : (128 + (k : Int) - 128) = k := by omega
  clear hc0
  clear hr
  go_enter Try.func88, Try.ntmps88
  go_wp2
  go_ret3
  exact ⟨rfl, rfl⟩

set_option maxRecDepth 100000 in
set_option maxHeartbeats 2000000 in
theorem getIntNeg_more (A : Option Addr) (cp B : Nat) (t : List Int) (k : Nat) (w : World) (hl : t.length ≤ 1000000000) (hcp : t.length + 1 ≤ cp) (hcp2 : cp ≤ 9223372036854775807) (hk : k ≤ 127)
    (hr : Reads w B 1 A (t.length + 1) (byts ((127 - (k : Int)) :: t))) (hu : U8s t) (hk8 : k ≤ 8) (hlk : t.length < k) :
    Calls Try.prog 88 #[.slice A (t.length + 1) cp] w fun e w' => e = .returned (ansV (0, 0, 3)) ∧ w = w' := by
  obtain ⟨ad, y0, rfl, hadB, hc0, hy0⟩ := hr.byte_ (k := 0) (by omega)
  have e0 : y0 = (127 - (k : Int)) := by have := hy0.out; simpa using this.symm
  subst e0
  have hX0 : bits .xor .u8 (127 - (k : Int)) 255 = 128 + (k : Int) := by rw [xor255 _ (by omega) (by omega)]; omega
  have hne : (((t.length : Int) + 1) == 0) = false := by rw [beq_eq_false_iff_ne]; omega
  have hne' : (((t.length + 1 : Nat) : Int) == 0) = false := by rw [beq_eq_false_iff_ne]; omega
  have hc0' : w.cell? ad = some (.int .u8 (127 - (k : Int))) := hc0
  have hkk : (128 + (k : Int) - 128) = k := by omega
  clear hc0
  clear hr
  go_enter Try.func88, Try.ntmps88
  go_wp2
  go_ret3
  exact ⟨rfl, rfl⟩

set_option maxRecDepth 100000 in
set_option maxHeartbeats 2000000 in
theorem getIntNeg_zero (A : Option Addr) (cp B : Nat) (t : List Int) (x1 : Int) (k : Nat) (w : World) (hl : t.length ≤ 1000000000) (hcp : t.length + 1 ≤ cp) (hcp2 : cp ≤ 9223372036854775807) (hk : k ≤ 127)
    (hr : Reads w B 1 A (t.length + 1) (byts ((127 - (k : Int)) :: t))) (hu : U8s t) (hk8 : k ≤ 8) (hlk : k ≤ t.length) (hk1 : 1 ≤ k) (h1 : t[0]? = some x1) (hz : 255 - x1 = 0) :
    Calls Try.prog 88 #[.slice A (t.length + 1) cp] w fun e w' => e = .returned (ansV (0, 0, 2)) ∧ w = w' := by
  obtain ⟨ad, y0, rfl, hadB, hc0, hy0⟩ := hr.byte_ (k := 0) (by omega)
  have e0 : y0 = (127 - (k : Int)) := by have := hy0.out; simpa using this.symm
  subst e0
  have hX0 : bits .xor .u8 (127 - (k : Int)) 255 = 128 + (k : Int) := by rw [xor255 _ (by omega) (by omega)]; omega
  have hne : (((t.length : Int) + 1) == 0) = false := by rw [beq_eq_false_iff_ne]; omega
  have hne' : (((t.length + 1 : Nat) : Int) == 0) = false := by rw [beq_eq_false_iff_ne]; omega
  have hc0' : w.cell? ad = some (.int .u8 (127 - (k : Int))) := hc0
  have hkk : (128 + (k : Int) - 128) = k := by omega
  clear hc0
  obtain ⟨ad', y1, hA', _, hc1, hy1⟩ := hr.byte_ (k := 1) (by omega)
  injection hA' with hA'
  subst hA'
  have e1 : y1 = x1 := by have := hy1.out; rw [List.getElem?_cons_succ, h1] at this; exact (Option.some.inj this).symm
  subst e1
  have hc1' : w.cell? ⟨ad.block, ad.off + 1, none⟩ = some (.int .u8 y1) := hc1
  obtain ⟨u0, u1⟩ := hu.at_ h1
  have hX1 : bits .xor .u8 y1 255 = 255 - y1 := xor255 _ u0 u1
  clear hc1 h1
  have hb1 : (255 - y1 == 0) = true := by rw [beq_iff_eq]; exact hz
  clear hz
  clear hr
  go_enter Try.func88, Try.ntmps88
  go_wp2
  go_ret3
  exact ⟨rfl, rfl⟩

set_option maxRecDepth 100000 in
set_option maxHeartbeats 2000000 in
theorem getIntNeg_main (A : Option Addr) (cp B : Nat) (t : List Int) (x1 : Int) (k : Nat) (w : World) (hl : t.length ≤ 1000000000) (hcp : t.length + 1 ≤ cp) (hcp2 : cp ≤ 9223372036854775807) (hk : k ≤ 127)
    (hr : Reads w B 1 A (t.length + 1) (byts ((127 - (k : Int)) :: t))) (hu : U8s t) (hk8 : k ≤ 8) (hlk : k ≤ t.length) (hk1 : 1 ≤ k) (h1 : t[0]? = some x1) (hz : ¬ 255 - x1 = 0) :
    Calls Try.prog 88 #[.slice A (t.length + 1) cp] w fun e w' => e = .returned (ansV (resZ true (beV (fun d => 255 - d) (t.take k)) k)) ∧ w = w' := by
  obtain ⟨ad, y0, rfl, hadB, hc0, hy0⟩ := hr.byte_ (k := 0) (by omega)
  have e0 : y0 = (127 - (k : Int)) := by have := hy0.out; simpa using this.symm
  subst e0
  have hX0 : bits .xor .u8 (127 - (k : Int)) 255 = 128 + (k : Int) := by rw [xor255 _ (by omega) (by omega)]; omega
  have hne : (((t.length : Int) + 1) == 0) = false := by rw [beq_eq_false_iff_ne]; omega
  have hne' : (((t.length + 1 : Nat) : Int) == 0) = false := by rw [beq_eq_false_iff_ne]; omega
  have hc0' : w.cell? ad = some (.int .u8 (127 - (k : Int))) := hc0
  have hkk : (128 + (k : Int) - 128) = k := by omega
  clear hc0
  obtain ⟨ad', y1, hA', _, hc1, hy1⟩ := hr.byte_ (k := 1) (by omega)
  injection hA' with hA'
  subst hA'
  have e1 : y1 = x1 := by have := hy1.out; rw [List.getElem?_cons_succ, h1] at this; exact (Option.some.inj this).symm
  subst e1
  have hc1' : w.cell? ⟨ad.block, ad.off + 1, none⟩ = some (.int .u8 y1) := hc1
  obtain ⟨u0, u1⟩ := hu.at_ h1
  have hX1 : bits .xor .u8 y1 255 = 255 - y1 := xor255 _ u0 u1
  clear hc1 h1
  have hb1 : (255 - y1 == 0) = false := by rw [beq_eq_false_iff_ne]; exact hz
  clear hz
  go_enter Try.func88, Try.ntmps88
  go_wp2
  go_loop [7, 48] (fun m i => ∃ j M : Nat, j ≤ k ∧ i = .int .i64 j ∧ m = .int .u64 M ∧ Hid (M = beV (fun d => 255 - d) (t.take j))) (fun _ i => k - (intOf i).toNat)
  case atStart => exact ⟨0, 0, by omega, rfl, rfl, by show 0 = beV _ _; simp [beV]⟩
  case round =>
    obtain ⟨j, M, hj, rfl, rfl, hM⟩ := hrel
    have hMlt : M < 256 ^ j := by
      have := beV_lt (fun d => 255 - d) (t.take j) (fun c hc => by have := hu c (List.mem_of_mem_take hc); unfold U8 at this; omega)
      rw [← hM.out, List.length_take] at this
      exact Nat.lt_of_lt_of_le this (Nat.pow_le_pow_right (by omega) (by omega))
    by_cases hjk : j < k
    · obtain ⟨ad2, y, hA2, _, hcj, hy⟩ := hr.byte_ (k := 1 + j) (by omega)
      injection hA2 with hA2
      subst hA2
      have hcj' : w.cell? ⟨ad.block, ad.off + 1 + j, none⟩ = some (.int .u8 y) := by
        have := hcj; rw [add_pos1] at this; exact this
      have hty : t[j]? = some y := by have := hy.out; rw [Nat.add_comm, List.getElem?_cons_succ] at this; exact this
      obtain ⟨v0, v1⟩ := hu.at_ hty
      have HT := Lib.hid hty
      have hXy : bits .xor .u8 y 255 = 255 - y := xor255 _ v0 v1
      have hM56 : (M : Int) < 72057594037927936 := by
        have : 256 ^ j ≤ 256 ^ 7 := Nat.pow_le_pow_right (by omega) (by omega)
        omega
      have hOr := or_add M (255 - y) hM56 (by omega) (by omega)
      have hz0 : 0 ≤ (255 - y) := by omega
      clear hcj hMlt hty
      go_wp2
      go_round
      case rel => exact ⟨j + 1, M * 256 + (255 - y).toNat, by omega, by go_num, by first | rfl | rw [hOr] | (congr 1; omega), by show _ = beV _ _; rw [List.take_add_one, HT.out, Option.toList_some, beV_snoc, ← hM.out]⟩
      case measure => simp [intOf]; omega
    · obtain rfl : j = k := by omega
      have hM63 : M < 18446744073709551616 := by
        have : 256 ^ j ≤ 256 ^ 8 := Nat.pow_le_pow_right (by omega) (by omega)
        omega
      have HL := Lib.hid hM63
      clear hMlt hM63
      go_wp2
      all_goals first
        | (have ht : 0 < (M : Int) / 9223372036854775808 := by assumption
           have HT := Lib.hid (resZ_big true (beV (fun d => 255 - d) (t.take j)) j (by rw [← hM.out]; omega))
           go_ret3
           exact ⟨by rw [HT.out]; rfl, rfl⟩)
        | (have ht : (M : Int) / 9223372036854775808 ≤ 0 := by assumption
           have hN := not_i64 M (by omega)
           have HT := Lib.hid (resZ_neg (beV (fun d => 255 - d) (t.take j)) j (by rw [← hM.out]; omega))
           go_ret3
           exact ⟨by rw [HT.out, ← hM.out]; first | rfl | (simp only [ansV]; rw [← hN]; rfl) | (simp [ansV]; rw [← hN]; simp only [wrap64, IntKind.wrap_i64]), rfl⟩)

theorem wrapNot0 : wrap64 (bits BinOp.xor IntKind.u64 IntKind.u64.max 0) = -1 := by
  have := not_i64 0 (by omega)
  rw [IntKind.wrap_i64] at this
  unfold wrap64
  simpa using this

set_option maxRecDepth 100000 in
set_option maxHeartbeats 2000000 in
theorem getIntPos_nil (A : Option Addr) (cp B : Nat) (t : List Int) (w : World) (hl : t.length ≤ 1000000000) (hcp : t.length + 1 ≤ cp) (hcp2 : cp ≤ 9223372036854775807)
    (hr : Reads w B 1 A (t.length + 1) (byts (128 :: t))) :
    Calls Try.prog 88 #[.slice A (t.length + 1) cp] w fun e w' => e = .returned (ansV (0, 1, 0)) ∧ w = w' := by
  obtain ⟨ad, y0, rfl, hadB, hc0, hy0⟩ := hr.byte_ (k := 0) (by omega)
  have e0 : y0 = 128 := by have := hy0.out; simpa using this.symm
  subst e0
  have hX0 : bits .xor .u8 128 0 = 128 := by decide
  have hne : (((t.length : Int) + 1) == 0) = false := by rw [beq_eq_false_iff_ne]; omega
  have hne' : (((t.length + 1 : Nat) : Int) == 0) = false := by rw [beq_eq_false_iff_ne]; omega
  have hc0' : w.cell? ad = some (.int .u8 128) := hc0
  clear hc0 hr
  go_enter Try.func88, Try.ntmps88
  go_wp2
  all_goals (
    refine wp_loop_rounds 1 ?_
    rw [rounds_succ]
    go_wp2
    go_ret3
    exact ⟨by first | rfl | (simp [ansV]; done) | (simp [ansV]; exact wrapNot0), rfl⟩)

set_option maxRecDepth 100000 in
set_option maxHeartbeats 2000000 in
theorem getIntNeg_nil (A : Option Addr) (cp B : Nat) (t : List Int) (w : World) (hl : t.length ≤ 1000000000) (hcp : t.length + 1 ≤ cp) (hcp2 : cp ≤ 9223372036854775807)
    (hr : Reads w B 1 A (t.length + 1) (byts (127 :: t))) :
    Calls Try.prog 88 #[.slice A (t.length + 1) cp] w fun e w' => e = .returned (ansV (-1, 1, 0)) ∧ w = w' := by
  obtain ⟨ad, y0, rfl, hadB, hc0, hy0⟩ := hr.byte_ (k := 0) (by omega)
  have e0 : y0 = 127 := by have := hy0.out; simpa using this.symm
  subst e0
  have hX0 : bits .xor .u8 127 255 = 128 := by decide
  have hne : (((t.length : Int) + 1) == 0) = false := by rw [beq_eq_false_iff_ne]; omega
  have hne' : (((t.length + 1 : Nat) : Int) == 0) = false := by rw [beq_eq_false_iff_ne]; omega
  have hc0' : w.cell? ad = some (.int .u8 127) := hc0
  clear hc0 hr
  go_enter Try.func88, Try.ntmps88
  go_wp2
  all_goals (
    refine wp_loop_rounds 1 ?_
    rw [rounds_succ]
    go_wp2
    go_ret3
    exact ⟨by first | rfl | (simp [ansV]; done) | (simp [ansV]; exact wrapNot0), rfl⟩)

set_option maxRecDepth 100000 in
set_option maxHeartbeats 2000000 in
theorem getInt_empty (A : Option Addr) (cp : Nat) (w : World) :
    Calls Try.prog 88 #[.slice A 0 cp] w fun e w' => e = .returned (ansV (0, 0, 3)) ∧ w = w' := by
  go_enter Try.func88, Try.ntmps88
  go_wp2
  go_ret3
  exact ⟨rfl, rfl⟩
theorem fl_pos (x0 d : Int) (h : ¬ x0 < 128) : fl x0 d = d := by unfold fl; rw [if_neg h]
theorem fl_neg (x0 d : Int) (h : x0 < 128) : fl x0 d = 255 - d := by unfold fl; rw [if_pos h]
theorem getInt_any (A : Option Addr) (cp B : Nat) (b : List Int) (w : World) (hl : b.length ≤ 1000000000) (hcp : b.length ≤ cp) (hcp2 : cp ≤ 9223372036854775807)
    (hr : Reads w B 1 A b.length (byts b)) (hu : U8s b) :
    Calls Try.prog 88 #[.slice A b.length cp] w fun e w' => e = .returned (ansV (getZ b)) ∧ w = w' := by
  cases b with
  | nil => exact getInt_empty A cp w
  | cons x0 t =>
    have hx := hu x0 (by simp)
    unfold U8 at hx
    have hu' : U8s t := fun c hc => hu c (by simp [hc])
    simp only [List.length_cons] at hl hcp
    have hr0 := hr
    unfold getZ
    by_cases h : x0 < 128
    · simp only [fl_neg x0 _ h, decide_eq_true h]
      obtain ⟨k, hk⟩ := Int.eq_ofNat_of_zero_le (show 0 ≤ 127 - x0 by omega)
      obtain rfl : x0 = 127 - (k : Int) := by omega
      have e1 : (255 - (127 - (k : Int)) - 128) = (k : Int) := by omega
      rw [e1]
      by_cases h8 : 8 < k
      · rw [if_pos (by omega)]; exact getIntNeg_big A cp B t k w (by omega) hcp hcp2 (by omega) hr0 hu' h8
      rw [if_neg (by omega), Int.toNat_natCast]
      by_cases hm : t.length < k
      · rw [if_pos hm]; exact getIntNeg_more A cp B t k w (by omega) hcp hcp2 (by omega) hr0 hu' (by omega) hm
      rw [if_neg hm]
      by_cases hk0 : k = 0
      · subst hk0
        rw [if_neg (by omega)]
        refine (getIntNeg_nil A cp B t w (by omega) hcp hcp2 hr0).mono ?_
        rintro e w1 ⟨rfl, rfl⟩
        exact ⟨by congr 1, rfl⟩
      · obtain ⟨x1, t', rfl⟩ : ∃ x1 t', t = x1 :: t' := by cases t with | nil => simp at hm; omega | cons a b => exact ⟨a, b, rfl⟩
        by_cases hz : 255 - x1 = 0
        · rw [if_pos ⟨by omega, by simpa using hz⟩]
          exact getIntNeg_zero A cp B _ x1 k w (by omega) hcp hcp2 (by omega) hr0 hu' (by omega) (by omega) (by omega) rfl hz
        · rw [if_neg (by intro hh; exact hz (by simpa using hh.2))]
          have := getIntNeg_main A cp B _ x1 k w (by omega) hcp hcp2 (by omega) hr0 hu' (by omega) (by omega) (by omega) rfl hz
          refine this.mono ?_
          rintro e w1 ⟨rfl, rfl⟩
          refine ⟨?_, rfl⟩
          have ef : (fl (127 - (k : Int))) = fun d => 255 - d := by funext d; exact fl_neg _ _ h
          rw [ef]
    · simp only [fl_pos x0 _ h, decide_eq_false h]
      obtain ⟨k, hk⟩ := Int.eq_ofNat_of_zero_le (show 0 ≤ x0 - 128 by omega)
      obtain rfl : x0 = 128 + (k : Int) := by omega
      have e1 : (128 + (k : Int) - 128) = (k : Int) := by omega
      rw [e1]
      by_cases h8 : 8 < k
      · rw [if_pos (by omega)]; exact getIntPos_big A cp B t k w (by omega) hcp hcp2 (by omega) hr0 hu' h8
      rw [if_neg (by omega), Int.toNat_natCast]
      by_cases hm : t.length < k
      · rw [if_pos hm]; exact getIntPos_more A cp B t k w (by omega) hcp hcp2 (by omega) hr0 hu' (by omega) hm
      rw [if_neg hm]
      by_cases hk0 : k = 0
      · subst hk0
        rw [if_neg (by omega)]
        refine (getIntPos_nil A cp B t w (by omega) hcp hcp2 hr0).mono ?_
        rintro e w1 ⟨rfl, rfl⟩
        exact ⟨by congr 1, rfl⟩
      · obtain ⟨x1, t', rfl⟩ : ∃ x1 t', t = x1 :: t' := by cases t with | nil => simp at hm; omega | cons a b => exact ⟨a, b, rfl⟩
        by_cases hz : x1 = 0
        · rw [if_pos ⟨by omega, by simpa using hz⟩]
          exact getIntPos_zero A cp B _ x1 k w (by omega) hcp hcp2 (by omega) hr0 hu' (by omega) (by omega) (by omega) rfl hz
        · rw [if_neg (by intro hh; exact hz (by simpa using hh.2))]
          have := getIntPos_main A cp B _ x1 k w (by omega) hcp hcp2 (by omega) hr0 hu' (by omega) (by omega) (by omega) rfl hz
          refine this.mono ?_
          rintro e w1 ⟨rfl, rfl⟩
          refine ⟨?_, rfl⟩
          have ef : (fl (128 + (k : Int))) = fun d => d := by funext d; exact fl_pos _ _ h
          rw [ef]
end Go.Proofs.Ytlekojbcaelpiaa

/- wire.count, wire.reader, wire.GetInts. -/
namespace Go.Proofs.Ytlekojbcaelpiaa
open Go.RowKit

theorem getZ_form (b : List Int) (hu : U8s b) :
    (∃ e, (e = 2 ∨ e = 3) ∧ getZ b = (0, 0, e)) ∨ (∃ (v : Int) (n : Nat), getZ b = (v, n, 0) ∧ 1 ≤ n ∧ n ≤ b.length ∧ n ≤ 9 ∧ -9223372036854775808 ≤ v ∧ v < 9223372036854775808) := by
  cases b with
  | nil => exact Or.inl ⟨3, by omega, rfl⟩
  | cons x0 t =>
    unfold getZ
    simp only
    split
    · exact Or.inl ⟨2, by omega, rfl⟩
    split
    · exact Or.inl ⟨3, by omega, rfl⟩
    split
    · exact Or.inl ⟨2, by omega, rfl⟩
    unfold resZ
    split
    · exact Or.inl ⟨2, by omega, rfl⟩
    · refine Or.inr ⟨_, _, rfl, by omega, ?_, by omega, ?_, ?_⟩
      · simp only [List.length_cons]; omega
      · split <;> omega
      · split <;> omega
def cntZ (b : List Int) : Int × Nat × Int :=
  if (getZ b).2.2 ≠ 0 then getZ b
  else if (getZ b).1 < 0 then ((getZ b).1, (getZ b).2.1, 2)
  else if (getZ b).1 > (b.length : Int) - (getZ b).2.1 then ((getZ b).1, (getZ b).2.1, 3) else getZ b
theorem cntZ_bad (b : List Int) (e : Int) (he : e ≠ 0) (h : getZ b = (0, 0, e)) : cntZ b = (0, 0, e) := by unfold cntZ; rw [h]; simp [he]
theorem cntZ_neg (b : List Int) (v : Int) (n : Nat) (h : getZ b = (v, n, 0)) (hv : v < 0) : cntZ b = (v, n, 2) := by unfold cntZ; rw [h]; simp [hv]
theorem cntZ_big (b : List Int) (v : Int) (n : Nat) (h : getZ b = (v, n, 0)) (hv : ¬ v < 0) (hv2 : v > (b.length : Int) - n) : cntZ b = (v, n, 3) := by unfold cntZ; rw [h]; simp [hv, hv2]
theorem cntZ_ok (b : List Int) (v : Int) (n : Nat) (h : getZ b = (v, n, 0)) (hv : ¬ v < 0) (hv2 : ¬ v > (b.length : Int) - n) : cntZ b = (v, n, 0) := by unfold cntZ; rw [h]; simp [hv, hv2]

set_option maxRecDepth 100000 in
set_option maxHeartbeats 2000000 in
theorem count_any (A : Option Addr) (cp B : Nat) (b : List Int) (w : World) (hl : b.length ≤ 1000000000) (hcp : b.length ≤ cp) (hcp2 : cp ≤ 9223372036854775807)
    (hr : Reads w B 1 A b.length (byts b)) (hu : U8s b) :
    Calls Try.prog 73 #[.slice A b.length cp, .int .i64 1] w fun e w' => e = .returned (ansV (cntZ b)) ∧ w = w' := by
  have HC := Lib.hid (getInt_any A cp B b w hl hcp hcp2 hr hu)
  rcases getZ_form b hu with ⟨e, he, hz⟩ | ⟨v, n, hz, hn1, hn2, hn9, hv1, hv2⟩
  · have hz' := cntZ_bad b e (by omega) hz
    rw [hz']
    have heb : (e != 0) = true := by rw [bne_iff_ne]; omega
    rw [hz] at HC
    clear hr hu hz hz'
    go_enter Try.func73, Try.ntmps73
    go_wp2_with fail
    refine (HC.out).mono ?_
    rintro e1 w1 ⟨rfl, rfl⟩
    unfold ansV
    go_wp2
    go_ret3
    exact ⟨rfl, rfl⟩
  · have hq : ((b.length : Int) - n).tdiv 1 = (b.length : Int) - n := Int.tdiv_one _
    rw [hz] at HC
    by_cases hneg : v < 0
    · have hz' := cntZ_neg b v n hz hneg
      rw [hz']
      clear hr hu hz hz' hq
      go_enter Try.func73, Try.ntmps73
      go_wp2_with fail
      refine (HC.out).mono ?_
      rintro e1 w1 ⟨rfl, rfl⟩
      unfold ansV
      go_wp2
      go_ret3
      exact ⟨rfl, rfl⟩
    · by_cases hbig : v > (b.length : Int) - n
      · have hz' := cntZ_big b v n hz hneg hbig
        rw [hz']
        clear hr hu hz hz'
        go_enter Try.func73, Try.ntmps73
        go_wp2_with fail
        refine (HC.out).mono ?_
        rintro e1 w1 ⟨rfl, rfl⟩
        unfold ansV
        go_wp2
        go_ret3
        exact ⟨rfl, rfl⟩
      · have hz' := cntZ_ok b v n hz hneg hbig
        rw [hz']
        clear hr hu hz hz'
        go_enter Try.func73, Try.ntmps73
        go_wp2_with fail
        refine (HC.out).mono ?_
        rintro e1 w1 ⟨rfl, rfl⟩
        unfold ansV
        go_wp2
        go_ret3
        exact ⟨rfl, rfl⟩

set_option maxRecDepth 100000 in
set_option maxHeartbeats 2000000 in
theorem reader_any (A : Option Addr) (n cp : Nat) (k : Int) (w : World) :
    Calls Try.prog 74 #[.slice A n cp, .int .i64 k] w fun e w' =>
      e = .returned (.func (.func 89) #[] #[.pointer (some ⟨w.heap.size, 0, none⟩), .pointer (some ⟨w.heap.size + 1, 0, none⟩)])
      ∧ w' = (w.alloc (Obj.cells #[.slice A n cp] 34)).alloc (Obj.cells #[.int .i64 k] 3) := by
  go_enter Try.func74, Try.ntmps74
  go_wp2
  go_ret
  exact ⟨rfl, rfl⟩

theorem getInt_at (A : Option Addr) (n cp B : Nat) (b : List Int) (w : World) (hn : b.length = n) (hl : n ≤ 1000000000) (hcp : n ≤ cp) (hcp2 : cp ≤ 9223372036854775807)
    (hr : Reads w B 1 A n (byts b)) (hu : U8s b) :
    Calls Try.prog 88 #[.slice A n cp] w fun e w' => e = .returned (ansV (getZ b)) ∧ w = w' := by
  subst hn; exact getInt_any A cp B b w hl hcp hcp2 hr hu
theorem Reads.dropB {w : World} {B n k cp : Nat} {A : Option Addr} {b : List Int} (h : Reads w B 1 A n (byts b)) (hk : k ≤ n) (hc : n ≤ cp) :
    Reads w B 1 (if cp = k then A else A.map (·.add k)) (n - k) (byts (b.drop k)) := by
  have := h.cut hk hc
  simpa [byts, List.map_drop] using this
theorem U8s.drop {b : List Int} (h : U8s b) (k : Nat) : U8s (b.drop k) := fun c hc => h c (List.mem_of_mem_drop hc)
theorem getZ_bound (b : List Int) (hu : U8s b) : ∃ (v : Int) (m : Nat) (e : Int), getZ b = (v, m, e) ∧ m ≤ b.length ∧ (e = 0 ∨ e = 2 ∨ e = 3) := by
  rcases getZ_form b hu with ⟨e, he, hz⟩ | ⟨v, n, hz, hn1, hn2, _, _, _⟩
  · exact ⟨_, _, _, hz, by omega, by omega⟩
  · exact ⟨_, _, _, hz, by omega, by omega⟩
/-- one call of the reader: what it answers and what it leaves -/
def Step (v : Int) (m : Nat) (e : Int) (D k : Nat) (w : World) (x : Ending) (w' : World) : Prop :=
  x = .returned (.tuple #[.int .i64 v, .int .i64 ((k : Int) + m), .int .i64 e]) ∧ ∃ d, w' = (w.setCell ⟨D, 0, none⟩ (.int .i64 ((k : Int) + m))).drewN d
set_option maxRecDepth 100000 in
set_option maxHeartbeats 2000000 in
theorem step_any (A : Option Addr) (n cp B C D : Nat) (k : Nat) (b : List Int) (v : Int) (m : Nat) (e : Int) (w : World) (hl : n ≤ 1000000000) (hcp : n ≤ cp) (hcp2 : cp ≤ 9223372036854775807)
    (hb : w.heap[C]? = some (.cells #[.slice A n cp] 34 (0, 0))) (hc : w.heap[D]? = some (.cells #[.int .i64 k] 3 (0, 0)))
    (hr : Reads w B 1 A n (byts b)) (hlen : b.length = n) (hu : U8s b) (hk : k ≤ n) (hz : getZ (b.drop k) = (v, m, e)) (hm : k + m ≤ n) :
    Calls Try.prog 89 #[.pointer (some ⟨C, 0, none⟩), .pointer (some ⟨D, 0, none⟩)] w (Step v m e D k w) := by
  have c1 := cell_of_one hb
  have c2 := cell_of_one hc
  have f2 := free_of_one hc
  have s2 : D < w.heap.size := by
    rcases Nat.lt_or_ge D w.heap.size with h | h
    · exact h
    · rw [Array.getElem?_eq_none h] at hc; cases hc
  have c3 : (w.setCell ⟨D, 0, none⟩ (.int .i64 ((k : Int) + m))).cell? ⟨D, 0, none⟩ = some (.int .i64 ((k : Int) + m)) := cell_of_one (one_setCell hc)
  have HC : Hid (∀ A' c', n - k ≤ c' → c' ≤ 9223372036854775807 → A' = (if cp = k then A else A.map (·.add k)) → Calls Try.prog 88 #[.slice A' (n - k) c'] w fun x w' => x = .returned (ansV (v, m, e)) ∧ w = w') := by
    intro A' c' h1 h2 h3
    subst h3
    rw [← hz]
    exact getInt_at _ (n - k) c' B (b.drop k) w (by rw [List.length_drop, hlen]) (by omega) h1 h2 (hr.dropB hk hcp) (hu.drop k)
  clear hb hc hr hlen hu hz
  go_enter Try.func89, Try.ntmps89
  go_wp2_with fail
  case inl =>
    refine (HC.out _ _ (by omega) (by omega) (by rw [if_pos (by omega)])).mono ?_
    rintro x w1 ⟨rfl, rfl⟩
    unfold ansV
    go_wp2_with fail
    go_region
    all_goals (try go_wp2)
    all_goals go_ret3
    all_goals exact ⟨rfl, _, rfl⟩
  case inr =>
    refine (HC.out _ _ (by omega) (by omega) (by rw [if_neg (by omega)])).mono ?_
    rintro x w1 ⟨rfl, rfl⟩
    unfold ansV
    go_wp2_with fail
    go_region
    all_goals (try go_wp2)
    all_goals go_ret3
    all_goals exact ⟨rfl, _, rfl⟩
end Go.Proofs.Ytlekojbcaelpiaa

/- wire.GetInts. -/
namespace Go.Proofs.Ytlekojbcaelpiaa
open Go.RowKit

/-- reads j numbers from place k on: the error, the numbers, the place behind -/
def rdZ (b : List Int) : Nat → Nat → List Int → Int × List Int × Nat
  | 0, k, acc => (0, acc, k)
  | j + 1, k, acc => if (getZ (b.drop k)).2.2 ≠ 0 then ((getZ (b.drop k)).2.2, [], 0) else rdZ b j (k + (getZ (b.drop k)).2.1) (acc ++ [(getZ (b.drop k)).1])
theorem rdZ_bad (b : List Int) (j k : Nat) (acc : List Int) (v : Int) (m : Nat) (e : Int) (h : getZ (b.drop k) = (v, m, e)) (he : e ≠ 0) : rdZ b (j + 1) k acc = (e, [], 0) := by
  unfold rdZ; rw [h, if_pos he]
theorem rdZ_ok (b : List Int) (j k : Nat) (acc : List Int) (v : Int) (m : Nat) (h : getZ (b.drop k) = (v, m, 0)) : rdZ b (j + 1) k acc = rdZ b j (k + m) (acc ++ [v]) := by
  conv => lhs; unfold rdZ
  rw [h, if_neg (by simp)]
/-- what wire.GetInts answers: the error, the numbers, the length -/
def getsZ (b : List Int) : Int × List Int × Nat :=
  if (cntZ b).2.2 ≠ 0 then ((cntZ b).2.2, [], 0) else rdZ b (cntZ b).1.toNat (cntZ b).2.1 []
theorem getsZ_bad (b : List Int) (v : Int) (m : Nat) (e : Int) (h : cntZ b = (v, m, e)) (he : e ≠ 0) : getsZ b = (e, [], 0) := by unfold getsZ; rw [h, if_pos he]
theorem getsZ_ok (b : List Int) (v : Int) (m : Nat) (h : cntZ b = (v, m, 0)) : getsZ b = rdZ b v.toNat m [] := by unfold getsZ; rw [h, if_neg (by simp)]
theorem cntZ_form (b : List Int) (hu : U8s b) :
    (∃ v m e, cntZ b = (v, m, e) ∧ (e = 2 ∨ e = 3)) ∨ (∃ N m : Nat, cntZ b = ((N : Int), m, 0) ∧ N + m ≤ b.length) := by
  rcases getZ_form b hu with ⟨e, he, hz⟩ | ⟨v, n, hz, hn1, hn2, hn9, hv1, hv2⟩
  · exact Or.inl ⟨_, _, e, cntZ_bad b e (by omega) hz, he⟩
  · by_cases hneg : v < 0
    · exact Or.inl ⟨_, _, _, cntZ_neg b v n hz hneg, by omega⟩
    by_cases hbig : v > (b.length : Int) - n
    · exact Or.inl ⟨_, _, _, cntZ_big b v n hz hneg hbig, by omega⟩
    · obtain ⟨N, rfl⟩ := Int.eq_ofNat_of_zero_le (show 0 ≤ v by omega)
      exact Or.inr ⟨N, n, cntZ_ok b _ n hz hneg hbig, by omega⟩
theorem own_base {w : World} {b b' : Nat} {e : TypeId} {size n : Nat} {v : Value} {xs : List Value} (h : w.ownsRow b e size v n xs) (hb : b' ≤ b) : w.ownsRow b' e size v n xs := by
  obtain ⟨h1, h2⟩ := h
  refine ⟨h1, ?_⟩
  rcases h2 with h2 | ⟨g, cap, cur, hv, hg, r⟩
  · exact .inl h2
  · exact .inr ⟨g, cap, cur, hv, by omega, r⟩

def GetsI (w : World) (b : List Int) (A : Option Addr) (n cp N k0 : Nat) (wr : World) (i k : Nat) (acc : List Int) (v : Value) : Prop :=
  wr.ownsRow (w.heap.size + 2) 3 1 v i (ints acc) ∧ Below w.heap.size w wr ∧ w.heap.size + 2 ≤ wr.heap.size
  ∧ wr.heap[w.heap.size]? = some (.cells #[.slice A n cp] 34 (0, 0)) ∧ wr.heap[w.heap.size + 1]? = some (.cells #[.int .i64 k] 3 (0, 0))
  ∧ acc.length = i ∧ k ≤ n ∧ rdZ b (N - i) k acc = rdZ b N k0 []
theorem getsI_start (w : World) (b : List Int) (A : Option Addr) (n cp N k0 : Nat) (hk : k0 ≤ n) :
    GetsI w b A n cp N k0 ((w.alloc (Obj.cells #[.slice A n cp] 34)).alloc (Obj.cells #[.int .i64 k0] 3)) 0 k0 [] (.slice none 0 0) := by
  refine ⟨⟨by simp [ints], .inl ⟨rfl, rfl⟩⟩, ((Below.refl _ _).alloc (Nat.le_refl _) _).alloc (by simp) _, by simp, ?_, ?_, rfl, hk, rfl⟩
  · rw [Below.heap_alloc _ _ _ (by simp)]; exact heap_alloc_new w _
  · have := heap_alloc_new (w.alloc (Obj.cells #[.slice A n cp] 34)) (Obj.cells #[.int .i64 k0] 3)
    simpa using this
theorem getsI_step {w wr w1 w2 : World} {b : List Int} {A : Option Addr} {n cp N k0 i k m : Nat} {acc : List Int} {v v' : Value} {x : Int} {d : Nat} {o : Obj}
    (h : GetsI w b A n cp N k0 wr i k acc v) (hi : i < N) (hz : getZ (b.drop k) = (x, m, 0)) (hm : k + m ≤ n)
    (h1 : w1 = (wr.setCell ⟨w.heap.size + 1, 0, none⟩ (.int .i64 ((k : Int) + m))).drewN d)
    (hg : (w1.alloc o).grownBy w2 v.ownBlock) (ho : w2.ownsRow (w.heap.size + 2) 3 1 v' (i + 1) (ints acc ++ [.int .i64 x])) :
    GetsI w b A n cp N k0 w2 (i + 1) (k + m) (acc ++ [x]) v' := by
  obtain ⟨a1, a2, a3, a4, a5, a6, a7, a8⟩ := h
  subst h1
  have hne : ∀ q, v.ownBlock = some q → w.heap.size + 2 ≤ q := fun q hq => (a1.lt q hq).1
  have hsz : ((wr.setCell ⟨w.heap.size + 1, 0, none⟩ (.int .i64 ((k : Int) + m))).drewN d).heap.size = wr.heap.size := World.size_setCell wr _ _
  refine ⟨by simpa [ints] using ho, ?_, ?_, ?_, ?_, by simp [a6], hm, ?_⟩
  · have hb1 : Below w.heap.size w ((wr.setCell ⟨w.heap.size + 1, 0, none⟩ (.int .i64 ((k : Int) + m))).drewN d) := by
      have := a2.setCell (p := ⟨w.heap.size + 1, 0, none⟩) (by simp) (.int .i64 ((k : Int) + m))
      exact ⟨this.os, this.tape, this.output, this.size, this.block⟩
    exact (hb1.alloc hb1.size o).grown hg (by have := (hb1.alloc hb1.size o).size; exact this) (fun q hq => by have := hne q hq; omega)
  · have := hg.size
    simp only [World.size_alloc, hsz] at this
    omega
  · rw [hg.block _ (by simp only [World.size_alloc, hsz]; omega) (fun e => by have := hne _ e.symm; omega), Below.heap_alloc _ _ _ (by rw [hsz]; omega)]
    show (wr.setCell ⟨w.heap.size + 1, 0, none⟩ (.int .i64 ((k : Int) + m))).heap[w.heap.size]? = _
    rw [Below.heap_setCell _ _ _ _ (by simp)]; exact a4
  · rw [hg.block _ (by simp only [World.size_alloc, hsz]; omega) (fun e => by have := hne _ e.symm; omega), Below.heap_alloc _ _ _ (by rw [hsz]; omega)]
    show (wr.setCell ⟨w.heap.size + 1, 0, none⟩ (.int .i64 ((k : Int) + m))).heap[w.heap.size + 1]? = _
    rw [one_setCell a5]; simp
  · rw [← a8, show N - i = (N - (i + 1)) + 1 by omega, rdZ_ok b _ k acc x m hz]
end Go.Proofs.Ytlekojbcaelpiaa

/- wire.GetInts: the walk. -/
namespace Go.Proofs.Ytlekojbcaelpiaa
open Go.RowKit

def GetsEnd (w : World) (r : Int × List Int × Nat) (x : Ending) (w' : World) : Prop :=
  ∃ v, x = .returned (.tuple #[v, .int .i64 r.2.2, .int .i64 r.1]) ∧ w'.ownsRow w.heap.size 3 1 v r.2.1.length (ints r.2.1) ∧ Below w.heap.size w w'
theorem getsEnd_bad (w w' : World) (e : Int) (hb : Below w.heap.size w w') : GetsEnd w (e, [], 0) (.returned (.tuple #[.slice none 0 0, .int .i64 0, .int .i64 e])) w' :=
  ⟨_, rfl, ⟨by simp [ints], .inl ⟨rfl, rfl⟩⟩, hb⟩

set_option maxRecDepth 100000 in
set_option maxHeartbeats 2000000 in
theorem gets_bad (A : Option Addr) (n cp B : Nat) (b : List Int) (v : Int) (m : Nat) (e : Int) (w : World) (hl : n ≤ 1000000000) (hcp : n ≤ cp) (hcp2 : cp ≤ 9223372036854775807)
    (hr : Reads w B 1 A n (byts b)) (hlen : b.length = n) (hu : U8s b) (hz : cntZ b = (v, m, e)) (he : e = 2 ∨ e = 3) :
    Calls Try.prog 61 #[.slice A n cp] w (GetsEnd w (e, [], 0)) := by
  have HC := Lib.hid (count_any A cp B b w (by omega) (by omega) hcp2 (by rw [hlen]; exact hr) hu)
  rw [hz, hlen] at HC
  have heb : (e != 0) = true := by rw [bne_iff_ne]; omega
  clear hr hu hz hlen
  go_enter Try.func61, Try.ntmps61
  go_wp2_with fail
  refine (HC.out).mono ?_
  rintro e1 w1 ⟨rfl, rfl⟩
  unfold ansV
  go_wp2_with fail
  go_ret3
  exact getsEnd_bad _ _ _ (Below.refl _ _)

set_option maxRecDepth 100000 in
set_option maxHeartbeats 2000000 in
theorem gets_ok (A : Option Addr) (n cp B N m : Nat) (b : List Int) (w : World) (hB : B ≤ w.heap.size) (hl : n ≤ 1000000000) (hcp : n ≤ cp) (hcp2 : cp ≤ 9223372036854775807)
    (hr : Reads w B 1 A n (byts b)) (hlen : b.length = n) (hu : U8s b) (hz : cntZ b = ((N : Int), m, 0)) (hN : N + m ≤ n) :
    Calls Try.prog 61 #[.slice A n cp] w (GetsEnd w (rdZ b N m [])) := by
  obtain ⟨i0, hi0, hz0, hz1, hz2⟩ := info_parts info3
  have HC := Lib.hid (count_any A cp B b w (by omega) (by omega) hcp2 (by rw [hlen]; exact hr) hu)
  rw [hz, hlen] at HC
  have HU := Lib.hid hu
  have HH := Lib.hid hr
  have HG := Lib.hid (getsI_start w b A n cp N m (by omega))
  clear hr hu hz
  go_enter Try.func61, Try.ntmps61
  go_wp2_with fail
  refine (HC.out).mono ?_
  rintro e1 w1 ⟨rfl, rfl⟩
  unfold ansV
  go_wp2_with fail
  refine (reader_any A n cp m w).mono ?_
  rintro e1 w1 ⟨rfl, rfl⟩
  go_wp2_with fail
  go_loopw [6, 9, 26] (fun p v i wr => ∃ (j k : Nat) (acc : List Int), j ≤ N ∧ i = .int .i64 j ∧ p = .int .i64 k ∧ GetsI w b A n cp N m wr j k acc v) (fun _ _ i _ => N - (intOf i).toNat)
  case atStart => exact ⟨0, m, [], by omega, rfl, rfl, HG.out⟩
  case round =>
    obtain ⟨j, k, acc, hj, rfl, rfl, hrel⟩ := hrel
    obtain ⟨VA, VC, rfl, _, _⟩ := ownsRow_form hrel.1
    by_cases hlt : j < N
    · obtain ⟨x, mm, e, hg, hmm, he⟩ := getZ_bound (b.drop k) (HU.out.drop k)
      have hkn := hrel.2.2.2.2.2.2.1
      have hkm : k + mm ≤ n := by rw [List.length_drop, hlen] at hmm; omega
      have HS := Lib.hid (step_any A n cp B w.heap.size (w.heap.size + 1) k b x mm e wr hl hcp hcp2 hrel.2.2.2.1 hrel.2.2.2.2.1 (HH.out.below (hrel.2.1.mono hB)) hlen HU.out hkn hg hkm)
      have hown := hrel.1
      have hsz := hrel.2.2.1
      have hbel := hrel.2.1
      have hrdb : N - j = (N - (j + 1)) + 1 := by omega
      by_cases he0 : e = 0
      · subst he0
        have HT := Lib.hid (fun w1 w2 d o v' (h1 : w1 = (wr.setCell ⟨w.heap.size + 1, 0, none⟩ (.int .i64 ((k : Int) + mm))).drewN d) (hgr : (w1.alloc o).grownBy w2 (Value.slice VA j VC).ownBlock) (ho : w2.ownsRow (w.heap.size + 2) 3 1 v' (j + 1) (ints acc ++ [.int .i64 x])) => getsI_step hrel hlt hg hkm h1 hgr ho)
        have HO := Lib.hid hown
        clear hrel hg hmm hbel hown hrdb
        go_wp2_with fail
        refine (HS.out).mono ?_
        rintro e1 w1 ⟨rfl, d, hw1⟩
        have hown1 : w1.ownsRow (w.heap.size + 2) 3 1 (.slice VA j VC) j (ints acc) := by
          rw [hw1]
          exact ownsRow_setCell_other HO.out (fun hh => by have := (HO.out.lt _ hh).1; simp at this) _
        have HS1 := Lib.hid (show w1.heap.size = wr.heap.size by rw [hw1]; exact World.size_setCell wr _ _)
        have HW := Lib.hid hw1
        clear hw1
        go_wp2_with (at_builtin; refine wpList_append_lies _ rfl _ _ _ rfl (w.heap.size + 2) 3 i0 _ 1 8 Try.underlying22 hi0 hz0 hz1 hz2 rfl (by omega) _ j _ rfl (hown1.alloc _) ⟨w1.heap.size, 0, none⟩ 1 1 [.int .i64 x] rfl rfl (World.news_of_block (cs := #[.int .i64 x]) (t := 3) (fr := (0, 0)) (heap_alloc_new w1 _)) (by simp [Value.oneCell']) (by omega) (by simp only [maxLen]; omega) (by omega) (by have := HS1.out; simp; omega) (w1.heap.size + 1) (by simp) ?_; intro gg cap w2 hown2 hgrow hat hlt2)
        go_roundw
        case rel => exact ⟨j + 1, k + mm, acc ++ [x], by omega, by go_num, by go_num, HT.out _ _ d _ _ HW.out hgrow hown2⟩
        case measure => simp [intOf]; omega
      · have heb : (e != 0) = true := by rw [bne_iff_ne]; omega
        have HF := Lib.hid (show rdZ b N m [] = (e, [], 0) by
          have := hrel.2.2.2.2.2.2.2
          rw [hrdb, rdZ_bad b _ k acc x mm e hg he0] at this
          exact this.symm)
        have HB := Lib.hid hbel
        clear hrel hg hmm hbel hown hrdb he0 he
        go_wp2_with fail
        refine (HS.out).mono ?_
        rintro e1 w1 ⟨rfl, d, hw1⟩
        have HW := Lib.hid (show Below w.heap.size w w1 by
          rw [hw1]
          have := HB.out.setCell (p := ⟨w.heap.size + 1, 0, none⟩) (by simp) (.int .i64 ((k : Int) + mm))
          exact ⟨this.os, this.tape, this.output, this.size, this.block⟩)
        clear hw1
        go_wp2_with fail
        go_ret3
        rw [HF.out]
        exact getsEnd_bad _ _ _ HW.out
    · obtain rfl : j = N := by omega
      have HE := Lib.hid (show GetsEnd w (rdZ b j m []) (.returned (.tuple #[.slice VA j VC, .int .i64 k, .int .i64 0])) wr by
        obtain ⟨a1, a2, a3, a4, a5, a6, a7, a8⟩ := hrel
        rw [Nat.sub_self] at a8
        rw [← a8]
        exact ⟨.slice VA j VC, rfl, by rw [show (rdZ b 0 k acc).2.1.length = j from a6]; exact own_base a1 (Nat.le_add_right _ _), a2⟩)
      clear hrel
      go_wp2_with fail
      go_ret3
      exact HE.out
theorem gets_any (A : Option Addr) (n cp B : Nat) (b : List Int) (w : World) (hB : B ≤ w.heap.size) (hl : n ≤ 1000000000) (hcp : n ≤ cp) (hcp2 : cp ≤ 9223372036854775807)
    (hr : Reads w B 1 A n (byts b)) (hlen : b.length = n) (hu : U8s b) :
    Calls Try.prog 61 #[.slice A n cp] w (GetsEnd w (getsZ b)) := by
  rcases cntZ_form b hu with ⟨v, m, e, hz, he⟩ | ⟨N, m, hz, hN⟩
  · rw [getsZ_bad b v m e hz (by omega)]; exact gets_bad A n cp B b v m e w hl hcp hcp2 hr hlen hu hz he
  · rw [getsZ_ok b _ m hz, Int.toNat_natCast]; exact gets_ok A n cp B N m b w hB hl hcp hcp2 hr hlen hu hz (by omega)
end Go.Proofs.Ytlekojbcaelpiaa

/- Abstract values of the seat's own interpreter, and how a value of the model reads as one. -/
namespace Go.Proofs.Ytlekojbcaelpiaa
open Go.RowKit

/-- undef: nothing is known; sc: this very value; row: a slice (its name if it may be appended to, the cells of an element, its length, its cells); mt: a slice of length and capacity 0; agg: a struct's cells; tup: a call's results;
ptr: the address of a cell of a local variable; rptr: the address of cells that stay as they are. -/
inductive AV where
  | undef
  | sc (v : Value)
  | row (tok : Option (Nat × Nat)) (size n : Nat) (xs : List AV)
  | mt
  | agg (xs : List AV)
  | tup (xs : List AV)
  | ptr (d off : Nat)
  | rptr (xs : List AV)
  deriving Inhabited

mutual
def V (pr : Nat → Nat → Prop) (w : World) (c : Value) : AV → Prop
  | .undef => True
  | .sc v => c = v
  | .row _ size n xs => ∃ A cap, c = .slice A n cap ∧ n ≤ cap ∧ cap ≤ maxLen ∧ xs.length = n * size ∧ (0 < n → ∃ b o, A = some ⟨b, o, none⟩ ∧ VC pr w b o xs)
  | .mt => ∃ A, c = .slice A 0 0
  | .agg xs => ∃ cs : List Value, c = .agg cs.toArray ∧ (∀ u ∈ cs, u.oneCell' = true) ∧ VL pr w cs xs
  | .tup xs => ∃ cs : List Value, c = .tuple cs.toArray ∧ VL pr w cs xs
  | .ptr _ _ => False
  | .rptr xs => ∃ b o, c = .pointer (some ⟨b, o, none⟩) ∧ VC pr w b o xs
def VL (pr : Nat → Nat → Prop) (w : World) (cs : List Value) : List AV → Prop
  | [] => cs = []
  | x :: xs => ∃ c cs', cs = c :: cs' ∧ V pr w c x ∧ VL pr w cs' xs
def VC (pr : Nat → Nat → Prop) (w : World) (b i : Nat) : List AV → Prop
  | [] => True
  | x :: xs => (∃ u, w.cell? ⟨b, i, none⟩ = some u ∧ pr b i ∧ u.oneCell' = true ∧ V pr w u x) ∧ VC pr w b (i + 1) xs
end

section
variable {pr pr' : Nat → Nat → Prop} {w w' : World} (h : ∀ b i u, pr b i → w.cell? ⟨b, i, none⟩ = some u → pr' b i ∧ w'.cell? ⟨b, i, none⟩ = some u)
include h
mutual
theorem V.mono : ∀ (x : AV) {c : Value}, V pr w c x → V pr' w' c x
  | .undef, _, _ => have _ := h; trivial
  | .sc _, _, hv => hv
  | .row _ _ _ xs, _, ⟨A, cap, e, h1, h2, h3, h4⟩ => ⟨A, cap, e, h1, h2, h3, fun hn => let ⟨b, o, e, hc⟩ := h4 hn; ⟨b, o, e, VC.mono xs hc⟩⟩
  | .mt, _, hv => hv
  | .agg xs, _, ⟨cs, e, h1, hv⟩ => ⟨cs, e, h1, VL.mono xs hv⟩
  | .tup xs, _, ⟨cs, e, hv⟩ => ⟨cs, e, VL.mono xs hv⟩
  | .ptr _ _, _, hv => hv
  | .rptr xs, _, ⟨b, o, e, hc⟩ => ⟨b, o, e, VC.mono xs hc⟩
theorem VL.mono : ∀ (xs : List AV) {cs : List Value}, VL pr w cs xs → VL pr' w' cs xs
  | [], _, hv => have _ := h; hv
  | x :: xs, _, ⟨c, cs, e, h1, h2⟩ => ⟨c, cs, e, V.mono x h1, VL.mono xs h2⟩
theorem VC.mono : ∀ (xs : List AV) {b i : Nat}, VC pr w b i xs → VC pr' w' b i xs
  | [], _, _, _ => trivial
  | x :: xs, b, i, ⟨⟨u, h1, h2, h3, h4⟩, h5⟩ => ⟨⟨u, (h b i u h2 h1).2, (h b i u h2 h1).1, h3, V.mono x h4⟩, VC.mono xs h5⟩
end
end

section
variable {pr : Nat → Nat → Prop} {w : World}
theorem VL.length : ∀ {xs : List AV} {cs : List Value}, VL pr w cs xs → cs.length = xs.length
  | [], _, h => by simp only [VL] at h; subst h; rfl
  | x :: xs, _, h => by simp only [VL] at h; obtain ⟨c, cs', rfl, _, h2⟩ := h; simp [VL.length h2]
theorem VL.at_ : ∀ {xs : List AV} {cs : List Value} {i : Nat} {x : AV}, VL pr w cs xs → xs[i]? = some x → ∃ c, cs[i]? = some c ∧ V pr w c x
  | [], _, _, _, _, hx => by simp at hx
  | y :: xs, _, 0, x, h, hx => by
    simp only [VL] at h; obtain ⟨c, cs', rfl, h1, h2⟩ := h
    simp at hx; subst hx; exact ⟨c, rfl, h1⟩
  | y :: xs, _, i + 1, x, h, hx => by
    simp only [VL] at h; obtain ⟨c, cs', rfl, h1, h2⟩ := h
    have := VL.at_ h2 (i := i) (x := x) (by simpa using hx)
    simpa using this
theorem VC.at_ : ∀ {xs : List AV} {b o i : Nat} {x : AV}, VC pr w b o xs → xs[i]? = some x → ∃ u, w.cell? ⟨b, o + i, none⟩ = some u ∧ pr b (o + i) ∧ u.oneCell' = true ∧ V pr w u x
  | [], _, _, _, _, _, hx => by simp at hx
  | y :: xs, _, o, 0, x, h, hx => by
    simp only [VC] at h
    simp at hx; subst hx; exact h.1
  | y :: xs, b, o, i + 1, x, h, hx => by
    simp only [VC] at h
    have := VC.at_ h.2 (i := i) (x := x) (by simpa using hx)
    rw [show o + (i + 1) = o + 1 + i by omega]; exact this
theorem VC.of_at : ∀ {xs : List AV} {b o : Nat}, (∀ i x, xs[i]? = some x → ∃ u, w.cell? ⟨b, o + i, none⟩ = some u ∧ pr b (o + i) ∧ u.oneCell' = true ∧ V pr w u x) → VC pr w b o xs
  | [], _, _, _ => trivial
  | x :: xs, b, o, h => by
    refine ⟨h 0 x rfl, VC.of_at fun i y hy => ?_⟩
    have := h (i + 1) y (by simpa using hy)
    rw [show o + (i + 1) = o + 1 + i by omega] at this; exact this
theorem VC.drop {xs : List AV} {b o : Nat} (h : VC pr w b o xs) (k : Nat) : VC pr w b (o + k) (xs.drop k) :=
  VC.of_at fun i x hx => by
    rw [List.getElem?_drop] at hx
    rw [Nat.add_assoc]; exact h.at_ hx
theorem VC.take {xs : List AV} {b o : Nat} (h : VC pr w b o xs) (k : Nat) : VC pr w b o (xs.take k) :=
  VC.of_at fun i x hx => by
    rw [List.getElem?_take] at hx
    split at hx
    · exact h.at_ hx
    · cases hx
theorem VL.of_at : ∀ {xs : List AV} {cs : List Value}, cs.length = xs.length → (∀ (i : Nat) (x : AV) (c : Value), xs[i]? = some x → cs[i]? = some c → V pr w c x) → VL pr w cs xs
  | [], cs, hl, _ => by simpa [VL] using hl
  | x :: xs, [], hl, _ => by simp at hl
  | x :: xs, c :: cs, hl, h => ⟨c, cs, rfl, h 0 x c rfl rfl, VL.of_at (by simpa using hl) fun i x c hx hc => h (i + 1) x c (by simpa using hx) (by simpa using hc)⟩
theorem VL.append : ∀ {xs ys : List AV} {cs ds : List Value}, VL pr w cs xs → VL pr w ds ys → VL pr w (cs ++ ds) (xs ++ ys)
  | [], _, _, _, h, h' => by simp only [VL] at h; subst h; simpa using h'
  | x :: xs, _, _, _, h, h' => by simp only [VL] at h; obtain ⟨c, cs', rfl, h1, h2⟩ := h; exact ⟨c, _, rfl, h1, VL.append h2 h'⟩
end

/-- the cells' values, if all are known -/
def allVals : List AV → Option (List Value)
  | [] => some []
  | .sc v :: xs => (allVals xs).map (v :: ·)
  | _ :: _ => none
/-- a struct of these cells -/
def mkAgg (xs : List AV) : AV := match allVals xs with | some vs => .sc (.agg vs.toArray) | none => .agg xs
/-- the cells of a value -/
def cellsOf : AV → List AV
  | .sc v => v.cells.toList.map .sc
  | .agg xs => xs
  | x => [x]
/-- without the right to append -/
def plain1 : AV → AV
  | .row _ s n xs => .row none s n xs
  | .ptr _ _ => .undef
  | .tup _ => .undef
  | x => x
def plain : AV → AV
  | .tup xs => .tup (xs.map plain1)
  | x => plain1 x

section
variable {pr : Nat → Nat → Prop} {w : World}
theorem VL_sc : ∀ {vs cs : List Value}, VL pr w cs (vs.map .sc) ↔ cs = vs
  | [], cs => by simp [VL]
  | v :: vs, cs => by
    simp only [List.map_cons, VL, VL_sc, V]
    constructor
    · rintro ⟨c, cs', rfl, rfl, rfl⟩; rfl
    · rintro rfl; exact ⟨v, vs, rfl, rfl, rfl⟩
theorem allVals_sc : ∀ {xs : List AV} {vs : List Value}, allVals xs = some vs → xs = vs.map .sc
  | [], vs, h => by simp [allVals] at h; subst h; rfl
  | .sc v :: xs, vs, h => by
    simp only [allVals, Option.map_eq_some_iff] at h
    obtain ⟨us, h, rfl⟩ := h
    rw [allVals_sc h]; rfl
  | .undef :: _, _, h => by simp [allVals] at h
  | .row .. :: _, _, h => by simp [allVals] at h
  | .mt :: _, _, h => by simp [allVals] at h
  | .agg _ :: _, _, h => by simp [allVals] at h
  | .tup _ :: _, _, h => by simp [allVals] at h
  | .ptr .. :: _, _, h => by simp [allVals] at h
  | .rptr _ :: _, _, h => by simp [allVals] at h
theorem V_mkAgg {xs : List AV} {cs : List Value} (h1 : ∀ u ∈ cs, u.oneCell' = true) (h : VL pr w cs xs) : V pr w (.agg cs.toArray) (mkAgg xs) := by
  unfold mkAgg
  split
  · rename_i vs hv
    rw [allVals_sc hv, VL_sc] at h
    subst h; simp [V]
  · exact ⟨cs, rfl, h1, h⟩
theorem V_plain1 {c : Value} : ∀ {x : AV}, V pr w c x → V pr w c (plain1 x)
  | .undef, h => h
  | .sc _, h => h
  | .row .., h => by simpa only [plain1, V] using h
  | .mt, h => h
  | .agg _, h => h
  | .tup _, h => trivial
  | .ptr .., h => trivial
  | .rptr _, h => h
theorem VL_plain1 : ∀ {xs : List AV} {cs : List Value}, VL pr w cs xs → VL pr w cs (xs.map plain1)
  | [], _, h => h
  | x :: xs, _, h => by simp only [VL] at h; obtain ⟨c, cs', rfl, h1, h2⟩ := h; exact ⟨c, cs', rfl, V_plain1 h1, VL_plain1 h2⟩
end
structure Res where
  v : AV
  own : Option Nat
def OwnRow (B : Nat) (pr : Nat → Nat → Prop) (w : World) (e : Nat) (c : Value) : AV → Prop
  | .row _ size n _ => (∃ A, c = .slice A 0 0 ∧ n = 0) ∨ ∃ us, w.ownsRow B e size c n us ∧ ∀ g, c.ownBlock = some g → ∀ i, pr g i → i < n * size
  | _ => True
def OwnRes (B : Nat) (pr : Nat → Nat → Prop) (w : World) (e : Nat) (c : Value) : AV → Prop
  | .tup (x :: _) => ∀ c0 cs, c = .tuple (c0 :: cs).toArray → OwnRow B pr w e c0 x
  | x => OwnRow B pr w e c x
/-- the function may be entered -/
def Enters (P : Program) (f : Nat) : Prop := ∃ fn, P.funcs[f]? = some fn ∧ (fn.name == "runtime.NumGoroutine") = false ∧ fn.body.isNone = false
/-- THE CONTRACT: at all arguments that read as args, it answers what reads as r; older memory stays as it is. -/
def Ok (P : Program) (f : Nat) (args : List AV) (r : Res) : Prop :=
  Enters P f ∧ ∀ (w : World) (pr : Nat → Nat → Prop) (cs : List Value), (∀ b i, pr b i → b < w.heap.size) → VL pr w cs args →
    Calls P f cs.toArray w fun e w' => ∃ c pr', e = .returned c ∧ Below w.heap.size w w' ∧ (∀ b i, pr' b i → b < w'.heap.size) ∧ (∀ b i, b < w.heap.size → pr' b i → pr b i) ∧ V pr' w' c r.v ∧
      ∀ e, r.own = some e → OwnRes w.heap.size pr' w' e c r.v
end Go.Proofs.Ytlekojbcaelpiaa

/- The seat's own interpreter: runs a function's code on abstract values. -/
namespace Go.Proofs.Ytlekojbcaelpiaa
open Go.RowKit

/-- the value of a computation that asks nothing of memory -/
def peek (P : Program) {α : Type} : Sem α → Option α
  | .pure a => some a
  | .program k => peek P (k P)
  | _ => none
theorem peek_run {P : Program} {α : Type} : ∀ {m : Sem α} {a : α}, peek P m = some a → ∀ w, m.run P w = .ok a w
  | .pure a, b, h, w => by simp [peek] at h; subst h; rfl
  | .program k, b, h, w => by simp only [peek] at h; exact peek_run h w
  | .load .., _, h, _ | .store .., _, h, _ | .new .., _, h, _ | .shape .., _, h, _ | .freeze .., _, h, _ | .frozen .., _, h, _ | .getObj .., _, h, _
  | .setObj .., _, h, _ | .choose .., _, h, _ | .sys .., _, h, _ | .mark .., _, h, _ | .halt .., _, h, _ => by simp [peek] at h

def look {α : Type} : List (Nat × α) → Nat → Option α
  | [], _ => none
  | (k, v) :: l, t => match Nat.beq k t with | true => some v | false => look l t

structure St where
  n : Nat
  slots : List (Nat × AV)
  objs : List (Nat × (Nat × List AV))
  lens : List (Nat × Nat)
  log : List Prop := []

def St.eval (s : St) : Operand → AV
  | .tmp t => (look s.slots t).getD .undef
  | .const v => .sc v
  | .func f => .sc (.func (.func f) #[] #[])
  | .global _ => .undef

inductive Cmd where
  | val (v : AV)
  | load (d off n : Nat) (isAgg : Bool)
  | store (d off : Nat) (xs : List AV)
  | box (ty : Nat) (xs : List AV)
  | fresh (e size n : Nat) (xs : List AV)
  | grow (d e size n : Nat) (xs : List AV) (m : Nat) (ys : List AV)
  | ret (r : Res) (need : Prop)

/-- answers from outside: of calls, and of operations whose answer is proved beside -/
structure Orc where
  call : Option Nat → Nat → List AV → Option Res
  hint : Option Nat → Option Cmd := fun _ => none

def takeN : Nat → List AV → Option (List AV)
  | 0, _ => some []
  | n + 1, x :: xs => (takeN n xs).map (x :: ·)
  | _ + 1, [] => none
def setAt (xs : List AV) (off : Nat) : List AV → List AV
  | [] => xs
  | y :: ys => setAt (xs.set off y) (off + 1) ys
/-- the cells of a value that may be laid into memory -/
def cells? : AV → Option (List AV)
  | .sc v => match v.cells.toList.all (·.oneCell') with | true => some (v.cells.toList.map .sc) | false => none
  | .agg xs => some (xs.map plain1)
  | .undef | .tup _ => none
  | x => some [x]
def fillA (place : Nat → Option (Nat × Nat)) (xs : List AV) : List (Nat × AV) → Option (List AV)
  | [] => some xs
  | (i, v) :: rest =>
    match place i, cells? v with
    | some (off, size), some ys => if ys.length = size ∧ off + size ≤ xs.length then fillA place (setAt xs off ys) rest else none
    | _, _ => none

section
variable (P : Program)
def isAggT (t : TypeId) : Option Bool := match P.underlying t with
  | some (.struct _) | some (.array _ _) => some true
  | some _ => some false
  | none => none
def szT (t : TypeId) : Option Nat := (P.info? t).map (·.size)
def fieldT (t : TypeId) (k : Nat) : Option Field := match P.underlying t with
  | some (.struct fs) => fs[k]?
  | _ => none
def elemT (t : TypeId) : Option TypeId := match P.underlying t with
  | some (.slice e) => some e
  | _ => none
def zeroT (t : TypeId) : Option (List AV) := ((P.info? t).bind (·.zero)).bind fun z => cells? (.sc z)

def cmdAlloc (e : TypeId) : Option Cmd := (zeroT P e).map fun xs => .box e xs
def cmdBox (e : TypeId) (x : AV) : Option Cmd := (cells? x).map fun xs => .box e xs
def placesT (fs : List Field) : List (Nat × Nat) := fs.map fun f => (f.offset, (szT P f.type).getD 0)
def knownT (fs : List Field) : Bool := fs.all fun f => (szT P f.type).isSome
def cmdBuild (t : TypeId) (parts : List (Nat × AV)) : Option Cmd :=
  match zeroT P t, P.underlying t with
  | some z, some (.struct fs) =>
    match knownT P fs.toList with
    | true => (fillA (fun i => (placesT P fs.toList)[i]?) z parts).map fun xs => .val (mkAgg xs)
    | false => none
  | _, _ => none
def cmdBuildSlice (t : TypeId) (len : Nat) (parts : List (Nat × AV)) : Option Cmd :=
  match elemT P t with
  | some e =>
    match szT P e, zeroT P e with
    | some size, some z =>
      if 0 < size ∧ z.length = size ∧ len * size ≤ 2 ^ 24 then
        (fillA (fun i => some (i * size, size)) (List.replicate (len * size) .undef) parts).map fun xs => .fresh e size len xs
      else none
    | _, _ => none
  | none => none
def cmdLoad (t : TypeId) (x : AV) : Option Cmd :=
  match isAggT P t, szT P t, x with
  | some true, some n, .ptr d off => some (.load d off n true)
  | some false, _, .ptr d off => some (.load d off 1 false)
  | some true, some n, .rptr xs => (takeN n xs).map fun ys => .val (mkAgg ys)
  | some false, _, .rptr (y :: _) => some (.val (plain1 y))
  | _, _, _ => none
def cmdStore (t : TypeId) (x v : AV) : Option Cmd :=
  match szT P t, x, cells? v with
  | some n, .ptr d off, some ys => match Nat.beq n ys.length with | true => some (.store d off ys) | false => none
  | _, _, _ => none
def cmdFieldAddr (t : TypeId) (x : AV) (k : Nat) : Option Cmd :=
  match fieldT P t k with
  | some f =>
    match (szT P f.type).any (0 < ·), x with
    | true, .ptr d off => some (.val (.ptr d (off + f.offset)))
    | true, .rptr xs => some (.val (.rptr (xs.drop f.offset)))
    | _, _ => none
  | none => none
def cmdField (t : TypeId) (x : AV) (k : Nat) : Option Cmd :=
  match x, fieldT P t k with
  | .sc v, _ => (peek P (Instr.field t v k)).map fun v => .val (.sc v)
  | .agg xs, some f =>
    match isAggT P f.type, szT P f.type, xs.drop f.offset with
    | some true, some n, ys => (takeN n ys).map fun ys => .val (mkAgg ys)
    | some false, _, y :: _ => some (.val (plain1 y))
    | _, _, _ => none
  | _, _ => none
def arrT (t : TypeId) : Option (Nat × Nat) := match P.underlying t with
  | some (.array len e) => (szT P e).map fun size => (len, size)
  | _ => none
def cmdIndexAddr (t : TypeId) (x i : AV) : Option Cmd :=
  match x, i, (elemT P t).bind (szT P) with
  | .row _ size n xs, .sc (.int _ i), some size' => if size' = size ∧ 0 ≤ i ∧ i < n then some (.val (.rptr (xs.drop (i.toNat * size)))) else none
  | .ptr d off, .sc (.int _ i), _ => match arrT P t with
    | some (len, size) => if 0 ≤ i ∧ i < len then some (.val (.ptr d (off + i.toNat * size))) else none
    | none => none
  | _, _, _ => none
def boundOf : Option AV → Nat → Option Nat
  | none, d => some d
  | some (.sc (.int _ i)), _ => if 0 ≤ i then some i.toNat else none
  | _, _ => none
def rowOf (size : Nat) : AV → Option (Nat × List AV)
  | .row _ size' n xs => if size' = size then some (n, xs) else none
  | .mt => some (0, [])
  | .sc (.slice none 0 0) => some (0, [])
  | _ => none
def cmdSlice (t : TypeId) (x : AV) (lo hi mx : Option AV) : Option Cmd :=
  match (elemT P t).bind (szT P) with
  | some size => match rowOf size x with
    | some (n, xs) =>
      match boundOf lo 0, boundOf hi n, mx with
      | some l, some h, none => if l ≤ h ∧ h ≤ n then some (.val (.row none size (h - l) ((xs.drop (l * size)).take ((h - l) * size)))) else none
      | some l, some h, some mx =>
        match boundOf (some mx) 0 with
        | some m => if l ≤ h ∧ h ≤ m ∧ m ≤ n ∧ hi.isSome then some (.val (if m = l then .mt else .row none size (h - l) ((xs.drop (l * size)).take ((h - l) * size)))) else none
        | none => none
      | _, _, _ => none
    | none => none
  | none => none
def cmdLen (t : TypeId) (ty : TypeId) (x : AV) : Option Cmd :=
  match x with
  | .sc v => (peek P (Builtin.len_ #[t] ty #[v])).map fun v => .val (.sc v)
  | .row _ _ n _ => (elemT P t).map fun _ => .val (.sc (.int .i64 n))
  | .mt => (elemT P t).map fun _ => .val (.sc (.int .i64 0))
  | _ => none
def fits (n m bytes : Nat) : Bool := Nat.ble (n + m) maxLen && Nat.ble ((n + m) * bytes) 140737488355328
def cmdAppend (t t' : TypeId) (s x : AV) : Option Cmd :=
  match Nat.beq t t', elemT P t with
  | true, some e =>
    match P.info? e, zeroT P e with
    | some i, some z =>
      match rowOf i.size x, s with
      | some (m, ys), .row (some (d, e')) size n xs =>
        if e' = e ∧ size = i.size ∧ 0 < size ∧ z.length = size ∧ fits n m i.bytes then some (.grow d e size n xs m ys) else none
      | some (m, ys), .mt => if 0 < i.size ∧ z.length = i.size ∧ fits 0 m i.bytes then some (.fresh e i.size m ys) else none
      | some (m, ys), .sc (.slice none 0 0) => if 0 < i.size ∧ z.length = i.size ∧ fits 0 m i.bytes then some (.fresh e i.size m ys) else none
      | _, _ => none
    | _, _ => none
  | _, _ => none
def scs : List AV → Option (List Value) := allVals
def cmdBuiltin (b : Builtin) (xs : List AV) (ts : List TypeId) (ty : TypeId) : Option Cmd :=
  match b, xs, ts with
  | .len, [x], [t] => cmdLen P t ty x
  | .append, [s, x], [t, t'] => cmdAppend P t t' s x
  | .min, xs, ts => (scs xs).bind fun vs => (peek P (Builtin.min_ ts.toArray ty vs.toArray)).map fun v => .val (.sc v)
  | .max, xs, ts => (scs xs).bind fun vs => (peek P (Builtin.max_ ts.toArray ty vs.toArray)).map fun v => .val (.sc v)
  | _, _, _ => none
def cmdValue (call : Nat → List AV → Option Res) (f : AV) (xs : List AV) : Option Cmd :=
  match f with
  | .sc (.func (.func g) fst cap) => match fst.toList, cap.toList with
    | [], [] => (call g (xs.map plain)).map fun r => .ret r (Ok P g (xs.map plain) r)
    | _, _ => none
  | _ => none
def cmdCall (call : Nat → List AV → Option Res) (c : Call) (ty : TypeId) (ev : Operand → AV) : Option Cmd :=
  match c.callee with
  | .builtin b => cmdBuiltin P b (c.args.toList.map ev) c.argTypes.toList ty
  | .value f => cmdValue P call (ev f) (c.args.toList.map ev)
  | _ => none
def cmdOf (call : Orc) (ev : Operand → AV) (o : Oper) : Option Cmd :=
  match o.op with
  | .move x | .assign x => some (.val (ev x))
  | .pick c a b => match ev c with
    | .sc (.bool c) => some (.val (match c with | true => ev a | false => ev b))
    | _ => none
  | .alloc e => cmdAlloc P e
  | .box e x => cmdBox e (ev x)
  | .build t ps => cmdBuild P t (ps.toList.map fun p => (p.1, plain (ev p.2)))
  | .buildSlice t len ps => cmdBuildSlice P t len (ps.toList.map fun p => (p.1, plain (ev p.2)))
  | .load t x => cmdLoad P t (ev x)
  | .store t x v => cmdStore P t (ev x) (ev v)
  | .fieldAddr t x k => cmdFieldAddr P t (ev x) k
  | .field t x k => cmdField P t (ev x) k
  | .indexAddr t x i => cmdIndexAddr P t (ev x) (ev i)
  | .slice t x lo hi mx => cmdSlice P t (ev x) (lo.map ev) (hi.map ev) (mx.map ev)
  | .extract x i => match ev x with
    | .tup xs => match xs[i]? with
      | some (.tup _) => none
      | some x => some (.val x)
      | none => none
    | _ => none
  | .binOp op t x y _ => match ev x, ev y with
    | .sc a, .sc b => (peek P (do eqGuard op t x y a b; binOp op t a b)).map fun v => .val (.sc v)
    | _, _ => none
  | .unOp op _ x => match ev x with
    | .sc a => (peek P (Op.unary op a)).map fun v => .val (.sc v)
    | _ => none
  | .convert src dst x => match ev x with
    | .sc a => (peek P (convert src dst a)).map fun v => .val (.sc v)
    | _ => none
  | .call c => cmdCall P (call.call o.dst) c o.type ev
  | _ => none
end

/-- does the name stand in the value? -/
def ment1 (d : Nat) : AV → Bool
  | .row (some (n, _)) _ _ _ => Nat.beq n d
  | .ptr n _ => Nat.beq n d
  | _ => false
def ment (d : Nat) : AV → Bool
  | .tup xs => xs.any (ment1 d)
  | x => ment1 d x
def St.absent (s : St) (d : Nat) : Bool :=
  s.slots.all (fun p => !ment d p.2) && s.objs.all (fun p => !Nat.beq p.1 d && p.2.2.all fun x => !ment d x) && s.lens.all fun p => !Nat.beq p.1 d
def avoids (F : List Nat) (x : AV) : Bool := F.all fun d => !ment d x
def avoidsN (F : List Nat) (n : Nat) : Bool := F.all fun d => !Nat.beq n d

def St.put (s : St) (dst : Option Nat) (v : AV) : Option St :=
  match dst with
  | none => some s
  | some d => match Nat.blt d s.n with | true => some { s with slots := (d, v) :: s.slots } | false => none
def tag (d e : Nat) : AV → AV
  | .row _ size n xs => .row (some (d, e)) size n xs
  | .tup (.row _ size n xs :: rest) => .tup (.row (some (d, e)) size n xs :: rest)
  | x => x
def lenOf : AV → Option Nat
  | .row _ size n _ => some (n * size)
  | .tup (.row _ size n _ :: _) => some (n * size)
  | _ => none
def St.apply (F : List Nat) (s : St) (dst : Option Nat) : Cmd → Option St
  | .val v => match avoids F v with | true => s.put dst v | false => none
  | .load d off n isAgg => match look s.objs d, avoidsN F d with
    | some (_, xs), true => match isAgg with
      | true => (takeN n (xs.drop off)).bind fun ys => match avoids F (mkAgg (ys.map plain1)) with | true => s.put dst (mkAgg (ys.map plain1)) | false => none
      | false => match xs.drop off with
        | y :: _ => match avoids F y with | true => s.put dst y | false => none
        | [] => none
    | _, _ => none
  | .store d off ys => match look s.objs d, avoidsN F d, ys.all (avoids F) with
    | some (ty, xs), true, true => match Nat.ble (off + ys.length) xs.length, dst, xs.all (avoids F) with
      | true, none, true => some { s with objs := (d, (ty, xs.take off ++ ys ++ xs.drop (off + ys.length))) :: s.objs }
      | _, _, _ => none
    | _, _, _ => none
  | .box ty xs => match dst, xs.all (avoids F) with
    | some d, true => match s.absent d, avoidsN F d, Nat.blt d s.n with
      | true, true, true => some { s with slots := (d, .ptr d 0) :: s.slots, objs := (d, (ty, xs)) :: s.objs }
      | _, _, _ => none
    | _, _ => none
  | .fresh e size n xs => match dst with
    | some d => match s.absent d, avoidsN F d, Nat.blt d s.n with
      | true, true, true => some { s with slots := (d, .row (some (d, e)) size n xs) :: s.slots, lens := (d, n * size) :: s.lens }
      | _, _, _ => none
    | none => none
  | .grow d e size n xs m ys => match look s.lens d, avoidsN F d, dst with
    | some len, true, some t => match Nat.blt t s.n with
      | true => some { s with slots := (t, .row (some (d, e)) size (n + m) (xs ++ ys)) :: s.slots, lens := (d, (n + m) * size) :: s.lens, log := (len = n * size) :: s.log }
      | false => none
    | _, _, _ => none
  | .ret r need => match r.own, dst with
    | some e, some d => match lenOf r.v, s.absent d, avoidsN F d, Nat.blt d s.n with
      | some len, true, true, true => some { s with slots := (d, tag d e (plain r.v)) :: s.slots, lens := (d, len) :: s.lens, log := need :: s.log }
      | _, _, _, _ => none
    | _, _ => St.put { s with log := need :: s.log } dst (plain r.v)

inductive Out where
  | go (s : St)
  | exit (id : Nat) (s : St)
  | ret (s : St)

section
variable (P : Program) (call : Orc)
def wants (ops : Array Oper) (s : St) (o : Oper) : Option Bool :=
  match o.guard with
  | none => some true
  | some (j, want) => match (ops[j]?).bind (·.dst) with
    | some t => match look s.slots t with
      | some (.sc (.bool b)) => some (b == want)
      | some (.sc _) => some false
      | _ => none
    | none => none
def stepOp (ops : Array Oper) (F : List Nat) (o : Oper) (s : St) : Option St :=
  match wants ops s o with
  | some true => match call.hint o.dst with
    | some c => (s.apply F o.dst c).map fun t => { t with log := (cmdOf P call s.eval o = some c) :: t.log }
    | none => (cmdOf P call s.eval o).bind (s.apply F o.dst)
  | some false => s.put o.dst (.sc undef)
  | none => none
def runOps (ops : Array Oper) : List (List Nat × Oper) → St → Option St
  | [], s => some s
  | (F, o) :: l, s => (stepOp P call ops F o s).bind (runOps ops l)
end

/-- a name is given away: who has it may append no more -/
def scr1 (d : Nat) (x : AV) : AV := match ment1 d x with | true => plain1 x | false => x
def scr (d : Nat) (x : AV) : AV := match ment d x with | true => plain x | false => x
def St.scrub (s : St) (d : Nat) : St :=
  { n := s.n
    slots := s.slots.map fun p => (p.1, scr d p.2)
    objs := (s.objs.filter fun p => !Nat.beq p.1 d).map fun p => (p.1, (p.2.1, p.2.2.map (scr1 d)))
    lens := s.lens.filter fun p => !Nat.beq p.1 d
    log := s.log }
section
variable (P : Program) (call : Orc)
def givesName (o : Oper) : Option Nat := match o.op with
  | .alloc _ | .box .. | .buildSlice .. | .call _ => o.dst
  | _ => none
def stepS (ops : Array Oper) (o : Oper) (s : St) : Option St :=
  match stepOp P call ops [] o s with
  | some s' => some s'
  | none => match givesName o with
    | some d => stepOp P call ops [] o (s.scrub d)
    | none => none
def runS (ops : Array Oper) : List Oper → St → Option St
  | [], s => some s
  | o :: l, s => (stepS P call ops o s).bind (runS ops l)
end

/-- the operations in front of which none may be moved: for each, all that it waits for -/
def waitsFor : List Oper → List (List Nat) → List (List Nat)
  | [], acc => acc
  | o :: l, acc => waitsFor l (acc ++ [o.after.toList.flatMap fun e => match Region.binds .any e with | true => e.on :: acc.getD e.on [] | false => []])
inductive Cls where
  | quiet | load | store | box | row | append
  deriving DecidableEq
def clsOf (o : Oper) : Cls :=
  match o.op with
  | .alloc _ | .box .. => .box
  | .load .. => .load
  | .store .. => .store
  | .buildSlice .. => .row
  | .call c => match c.callee with
    | .builtin .append => .append
    | .value _ => .row
    | _ => .quiet
  | _ => .quiet
def naming (o : Oper) : Option Nat := match clsOf o with
  | .box | .row | .append => o.dst
  | _ => none
def clash : Cls → Cls → Bool
  | .load, .store | .store, .load | .store, .store | .append, .append => true
  | _, _ => false
def beside (ops : Array Oper) (x y : Oper) : Bool := x.apart ops y && !clash (clsOf x) (clsOf y)
def waitsOf (ops : Array Oper) : List (List Nat) := waitsFor ops.toList []
def has (l : List Nat) (k : Nat) : Bool := l.any (Nat.beq · k)
/-- may the region's operations be carried out in the order of the text? -/
def drawOk (ops : Array Oper) : Bool :=
  let W := waitsOf ops
  (List.range ops.size).all fun j => match ops[j]? with
    | some y => (y.after.toList.all fun e => !Region.binds .any e || Nat.blt e.on j) &&
      ((W.getD j []).all fun k => Nat.blt k j && y.after.toList.any fun e => Region.binds .any e && (Nat.beq e.on k || has (W.getD e.on []) k)) &&
      (List.range j).all fun i => has (W.getD j []) i || match ops[i]? with
        | some x => beside ops x y
        | none => false
    | none => false
/-- names that an operation must not meet -/
def banned (ops : Array Oper) (j : Nat) : List Nat :=
  let W := waitsOf ops
  (List.range ops.size).filterMap fun i => match Nat.beq i j || has (W.getD j []) i || has (W.getD i []) j with
    | true => none
    | false => (ops[i]?).bind naming
def bans (ops : Array Oper) : List (List Nat × Oper) := (List.range ops.size).filterMap fun j => (ops[j]?).map fun o => (banned ops j, o)

/-- without the right to append, unless the name is kept -/
def keep1 (names : List Nat) : AV → AV
  | .row (some (d, e)) size n xs => match has names d with | true => .row (some (d, e)) size n xs | false => .row none size n xs
  | .ptr d off => match has names d with | true => .ptr d off | false => .undef
  | .tup _ => .undef
  | x => x
def St.mask (s : St) (live names : List Nat) : St :=
  { n := s.n
    slots := live.map fun t => (t, keep1 names ((look s.slots t).getD .undef))
    objs := names.filterMap fun t => (look s.objs t).map fun x => (t, (x.1, x.2.map (keep1 names)))
    lens := names.filterMap fun t => (look s.lens t).map fun x => (t, x)
    log := s.log }
def maskIf (live : Option (List Nat × List Nat)) (s : St) : St := match live with | some l => s.mask l.1 l.2 | none => s

def iter (f : St → Option Out) : Nat → St → Option Out
  | 0, _ => none
  | n + 1, s => match f s with
    | some (.go s') => iter f n s'
    | o => o

section
variable (P : Program) (call : Orc) (live : Nat → Option (List Nat × List Nat)) (fuel : Nat)
def runRegion (ops : Array Oper) (draw : Bool) (s : St) : Option St :=
  match draw with
  | false => runS P call ops ops.toList s
  | true => match drawOk ops with
    | true => runOps P call ops (bans ops) s
    | false => none
def runCode : Code → St → Option Out
  | .skip, s => some (.go s)
  | .region id ops draw, s => (runRegion P call ops draw (maskIf (live id) s)).map .go
  | .seq a b, s => match runCode a s with
    | some (.go s') => runCode b s'
    | o => o
  | .cond c a b, s => match s.eval c with
    | .sc (.bool true) => runCode a s
    | .sc (.bool false) => runCode b s
    | _ => none
  | .block id c, s => match runCode c s with
    | some (.exit id' s') => match Nat.beq id' id with | true => some (.go s') | false => some (.exit id' s')
    | o => o
  | .loop c, s => iter (runCode c) fuel s
  | .exit id, s => some (.exit id s)
  | .ret, s => some (.ret s)
  | .label _, s => some (.go s)
  | _, _ => none
end

def start (args : List AV) (n : Nat) : St := { n, slots := (List.range args.length).zip args, objs := [], lens := [] }
def cellVal (P : Program) (s : St) (t : TypeId) (x : AV) : Option AV :=
  match x with
  | .ptr d off => match look s.objs d, isAggT P t, szT P t with
    | some (_, xs), some true, some n => (takeN n (xs.drop off)).map fun ys => mkAgg (ys.map plain1)
    | some (_, xs), some false, _ => (xs.drop off).head?
    | _, _, _ => none
  | _ => none
def resVals (P : Program) (s : St) : List ResultVar → Option (List AV)
  | [] => some []
  | .tmp t :: l => (resVals P s l).map (s.eval (.tmp t) :: ·)
  | .cell b t :: l => match cellVal P s t (s.eval (.tmp b)), resVals P s l with
    | some x, some xs => some (x :: xs)
    | _, _ => none
/-- a result: may the caller append to it? -/
def ownOf (s : St) : AV → Option (Nat × Prop)
  | .row (some (d, e)) size n _ => (look s.lens d).map fun len => (e, len = n * size)
  | _ => none
def resOf (s : St) : List AV → Option (Res × List Prop)
  | [x] => match ownOf s x with
    | some (e, p) => some ({ v := plain1 x, own := some e }, [p])
    | none => some ({ v := plain1 x, own := none }, [])
  | [] => some ({ v := .tup [], own := none }, [])
  | x :: y :: l => match ownOf s x with
    | some (e, p) => some ({ v := .tup ((x :: y :: l).map plain1), own := some e }, [p])
    | none => some ({ v := .tup ((x :: y :: l).map plain1), own := none }, [])
def runBody (P : Program) (call : Orc) (live : Nat → Option (List Nat × List Nat)) (fuel : Nat) (fn : Func) (args : List AV) : Option (Res × List Prop) :=
  match fn.body with
  | some c =>
    match Nat.ble args.length fn.ntmps, runCode P call live fuel c (start args fn.ntmps) with
    | true, some (.go s) | true, some (.ret s) => ((resVals P s fn.results.toList).bind (resOf s)).map fun r => (r.1, r.2 ++ s.log)
    | _, _ => none
  | none => none
end Go.Proofs.Ytlekojbcaelpiaa

/- The interpreter's states and the machine's: what it means that one stands for the other, and what keeps it. -/
namespace Go.Proofs.Ytlekojbcaelpiaa
open Go.RowKit

structure Gh where
  base : Nat
  pr : Nat → Nat → Prop
  blk : Nat → Option Nat
  /-- blocks that nobody touches -/
  fr : Nat → Option Obj := fun _ => none

/-- of old memory no more is looked at -/
structure GExt (γ γ' : Gh) : Prop where
  base : γ'.base = γ.base
  old : ∀ b i, b < γ.base → γ'.pr b i → γ.pr b i
  fr : γ'.fr = γ.fr
theorem GExt.refl (γ : Gh) : GExt γ γ := ⟨rfl, fun _ _ _ h => h, rfl⟩
theorem GExt.trans {γ γ' γ'' : Gh} (h : GExt γ γ') (k : GExt γ' γ'') : GExt γ γ'' := ⟨k.base.trans h.base, fun b i hb hp => h.old b i hb (k.old b i (by rw [h.base]; exact hb) hp), k.fr.trans h.fr⟩

def Own (γ : Gh) (w : World) (c : Value) (d e size n : Nat) : Prop :=
  (∃ A, c = .slice A 0 0 ∧ n = 0) ∨ (∃ us, w.ownsRow γ.base e size c n us ∧ ∀ g, c.ownBlock = some g → γ.blk d = some g)
def AVR1 (γ : Gh) (L : List (Nat × Nat)) (w : World) (c : Value) : AV → Prop
  | .row (some (d, e)) size n xs => V γ.pr w c (.row (some (d, e)) size n xs) ∧ ∀ len, look L d = some len → n * size ≤ len ∧ (n * size = len → Own γ w c d e size n)
  | .ptr d off => (∃ b, c = .pointer (some ⟨b, off, none⟩) ∧ γ.blk d = some b) ∧ look L d = none
  | x => V γ.pr w c x
def AVRL (γ : Gh) (L : List (Nat × Nat)) (w : World) (cs : List Value) : List AV → Prop
  | [] => cs = []
  | x :: xs => ∃ c cs', cs = c :: cs' ∧ AVR1 γ L w c x ∧ AVRL γ L w cs' xs
def AVR (γ : Gh) (L : List (Nat × Nat)) (w : World) (c : Value) : AV → Prop
  | .tup xs => ∃ cs : List Value, c = .tuple cs.toArray ∧ AVRL γ L w cs xs
  | x => AVR1 γ L w c x

theorem AVR1.of_V {γ : Gh} {L : List (Nat × Nat)} {w : World} {c : Value} : ∀ {x : AV}, V γ.pr w c x → AVR1 γ L w c (plain1 x)
  | .undef, h => h
  | .sc _, h => h
  | .row t s n xs, h => by simp only [plain1, AVR1]; simpa only [V] using h
  | .mt, h => h
  | .agg _, h => h
  | .tup _, _ => trivial
  | .ptr _ _, _ => trivial
  | .rptr _, h => h
theorem AVR.of_AVR1 {γ : Gh} {L : List (Nat × Nat)} {w : World} {c : Value} : ∀ {x : AV}, (∀ xs, x ≠ .tup xs) → AVR1 γ L w c x → AVR γ L w c x
  | .tup xs, hn, _ => absurd rfl (hn xs)
  | .undef, _, h => h
  | .sc _, _, h => h
  | .row .., _, h => h
  | .mt, _, h => h
  | .agg _, _, h => h
  | .ptr _ _, _, h => h
  | .rptr _, _, h => h
theorem plain1_tup (x : AV) : ∀ xs, plain1 x ≠ .tup xs := by cases x <;> simp [plain1]
theorem AVR.of_V {γ : Gh} {L : List (Nat × Nat)} {w : World} {c : Value} {x : AV} (h : V γ.pr w c x) : AVR γ L w c (plain1 x) := AVR.of_AVR1 (plain1_tup x) (AVR1.of_V h)
theorem AVR.plain1 {γ : Gh} {L : List (Nat × Nat)} {w : World} {c : Value} {x : AV} (h : AVR γ L w c x) (hn : ∀ xs, x ≠ .tup xs) : AVR1 γ L w c x := by
  cases x <;> first | exact h | exact absurd rfl (hn _)
/-- what can be said of it whoever owns it -/
theorem AVR1.plain {γ : Gh} {L : List (Nat × Nat)} {w : World} {c : Value} : ∀ {x : AV}, AVR1 γ L w c x → V γ.pr w c (plain1 x)
  | .undef, h => h
  | .sc _, h => h
  | .row none .., h => by simpa only [plain1, AVR1, V] using h
  | .row (some (d, _)) .., h => by have := h.1; simpa only [plain1, AVR1, V] using this
  | .mt, h => h
  | .agg _, h => h
  | .tup _, _ => trivial
  | .ptr d _, _ => trivial
  | .rptr _, h => h
theorem AVRL.plain {γ : Gh} {L : List (Nat × Nat)} {w : World} : ∀ {xs : List AV} {cs : List Value}, AVRL γ L w cs xs → VL γ.pr w cs (xs.map plain1)
  | [], _, h => h
  | x :: xs, _, ⟨c, cs', e, h1, h2⟩ => ⟨c, cs', e, h1.plain, AVRL.plain h2⟩
theorem AVR.plain {γ : Gh} {L : List (Nat × Nat)} {w : World} {c : Value} : ∀ {x : AV}, AVR γ L w c x → V γ.pr w c (plain x)
  | .tup xs, ⟨cs, e, h⟩ => ⟨cs, e, h.plain⟩
  | .undef, h => AVR1.plain (L := L) (x := .undef) h
  | .sc v, h => AVR1.plain (L := L) (x := .sc v) h
  | .row t s n xs, h => AVR1.plain (L := L) (x := .row t s n xs) h
  | .mt, h => AVR1.plain (L := L) (x := .mt) h
  | .agg xs, h => AVR1.plain (L := L) (x := .agg xs) h
  | .ptr d o, h => AVR1.plain (L := L) (x := .ptr d o) h
  | .rptr xs, h => AVR1.plain (L := L) (x := .rptr xs) h
theorem AVRL.length {γ : Gh} {L : List (Nat × Nat)} {w : World} : ∀ {xs : List AV} {cs : List Value}, AVRL γ L w cs xs → cs.length = xs.length
  | [], _, h => by simp only [AVRL] at h; subst h; rfl
  | x :: xs, _, ⟨c, cs', e, h1, h2⟩ => by subst e; simp [AVRL.length h2]
theorem AVRL.at_ {γ : Gh} {L : List (Nat × Nat)} {w : World} : ∀ {xs : List AV} {cs : List Value} {i : Nat} {x : AV}, AVRL γ L w cs xs → xs[i]? = some x → ∃ c, cs[i]? = some c ∧ AVR1 γ L w c x
  | [], _, _, _, _, hx => by simp at hx
  | y :: xs, _, 0, x, ⟨c, cs', e, h1, h2⟩, hx => by subst e; simp at hx; subst hx; exact ⟨c, rfl, h1⟩
  | y :: xs, _, i + 1, x, ⟨c, cs', e, h1, h2⟩, hx => by
    subst e
    have := AVRL.at_ h2 (i := i) (x := x) (by simpa using hx)
    simpa using this
theorem AVRL.of_at {γ : Gh} {L : List (Nat × Nat)} {w : World} : ∀ {xs : List AV} {cs : List Value}, cs.length = xs.length → (∀ (i : Nat) (x : AV) (c : Value), xs[i]? = some x → cs[i]? = some c → AVR1 γ L w c x) → AVRL γ L w cs xs
  | [], cs, hl, _ => by simpa [AVRL] using hl
  | x :: xs, [], hl, _ => by simp at hl
  | x :: xs, c :: cs, hl, h => ⟨c, cs, rfl, h 0 x c rfl rfl, AVRL.of_at (by simpa using hl) fun i x c hx hc => h (i + 1) x c (by simpa using hx) (by simpa using hc)⟩

def Kept (γ γ' : Gh) (L L' : List (Nat × Nat)) (w w' : World) (d : Nat) : Prop :=
  (γ'.blk d = γ.blk d ∧ look L' d = look L d ∧ (look L d ≠ none → ∀ g, γ.blk d = some g → w'.heap[g]? = w.heap[g]?)) ∨
  ∃ len len', look L d = some len ∧ look L' d = some len' ∧ len < len'

section
variable {γ γ' : Gh} {L L' : List (Nat × Nat)} {w w' : World}
theorem Own.frame {c : Value} {d e size n : Nat} (hb : γ'.base = γ.base) (h : Own γ w c d e size n) (h1 : γ'.blk d = γ.blk d) (h2 : ∀ g, γ.blk d = some g → w'.heap[g]? = w.heap[g]?) : Own γ' w' c d e size n := by
  rcases h with h | ⟨us, ho, hg⟩
  · exact .inl h
  · refine .inr ⟨us, ⟨ho.1, ?_⟩, fun g hh => h1.trans (hg g hh)⟩
    rw [hb]
    rcases ho.2 with h | ⟨g, cap, cur, rfl, a1, a2, a3⟩
    · exact .inl h
    · exact .inr ⟨g, cap, cur, rfl, a1, (h2 g (hg g rfl)).trans a2, a3⟩
variable (hb : γ'.base = γ.base) (hV : ∀ b i u, γ.pr b i → w.cell? ⟨b, i, none⟩ = some u → γ'.pr b i ∧ w'.cell? ⟨b, i, none⟩ = some u)
include hb hV
theorem AVR1.frame {c : Value} : ∀ {x : AV}, (∀ d, ment1 d x = true → Kept γ γ' L L' w w' d) → AVR1 γ L w c x → AVR1 γ' L' w' c x
  | .undef, _, h => h
  | .sc _, _, h => h
  | .row none s n xs, _, h => V.mono hV (.row none s n xs) h
  | .row (some (d, e)) s n xs, hn, h => by
    refine ⟨V.mono hV _ h.1, fun len hl => ?_⟩
    rcases hn d (by simp [ment1]) with ⟨h1, h2, h3⟩ | ⟨l1, l2, h1, h2, h3⟩
    · rw [h2] at hl
      exact ⟨(h.2 len hl).1, fun he => ((h.2 len hl).2 he).frame hb h1 (h3 (by rw [hl]; simp))⟩
    · rw [h2] at hl; cases hl
      have := (h.2 l1 h1).1
      exact ⟨by omega, fun he => by omega⟩
  | .mt, _, h => V.mono hV .mt h
  | .agg xs, _, h => V.mono hV (.agg xs) h
  | .tup xs, _, h => V.mono hV (.tup xs) h
  | .rptr xs, _, h => V.mono hV (.rptr xs) h
  | .ptr d off, hn, ⟨⟨b, h1, h2⟩, h3⟩ => by
    rcases hn d (by simp [ment1]) with ⟨a1, a2, a3⟩ | ⟨l1, l2, a1, a2, a3⟩
    · exact ⟨⟨b, h1, a1.trans h2⟩, a2.trans h3⟩
    · rw [h3] at a1; cases a1
theorem AVRL.frame : ∀ {xs : List AV} {cs : List Value}, (∀ d, xs.any (ment1 d) = true → Kept γ γ' L L' w w' d) → AVRL γ L w cs xs → AVRL γ' L' w' cs xs
  | [], _, _, h => h
  | x :: xs, _, hn, ⟨c, cs', e, h1, h2⟩ => ⟨c, cs', e, h1.frame hb hV fun d hd => hn d (by simp [hd]), AVRL.frame (fun d hd => hn d (by simp only [List.any_cons, hd, Bool.or_true])) h2⟩
theorem AVR.frame {c : Value} : ∀ {x : AV}, (∀ d, ment d x = true → Kept γ γ' L L' w w' d) → AVR γ L w c x → AVR γ' L' w' c x
  | .tup xs, hn, ⟨cs, e, h⟩ => ⟨cs, e, h.frame hb hV hn⟩
  | .undef, hn, h => AVR1.frame hb hV (c := c) (x := .undef) hn h
  | .sc v, hn, h => AVR1.frame hb hV (c := c) (x := .sc v) hn h
  | .row t s n xs, hn, h => AVR1.frame hb hV (c := c) (x := .row t s n xs) hn h
  | .mt, hn, h => AVR1.frame hb hV (c := c) (x := .mt) hn h
  | .agg xs, hn, h => AVR1.frame hb hV (c := c) (x := .agg xs) hn h
  | .ptr d o, hn, h => AVR1.frame hb hV (c := c) (x := .ptr d o) hn h
  | .rptr xs, hn, h => AVR1.frame hb hV (c := c) (x := .rptr xs) hn h
end

structure Rel (γ : Gh) (w0 : World) (s : St) (a : Act) (w : World) : Prop where
  size : a.tmps.size = s.n
  defers : a.defers = []
  below : Below γ.base w0 w
  base : γ.base ≤ w.heap.size
  slot : ∀ t x, look s.slots t = some x → AVR γ s.lens w (a.tmps.getD t undef) x
  obj : ∀ d ty xs, look s.objs d = some (ty, xs) → look s.lens d = none ∧ ∃ b cs, γ.blk d = some b ∧ γ.base ≤ b ∧ w.heap[b]? = some (.cells cs.toArray ty (0, 0)) ∧ AVRL γ s.lens w cs xs ∧
    (∀ c ∈ cs, c.oneCell' = true) ∧ ∀ i, ¬ γ.pr b i
  len : ∀ d len g, look s.lens d = some len → γ.blk d = some g → γ.base ≤ g ∧ ∀ i, γ.pr g i → i < len
  inj : ∀ d d' b, γ.blk d = some b → γ.blk d' = some b → d = d'
  blt : ∀ d b, γ.blk d = some b → b < w.heap.size
  plt : ∀ b i, γ.pr b i → b < w.heap.size
  frm : ∀ k o, γ.fr k = some o → w.heap[k]? = some o ∧ ∀ d, γ.blk d ≠ some k

theorem Rel.withLog {γ : Gh} {w0 w : World} {s : St} {a : Act} (h : Rel γ w0 s a w) (l : List Prop) : Rel γ w0 { s with log := l } a w :=
  ⟨h.size, h.defers, h.below, h.base, h.slot, h.obj, h.len, h.inj, h.blt, h.plt, h.frm⟩

theorem look_cons {α : Type} (k : Nat) (v : α) (l : List (Nat × α)) (t : Nat) : look ((k, v) :: l) t = if k = t then some v else look l t := by
  simp only [look]
  by_cases h : k = t
  · subst h; simp
  · rw [if_neg h]
    have : Nat.beq k t = false := by rw [← Bool.not_eq_true, Nat.beq_eq]; exact h
    rw [this]
theorem look_mem {α : Type} {l : List (Nat × α)} {t : Nat} {v : α} (h : look l t = some v) : (t, v) ∈ l := by
  induction l with
  | nil => simp [look] at h
  | cons p l ih =>
    obtain ⟨k, u⟩ := p
    rw [look_cons] at h
    split at h
    · rename_i e; subst e; cases h; exact List.mem_cons_self
    · exact List.mem_cons_of_mem _ (ih h)
structure Absent (s : St) (d : Nat) : Prop where
  slot : ∀ t x, look s.slots t = some x → ment d x = false
  obj : ∀ d' ty xs, look s.objs d' = some (ty, xs) → d' ≠ d ∧ ∀ x ∈ xs, ment d x = false
  obj' : look s.objs d = none
  len : look s.lens d = none
theorem Absent.of {s : St} {d : Nat} (h : s.absent d = true) : Absent s d := by
  simp only [St.absent, Bool.and_eq_true, List.all_eq_true, Bool.not_eq_true'] at h
  obtain ⟨⟨h1, h2⟩, h3⟩ := h
  refine ⟨fun t x hx => h1 _ (look_mem hx), fun d' ty xs hx => ?_, ?_, ?_⟩
  · have := h2 _ (look_mem hx)
    refine ⟨fun e => ?_, fun x hx => this.2 x hx⟩
    have := this.1
    simp [e] at this
  · cases hh : look s.objs d with
    | none => rfl
    | some p => have := (h2 _ (look_mem hh)).1; simp at this
  · cases hh : look s.lens d with
    | none => rfl
    | some p => have := h3 _ (look_mem hh); simp at this

section
variable {γ γ' : Gh} {w0 w w' : World} {s s' : St} {a : Act}
theorem ment1_ment {d : Nat} {x : AV} (h : ment1 d x = true) : ment d x = true := by cases x <;> simp_all [ment, ment1]
/-- The relation is kept where names, world and ghosts change so that all visible names are kept. -/
theorem Rel.frame (h : Rel γ w0 s a w) (L : List (Nat × Nat)) (hb : γ'.base = γ.base)
    (hV : ∀ b i u, γ.pr b i → w.cell? ⟨b, i, none⟩ = some u → γ'.pr b i ∧ w'.cell? ⟨b, i, none⟩ = some u)
    (hs : ∀ d t x, look s.slots t = some x → ment d x = true → Kept γ γ' s.lens L w w' d)
    (ho : ∀ d d' ty xs, look s.objs d' = some (ty, xs) → xs.any (ment1 d) = true → Kept γ γ' s.lens L w w' d)
    (ho2 : ∀ d ty xs b, look s.objs d = some (ty, xs) → γ.blk d = some b → look L d = none ∧ γ'.blk d = some b ∧ w'.heap[b]? = w.heap[b]? ∧ ∀ i, ¬ γ'.pr b i)
    (hl : ∀ d len g, look L d = some len → γ'.blk d = some g → γ.base ≤ g ∧ ∀ i, γ'.pr g i → i < len)
    (hi : ∀ d d' b, γ'.blk d = some b → γ'.blk d' = some b → d = d') (hblt : ∀ d b, γ'.blk d = some b → b < w'.heap.size) (hplt : ∀ b i, γ'.pr b i → b < w'.heap.size)
    (hbel : Below γ.base w w') (hff : γ'.fr = γ.fr) (hfm : ∀ k o, γ.fr k = some o → w'.heap[k]? = some o ∧ ∀ d, γ'.blk d ≠ some k) : Rel γ' w0 { s with lens := L } a w' where
  size := h.size
  defers := h.defers
  below := by rw [hb]; exact h.below.trans hbel
  base := by rw [hb]; exact Nat.le_trans h.base hbel.size
  slot t x hx := (h.slot t x hx).frame hb hV fun d hd => hs d t x hx hd
  obj d ty xs hx := by
    obtain ⟨h1, b, cs, h2, h3, h4, h5, h6, h7⟩ := h.obj d ty xs hx
    obtain ⟨k1, k2, k3, k4⟩ := ho2 d ty xs b hx h2
    exact ⟨k1, b, cs, k2, by rw [hb]; exact h3, k3.trans h4, h5.frame hb hV fun d' hd => ho d' d ty xs hx hd, h6, k4⟩
  len d len g h1 h2 := by rw [hb]; exact hl d len g h1 h2
  inj := hi
  blt := hblt
  plt := hplt
  frm k o hk := hfm k o (by rw [← hff]; exact hk)
/-- new blocks, new protected cells in them -/
theorem Rel.grow_world (h : Rel γ w0 s a w) (pr' : Nat → Nat → Prop) (hbel : Below w.heap.size w w') (h1 : ∀ b i, γ.pr b i → pr' b i) (h2 : ∀ b i, pr' b i → γ.pr b i ∨ w.heap.size ≤ b ∧ b < w'.heap.size) :
    Rel { γ with pr := pr' } w0 s a w' := by
  have hk : ∀ d, Kept γ { γ with pr := pr' } s.lens s.lens w w' d := fun d => .inl ⟨rfl, rfl, fun _ g hg => hbel.block g (h.blt d g hg)⟩
  have hnew : ∀ d b i, γ.blk d = some b → pr' b i → γ.pr b i := fun d b i hg hp => by
    rcases h2 b i hp with hp | hp
    · exact hp
    · have := h.blt d b hg; omega
  refine h.frame (γ' := { γ with pr := pr' }) s.lens rfl (fun b i u hp hc => ⟨h1 b i hp, ?_⟩) (fun d _ _ _ _ => hk d) (fun d _ _ _ _ _ => hk d) ?_ ?_ h.inj
    (fun d b hd => Nat.lt_of_lt_of_le (h.blt d b hd) hbel.size) (fun b i hp => ?_) (hbel.mono h.base) rfl (fun k o hk => ⟨(hbel.block k (Array.getElem?_eq_some_iff.1 (h.frm k o hk).1).1).trans (h.frm k o hk).1, (h.frm k o hk).2⟩)
  · rw [hbel.cell (h.plt b i hp)]; exact hc
  · intro d ty xs b hx hd
    obtain ⟨k1, b', cs, k2, k3, k4, k5, k6, k7⟩ := h.obj d ty xs hx
    have : b' = b := by rw [hd] at k2; exact (Option.some.inj k2).symm
    subst this
    exact ⟨k1, hd, hbel.block b' (h.blt d b' hd), fun i hp => k7 i (hnew d b' i hd hp)⟩
  · intro d len g hl hd
    have := h.len d len g hl hd
    exact ⟨this.1, fun i hp => this.2 i (hnew d g i hd hp)⟩
  · rcases h2 b i hp with hp | hp
    · exact Nat.lt_of_lt_of_le (h.plt b i hp) hbel.size
    · exact hp.2
theorem Rel.drew (h : Rel γ w0 s a w) (hh : w'.heap = w.heap) (h1 : w'.os = w.os) (h2 : w'.tape = w.tape) (h3 : w'.output = w.output) : Rel γ w0 s a w' :=
  h.grow_world (γ := γ) γ.pr ⟨h1, h2, h3, by rw [hh]; exact Nat.le_refl _, fun k _ => by rw [hh]⟩ (fun _ _ hp => hp) (fun _ _ hp => .inl hp)
/-- a new name for a block (or for none) -/
theorem Rel.name (h : Rel γ w0 s a w) {d : Nat} (hd : Absent s d) (g : Option Nat) (hg : ∀ b, g = some b → b < w.heap.size ∧ ∀ d', γ.blk d' ≠ some b) (hfr : ∀ b, g = some b → γ.fr b = none) :
    Rel { γ with blk := fun d' => if d' = d then g else γ.blk d' } w0 s a w := by
  have hk : ∀ d', d' ≠ d → Kept γ { γ with blk := fun d' => if d' = d then g else γ.blk d' } s.lens s.lens w w d' := fun d' hne => .inl ⟨by simp [hne], rfl, fun _ _ _ => rfl⟩
  refine h.frame (γ' := { γ with blk := fun d' => if d' = d then g else γ.blk d' }) s.lens rfl (fun b i u hp hc => ⟨hp, hc⟩) ?_ ?_ ?_ ?_ ?_ ?_ h.plt (Below.refl _ _) rfl (fun k o hk => ⟨(h.frm k o hk).1, fun d' hd' => by
    simp only at hd'
    split at hd'
    · rw [hfr k hd'] at hk; cases hk
    · exact (h.frm k o hk).2 d' hd'⟩)
  · intro d' t x hx hm
    refine hk d' fun e => ?_
    subst e; rw [hd.slot t x hx] at hm; cases hm
  · intro d' d'' ty xs hx hm
    refine hk d' fun e => ?_
    subst e
    obtain ⟨x, hx', hm⟩ := List.any_eq_true.1 hm
    have := (hd.obj d'' ty xs hx).2 x hx'
    rw [ment1_ment hm] at this; cases this
  · intro d' ty xs b hx hb
    have hne := (hd.obj d' ty xs hx).1
    obtain ⟨k1, b', cs, k2, k3, k4, k5, k6, k7⟩ := h.obj d' ty xs hx
    have : b' = b := by rw [hb] at k2; exact (Option.some.inj k2).symm
    subst this
    exact ⟨k1, by simp [hne, hb], rfl, k7⟩
  · intro d' len g' hl hb
    have hne : d' ≠ d := fun e => by subst e; rw [hd.len] at hl; cases hl
    simp only [hne, if_false] at hb
    exact h.len d' len g' hl hb
  · intro d1 d2 b h1 h2
    simp only at h1 h2
    by_cases e1 : d1 = d <;> by_cases e2 : d2 = d
    · rw [e1, e2]
    · simp only [e1, if_true, e2, if_false] at h1 h2; exact absurd h2 ((hg b h1).2 d2)
    · simp only [e1, if_false, e2, if_true] at h1 h2; exact absurd h1 ((hg b h2).2 d1)
    · simp only [e1, e2, if_false] at h1 h2; exact h.inj d1 d2 b h1 h2
  · intro d' b hb
    simp only at hb
    by_cases e1 : d' = d
    · simp only [e1, if_true] at hb; exact (hg b hb).1
    · simp only [e1, if_false] at hb; exact h.blt d' b hb
/-- a length for a name that has none -/
theorem Rel.setLen (h : Rel γ w0 s a w) {d len : Nat} (hd : Absent s d) (hg : ∀ g, γ.blk d = some g → γ.base ≤ g ∧ ∀ i, γ.pr g i → i < len) : Rel γ w0 { s with lens := (d, len) :: s.lens } a w := by
  have hk : ∀ d', d' ≠ d → Kept γ γ s.lens ((d, len) :: s.lens) w w d' := fun d' hne => .inl ⟨rfl, by rw [look_cons, if_neg (Ne.symm hne)], fun _ _ _ => rfl⟩
  refine h.frame (γ' := γ) ((d, len) :: s.lens) rfl (fun b i u hp hc => ⟨hp, hc⟩) ?_ ?_ ?_ ?_ h.inj h.blt h.plt (Below.refl _ _) rfl h.frm
  · intro d' t x hx hm
    refine hk d' fun e => ?_
    subst e; rw [hd.slot t x hx] at hm; cases hm
  · intro d' d'' ty xs hx hm
    refine hk d' fun e => ?_
    subst e
    obtain ⟨x, hx', hm⟩ := List.any_eq_true.1 hm
    have := (hd.obj d'' ty xs hx).2 x hx'
    rw [ment1_ment hm] at this; cases this
  · intro d' ty xs b hx hb
    have hne := (hd.obj d' ty xs hx).1
    obtain ⟨k1, b', cs, k2, k3, k4, k5, k6, k7⟩ := h.obj d' ty xs hx
    have : b' = b := by rw [hb] at k2; exact (Option.some.inj k2).symm
    subst this
    exact ⟨by rw [look_cons, if_neg (Ne.symm hne)]; exact k1, hb, rfl, k7⟩
  · intro d' len' g hl hb
    rw [look_cons] at hl
    split at hl
    · rename_i e; subst e; cases hl; exact hg g hb
    · exact h.len d' len' g hl hb
theorem Rel.put {dst : Option Nat} {x : AV} {c : Value} (h : Rel γ w0 s a w) (hs : s.put dst x = some s') (hx : AVR γ s.lens w c x) : Rel γ w0 s' (a.put dst c) w := by
  cases dst with
  | none => simp only [St.put, Option.some.injEq] at hs; subst hs; exact h
  | some d =>
    simp only [St.put] at hs
    split at hs
    · rename_i hlt
      have hlt : d < s.n := by simpa [Nat.blt_eq] using hlt
      simp only [Option.some.injEq] at hs
      subst hs
      have hd : d < a.tmps.size := by rw [h.size]; exact hlt
      refine { h with size := by simp [Act.put, h.size], defers := h.defers, slot := fun t y hy => ?_ }
      simp only [look_cons] at hy
      by_cases e : d = t
      · subst e
        rw [if_pos rfl] at hy; cases hy
        have : (a.put (some d) c).tmps.getD d undef = c := by simp [Act.put, Array.getD, hd]
        rw [this]; exact hx
      · rw [if_neg e] at hy
        have : (a.put (some d) c).tmps.getD t undef = a.tmps.getD t undef := by simp [Act.put, Array.getElem?_setIfInBounds_ne e]
        rw [this]; exact h.slot t y hy
    · cases hs
theorem Rel.eval (h : Rel γ w0 s a w) (x : Operand) : AVR γ s.lens w (a.eval x) (s.eval x) := by
  cases x with
  | tmp t =>
    simp only [Act.eval, St.eval]
    cases hx : look s.slots t with
    | none => exact trivial
    | some x => exact h.slot t x hx
  | const v => exact rfl
  | global g => exact trivial
  | func f => exact rfl
end
end Go.Proofs.Ytlekojbcaelpiaa

/- Operations that only yield a value: what the interpreter says is what the machine does. -/
namespace Go.Proofs.Ytlekojbcaelpiaa
open Go.RowKit

section
variable {P : Program}
theorem run_isAgg' {t : TypeId} {r : Bool} (h : isAggT P t = some r) (w : World) : (isAgg t).run P w = .ok r w := by
  unfold isAggT at h
  cases hu : P.underlying t with
  | none => simp [hu] at h
  | some d => cases d <;> simp [hu] at h <;> subst h <;> simp [isAgg, run_underlying hu]
theorem run_size' {t : TypeId} {n : Nat} (h : szT P t = some n) (w : World) : (sizeOf t).run P w = .ok n w := by
  unfold szT at h
  cases hi : P.info? t with
  | none => simp [hi] at h
  | some i => simp [hi] at h; subst h; simp [sizeOf, typeInfo, hi]
theorem takeN_spec : ∀ {n : Nat} {xs ys : List AV}, takeN n xs = some ys → ys = xs.take n ∧ ys.length = n
  | 0, xs, ys, h => by simp [takeN] at h; subst h; simp
  | n + 1, [], ys, h => by simp [takeN] at h
  | n + 1, x :: xs, ys, h => by
    simp only [takeN, Option.map_eq_some_iff] at h
    obtain ⟨zs, h, rfl⟩ := h
    obtain ⟨h1, h2⟩ := takeN_spec h
    exact ⟨by rw [h1]; rfl, by simp [h2]⟩
theorem VC.vals {pr : Nat → Nat → Prop} {w : World} {b : Nat} : ∀ {xs : List AV} {o : Nat}, VC pr w b o xs → ∃ cs, VL pr w cs xs ∧ (∀ u ∈ cs, u.oneCell' = true) ∧ ∀ j v, cs[j]? = some v → w.cell? ⟨b, o + j, none⟩ = some v
  | [], _, _ => ⟨[], rfl, by simp, by simp⟩
  | x :: xs, o, h => by
    simp only [VC] at h
    obtain ⟨⟨u, h1, h2, h3, h4⟩, h5⟩ := h
    obtain ⟨cs, k1, k2, k3⟩ := VC.vals h5
    refine ⟨u :: cs, ⟨u, cs, rfl, h4, k1⟩, ?_, fun j v hj => ?_⟩
    · intro u' hu
      rcases List.mem_cons.1 hu with rfl | hu
      · exact h3
      · exact k2 _ hu
    · cases j with
      | zero => simp at hj; subst hj; exact h1
      | succ j =>
        have := k3 j v (by simpa using hj)
        rw [show o + (j + 1) = o + 1 + j by omega]; exact this
theorem run_load_agg {t : TypeId} {n b o : Nat} {cs : List Value} {w : World} (h1 : isAggT P t = some true) (h2 : szT P t = some n) (hl : cs.length = n)
    (hc : ∀ j v, cs[j]? = some v → w.cell? ⟨b, o + j, none⟩ = some v) : (loadVar t ⟨b, o, none⟩).run P w = .ok (.agg cs.toArray) w := by
  subst hl
  have := run_loadCells_list (P := P) w ⟨b, o, none⟩ cs (fun j v hj => by rw [Addr.add_lit]; exact hc j v hj)
  simp [loadVar, run_isAgg' h1, run_size' h2, this]
theorem run_load_one {t : TypeId} {b o : Nat} {v : Value} {w : World} (h1 : isAggT P t = some false) (hc : w.cell? ⟨b, o, none⟩ = some v) : (loadVar t ⟨b, o, none⟩).run P w = .ok v w := by
  simp [loadVar, run_isAgg' h1, load, Sem.run, hc]
theorem v_run {m : Sem Value} {c : Value} {w w' : World} (h : m.run P w = .ok c w') : (do pure (Next.value (← m)) : Sem Next).run P w = .ok (.value c) w' := by
  simp [h]
end

theorem VL.set {pr : Nat → Nat → Prop} {w : World} {u : Value} {y : AV} (hu : V pr w u y) : ∀ {xs : List AV} {cs : List Value} {i : Nat}, VL pr w cs xs → VL pr w (cs.set i u) (xs.set i y)
  | [], _, _, h => by simp only [VL] at h; subst h; simp [VL]
  | x :: xs, _, 0, ⟨c, cs, e, h1, h2⟩ => by subst e; exact ⟨u, cs, rfl, hu, h2⟩
  | x :: xs, _, i + 1, ⟨c, cs, e, h1, h2⟩ => by subst e; exact ⟨c, _, rfl, h1, VL.set hu h2⟩
def setAtV (cs : List Value) (off : Nat) : List Value → List Value
  | [] => cs
  | u :: us => setAtV (cs.set off u) (off + 1) us
theorem VL.setAt {pr : Nat → Nat → Prop} {w : World} : ∀ {ys : List AV} {us : List Value} {xs : List AV} {cs : List Value} {off : Nat}, VL pr w us ys → VL pr w cs xs → VL pr w (setAtV cs off us) (setAt xs off ys)
  | [], _, _, _, _, h, h' => by simp only [VL] at h; subst h; exact h'
  | y :: ys, _, _, _, _, ⟨c, cs, e, h1, h2⟩, h' => by subst e; simp only [setAtV, Ytlekojbcaelpiaa.setAt]; exact VL.setAt h2 (VL.set h1 h')
theorem setAtV_length : ∀ (us cs : List Value) (off : Nat), (setAtV cs off us).length = cs.length
  | [], _, _ => rfl
  | u :: us, cs, off => by simp [setAtV, setAtV_length us]
theorem setAt_length : ∀ (us cs : List AV) (off : Nat), (setAt cs off us).length = cs.length
  | [], _, _ => rfl
  | u :: us, cs, off => by simp [setAt, setAt_length us]
theorem mem_setAtV {u : Value} : ∀ (us cs : List Value) (off : Nat), u ∈ setAtV cs off us → u ∈ cs ∨ u ∈ us
  | [], _, _, h => .inl h
  | v :: us, cs, off, h => by
    rcases mem_setAtV us _ _ h with h | h
    · rcases List.mem_or_eq_of_mem_set h with h | h
      · exact .inl h
      · exact .inr (by simp [h])
    · exact .inr (List.mem_cons_of_mem _ h)
theorem fold_setAtV (off : Nat) : ∀ (us : List Value) (k : Nat) (cs : Array Value), ((us.zipIdx k).foldl (fun cs (c, j) => cs.setIfInBounds (off + j) c) cs).toList = setAtV cs.toList (off + k) us
  | [], k, cs => rfl
  | u :: us, k, cs => by
    simp only [List.zipIdx_cons, List.foldl_cons, setAtV]
    rw [fold_setAtV off us (k + 1)]
    simp [Nat.add_assoc]
theorem cells_sound {pr : Nat → Nat → Prop} {w : World} {c : Value} : ∀ {x : AV} {ys : List AV}, cells? x = some ys → V pr w c x → ∃ ds : List Value, c.cells = ds.toArray ∧ VL pr w ds ys ∧ ∀ d ∈ ds, d.oneCell' = true
  | .sc v, ys, h, hv => by
    simp only [cells?] at h
    split at h
    · rename_i hall
      simp only [Option.some.injEq] at h; subst h
      simp only [V] at hv; subst hv
      exact ⟨c.cells.toList, by simp, VL_sc.2 rfl, fun d hd => List.all_eq_true.1 hall d hd⟩
    · cases h
  | .agg xs, ys, h, hv => by
    simp only [cells?, Option.some.injEq] at h; subst h
    obtain ⟨cs, e, h1, h2⟩ := hv
    subst e
    exact ⟨cs, rfl, VL_plain1 h2, h1⟩
  | .undef, ys, h, _ => by simp [cells?] at h
  | .tup _, ys, h, _ => by simp [cells?] at h
  | .ptr _ _, ys, h, hv => by simp only [V] at hv
  | .row t s n xs, ys, h, hv => by
    simp only [cells?, Option.some.injEq] at h; subst h
    obtain ⟨A, cap, e, h'⟩ := id hv
    subst e
    exact ⟨[_], rfl, ⟨_, _, rfl, hv, rfl⟩, by simp [Value.oneCell']⟩
  | .mt, ys, h, hv => by
    simp only [cells?, Option.some.injEq] at h; subst h
    obtain ⟨A, e⟩ := id hv
    subst e
    exact ⟨[_], rfl, ⟨_, _, rfl, hv, rfl⟩, by simp [Value.oneCell']⟩
  | .rptr xs, ys, h, hv => by
    simp only [cells?, Option.some.injEq] at h; subst h
    obtain ⟨b, o, e, h'⟩ := id hv
    subst e
    exact ⟨[_], rfl, ⟨_, _, rfl, hv, rfl⟩, by simp [Value.oneCell']⟩
/-- the parts of a literal -/
def VP (pr : Nat → Nat → Prop) (w : World) : List (Nat × Value) → List (Nat × AV) → Prop
  | [], [] => True
  | (i, c) :: cs, (j, x) :: xs => i = j ∧ V pr w c x ∧ VP pr w cs xs
  | _, _ => False
theorem fill_sound {pr : Nat → Nat → Prop} {w : World} {place : Nat → Option (Nat × Nat)} : ∀ {ps : List (Nat × AV)} {vs : List (Nat × Value)} {xs ys : List AV} {cs : Array Value}, fillA place xs ps = some ys → VP pr w vs ps → VL pr w cs.toList xs → (∀ u ∈ cs.toList, u.oneCell' = true) →
    ∃ ds : Array Value, Instr.fill place cs vs = some ds ∧ VL pr w ds.toList ys ∧ (∀ u ∈ ds.toList, u.oneCell' = true) ∧ ds.size = cs.size
  | [], [], xs, ys, cs, h, _, hl, h1 => by simp [fillA] at h; subst h; exact ⟨cs, rfl, hl, h1, rfl⟩
  | [], _ :: _, _, _, _, _, hv, _, _ => by simp [VP] at hv
  | _ :: _, [], _, _, _, _, hv, _, _ => by simp [VP] at hv
  | (i, x) :: ps, (j, c) :: vs, xs, ys, cs, h, hv, hl, h1 => by
    obtain ⟨rfl, hv1, hv2⟩ := hv
    simp only [fillA] at h
    split at h
    · rename_i off size zs hp hc
      split at h
      · rename_i hcond
        obtain ⟨ds, e1, e2, e3⟩ := cells_sound hc hv1
        have hlen := VL.length hl
        have hlen2 := VL.length e2
        simp only [Instr.fill, hp, e1]
        have hs : ¬ ((decide (ds.toArray.size ≠ size) || decide (off + ds.toArray.size > cs.size)) = true) := by
          simp only [List.size_toArray, ne_eq, gt_iff_lt, Bool.or_eq_true, decide_eq_true_eq, not_or, Decidable.not_not, Nat.not_lt]
          rw [Array.length_toList] at hlen
          exact ⟨by omega, by omega⟩
        rw [if_neg hs]
        have hf : (ds.toArray.zipIdx.foldl (fun cs (c, j) => cs.setIfInBounds (off + j) c) cs).toList = setAtV cs.toList off ds := by
          have := fold_setAtV off ds 0 cs
          rw [← Array.foldl_toList]
          simpa using this
        have := fill_sound (place := place) (vs := vs) (cs := ds.toArray.zipIdx.foldl (fun cs (c, j) => cs.setIfInBounds (off + j) c) cs) h hv2 (by rw [hf]; exact VL.setAt e2 hl) (by
          rw [hf]; intro u hu
          rcases mem_setAtV _ _ _ hu with hu | hu
          · exact h1 u hu
          · exact e3 u hu)
        obtain ⟨es, g1, g2, g3, g4⟩ := this
        refine ⟨es, g1, g2, g3, g4.trans ?_⟩
        rw [← Array.length_toList, hf, setAtV_length, Array.length_toList]
      · cases h
    · cases h

section
variable {P : Program} {γ : Gh} {L : List (Nat × Nat)} {w : World} {a : Act} {ev : Operand → AV} (E : ∀ x, AVR γ L w (a.eval x) (ev x))
include E
theorem ev_sc {x : Operand} {v : Value} (h : ev x = .sc v) : a.eval x = v := by have := E x; rw [h] at this; exact this
theorem ev_V {x : Operand} : V γ.pr w (a.eval x) (plain (ev x)) := (E x).plain
theorem vp_parts : ∀ (ps : List (Nat × Operand)), VP γ.pr w (ps.map fun (i, x) => (i, a.eval x)) (ps.map fun p => (p.1, plain (ev p.2)))
  | [] => trivial
  | (i, x) :: ps => ⟨rfl, ev_V E, vp_parts ps⟩
theorem vl_args : ∀ (xs : List Operand), VL γ.pr w (xs.map a.eval) ((xs.map ev).map plain)
  | [] => rfl
  | x :: xs => ⟨_, _, rfl, ev_V E, vl_args xs⟩
theorem scs_args : ∀ (xs : List Operand) {vs : List Value}, scs (xs.map ev) = some vs → xs.map a.eval = vs
  | [], vs, h => by simp [scs, allVals] at h; subst h; rfl
  | x :: xs, vs, h => by
    cases hx : ev x <;> simp only [scs, List.map_cons, hx, allVals, Option.map_eq_some_iff, reduceCtorEq] at h
    obtain ⟨us, h, rfl⟩ := h
    simp only [List.map_cons, ev_sc E hx]
    rw [scs_args xs h]
theorem run_bound {x : Operand} {d l y : Nat} {code : BoundsCode} (h : boundOf (some (ev x)) d = some l) (hy : l ≤ y) : (Instr.sliceBound (a.eval x) y code).run P w = .ok l w := by
  cases hx : ev x <;> simp only [hx, boundOf, reduceCtorEq] at h
  rename_i v
  have he := ev_sc E hx
  cases v <;> simp only [boundOf, reduceCtorEq] at h
  rename_i k i
  split at h
  · rename_i h0
    cases h
    have : i ≤ (y : Int) := by omega
    simp [Instr.sliceBound, he, asIntOf, h0, this]
  · cases h
end

theorem zero_sound {P : Program} {t : TypeId} {z : List AV} (h : zeroT P t = some z) : ∃ i v, P.info? t = some i ∧ i.zero = some v ∧ cells? (.sc v) = some z := by
  unfold zeroT at h
  cases hi : P.info? t with
  | none => simp [hi] at h
  | some i =>
    cases hz : i.zero with
    | none => simp [hi, hz] at h
    | some v => simp [hi, hz] at h; exact ⟨i, v, rfl, hz, h⟩
theorem places_sound {P : Program} : ∀ {fs : List Field}, knownT P fs = true → fs.mapM (fun f => (P.info? f.type).map fun i => (f.offset, i.size)) = some (placesT P fs)
  | [], _ => rfl
  | f :: fs, h => by
    simp only [knownT, List.all_cons, Bool.and_eq_true] at h
    have ih := places_sound (P := P) (fs := fs) h.2
    cases hi : P.info? f.type with
    | none => have := h.1; simp [szT, hi] at this
    | some i =>
      simp only [List.mapM_cons, hi, Option.map_some, ih, placesT, List.map_cons, szT, Option.getD_some]
      rfl
theorem elem_sound {P : Program} {t e : TypeId} (h : elemT P t = some e) : P.underlying t = some (.slice e) := by
  unfold elemT at h
  split at h
  · rename_i e' hu; cases h; exact hu
  · cases h
theorem field_sound {P : Program} {t : TypeId} {k : Nat} {f : Field} (h : fieldT P t k = some f) : ∃ fs, P.underlying t = some (.struct fs) ∧ fs[k]? = some f := by
  unfold fieldT at h
  split at h
  · rename_i fs hu; exact ⟨fs, hu, h⟩
  · cases h
end Go.Proofs.Ytlekojbcaelpiaa

/- Operations that only yield a value: the law. -/
namespace Go.Proofs.Ytlekojbcaelpiaa
open Go.RowKit

section
variable {P : Program} {γ : Gh} {L : List (Nat × Nat)} {w : World} {a : Act} {ev : Operand → AV} (E : ∀ x, AVR γ L w (a.eval x) (ev x))
include E

theorem vs_load {t : TypeId} {x : Operand} {v : AV} (h : cmdLoad P t (ev x) = some (.val v)) : ∃ c, (Instr.loadAt t (a.eval x)).run P w = .ok c w ∧ AVR γ L w c v := by
  unfold cmdLoad at h
  split at h
  · simp at h
  · simp at h
  · rename_i n xs hagg hsz hx
    simp only [Option.map_eq_some_iff, Cmd.val.injEq] at h
    obtain ⟨ys, ht, rfl⟩ := h
    have hE := E x
    rw [hx] at hE
    obtain ⟨b, o, e, hc⟩ := hE
    obtain ⟨rfl, hl⟩ := takeN_spec ht
    obtain ⟨cs, k1, k2, k3⟩ := (hc.take n).vals
    refine ⟨_, ?_, AVR.of_AVR1 (by unfold mkAgg; split <;> simp) (by
      have := V_mkAgg k2 k1
      unfold mkAgg at this ⊢
      split at this <;> exact this)⟩
    · have := run_load_agg (P := P) hagg hsz (by rw [k1.length, hl]) k3
      simp [Instr.loadAt, e, Instr.sureAddr, this]
  · rename_i y xs hagg hx
    simp only [Option.some.injEq, Cmd.val.injEq] at h
    subst h
    have hE := E x
    rw [hx] at hE
    obtain ⟨b, o, e, hc⟩ := hE
    simp only [VC] at hc
    obtain ⟨⟨u, h1, h2, h3, h4⟩, _⟩ := hc
    refine ⟨u, ?_, AVR.of_V h4⟩
    have := run_load_one (P := P) hagg h1
    simp [Instr.loadAt, e, Instr.sureAddr, this]
  · cases h

theorem vs_fieldAddr {t : TypeId} {x : Operand} {k : Nat} {v : AV} (h : cmdFieldAddr P t (ev x) k = some (.val v)) : ∃ c, (Instr.fieldAt t (a.eval x) k).run P w = .ok c w ∧ AVR γ L w c v := by
  unfold cmdFieldAddr at h
  split at h
  · rename_i f hf
    obtain ⟨fs, hu, hk⟩ := field_sound hf
    have hnz : ∀ n, szT P f.type = some n → (decide (0 < n)) = true → (do if (← sizeOf f.type) = 0 then pure false else pure true : Sem Bool).run P w = .ok true w := by
      intro n hn h0; simp only [Sem.run_bind, run_size' hn, Result.andThen_ok]; rw [if_neg (by simpa using Nat.ne_of_gt (by simpa using h0))]; rfl
    split at h
    · rename_i d off hz hx
      simp only [Option.some.injEq, Cmd.val.injEq] at h; subst h
      have hE := E x
      rw [hx] at hE
      obtain ⟨⟨b, e, hb⟩, hl⟩ := hE
      cases hs : szT P f.type with
      | none => simp [hs] at hz
      | some n =>
        have h0 : n ≠ 0 := by simp [hs] at hz; omega
        refine ⟨.pointer (some ⟨b, off + f.offset, none⟩), ?_, ⟨b, rfl, hb⟩, hl⟩
        simp [Instr.fieldAt, run_underlying hu, hk, e, Instr.sureAddr, fieldPlace, run_size' hs, h0, Addr.add_lit]
    · rename_i xs hz hx
      simp only [Option.some.injEq, Cmd.val.injEq] at h; subst h
      have hE := E x
      rw [hx] at hE
      obtain ⟨b, o, e, hc⟩ := hE
      cases hs : szT P f.type with
      | none => simp [hs] at hz
      | some n =>
        have h0 : n ≠ 0 := by simp [hs] at hz; omega
        refine ⟨.pointer (some ⟨b, o + f.offset, none⟩), ?_, b, _, rfl, hc.drop _⟩
        simp [Instr.fieldAt, run_underlying hu, hk, e, Instr.sureAddr, fieldPlace, run_size' hs, h0, Addr.add_lit]
    · cases h
  · cases h

theorem vs_field {t : TypeId} {x : Operand} {k : Nat} {v : AV} (h : cmdField P t (ev x) k = some (.val v)) : ∃ c, (Instr.field t (a.eval x) k).run P w = .ok c w ∧ AVR γ L w c v := by
  unfold cmdField at h
  split at h
  · rename_i u _ hx
    simp only [Option.map_eq_some_iff, Cmd.val.injEq] at h
    obtain ⟨r, hp, rfl⟩ := h
    exact ⟨r, by rw [ev_sc E hx]; exact peek_run hp w, rfl⟩
  · rename_i xs f hx hf
    obtain ⟨fs, hu, hk⟩ := field_sound hf
    have hE := E x
    rw [hx] at hE
    obtain ⟨cs, e, h1, hc⟩ := hE
    have hd : ∀ k, VL γ.pr w (cs.drop k) (xs.drop k) := fun k => VL.of_at (by simp [hc.length]) fun i y c hy hc' => by
      rw [List.getElem?_drop] at hy hc'
      obtain ⟨c', h1, h2⟩ := hc.at_ hy
      rw [h1] at hc'; cases hc'; exact h2
    split at h
    · rename_i n hagg hsz
      simp only [Option.map_eq_some_iff, Cmd.val.injEq] at h
      obtain ⟨ys, ht, rfl⟩ := h
      obtain ⟨rfl, hl⟩ := takeN_spec ht
      have hq := hd f.offset
      have hq2 : VL γ.pr w ((cs.drop f.offset).take n) ((xs.drop f.offset).take n) := VL.of_at (by simp [hc.length]) fun i y c hy hc' => by
        rw [List.getElem?_take] at hy hc'
        split at hy
        · rename_i hlt
          rw [if_pos hlt] at hc'
          obtain ⟨c', h1, h2⟩ := hq.at_ hy
          rw [h1] at hc'; cases hc'; exact h2
        · cases hy
      have h1' : ∀ u ∈ (cs.drop f.offset).take n, u.oneCell' = true := fun u hu => h1 u (List.mem_of_mem_drop (List.mem_of_mem_take hu))
      refine ⟨.agg ((cs.drop f.offset).take n).toArray, ?_, AVR.of_AVR1 (by unfold mkAgg; split <;> simp) (by
        have := V_mkAgg h1' hq2
        unfold mkAgg at this ⊢
        split at this <;> exact this)⟩
      simp [Instr.field, run_underlying hu, hk, e, asAgg, part, run_isAgg' hagg, run_size' hsz, List.drop_take]
    · rename_i y ys hagg hdr
      simp only [Option.some.injEq, Cmd.val.injEq] at h; subst h
      have hy : xs[f.offset]? = some y := by
        have : (xs.drop f.offset)[0]? = some y := by rw [hdr]; rfl
        simpa [List.getElem?_drop] using this
      obtain ⟨c, k1, k2⟩ := hc.at_ hy
      refine ⟨c, ?_, AVR.of_V k2⟩
      simp [Instr.field, run_underlying hu, hk, e, asAgg, part, run_isAgg' hagg, k1]
    · cases h
  · cases h

theorem vs_indexAddr {t : TypeId} {x i : Operand} {v : AV} (h : cmdIndexAddr P t (ev x) (ev i) = some (.val v)) : ∃ c, (Instr.indexAt t (a.eval x) (a.eval i)).run P w = .ok c w ∧ AVR γ L w c v := by
  unfold cmdIndexAddr at h
  split at h
  · rename_i tok size n xs k i' size' hx hi hs
    split at h
    · rename_i hc
      obtain ⟨rfl, h0, hn⟩ := hc
      simp only [Option.some.injEq, Cmd.val.injEq] at h; subst h
      simp only [Option.bind_eq_some_iff] at hs
      obtain ⟨e, he, hs⟩ := hs
      have hu := elem_sound he
      have hV : V γ.pr w (a.eval x) (.row tok size' n xs) := by
        have := E x; rw [hx] at this
        cases tok with
        | none => exact this
        | some p => exact this.1
      obtain ⟨A, cap, ex, hcap, _, hlen, hrow⟩ := hV
      obtain ⟨b, o, rfl, hcell⟩ := hrow (by omega)
      refine ⟨.pointer (some ⟨b, o + i'.toNat * size', none⟩), ?_, b, _, rfl, hcell.drop _⟩
      simp [Instr.indexAt, ev_sc E hi, asIntOf, run_underlying hu, ex, h0, hn, run_size' hs, Addr.add_lit]
    · cases h
  · rename_i d off k i' hx hi
    split at h
    · rename_i len size ha
      split at h
      · rename_i hc
        obtain ⟨h0, hn⟩ := hc
        simp only [Option.some.injEq, Cmd.val.injEq] at h; subst h
        unfold arrT at ha
        split at ha
        · rename_i len' e hu
          simp only [Option.map_eq_some_iff, Prod.mk.injEq] at ha
          obtain ⟨size', hs, rfl, rfl⟩ := ha
          have hE := E x
          rw [hx] at hE
          obtain ⟨⟨b, ex, hb⟩, hl⟩ := hE
          refine ⟨.pointer (some ⟨b, off + i'.toNat * size', none⟩), ?_, ⟨b, rfl, hb⟩, hl⟩
          simp [Instr.indexAt, ev_sc E hi, asIntOf, run_underlying hu, ex, Instr.sureAddr, h0, hn, run_size' hs, Addr.add_lit]
        · cases ha
      · cases h
    · cases h
  · cases h

omit E in
theorem rowOf_V {pr : Nat → Nat → Prop} {c : Value} {size n : Nat} {xs : List AV} : ∀ {x : AV}, rowOf size x = some (n, xs) → V pr w c (plain x) → V pr w c (.row none size n xs)
  | .row t size' n xs, h, hv => by
    simp only [rowOf] at h
    split at h
    · rename_i e; subst e
      simp only [Option.some.injEq, Prod.mk.injEq] at h
      obtain ⟨rfl, rfl⟩ := h
      exact hv
    · cases h
  | .mt, h, hv => by
    simp only [rowOf, Option.some.injEq, Prod.mk.injEq] at h
    obtain ⟨rfl, rfl⟩ := h
    obtain ⟨A, e⟩ := hv
    exact ⟨A, 0, e, Nat.le_refl _, by simp [maxLen], by simp, fun h => absurd h (by omega)⟩
  | .sc v, h, hv => by
    have hv : c = v := hv
    subst hv
    unfold rowOf at h
    split at h
    · rename_i hh; cases hh
    · rename_i hh; cases hh
    · rename_i hh
      injection hh with hh
      subst hh
      simp only [Option.some.injEq, Prod.mk.injEq] at h
      obtain ⟨rfl, rfl⟩ := h
      exact ⟨none, 0, rfl, Nat.le_refl _, by simp [maxLen], by simp, fun h => absurd h (by omega)⟩
    · cases h
  | .undef, h, _ => by simp [rowOf] at h
  | .agg _, h, _ => by simp [rowOf] at h
  | .tup _, h, _ => by simp [rowOf] at h
  | .ptr _ _, h, _ => by simp [rowOf] at h
  | .rptr _, h, _ => by simp [rowOf] at h

theorem vs_slice {t : TypeId} {x : Operand} {lo hi mx : Option Operand} {v : AV} (h : cmdSlice P t (ev x) (lo.map ev) (hi.map ev) (mx.map ev) = some (.val v)) :
    ∃ c, (Instr.sliceAt t (a.eval x) (lo.map a.eval) (hi.map a.eval) (mx.map a.eval)).run P w = .ok c w ∧ AVR γ L w c v := by
  unfold cmdSlice at h
  split at h
  case h_2 => cases h
  rename_i size he
  split at h
  case h_2 => cases h
  rename_i n xs hx
  have hV : V γ.pr w (a.eval x) (.row none size n xs) := rowOf_V hx (ev_V E)
  obtain ⟨A, cap, ex, hcap, hcap2, hlen, hrow⟩ := hV
  have key : ∀ (l h m : Nat), l ≤ h → h ≤ n → h ≤ m → m ≤ cap → V γ.pr w (.slice (if m = l then A else A.map (·.add (l * size))) (h - l) (m - l)) (.row none size (h - l) ((xs.drop (l * size)).take ((h - l) * size))) := by
    intro l h m h1 h2 h3 h4
    refine ⟨_, _, rfl, by omega, by omega, ?_, fun hpos => ?_⟩
    · rw [List.length_take, List.length_drop, hlen, ← Nat.sub_mul]
      exact Nat.min_eq_left (Nat.mul_le_mul_right _ (by omega))
    · obtain ⟨b, o, rfl, hc⟩ := hrow (by omega)
      rw [if_neg (by omega)]
      exact ⟨b, _, by simp only [Option.map_some, Addr.add_lit], (hc.drop _).take _⟩
  simp only [Option.bind_eq_some_iff] at he
  obtain ⟨e, he, hs⟩ := he
  have hu := elem_sound he
  split at h
  · rename_i l hh hlo hhi hmx
    split at h
    · rename_i hcond
      obtain ⟨c1, c2⟩ := hcond
      simp only [Option.some.injEq, Cmd.val.injEq] at h; subst h
      have hm : mx = none := by cases mx with | none => rfl | some _ => simp at hmx
      subst hm
      refine ⟨_, ?_, AVR.of_AVR1 (by simp) (key l hh cap c1 c2 (by omega) (Nat.le_refl _))⟩
      cases hi with
      | none =>
        simp [boundOf] at hhi; subst hhi
        simp only [Instr.sliceAt, Sem.run_bind, run_underlying hu, Result.andThen_ok, Instr.slice, ex, Option.map_none, Instr.sliceBounds, Sem.run_pure, Option.isSome_none, Bool.false_eq_true, if_false]
        rcases lo with _ | ql
        · simp [boundOf] at hlo; subst hlo; simp [run_size' hs]
        · have hl' := run_bound (P := P) (y := n) (code := .sliceB) E hlo c1
          simp [hl', run_size' hs]
      | some q =>
        have hb := run_bound (P := P) (y := cap) (code := .sliceAcap) E hhi (by omega)
        simp only [Instr.sliceAt, Sem.run_bind, run_underlying hu, Result.andThen_ok, Instr.slice, ex, Option.map_none, Option.map_some, Instr.sliceBounds, Sem.run_pure, Option.isSome_none, Bool.false_eq_true, if_false, if_true, hb]
        rcases lo with _ | ql
        · simp [boundOf] at hlo; subst hlo; simp [run_size' hs]
        · have hl' := run_bound (P := P) (y := hh) (code := .sliceB) E hlo c1
          simp [hl', run_size' hs]
    · cases h
  · rename_i l hh mv hlo hhi hmx
    split at h
    · rename_i m hm
      split at h
      · rename_i hcond
        obtain ⟨c1, c2, c3, c4⟩ := hcond
        simp only [Option.some.injEq, Cmd.val.injEq] at h; subst h
        cases mx with
        | none => simp at hmx
        | some q2 =>
          simp only [Option.map_some, Option.some.injEq] at hmx
          subst hmx
          cases hi with
          | none => simp at c4
          | some q =>
            have hb := run_bound (P := P) (y := m) (code := .slice3B) E hhi c2
            have hb2 := run_bound (P := P) (y := cap) (code := .slice3Acap) E hm (by omega)
            refine ⟨.slice (if m = l then A else A.map (·.add (l * size))) (hh - l) (m - l), ?_, ?_⟩
            · simp only [Instr.sliceAt, Sem.run_bind, run_underlying hu, Result.andThen_ok, Instr.slice, ex, Option.map_some, Instr.sliceBounds, Sem.run_pure, Option.isSome_some, if_true, hb, hb2]
              rcases lo with _ | ql
              · simp [boundOf] at hlo; subst hlo; simp [run_size' hs]
              · have hl' := run_bound (P := P) (y := hh) (code := .slice3C) E hlo c1
                simp [hl', run_size' hs]
            · by_cases hml : m = l
              · rw [if_pos hml, if_pos hml]
                exact ⟨A, by rw [show hh - l = 0 by omega, show m - l = 0 by omega]⟩
              · have := key l hh m c1 (by omega) c2 (by omega)
                rw [if_neg hml] at this ⊢
                rw [if_neg hml]
                exact this
      · cases h
    · cases h
  · cases h

theorem vs_len {t ty : TypeId} {x : Operand} {v : AV} (h : cmdLen P t ty (ev x) = some (.val v)) : ∃ c, (Builtin.len_ #[t] ty #[a.eval x]).run P w = .ok c w ∧ AVR γ L w c v := by
  unfold cmdLen at h
  split at h
  · rename_i u hx
    simp only [Option.map_eq_some_iff, Cmd.val.injEq] at h
    obtain ⟨r, hp, rfl⟩ := h
    exact ⟨r, by rw [ev_sc E hx]; exact peek_run hp w, rfl⟩
  · rename_i tok size n xs hx
    simp only [Option.map_eq_some_iff, Cmd.val.injEq] at h
    obtain ⟨e, he, rfl⟩ := h
    have hu := elem_sound he
    have hV : V γ.pr w (a.eval x) (.row tok size n xs) := by
      have := E x; rw [hx] at this
      cases tok with
      | none => exact this
      | some p => exact this.1
    obtain ⟨A, cap, ex, _⟩ := hV
    exact ⟨.int .i64 n, by simp [Builtin.len_, run_underlying hu, ex, goInt], rfl⟩
  · rename_i hx
    simp only [Option.map_eq_some_iff, Cmd.val.injEq] at h
    obtain ⟨e, he, rfl⟩ := h
    have hu := elem_sound he
    have hV := E x
    rw [hx] at hV
    obtain ⟨A, ex⟩ := hV
    exact ⟨.int .i64 0, by simp [Builtin.len_, run_underlying hu, ex, goInt], rfl⟩
  · cases h

theorem vs_build {t : TypeId} {ps : Array (Nat × Operand)} {v : AV} (h : cmdBuild P t (ps.toList.map fun p => (p.1, plain (ev p.2))) = some (.val v)) :
    ∃ c, (Instr.build t (ps.map fun (i, x) => (i, a.eval x))).run P w = .ok c w ∧ AVR γ L w c v := by
  unfold cmdBuild at h
  split at h
  · rename_i z fs hz hu
    split at h
    · rename_i hk
      simp only [Option.map_eq_some_iff, Cmd.val.injEq] at h
      obtain ⟨ys, hf, rfl⟩ := h
      obtain ⟨i, zv, hi, hzv, hzc⟩ := zero_sound hz
      obtain ⟨ds, e1, e2, e3⟩ := cells_sound (pr := γ.pr) (w := w) hzc (c := zv) rfl
      obtain ⟨es, k1, k2, k3, _⟩ := fill_sound (cs := zv.cells) hf (vp_parts E ps.toList) (by rw [e1]; exact e2) (by rw [e1]; exact e3)
      refine ⟨.agg es, ?_, ?_⟩
      · refine run_build w t _ es ?_
        unfold Program.built
        simp only [hi, hu, hzv, places_sound hk]
        simpa using k1
      · have := V_mkAgg k3 k2
        refine AVR.of_AVR1 (by unfold mkAgg; split <;> simp) ?_
        simp only [Array.toArray_toList] at this
        unfold mkAgg at this ⊢
        split at this <;> exact this
    · cases h
  · cases h
end
end Go.Proofs.Ytlekojbcaelpiaa

/- Operations that turn memory: new variables, loads, stores, append. -/
namespace Go.Proofs.Ytlekojbcaelpiaa
open Go.RowKit

theorem acells_sound {γ : Gh} {L : List (Nat × Nat)} {w : World} {c : Value} : ∀ {x : AV} {ys : List AV}, cells? x = some ys → AVR γ L w c x → ∃ ds : List Value, c.cells = ds.toArray ∧ AVRL γ L w ds ys ∧ ∀ d ∈ ds, d.oneCell' = true
  | .sc v, ys, h, hv => by
    simp only [cells?] at h
    split at h
    · rename_i hall
      simp only [Option.some.injEq] at h; subst h
      have hv : c = v := hv
      subst hv
      refine ⟨c.cells.toList, by simp, AVRL.of_at (by simp) fun i x u hx hu => ?_, fun d hd => List.all_eq_true.1 hall d hd⟩
      simp only [List.getElem?_map, hu, Option.map_some, Option.some.injEq] at hx
      subst hx; exact rfl
    · cases h
  | .agg xs, ys, h, hv => by
    simp only [cells?, Option.some.injEq] at h; subst h
    obtain ⟨cs, e, h1, h2⟩ := hv
    subst e
    refine ⟨cs, rfl, AVRL.of_at (by simp [h2.length]) fun i x u hx hu => ?_, h1⟩
    simp only [List.getElem?_map, Option.map_eq_some_iff] at hx
    obtain ⟨y, hy, rfl⟩ := hx
    obtain ⟨c', k1, k2⟩ := h2.at_ hy
    rw [hu] at k1; cases k1
    exact AVR1.of_V k2
  | .undef, ys, h, _ => by simp [cells?] at h
  | .tup _, ys, h, _ => by simp [cells?] at h
  | .ptr d off, ys, h, hv => by
    simp only [cells?, Option.some.injEq] at h; subst h
    obtain ⟨⟨b, e, h'⟩, h''⟩ := id hv
    subst e
    exact ⟨[_], rfl, ⟨_, _, rfl, hv, rfl⟩, by simp [Value.oneCell']⟩
  | .row t s n xs, ys, h, hv => by
    simp only [cells?, Option.some.injEq] at h; subst h
    have hV : V γ.pr w c (.row none s n xs) := by
      cases t with
      | none => exact hv
      | some p => simpa only [V] using hv.1
    obtain ⟨A, cap, e, h'⟩ := hV
    subst e
    exact ⟨[_], rfl, ⟨_, _, rfl, hv, rfl⟩, by simp [Value.oneCell']⟩
  | .mt, ys, h, hv => by
    simp only [cells?, Option.some.injEq] at h; subst h
    obtain ⟨A, e⟩ := id hv
    subst e
    exact ⟨[_], rfl, ⟨_, _, rfl, hv, rfl⟩, by simp [Value.oneCell']⟩
  | .rptr xs, ys, h, hv => by
    simp only [cells?, Option.some.injEq] at h; subst h
    obtain ⟨b, o, e, h'⟩ := id hv
    subst e
    exact ⟨[_], rfl, ⟨_, _, rfl, hv, rfl⟩, by simp [Value.oneCell']⟩

theorem wp_value {P : Program} {o : Oper} {a : Act} {w w' : World} {K : Act → World → Prop} {Q : Exit → Act → World → Prop} {c : Value} (h : (execOp a.eval o).run P w = .ok (.value c) w') (hk : K (a.put o.dst c) w') : o.wp P a w K Q := by
  unfold Oper.wp; rw [h]; exact hk
theorem wp_skip_ {P : Program} {o : Oper} {a : Act} {w w' : World} {K : Act → World → Prop} {Q : Exit → Act → World → Prop} (h : (execOp a.eval o).run P w = .ok .skip w') (hk : K (a.put o.dst undef) w') : o.wp P a w K Q := by
  unfold Oper.wp; rw [h]; exact hk

theorem VC.of_VL {pr : Nat → Nat → Prop} {w : World} {b : Nat} : ∀ {xs : List AV} {cs : List Value} {o : Nat}, VL pr w cs xs → (∀ j v, cs[j]? = some v → w.cell? ⟨b, o + j, none⟩ = some v ∧ pr b (o + j) ∧ v.oneCell' = true) → VC pr w b o xs
  | [], _, _, _, _ => trivial
  | x :: xs, _, o, ⟨c, cs, e, h1, h2⟩, h => by
    subst e
    obtain ⟨k1, k2, k3⟩ := h 0 c rfl
    refine ⟨⟨c, k1, k2, k3, h1⟩, VC.of_VL h2 fun j v hj => ?_⟩
    have := h (j + 1) v (by simpa using hj)
    rw [show o + (j + 1) = o + 1 + j by omega] at this; exact this

section
variable {P : Program} {γ : Gh} {w0 w : World} {s s' : St} {a : Act} {o : Oper} {F : List Nat} {K : Act → World → Prop} {Q : Exit → Act → World → Prop}

theorem step_val (hrel : Rel γ w0 s a w) {c : Value} {v : AV} (hr : (execOp a.eval o).run P w = .ok (.value c) w) (hv : AVR γ s.lens w c v) (hs : s.apply F o.dst (.val v) = some s')
    (hK : ∀ γ' a' w', GExt γ γ' → Rel γ' w0 s' a' w' → K a' w') : o.wp P a w K Q := by
  simp only [St.apply] at hs
  split at hs
  · exact wp_value hr (hK γ _ _ (GExt.refl γ) (hrel.put hs hv))
  · cases hs

theorem step_load (hrel : Rel γ w0 s a w) {t : TypeId} {x : Operand} {d off n : Nat} {agg : Bool} (ho : o.op = .load t x) (hx : s.eval x = .ptr d off) (h1 : isAggT P t = some agg) (h2 : agg = true → szT P t = some n)
    (hs : s.apply F o.dst (.load d off n agg) = some s') (hK : ∀ γ' a' w', GExt γ γ' → Rel γ' w0 s' a' w' → K a' w') : o.wp P a w K Q := by
  have hE := hrel.eval x
  rw [hx] at hE
  obtain ⟨⟨b, e, hb⟩, _⟩ := hE
  simp only [St.apply] at hs
  split at hs
  case h_2 => cases hs
  rename_i ty xs hobj _
  obtain ⟨_, b', cs, k2, k3, k4, k5, k6, k7⟩ := hrel.obj d ty xs hobj
  have : b' = b := by rw [hb] at k2; exact (Option.some.inj k2).symm
  subst this
  have hcell : ∀ j v, cs[j]? = some v → w.cell? ⟨b', j, none⟩ = some v := fun j v hj => by
    rw [cell_of_row w b' j cs.toArray ty (0, 0) k4]; simpa using hj
  have hop : execOp a.eval o = (do pure (Next.value (← Instr.loadAt t (a.eval x))) : Sem Next) := by simp only [execOp, ho]
  cases agg with
  | true =>
    simp only [Option.bind_eq_some_iff] at hs
    obtain ⟨ys, ht, hs⟩ := hs
    split at hs
    case h_2 => cases hs
    obtain ⟨rfl, hl⟩ := takeN_spec ht
    have hsub : AVRL γ s.lens w ((cs.drop off).take n) ((xs.drop off).take n) := AVRL.of_at (by simp [k5.length]) fun i y c hy hc => by
      rw [List.getElem?_take] at hy hc
      split at hy
      · rename_i hlt
        rw [if_pos hlt] at hc
        rw [List.getElem?_drop] at hy hc
        obtain ⟨c', q1, q2⟩ := k5.at_ hy
        rw [hc] at q1; cases q1; exact q2
      · cases hy
    have hV := hsub.plain
    have hone : ∀ u ∈ (cs.drop off).take n, u.oneCell' = true := fun u hu => k6 u (List.mem_of_mem_drop (List.mem_of_mem_take hu))
    have hrun := run_load_agg (P := P) (w := w) (b := b') (o := off) (cs := (cs.drop off).take n) h1 (h2 rfl) (by rw [hsub.length, hl]) (fun j v hj => by
      rw [List.getElem?_take] at hj
      split at hj
      · rw [List.getElem?_drop] at hj; exact hcell _ _ hj
      · cases hj)
    refine wp_value (c := .agg ((cs.drop off).take n).toArray) (w' := w) ?_ (hK γ _ _ (GExt.refl γ) (hrel.put hs (AVR.of_AVR1 (by unfold mkAgg; split <;> simp) (by
      have := V_mkAgg hone hV
      unfold mkAgg at this ⊢
      split at this <;> exact this))))
    rw [hop]
    exact v_run (by simp [Instr.loadAt, e, Instr.sureAddr, hrun])
  | false =>
    simp only at hs
    split at hs
    case h_2 => cases hs
    rename_i y rest hdr
    split at hs
    case h_2 => cases hs
    have hy : xs[off]? = some y := by
      have : (xs.drop off)[0]? = some y := by rw [hdr]; rfl
      simpa [List.getElem?_drop] using this
    obtain ⟨c, q1, q2⟩ := k5.at_ hy
    have hone := k6 c (List.mem_of_getElem? q1)
    have hrun := run_load_one (P := P) h1 (hcell off c q1)
    refine wp_value (c := c) (w' := w) ?_ (hK γ _ _ (GExt.refl γ) (hrel.put hs (AVR.of_AVR1 (fun zs hz => ?_) q2)))
    · rw [hop]
      exact v_run (by simp [Instr.loadAt, e, Instr.sureAddr, hrun])
    · subst hz
      obtain ⟨cs', e', _⟩ := q2
      subst e'; simp [Value.oneCell'] at hone

theorem setRow_cell_other (w : World) (g : Nat) (cs : Array Value) {b i : Nat} (h : b ≠ g) : (w.setRow g cs).cell? ⟨b, i, none⟩ = w.cell? ⟨b, i, none⟩ :=
  World.cell?_of_block (setRow_other w g b cs h)
theorem setRow_below {B g : Nat} {w : World} (cs : Array Value) (h : B ≤ g) : Below B w (w.setRow g cs) :=
  ⟨rfl, rfl, rfl, by simp [World.setRow], fun k hk => setRow_other w g k cs (by omega)⟩
theorem AVRL.append {γ : Gh} {L : List (Nat × Nat)} {w : World} : ∀ {xs ys : List AV} {cs ds : List Value}, AVRL γ L w cs xs → AVRL γ L w ds ys → AVRL γ L w (cs ++ ds) (xs ++ ys)
  | [], _, _, _, h, h' => by simp only [AVRL] at h; subst h; simpa using h'
  | x :: xs, _, _, _, ⟨c, cs', e, h1, h2⟩, h' => by subst e; exact ⟨c, _, rfl, h1, AVRL.append h2 h'⟩
theorem AVRL.drop {γ : Gh} {L : List (Nat × Nat)} {w : World} {xs : List AV} {cs : List Value} (h : AVRL γ L w cs xs) (k : Nat) : AVRL γ L w (cs.drop k) (xs.drop k) :=
  AVRL.of_at (by simp [h.length]) fun i y c hy hc => by
    rw [List.getElem?_drop] at hy hc
    obtain ⟨c', q1, q2⟩ := h.at_ hy
    rw [hc] at q1; cases q1; exact q2
theorem AVRL.take {γ : Gh} {L : List (Nat × Nat)} {w : World} {xs : List AV} {cs : List Value} (h : AVRL γ L w cs xs) (k : Nat) : AVRL γ L w (cs.take k) (xs.take k) :=
  AVRL.of_at (by simp [h.length]) fun i y c hy hc => by
    rw [List.getElem?_take] at hy hc
    split at hy
    · rename_i hlt
      rw [if_pos hlt] at hc
      obtain ⟨c', q1, q2⟩ := h.at_ hy
      rw [hc] at q1; cases q1; exact q2
    · cases hy

theorem step_store (hrel : Rel γ w0 s a w) {t : TypeId} {x v : Operand} {d off : Nat} {ys : List AV} (ho : o.op = .store t x v) (hx : s.eval x = .ptr d off) (h2 : szT P t = some ys.length) (hc : cells? (s.eval v) = some ys)
    (hs : s.apply F o.dst (.store d off ys) = some s') (hK : ∀ γ' a' w', GExt γ γ' → Rel γ' w0 s' a' w' → K a' w') : o.wp P a w K Q := by
  have hE := hrel.eval x
  rw [hx] at hE
  obtain ⟨⟨b, e, hb⟩, hlen⟩ := hE
  simp only [St.apply] at hs
  split at hs
  case h_2 => cases hs
  rename_i ty xs hobj _ _
  split at hs
  case h_2 => cases hs
  rename_i hle hdst _
  have hle : off + ys.length ≤ xs.length := by simpa [Nat.ble_eq] using hle
  simp only [Option.some.injEq] at hs
  obtain ⟨k1, b', cs, k2, k3, k4, k5, k6, k7⟩ := hrel.obj d ty xs hobj
  have : b' = b := by rw [hb] at k2; exact (Option.some.inj k2).symm
  subst this
  obtain ⟨ds, e1, e2, e3⟩ := acells_sound hc (hrel.eval v)
  have hl1 := k5.length
  have hl2 := e2.length
  have hrun := run_storeCells_at P b' off ty ds 0 cs.toArray w k4 (by simp; omega) e3
  simp only [Nat.add_zero] at hrun
  have hop : execOp a.eval o = (do Instr.storeAt t (a.eval x) (a.eval v); pure Next.skip : Sem Next) := by simp only [execOp, ho]
  refine wp_skip_ (w' := w.setRow b' (cs.take off ++ ds ++ cs.drop (off + ds.length)).toArray) ?_ ?_
  · rw [hop]
    simp [Instr.storeAt, e, Instr.sureAddr, storeVar, run_size' h2, e1, hl2, hrun]
  · rw [hdst]
    refine hK γ _ _ (GExt.refl γ) ?_
    subst hs
    have hkept : ∀ d', Kept γ γ s.lens s.lens w (w.setRow b' (cs.take off ++ ds ++ cs.drop (off + ds.length)).toArray) d' := fun d' => .inl ⟨rfl, rfl, fun hne g hg => setRow_other w b' g _ fun e => by
      subst e
      have := hrel.inj d' d g hg hb
      subst this
      exact hne k1⟩
    have hV : ∀ b i u, γ.pr b i → w.cell? ⟨b, i, none⟩ = some u → γ.pr b i ∧ (w.setRow b' (cs.take off ++ ds ++ cs.drop (off + ds.length)).toArray).cell? ⟨b, i, none⟩ = some u := fun b i u hp hcell => by
      refine ⟨hp, ?_⟩
      rw [setRow_cell_other w b' _ (fun e => by subst e; exact k7 i hp)]; exact hcell
    have hsz : (w.setRow b' (cs.take off ++ ds ++ cs.drop (off + ds.length)).toArray).heap.size = w.heap.size := by simp [World.setRow]
    refine ⟨hrel.size, hrel.defers, hrel.below.trans (setRow_below _ k3), by rw [hsz]; exact hrel.base, fun t' x' hx' => (hrel.slot t' x' hx').frame rfl hV fun d' _ => hkept d', ?_, hrel.len, hrel.inj, by rw [hsz]; exact hrel.blt, by rw [hsz]; exact hrel.plt, fun k o hk => ⟨by rw [setRow_other w b' k _ (fun e => by subst e; exact (hrel.frm _ o hk).2 d hb)]; exact (hrel.frm k o hk).1, (hrel.frm k o hk).2⟩⟩
    intro d' ty' xs' hx'
    rw [look_cons] at hx'
    by_cases hd : d = d'
    · rw [if_pos hd] at hx'
      simp only [Option.some.injEq, Prod.mk.injEq] at hx'
      obtain ⟨rfl, rfl⟩ := hx'
      subst hd
      refine ⟨k1, b', _, hb, k3, setRow_heap w b' cs.toArray _ ty (0, 0) k4, ?_, ?_, k7⟩
      · rw [← hl2]
        exact (((k5.frame rfl hV fun d' _ => hkept d').take off).append (e2.frame rfl hV fun d' _ => hkept d')).append ((k5.frame rfl hV fun d' _ => hkept d').drop _)
      · intro c hc'
        simp only [List.mem_append] at hc'
        rcases hc' with (hc' | hc') | hc'
        · exact k6 c (List.mem_of_mem_take hc')
        · exact e3 c hc'
        · exact k6 c (List.mem_of_mem_drop hc')
    · rw [if_neg hd] at hx'
      obtain ⟨q1, b2, cs2, q2, q3, q4, q5, q6, q7⟩ := hrel.obj d' ty' xs' hx'
      refine ⟨q1, b2, cs2, q2, q3, ?_, q5.frame rfl hV fun d' _ => hkept d', q6, q7⟩
      rw [setRow_other w b' b2 _ fun e => by subst e; exact hd (hrel.inj d d' b2 hb q2)]; exact q4

theorem fresh_block (hrel : Rel γ w0 s a w) : ∀ b, some w.heap.size = some b → ∀ d', γ.blk d' ≠ some b := fun b hb d' h => by
  have := hrel.blt d' b h
  cases hb; omega

theorem fresh_fr (hrel : Rel γ w0 s a w) {g : Nat} (hg : w.heap.size ≤ g) : γ.fr g = none := by
  cases h : γ.fr g with
  | none => rfl
  | some o => have := (Array.getElem?_eq_some_iff.1 (hrel.frm g o h).1).1; omega
/-- a new variable -/
theorem rel_box (hrel : Rel γ w0 s a w) {d ty : Nat} {xs : List AV} {cs : List Value} (hab : s.absent d = true) (hlt : d < s.n)
    (hcs : ∀ γ' w', Rel γ' w0 s a w' → AVRL γ' s.lens w' cs xs) (h1 : ∀ c ∈ cs, c.oneCell' = true) :
    ∃ γ', GExt γ γ' ∧ Rel γ' w0 { s with slots := (d, .ptr d 0) :: s.slots, objs := (d, (ty, xs)) :: s.objs } (a.put (some d) (.pointer (some ⟨w.heap.size, 0, none⟩))) (w.alloc (.cells cs.toArray ty)) := by
  have hA := Absent.of hab
  have r1 : Rel γ w0 s a (w.alloc (.cells cs.toArray ty)) := hrel.grow_world γ.pr ((Below.refl _ _).alloc (Nat.le_refl _) _) (fun _ _ h => h) (fun _ _ h => .inl h)
  have r2 := r1.name hA (some w.heap.size) (fun b hb => ⟨by cases hb; simp, fresh_block hrel b hb⟩) (fun b hb => by cases hb; exact fresh_fr hrel (Nat.le_refl _))
  have hc := hcs _ _ r2
  refine ⟨{ γ with pr := γ.pr, blk := fun d' => if d' = d then some w.heap.size else γ.blk d' }, ⟨rfl, fun _ _ _ h => h, rfl⟩, ?_⟩
  have r3 := r2.put (dst := some d) (x := .ptr d 0) (c := .pointer (some ⟨w.heap.size, 0, none⟩)) (s' := { s with slots := (d, .ptr d 0) :: s.slots })
    (by simp only [St.put]; rw [show Nat.blt d s.n = true by simpa [Nat.blt_eq] using hlt]) ⟨⟨w.heap.size, rfl, by simp⟩, hA.len⟩
  refine { r3 with obj := fun d' ty' xs' hx' => ?_ }
  rw [look_cons] at hx'
  by_cases hd : d = d'
  · rw [if_pos hd] at hx'
    simp only [Option.some.injEq, Prod.mk.injEq] at hx'
    obtain ⟨rfl, rfl⟩ := hx'
    subst hd
    exact ⟨hA.len, w.heap.size, cs, by simp, hrel.base, heap_alloc_new w _, hc, h1, fun i hp => absurd (hrel.plt _ _ hp) (by omega)⟩
  · rw [if_neg hd] at hx'
    exact r3.obj d' ty' xs' hx'

/-- a new row -/
theorem rel_fresh0 (hrel : Rel γ w0 s a w) {w' : World} {d e size n : Nat} {xs : List AV} {c : Value} {pr' : Nat → Nat → Prop} (hab : s.absent d = true) (hbel : Below w.heap.size w w')
    (h1 : ∀ b i, γ.pr b i → pr' b i) (h2 : ∀ b i, pr' b i → γ.pr b i ∨ w.heap.size ≤ b ∧ b < w'.heap.size)
    (hV : V pr' w' c (.row none size n xs))
    (hown : (∃ A, c = .slice A 0 0 ∧ n = 0) ∨ ∃ us g, w'.ownsRow w.heap.size e size c n us ∧ (c.ownBlock = none ∨ c.ownBlock = some g) ∧ w.heap.size ≤ g ∧ g < w'.heap.size ∧ ∀ i, pr' g i → i < n * size) :
    ∃ γ', GExt γ γ' ∧ γ'.pr = pr' ∧ Rel γ' w0 { s with lens := (d, n * size) :: s.lens } a w' ∧ AVR1 γ' ((d, n * size) :: s.lens) w' c (.row (some (d, e)) size n xs) := by
  have hA := Absent.of hab
  have r1 := hrel.grow_world pr' hbel h1 h2
  have hlen : look ((d, n * size) :: s.lens) d = some (n * size) := by rw [look_cons, if_pos rfl]
  have hV' : V pr' w' c (.row (some (d, e)) size n xs) := by simpa only [V] using hV
  have hold : ∀ b i, b < γ.base → pr' b i → γ.pr b i := fun b i hb hp => by
    rcases h2 b i hp with h | ⟨h, _⟩
    · exact h
    · have := hrel.base; omega
  rcases hown with h0 | ⟨us, g, ho, hg, hg1, hg2, hg3⟩
  · have r2 := r1.name hA none (by simp) (by simp)
    have r3 := r2.setLen (len := n * size) hA (by simp)
    exact ⟨{ γ with pr := pr', blk := fun d' => if d' = d then none else γ.blk d' }, ⟨rfl, hold, rfl⟩, rfl, r3, ⟨hV', fun len hl => by
      rw [hlen] at hl; cases hl; exact ⟨Nat.le_refl _, fun _ => .inl h0⟩⟩⟩
  · have r2 := r1.name hA (some g) (fun b hb => ⟨by cases hb; exact hg2, fun d' h => by have := hrel.blt d' b h; cases hb; omega⟩) (fun b hb => by cases hb; exact fresh_fr hrel hg1)
    have r3 := r2.setLen (len := n * size) hA (fun g' hg' => by simp at hg'; subst hg'; exact ⟨Nat.le_trans hrel.base hg1, hg3⟩)
    refine ⟨{ γ with pr := pr', blk := fun d' => if d' = d then some g else γ.blk d' }, ⟨rfl, hold, rfl⟩, rfl, r3, ⟨hV', fun len hl => ?_⟩⟩
    rw [hlen] at hl; cases hl
    refine ⟨Nat.le_refl _, fun _ => .inr ⟨us, ⟨ho.1, ?_⟩, fun g' hg' => ?_⟩⟩
    · rcases ho.2 with h | ⟨g', cap, cur, q1, q2, q3⟩
      · exact .inl h
      · exact .inr ⟨g', cap, cur, q1, Nat.le_trans hrel.base q2, q3⟩
    · rcases hg with hg | hg
      · rw [hg] at hg'; cases hg'
      · rw [hg] at hg'; cases hg'; simp
theorem rel_fresh (hrel : Rel γ w0 s a w) {w' : World} {d e size n : Nat} {xs : List AV} {c : Value} {pr' : Nat → Nat → Prop} (hab : s.absent d = true) (hlt : d < s.n) (hbel : Below w.heap.size w w')
    (h1 : ∀ b i, γ.pr b i → pr' b i) (h2 : ∀ b i, pr' b i → γ.pr b i ∨ w.heap.size ≤ b ∧ b < w'.heap.size)
    (hV : V pr' w' c (.row none size n xs))
    (hown : (∃ A, c = .slice A 0 0 ∧ n = 0) ∨ ∃ us g, w'.ownsRow w.heap.size e size c n us ∧ (c.ownBlock = none ∨ c.ownBlock = some g) ∧ w.heap.size ≤ g ∧ g < w'.heap.size ∧ ∀ i, pr' g i → i < n * size) :
    ∃ γ', GExt γ γ' ∧ Rel γ' w0 { s with slots := (d, .row (some (d, e)) size n xs) :: s.slots, lens := (d, n * size) :: s.lens } (a.put (some d) c) w' := by
  obtain ⟨γ', e1, _, e3, e4⟩ := rel_fresh0 hrel hab hbel h1 h2 hV hown
  exact ⟨γ', e1, e3.put (dst := some d) (x := .row (some (d, e)) size n xs) (c := c) (by simp only [St.put]; rw [show Nat.blt d s.n = true by simpa [Nat.blt_eq] using hlt]) e4⟩
end
end Go.Proofs.Ytlekojbcaelpiaa

/- append, new rows, calls. -/
namespace Go.Proofs.Ytlekojbcaelpiaa
open Go.RowKit

section
variable {P : Program} (w : World)
theorem grown_row (e : TypeId) (size need cap : Nat) (z : Value) (olds news : List Value) (hz : z.cells.size = size) (hl : (olds ++ news).length = need * size) (hc : need ≤ cap) (hm : cap ≤ maxLen) :
    (w.drew.alloc (.cells (olds.toArray ++ news.toArray ++ Builtin.zeroCells z.cells (cap - need)) e)).ownsRow w.heap.size e size (.slice (some ⟨w.heap.size, 0, none⟩) need cap) need (olds ++ news) := by
  refine ⟨hl, .inr ⟨w.heap.size, cap, _, rfl, Nat.le_refl _, heap_alloc_new w.drew _, hc, hm, ?_, ?_⟩⟩
  · simp only [Array.size_append, List.size_toArray, size_zeroCells, hz]
    rw [List.length_append] at hl
    rw [hl, ← Nat.add_mul]
    congr 1; omega
  · simp only [Array.toList_append]
    rw [← hl]
    exact List.take_left
theorem below_drew_alloc (o : Obj) : Below w.heap.size w (w.drew.alloc o) := ((Below.refl _ w).drew).alloc (Nat.le_refl _) o

variable (t ty e : TypeId) (i : TypeInfo) (z : Value) (size bytes : Nat) (ht : P.underlying t = some (.slice e)) (hi : P.info? e = some i) (hz : i.zero = some z)
    (hsize : i.size = size) (hby : i.bytes = bytes) (hzs : z.cells.size = size)
    (ad : Addr) (m cp : Nat) (news : List Value) (hl : news.length = m * size) (hnews : ∀ j u, news[j]? = some u → w.cell? (ad.add j) = some u) (hm : 0 < m)
include ht hi hz hsize hby hzs hl hnews hm
theorem append_new (A0 : Option Addr) (h63 : m ≤ maxLen) (hbytes : m * bytes ≤ 140737488355328) :
    ∃ cap w', (Builtin.append_ #[t, t] ty #[.slice A0 0 0, .slice (some ad) m cp]).run P w = .ok (.slice (some ⟨w.heap.size, 0, none⟩) m cap) w' ∧ m ≤ cap ∧
      w'.ownsRow w.heap.size e size (.slice (some ⟨w.heap.size, 0, none⟩) m cap) m news ∧ Below w.heap.size w w' ∧ w.heap.size < w'.heap.size := by
  subst hsize; subst hby
  have hsmall : m ≤ 9223372036854775807 := by simp only [maxLen] at h63; omega
  have hge := grownCap_ge w m 0 e
  have hcm : grownCap w m 0 e ≤ maxLen := grownCap_le_maxLen w m 0 e h63
  have hg := grown_row w e i.size m (grownCap w m 0 e) z [] news hzs (by simpa using hl) hge hcm
  simp only [List.nil_append, Array.empty_append] at hg
  rcases A0 with _ | a0
  · have hr := run_append_nil (P := P) w t ty e i z ht hi hz ad m cp news hl hnews hm (by omega) (by omega)
    exact ⟨_, _, hr, hge, hg, below_drew_alloc w _, by simp⟩
  · have hr := run_append_grow (P := P) w t ty e i z ht hi hz a0 0 0 [] (by simp) (by simp) ad m cp news hl hnews (by omega) (by omega) (growslice_fits (by omega) (by simpa using hbytes))
    simp only [Nat.zero_add, Array.empty_append] at hr
    exact ⟨_, _, hr, hge, hg, below_drew_alloc w _, by simp⟩
theorem append_more (base : Nat) (hsz : 0 < size) (c : Value) (n : Nat) (us : List Value) (hown : w.ownsRow base e size c n us) (h1 : ∀ u ∈ news, u.oneCell' = true) (h63 : n + m ≤ maxLen) (hbytes : (n + m) * bytes ≤ 140737488355328) :
    ∃ g cap w', (Builtin.append_ #[t, t] ty #[c, .slice (some ad) m cp]).run P w = .ok (.slice (some ⟨g, 0, none⟩) (n + m) cap) w' ∧ n + m ≤ cap ∧ cap ≤ maxLen ∧ g < w'.heap.size ∧
      ((g = w.heap.size ∧ Below w.heap.size w w' ∧ w'.ownsRow w.heap.size e size (.slice (some ⟨g, 0, none⟩) (n + m) cap) (n + m) (us ++ news)) ∨
       (c.ownBlock = some g ∧ w.grownBy w' (some g) ∧ w'.ownsRow base e size (.slice (some ⟨g, 0, none⟩) (n + m) cap) (n + m) (us ++ news) ∧ ∀ j u, j < n * size → w.cell? ⟨g, j, none⟩ = some u → w'.cell? ⟨g, j, none⟩ = some u)) := by
  have hsmall : n + m ≤ 9223372036854775807 := by simp only [maxLen] at h63; omega
  have hlen : (us ++ news).length = (n + m) * size := by rw [List.length_append, hown.1, hl, Nat.add_mul]
  rcases hown.2 with ⟨rfl, rfl⟩ | ⟨g, cap, cur, rfl, hbg, hg, hnc, hcm, hcs, htake⟩
  · have hus : us = [] := List.eq_nil_of_length_eq_zero (by simpa using hown.1)
    subst hus
    obtain ⟨cap, w', hr, h2, h3, h4, h5⟩ := append_new w t ty e i z size bytes ht hi hz hsize hby hzs ad m cp news hl hnews hm none (by omega) (by simpa using hbytes)
    refine ⟨w.heap.size, cap, w', by simpa using hr, by omega, ?_, h5, .inl ⟨rfl, h4, by simpa using h3⟩⟩
    rcases h3.2 with ⟨hh, _⟩ | ⟨_, cap', _, hh, _, _, _, hh2, _⟩
    · cases hh
    · cases hh; exact hh2
  · by_cases hroom : n + m ≤ cap
    · obtain ⟨w', hr, h2, h3⟩ := run_append_fits (P := P) w base t ty e i size ht hi hsize g n cap us hown ad m cp news hl hnews h1 hroom
      refine ⟨g, cap, w', hr, hroom, hcm, ?_, .inr ⟨rfl, h3, h2, fun j u hj hc => ?_⟩⟩
      · exact Nat.lt_of_lt_of_le (Array.getElem?_eq_some_iff.1 hg).1 h3.size
      · have hu : us[j]? = some u := by
          have hjl : j < us.length := by rw [hown.1]; exact hj
          have := hown.cells (g := g) rfl j us[j] (List.getElem?_eq_getElem hjl)
          rw [Addr.add_lit, Nat.zero_add, hc] at this
          rw [List.getElem?_eq_getElem hjl]; exact this.symm
        have := h2.cells (g := g) rfl j u (by rw [List.getElem?_append_left (by rw [hown.1]; exact hj)]; exact hu)
        rwa [Addr.add_lit, Nat.zero_add] at this
    · subst hsize; subst hby
      have holds : ∀ j u, us[j]? = some u → w.cell? ((⟨g, 0, none⟩ : Addr).add j) = some u := hown.cells (g := g) rfl
      have hr := run_append_grow (P := P) w t ty e i z ht hi hz ⟨g, 0, none⟩ n cap us hown.1 holds ad m cp news hl hnews (by omega) (by omega) (growslice_fits (by omega) hbytes)
      have hge := grownCap_ge w (n + m) cap e
      have hcm' : grownCap w (n + m) cap e ≤ maxLen := grownCap_le_maxLen w (n + m) cap e h63
      exact ⟨w.heap.size, _, _, hr, hge, hcm', by simp, .inl ⟨rfl, below_drew_alloc w _, grown_row w e i.size (n + m) _ z us news hzs hlen hge hcm'⟩⟩
end
theorem append_none {P : Program} (w : World) (t ty e : TypeId) (i : TypeInfo) (ht : P.underlying t = some (.slice e)) (hi : P.info? e = some i) (A : Option Addr) (n cap : Nat) (hc : n ≤ cap) (A' : Option Addr) (c' : Nat) :
    (Builtin.append_ #[t, t] ty #[.slice A n cap, .slice A' 0 c']).run P w = .ok (.slice A n cap) w := by
  have hf : (Builtin.firstCells i.size 0 (.slice A' 0 c')).run P w = .ok #[] w := by
    cases A' <;> simp [Builtin.firstCells, loadCells, loadCellsFrom]
  cases A <;> simp [Builtin.append_, run_underlying ht, sizeOf, typeInfo, hi, Builtin.lenOf, hc, hf, storeCells]
theorem row_vals {pr : Nat → Nat → Prop} {w : World} {c : Value} {tok : Option (Nat × Nat)} {size m : Nat} {ys : List AV} (h : V pr w c (.row tok size m ys)) :
    ∃ A cp news, c = .slice A m cp ∧ m ≤ cp ∧ ys.length = m * size ∧ (m = 0 ∨ ∃ ad, A = some ad ∧ news.length = m * size ∧ VL pr w news ys ∧ (∀ u ∈ news, u.oneCell' = true) ∧ ∀ j u, news[j]? = some u → w.cell? (ad.add j) = some u) := by
  obtain ⟨A, cap, e, h1, h2, h3, h4⟩ := h
  rcases Nat.eq_zero_or_pos m with h0 | h0
  · exact ⟨A, cap, [], e, h1, h3, .inl h0⟩
  · obtain ⟨b, o, e', hc⟩ := h4 h0
    obtain ⟨cs, k1, k2, k3⟩ := hc.vals
    exact ⟨A, cap, cs, e, h1, h3, .inr ⟨_, e', by rw [k1.length, h3], k1, k2, fun j u hj => by rw [Addr.add_lit]; exact k3 j u hj⟩⟩

/-- a row that lies in a block -/
theorem V_own {pr : Nat → Nat → Prop} {w : World} {base e size n g cap : Nat} {us : List Value} {xs : List AV} (h : w.ownsRow base e size (.slice (some ⟨g, 0, none⟩) n cap) n us) (hc : n ≤ cap) (hm : cap ≤ maxLen)
    (hl : VL pr w us xs) (h1 : ∀ u ∈ us, u.oneCell' = true) (hp : ∀ i, i < n * size → pr g i) (tok : Option (Nat × Nat)) : V pr w (.slice (some ⟨g, 0, none⟩) n cap) (.row tok size n xs) := by
  refine ⟨_, _, rfl, hc, hm, by rw [← hl.length, h.1], fun _ => ⟨g, 0, rfl, VC.of_VL hl fun j v hj => ?_⟩⟩
  have hlt : j < us.length := (List.getElem?_eq_some_iff.1 hj).1
  have := h.cells (g := g) rfl j v hj
  rw [Addr.add_lit] at this
  exact ⟨this, hp _ (by rw [Nat.zero_add, ← h.1]; exact hlt), h1 v (List.mem_of_getElem? hj)⟩
end Go.Proofs.Ytlekojbcaelpiaa

/- append and new rows at the relation; the contract of a function; a call. -/
namespace Go.Proofs.Ytlekojbcaelpiaa
open Go.RowKit

section
variable {P : Program} {γ : Gh} {w0 w w' : World} {s s' : St} {a : Act} {o : Oper} {F : List Nat} {K : Act → World → Prop} {Q : Exit → Act → World → Prop}

theorem rowOf_sound {pr : Nat → Nat → Prop} {c : Value} {size m : Nat} {ys : List AV} : ∀ {x : AV}, rowOf size x = some (m, ys) → V pr w c (plain x) →
    ∃ A cp, c = .slice A m cp ∧ ys.length = m * size ∧ (m = 0 ∨ ∃ ad news, A = some ad ∧ news.length = m * size ∧ VL pr w news ys ∧ (∀ u ∈ news, u.oneCell' = true) ∧ ∀ j u, news[j]? = some u → w.cell? (ad.add j) = some u)
  | .row t size' n xs, h, hv => by
    simp only [rowOf] at h
    split at h
    · rename_i e; subst e
      simp only [Option.some.injEq, Prod.mk.injEq] at h
      obtain ⟨rfl, rfl⟩ := h
      obtain ⟨A, cp, news, e, _, h2, h3⟩ := row_vals (tok := none) hv
      refine ⟨A, cp, e, h2, h3.imp id fun ⟨ad, k⟩ => ⟨ad, news, k⟩⟩
    · cases h
  | .mt, h, hv => by
    simp only [rowOf, Option.some.injEq, Prod.mk.injEq] at h
    obtain ⟨rfl, rfl⟩ := h
    obtain ⟨A, e⟩ := hv
    exact ⟨A, 0, e, by simp, .inl rfl⟩
  | .sc v, h, hv => by
    have hv : c = v := hv
    subst hv
    unfold rowOf at h
    split at h
    · rename_i hh; cases hh
    · rename_i hh; cases hh
    · rename_i hh
      injection hh with hh
      subst hh
      simp only [Option.some.injEq, Prod.mk.injEq] at h
      obtain ⟨rfl, rfl⟩ := h
      exact ⟨none, 0, rfl, by simp, .inl rfl⟩
    · cases h
  | .undef, h, _ => by simp [rowOf] at h
  | .agg _, h, _ => by simp [rowOf] at h
  | .tup _, h, _ => by simp [rowOf] at h
  | .ptr _ _, h, _ => by simp [rowOf] at h
  | .rptr _, h, _ => by simp [rowOf] at h

theorem Rel.sameLens (h : Rel γ w0 s a w) {L : List (Nat × Nat)} (hL : ∀ d, look L d = look s.lens d) : Rel γ w0 { s with lens := L } a w := by
  refine h.frame (γ' := γ) L rfl (fun b i u hp hc => ⟨hp, hc⟩) (fun d _ _ _ _ => .inl ⟨rfl, hL d, fun _ _ _ => rfl⟩) (fun d _ _ _ _ _ => .inl ⟨rfl, hL d, fun _ _ _ => rfl⟩) ?_ (fun d len g h1 h2 => h.len d len g (by rw [← hL]; exact h1) h2) h.inj h.blt h.plt (Below.refl _ _) rfl h.frm
  intro d ty xs b hx hd
  obtain ⟨k1, b', cs, k2, k3, k4, k5, k6, k7⟩ := h.obj d ty xs hx
  have : b' = b := by rw [hd] at k2; exact (Option.some.inj k2).symm
  subst this
  exact ⟨by rw [hL]; exact k1, hd, rfl, k7⟩

theorem rel_grow (h : Rel γ w0 s a w) {d len len' g : Nat} (hlen : look s.lens d = some len) (hlt : len < len') (hg : g < w'.heap.size)
    (halt : (g = w.heap.size ∧ Below w.heap.size w w') ∨ (γ.blk d = some g ∧ w.grownBy w' (some g) ∧ ∀ j u, j < len → w.cell? ⟨g, j, none⟩ = some u → w'.cell? ⟨g, j, none⟩ = some u)) :
    (∀ b i u, γ.pr b i → w.cell? ⟨b, i, none⟩ = some u → w'.cell? ⟨b, i, none⟩ = some u) ∧
    Rel { γ with pr := fun b i => γ.pr b i ∨ (b = g ∧ i < len'), blk := fun d' => if d' = d then some g else γ.blk d' } w0 { s with lens := (d, len') :: s.lens } a w' := by
  have hcell : ∀ b i u, γ.pr b i → w.cell? ⟨b, i, none⟩ = some u → w'.cell? ⟨b, i, none⟩ = some u := by
    intro b i u hp hc
    rcases halt with ⟨_, hb⟩ | ⟨hblk, hgr, hc'⟩
    · rw [hb.cell (h.plt b i hp)]; exact hc
    · by_cases e : b = g
      · subst e; exact hc' i u ((h.len d len b hlen hblk).2 i hp) hc
      · rw [World.cell?_of_block (w := w) (hgr.block b (h.plt b i hp) (fun e' => e (Option.some.inj e')))]; exact hc
  have hsize : w.heap.size ≤ w'.heap.size := by
    rcases halt with ⟨_, hb⟩ | ⟨_, hgr, _⟩
    · exact hb.size
    · exact hgr.size
  have hother : ∀ d' g', d' ≠ d → γ.blk d' = some g' → g' ≠ g ∧ w'.heap[g']? = w.heap[g']? := by
    intro d' g' hne hb
    have hlt := h.blt d' g' hb
    rcases halt with ⟨e, hbl⟩ | ⟨hblk, hgr, _⟩
    · exact ⟨by omega, hbl.block g' hlt⟩
    · have : g' ≠ g := fun e => by subst e; exact hne (h.inj d' d g' hb hblk)
      exact ⟨this, hgr.block g' hlt (fun e => this (Option.some.inj e))⟩
  have hk : ∀ d', Kept γ { γ with pr := fun b i => γ.pr b i ∨ (b = g ∧ i < len'), blk := fun d' => if d' = d then some g else γ.blk d' } s.lens ((d, len') :: s.lens) w w' d' := by
    intro d'
    by_cases e : d' = d
    · subst e; exact .inr ⟨len, len', hlen, by rw [look_cons, if_pos rfl], hlt⟩
    · exact .inl ⟨by simp [e], by rw [look_cons, if_neg (Ne.symm e)], fun _ g' hg' => (hother d' g' e hg').2⟩
  refine ⟨hcell, h.frame (γ' := { γ with pr := fun b i => γ.pr b i ∨ (b = g ∧ i < len'), blk := fun d' => if d' = d then some g else γ.blk d' }) ((d, len') :: s.lens) rfl (fun b i u hp hc => ⟨.inl hp, hcell b i u hp hc⟩) (fun d' _ _ _ _ => hk d') (fun d' _ _ _ _ _ => hk d') ?_ ?_ ?_ ?_ ?_ ?_ rfl ?_⟩
  · intro d' ty xs b hx hb
    obtain ⟨k1, b', cs, k2, k3, k4, k5, k6, k7⟩ := h.obj d' ty xs hx
    have : b' = b := by rw [hb] at k2; exact (Option.some.inj k2).symm
    subst this
    have hne : d' ≠ d := fun e => by subst e; rw [hlen] at k1; cases k1
    refine ⟨by rw [look_cons, if_neg (Ne.symm hne)]; exact k1, by simp [hne, hb], (hother d' b' hne hb).2, ?_⟩
    rintro i (hp | ⟨e, _⟩)
    · exact k7 i hp
    · exact (hother d' b' hne hb).1 e
  · intro d' len1 g1 h1 h2
    rw [look_cons] at h1
    by_cases e : d' = d
    · subst e
      rw [if_pos rfl] at h1; cases h1
      simp only [if_true] at h2; cases h2
      refine ⟨?_, ?_⟩
      · rcases halt with ⟨e, _⟩ | ⟨hblk, _⟩
        · rw [e]; exact h.base
        · exact (h.len d' len g hlen hblk).1
      · rintro i (hp | ⟨_, hi⟩)
        · rcases halt with ⟨e, _⟩ | ⟨hblk, _⟩
          · have := h.plt g i hp; omega
          · have := (h.len d' len g hlen hblk).2 i hp; omega
        · exact hi
    · rw [if_neg (Ne.symm e)] at h1
      simp only [e, if_false] at h2
      refine ⟨(h.len d' len1 g1 h1 h2).1, ?_⟩
      rintro i (hp | ⟨e', _⟩)
      · exact (h.len d' len1 g1 h1 h2).2 i hp
      · exact absurd e' (hother d' g1 e h2).1
  · intro d1 d2 b h1 h2
    simp only at h1 h2
    by_cases e1 : d1 = d <;> by_cases e2 : d2 = d
    · rw [e1, e2]
    · simp only [e1, if_true] at h1; simp only [e2, if_false] at h2
      rw [← h1] at h2; exact absurd rfl (hother d2 g e2 h2).1
    · simp only [e1, if_false] at h1; simp only [e2, if_true] at h2
      rw [← h2] at h1; exact absurd rfl (hother d1 g e1 h1).1
    · simp only [e1, e2, if_false] at h1 h2; exact h.inj d1 d2 b h1 h2
  · intro d' b hb
    simp only at hb
    by_cases e : d' = d
    · simp only [e, if_true] at hb; cases hb; exact hg
    · simp only [e, if_false] at hb; exact Nat.lt_of_lt_of_le (h.blt d' b hb) hsize
  · rintro b i (hp | ⟨e, _⟩)
    · exact Nat.lt_of_lt_of_le (h.plt b i hp) hsize
    · subst e; exact hg
  · rcases halt with ⟨_, hb⟩ | ⟨hblk, hgr, _⟩
    · exact hb.mono h.base
    · exact (Below.refl _ _).grown hgr h.base (fun k hk => by cases hk; exact (h.len d len g hlen hblk).1)
  · intro k o hk
    obtain ⟨q1, q2⟩ := h.frm k o hk
    have hklt := (Array.getElem?_eq_some_iff.1 q1).1
    have hkg : k ≠ g := by
      rcases halt with ⟨e, _⟩ | ⟨hblk, _⟩
      · omega
      · intro e; subst e; exact q2 d hblk
    refine ⟨?_, fun d' hd' => ?_⟩
    · rcases halt with ⟨_, hb⟩ | ⟨_, hgr, _⟩
      · exact (hb.block k hklt).trans q1
      · exact (hgr.block k hklt (fun e => hkg (Option.some.inj e))).trans q1
    · simp only at hd'
      split at hd'
      · exact hkg (Option.some.inj hd').symm
      · exact q2 d' hd'

theorem own_VL {pr : Nat → Nat → Prop} {base e size n : Nat} {c : Value} {us : List Value} {xs : List AV} {tok : Option (Nat × Nat)} (ho : w.ownsRow base e size c n us) (hv : V pr w c (.row tok size n xs)) : VL pr w us xs ∧ ∀ u ∈ us, u.oneCell' = true := by
  obtain ⟨A, cap, e', _, _, h3, h4⟩ := hv
  rcases Nat.eq_zero_or_pos n with h0 | h0
  · subst h0
    have h1 : us = [] := List.eq_nil_of_length_eq_zero (by simpa using ho.1)
    have h2 : xs = [] := List.eq_nil_of_length_eq_zero (by simpa using h3)
    subst h1; subst h2; exact ⟨rfl, by simp⟩
  · obtain ⟨b, o, e2, hc⟩ := h4 h0
    rcases ho.2 with ⟨_, hn⟩ | ⟨g, cap', cur, ec, _⟩
    · omega
    · rw [ec] at e'
      injection e' with e1 e3 e4
      rw [e2] at e1; cases e1
      have hcells := ho.cells (g := b) (by rw [ec]; rfl)
      have hat : ∀ (i : Nat) (x : AV) (u : Value), xs[i]? = some x → us[i]? = some u → V pr w u x ∧ u.oneCell' = true := fun i x u hx hu => by
        obtain ⟨u', k1, k2, k3, k4⟩ := hc.at_ hx
        have := hcells i u hu
        rw [Addr.add_lit, k1] at this
        cases this; exact ⟨k4, k3⟩
      have hl : us.length = xs.length := by rw [ho.1, h3]
      refine ⟨VL.of_at hl fun i x u hx hu => (hat i x u hx hu).1, fun u hu => ?_⟩
      obtain ⟨i, hi, rfl⟩ := List.mem_iff_getElem.1 hu
      exact (hat i _ _ (List.getElem?_eq_getElem (hl ▸ hi)) (List.getElem?_eq_getElem hi)).2

theorem fits_sound {n m bytes : Nat} (h : fits n m bytes = true) : n + m ≤ maxLen ∧ (n + m) * bytes ≤ 140737488355328 := by
  simpa [fits, Nat.ble_eq] using h

/-- append, the value side: what it answers at a slice of length and capacity 0 -/
theorem step_append_new (hrel : Rel γ w0 s a w) {t e ty : TypeId} {i : TypeInfo} {z : List AV} {A0 : Option Addr} {c2 : Value} {x : AV} {m d : Nat} {ys : List AV}
    (hop : ∀ c w', (Builtin.append_ #[t, t] ty #[.slice A0 0 0, c2]).run P w = .ok c w' → (execOp a.eval o).run P w = .ok (.value c) w')
    (ht : elemT P t = some e) (hi : P.info? e = some i) (hz : zeroT P e = some z) (hr : rowOf i.size x = some (m, ys)) (hx : V γ.pr w c2 (plain x)) (h0 : 0 < i.size) (hzl : z.length = i.size) (hf : fits 0 m i.bytes = true)
    (hdst : o.dst = some d) (hab : s.absent d = true) (hlt : d < s.n)
    (hK : ∀ γ' a' w', GExt γ γ' → Rel γ' w0 { s with slots := (d, .row (some (d, e)) i.size m ys) :: s.slots, lens := (d, m * i.size) :: s.lens } a' w' → K a' w') : o.wp P a w K Q := by
  have hu := elem_sound ht
  obtain ⟨i', zv, hi', hzv, hzc⟩ := zero_sound hz
  rw [hi] at hi'; cases hi'
  have hzs : zv.cells.size = i.size := by
    obtain ⟨ds, e1, e2, _⟩ := cells_sound (pr := γ.pr) (w := w) hzc (c := zv) rfl
    rw [e1, List.size_toArray, e2.length, hzl]
  obtain ⟨hf1, hf2⟩ := fits_sound hf
  obtain ⟨A, cp, rfl, hyl, hrow⟩ := rowOf_sound hr hx
  rcases Nat.eq_zero_or_pos m with h | hm
  · subst h
    have hr2 := append_none (P := P) w t ty e i hu hi A0 0 0 (Nat.le_refl _) A cp
    have hys : ys = [] := List.eq_nil_of_length_eq_zero (by simpa using hyl)
    subst hys
    obtain ⟨γ', hb, hR⟩ := rel_fresh (e := e) (size := i.size) (n := 0) (xs := []) (c := .slice A0 0 0) hrel hab hlt (Below.refl _ w) (fun b i h => h) (fun b i h => .inl h) ⟨A0, 0, rfl, by simp, by simp [maxLen], by simp, fun h => absurd h (by omega)⟩ (.inl ⟨A0, rfl, rfl⟩)
    refine wp_value (hop _ _ hr2) ?_
    rw [hdst]
    exact hK γ' _ _ hb hR
  · rcases hrow with h | ⟨ad, news, rfl, hnl, hvl, h1, hnews⟩
    · omega
    obtain ⟨cap, w', hr, hcap, hown, hbel, hsz⟩ := append_new (P := P) w t ty e i zv i.size i.bytes hu hi hzv rfl rfl hzs ad m cp news hnl hnews hm A0 (by simpa using hf1) (by simpa using hf2)
    have hcm : cap ≤ maxLen := by
      rcases hown.2 with ⟨hh, _⟩ | ⟨_, cap', _, hh, _, _, _, hh2, _⟩
      · cases hh
      · cases hh; exact hh2
    have hV : V (fun b j => γ.pr b j ∨ (b = w.heap.size ∧ j < m * i.size)) w' (.slice (some ⟨w.heap.size, 0, none⟩) m cap) (.row none i.size m ys) :=
      V_own hown hcap hcm (VL.mono (fun b j u hp hc => ⟨.inl hp, by rw [hbel.cell (hrel.plt b j hp)]; exact hc⟩) ys hvl) h1 (fun j hj => .inr ⟨rfl, hj⟩) none
    obtain ⟨γ', hb, hR⟩ := rel_fresh (e := e) (pr' := fun b j => γ.pr b j ∨ (b = w.heap.size ∧ j < m * i.size)) hrel hab hlt hbel (fun b i h => .inl h) (fun b j h => by
      rcases h with h | ⟨h, _⟩
      · exact .inl h
      · exact .inr ⟨by omega, by omega⟩) hV (.inr ⟨news, w.heap.size, hown, .inr rfl, Nat.le_refl _, hsz, fun j h => by
        rcases h with h | ⟨_, h⟩
        · exact absurd (hrel.plt _ _ h) (by omega)
        · exact h⟩)
    refine wp_value (hop _ _ hr) ?_
    rw [hdst]
    exact hK γ' _ _ hb hR

theorem step_append_more (hrel : Rel γ w0 s a w) {t e ty : TypeId} {i : TypeInfo} {z : List AV} {c1 c2 : Value} {x : AV} {n m d t' : Nat} {xs ys : List AV}
    (hop : ∀ c w', (Builtin.append_ #[t, t] ty #[c1, c2]).run P w = .ok c w' → (execOp a.eval o).run P w = .ok (.value c) w')
    (ht : elemT P t = some e) (hi : P.info? e = some i) (hz : zeroT P e = some z) (hr : rowOf i.size x = some (m, ys)) (hx : V γ.pr w c2 (plain x)) (h0 : 0 < i.size) (hzl : z.length = i.size) (hf : fits n m i.bytes = true)
    (hs : AVR1 γ s.lens w c1 (.row (some (d, e)) i.size n xs)) (hlen : look s.lens d = some (n * i.size)) (hdst : o.dst = some t') (hlt : t' < s.n)
    (hK : ∀ γ' a' w', GExt γ γ' → Rel γ' w0 { s with slots := (t', .row (some (d, e)) i.size (n + m) (xs ++ ys)) :: s.slots, lens := (d, (n + m) * i.size) :: s.lens } a' w' → K a' w') : o.wp P a w K Q := by
  have hu := elem_sound ht
  obtain ⟨i', zv, hi', hzv, hzc⟩ := zero_sound hz
  rw [hi] at hi'; cases hi'
  have hzs : zv.cells.size = i.size := by
    obtain ⟨ds, e1, e2, _⟩ := cells_sound (pr := γ.pr) (w := w) hzc (c := zv) rfl
    rw [e1, List.size_toArray, e2.length, hzl]
  obtain ⟨hf1, hf2⟩ := fits_sound hf
  obtain ⟨A, cp, rfl, hyl, hrow⟩ := rowOf_sound hr hx
  obtain ⟨hV1, hlens⟩ := hs
  have hown := (hlens _ hlen).2 rfl
  have hblt : Nat.blt t' s.n = true := by simpa [Nat.blt_eq] using hlt
  rcases Nat.eq_zero_or_pos m with h | hm
  · subst h
    have hys : ys = [] := List.eq_nil_of_length_eq_zero (by simpa using hyl)
    subst hys
    obtain ⟨A1, cap1, e1, hc1, _⟩ := id hV1
    subst e1
    have hr := append_none (P := P) w t ty e i hu hi A1 n cap1 hc1 A cp
    refine wp_value (hop _ _ hr) ?_
    rw [hdst]
    have hL : ∀ d', look ((d, (n + 0) * i.size) :: s.lens) d' = look s.lens d' := fun d' => by
      rw [look_cons]
      by_cases ed : d = d'
      · rw [if_pos ed, ← ed, hlen]; rfl
      · rw [if_neg ed]
    refine hK γ _ _ (GExt.refl γ) ((hrel.sameLens hL).put (dst := some t') (x := .row (some (d, e)) i.size (n + 0) (xs ++ [])) (by simp only [St.put]; rw [hblt]) ?_)
    rw [List.append_nil]
    exact ⟨hV1, fun len hl => hlens len (by rw [← hL d]; exact hl)⟩
  · rcases hrow with h | ⟨ad, news, rfl, hnl, hvl, h1, hnews⟩
    · omega
    have hlt2 : n * i.size < (n + m) * i.size := Nat.mul_lt_mul_of_pos_right (by omega) h0
    -- what append answers
    have key : ∃ g cap w' us base, (Builtin.append_ #[t, t] ty #[c1, .slice (some ad) m cp]).run P w = .ok (.slice (some ⟨g, 0, none⟩) (n + m) cap) w' ∧ n + m ≤ cap ∧ cap ≤ maxLen ∧ g < w'.heap.size ∧ γ.base ≤ base ∧
        w'.ownsRow base e i.size (.slice (some ⟨g, 0, none⟩) (n + m) cap) (n + m) (us ++ news) ∧ VL γ.pr w us xs ∧ (∀ u ∈ us, u.oneCell' = true) ∧
        ((g = w.heap.size ∧ Below w.heap.size w w') ∨ (γ.blk d = some g ∧ w.grownBy w' (some g) ∧ ∀ j u, j < n * i.size → w.cell? ⟨g, j, none⟩ = some u → w'.cell? ⟨g, j, none⟩ = some u)) := by
      rcases hown with ⟨A1, rfl, rfl⟩ | ⟨us, ho, hblk⟩
      · obtain ⟨cap, w', hr, hcap, hown, hbel, hsz⟩ := append_new (P := P) w t ty e i zv i.size i.bytes hu hi hzv rfl rfl hzs ad m cp news hnl hnews hm A1 (by simpa using hf1) (by simpa using hf2)
        have hcm : cap ≤ maxLen := by
          rcases hown.2 with ⟨hh, _⟩ | ⟨_, cap', _, hh, _, _, _, hh2, _⟩
          · cases hh
          · cases hh; exact hh2
        have hxs : xs = [] := by
          obtain ⟨_, _, _, _, _, hl, _⟩ := hV1
          exact List.eq_nil_of_length_eq_zero (by simpa using hl)
        subst hxs
        exact ⟨w.heap.size, cap, w', [], w.heap.size, by simpa using hr, by omega, hcm, hsz, hrel.base, by simpa using hown, rfl, by simp, .inl ⟨rfl, hbel⟩⟩
      · obtain ⟨g, cap, w', hr, hcap, hcm, hg, hh⟩ := append_more (P := P) w t ty e i zv i.size i.bytes hu hi hzv rfl rfl hzs ad m cp news hnl hnews hm γ.base h0 c1 n us ho h1 hf1 hf2
        obtain ⟨k1, k2⟩ := own_VL ho hV1
        rcases hh with ⟨e1, hb, ho'⟩ | ⟨e1, hgr, ho', hcl⟩
        · exact ⟨g, cap, w', us, w.heap.size, hr, hcap, hcm, hg, hrel.base, ho', k1, k2, .inl ⟨e1, hb⟩⟩
        · exact ⟨g, cap, w', us, γ.base, hr, hcap, hcm, hg, Nat.le_refl _, ho', k1, k2, .inr ⟨hblk g e1, hgr, hcl⟩⟩
    obtain ⟨g, cap, w', us, base, hr, hcap, hcm, hg, hbase, ho, hvl1, h11, halt⟩ := key
    obtain ⟨hcell, hR⟩ := rel_grow hrel hlen hlt2 hg halt
    refine wp_value (hop _ _ hr) ?_
    rw [hdst]
    have hmono : ∀ b j u, γ.pr b j → w.cell? ⟨b, j, none⟩ = some u → (γ.pr b j ∨ (b = g ∧ j < (n + m) * i.size)) ∧ w'.cell? ⟨b, j, none⟩ = some u := fun b j u hp hc => ⟨.inl hp, hcell b j u hp hc⟩
    refine hK { γ with pr := fun b j => γ.pr b j ∨ (b = g ∧ j < (n + m) * i.size), blk := fun d' => if d' = d then some g else γ.blk d' } _ _ ?_ (hR.put (dst := some t') (x := .row (some (d, e)) i.size (n + m) (xs ++ ys)) (by simp only [St.put]; rw [hblt]) ⟨?_, fun len hl => ?_⟩)
    · refine ⟨rfl, fun b j hb hp => ?_, rfl⟩
      rcases hp with hp | ⟨e, _⟩
      · exact hp
      · exfalso
        rcases halt with ⟨e', _⟩ | ⟨hblk, _⟩
        · have := hrel.base; omega
        · have := (hrel.len d _ g hlen hblk).1; omega
    · refine V_own ho hcap hcm ((VL.mono (pr' := fun b j => γ.pr b j ∨ (b = g ∧ j < (n + m) * i.size)) hmono xs hvl1).append (VL.mono hmono ys hvl)) ?_ (fun j hj => .inr ⟨rfl, hj⟩) _
      intro u hu
      rcases List.mem_append.1 hu with hu | hu
      · exact h11 u hu
      · exact h1 u hu
    · simp only [look_cons, if_true] at hl
      cases hl
      refine ⟨Nat.le_refl _, fun _ => .inr ⟨us ++ news, own_base' ho hbase, fun g' hg' => ?_⟩⟩
      simp only [Value.ownBlock, Option.some.injEq] at hg'
      subst hg'; simp
where
  own_base' {w : World} {b b' : Nat} {e : TypeId} {size n : Nat} {v : Value} {xs : List Value} (h : w.ownsRow b e size v n xs) (hb : b' ≤ b) : w.ownsRow b' e size v n xs := by
    obtain ⟨h1, h2⟩ := h
    refine ⟨h1, ?_⟩
    rcases h2 with h2 | ⟨g, cap, cur, hv, hg, r⟩
    · exact .inl h2
    · exact .inr ⟨g, cap, cur, hv, by omega, r⟩
end
end Go.Proofs.Ytlekojbcaelpiaa

/- The contract of a function; a call; one step of a region. -/
namespace Go.Proofs.Ytlekojbcaelpiaa
open Go.RowKit

section
variable {P : Program} {γ : Gh} {w0 w w' : World} {s s' : St} {a : Act} {o : Oper} {F : List Nat} {K : Act → World → Prop} {Q : Exit → Act → World → Prop}

theorem V_plain {pr : Nat → Nat → Prop} {c : Value} : ∀ {x : AV}, V pr w c x → V pr w c (plain x)
  | .tup xs, ⟨cs, e, h⟩ => ⟨cs, e, VL_plain1 h⟩
  | .undef, h => h
  | .sc _, h => h
  | .row .., h => by simpa only [plain, plain1, V] using h
  | .mt, h => h
  | .agg _, h => h
  | .ptr .., _ => trivial
  | .rptr _, h => h
theorem AVR_plain {L : List (Nat × Nat)} {c : Value} : ∀ {x : AV}, V γ.pr w c x → AVR γ L w c (plain x)
  | .tup xs, ⟨cs, e, h⟩ => ⟨cs, e, AVRL.of_at (by simp [h.length]) fun i y u hy hu => by
      simp only [List.getElem?_map, Option.map_eq_some_iff] at hy
      obtain ⟨y', hy', rfl⟩ := hy
      obtain ⟨u', k1, k2⟩ := h.at_ hy'
      rw [hu] at k1; cases k1
      exact AVR1.of_V k2⟩
  | .undef, h => AVR.of_V (x := .undef) h
  | .sc v, h => AVR.of_V (x := .sc v) h
  | .row t s n xs, h => AVR.of_V (x := .row t s n xs) h
  | .mt, h => AVR.of_V (x := .mt) h
  | .agg xs, h => AVR.of_V (x := .agg xs) h
  | .ptr d off, h => AVR.of_V (x := .ptr d off) h
  | .rptr xs, h => AVR.of_V (x := .rptr xs) h

theorem run_callFunc {g : Nat} (h : Enters P g) (cs : Array Value) : (callFunc g cs).run P w = .ok (.enter g cs) w := by
  obtain ⟨fn, h1, h2, h3⟩ := h
  have h2' : fn.name ≠ "runtime.NumGoroutine" := by simpa using h2
  have h3' : fn.body ≠ none := fun e => by rw [e] at h3; cases h3
  simp [callFunc, program, Sem.run, h1, h2', h3']

theorem own_row_fresh {B e : Nat} {pr : Nat → Nat → Prop} {c : Value} {t : Option (Nat × Nat)} {size n : Nat} {xs : List AV} (h : OwnRow B pr w' e c (.row t size n xs)) :
    (∃ A, c = .slice A 0 0 ∧ n = 0) ∨ ∃ us g, w'.ownsRow B e size c n us ∧ (c.ownBlock = none ∨ c.ownBlock = some g) ∧ B ≤ g ∧ g < w'.heap.size ∧ ∀ i, pr g i → i < n * size := by
  rcases h with h | ⟨us, h1, h2⟩
  · exact .inl h
  · rcases h1.2 with ⟨e1, e2⟩ | ⟨g, cap, cur, e1, e2, e3, _⟩
    · exact .inl ⟨none, e1, e2⟩
    · exact .inr ⟨us, g, h1, .inr (by rw [e1]; rfl), e2, (Array.getElem?_eq_some_iff.1 e3).1, h2 g (by rw [e1]; rfl)⟩

theorem step_call (hrel : Rel γ w0 s a w) {g : Nat} {args : List AV} {r : Res} (hok : Ok P g args r) (cs : List Value) (hargs : VL γ.pr w cs args) (hop : (execOp a.eval o).run P w = (callFunc g cs.toArray).run P w)
    {need : Prop} (hs : s.apply F o.dst (.ret r need) = some s') (hK : ∀ γ' a' w', GExt γ γ' → Rel γ' w0 s' a' w' → K a' w') : o.wp P a w K Q := by
  unfold Oper.wp
  rw [hop, run_callFunc hok.1, Oper.upon_enter]
  refine (hok.2 w γ.pr cs hrel.plt hargs).mono ?_
  rintro e w' ⟨c, pr', rfl, hbel, hp1, hp2, hV, hown⟩
  -- the ghosts behind the call
  have g1 : ∀ b i, γ.pr b i → γ.pr b i ∨ (w.heap.size ≤ b ∧ pr' b i) := fun b i h => .inl h
  have g2 : ∀ b i, (γ.pr b i ∨ (w.heap.size ≤ b ∧ pr' b i)) → γ.pr b i ∨ w.heap.size ≤ b ∧ b < w'.heap.size := fun b i h => h.imp id fun h => ⟨h.1, hp1 b i h.2⟩
  have hmono : ∀ b i u, pr' b i → w'.cell? ⟨b, i, none⟩ = some u → (γ.pr b i ∨ (w.heap.size ≤ b ∧ pr' b i)) ∧ w'.cell? ⟨b, i, none⟩ = some u := fun b i u h hc => by
    refine ⟨?_, hc⟩
    rcases Nat.lt_or_ge b w.heap.size with hlt | hge
    · exact .inl (hp2 b i hlt h)
    · exact .inr ⟨hge, h⟩
  have hV2 : V (fun b i => γ.pr b i ∨ (w.heap.size ≤ b ∧ pr' b i)) w' c r.v := V.mono hmono r.v hV
  have hR := hrel.grow_world (fun b i => γ.pr b i ∨ (w.heap.size ≤ b ∧ pr' b i)) hbel g1 g2
  have ownmono : ∀ c' x e, OwnRow w.heap.size pr' w' e c' x → OwnRow w.heap.size (fun b i => γ.pr b i ∨ (w.heap.size ≤ b ∧ pr' b i)) w' e c' x := by
    intro c' x e h
    cases x <;> try exact trivial
    rcases h with h | ⟨us, h1, h2⟩
    · exact .inl h
    · refine .inr ⟨us, h1, fun g hg i hi => ?_⟩
      rcases hi with hi | ⟨_, hi⟩
      · have := (h1.lt g hg).1
        exact absurd (hrel.plt g i hi) (by omega)
      · exact h2 g hg i hi
  simp only [St.apply] at hs
  split at hs
  · rename_i e d hoe hdst
    split at hs
    case h_2 => cases hs
    rename_i len hlen hab _ hlt
    have hlt' : d < s.n := by simpa [Nat.blt_eq] using hlt
    simp only [Option.some.injEq] at hs
    have how := hown e hoe
    rw [hdst]
    unfold lenOf at hlen
    split at hlen
    · rename_i t size n xs hv
      cases hlen
      rw [hv] at hV2 how hs
      obtain ⟨γ', b1, b2⟩ := rel_fresh (e := e) hrel hab hlt' hbel g1 g2 (by simpa only [V] using hV2) (own_row_fresh (ownmono c (.row t size n xs) e how))
      subst hs
      exact hK γ' _ _ b1 (b2.withLog (need :: s.log))
    · rename_i t size n xs rest hv
      cases hlen
      rw [hv] at hV2 how hs
      obtain ⟨cs', ec, hVL⟩ := hV2
      simp only [VL] at hVL
      obtain ⟨c0, cs'', e', hv0, hvr⟩ := hVL
      subst e'
      obtain ⟨γ', b1, b2, b3, b4⟩ := rel_fresh0 (e := e) (xs := xs) (c := c0) (size := size) (n := n) hrel hab hbel g1 g2 (by simpa only [V] using hv0) (own_row_fresh (ownmono c0 (.row t size n xs) e (how c0 cs'' ec)))
      subst hs
      refine hK γ' _ _ b1 ((b3.withLog (need :: s.log)).put (dst := some d) (x := .tup (.row (some (d, e)) size n xs :: rest.map plain1)) (by simp only [St.put]; rw [hlt]; simp [plain, tag, plain1]) ?_)
      refine ⟨c0 :: cs'', ec, c0, cs'', rfl, b4, AVRL.of_at (by simp [hvr.length]) fun i y u hy hu => ?_⟩
      simp only [List.getElem?_map, Option.map_eq_some_iff] at hy
      obtain ⟨y', hy', rfl⟩ := hy
      obtain ⟨u', k1, k2⟩ := hvr.at_ hy'
      rw [hu] at k1; cases k1
      exact AVR1.of_V (by rw [b2]; exact k2)
    · cases hlen
  · exact hK { γ with pr := fun b i => γ.pr b i ∨ (w.heap.size ≤ b ∧ pr' b i) } _ _ ⟨rfl, fun b i hb hp => hp.elim id fun h => absurd h.1 (by have := hrel.base; omega), rfl⟩ ((hR.withLog (need :: s.log)).put hs (AVR_plain hV2))
end
end Go.Proofs.Ytlekojbcaelpiaa

/- One operation of a region: what the interpreter does is what the machine does. -/
namespace Go.Proofs.Ytlekojbcaelpiaa
open Go.RowKit

section
variable {P : Program} {γ : Gh} {w0 w w' : World} {s s' : St} {a : Act} {o : Oper} {F : List Nat} {K : Act → World → Prop} {Q : Exit → Act → World → Prop}

theorem box_step (hrel : Rel γ w0 s a w) {ty : Nat} {xs : List AV} {v : Value} (hrun : (execOp a.eval o).run P w = .ok (.value (.pointer (some ⟨w.heap.size, 0, none⟩))) (w.alloc (.cells v.cells ty)))
    (hcs : ∀ γ' w', Rel γ' w0 s a w' → ∃ ds : List Value, v.cells = ds.toArray ∧ AVRL γ' s.lens w' ds xs ∧ ∀ d ∈ ds, d.oneCell' = true)
    (hs : s.apply F o.dst (.box ty xs) = some s') (hK : ∀ γ' a' w', GExt γ γ' → Rel γ' w0 s' a' w' → K a' w') : o.wp P a w K Q := by
  simp only [St.apply] at hs
  split at hs
  case h_2 => cases hs
  rename_i d hdst _
  split at hs
  case h_2 => cases hs
  rename_i hab _ hlt
  simp only [Option.some.injEq] at hs
  obtain ⟨ds, e1, _, e3⟩ := hcs γ w hrel
  obtain ⟨γ', b1, b2⟩ := rel_box (ty := ty) (xs := xs) (cs := ds) hrel hab (by simpa [Nat.blt_eq] using hlt) (fun γ' w' h => by
    obtain ⟨ds', k1, k2, _⟩ := hcs γ' w' h
    have : ds' = ds := by rw [e1] at k1; simpa using k1.symm
    subst this; exact k2) e3
  refine wp_value hrun ?_
  rw [hdst, e1]
  subst hs
  exact hK γ' _ _ b1 b2

theorem slice_step (hrel : Rel γ w0 s a w) {t : TypeId} {len : Nat} {ps : Array (Nat × Operand)} {cmd : Cmd} (ho : o.op = .buildSlice t len ps) (hc : cmdBuildSlice P t len (ps.toList.map fun p => (p.1, plain (s.eval p.2))) = some cmd)
    (hs : s.apply F o.dst cmd = some s') (hK : ∀ γ' a' w', GExt γ γ' → Rel γ' w0 s' a' w' → K a' w') : o.wp P a w K Q := by
  unfold cmdBuildSlice at hc
  split at hc
  case h_2 => cases hc
  rename_i e he
  split at hc
  case h_2 => cases hc
  rename_i size z hsz hz
  split at hc
  case isFalse => cases hc
  rename_i hcond
  obtain ⟨h0, hzl, hsm⟩ := hcond
  simp only [Option.map_eq_some_iff] at hc
  obtain ⟨xs, hf, rfl⟩ := hc
  have hu := elem_sound he
  obtain ⟨i, zv, hi, hzv, hzc⟩ := zero_sound hz
  have hsize : i.size = size := by simp [szT, hi] at hsz; exact hsz
  subst hsize
  simp only [St.apply] at hs
  split at hs
  case h_2 => cases hs
  rename_i d hdst
  split at hs
  case h_2 => cases hs
  rename_i hab _ hlt
  simp only [Option.some.injEq] at hs
  have hlt' : d < s.n := by simpa [Nat.blt_eq] using hlt
  have hop : execOp a.eval o = (do pure (Next.value (← Instr.buildSlice t len (ps.map fun (i, x) => (i, a.eval x)))) : Sem Next) := by simp only [execOp, ho]
  have hone : ∀ u ∈ zv.cells, u.oneCell' = true := by
    simp only [cells?] at hzc
    split at hzc
    · rename_i hall; intro u hu; exact List.all_eq_true.1 hall u (by simpa using hu)
    · cases hzc
  have hzs : zv.cells.size = i.size := by
    obtain ⟨ds, e1, e2, _⟩ := cells_sound (pr := γ.pr) (w := w) hzc (c := zv) rfl
    rw [e1, List.size_toArray, e2.length, hzl]
  rcases Nat.eq_zero_or_pos len with hl0 | hl0
  · subst hl0
    have hps : ps.toList = [] := by
      cases hps : ps.toList with
      | nil => rfl
      | cons p rest =>
        rw [hps] at hf
        simp only [List.map_cons, fillA] at hf
        split at hf
        · rename_i off size ys hp hcc
          split at hf
          · rename_i hcond
            obtain ⟨h1, h2⟩ := hcond
            simp only [Option.some.injEq, Prod.mk.injEq] at hp
            simp at h2
            omega
          · cases hf
        · cases hf
    have hps' : ps = #[] := by rw [← Array.toArray_toList (xs := ps), hps]
    subst hps'
    simp only [List.map_nil, fillA, Nat.zero_mul, List.replicate_zero, Option.some.injEq] at hf
    subst hf
    have hrun : (Instr.buildSlice t 0 (#[].map fun (p : Nat × Operand) => (p.1, a.eval p.2))).run P w = .ok (.slice (some ⟨w.heap.size, 0, none⟩) 0 0) (w.alloc (.cells #[] e)) := by
      have h0 : (Array.range 0).map (fun _ : Nat => (default : Value)) = #[] := by apply Array.eq_empty_of_size_eq_zero; simp
      simp [Instr.buildSlice, run_underlying hu, sizeOf, typeInfo, hi, Instr.fill, newRow, h0]
    obtain ⟨γ', b1, b2⟩ := rel_fresh (e := e) (size := i.size) (n := 0) (xs := []) (c := .slice (some ⟨w.heap.size, 0, none⟩) 0 0) hrel hab hlt' ((Below.refl _ w).alloc (Nat.le_refl _) (.cells #[] e)) (fun b i h => h) (fun b i h => .inl h) ⟨_, 0, rfl, by simp, by simp [maxLen], by simp, fun h => absurd h (by omega)⟩ (.inl ⟨_, rfl, rfl⟩)
    refine wp_value (by rw [hop]; exact v_run hrun) ?_
    rw [hdst]
    subst hs
    exact hK γ' _ _ b1 b2
  · -- the cells of the literal
    have hpos : ¬ len * i.size = 0 := Nat.ne_of_gt (Nat.mul_pos hl0 h0)
    have hini : VL γ.pr w ((Array.range (len * i.size)).map (zv.cells[· % zv.cells.size]!)).toList (List.replicate (len * i.size) .undef) := VL.of_at (by simp) fun j x c hx _ => by
      rw [List.getElem?_replicate] at hx
      split at hx
      · cases hx; exact trivial
      · cases hx
    have hini1 : ∀ u ∈ ((Array.range (len * i.size)).map (zv.cells[· % zv.cells.size]!)).toList, u.oneCell' = true := by
      intro u hu
      rw [Array.mem_toList_iff, Array.mem_map] at hu
      obtain ⟨j, _, rfl⟩ := hu
      have hlt : j % zv.cells.size < zv.cells.size := Nat.mod_lt _ (by omega)
      have : zv.cells[j % zv.cells.size]! = zv.cells[j % zv.cells.size] := by simp [hlt]
      rw [this]
      exact hone _ (Array.getElem_mem hlt)
    obtain ⟨ds, k1, k2, k3, k4⟩ := fill_sound hf (vp_parts hrel.eval ps.toList) hini hini1
    have hrun := run_buildSlice (P := P) w t e len (ps.map fun (i, x) => (i, a.eval x)) ds i zv hu hi hzv (by omega) hpos (by simpa using k1)
    have hds : ds.size = len * i.size := by rw [k4]; simp
    have hown : (w.alloc (.cells ds e)).ownsRow w.heap.size e i.size (.slice (some ⟨w.heap.size, 0, none⟩) len len) len ds.toList :=
      ⟨by simpa using hds, .inr ⟨w.heap.size, len, ds, rfl, Nat.le_refl _, heap_alloc_new w _, Nat.le_refl _, by
        have : len ≤ len * i.size := Nat.le_mul_of_pos_right _ h0
        simp only [maxLen]; omega, hds, by rw [← hds, ← Array.length_toList]; exact List.take_length⟩⟩
    have hlm : len ≤ maxLen := by
      have : len ≤ len * i.size := Nat.le_mul_of_pos_right _ h0
      simp only [maxLen]; omega
    have hbel := (Below.refl w.heap.size w).alloc (Nat.le_refl _) (.cells ds e)
    have hV : V (fun b j => γ.pr b j ∨ (b = w.heap.size ∧ j < len * i.size)) (w.alloc (.cells ds e)) (.slice (some ⟨w.heap.size, 0, none⟩) len len) (.row none i.size len xs) :=
      V_own hown (Nat.le_refl _) hlm (VL.mono (fun b j u hp hc => ⟨.inl hp, by rw [hbel.cell (hrel.plt b j hp)]; exact hc⟩) xs k2) k3 (fun j hj => .inr ⟨rfl, hj⟩) none
    obtain ⟨γ', b1, b2⟩ := rel_fresh (e := e) (pr' := fun b j => γ.pr b j ∨ (b = w.heap.size ∧ j < len * i.size)) hrel hab hlt' hbel (fun b i h => .inl h) (fun b j h => by
      rcases h with h | ⟨h, _⟩
      · exact .inl h
      · exact .inr ⟨by omega, by simp; omega⟩) hV (.inr ⟨_, w.heap.size, hown, .inr rfl, Nat.le_refl _, by simp, fun j h => by
        rcases h with h | ⟨_, h⟩
        · exact absurd (hrel.plt _ _ h) (by omega)
        · exact h⟩)
    refine wp_value (by rw [hop]; exact v_run hrun) ?_
    rw [hdst]
    subst hs
    exact hK γ' _ _ b1 b2

theorem append_step (hrel : Rel γ w0 s a w) {t t' ty : TypeId} {x1 x2 : Operand} {cmd : Cmd} (hop : ∀ c w', (Builtin.append_ #[t, t'] ty #[a.eval x1, a.eval x2]).run P w = .ok c w' → (execOp a.eval o).run P w = .ok (.value c) w')
    (hc : cmdAppend P t t' (s.eval x1) (s.eval x2) = some cmd) (hs : s.apply F o.dst cmd = some s') (hlog : ∀ p ∈ s'.log, p) (hK : ∀ γ' a' w', GExt γ γ' → Rel γ' w0 s' a' w' → K a' w') : o.wp P a w K Q := by
  unfold cmdAppend at hc
  split at hc
  case h_2 => cases hc
  rename_i e htt he
  have htt : t = t' := Nat.eq_of_beq_eq_true htt
  subst htt
  split at hc
  case h_2 => cases hc
  rename_i i z hi hz
  have hE1 := hrel.eval x1
  have hE2 := (hrel.eval x2).plain
  split at hc
  · rename_i m ys d e' size n xs hr hx1
    split at hc
    case isFalse => cases hc
    rename_i hcond
    obtain ⟨rfl, rfl, h0, hzl, hf⟩ := hcond
    simp only [Option.some.injEq] at hc; subst hc
    simp only [St.apply] at hs
    split at hs
    case h_2 => cases hs
    rename_i len tt hlen _ hdst
    split at hs
    case h_2 => cases hs
    rename_i hlt
    simp only [Option.some.injEq] at hs
    have hl : len = n * i.size := hlog _ (by rw [← hs]; simp)
    subst hl
    rw [hx1] at hE1
    subst hs
    exact step_append_more hrel hop he hi hz hr hE2 h0 hzl hf hE1 hlen hdst (by simpa [Nat.blt_eq] using hlt) fun γ' a' w' e hr => hK γ' a' w' e (hr.withLog _)
  · rename_i m ys hr hx1
    split at hc
    case isFalse => cases hc
    rename_i hcond
    obtain ⟨h0, hzl, hf⟩ := hcond
    simp only [Option.some.injEq] at hc; subst hc
    simp only [St.apply] at hs
    split at hs
    case h_2 => cases hs
    rename_i d hdst
    split at hs
    case h_2 => cases hs
    rename_i hab _ hlt
    simp only [Option.some.injEq] at hs
    rw [hx1] at hE1
    obtain ⟨A, e1⟩ := hE1
    rw [e1] at hop
    subst hs
    exact step_append_new hrel hop he hi hz hr hE2 h0 hzl hf hdst hab (by simpa [Nat.blt_eq] using hlt) hK
  · rename_i m ys hr hx1
    split at hc
    case isFalse => cases hc
    rename_i hcond
    obtain ⟨h0, hzl, hf⟩ := hcond
    simp only [Option.some.injEq] at hc; subst hc
    simp only [St.apply] at hs
    split at hs
    case h_2 => cases hs
    rename_i d hdst
    split at hs
    case h_2 => cases hs
    rename_i hab _ hlt
    simp only [Option.some.injEq] at hs
    have e1 := ev_sc hrel.eval hx1
    rw [e1] at hop
    subst hs
    exact step_append_new hrel hop he hi hz hr hE2 h0 hzl hf hdst hab (by simpa [Nat.blt_eq] using hlt) hK
  · cases hc
end
end Go.Proofs.Ytlekojbcaelpiaa

/- One operation of a region: the law. -/
namespace Go.Proofs.Ytlekojbcaelpiaa
open Go.RowKit

section
variable {P : Program} {γ : Gh} {w0 w w' : World} {s s' : St} {a : Act} {F : List Nat} {K : Act → World → Prop} {Q : Exit → Act → World → Prop}

theorem wants_sound (hrel : Rel γ w0 s a w) {ops : Array Oper} {o : Oper} {b : Bool} (h : wants ops s o = some b) : Region.wanted o (yielded ops a.tmps) = b := by
  unfold wants at h
  unfold Region.wanted
  split at h
  · rename_i hg; rw [hg]; simpa using h
  · rename_i j want hg
    rw [hg]
    simp only
    split at h
    case h_2 => cases h
    rename_i t ht
    have key : ∀ v, look s.slots t = some (.sc v) → a.tmps.getD t undef = v := fun v hv => hrel.slot t _ hv
    have hy : yielded ops a.tmps j = match a.tmps[t]? with | some (.bool b) => some b | _ => none := by
      unfold yielded; rw [ht]; rfl
    have hget : ∀ v, a.tmps.getD t undef = v → v ≠ undef → a.tmps[t]? = some v := fun v hv hne => by
      rcases Nat.lt_or_ge t a.tmps.size with hlt | hge
      · rw [Array.getElem?_eq_getElem hlt]
        rw [← hv]; simp [Array.getD, hlt]
      · exfalso; apply hne; rw [← hv]; simp [Array.getD, Nat.not_lt.2 hge]
    rw [hy]
    split at h
    · rename_i b' hl
      have hv := key _ hl
      have := hget _ hv (by simp [undef])
      rw [this]
      simp only [Option.some.injEq] at h
      subst h
      cases b' <;> cases want <;> rfl
    · rename_i v hnb hl
      have hv := key _ hl
      simp only [Option.some.injEq] at h
      subst h
      split
      · rename_i b' hh
        have : a.tmps.getD t undef = .bool b' := by
          have hlt : t < a.tmps.size := (Array.getElem?_eq_some_iff.1 hh).1
          have := (Array.getElem?_eq_some_iff.1 hh).2
          simp [Array.getD, hlt, this]
        rw [hv] at this
        subst this
        exact (hnb b' rfl).elim
      · rfl
    · cases h

theorem op_builtin {o : Oper} {c : Call} {b : Builtin} (ho : o.op = .call c) (hb : c.callee = .builtin b) :
    (execOp a.eval o).run P w = (builtin b c.argTypes o.type (c.args.map fun | .const _ => true | _ => false) (c.args.map a.eval)).run P w := by
  simp only [execOp, ho, resolve, hb, Sem.run_bind, Sem.run_pure, Result.andThen_ok, invoke]
  rfl

theorem args_one {ev : Operand → AV} {args : Array Operand} {x : AV} (h : args.toList.map ev = [x]) : ∃ x1, args = #[x1] ∧ ev x1 = x := by
  rcases hl : args.toList with _ | ⟨x1, _ | ⟨x2, l⟩⟩ <;> rw [hl] at h <;> simp at h
  exact ⟨x1, by rw [← Array.toArray_toList (xs := args), hl], h⟩
theorem args_two {ev : Operand → AV} {args : Array Operand} {x y : AV} (h : args.toList.map ev = [x, y]) : ∃ x1 x2, args = #[x1, x2] ∧ ev x1 = x ∧ ev x2 = y := by
  rcases hl : args.toList with _ | ⟨x1, _ | ⟨x2, _ | ⟨x3, l⟩⟩⟩ <;> rw [hl] at h <;> simp at h
  exact ⟨x1, x2, by rw [← Array.toArray_toList (xs := args), hl], h.1, h.2⟩
theorem types_one {ts : Array TypeId} {t : TypeId} (h : ts.toList = [t]) : ts = #[t] := by rw [← Array.toArray_toList (xs := ts), h]
theorem types_two {ts : Array TypeId} {t u : TypeId} (h : ts.toList = [t, u]) : ts = #[t, u] := by rw [← Array.toArray_toList (xs := ts), h]

theorem put_log {t : St} {dst : Option Nat} {x : AV} (h : t.put dst x = some s') : s'.log = t.log := by
  cases dst with
  | none => simp only [St.put, Option.some.injEq] at h; subst h; rfl
  | some d =>
    simp only [St.put] at h
    split at h
    · cases h; rfl
    · cases h
theorem ret_logged {F : List Nat} {dst : Option Nat} {r : Res} {need : Prop} (hs : s.apply F dst (.ret r need) = some s') (hlog : ∀ p ∈ s'.log, p) : need := by
  simp only [St.apply] at hs
  split at hs
  · split at hs
    · cases hs; exact hlog need (by simp)
    · cases hs
  · have := put_log hs
    exact hlog need (by rw [this]; simp)

theorem call_sound {call : Nat → List AV → Option Res} {o : Oper} {c : Call} (ho : o.op = .call c) {cmd : Cmd} (hrel : Rel γ w0 s a w) (hc : cmdCall P call c o.type s.eval = some cmd)
    (hs : s.apply F o.dst cmd = some s') (hlog : ∀ p ∈ s'.log, p) (hK : ∀ γ' a' w', GExt γ γ' → Rel γ' w0 s' a' w' → K a' w') : o.wp P a w K Q := by
  unfold cmdCall at hc
  split at hc
  · rename_i b hcal
    generalize hargs : c.args.toList.map s.eval = xs at hc
    generalize hty : c.argTypes.toList = ts at hc
    unfold cmdBuiltin at hc
    split at hc
    · rename_i x t
      obtain ⟨x1, h1, h2⟩ := args_one hargs
      have ht := types_one hty
      have hval : ∃ v, cmd = .val v := by
        unfold cmdLen at hc
        split at hc <;> first | (simp only [Option.map_eq_some_iff] at hc; obtain ⟨_, _, rfl⟩ := hc; exact ⟨_, rfl⟩) | cases hc
      obtain ⟨v, rfl⟩ := hval
      rw [← h2] at hc
      obtain ⟨u, hr, hv⟩ := vs_len hrel.eval hc
      refine step_val hrel ?_ hv hs hK
      rw [op_builtin ho hcal, h1, ht]
      simp only [builtin, List.map_toArray, List.map_cons, List.map_nil]
      exact v_run hr
    · rename_i x1' x2' t t'
      obtain ⟨x1, x2, h1, h2, h3⟩ := args_two hargs
      have ht := types_two hty
      rw [← h2, ← h3] at hc
      refine append_step (ty := o.type) hrel (fun u w' hr => ?_) hc hs hlog hK
      rw [op_builtin ho hcal, h1, ht]
      simp only [builtin, List.map_toArray, List.map_cons, List.map_nil]
      exact v_run hr
    all_goals first | (cases hc; done) | skip
    all_goals
      simp only [Option.bind_eq_some_iff, Option.map_eq_some_iff] at hc
      obtain ⟨vs, hvs, v, hp, rfl⟩ := hc
      rw [← hargs] at hvs
      have := scs_args hrel.eval c.args.toList hvs
      refine step_val hrel (c := v) ?_ (show AVR γ s.lens w v (.sc v) from rfl) hs hK
      rw [op_builtin ho hcal]
      have e : c.args.map a.eval = vs.toArray := by rw [← this]; exact (Array.toArray_toList (xs := c.args.map a.eval)).symm.trans (by rw [Array.toList_map])
      have e2 : c.argTypes = ts.toArray := by rw [← hty]
      simp only [builtin, e, e2]
      exact v_run (peek_run hp w)
  · rename_i f hcal
    unfold cmdValue at hc
    split at hc
    case h_2 => cases hc
    rename_i g fst cap hf
    split at hc
    case h_2 => cases hc
    rename_i hf1 hf2
    simp only [Option.map_eq_some_iff] at hc
    obtain ⟨r, hr, rfl⟩ := hc
    have e1 := ev_sc hrel.eval hf
    have q1 : fst = #[] := by rw [← Array.toArray_toList (xs := fst), hf1]
    have q2 : cap = #[] := by rw [← Array.toArray_toList (xs := cap), hf2]
    subst q1; subst q2
    have hok : Ok P g ((c.args.toList.map s.eval).map plain) r := ret_logged hs hlog
    refine step_call hrel hok (c.args.toList.map a.eval) (vl_args hrel.eval _) ?_ hs hK
    have e : c.args.map a.eval = (c.args.toList.map a.eval).toArray := (Array.toArray_toList (xs := c.args.map a.eval)).symm.trans (by rw [Array.toList_map])
    simp only [execOp, ho, resolve, hcal, e1, Deferred.ofValue, Sem.run_bind, Sem.run_pure, Result.andThen_ok, invoke, e]
    simp
  · cases hc

theorem cmd_sound {call : Orc} {o : Oper} (hrel : Rel γ w0 s a w) {cmd : Cmd} (hc : cmdOf P call s.eval o = some cmd)
    (hs : s.apply F o.dst cmd = some s') (hlog : ∀ p ∈ s'.log, p) (hK : ∀ γ' a' w', GExt γ γ' → Rel γ' w0 s' a' w' → K a' w') : o.wp P a w K Q := by
  have E := hrel.eval
  obtain ⟨dst, op, type, pos, after, guard⟩ := o
  cases op <;> simp only [cmdOf, reduceCtorEq] at hc
  case move x =>
    simp only [Option.some.injEq] at hc; subst hc
    exact step_val hrel (by simp only [execOp, Sem.run_pure]) (E x) hs hK
  case assign x =>
    simp only [Option.some.injEq] at hc; subst hc
    exact step_val hrel (by simp only [execOp, Sem.run_pure]) (E x) hs hK
  case pick c x y =>
    split at hc
    case h_2 => cases hc
    rename_i b hcv
    simp only [Option.some.injEq] at hc; subst hc
    have := ev_sc E hcv
    refine step_val hrel (c := if b then a.eval x else a.eval y) (by simp [execOp, this, asBool]) ?_ hs hK
    cases b
    · exact E y
    · exact E x
  case alloc e =>
    simp only [cmdAlloc, Option.map_eq_some_iff] at hc
    obtain ⟨xs, hz, rfl⟩ := hc
    obtain ⟨i, zv, hi', hzv, hzc⟩ := zero_sound hz
    refine box_step hrel (v := zv) ?_ (fun γ' w' h => acells_sound hzc rfl) hs hK
    simp [execOp, Instr.alloc, zeroValue, typeInfo, hi', hzv, newVar, newRow]
  case box e x =>
    simp only [cmdBox, Option.map_eq_some_iff] at hc
    obtain ⟨xs, hz, rfl⟩ := hc
    refine box_step hrel (v := a.eval x) ?_ (fun γ' w' h => acells_sound hz (h.eval x)) hs hK
    simp [execOp, Instr.box, newVar, newRow]
  case build t ps =>
    have hval : ∃ v, cmd = .val v := by
      unfold cmdBuild at hc
      split at hc
      · split at hc
        · simp only [Option.map_eq_some_iff] at hc; obtain ⟨_, _, rfl⟩ := hc; exact ⟨_, rfl⟩
        · cases hc
      · cases hc
    obtain ⟨v, rfl⟩ := hval
    obtain ⟨c, hr, hv⟩ := vs_build E hc
    exact step_val hrel (v_run hr) hv hs hK
  case buildSlice t len ps => exact slice_step hrel rfl hc hs hK
  case load t x =>
    have hc' := hc
    unfold cmdLoad at hc
    split at hc
    · rename_i n d off h1 h2 hx
      simp only [Option.some.injEq] at hc; subst hc
      exact step_load hrel (t := t) (x := x) rfl hx h1 (fun _ => h2) hs hK
    · rename_i d off h1 hx
      simp only [Option.some.injEq] at hc; subst hc
      exact step_load hrel (t := t) (x := x) rfl hx h1 (fun h => by cases h) hs hK
    · simp only [Option.map_eq_some_iff] at hc
      obtain ⟨ys, _, rfl⟩ := hc
      obtain ⟨c, hr, hv⟩ := vs_load E hc'
      exact step_val hrel (v_run hr) hv hs hK
    · simp only [Option.some.injEq] at hc; subst hc
      obtain ⟨c, hr, hv⟩ := vs_load E hc'
      exact step_val hrel (v_run hr) hv hs hK
    · cases hc
  case store t x v =>
    unfold cmdStore at hc
    split at hc
    case h_2 => cases hc
    rename_i n d off ys h1 hx hcv
    split at hc
    case h_2 => cases hc
    rename_i hn
    have hn := Nat.eq_of_beq_eq_true hn
    subst hn
    simp only [Option.some.injEq] at hc; subst hc
    exact step_store hrel (t := t) (x := x) (v := v) rfl hx h1 hcv hs hK
  case fieldAddr t x k =>
    have hval : ∃ v, cmd = .val v := by
      unfold cmdFieldAddr at hc
      split at hc
      · split at hc <;> first | (simp only [Option.some.injEq] at hc; subst hc; exact ⟨_, rfl⟩) | cases hc
      · cases hc
    obtain ⟨v, rfl⟩ := hval
    obtain ⟨c, hr, hv⟩ := vs_fieldAddr E hc
    exact step_val hrel (v_run hr) hv hs hK
  case field t x k =>
    have hval : ∃ v, cmd = .val v := by
      unfold cmdField at hc
      split at hc
      · simp only [Option.map_eq_some_iff] at hc; obtain ⟨_, _, rfl⟩ := hc; exact ⟨_, rfl⟩
      · split at hc
        · simp only [Option.map_eq_some_iff] at hc; obtain ⟨_, _, rfl⟩ := hc; exact ⟨_, rfl⟩
        · simp only [Option.some.injEq] at hc; subst hc; exact ⟨_, rfl⟩
        · cases hc
      · cases hc
    obtain ⟨v, rfl⟩ := hval
    obtain ⟨c, hr, hv⟩ := vs_field E hc
    exact step_val hrel (v_run hr) hv hs hK
  case indexAddr t x i =>
    have hval : ∃ v, cmd = .val v := by
      unfold cmdIndexAddr at hc
      split at hc
      · split at hc
        · simp only [Option.some.injEq] at hc; subst hc; exact ⟨_, rfl⟩
        · cases hc
      · split at hc
        · split at hc
          · simp only [Option.some.injEq] at hc; subst hc; exact ⟨_, rfl⟩
          · cases hc
        · cases hc
      · cases hc
    obtain ⟨v, rfl⟩ := hval
    obtain ⟨c, hr, hv⟩ := vs_indexAddr E hc
    exact step_val hrel (v_run hr) hv hs hK
  case slice t x lo hg mx =>
    have hval : ∃ v, cmd = .val v := by
      unfold cmdSlice at hc
      split at hc
      case h_2 => cases hc
      split at hc
      case h_2 => cases hc
      split at hc
      · split at hc
        · simp only [Option.some.injEq] at hc; subst hc; exact ⟨_, rfl⟩
        · cases hc
      · split at hc
        · split at hc
          · simp only [Option.some.injEq] at hc; subst hc; exact ⟨_, rfl⟩
          · cases hc
        · cases hc
      · cases hc
    obtain ⟨v, rfl⟩ := hval
    obtain ⟨c, hr, hv⟩ := vs_slice E hc
    exact step_val hrel (v_run hr) hv hs hK
  case extract x i =>
    split at hc
    case h_2 => cases hc
    rename_i xs hx
    have hE := E x
    rw [hx] at hE
    obtain ⟨cs, e1, e2⟩ := hE
    split at hc
    · cases hc
    · rename_i y hnt hy
      simp only [Option.some.injEq] at hc; subst hc
      obtain ⟨c, k1, k2⟩ := e2.at_ hy
      refine step_val hrel (c := c) ?_ (AVR.of_AVR1 (fun zs hz => ?_) k2) hs hK
      · simp only [execOp]
        exact v_run (by simp [Instr.extract, e1, k1])
      · subst hz; exact (hnt zs rfl).elim
    · cases hc
  case binOp op t x y u =>
    split at hc
    case h_2 => cases hc
    rename_i b c hx hy
    simp only [Option.map_eq_some_iff] at hc
    obtain ⟨r, hp, rfl⟩ := hc
    have e1 := ev_sc E hx
    have e2 := ev_sc E hy
    refine step_val hrel (c := r) ?_ (show AVR γ s.lens w r (.sc r) from rfl) hs hK
    simp only [execOp, e1, e2]
    exact v_run (peek_run hp w)
  case unOp op t x =>
    split at hc
    case h_2 => cases hc
    rename_i b hx
    simp only [Option.map_eq_some_iff] at hc
    obtain ⟨r, hp, rfl⟩ := hc
    have e1 := ev_sc E hx
    refine step_val hrel (c := r) ?_ (show AVR γ s.lens w r (.sc r) from rfl) hs hK
    simp only [execOp, e1]
    exact v_run (peek_run hp w)
  case convert src dst' x =>
    split at hc
    case h_2 => cases hc
    rename_i b hx
    simp only [Option.map_eq_some_iff] at hc
    obtain ⟨r, hp, rfl⟩ := hc
    have e1 := ev_sc E hx
    refine step_val hrel (c := r) ?_ (show AVR γ s.lens w r (.sc r) from rfl) hs hK
    simp only [execOp, e1]
    exact v_run (peek_run hp w)
  case call c => exact call_sound rfl hrel hc hs hlog hK

theorem step_sound {call : Orc} {ops : Array Oper} {i : Nat} {o : Oper} (hi : ops[i]? = some o) (hrel : Rel γ w0 s a w)
    (hs : stepOp P call ops F o s = some s') (hlog : ∀ p ∈ s'.log, p) (hK : ∀ γ' a' w', GExt γ γ' → Rel γ' w0 s' a' w' → K a' w') : wpOp P ops Q i K a w := by
  unfold stepOp at hs
  unfold wpOp
  rw [hi]
  simp only
  split at hs
  case h_3 => cases hs
  case h_2 hw =>
    rw [wants_sound hrel hw]
    simp only [Bool.false_eq_true, if_false]
    exact hK γ _ _ (GExt.refl γ) (hrel.put hs rfl)
  rename_i hw
  rw [wants_sound hrel hw]
  simp only [if_true]
  refine .inl ?_
  split at hs
  · rename_i c hh
    simp only [Option.map_eq_some_iff] at hs
    obtain ⟨t, ht, rfl⟩ := hs
    have hc : cmdOf P call s.eval o = some c := hlog _ (by simp)
    exact cmd_sound hrel hc ht (fun p hp => hlog p (by simp [hp])) fun γ' a' w' e hr => hK γ' a' w' e (hr.withLog _)
  · simp only [Option.bind_eq_some_iff] at hs
    obtain ⟨cmd, hc, hs⟩ := hs
    exact cmd_sound hrel hc hs hlog hK
end
end Go.Proofs.Ytlekojbcaelpiaa

/- Two operations that do not wait for each other may change places. -/
namespace Go.Proofs.Ytlekojbcaelpiaa
open Go.RowKit

def Cmd.ro : Cmd → Option Nat
  | .load d .. => some d
  | .store d .. => some d
  | _ => none
def Cmd.wo : Cmd → Option Nat
  | .store d .. => some d
  | _ => none
def Cmd.rl : Cmd → Option Nat
  | .grow d .. => some d
  | _ => none
def Cmd.names : Cmd → Bool
  | .box .. | .fresh .. => true
  | .ret r _ => r.own.isSome
  | _ => false
def Cmd.boxes : Cmd → Bool
  | .box .. => true
  | _ => false

structure Eff (F : List Nat) (dst : Option Nat) (c : Cmd) (s : St) (A : List (Nat × AV)) (B : List (Nat × (Nat × List AV))) (C : List (Nat × Nat)) (D : List Prop) : Prop where
  keyA : ∀ p ∈ A, dst = some p.1
  keyB : ∀ p ∈ B, c.wo = some p.1 ∨ (c.boxes = true ∧ dst = some p.1)
  keyC : ∀ p ∈ C, c.rl = some p.1 ∨ (c.names = true ∧ dst = some p.1)
  avA : ∀ f ∈ F, ∀ p ∈ A, ment f p.2 = false
  avB : ∀ f ∈ F, ∀ p ∈ B, p.1 ≠ f ∧ ∀ x ∈ p.2.2, ment f x = false
  avC : ∀ f ∈ F, ∀ p ∈ C, p.1 ≠ f
  rdO : ∀ d, c.ro = some d → d ∉ F
  rdL : ∀ d, c.rl = some d → d ∉ F
  abs : ∀ d, c.names = true → dst = some d → s.absent d = true
  again : ∀ s2 : St, s2.n = s.n → (∀ d, c.ro = some d → look s2.objs d = look s.objs d) → (∀ d, c.rl = some d → look s2.lens d = look s.lens d) → (∀ d, c.names = true → dst = some d → s2.absent d = true) →
    s2.apply F dst c = some { n := s2.n, slots := A ++ s2.slots, objs := B ++ s2.objs, lens := C ++ s2.lens, log := D ++ s2.log }

theorem beq_false' {d f : Nat} (h : d ≠ f) : Nat.beq d f = false := by rw [← Bool.not_eq_true, Nat.beq_eq]; exact h
theorem avoids_iff {F : List Nat} {x : AV} : avoids F x = true ↔ ∀ f ∈ F, ment f x = false := by simp [avoids]
theorem avoidsN_iff {F : List Nat} {n : Nat} : avoidsN F n = true ↔ ∀ f ∈ F, n ≠ f := by
  simp only [avoidsN, List.all_eq_true, Bool.not_eq_true', ← Bool.not_eq_true, Nat.beq_eq]
theorem ment1_plain1 (f : Nat) (x : AV) : ment1 f (plain1 x) = false := by cases x <;> simp [plain1, ment1]
theorem ment_plain (f : Nat) (x : AV) : ment f (plain x) = false := by
  cases x with
  | tup xs =>
    simp only [plain, ment, List.any_map]
    rw [← Bool.not_eq_true, List.any_eq_true]
    rintro ⟨y, _, h⟩
    simp only [Function.comp, ment1_plain1] at h
    cases h
  | _ => simp [plain, plain1, ment, ment1]
theorem ment_tag {f d e : Nat} (h : d ≠ f) (x : AV) : ment f (tag d e (plain x)) = false := by
  cases x with
  | tup xs =>
    have hp := ment_plain f (.tup xs)
    cases xs with
    | nil => rfl
    | cons y ys =>
      cases y with
      | row t s n zs =>
        simp only [plain, List.map_cons, plain1, tag, ment, List.any_cons, ment1, beq_false' h, Bool.false_or] at hp ⊢
        exact hp
      | _ => exact hp
  | row t s n xs => simp [plain, plain1, tag, ment, ment1, beq_false' h]
  | _ => simp [plain, plain1, tag, ment, ment1]
theorem put_eff {F : List Nat} {s s' : St} {dst : Option Nat} {v : AV} (h : s.put dst v = some s') (hv : avoids F v = true) :
    ∃ A : List (Nat × AV), s' = { s with slots := A ++ s.slots } ∧ (∀ p ∈ A, dst = some p.1) ∧ (∀ f ∈ F, ∀ p ∈ A, ment f p.2 = false) ∧ ∀ s2 : St, s2.n = s.n → s2.put dst v = some { s2 with slots := A ++ s2.slots } := by
  cases dst with
  | none => simp only [St.put, Option.some.injEq] at h; subst h; exact ⟨[], rfl, by simp, by simp, fun s2 _ => rfl⟩
  | some d =>
    simp only [St.put] at h
    split at h
    · rename_i hlt
      simp only [Option.some.injEq] at h; subst h
      refine ⟨[(d, v)], rfl, by simp, fun f hf p hp => ?_, fun s2 h2 => ?_⟩
      · simp at hp; subst hp; exact avoids_iff.1 hv f hf
      · simp only [St.put, h2, hlt]; rfl
    · cases h

theorem apply_eff {F : List Nat} {s s' : St} {dst : Option Nat} {c : Cmd} (h : s.apply F dst c = some s') :
    ∃ A B C D, s' = { n := s.n, slots := A ++ s.slots, objs := B ++ s.objs, lens := C ++ s.lens, log := D ++ s.log } ∧ Eff F dst c s A B C D := by
  cases c with
  | val v =>
    simp only [St.apply] at h
    split at h
    case h_2 => cases h
    rename_i hv
    obtain ⟨A, e, k1, k2, k3⟩ := put_eff h hv
    refine ⟨A, [], [], [], by simpa using e, ⟨k1, by simp, by simp, k2, by simp, by simp, by simp [Cmd.ro], by simp [Cmd.rl], by simp [Cmd.names], fun s2 h1 _ _ _ => ?_⟩⟩
    simp only [St.apply, hv]
    simpa using k3 s2 h1
  | load d off n agg =>
    simp only [St.apply] at h
    split at h
    case h_2 => cases h
    rename_i ty xs hobj hav
    have hd : d ∉ F := fun hd => (avoidsN_iff.1 hav d hd) rfl
    cases agg with
    | true =>
      simp only [Option.bind_eq_some_iff] at h
      obtain ⟨ys, ht, h⟩ := h
      split at h
      case h_2 => cases h
      rename_i hv
      obtain ⟨A, e, k1, k2, k3⟩ := put_eff h hv
      refine ⟨A, [], [], [], by simpa using e, ⟨k1, by simp, by simp, k2, by simp, by simp, fun d' he => by simp [Cmd.ro] at he; subst he; exact hd, by simp [Cmd.rl], by simp [Cmd.names], fun s2 h1 h2 _ _ => ?_⟩⟩
      simp only [St.apply, h2 d rfl, hobj, hav, ht, Option.bind_some, hv]
      simpa using k3 s2 h1
    | false =>
      simp only at h
      split at h
      case h_2 => cases h
      rename_i y rest hdr
      split at h
      case h_2 => cases h
      rename_i hv
      obtain ⟨A, e, k1, k2, k3⟩ := put_eff h hv
      refine ⟨A, [], [], [], by simpa using e, ⟨k1, by simp, by simp, k2, by simp, by simp, fun d' he => by simp [Cmd.ro] at he; subst he; exact hd, by simp [Cmd.rl], by simp [Cmd.names], fun s2 h1 h2 _ _ => ?_⟩⟩
      simp only [St.apply, h2 d rfl, hobj, hav, hdr, hv]
      simpa using k3 s2 h1
  | store d off ys =>
    simp only [St.apply] at h
    split at h
    case h_2 => cases h
    rename_i ty xs hobj hav hys
    have hd : d ∉ F := fun hd => (avoidsN_iff.1 hav d hd) rfl
    split at h
    case h_2 => cases h
    rename_i hle hxs
    simp only [Option.some.injEq] at h; subst h
    have hm : ∀ f ∈ F, ∀ x ∈ xs, ment f x = false := fun f hf x hx => avoids_iff.1 (List.all_eq_true.1 hxs x hx) f hf
    · refine ⟨[], [(d, (ty, xs.take off ++ ys ++ xs.drop (off + ys.length)))], [], [], rfl, ⟨by simp, by simp [Cmd.wo], by simp, by simp, ?_, by simp, fun d' he => by simp [Cmd.ro] at he; subst he; exact hd, by simp [Cmd.rl], by simp [Cmd.names], fun s2 h1 h2 _ _ => ?_⟩⟩
      · intro f hf p hp
        simp only [List.mem_singleton] at hp
        subst hp
        refine ⟨fun e => hd (by simp only at e; rw [e]; exact hf), fun x hx => ?_⟩
        simp only [List.mem_append] at hx
        rcases hx with (hx | hx) | hx
        · exact hm f hf x (List.mem_of_mem_take hx)
        · exact avoids_iff.1 (List.all_eq_true.1 hys x hx) f hf
        · exact hm f hf x (List.mem_of_mem_drop hx)
      · simp only [St.apply, h2 d rfl, hobj, hav, hys, hle, hxs]; rfl
  | box ty xs =>
    simp only [St.apply] at h
    split at h
    case h_2 => cases h
    rename_i d hxs
    split at h
    case h_2 => cases h
    rename_i hab hav hlt
    simp only [Option.some.injEq] at h; subst h
    refine ⟨[(d, .ptr d 0)], [(d, (ty, xs))], [], [], rfl, ⟨by simp, by simp [Cmd.boxes], by simp, ?_, ?_, by simp, by simp [Cmd.ro], by simp [Cmd.rl], fun d' _ he => by cases he; exact hab, fun s2 h1 _ _ h4 => ?_⟩⟩
    · intro f hf p hp
      simp only [List.mem_singleton] at hp; subst hp
      simp only [ment, ment1]; exact beq_false' (avoidsN_iff.1 hav f hf)
    · intro f hf p hp
      simp only [List.mem_singleton] at hp; subst hp
      exact ⟨avoidsN_iff.1 hav f hf, fun x hx => avoids_iff.1 (List.all_eq_true.1 hxs x hx) f hf⟩
    · simp only [St.apply, hxs, h4 d rfl rfl, hav, h1, hlt]; rfl
  | fresh e size n xs =>
    simp only [St.apply] at h
    split at h
    case h_2 => cases h
    rename_i d
    split at h
    case h_2 => cases h
    rename_i hab hav hlt
    simp only [Option.some.injEq] at h; subst h
    refine ⟨[(d, .row (some (d, e)) size n xs)], [], [(d, n * size)], [], rfl, ⟨by simp, by simp, by simp [Cmd.names], ?_, by simp, ?_, by simp [Cmd.ro], by simp [Cmd.rl], fun d' _ he => by cases he; exact hab, fun s2 h1 _ _ h4 => ?_⟩⟩
    · intro f hf p hp
      simp only [List.mem_singleton] at hp; subst hp
      simp only [ment, ment1]; exact beq_false' (avoidsN_iff.1 hav f hf)
    · intro f hf p hp
      simp only [List.mem_singleton] at hp; subst hp
      exact avoidsN_iff.1 hav f hf
    · simp only [St.apply, h4 d rfl rfl, hav, h1, hlt]; rfl
  | grow d e size n xs m ys =>
    simp only [St.apply] at h
    split at h
    case h_2 => cases h
    rename_i len t hlen hav
    have hd : d ∉ F := fun hd => (avoidsN_iff.1 hav d hd) rfl
    split at h
    case h_2 => cases h
    rename_i hlt
    simp only [Option.some.injEq] at h; subst h
    refine ⟨[(t, .row (some (d, e)) size (n + m) (xs ++ ys))], [], [(d, (n + m) * size)], [len = n * size], rfl, ⟨by simp, by simp, by simp [Cmd.rl], ?_, by simp, ?_, by simp [Cmd.ro], fun d' he => by simp [Cmd.rl] at he; subst he; exact hd, by simp [Cmd.names], fun s2 h1 _ h3 _ => ?_⟩⟩
    · intro f hf p hp
      simp only [List.mem_singleton] at hp; subst hp
      simp only [ment, ment1]; exact beq_false' (avoidsN_iff.1 hav f hf)
    · intro f hf p hp
      simp only [List.mem_singleton] at hp; subst hp
      exact avoidsN_iff.1 hav f hf
    · simp only [St.apply, h3 d rfl, hlen, hav, h1, hlt]; rfl
  | ret r need =>
    have plainCase : (∀ e d, r.own = some e → dst = some d → False) → St.put { s with log := need :: s.log } dst (plain r.v) = some s' → (∀ s2 : St, s2.apply F dst (.ret r need) = St.put { s2 with log := need :: s2.log } dst (plain r.v)) →
        ∃ A B C D, s' = { n := s.n, slots := A ++ s.slots, objs := B ++ s.objs, lens := C ++ s.lens, log := D ++ s.log } ∧ Eff F dst (.ret r need) s A B C D := by
      intro hno h e2
      obtain ⟨A, e, k1, k2, k3⟩ := put_eff (F := F) h (avoids_iff.2 fun f _ => ment_plain f _)
      refine ⟨A, [], [], [need], by simpa using e, ⟨k1, by simp, by simp, k2, by simp, by simp, by simp [Cmd.ro], by simp [Cmd.rl], fun d hn hd => ?_, fun s2 h1 _ _ _ => ?_⟩⟩
      · exfalso
        simp only [Cmd.names, Option.isSome_iff_exists] at hn
        obtain ⟨e', he⟩ := hn
        exact hno e' d he hd
      · rw [e2]
        simpa using k3 { s2 with log := need :: s2.log } h1
    rcases hoe : r.own with _ | e
    · have e2 : ∀ s2 : St, s2.apply F dst (.ret r need) = St.put { s2 with log := need :: s2.log } dst (plain r.v) := fun s2 => by simp only [St.apply, hoe]
      exact plainCase (fun e d he _ => by rw [hoe] at he; cases he) (by rw [← e2]; exact h) e2
    · rcases dst with _ | d
      · have e2 : ∀ s2 : St, s2.apply F none (.ret r need) = St.put { s2 with log := need :: s2.log } none (plain r.v) := fun s2 => by simp only [St.apply, hoe]
        exact plainCase (fun e d he hd => by cases hd) (by rw [← e2]; exact h) e2
      · simp only [St.apply, hoe] at h
        split at h
        case h_2 => cases h
        rename_i len hlen hab hav hlt
        simp only [Option.some.injEq] at h; subst h
        refine ⟨[(d, tag d e (plain r.v))], [], [(d, len)], [need], rfl, ⟨by simp, by simp, by simp [Cmd.names, hoe], ?_, by simp, ?_, by simp [Cmd.ro], by simp [Cmd.rl], fun d' _ he => by cases he; exact hab, fun s2 h1 _ _ h4 => ?_⟩⟩
        · intro f hf p hp
          simp only [List.mem_singleton] at hp; subst hp
          exact ment_tag (avoidsN_iff.1 hav f hf) _
        · intro f hf p hp
          simp only [List.mem_singleton] at hp; subst hp
          exact avoidsN_iff.1 hav f hf
        · simp only [St.apply, hoe, hlen, h4 d (by simp [Cmd.names, hoe]) rfl, hav, h1, hlt]; rfl
end Go.Proofs.Ytlekojbcaelpiaa

/- Operations that change places; regions, whatever order is drawn. -/
namespace Go.Proofs.Ytlekojbcaelpiaa
open Go.RowKit

structure Eqv (s s' : St) : Prop where
  n : s.n = s'.n
  slots : ∀ t, look s.slots t = look s'.slots t
  objs : ∀ t, look s.objs t = look s'.objs t
  lens : ∀ t, look s.lens t = look s'.lens t
  absent : ∀ d, s.absent d = s'.absent d
  log : ∀ p, p ∈ s.log ↔ p ∈ s'.log
theorem Eqv.refl (s : St) : Eqv s s := ⟨rfl, fun _ => rfl, fun _ => rfl, fun _ => rfl, fun _ => rfl, fun _ => Iff.rfl⟩
theorem Eqv.symm {s s' : St} (h : Eqv s s') : Eqv s' s := ⟨h.n.symm, fun t => (h.slots t).symm, fun t => (h.objs t).symm, fun t => (h.lens t).symm, fun t => (h.absent t).symm, fun p => (h.log p).symm⟩
theorem Eqv.trans {s s' s'' : St} (h : Eqv s s') (k : Eqv s' s'') : Eqv s s'' :=
  ⟨h.n.trans k.n, fun t => (h.slots t).trans (k.slots t), fun t => (h.objs t).trans (k.objs t), fun t => (h.lens t).trans (k.lens t), fun t => (h.absent t).trans (k.absent t), fun p => (h.log p).trans (k.log p)⟩
theorem Rel.eqv {γ : Gh} {w0 w : World} {s s' : St} {a : Act} (h : Rel γ w0 s a w) (e : Eqv s s') : Rel γ w0 s' a w := by
  have h' := h.sameLens (L := s'.lens) (fun d => (e.lens d).symm)
  exact ⟨h'.size.trans e.n, h'.defers, h'.below, h'.base, fun t x hx => h'.slot t x (by simpa [e.slots t] using hx), fun d ty xs hx => h'.obj d ty xs (by simpa [e.objs d] using hx), h'.len, h'.inj, h'.blt, h'.plt, h'.frm⟩

theorem look_append {α : Type} : ∀ (A l : List (Nat × α)) (t : Nat), look (A ++ l) t = match look A t with | some v => some v | none => look l t
  | [], l, t => rfl
  | (k, v) :: A, l, t => by
    rw [List.cons_append, look_cons, look_cons]
    by_cases h : k = t
    · simp [h]
    · rw [if_neg h, if_neg h, look_append A l t]
theorem look_none {α : Type} {A : List (Nat × α)} {t : Nat} (h : ∀ p ∈ A, p.1 ≠ t) : look A t = none := by
  cases hl : look A t with
  | none => rfl
  | some v => exact absurd rfl (h _ (look_mem hl))
theorem look_apart {α : Type} {A B l : List (Nat × α)} (h : ∀ p ∈ A, ∀ q ∈ B, p.1 ≠ q.1) (t : Nat) : look (A ++ (B ++ l)) t = look (B ++ (A ++ l)) t := by
  rw [look_append, look_append, look_append, look_append]
  cases ha : look A t with
  | none => rfl
  | some v =>
    have : look B t = none := look_none fun q hq e => h _ (look_mem ha) q hq (by simp [e])
    rw [this]
/-- what is laid on a state -/
def St.lay (s : St) (A : List (Nat × AV)) (B : List (Nat × (Nat × List AV))) (C : List (Nat × Nat)) (D : List Prop) : St := { n := s.n, slots := A ++ s.slots, objs := B ++ s.objs, lens := C ++ s.lens, log := D ++ s.log }
theorem absent_lay (s : St) (A : List (Nat × AV)) (B : List (Nat × (Nat × List AV))) (C : List (Nat × Nat)) (D : List Prop) (d : Nat) :
    (s.lay A B C D).absent d = ((A.all (fun p => !ment d p.2) && B.all (fun p => !Nat.beq p.1 d && p.2.2.all fun x => !ment d x) && C.all fun p => !Nat.beq p.1 d) && s.absent d) := by
  simp only [St.lay, St.absent, List.all_append]
  ac_rfl

section
variable {P : Program} {call : Orc}
def cmdFor (P : Program) (call : Orc) (ops : Array Oper) (o : Oper) (s : St) : Option (Cmd × List Prop) :=
  match wants ops s o with
  | some true => match call.hint o.dst with
    | some c => some (c, [cmdOf P call s.eval o = some c])
    | none => (cmdOf P call s.eval o).map fun c => (c, [])
  | some false => some (.val (.sc undef), [])
  | none => none
def addLog (l : List Prop) (t : St) : St := { t with log := l ++ t.log }
theorem stepOp_eq {ops : Array Oper} {F : List Nat} {o : Oper} {s : St} : stepOp P call ops F o s = (cmdFor P call ops o s).bind fun p => (s.apply F o.dst p.1).map (addLog p.2) := by
  unfold stepOp cmdFor
  cases wants ops s o with
  | none => rfl
  | some b =>
    cases b with
    | true =>
      simp only
      cases call.hint o.dst with
      | some c => rfl
      | none =>
        simp only
        cases cmdOf P call s.eval o with
        | none => rfl
        | some c =>
          simp only [Option.bind_some, Option.map_some]
          cases s.apply F o.dst c <;> rfl
    | false =>
      have : avoids F (.sc undef) = true := avoids_iff.2 fun f _ => rfl
      simp only [Option.bind_some, St.apply, this]
      cases s.put o.dst (.sc undef) <;> rfl

theorem cmdOf_congr {ev ev' : Operand → AV} {o : Oper} (h : ∀ x ∈ o.op.operands, ev x = ev' x) : cmdOf P call ev o = cmdOf P call ev' o := by
  obtain ⟨dst, op, type, pos, after, guard⟩ := o
  cases op <;> simp only [cmdOf] <;> simp only [Op.operands] at h
  case move x => rw [h x (by simp)]
  case assign x => rw [h x (by simp)]
  case pick c x y => rw [h c (by simp), h x (by simp), h y (by simp)]
  case box e x => rw [h x (by simp)]
  case build t ps =>
    congr 1
    refine List.map_congr_left fun p hp => ?_
    rw [h p.2 (by simp only [List.mem_toArray, List.mem_map]; exact ⟨p, hp, rfl⟩)]
  case buildSlice t n ps =>
    congr 1
    refine List.map_congr_left fun p hp => ?_
    rw [h p.2 (by simp only [List.mem_toArray, List.mem_map]; exact ⟨p, hp, rfl⟩)]
  case load t x => rw [h x (by simp)]
  case store t x v => rw [h x (by simp), h v (by simp)]
  case fieldAddr t x k => rw [h x (by simp)]
  case field t x k => rw [h x (by simp)]
  case indexAddr t x i => rw [h x (by simp), h i (by simp)]
  case slice t x lo hg mx =>
    have h1 : lo.map ev = lo.map ev' := by cases lo with | none => rfl | some q => rw [Option.map_some, Option.map_some, h q (by simp)]
    have h2 : hg.map ev = hg.map ev' := by cases hg with | none => rfl | some q => rw [Option.map_some, Option.map_some, h q (by simp)]
    have h3 : mx.map ev = mx.map ev' := by cases mx with | none => rfl | some q => rw [Option.map_some, Option.map_some, h q (by simp)]
    rw [h x (by simp), h1, h2, h3]
  case extract x i => rw [h x (by simp)]
  case binOp op t x y u => rw [h x (by simp), h y (by simp)]
  case unOp op t x => rw [h x (by simp)]
  case convert src dst x => rw [h x (by simp)]
  case call c =>
    have h1 : c.args.toList.map ev = c.args.toList.map ev' := List.map_congr_left fun x hx => h x (by simp only [Call.operands, Array.mem_append]; exact .inr (by simpa using hx))
    unfold cmdCall
    rw [h1]
    cases hc : c.callee with
    | value f => simp only; rw [h f (by simp [Call.operands, hc])]
    | invoke r m => rfl
    | builtin b => rfl

theorem cmdFor_congr {ops : Array Oper} {o : Oper} {s s' : St} (h : ∀ t ∈ o.looksAt ops, look s'.slots t = look s.slots t) : cmdFor P call ops o s' = cmdFor P call ops o s := by
  have h1 : wants ops s' o = wants ops s o := by
    unfold wants
    cases hg : o.guard with
    | none => rfl
    | some p =>
      obtain ⟨j, want⟩ := p
      simp only
      cases ht : (ops[j]?).bind (·.dst) with
      | none => rfl
      | some t =>
        simp only
        rw [h t (by simp [Oper.looksAt, hg, ht])]
  have h2 : cmdOf P call s'.eval o = cmdOf P call s.eval o := cmdOf_congr fun x hx => by
    cases x with
    | tmp t =>
      simp only [St.eval]
      rw [h t (List.mem_append_left _ (List.mem_filterMap.2 ⟨.tmp t, by simpa using hx, rfl⟩))]
    | _ => rfl
  unfold cmdFor
  rw [h1, h2]

/-- which operations give which effects -/
theorem cmd_cls {ev : Operand → AV} {o : Oper} {c : Cmd} (h : cmdOf P call ev o = some c) :
    (c.ro ≠ none → clsOf o = .load ∨ clsOf o = .store) ∧ (c.wo ≠ none → clsOf o = .store) ∧ (c.rl ≠ none → clsOf o = .append) ∧ (c.names = true → naming o = o.dst) ∧ (c.boxes = true → naming o = o.dst) := by
  have quiet : ∀ v, c = .val v → (c.ro ≠ none → clsOf o = .load ∨ clsOf o = .store) ∧ (c.wo ≠ none → clsOf o = .store) ∧ (c.rl ≠ none → clsOf o = .append) ∧ (c.names = true → naming o = o.dst) ∧ (c.boxes = true → naming o = o.dst) := by
    rintro v rfl; simp [Cmd.ro, Cmd.wo, Cmd.rl, Cmd.names, Cmd.boxes]
  obtain ⟨dst, op, type, pos, after, guard⟩ := o
  cases op <;> simp only [cmdOf, reduceCtorEq] at h
  case move x => exact quiet _ (Option.some.inj h).symm
  case assign x => exact quiet _ (Option.some.inj h).symm
  case pick c x y =>
    split at h
    · exact quiet _ (Option.some.inj h).symm
    · cases h
  case alloc e =>
    simp only [cmdAlloc, Option.map_eq_some_iff] at h
    obtain ⟨xs, _, rfl⟩ := h
    simp [Cmd.ro, Cmd.wo, Cmd.rl, naming, clsOf]
  case box e x =>
    simp only [cmdBox, Option.map_eq_some_iff] at h
    obtain ⟨xs, _, rfl⟩ := h
    simp [Cmd.ro, Cmd.wo, Cmd.rl, naming, clsOf]
  case build t ps =>
    unfold cmdBuild at h
    split at h
    · split at h
      · simp only [Option.map_eq_some_iff] at h; obtain ⟨_, _, h⟩ := h; exact quiet _ h.symm
      · cases h
    · cases h
  case buildSlice t len ps =>
    unfold cmdBuildSlice at h
    split at h
    · split at h
      · split at h
        · simp only [Option.map_eq_some_iff] at h; obtain ⟨_, _, rfl⟩ := h
          simp [Cmd.ro, Cmd.wo, Cmd.rl, naming, clsOf]
        · cases h
      · cases h
    · cases h
  case load t x =>
    unfold cmdLoad at h
    split at h
    · cases h; simp [Cmd.wo, Cmd.rl, Cmd.names, Cmd.boxes, clsOf]
    · cases h; simp [Cmd.wo, Cmd.rl, Cmd.names, Cmd.boxes, clsOf]
    · simp only [Option.map_eq_some_iff] at h; obtain ⟨_, _, h⟩ := h; exact quiet _ h.symm
    · exact quiet _ (Option.some.inj h).symm
    · cases h
  case store t x v =>
    unfold cmdStore at h
    split at h
    · split at h
      · cases h; simp [Cmd.rl, Cmd.names, Cmd.boxes, clsOf]
      · cases h
    · cases h
  case fieldAddr t x k =>
    unfold cmdFieldAddr at h
    split at h
    · split at h <;> first | exact quiet _ (Option.some.inj h).symm | cases h
    · cases h
  case field t x k =>
    unfold cmdField at h
    split at h
    · simp only [Option.map_eq_some_iff] at h; obtain ⟨_, _, h⟩ := h; exact quiet _ h.symm
    · split at h
      · simp only [Option.map_eq_some_iff] at h; obtain ⟨_, _, h⟩ := h; exact quiet _ h.symm
      · exact quiet _ (Option.some.inj h).symm
      · cases h
    · cases h
  case indexAddr t x i =>
    unfold cmdIndexAddr at h
    split at h
    · split at h
      · exact quiet _ (Option.some.inj h).symm
      · cases h
    · split at h
      · split at h
        · exact quiet _ (Option.some.inj h).symm
        · cases h
      · cases h
    · cases h
  case slice t x lo hg mx =>
    unfold cmdSlice at h
    split at h
    case h_2 => cases h
    split at h
    case h_2 => cases h
    split at h
    · split at h
      · exact quiet _ (Option.some.inj h).symm
      · cases h
    · split at h
      · split at h
        · exact quiet _ (Option.some.inj h).symm
        · cases h
      · cases h
    · cases h
  case extract x i =>
    split at h
    · split at h
      · cases h
      · exact quiet _ (Option.some.inj h).symm
      · cases h
    · cases h
  case binOp op t x y u =>
    split at h
    · simp only [Option.map_eq_some_iff] at h; obtain ⟨_, _, h⟩ := h; exact quiet _ h.symm
    · cases h
  case unOp op t x =>
    split at h
    · simp only [Option.map_eq_some_iff] at h; obtain ⟨_, _, h⟩ := h; exact quiet _ h.symm
    · cases h
  case convert src dst' x =>
    split at h
    · simp only [Option.map_eq_some_iff] at h; obtain ⟨_, _, h⟩ := h; exact quiet _ h.symm
    · cases h
  case call c' =>
    unfold cmdCall at h
    split at h
    · rename_i b hcal
      generalize c'.args.toList.map ev = xs at h
      generalize c'.argTypes.toList = ts at h
      unfold cmdBuiltin at h
      split at h
      · unfold cmdLen at h
        split at h <;> first | (simp only [Option.map_eq_some_iff] at h; obtain ⟨_, _, h⟩ := h; exact quiet _ h.symm) | cases h
      · unfold cmdAppend at h
        split at h
        case h_2 => cases h
        split at h
        case h_2 => cases h
        split at h
        · split at h
          · cases h; simp [Cmd.ro, Cmd.wo, Cmd.names, Cmd.boxes, clsOf, hcal]
          · cases h
        · split at h
          · cases h; simp [Cmd.ro, Cmd.wo, Cmd.rl, naming, clsOf, hcal]
          · cases h
        · split at h
          · cases h; simp [Cmd.ro, Cmd.wo, Cmd.rl, naming, clsOf, hcal]
          · cases h
        · cases h
      · simp only [Option.bind_eq_some_iff, Option.map_eq_some_iff] at h; obtain ⟨_, _, _, _, h⟩ := h; exact quiet _ h.symm
      · simp only [Option.bind_eq_some_iff, Option.map_eq_some_iff] at h; obtain ⟨_, _, _, _, h⟩ := h; exact quiet _ h.symm
      · cases h
    · rename_i f hcal
      unfold cmdValue at h
      split at h
      case h_2 => cases h
      split at h
      case h_2 => cases h
      simp only [Option.map_eq_some_iff] at h
      obtain ⟨r, _, rfl⟩ := h
      simp [Cmd.ro, Cmd.wo, Cmd.rl, Cmd.boxes, naming, clsOf, hcal]
    · cases h
theorem cmdFor_cls {ops : Array Oper} {s : St} {o : Oper} {c : Cmd} {l : List Prop} (h : cmdFor P call ops o s = some (c, l)) (hl : ∀ p ∈ l, p) :
    (c.ro ≠ none → clsOf o = .load ∨ clsOf o = .store) ∧ (c.wo ≠ none → clsOf o = .store) ∧ (c.rl ≠ none → clsOf o = .append) ∧ (c.names = true → naming o = o.dst) ∧ (c.boxes = true → naming o = o.dst) := by
  unfold cmdFor at h
  split at h
  · split at h
    · rename_i c' hh
      simp only [Option.some.injEq, Prod.mk.injEq] at h
      obtain ⟨rfl, rfl⟩ := h
      exact cmd_cls (hl (cmdOf P call s.eval o = some c') (List.mem_singleton.2 rfl))
    · simp only [Option.map_eq_some_iff, Prod.mk.injEq] at h
      obtain ⟨c', h, rfl, _⟩ := h
      exact cmd_cls h
  · cases h; simp [Cmd.ro, Cmd.wo, Cmd.rl, Cmd.names, Cmd.boxes]
  · cases h

theorem addLog_lay (l : List Prop) (s : St) (A : List (Nat × AV)) (B : List (Nat × (Nat × List AV))) (C : List (Nat × Nat)) (D : List Prop) : addLog l (s.lay A B C D) = s.lay A B C (l ++ D) := by
  simp [addLog, St.lay]
theorem wo_ro {c : Cmd} {d : Nat} (h : c.wo = some d) : c.ro = some d := by cases c <;> simp [Cmd.wo, Cmd.ro] at h ⊢ <;> exact h
theorem mem_swap (a b c d e : List Prop) (p : Prop) : p ∈ (a ++ b) ++ ((c ++ d) ++ e) ↔ p ∈ c ++ (d ++ (a ++ (b ++ e))) := by
  simp only [List.mem_append]
  exact iff_of_eq (by ac_rfl)
theorem step_congr {ops : Array Oper} {F : List Nat} {o : Oper} {s s' t : St} (e : Eqv s s') (h : stepOp P call ops F o s = some t) : ∃ t', stepOp P call ops F o s' = some t' ∧ Eqv t t' := by
  rw [stepOp_eq, Option.bind_eq_some_iff] at h
  obtain ⟨⟨c, l⟩, hc, ha⟩ := h
  simp only [Option.map_eq_some_iff] at ha
  obtain ⟨t0, ha, rfl⟩ := ha
  obtain ⟨A, B, C, D, rfl, E⟩ := apply_eff ha
  have hc' : cmdFor P call ops o s' = some (c, l) := by rw [cmdFor_congr (s := s) (fun t _ => (e.slots t).symm)]; exact hc
  refine ⟨s'.lay A B C (l ++ D), ?_, ?_⟩
  · rw [stepOp_eq, hc']
    simp only [Option.bind_some]
    refine Eq.trans (congrArg (Option.map (addLog l)) (?_ : s'.apply F o.dst c = some (s'.lay A B C D))) (by rw [Option.map_some, addLog_lay])
    exact E.again s' e.n.symm (fun d _ => (e.objs d).symm) (fun d _ => (e.lens d).symm) (fun d h1 h2 => by rw [← e.absent]; exact E.abs d h1 h2)
  · refine ⟨e.n, fun t => ?_, fun t => ?_, fun t => ?_, fun d => ?_, fun p => by simp only [St.lay, addLog, List.mem_append, e.log, or_assoc]⟩
    · simp only [St.lay, addLog, look_append, e.slots]
    · simp only [St.lay, addLog, look_append, e.objs]
    · simp only [St.lay, addLog, look_append, e.lens]
    · have := absent_lay s A B C D d
      have h2 := absent_lay s' A B C D d
      rw [e.absent, ← h2] at this
      exact this

theorem commute {ops : Array Oper} {x y : Oper} {Fx Fy : List Nat} {s s1 s2 : St} (hb : beside ops x y = true) (hx : ∀ d, naming x = some d → d ∈ Fy) (hy : ∀ d, naming y = some d → d ∈ Fx)
    (h1 : stepOp P call ops Fx x s = some s1) (h2 : stepOp P call ops Fy y s1 = some s2) (hl : ∀ p ∈ s2.log, p) : ∃ s1' s2', stepOp P call ops Fy y s = some s1' ∧ stepOp P call ops Fx x s1' = some s2' ∧ Eqv s2' s2 := by
  simp only [beside, Bool.and_eq_true, Bool.not_eq_true'] at hb
  obtain ⟨hap, hcl⟩ := hb
  obtain ⟨a1, a2, a3⟩ := Oper.apart_spec hap
  rw [stepOp_eq, Option.bind_eq_some_iff] at h1 h2
  obtain ⟨⟨cx, lx'⟩, hcx, hax⟩ := h1
  obtain ⟨⟨cy, ly'⟩, hcy, hay⟩ := h2
  simp only [Option.map_eq_some_iff] at hax hay
  obtain ⟨u1, hax, rfl⟩ := hax
  obtain ⟨u2, hay, rfl⟩ := hay
  obtain ⟨Ax, Bx, Cx, Dx, rfl, Ex⟩ := apply_eff hax
  obtain ⟨Ay, By, Cy, Dy, rfl, Ey⟩ := apply_eff hay
  have kx := cmdFor_cls hcx (fun p hp => hl p (by simp [addLog, hp]))
  have ky := cmdFor_cls hcy (fun p hp => hl p (by simp [addLog, hp]))
  -- the second's command, earlier
  have hcy' : cmdFor P call ops y s = some (cy, ly') := by
    rw [← hcy]
    refine (cmdFor_congr fun t ht => ?_).symm
    simp only [addLog, look_append]
    rw [look_none (A := Ax) fun p hp e => a1 _ (Ex.keyA p hp) (e ▸ ht)]
  have nx : cx.names = true ∨ cx.boxes = true → ∀ d, x.dst = some d → d ∈ Fy := fun h d hd => hx d (h.elim (fun h => (kx.2.2.2.1 h).trans hd) (fun h => (kx.2.2.2.2 h).trans hd))
  have ny : cy.names = true ∨ cy.boxes = true → ∀ d, y.dst = some d → d ∈ Fx := fun h d hd => hy d (h.elim (fun h => (ky.2.2.2.1 h).trans hd) (fun h => (ky.2.2.2.2 h).trans hd))
  -- reading the objects and the lengths is the same before and behind the other
  have ox : ∀ d, cy.ro = some d → ∀ p ∈ Bx, p.1 ≠ d := by
    intro d hd p hp e
    rcases Ex.keyB p hp with h | ⟨h, h'⟩
    · have c1 := kx.2.1 (by rw [h]; simp)
      rcases ky.1 (by rw [hd]; simp) with c2 | c2 <;> rw [c1, c2] at hcl <;> cases hcl
    · exact Ey.rdO d hd (e ▸ nx (.inr h) _ h')
  have oy : ∀ d, cx.ro = some d → ∀ p ∈ By, p.1 ≠ d := by
    intro d hd p hp e
    rcases Ey.keyB p hp with h | ⟨h, h'⟩
    · have c1 := ky.2.1 (by rw [h]; simp)
      rcases kx.1 (by rw [hd]; simp) with c2 | c2 <;> rw [c1, c2] at hcl <;> cases hcl
    · exact Ex.rdO d hd (e ▸ ny (.inr h) _ h')
  have lx : ∀ d, cy.rl = some d → ∀ p ∈ Cx, p.1 ≠ d := by
    intro d hd p hp e
    rcases Ex.keyC p hp with h | ⟨h, h'⟩
    · have c1 := kx.2.2.1 (by rw [h]; simp)
      have c2 := ky.2.2.1 (by rw [hd]; simp)
      rw [c1, c2] at hcl; cases hcl
    · exact Ey.rdL d hd (e ▸ nx (.inl h) _ h')
  have ly : ∀ d, cx.rl = some d → ∀ p ∈ Cy, p.1 ≠ d := by
    intro d hd p hp e
    rcases Ey.keyC p hp with h | ⟨h, h'⟩
    · have c1 := ky.2.2.1 (by rw [h]; simp)
      have c2 := kx.2.2.1 (by rw [hd]; simp)
      rw [c1, c2] at hcl; cases hcl
    · exact Ex.rdL d hd (e ▸ ny (.inl h) _ h')
  have hay' : s.apply Fy y.dst cy = some (s.lay Ay By Cy Dy) := by
    refine Ey.again s rfl (fun d hd => ?_) (fun d hd => ?_) (fun d h1 h2 => ?_)
    · simp only [addLog, look_append]; rw [look_none (ox d hd)]
    · simp only [addLog, look_append]; rw [look_none (lx d hd)]
    · have := Ey.abs d h1 h2
      have e : (s.lay Ax Bx Cx Dx).absent d = true := this
      rw [absent_lay, Bool.and_eq_true] at e
      exact e.2
  have hcx' : cmdFor P call ops x (s.lay Ay By Cy (ly' ++ Dy)) = some (cx, lx') := by
    rw [← hcx]
    refine cmdFor_congr fun t ht => ?_
    simp only [St.lay, look_append]
    rw [look_none (A := Ay) fun p hp e => a3 _ (Ey.keyA p hp) (e ▸ ht)]
  have hax' : (s.lay Ay By Cy (ly' ++ Dy)).apply Fx x.dst cx = some ((s.lay Ay By Cy (ly' ++ Dy)).lay Ax Bx Cx Dx) := by
    refine Ex.again _ rfl (fun d hd => ?_) (fun d hd => ?_) (fun d h1 h2 => ?_)
    · simp only [St.lay, look_append]; rw [look_none (oy d hd)]
    · simp only [St.lay, look_append]; rw [look_none (ly d hd)]
    · rw [absent_lay, Ex.abs d h1 h2, Bool.and_true]
      have hd := nx (.inl h1) d h2
      simp only [Bool.and_eq_true, List.all_eq_true, Bool.not_eq_true']
      exact ⟨⟨fun p hp => Ey.avA d hd p hp, fun p hp => ⟨beq_false' (Ey.avB d hd p hp).1, fun z hz => (Ey.avB d hd p hp).2 z hz⟩⟩, fun p hp => beq_false' (Ey.avC d hd p hp)⟩
  have r1 : stepOp P call ops Fy y s = some (s.lay Ay By Cy (ly' ++ Dy)) := by
    rw [stepOp_eq, hcy']
    exact (congrArg (Option.map (addLog ly')) hay').trans (by rw [Option.map_some, addLog_lay])
  have r2 : stepOp P call ops Fx x (s.lay Ay By Cy (ly' ++ Dy)) = some ((s.lay Ay By Cy (ly' ++ Dy)).lay Ax Bx Cx (lx' ++ Dx)) := by
    rw [stepOp_eq, hcx']
    exact (congrArg (Option.map (addLog lx')) hax').trans (by rw [Option.map_some, addLog_lay])
  refine ⟨_, _, r1, r2, ?_⟩
  have dd : ∀ d, x.dst = some d → y.dst = some d → False := fun d h1 h2 => a2 d h1 h2
  refine ⟨rfl, fun t => ?_, fun t => ?_, fun t => ?_, fun d => ?_, fun p => mem_swap lx' Dx ly' Dy s.log p⟩
  · exact look_apart (fun p hp q hq e => dd _ (Ex.keyA p hp) (e ▸ Ey.keyA q hq)) t
  · refine look_apart (fun p hp q hq e => ?_) t
    rcases Ex.keyB p hp with h | ⟨h, h'⟩
    · have hro : cx.ro = some p.1 := wo_ro h
      exact oy _ hro q hq e.symm
    · rcases Ey.keyB q hq with k | ⟨k, k'⟩
      · have hro : cy.ro = some q.1 := wo_ro k
        exact ox _ hro p hp e
      · exact dd _ h' (e ▸ k')
  · refine look_apart (fun p hp q hq e => ?_) t
    rcases Ex.keyC p hp with h | ⟨h, h'⟩
    · exact ly _ h q hq e.symm
    · rcases Ey.keyC q hq with k | ⟨k, k'⟩
      · exact lx _ k p hp e
      · exact dd _ h' (e ▸ k')
  · exact ((absent_lay (s.lay Ay By Cy (ly' ++ Dy)) Ax Bx Cx (lx' ++ Dx) d).trans (congrArg (_ && ·) (absent_lay s Ay By Cy (ly' ++ Dy) d))).trans ((Bool.and_left_comm _ _ _).trans
      ((absent_lay (s.lay Ax Bx Cx (lx' ++ Dx)) Ay By Cy (ly' ++ Dy) d).trans (congrArg (_ && ·) (absent_lay s Ax Bx Cx (lx' ++ Dx) d))).symm)
end
end Go.Proofs.Ytlekojbcaelpiaa

/- Regions, whatever order is drawn. -/
namespace Go.Proofs.Ytlekojbcaelpiaa
open Go.RowKit

section
variable {γ : Gh} {w0 w : World} {s : St} {a : Act}
theorem look_map' {α β : Type} (f : α → β) : ∀ (l : List (Nat × α)) (t : Nat), look (l.map fun p => (p.1, f p.2)) t = (look l t).map f
  | [], t => rfl
  | (k, v) :: l, t => by
    rw [List.map_cons, look_cons, look_cons]
    split
    · rfl
    · exact look_map' f l t
theorem look_filter' {α : Type} (d : Nat) : ∀ (l : List (Nat × α)) (t : Nat), look (l.filter fun p => !Nat.beq p.1 d) t = if t = d then none else look l t
  | [], t => by simp [look]
  | (k, v) :: l, t => by
    rw [List.filter_cons]
    by_cases hk : k = d
    · subst hk
      simp only [Nat.beq_refl, Bool.not_true, Bool.false_eq_true, if_false]
      rw [look_filter' k l t, look_cons]
      by_cases ht : t = k
      · simp [ht]
      · simp [ht, Ne.symm ht]
    · simp only [beq_false' hk, Bool.not_false, if_true]
      rw [look_cons, look_filter' d l t, look_cons]
      by_cases ht : k = t
      · subst ht; simp [hk]
      · simp [ht]
theorem AVR1.weaken {L L' : List (Nat × Nat)} (hL : ∀ d len, look L' d = some len → look L d = some len) {c : Value} : ∀ {x : AV}, AVR1 γ L w c x → AVR1 γ L' w c x
  | .undef, h => h
  | .sc _, h => h
  | .row none .., h => h
  | .row (some (d, e)) .., h => ⟨h.1, fun len hl => h.2 len (hL d len hl)⟩
  | .mt, h => h
  | .agg _, h => h
  | .tup _, h => h
  | .rptr _, h => h
  | .ptr d off, h => ⟨h.1, by
    cases hl : look L' d with
    | none => rfl
    | some len => have := hL d len hl; rw [h.2] at this; cases this⟩
theorem AVRL.weaken {L L' : List (Nat × Nat)} (hL : ∀ d len, look L' d = some len → look L d = some len) : ∀ {xs : List AV} {cs : List Value}, AVRL γ L w cs xs → AVRL γ L' w cs xs
  | [], _, h => h
  | x :: xs, _, ⟨c, cs, e, h1, h2⟩ => ⟨c, cs, e, h1.weaken hL, AVRL.weaken hL h2⟩
theorem AVR.weaken {L L' : List (Nat × Nat)} (hL : ∀ d len, look L' d = some len → look L d = some len) {c : Value} : ∀ {x : AV}, AVR γ L w c x → AVR γ L' w c x
  | .tup _, ⟨cs, e, h⟩ => ⟨cs, e, h.weaken hL⟩
  | .undef, h => AVR1.weaken (γ := γ) (w := w) (c := c) (x := .undef) hL h
  | .sc v, h => AVR1.weaken (γ := γ) (w := w) (c := c) (x := .sc v) hL h
  | .row t s n xs, h => AVR1.weaken (γ := γ) (w := w) (c := c) (x := .row t s n xs) hL h
  | .mt, h => AVR1.weaken (γ := γ) (w := w) (c := c) (x := .mt) hL h
  | .agg xs, h => AVR1.weaken (γ := γ) (w := w) (c := c) (x := .agg xs) hL h
  | .ptr d off, h => AVR1.weaken (γ := γ) (w := w) (c := c) (x := .ptr d off) hL h
  | .rptr xs, h => AVR1.weaken (γ := γ) (w := w) (c := c) (x := .rptr xs) hL h
theorem AVR1.scr {L : List (Nat × Nat)} {c : Value} {d : Nat} {x : AV} (h : AVR1 γ L w c x) : AVR1 γ L w c (scr1 d x) := by
  unfold scr1
  split
  · exact AVR1.plain1_of h
  · exact h
where
  AVR1.plain1_of {L : List (Nat × Nat)} {c : Value} {x : AV} (h : AVR1 γ L w c x) : AVR1 γ L w c (plain1 x) := by
    cases x with
    | tup xs => exact trivial
    | undef => exact trivial
    | sc v => exact h
    | row t s n xs => exact AVR1.of_V (x := .row none s n xs) (AVR1.plain (x := .row t s n xs) h)
    | mt => exact h
    | agg xs => exact h
    | ptr d o => exact trivial
    | rptr xs => exact h
theorem Rel.scrub (h : Rel γ w0 s a w) (d : Nat) : Rel γ w0 (s.scrub d) a w := by
  have hlens : ∀ d', look (s.scrub d).lens d' = if d' = d then none else look s.lens d' := fun d' => look_filter' d s.lens d'
  have hL : ∀ d' len, look (s.scrub d).lens d' = some len → look s.lens d' = some len := fun d' len hl => by
    rw [hlens] at hl
    split at hl
    · cases hl
    · exact hl
  refine ⟨h.size, h.defers, h.below, h.base, fun t x hx => ?_, fun d' ty xs hx => ?_, fun d' len g hl hb => h.len d' len g (hL d' len hl) hb, h.inj, h.blt, h.plt, h.frm⟩
  · have e : look (s.scrub d).slots t = (look s.slots t).map (Ytlekojbcaelpiaa.scr d) := look_map' _ _ _
    rw [e] at hx
    simp only [Option.map_eq_some_iff] at hx
    obtain ⟨y, hy, rfl⟩ := hx
    refine (AVR.weaken hL ?_)
    unfold Ytlekojbcaelpiaa.scr
    split
    · exact AVR_plain2 (h.slot t y hy)
    · exact h.slot t y hy
  · have e : look (s.scrub d).objs d' = (look (s.objs.filter fun p => !Nat.beq p.1 d) d').map fun q => (q.1, q.2.map (scr1 d)) := look_map' (fun q : Nat × List AV => (q.1, q.2.map (scr1 d))) _ _
    rw [e, look_filter'] at hx
    split at hx
    · cases hx
    rename_i hne
    simp only [Option.map_eq_some_iff, Prod.exists, Prod.mk.injEq] at hx
    obtain ⟨ty', ys, hy, rfl, rfl⟩ := hx
    obtain ⟨k1, b, cs, k2, k3, k4, k5, k6⟩ := h.obj d' ty' ys hy
    refine ⟨by rw [hlens, if_neg hne]; exact k1, b, cs, k2, k3, k4, AVRL.of_at (by simp [k5.length]) fun i y u hy hu => ?_, k6⟩
    simp only [List.getElem?_map, Option.map_eq_some_iff] at hy
    obtain ⟨y', hy', rfl⟩ := hy
    obtain ⟨u', q1, q2⟩ := k5.at_ hy'
    rw [hu] at q1; cases q1
    exact (q2.scr).weaken hL
where
  AVR_plain2 {L : List (Nat × Nat)} {c : Value} : ∀ {x : AV}, AVR γ L w c x → AVR γ L w c (plain x)
    | .tup xs, ⟨cs, e, h⟩ => ⟨cs, e, AVRL.of_at (by simp [h.length]) fun i y u hy hu => by
        simp only [List.getElem?_map, Option.map_eq_some_iff] at hy
        obtain ⟨y', hy', rfl⟩ := hy
        obtain ⟨u', k1, k2⟩ := h.at_ hy'
        rw [hu] at k1; cases k1
        exact AVR1.scr.AVR1.plain1_of k2⟩
    | .undef, h => h
    | .sc v, h => h
    | .row t s n xs, h => AVR.of_AVR1 (by simp [plain, plain1]) (AVR1.scr.AVR1.plain1_of (x := .row t s n xs) h)
    | .mt, h => h
    | .agg xs, h => h
    | .ptr d off, h => trivial
    | .rptr xs, h => h
end

section
variable {P : Program} {call : Orc} {ops : Array Oper}

theorem step_log {F : List Nat} {o : Oper} {s s' : St} (h : stepOp P call ops F o s = some s') : ∀ p ∈ s.log, p ∈ s'.log := by
  rw [stepOp_eq, Option.bind_eq_some_iff] at h
  obtain ⟨⟨c, l⟩, _, ha⟩ := h
  simp only [Option.map_eq_some_iff] at ha
  obtain ⟨t0, ha, rfl⟩ := ha
  obtain ⟨A, B, C, D, rfl, _⟩ := apply_eff ha
  intro p hp; simp [addLog, hp]
theorem stepS_log {o : Oper} {s s' : St} (h : stepS P call ops o s = some s') : ∀ p ∈ s.log, p ∈ s'.log := by
  unfold stepS at h
  split at h
  · rename_i hs; cases h; exact step_log hs
  · split at h
    · intro p hp; exact step_log h p hp
    · cases h
theorem runS_log : ∀ (l : List Oper) {s s' : St}, runS P call ops l s = some s' → ∀ p ∈ s.log, p ∈ s'.log
  | [], s, s', h => by simp only [runS, Option.some.injEq] at h; subst h; exact fun p hp => hp
  | o :: l, s, s', h => by
    simp only [runS, Option.bind_eq_some_iff] at h
    obtain ⟨s1, h1, h2⟩ := h
    exact fun p hp => runS_log l h2 p (stepS_log h1 p hp)
theorem runOps_log : ∀ (l : List (List Nat × Oper)) {s s' : St}, runOps P call ops l s = some s' → ∀ p ∈ s.log, p ∈ s'.log
  | [], s, s', h => by simp only [runOps, Option.some.injEq] at h; subst h; exact fun p hp => hp
  | (F, o) :: l, s, s', h => by
    simp only [runOps, Option.bind_eq_some_iff] at h
    obtain ⟨s1, h1, h2⟩ := h
    exact fun p hp => runOps_log l h2 p (step_log h1 p hp)
theorem region_log {draw : Bool} {s s' : St} (h : runRegion P call ops draw s = some s') : ∀ p ∈ s.log, p ∈ s'.log := by
  unfold runRegion at h
  split at h
  · exact runS_log _ h
  · split at h
    · exact runOps_log _ h
    · cases h

theorem runOps_congr : ∀ (l : List (List Nat × Oper)) {s s' t : St}, Eqv s s' → runOps P call ops l s = some t → ∃ t', runOps P call ops l s' = some t' ∧ Eqv t t'
  | [], s, s', t, e, h => by simp only [runOps, Option.some.injEq] at h ⊢; subst h; exact ⟨s', rfl, e⟩
  | (F, o) :: l, s, s', t, e, h => by
    simp only [runOps, Option.bind_eq_some_iff] at h ⊢
    obtain ⟨s1, h1, h2⟩ := h
    obtain ⟨s1', k1, k2⟩ := step_congr e h1
    obtain ⟨t', k3, k4⟩ := runOps_congr l k2 h2
    exact ⟨t', ⟨s1', k1, k3⟩, k4⟩

theorem move_front {o : Oper} {F : List Nat} {l2 : List (List Nat × Oper)} : ∀ (l1 : List (List Nat × Oper)) {s t : St}, (∀ p ∈ l1, beside ops p.2 o = true ∧ (∀ d, naming p.2 = some d → d ∈ F) ∧ ∀ d, naming o = some d → d ∈ p.1) →
    runOps P call ops (l1 ++ (F, o) :: l2) s = some t → (∀ p ∈ t.log, p) → ∃ s1 t', stepOp P call ops F o s = some s1 ∧ runOps P call ops (l1 ++ l2) s1 = some t' ∧ Eqv t' t
  | [], s, t, _, h, _ => by
    simp only [List.nil_append, runOps, Option.bind_eq_some_iff] at h
    obtain ⟨s1, h1, h2⟩ := h
    exact ⟨s1, t, h1, h2, Eqv.refl t⟩
  | (Fp, p) :: l1, s, t, hp, h, hlog => by
    simp only [List.cons_append, runOps, Option.bind_eq_some_iff] at h
    obtain ⟨sp, h1, h2⟩ := h
    obtain ⟨s1, t', k1, k2, k3⟩ := move_front l1 (fun q hq => hp q (List.mem_cons_of_mem _ hq)) h2 hlog
    obtain ⟨a1, a2, a3⟩ := hp (Fp, p) List.mem_cons_self
    obtain ⟨s1', s2', m1, m2, m3⟩ := commute a1 a2 a3 h1 k1 (fun q hq => hlog q ((k3.log q).1 (runOps_log _ k2 q hq)))
    obtain ⟨t'', n1, n2⟩ := runOps_congr (l1 ++ l2) m3.symm k2
    refine ⟨s1', t'', m1, ?_, n2.symm.trans k3⟩
    simp only [List.cons_append, runOps, Option.bind_eq_some_iff]
    exact ⟨s2', m2, n1⟩

variable {γ : Gh} {w0 w : World} {s t : St} {a : Act} {Q : Exit → Act → World → Prop}
theorem ops_sound : ∀ (l : List Nat) (ps : List Oper) {γ : Gh} {s : St} {a : Act} {w : World}, l.map (ops[·]?) = ps.map some → runS P call ops ps s = some t → (∀ p ∈ t.log, p) → Rel γ w0 s a w →
    (∀ γ' a' w', GExt γ γ' → Rel γ' w0 t a' w' → Q .normal a' w') → wpOps P ops Q l a w
  | [], [], γ, s, a, w, _, h, _, hrel, hQ => by
    simp only [runS, Option.some.injEq] at h; subst h
    exact hQ γ a w (GExt.refl γ) hrel
  | [], _ :: _, _, _, _, _, hl, _, _, _, _ => by simp at hl
  | _ :: _, [], _, _, _, _, hl, _, _, _, _ => by simp at hl
  | i :: l, o :: ps, γ, s, a, w, hl, h, hlog, hrel, hQ => by
    simp only [List.map_cons, List.cons.injEq] at hl
    simp only [runS, Option.bind_eq_some_iff] at h
    obtain ⟨s1, h1, h2⟩ := h
    rw [wpOps_cons]
    have fin : ∀ {γ0 : Gh} {s0 : St}, GExt γ γ0 → Rel γ0 w0 s0 a w → stepOp P call ops [] o s0 = some s1 → wpOp P ops Q i (wpOps P ops Q l) a w := fun {γ0 s0} hg hr hs =>
      step_sound hl.1 hr hs (fun p hp => hlog p (runS_log ps h2 p hp)) fun γ' a' w' e hr => ops_sound l ps hl.2 h2 hlog hr fun γ'' a'' w'' e' hr' => hQ γ'' a'' w'' ((hg.trans e).trans e') hr'
    unfold stepS at h1
    split at h1
    · rename_i hs
      cases h1
      exact fin (GExt.refl γ) hrel hs
    · split at h1
      · exact fin (GExt.refl γ) (hrel.scrub _) h1
      · cases h1

theorem has_iff {l : List Nat} {k : Nat} : has l k = true ↔ k ∈ l := by
  simp only [has, List.any_eq_true, Nat.beq_eq]
  exact ⟨fun ⟨x, h1, h2⟩ => h2 ▸ h1, fun h => ⟨k, h, rfl⟩⟩
def W (ops : Array Oper) (j : Nat) : List Nat := (waitsOf ops).getD j []
theorem drawOk_spec (h : drawOk ops = true) {j : Nat} {y : Oper} (hj : ops[j]? = some y) :
    (∀ e ∈ y.after, Region.binds .any e = true → e.on < j) ∧ (∀ k ∈ W ops j, k < j ∧ ∃ e ∈ y.after, Region.binds .any e = true ∧ (e.on = k ∨ k ∈ W ops e.on)) ∧
    ∀ i, i < j → i ∈ W ops j ∨ ∃ x, ops[i]? = some x ∧ beside ops x y = true := by
  simp only [drawOk, List.all_eq_true, List.mem_range] at h
  have := h j (Array.getElem?_eq_some_iff.1 hj).1
  simp only [hj, Bool.and_eq_true, List.all_eq_true, Bool.or_eq_true, Bool.not_eq_true', List.any_eq_true, List.mem_range, has_iff, Nat.beq_eq, Nat.blt_eq] at this
  obtain ⟨⟨h1, h2⟩, h3⟩ := this
  refine ⟨fun e he hb => ?_, fun k hk => ?_, fun i hi => ?_⟩
  · rcases h1 e (by simpa using he) with h | h
    · rw [hb] at h; cases h
    · exact h
  · obtain ⟨k1, e, k2, k3, k4⟩ := h2 k hk
    exact ⟨k1, e, by simpa using k2, k3, k4⟩
  · rcases h3 i hi with h | h
    · exact .inl h
    · cases hx : ops[i]? with
      | none => simp [hx] at h
      | some x => simp only [hx] at h; exact .inr ⟨x, rfl, h⟩
theorem banned_spec {i j d : Nat} {x : Oper} (hx : ops[i]? = some x) (h1 : i ≠ j) (h2 : i ∉ W ops j) (h3 : j ∉ W ops i) (hd : naming x = some d) : d ∈ banned ops j := by
  simp only [banned, List.mem_filterMap, List.mem_range]
  refine ⟨i, (Array.getElem?_eq_some_iff.1 hx).1, ?_⟩
  have e1 : Nat.beq i j = false := beq_false' h1
  have e2 : has ((waitsOf ops).getD j []) i = false := by rw [← Bool.not_eq_true, has_iff]; exact h2
  have e3 : has ((waitsOf ops).getD i []) j = false := by rw [← Bool.not_eq_true, has_iff]; exact h3
  simp only [e1, e2, e3, hx, Bool.or_self, Option.bind_some, hd]

def left (ops : Array Oper) (listed : Array Bool) : List Nat := (List.range ops.size).filter fun j => !listed.getD j true
def itemsOf (ops : Array Oper) (l : List Nat) : List (List Nat × Oper) := l.filterMap fun j => (ops[j]?).map fun o => (banned ops j, o)
theorem mem_left {listed : Array Bool} {j : Nat} : j ∈ left ops listed ↔ j < ops.size ∧ listed.getD j true = false := by simp [left]
theorem left_set {listed : Array Bool} (hs : listed.size = ops.size) {i : Nat} {r1 r2 : List Nat} (h : left ops listed = r1 ++ i :: r2) : left ops (listed.setIfInBounds i true) = r1 ++ r2 := by
  have hnd : (left ops listed).Nodup := List.Nodup.sublist List.filter_sublist List.nodup_range
  rw [h] at hnd
  have hi : i < ops.size := (mem_left.1 (by rw [h]; simp : i ∈ left ops listed)).1
  have e : left ops (listed.setIfInBounds i true) = (left ops listed).filter (fun j => decide (j ≠ i)) := by
    simp only [left, List.filter_filter]
    refine List.filter_congr fun j hj => ?_
    by_cases hji : j = i
    · subst hji; simp [hs, hi]
    · have : (listed.setIfInBounds i true).getD j true = listed.getD j true := getD_set_ne true (Ne.symm hji)
      simp [hji, this]
  rw [e, h, List.filter_append, List.filter_cons]
  rw [List.nodup_append] at hnd
  obtain ⟨n1, n2, n3⟩ := hnd
  rw [List.nodup_cons] at n2
  have f1 : r1.filter (fun j => decide (j ≠ i)) = r1 := List.filter_eq_self.2 fun j hj => by simpa using n3 j hj i (by simp)
  have f2 : r2.filter (fun j => decide (j ≠ i)) = r2 := List.filter_eq_self.2 fun j hj => by
    have : j ≠ i := fun e => n2.1 (e ▸ hj)
    simpa using this
  rw [f1, f2]; simp
theorem left_lt {listed : Array Bool} {i p : Nat} {r1 r2 : List Nat} (h : left ops listed = r1 ++ i :: r2) (hp : p ∈ r1) : p < i := by
  have hs : (left ops listed).Pairwise (· < ·) := List.Pairwise.sublist List.filter_sublist List.pairwise_lt_range
  rw [h, List.pairwise_append] at hs
  exact hs.2.2 p hp i (by simp)

theorem any_sound (hok : drawOk ops = true) : ∀ (n : Nat) (listed : Array Bool) {γ : Gh} {s t : St} {a : Act} {w : World}, listed.size = ops.size → (left ops listed).length = n →
    (∀ j, listed.getD j false = true → ∀ k ∈ W ops j, listed.getD k false = true) → runOps P call ops (itemsOf ops (left ops listed)) s = some t → (∀ p ∈ t.log, p) → Rel γ w0 s a w →
    (∀ γ' a' w' t', GExt γ γ' → Eqv t' t → Rel γ' w0 t' a' w' → Q .normal a' w') → wpAny P .any ops Q n listed a w
  | 0, listed, γ, s, t, a, w, hs, hn, hcl, h, _, hrel, hQ => by
    have hl : left ops listed = [] := List.eq_nil_of_length_eq_zero hn
    rw [hl] at h
    simp only [itemsOf, List.filterMap_nil, runOps, Option.some.injEq] at h
    subst h
    refine ⟨?_, hQ γ a w s (GExt.refl γ) (Eqv.refl s) hrel⟩
    rw [List.eq_nil_iff_forall_not_mem]
    intro j hj
    obtain ⟨h1, o, h2, _⟩ := mem_ready.1 hj
    have : j ∈ left ops listed := mem_left.2 ⟨(Array.getElem?_eq_some_iff.1 h2).1, h1⟩
    rw [hl] at this; cases this
  | n + 1, listed, γ, s, t, a, w, hs, hn, hcl, h, hlog, hrel, hQ => by
    refine ⟨fun hr => ?_, fun i hi => ?_⟩
    · exfalso
      obtain ⟨j, r, hl⟩ : ∃ j r, left ops listed = j :: r := by
        cases hl : left ops listed with
        | nil => rw [hl] at hn; simp at hn
        | cons j r => exact ⟨j, r, rfl⟩
      obtain ⟨h1, h2⟩ := mem_left.1 (by rw [hl]; simp : j ∈ left ops listed)
      have hmem : j ∈ Region.ready .any ops listed := by
        refine mem_ready.2 ⟨h2, ops[j], Array.getElem?_eq_getElem h1, fun e he hb => ?_⟩
        have hlt := (drawOk_spec hok (Array.getElem?_eq_getElem h1)).1 e he hb
        cases hh : listed.getD e.on false with
        | true => rfl
        | false =>
          exfalso
          have hlt' : e.on < listed.size := by omega
          have hm : e.on ∈ left ops listed := mem_left.2 ⟨by omega, by simpa [Array.getD, hlt'] using hh⟩
          have hs' : (left ops listed).Pairwise (· < ·) := List.Pairwise.sublist List.filter_sublist List.pairwise_lt_range
          rw [hl] at hm hs'
          rcases List.mem_cons.1 hm with hm | hm
          · omega
          · have := (List.pairwise_cons.1 hs').1 _ hm; omega
      rw [hr] at hmem; cases hmem
    · obtain ⟨h1, o, h2, h3⟩ := mem_ready.1 hi
      have hlt : i < ops.size := (Array.getElem?_eq_some_iff.1 h2).1
      have hm : i ∈ left ops listed := mem_left.2 ⟨hlt, h1⟩
      obtain ⟨r1, r2, hl⟩ := List.append_of_mem hm
      have hW : ∀ k ∈ W ops i, listed.getD k false = true := fun k hk => by
        obtain ⟨_, e, he, hb, hk'⟩ := (drawOk_spec hok h2).2.1 k hk
        have := h3 e he hb
        rcases hk' with rfl | hk'
        · exact this
        · exact hcl _ this k hk'
      have hit : itemsOf ops (left ops listed) = itemsOf ops r1 ++ (banned ops i, o) :: itemsOf ops r2 := by
        rw [hl]; simp [itemsOf, h2]
      rw [hit] at h
      obtain ⟨s1, t', k1, k2, k3⟩ := move_front (F := banned ops i) (itemsOf ops r1) (fun p hp => by
        obtain ⟨j, hj, hp⟩ := List.mem_filterMap.1 hp
        have hji := left_lt hl hj
        have hjl : listed.getD j true = false := (mem_left.1 (by rw [hl]; simp [hj] : j ∈ left ops listed)).2
        have hjs : j < ops.size := by omega
        have hnW : j ∉ W ops i := fun hh => by
          have := hW j hh
          have hjl' : j < listed.size := by omega
          simp [Array.getD, hjl'] at this hjl
          rw [hjl] at this; cases this
        have hnW2 : i ∉ W ops j := fun hh => by
          have := ((drawOk_spec hok (Array.getElem?_eq_getElem hjs)).2.1 i hh).1
          omega
        rw [Array.getElem?_eq_getElem hjs] at hp
        simp only [Option.map_some, Option.some.injEq] at hp
        subst hp
        refine ⟨?_, fun d hd => banned_spec (Array.getElem?_eq_getElem hjs) (by omega) hnW hnW2 hd, fun d hd => banned_spec h2 (by omega) hnW2 hnW hd⟩
        rcases (drawOk_spec hok h2).2.2 j hji with hh | ⟨x, hx, hb⟩
        · exact absurd hh hnW
        · rw [Array.getElem?_eq_getElem hjs] at hx; cases hx; exact hb) h hlog
      have hl' := left_set hs hl
      have hlog' : ∀ p ∈ t'.log, p := fun p hp => hlog p ((k3.log p).1 hp)
      refine step_sound h2 hrel k1 (fun p hp => hlog' p (runOps_log _ k2 p hp)) fun γ' a' w' e hr => any_sound hok n (listed.setIfInBounds i true) (t := t') (by simp [hs]) ?_ ?_ ?_ hlog' hr fun γ'' a'' w'' t'' e' ht hr' => hQ γ'' a'' w'' t'' (e.trans e') (ht.trans k3) hr'
      · rw [hl']; rw [hl] at hn; simp at hn ⊢; omega
      · intro j hj k hk
        by_cases hji : j = i
        · subst hji; exact getD_set_true (hW k hk)
        · rw [getD_set_ne false (Ne.symm hji)] at hj
          exact getD_set_true (hcl j hj k hk)
      · rw [hl']
        have : itemsOf ops (r1 ++ r2) = itemsOf ops r1 ++ itemsOf ops r2 := by simp [itemsOf]
        rw [this]; exact k2

theorem region_sound (hmix : P.follows .mixedOrders = true) {id : Nat} {draw : Bool} (hrel : Rel γ w0 s a w) (h : runRegion P call ops draw s = some t) (hlog : ∀ p ∈ t.log, p)
    (hQ : ∀ γ' a' w', GExt γ γ' → Rel γ' w0 t a' w' → Q .normal a' w') : (Code.region id ops draw).wp P Q a w := by
  cases draw with
  | false =>
    refine wp_region (ops_sound (List.range ops.size) ops.toList ?_ h hlog hrel hQ)
    refine List.ext_getElem? fun i => ?_
    simp only [List.getElem?_map]
    by_cases hi : i < ops.size
    · simp [List.getElem?_range hi, hi]
    · have h1 : (List.range ops.size)[i]? = none := List.getElem?_eq_none (by simp; omega)
      have h2 : ops.toList[i]? = none := List.getElem?_eq_none (by simp; omega)
      simp [h1, h2]
  | true =>
    simp only [runRegion] at h
    split at h
    case h_2 => cases h
    rename_i hok
    have hl : left ops (Array.replicate ops.size false) = List.range ops.size := by
      simp only [left]
      refine List.filter_eq_self.2 fun j hj => ?_
      have := List.mem_range.1 hj
      simp [this]
    refine wp_region_any hmix (any_sound hok ops.size (Array.replicate ops.size false) (t := t) (γ := γ) (s := s) (by simp) (by rw [hl]; simp) ?_ (by rw [hl]; exact h) hlog (hrel.drew rfl rfl rfl rfl) ?_)
    · intro j hj
      exfalso
      by_cases hlt : j < ops.size <;> simp [hlt] at hj
    · exact fun γ' a' w' t' e ht hr => hQ γ' a' w' e (hr.eqv ht)
end
end Go.Proofs.Ytlekojbcaelpiaa
