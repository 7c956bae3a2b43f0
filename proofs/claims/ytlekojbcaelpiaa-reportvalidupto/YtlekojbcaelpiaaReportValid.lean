/- ReportValid returns true, for all inputs of bulk at most 1048576. -/
import Derived.Test.YtlekojbcaelpiaaBa5
set_option linter.unusedVariables false
set_option linter.unusedSimpArgs false

/- ReportValid returns true, for all inputs of bulk at most 1048576. -/
namespace Go.Proofs.Ytlekojbcaelpiaa
open Go.ChangeShapes Go.WideShapes Go.ChangeAt Go.RowKit

theorem law3 (l : List Int) (b c d : Int) (hl : l.length ≤ 100000000) (hw : I64s l) (hb : I64 b) (hc : I64 c) (hd : I64 d) : Ok Try.prog 3 [rowI l, iA b, iA c, iA d] (plainR (bA true)) := by
  have s0 := sz_one l
  have s1 := sz_spoilt s0 b c hc
  have s2 := sz_spoilt s1 (b.tdiv 8) d hd
  have f0 := s0.fit (by omega) (by omega)
  have f1 := s1.fit (by omega) (by omega)
  have f2 := s2.fit (by omega) (by omega)
  refine law3_any l b c d _ _ _ hb (ok8 l hl hw) (ok9 _ b c hb hc (by have := f0.la; omega) (by have := f0.le; omega)) (ok9 _ _ d (tdiv_I64 hb 8 (by omega)) hd (by have := f1.la; omega) (by have := f1.le; omega)) f0 f1 f2 ?_ ?_ ?_ (valid_one l)
  · have := encB_le _ f0; omega
  · have := encB_le _ f1; omega
  · have := encB_le _ f2; omega

set_option maxRecDepth 100000 in
theorem rv_contract (H : Type) (enc : TypeId × Value → H) (W : World) (base : Nat) (args : Array Value) (ds gs : List (DataW H)) (before : List MemPlace)
    (hval : ∀ (j : Nat) t v, Try.f3.params[j]? = some t → args[j]? = some v → Value.okWide Try.prog W .any base t v)
    (hW : DataW.Whole enc Try.prog Try.f3.params.toList Rows.reportValidSpec.vars false W args.toList ds gs before) (hk : Rows.uptoSmall H (ds ++ gs) = true) :
    Calls Try.prog 3 args W fun e W' => ∃ v, e = .returned v ∧ Rows.reportValidSpec.post enc Try.prog Try.f3 false true false false W args v W' := by
  have hW' := hW
  obtain ⟨p, q, hA0, hV, rfl, hfz, hnd⟩ := hW
  have hA : DataW.TrodAll enc Try.prog W 0 (fun _ => true) true Try.f3.params.toList args.toList ds p := hA0
  rw [Try.params3] at hA hval
  obtain ⟨v0, vs0, d0, ds0, p0, q0, hargs, rfl, rfl, h0, r0⟩ := trodAll_cons hA
  obtain ⟨v1, vs1, d1, ds1, p1, q1, rfl, rfl, rfl, h1, r1⟩ := trodAll_cons r0
  obtain ⟨v2, vs2, d2, ds2, p2, q2, rfl, rfl, rfl, h2, r2⟩ := trodAll_cons r1
  obtain ⟨v3, vs3, d3, ds3, p3, q3, rfl, rfl, rfl, h3, r3⟩ := trodAll_cons r2
  obtain ⟨rfl, rfl, rfl⟩ := trodAll_nil r3
  obtain rfl : args = #[v0, v1, v2, v3] := by cases args; simp_all
  obtain ⟨rfl, rfl⟩ := trodVars_none hV
  obtain ⟨b, rfl, rfl, rfl, wb⟩ := open_int Try.underlying3 (hval 1 3 v1 rfl rfl) h1
  obtain ⟨c, rfl, rfl, rfl, wc⟩ := open_int Try.underlying3 (hval 2 3 v2 rfl rfl) h2
  obtain ⟨d, rfl, rfl, rfl, wd⟩ := open_int Try.underlying3 (hval 3 3 v3 rfl rfl) h3
  clear hA0
  simp only [List.append_nil] at hW' hk
  have hlt : ∀ x ∈ p0, x.block < W.heap.size := fun x hx => hW'.lt x (by simpa using hx)
  obtain ⟨l, hV0, hw0, hb0⟩ := open22 (okWide_slice Try.underlying22 (hval 0 22 v0 rfl rfl)) h0 hlt
  have hbulk : Rows.uptoBulkAll [d0, DataW.lit (H := H) (.int .i64 b), .lit (.int .i64 c), .lit (.int .i64 d)] ≤ 1048576 := bound_of hk
  have hl : l.length ≤ 1048576 := by
    simp only [Rows.uptoBulkAll] at hbulk
    omega
  have hcall := (law3 l b c d (by omega) hw0 (wf_I64 wb) (wf_I64 wc) (wf_I64 wd)).2 W (pr0 W) [v0, .int .i64 b, .int .i64 c, .int .i64 d] (pr0_lt W) ⟨_, _, rfl, hV0, _, _, rfl, rfl, _, _, rfl, rfl, _, _, rfl, rfl, rfl⟩
  refine hcall.mono ?_
  rintro e W' ⟨v, pr', rfl, hbel, _, _, hres, _⟩
  have hv : v = .bool true := hres
  subst hv
  refine ⟨_, rfl, _, _, _, [], p0 ++ [], [], hW', ?_, ?_, rfl, hbel.frame _, fun h => by cases h⟩
  · show DataW.TrodAll enc Try.prog W' _ _ false [4] [.bool true] [.lit (.bool true)] []
    exact trodAll_cons_mk (p := []) (p' := []) (shut_bool Try.underlying4 _) trodAll_mk0
  · show DataW.TrodAll enc Try.prog W' 0 _ true [22, 3, 3, 3] [v0, .int .i64 b, .int .i64 c, .int .i64 d] [d0, .lit (.int .i64 b), .lit (.int .i64 c), .lit (.int .i64 d)] _
    exact trodAll_cons_mk (keep22 h0 hbel hlt) (trodAll_cons_mk (shut_int Try.underlying3 wb) (trodAll_cons_mk (shut_int Try.underlying3 wc) (trodAll_cons_mk (shut_int Try.underlying3 wd) trodAll_mk0)))

set_option maxRecDepth 100000 in
theorem rv_lifted (os : Os) (started : os.Started) (H : Type) (enc : TypeId × Value → H) (F : Stop.Interp) :
    ReturnsInHanded {} Try.checked os 3 .any ((Rows.OpenSpec.upto Rows.reportValidSpec).pre6 enc Try.prog Try.f3 Rows.reportValidUptoRow.domain false) (((Rows.OpenSpec.upto Rows.reportValidSpec).at F).post enc Try.prog Try.f3 false true false false) := by
  refine returnsInHanded_of_cond (C := Try.checked) (s := Rows.OpenSpec.upto Rows.reportValidSpec) (k := Rows.uptoSmall) rfl own0 started (by kernel_rfl) Try.func3
    (OpenSpec.witness (enc := enc) (C := Try.checked) (s := Rows.OpenSpec.upto Rows.reportValidSpec) (k := Rows.uptoSmall) rfl false ⟨#[], #[.slice none 0 0, .int .i64 0, .int .i64 0, .int .i64 0], []⟩ 8 (by kernel_rfl) (by kernel_rfl) (by kernel_rfl)
      (x := ([.nil, .lit (.int .i64 0), .lit (.int .i64 0), .lit (.int .i64 0)], [], [])) (by kernel_rfl) rfl (by kernel_rfl)) ?_
  intro W base args ds gs before hval hW _ hk _
  exact rv_contract H enc W base args ds gs before hval hW hk
theorem reportValidUpto_proved : Rows.ReportValidUptoSaid :=
  OpenClaim.holds_of_cond 3 Try.f3 rfl rfl rfl rfl rfl rfl rfl ⟨rfl, rfl, rfl, rfl, rfl⟩ rfl rfl rfl rfl rfl (by kernel_rfl) Try.func3 (by kernel_rfl)
    (of_decide_eq_true (by kernel_rfl)) (by unfold Func.isWrapper; first | (rw [if_pos (by decide +kernel)]; kernel_rfl) | (rw [if_neg (by decide +kernel)]; exact ⟨rfl, rfl⟩))
    (fun os started H enc _ F => rv_lifted os started H enc F)
end Go.Proofs.Ytlekojbcaelpiaa
