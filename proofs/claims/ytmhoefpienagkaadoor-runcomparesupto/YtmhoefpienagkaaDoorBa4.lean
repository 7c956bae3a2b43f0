/- Contracts of the functions that the laws of scorialaw11 reach, part 4. -/
import Derived.Test.YtmhoefpienagkaaDoorRows
import Derived.ProofKit
import Derived.OpenShut
import Derived.JoinedCond
import Derived.Carry
import Derived.LaidMore
import Derived.Deep.DeepHandedRow
import Derived.Test.YtmhoefpienagkaaDoorBa3
section
/- An outcome made of numbers. -/
set_option linter.unusedVariables false
namespace Go.Proofs.YtmhoefpienagkaaDoor
open Go.RowKit
def evOf' (x : Int) : Ev := ⟨aroundZ x 2, aroundZ (x.tdiv 2) 3, aroundZ (x.tdiv 6) 3 - 1⟩
def evsOf' (l : List Int) (k : Nat) : List Ev := ((l.take k).drop 1).map evOf'
theorem evsOf'_succ (l : List Int) (k : Nat) (x : Int) (h1 : 1 ≤ k) (hx : l[k]? = some x) : evsOf' l (k + 1) = evsOf' l k ++ [evOf' x] := by
  unfold evsOf'
  have hk : k < l.length := (List.getElem?_eq_some_iff.1 hx).1
  rw [List.take_add_one, hx, List.drop_append_of_le_length (by simp; omega)]
  simp
theorem evsOf'_len (l : List Int) (k : Nat) (h : k ≤ l.length) : (evsOf' l k).length = k - 1 := by simp [evsOf']; omega
noncomputable abbrev COu : Code := bodyOf Tryd.f6
/-- the states at the head: none before the first round, some k behind a round -/
def stOu (l : List Int) (z : Int) : Option Nat → St
  | none => { n := 43, slots := [(0, rowI l), (2, .ptr 2 0), (3, .ptr 3 0), (4, iA 1)], objs := [(2, (25, [.sc (.slice none 0 0), iA 0])), (3, (25, [.sc (.slice none 0 0), iA z]))], lens := [] }
  | some k => { n := 43, slots := [(0, rowI l), (2, .ptr 2 0), (3, .ptr 3 0), (4, iA k)], objs := [(2, (25, [.sc (.slice none 0 0), iA 0])), (3, (25, [.row (some (40, 33)) 3 (evsOf' l k).length (evA (evsOf' l k)), iA z]))], lens := [(40, (evsOf' l k).length * 3)] }

noncomputable def sOua (l : List Int) : St := stOf (runCode Tryd.prog (orcC [(6, plainR (iA (atZ l 0 3)))] []) (liveOf 6) 0 (pre 2 COu) (start [rowI l] 43))
noncomputable def sOub (l : List Int) : St := stOf (runCode Tryd.prog (orc []) (liveOf 6) 0 (fR (post 2 COu)) (sOua l))
theorem out_round1 (l : List Int) (z x : Int) (hx : l[1]? = some x) (hx64 : I64 x) {Q : Out → Prop} (q : ∀ s', clean [0, 2, 3, 4] [2, 3, 40] s' = stOu l z (some 2) → Q (.go s')) : Judg (fB (post 2 COu)) (stOu l z none) Q := by
  have a1 := aroundZ_nonneg (x.tdiv 6) 3 (by omega)
  have a2 := aroundZ_lt (x.tdiv 6) 3 (by omega)
  have hk : 1 < l.length := (List.getElem?_eq_some_iff.1 hx).1
  have e2 : evsOf' l 2 = [evOf' x] := by rw [evsOf'_succ l 1 x (by omega) hx]; simp [evsOf']

  refine Judg.run' 6 (orcC [(24, plainR (iA (aroundZ x 2))), (30, plainR (iA (aroundZ (x.tdiv 2) 3))), (36, plainR (iA (aroundZ (x.tdiv 6) 3)))] [(11, .val (bA true)), (14, .val (bA true)), (22, .val (.rptr (iA x :: (l.drop (1 + 1)).map iA))), (27, .val (.rptr (iA x :: (l.drop (1 + 1)).map iA))), (29, .val (iA (x.tdiv 2))), (33, .val (.rptr (iA x :: (l.drop (1 + 1)).map iA))), (35, .val (iA (x.tdiv 6))), (37, .val (iA (aroundZ (x.tdiv 6) 3 - 1))), (40, .fresh 33 3 (evsOf' l 2).length (evA (evsOf' l 2))), (17, .val (iA ((1 + 1 : Nat) : Int)))]) (.go (stOf (runCode Tryd.prog (orcC [(24, plainR (iA (aroundZ x 2))), (30, plainR (iA (aroundZ (x.tdiv 2) 3))), (36, plainR (iA (aroundZ (x.tdiv 6) 3)))] [(11, .val (bA true)), (14, .val (bA true)), (22, .val (.rptr (iA x :: (l.drop (1 + 1)).map iA))), (27, .val (.rptr (iA x :: (l.drop (1 + 1)).map iA))), (29, .val (iA (x.tdiv 2))), (33, .val (.rptr (iA x :: (l.drop (1 + 1)).map iA))), (35, .val (iA (x.tdiv 6))), (37, .val (iA (aroundZ (x.tdiv 6) 3 - 1))), (40, .fresh 33 3 (evsOf' l 2).length (evA (evsOf' l 2))), (17, .val (iA ((1 + 1 : Nat) : Int)))]) (liveOf 6) 0 (fB (post 2 COu)) (stOu l z none)))) [pB .add 3 (.tmp 16) (.const (.int .i64 1)) (.int .i64 (1)) (.int .i64 (1)) (iA ((1 + 1 : Nat) : Int)), cmdAppend Tryd.prog 23 23 (.sc (.slice none 0 0)) (.row (some (39, 33)) 3 1 (evA [evOf' x])) = some (.fresh 33 3 (evsOf' l 2).length (evA (evsOf' l 2))), pB .sub 3 (.tmp 36) (.const (.int .i64 1)) (.int .i64 (aroundZ (x.tdiv 6) 3)) (.int .i64 (1)) (iA (aroundZ (x.tdiv 6) 3 - 1)), Ok Tryd.prog 21 [iA (x.tdiv 6), iA 3] (plainR (iA (aroundZ (x.tdiv 6) 3))), pB .quo 3 (.tmp 34) (.const (.int .i64 6)) (.int .i64 (x)) (.int .i64 (6)) (iA (x.tdiv 6)), cmdIndexAddr Tryd.prog 22 (rowI l) (iA (1 : Nat)) = some (.val (.rptr (iA x :: (l.drop (1 + 1)).map iA))), Ok Tryd.prog 21 [iA (x.tdiv 2), iA 3] (plainR (iA (aroundZ (x.tdiv 2) 3))), pB .quo 3 (.tmp 28) (.const (.int .i64 2)) (.int .i64 (x)) (.int .i64 (2)) (iA (x.tdiv 2)), cmdIndexAddr Tryd.prog 22 (rowI l) (iA (1 : Nat)) = some (.val (.rptr (iA x :: (l.drop (1 + 1)).map iA))), Ok Tryd.prog 21 [iA x, iA 2] (plainR (iA (aroundZ x 2))), cmdIndexAddr Tryd.prog 22 (rowI l) (iA (1 : Nat)) = some (.val (.rptr (iA x :: (l.drop (1 + 1)).map iA))), pB .lss 3 (.tmp 13) (.const (.int .i64 9)) (.int .i64 (1)) (.int .i64 (9)) (bA true), pB .lss 3 (.tmp 8) (.tmp 10) (.int .i64 (1)) (.int .i64 (l.length)) (bA true)] (by kernel_rfl) (by kernel_rfl) (allc (hAdd _ _ _ _ _ _ (by simp) ⟨by omega, by omega⟩) (allc (by rw [e2]; exact el23.nil (rowOf_row _ _ _ _) (fits_of (by simp) (by omega))) (allc (hSub _ _ _ _ _ _ rfl ⟨by omega, by omega⟩) (allc (okAround _ 3 (by omega) (by omega) (tdiv_I64 hx64 6 (by omega))) (allc (hQuo _ _ _ _ _ _ (by omega) rfl (tdiv_I64 hx64 6 (by omega))) (allc (hIdxI hx) (allc (okAround _ 3 (by omega) (by omega) (tdiv_I64 hx64 2 (by omega))) (allc (hQuo _ _ _ _ _ _ (by omega) rfl (tdiv_I64 hx64 2 (by omega))) (allc (hIdxI hx) (allc (okAround x 2 (by omega) (by omega) hx64) (allc (hIdxI hx) (allc (hLss _ _ _ _ _ _ (by simp <;> omega)) (allc (hLss _ _ _ _ _ _ (by simp <;> omega)) allnil))))))))))))) (q _ (by kernel_rfl))

theorem out_round (l : List Int) (z x : Int) (k : Nat) (h1 : 1 ≤ k) (h9 : k < 9) (hx : l[k]? = some x) (hx64 : I64 x) {Q : Out → Prop} (q : ∀ s', clean [0, 2, 3, 4] [2, 3, 40] s' = stOu l z (some (k + 1)) → Q (.go s')) : Judg (fB (post 2 COu)) (stOu l z (some k)) Q := by
  have a1 := aroundZ_nonneg (x.tdiv 6) 3 (by omega)
  have a2 := aroundZ_lt (x.tdiv 6) 3 (by omega)
  have hk : k < l.length := (List.getElem?_eq_some_iff.1 hx).1
  have e1 : (evsOf' l (k + 1)).length = (evsOf' l k).length + 1 := by rw [evsOf'_succ l k x h1 hx]; simp
  have e2 : evA (evsOf' l (k + 1)) = evA (evsOf' l k) ++ evA [evOf' x] := by rw [evsOf'_succ l k x h1 hx, evA_append]
  refine Judg.run' 6 (orcC [(24, plainR (iA (aroundZ x 2))), (30, plainR (iA (aroundZ (x.tdiv 2) 3))), (36, plainR (iA (aroundZ (x.tdiv 6) 3)))] [(11, .val (bA true)), (14, .val (bA true)), (22, .val (.rptr (iA x :: (l.drop (k + 1)).map iA))), (27, .val (.rptr (iA x :: (l.drop (k + 1)).map iA))), (29, .val (iA (x.tdiv 2))), (33, .val (.rptr (iA x :: (l.drop (k + 1)).map iA))), (35, .val (iA (x.tdiv 6))), (37, .val (iA (aroundZ (x.tdiv 6) 3 - 1))), (40, .grow 40 33 3 (evsOf' l k).length (evA (evsOf' l k)) 1 (evA [evOf' x])), (17, .val (iA ((k + 1 : Nat) : Int)))]) (.go (stOf (runCode Tryd.prog (orcC [(24, plainR (iA (aroundZ x 2))), (30, plainR (iA (aroundZ (x.tdiv 2) 3))), (36, plainR (iA (aroundZ (x.tdiv 6) 3)))] [(11, .val (bA true)), (14, .val (bA true)), (22, .val (.rptr (iA x :: (l.drop (k + 1)).map iA))), (27, .val (.rptr (iA x :: (l.drop (k + 1)).map iA))), (29, .val (iA (x.tdiv 2))), (33, .val (.rptr (iA x :: (l.drop (k + 1)).map iA))), (35, .val (iA (x.tdiv 6))), (37, .val (iA (aroundZ (x.tdiv 6) 3 - 1))), (40, .grow 40 33 3 (evsOf' l k).length (evA (evsOf' l k)) 1 (evA [evOf' x])), (17, .val (iA ((k + 1 : Nat) : Int)))]) (liveOf 6) 0 (fB (post 2 COu)) (stOu l z (some k))))) [pB .add 3 (.tmp 16) (.const (.int .i64 1)) (.int .i64 (k)) (.int .i64 (1)) (iA ((k + 1 : Nat) : Int)), cmdAppend Tryd.prog 23 23 (.row (some (40, 33)) 3 (evsOf' l k).length (evA (evsOf' l k))) (.row (some (39, 33)) 3 1 (evA [evOf' x])) = some (.grow 40 33 3 (evsOf' l k).length (evA (evsOf' l k)) 1 (evA [evOf' x])), (evsOf' l k).length * 3 = (evsOf' l k).length * 3, pB .sub 3 (.tmp 36) (.const (.int .i64 1)) (.int .i64 (aroundZ (x.tdiv 6) 3)) (.int .i64 (1)) (iA (aroundZ (x.tdiv 6) 3 - 1)), Ok Tryd.prog 21 [iA (x.tdiv 6), iA 3] (plainR (iA (aroundZ (x.tdiv 6) 3))), pB .quo 3 (.tmp 34) (.const (.int .i64 6)) (.int .i64 (x)) (.int .i64 (6)) (iA (x.tdiv 6)), cmdIndexAddr Tryd.prog 22 (rowI l) (iA (k : Nat)) = some (.val (.rptr (iA x :: (l.drop (k + 1)).map iA))), Ok Tryd.prog 21 [iA (x.tdiv 2), iA 3] (plainR (iA (aroundZ (x.tdiv 2) 3))), pB .quo 3 (.tmp 28) (.const (.int .i64 2)) (.int .i64 (x)) (.int .i64 (2)) (iA (x.tdiv 2)), cmdIndexAddr Tryd.prog 22 (rowI l) (iA (k : Nat)) = some (.val (.rptr (iA x :: (l.drop (k + 1)).map iA))), Ok Tryd.prog 21 [iA x, iA 2] (plainR (iA (aroundZ x 2))), cmdIndexAddr Tryd.prog 22 (rowI l) (iA (k : Nat)) = some (.val (.rptr (iA x :: (l.drop (k + 1)).map iA))), pB .lss 3 (.tmp 13) (.const (.int .i64 9)) (.int .i64 (k)) (.int .i64 (9)) (bA true), pB .lss 3 (.tmp 8) (.tmp 10) (.int .i64 (k)) (.int .i64 (l.length)) (bA true)] (by kernel_rfl) (by kernel_rfl) (allc (hAdd _ _ _ _ _ _ (by simp) ⟨by omega, by omega⟩) (allc (el23.grow (rowOf_row _ _ _ _) (fits_of (by rw [evsOf'_len l k (by omega)]; omega) (by omega))) (allc (rfl) (allc (hSub _ _ _ _ _ _ rfl ⟨by omega, by omega⟩) (allc (okAround _ 3 (by omega) (by omega) (tdiv_I64 hx64 6 (by omega))) (allc (hQuo _ _ _ _ _ _ (by omega) rfl (tdiv_I64 hx64 6 (by omega))) (allc (hIdxI hx) (allc (okAround _ 3 (by omega) (by omega) (tdiv_I64 hx64 2 (by omega))) (allc (hQuo _ _ _ _ _ _ (by omega) rfl (tdiv_I64 hx64 2 (by omega))) (allc (hIdxI hx) (allc (okAround x 2 (by omega) (by omega) hx64) (allc (hIdxI hx) (allc (hLss _ _ _ _ _ _ (by simp <;> omega)) (allc (hLss _ _ _ _ _ _ (by simp <;> omega)) allnil)))))))))))))) (q _ ?_)
  unfold stOu
  simp only [e1, e2]
  kernel_rfl

theorem out_end1 (l : List Int) (z : Int) (hk : ¬ 1 < l.length) {Q : Out → Prop} (q : ∀ s1, (resVals Tryd.prog s1 Tryd.f6.results.toList).bind (resOf s1) = some (plainR (.sc (.agg #[.slice none 0 0, .int .i64 z])), []) → Q (.ret s1)) : Judg (fB (post 2 COu)) (stOu l z none) (endOf 0 (fK (post 2 COu)) Q (fun _ => False)) := by
  refine Judg.run' 6 (orc [(11, .val (bA false))]) (.exit 0 (stOf (runCode Tryd.prog (orc [(11, .val (bA false))]) (liveOf 6) 0 (fB (post 2 COu)) (stOu l z none)))) [pB .lss 3 (.tmp 8) (.tmp 10) (.int .i64 (1)) (.int .i64 (l.length)) (bA false)] (by kernel_rfl) (by kernel_rfl) (allc (hLss _ _ _ _ _ _ (by simp <;> omega)) allnil) ?_
  show Judg (fK (post 2 COu)) _ _
  refine Judg.run' 6 (orc []) (.ret (stOf (runCode Tryd.prog (orc []) (liveOf 6) 0 (fK (post 2 COu)) (stOf (runCode Tryd.prog (orc [(11, .val (bA false))]) (liveOf 6) 0 (fB (post 2 COu)) (stOu l z none)))))) [pB .lss 3 (.tmp 8) (.tmp 10) (.int .i64 (1)) (.int .i64 (l.length)) (bA false)] (by kernel_rfl) (by kernel_rfl) (allc (hLss _ _ _ _ _ _ (by simp <;> omega)) allnil) (q _ (by kernel_rfl))

theorem out_endk (l : List Int) (z : Int) (k : Nat) (hk : ¬ k < l.length) {Q : Out → Prop} (q : ∀ s1, (resVals Tryd.prog s1 Tryd.f6.results.toList).bind (resOf s1) = some (plainR (outA (evsOf' l k) z), []) → Q (.ret s1)) : Judg (fB (post 2 COu)) (stOu l z (some k)) (endOf 0 (fK (post 2 COu)) Q (fun _ => False)) := by
  refine Judg.run' 6 (orc [(11, .val (bA false))]) (.exit 0 (stOf (runCode Tryd.prog (orc [(11, .val (bA false))]) (liveOf 6) 0 (fB (post 2 COu)) (stOu l z (some k))))) [pB .lss 3 (.tmp 8) (.tmp 10) (.int .i64 (k)) (.int .i64 (l.length)) (bA false)] (by kernel_rfl) (by kernel_rfl) (allc (hLss _ _ _ _ _ _ (by simp <;> omega)) allnil) ?_
  show Judg (fK (post 2 COu)) _ _
  refine Judg.run' 6 (orc []) (.ret (stOf (runCode Tryd.prog (orc []) (liveOf 6) 0 (fK (post 2 COu)) (stOf (runCode Tryd.prog (orc [(11, .val (bA false))]) (liveOf 6) 0 (fB (post 2 COu)) (stOu l z (some k))))))) [pB .lss 3 (.tmp 8) (.tmp 10) (.int .i64 (k)) (.int .i64 (l.length)) (bA false)] (by kernel_rfl) (by kernel_rfl) (allc (hLss _ _ _ _ _ _ (by simp <;> omega)) allnil) (q _ (by kernel_rfl))

theorem out_end9 (l : List Int) (z : Int) (k : Nat) (hk : k < l.length) (h9 : ¬ k < 9) {Q : Out → Prop} (q : ∀ s1, (resVals Tryd.prog s1 Tryd.f6.results.toList).bind (resOf s1) = some (plainR (outA (evsOf' l k) z), []) → Q (.ret s1)) : Judg (fB (post 2 COu)) (stOu l z (some k)) (endOf 0 (fK (post 2 COu)) Q (fun _ => False)) := by
  refine Judg.run' 6 (orc [(11, .val (bA true)), (14, .val (bA false))]) (.exit 0 (stOf (runCode Tryd.prog (orc [(11, .val (bA true)), (14, .val (bA false))]) (liveOf 6) 0 (fB (post 2 COu)) (stOu l z (some k))))) [pB .lss 3 (.tmp 13) (.const (.int .i64 9)) (.int .i64 (k)) (.int .i64 (9)) (bA false), pB .lss 3 (.tmp 8) (.tmp 10) (.int .i64 (k)) (.int .i64 (l.length)) (bA true)] (by kernel_rfl) (by kernel_rfl) (allc (hLss _ _ _ _ _ _ (by simp <;> omega)) (allc (hLss _ _ _ _ _ _ (by simp <;> omega)) allnil)) ?_
  show Judg (fK (post 2 COu)) _ _
  refine Judg.run' 6 (orc []) (.ret (stOf (runCode Tryd.prog (orc []) (liveOf 6) 0 (fK (post 2 COu)) (stOf (runCode Tryd.prog (orc [(11, .val (bA true)), (14, .val (bA false))]) (liveOf 6) 0 (fB (post 2 COu)) (stOu l z (some k))))))) [pB .lss 3 (.tmp 13) (.const (.int .i64 9)) (.int .i64 (k)) (.int .i64 (9)) (bA false), pB .lss 3 (.tmp 8) (.tmp 10) (.int .i64 (k)) (.int .i64 (l.length)) (bA true)] (by kernel_rfl) (by kernel_rfl) (allc (hLss _ _ _ _ _ _ (by simp <;> omega)) (allc (hLss _ _ _ _ _ _ (by simp <;> omega)) allnil)) (q _ (by kernel_rfl))

theorem okOutcome (l : List Int) (hl : l.length ≤ 100000000) (hw : I64s l) : Ok Tryd.prog 6 [rowI l] (plainR (outA (evsOf' l (min l.length 9)) (atZ l 0 3))) := by
  have J : ∀ {Q : Out → Prop}, (∀ s1, (resVals Tryd.prog s1 Tryd.f6.results.toList).bind (resOf s1) = some (plainR (.sc (.agg #[.slice none 0 0, .int .i64 (atZ l 0 3)])), []) → l.length ≤ 1 → Q (.ret s1)) →
      (∀ s1, (resVals Tryd.prog s1 Tryd.f6.results.toList).bind (resOf s1) = some (plainR (outA (evsOf' l (min l.length 9)) (atZ l 0 3)), []) → 1 < l.length → Q (.ret s1)) → Judg COu (start [rowI l] 43) Q := by
    intro Q q1 q2
    refine Judg.pre' 6 (orcC [(6, plainR (iA (atZ l 0 3)))] []) 2 (sOua l) [Ok Tryd.prog 20 [rowI l, iA 0, iA 3] (plainR (iA (atZ l 0 3)))] (by kernel_rfl) (by kernel_rfl) (allc (okAt l 0 3 (by omega) (by omega) hw) allnil) ?_
    refine Judg.for_ (ι := Option Nat) [0, 2, 3, 4] [2, 3, 40] (stOu l (atZ l 0 3)) (fun k => 9 - k.getD 1) (fun k => match k with | none => True | some k => 2 ≤ k ∧ k ≤ 9 ∧ k ≤ l.length) (by kernel_rfl) (orc []) (liveOf 6) (s1 := sOub l) (by kernel_rfl)
      (by have e : (sOub l).log = [Ok Tryd.prog 20 [rowI l, iA 0, iA 3] (plainR (iA (atZ l 0 3)))] := by kernel_rfl
          rw [e]; exact (allc (okAt l 0 3 (by omega) (by omega) hw) allnil)) none trivial (by kernel_rfl) ?_
    rintro (_ | k) hP
    · by_cases h1 : 1 < l.length
      · obtain ⟨x, hx⟩ : ∃ x, l[1]? = some x := ⟨l[1], List.getElem?_eq_getElem h1⟩
        exact out_round1 l _ x hx (hw.at_ hx) fun s' hs' => ⟨some 2, ⟨by omega, by omega, by omega⟩, by simp, hs'⟩
      · exact Judg.endMono (out_end1 l _ h1 fun s1 h => q1 s1 h (by omega)) fun _ h => h.elim
    · obtain ⟨h1, h2, h3⟩ := hP
      by_cases hk : k < l.length
      · by_cases h9 : k < 9
        · obtain ⟨x, hx⟩ : ∃ x, l[k]? = some x := ⟨l[k], List.getElem?_eq_getElem hk⟩
          exact out_round l _ x k (by omega) h9 hx (hw.at_ hx) fun s' hs' => ⟨some (k + 1), ⟨by omega, by omega, by omega⟩, by simp; omega, hs'⟩
        · have e : min l.length 9 = k := by omega
          exact Judg.endMono (out_end9 l _ k hk h9 fun s1 h => q2 s1 (by rw [e]; exact h) (by omega)) fun _ h => h.elim
      · have e : min l.length 9 = k := by omega
        exact Judg.endMono (out_endk l _ k hk fun s1 h => q2 s1 (by rw [e]; exact h) (by omega)) fun _ h => h.elim
  by_cases h1 : l.length ≤ 1
  · have e : evsOf' l (min l.length 9) = [] := by unfold evsOf'; rw [List.drop_eq_nil_of_le (by simp; omega)]; rfl
    rw [e]
    refine Ok.res (x := .sc (.agg #[.slice none 0 0, .int .i64 (atZ l 0 3)])) (Ok.judg Tryd.func6 (c := COu) rfl (by simp [Tryd.ntmps6]) (J (fun s1 h _ => ⟨s1, [], .inr rfl, h, allnil⟩) (fun s1 h h' => by omega))) ?_
    intro pr w c hc
    have hc : c = .agg #[.slice none 0 0, .int .i64 (atZ l 0 3)] := hc
    subst hc
    exact ⟨[_, _], rfl, by simp [Value.oneCell'], _, _, rfl, ⟨none, 0, rfl, Nat.le_refl _, by simp [maxLen], by simp [evA], fun h => absurd h (by simp)⟩, _, _, rfl, rfl, rfl⟩
  · exact Ok.judg Tryd.func6 (c := COu) rfl (by simp [Tryd.ntmps6]) (J (fun s1 h h' => by omega) (fun s1 h _ => ⟨s1, [], .inr rfl, h, allnil⟩))
end Go.Proofs.YtmhoefpienagkaaDoor
end

/- What a law's arguments read as, and what is asked behind the call; the tables of functions as they are laid. -/
namespace Go.Proofs.YtmhoefpienagkaaDoor
open Go.ChangeShapes Go.WideShapes Go.ChangeAt Go.RowKit
theorem own0 : ownKnob Tryd.prog.godebug = none := by kernel_rfl
theorem laidOut0 : laidOutB Tryd.prog = true := by kernel_rfl
abbrev pr0 (W : World) : Nat → Nat → Prop := fun b _ => b < W.heap.size
theorem pr0_lt (W : World) : ∀ b i, pr0 W b i → b < W.heap.size := fun _ _ h => h

theorem bulk_one {H : Type} (d : DataW H) : 1 ≤ Rows.uptoBulk d := by
  cases d with
  | lit l => cases l <;> simp [Rows.uptoBulk]
  | nil => simp [Rows.uptoBulk]
  | ptr d => simp [Rows.uptoBulk]
  | slice elems spare => simp [Rows.uptoBulk]
  | agg parts => simp [Rows.uptoBulk]
  | iface t d => simp [Rows.uptoBulk]
  | map entries => simp [Rows.uptoBulk]
  | held h => simp [Rows.uptoBulk]
theorem bulk_len {H : Type} (l : List (DataW H)) : l.length ≤ Rows.uptoBulkAll l := by
  induction l with
  | nil => simp [Rows.uptoBulkAll]
  | cons x r ih => have := bulk_one x; simp only [Rows.uptoBulkAll, List.length_cons]; omega
theorem bulk_slice {H : Type} (elems spare : List (DataW H)) : elems.length + 1 ≤ Rows.uptoBulk (.slice elems spare) := by
  have h1 := bulk_len elems
  simp only [Rows.uptoBulk]
  omega
section
variable {H : Type} {enc : TypeId × Value → H} {W : World} {d : DataW H} {p : List MemPlace} {v : Value}
theorem open_k {t e : TypeId} {k : IntKind} (ht : Tryd.prog.underlying t = some (.slice e)) (he : Tryd.prog.underlying e = some (.int k)) (hc : Tryd.prog.cellsOf e = 1) (hv : ∃ a len cap, v = .slice a len cap) (h : DataW.Trod enc Tryd.prog W 0 (fun _ => true) true t v d p) (hlt : ∀ x ∈ p, x.block < W.heap.size) :
    ∃ l : List Int, V (pr0 W) W v (.row none 1 l.length (l.map fun x => .sc (.int k x))) ∧ (∀ x ∈ l, (Lit.int k x).wf = true) ∧ l.length + 1 ≤ Rows.uptoBulk d := by
  obtain ⟨a0, len, cap, rfl⟩ := hv
  obtain ⟨fuel, hf⟩ := h
  rcases open_ints ht he hc hf with ⟨hcs, hx⟩ | ⟨a, len', cap', zs, hcs, _, hl, hm, hz, hx, hcell, hwz⟩
  · simp [Value.cells] at hcs
    obtain ⟨rfl, rfl, rfl⟩ := hcs
    simp only [Prod.mk.injEq] at hx
    obtain ⟨rfl, rfl⟩ := hx
    exact ⟨[], ⟨none, 0, rfl, Nat.le_refl _, by simp [maxLen], by simp, fun h => absurd h (by simp)⟩, by simp, by simp [Rows.uptoBulk]⟩
  · simp [Value.cells] at hcs
    obtain ⟨rfl, rfl, rfl⟩ := hcs
    simp only [Prod.mk.injEq] at hx
    obtain ⟨rfl, rfl⟩ := hx
    simp only [if_true] at hz
    have hlen : (zs.take len).length = len := by rw [List.length_take]; omega
    refine ⟨zs.take len, ?_, fun x hx => hwz x (List.mem_of_mem_take hx), ?_⟩
    · rw [hlen]
      refine ⟨some a, cap, rfl, hl, hm, by simp; omega, fun hpos => ?_⟩
      have h0 := hcell 0 (by omega)
      obtain ⟨b, off, spot⟩ := a
      have hspot : spot = none := by
        cases spot with
        | none => rfl
        | some s =>
          simp only [Addr.add, if_true, World.cell?, Option.isSome_some] at h0
          split at h0 <;> simp at h0
      subst hspot
      have hb : b < W.heap.size := by
        have := hlt (.cell b off) (MemPlace.mem_row.2 ⟨0, by omega, by simp⟩)
        simpa [MemPlace.block] using this
      refine ⟨b, off, rfl, VC.of_at fun i x hx => ?_⟩
      rw [List.getElem?_map] at hx
      cases hq : (zs.take len)[i]? with
      | none => rw [hq] at hx; cases hx
      | some z =>
        rw [hq] at hx; cases hx
        have hi : i < len := by have := (List.getElem?_eq_some_iff.1 hq).1; omega
        have hzi : zs.getD i 0 = z := by
          rw [List.getElem?_take, if_pos hi] at hq
          simp [List.getD, hq]
        have h2 := hcell i (by omega)
        rw [hzi, Addr.add_lit] at h2
        exact ⟨_, h2, hb, rfl, rfl⟩
    · have := bulk_slice (H := H) (lits k (zs.take len)) (lits k (zs.drop len))
      have e : (lits (H := H) k (zs.take len)).length = len := by simp [lits]; omega
      rw [hlen]; omega
theorem wf_I64 {x : Int} (h : (Lit.int .i64 x).wf = true) : I64 x := by
  have h' : (decide (IntKind.i64.min ≤ x) && decide (x ≤ IntKind.i64.max)) = true := h
  rw [Bool.and_eq_true, decide_eq_true_eq, decide_eq_true_eq] at h'
  exact h'
theorem open22 (hv : ∃ a len cap, v = .slice a len cap) (h : DataW.Trod enc Tryd.prog W 0 (fun _ => true) true 22 v d p) (hlt : ∀ x ∈ p, x.block < W.heap.size) :
    ∃ l : List Int, V (pr0 W) W v (rowI l) ∧ I64s l ∧ l.length + 1 ≤ Rows.uptoBulk d := by
  obtain ⟨l, h1, h2, h3⟩ := open_k Tryd.underlying22 Tryd.underlying3 (by kernel_rfl) hv h hlt
  exact ⟨l, h1, fun x hx => wf_I64 (h2 x hx), h3⟩
theorem keep22 {W' : World} (h : DataW.Trod enc Tryd.prog W 0 (fun _ => true) true 22 v d p) (hb : Below W.heap.size W W') (hlt : ∀ x ∈ p, x.block < W.heap.size) : DataW.Trod enc Tryd.prog W' 0 (fun b => decide (b < W.heap.size)) true 22 v d p :=
  Below.trod laidOut0 (by kernel_rfl) (of_decide_eq_true (by kernel_rfl)) h hb hlt
end
theorem bound_of {H : Type} {l : List (DataW H)} (hk : Rows.uptoSmall H l = true) : Rows.uptoBulkAll l ≤ 1048576 := by
  unfold Rows.uptoSmall at hk
  rw [decide_eq_true_eq] at hk
  exact hk

def instrNames : List (List UInt8 × Nat) := [([40, 42, 115, 99, 111, 114, 105, 97, 47, 118, 109, 46, 109, 97, 99, 104, 105, 110, 101, 41, 46, 105, 112, 117, 115, 104], 109), ([40, 42, 115, 99, 111, 114, 105, 97, 47, 118, 109, 46, 109, 97, 99, 104, 105, 110, 101, 41, 46, 105, 108, 111, 97, 100], 110), ([40, 42, 115, 99, 111, 114, 105, 97, 47, 118, 109, 46, 109, 97, 99, 104, 105, 110, 101, 41, 46, 105, 115, 116, 111, 114, 101], 111), ([40, 42, 115, 99, 111, 114, 105, 97, 47, 118, 109, 46, 109, 97, 99, 104, 105, 110, 101, 41, 46, 105, 101, 108, 101, 109], 112), ([40, 42, 115, 99, 111, 114, 105, 97, 47, 118, 109, 46, 109, 97, 99, 104, 105, 110, 101, 41, 46, 105, 112, 117, 116], 113), ([40, 42, 115, 99, 111, 114, 105, 97, 47, 118, 109, 46, 109, 97, 99, 104, 105, 110, 101, 41, 46, 105, 111, 112], 114), ([40, 42, 115, 99, 111, 114, 105, 97, 47, 118, 109, 46, 109, 97, 99, 104, 105, 110, 101, 41, 46, 105, 110, 111, 116], 115), ([40, 42, 115, 99, 111, 114, 105, 97, 47, 118, 109, 46, 109, 97, 99, 104, 105, 110, 101, 41, 46, 105, 106, 117, 109, 112], 116), ([40, 42, 115, 99, 111, 114, 105, 97, 47, 118, 109, 46, 109, 97, 99, 104, 105, 110, 101, 41, 46, 105, 102, 97, 108, 115, 101], 117), ([40, 42, 115, 99, 111, 114, 105, 97, 47, 118, 109, 46, 109, 97, 99, 104, 105, 110, 101, 41, 46, 105, 99, 97, 108, 108], 118), ([40, 42, 115, 99, 111, 114, 105, 97, 47, 118, 109, 46, 109, 97, 99, 104, 105, 110, 101, 41, 46, 105, 114, 101, 116, 117, 114, 110], 119), ([40, 42, 115, 99, 111, 114, 105, 97, 47, 118, 109, 46, 109, 97, 99, 104, 105, 110, 101, 41, 46, 105, 116, 104, 114, 111, 119], 120), ([40, 42, 115, 99, 111, 114, 105, 97, 47, 118, 109, 46, 109, 97, 99, 104, 105, 110, 101, 41, 46, 105, 116, 114, 121], 121), ([40, 42, 115, 99, 111, 114, 105, 97, 47, 118, 109, 46, 109, 97, 99, 104, 105, 110, 101, 41, 46, 105, 100, 111, 110, 101], 122), ([40, 42, 115, 99, 111, 114, 105, 97, 47, 118, 109, 46, 109, 97, 99, 104, 105, 110, 101, 41, 46, 105, 115, 101, 110, 100], 123), ([40, 42, 115, 99, 111, 114, 105, 97, 47, 118, 109, 46, 109, 97, 99, 104, 105, 110, 101, 41, 46, 105, 114, 101, 99, 118], 124), ([40, 42, 115, 99, 111, 114, 105, 97, 47, 118, 109, 46, 109, 97, 99, 104, 105, 110, 101, 41, 46, 105, 115, 112, 97, 119, 110], 125), ([40, 42, 115, 99, 111, 114, 105, 97, 47, 118, 109, 46, 109, 97, 99, 104, 105, 110, 101, 41, 46, 105, 111, 117, 116], 126), ([40, 42, 115, 99, 111, 114, 105, 97, 47, 118, 109, 46, 109, 97, 99, 104, 105, 110, 101, 41, 46, 105, 100, 114, 111, 112], 127)]
def opNames : List (List UInt8 × Nat × Bool × Bool) := [([115, 99, 111, 114, 105, 97, 47, 119, 111, 114, 100, 46, 111, 112, 101, 114, 97, 116, 105, 111, 110, 115, 36, 49], 132, false, false), ([115, 99, 111, 114, 105, 97, 47, 119, 111, 114, 100, 46, 111, 112, 101, 114, 97, 116, 105, 111, 110, 115, 36, 50], 133, false, false), ([115, 99, 111, 114, 105, 97, 47, 119, 111, 114, 100, 46, 111, 112, 101, 114, 97, 116, 105, 111, 110, 115, 36, 51], 134, false, false), ([115, 99, 111, 114, 105, 97, 47, 119, 111, 114, 100, 46, 111, 112, 101, 114, 97, 116, 105, 111, 110, 115, 36, 52], 135, true, false), ([115, 99, 111, 114, 105, 97, 47, 119, 111, 114, 100, 46, 111, 112, 101, 114, 97, 116, 105, 111, 110, 115, 36, 53], 136, true, false), ([115, 99, 111, 114, 105, 97, 47, 119, 111, 114, 100, 46, 111, 112, 101, 114, 97, 116, 105, 111, 110, 115, 36, 54], 137, false, false), ([115, 99, 111, 114, 105, 97, 47, 119, 111, 114, 100, 46, 111, 112, 101, 114, 97, 116, 105, 111, 110, 115, 36, 55], 138, false, false), ([115, 99, 111, 114, 105, 97, 47, 119, 111, 114, 100, 46, 111, 112, 101, 114, 97, 116, 105, 111, 110, 115, 36, 56], 139, false, false), ([115, 99, 111, 114, 105, 97, 47, 119, 111, 114, 100, 46, 111, 112, 101, 114, 97, 116, 105, 111, 110, 115, 36, 57], 140, false, false), ([115, 99, 111, 114, 105, 97, 47, 119, 111, 114, 100, 46, 111, 112, 101, 114, 97, 116, 105, 111, 110, 115, 36, 49, 48], 142, false, false), ([115, 99, 111, 114, 105, 97, 47, 119, 111, 114, 100, 46, 111, 112, 101, 114, 97, 116, 105, 111, 110, 115, 36, 49, 49], 143, false, true), ([115, 99, 111, 114, 105, 97, 47, 119, 111, 114, 100, 46, 111, 112, 101, 114, 97, 116, 105, 111, 110, 115, 36, 49, 50], 145, false, true), ([115, 99, 111, 114, 105, 97, 47, 119, 111, 114, 100, 46, 111, 112, 101, 114, 97, 116, 105, 111, 110, 115, 36, 49, 51], 146, false, true), ([115, 99, 111, 114, 105, 97, 47, 119, 111, 114, 100, 46, 111, 112, 101, 114, 97, 116, 105, 111, 110, 115, 36, 49, 52], 147, false, true)]
noncomputable def oneNamed (s : List UInt8) (f : Nat) : Bool := ((List.range Tryd.prog.funcs.size).filter fun f => (Tryd.prog.funcs[f]?).any (·.name.toUTF8.data.toList == s)) == [f] && !s.isEmpty
theorem take_one {l : List Value} {i : Nat} {v : Value} (h : l[i]? = some v) : (l.drop i).take 1 = [v] := by
  obtain ⟨hl, rfl⟩ := List.getElem?_eq_some_iff.1 h
  rw [List.drop_eq_getElem_cons hl]; rfl
theorem take_in {l : List Value} {a n k : Nat} {v : Value} (hk : k < n) (h : l[a + k]? = some v) : ((((l.drop a).take n).drop k).take 1) = [v] := by
  refine take_one ?_
  rw [List.getElem?_take, if_pos hk, List.getElem?_drop]
  exact h
theorem fn_of {W : World} {m : Nat} {e : TypeId} {ps rs : Array TypeId} {va : Bool} (he : Tryd.prog.underlying e = some (.func ps rs va)) {v : Value} {s : List UInt8} {f : Nat} {q : List MemPlace} (ho : oneNamed s f = true)
    (h : DataW.trod (funcToken Tryd.prog) Tryd.prog W 0 (fun _ => true) true m e [v] = some (.held s, q)) : v = fnV f := by
  unfold oneNamed at ho
  rw [Bool.and_eq_true] at ho
  cases s with
  | nil => simp at ho
  | cons b r => exact func_of_trod he (by simpa using ho.1) h
theorem instr_cells {W : World} (h : funcsAt Tryd.prog W "scoria/vm.instructions" (.agg (instrNames.map fun x => .iface "func" (.lit (.string x.1))))) : ∀ i x, instrNames[i]? = some x → W.cell? ⟨1, i, none⟩ = some (fnV x.2) := by
  obtain ⟨g, t, cs, fuel, p, hg, ht, hv, hd⟩ := h
  obtain rfl := Option.some.inj ((show Tryd.prog.globalNamed "scoria/vm.instructions" = some 1 by kernel_rfl).symm.trans hg)
  obtain rfl := Option.some.inj ((show (Tryd.prog.globals[1]?).map (·.type) = some 141 by kernel_rfl).symm.trans ht)
  rw [show (DataW.agg (instrNames.map fun x => DataW.iface "func" (.lit (.string x.1))) : DataW Unit).funcsOut = .agg (instrNames.map fun x => .held x.1) by kernel_rfl] at hd
  obtain ⟨xs, m, _, hx, hl, hn, hel⟩ := DataW.trod_array Tryd.underlying141 hd
  simp only [Prod.mk.injEq, DataW.agg.injEq] at hx
  rw [show Tryd.prog.cellsOf 141 = 19 by kernel_rfl] at hl
  rw [show Tryd.prog.cellsOf 140 = 1 by kernel_rfl] at hel
  intro i x hix
  have hi : i < 19 := (List.getElem?_eq_some_iff.1 hix).1
  have hall : instrNames.all (fun x => oneNamed x.1 x.2) = true := by kernel_rfl
  have ho : oneNamed x.1 x.2 = true := List.all_eq_true.1 hall x (List.mem_of_getElem? hix)
  have hi' : i < cs.toList.length := by omega
  have hv1 : cs.toList[i]? = some (cs.toList[i]) := List.getElem?_eq_getElem hi'
  have h1 := hel i hi
  rw [Nat.mul_one, take_one hv1] at h1
  have h2 : (xs.map (·.1))[i]? = some (.held x.1) := by rw [← hx.1, List.getElem?_map, hix]; rfl
  rw [List.getElem?_map] at h2
  cases hq : xs[i]? with
  | none => rw [hq] at h2; cases h2
  | some y =>
    rw [hq] at h1 h2
    have h3 : y.1 = .held x.1 := Option.some.inj h2
    have h4 := fn_of (q := y.2) Tryd.underlying140 ho (by rw [h1, ← h3])
    have h5 := World.var?_cell hg hv i
    rw [h5, ← Array.getElem?_toList, hv1, h4]
theorem op_cells {W : World} (h : funcsAt Tryd.prog W "scoria/word.operations" (.agg (opNames.map fun x => .agg [.iface "func" (.lit (.string x.1)), .lit (.bool x.2.2.1), .lit (.bool x.2.2.2)]))) : ∀ i x, opNames[i]? = some x →
    W.cell? ⟨3, i * 3, none⟩ = some (fnV x.2.1) ∧ W.cell? ⟨3, i * 3 + 1, none⟩ = some (.bool x.2.2.1) ∧ W.cell? ⟨3, i * 3 + 2, none⟩ = some (.bool x.2.2.2) := by
  obtain ⟨g, t, cs, fuel, p, hg, ht, hv, hd⟩ := h
  obtain rfl := Option.some.inj ((show Tryd.prog.globalNamed "scoria/word.operations" = some 3 by kernel_rfl).symm.trans hg)
  obtain rfl := Option.some.inj ((show (Tryd.prog.globals[3]?).map (·.type) = some 154 by kernel_rfl).symm.trans ht)
  rw [show (DataW.agg (opNames.map fun x => DataW.agg [DataW.iface "func" (.lit (.string x.1)), .lit (.bool x.2.2.1), .lit (.bool x.2.2.2)]) : DataW Unit).funcsOut = .agg (opNames.map fun x => .agg [.held x.1, .lit (.bool x.2.2.1), .lit (.bool x.2.2.2)]) by kernel_rfl] at hd
  obtain ⟨xs, m, _, hx, hl, hn, hel⟩ := DataW.trod_array Tryd.underlying154 hd
  simp only [Prod.mk.injEq, DataW.agg.injEq] at hx
  rw [show Tryd.prog.cellsOf 154 = 42 by kernel_rfl] at hl
  rw [show Tryd.prog.cellsOf 153 = 3 by kernel_rfl] at hel
  intro i x hix
  have hi : i < 14 := (List.getElem?_eq_some_iff.1 hix).1
  have hall : opNames.all (fun x => oneNamed x.1 x.2.1) = true := by kernel_rfl
  have ho : oneNamed x.1 x.2.1 = true := List.all_eq_true.1 hall x (List.mem_of_getElem? hix)
  have h1 := hel i hi
  have h2 : (xs.map (·.1))[i]? = some (.agg [.held x.1, .lit (.bool x.2.2.1), .lit (.bool x.2.2.2)]) := by rw [← hx.1, List.getElem?_map, hix]; rfl
  rw [List.getElem?_map] at h2
  cases hq : xs[i]? with
  | none => rw [hq] at h2; cases h2
  | some y =>
    rw [hq] at h1 h2
    have h3 : y.1 = .agg [.held x.1, .lit (.bool x.2.2.1), .lit (.bool x.2.2.2)] := Option.some.inj h2
    obtain ⟨ys, m', _, hy, _, hyn, hyf⟩ := DataW.trod_struct Tryd.underlying153 h1
    have h4 : ys.map (·.1) = [.held x.1, .lit (.bool x.2.2.1), .lit (.bool x.2.2.2)] := by
      rw [hy] at h3
      exact DataW.agg.inj h3
    match ys, hyn, h4, hyf with
    | [y0, y1, y2], _, h4, hyf =>
      simp only [List.map_cons, List.map_nil, List.cons.injEq, and_true] at h4
      obtain ⟨e0, e1, e2⟩ := h4
      have g0 : i * 3 + 0 < cs.toList.length := by omega
      have g1 : i * 3 + 1 < cs.toList.length := by omega
      have g2 : i * 3 + 2 < cs.toList.length := by omega
      have v0 := List.getElem?_eq_getElem g0
      have v1 := List.getElem?_eq_getElem g1
      have v2 := List.getElem?_eq_getElem g2
      have f0 : DataW.trod (funcToken Tryd.prog) Tryd.prog W 0 (fun _ => true) true m' 47 ((((cs.toList.drop (i * 3)).take 3).drop 0).take (Tryd.prog.cellsOf 47)) = some y0 := hyf 0 _ rfl
      have f1 : DataW.trod (funcToken Tryd.prog) Tryd.prog W 0 (fun _ => true) true m' 4 ((((cs.toList.drop (i * 3)).take 3).drop 1).take (Tryd.prog.cellsOf 4)) = some y1 := hyf 1 _ rfl
      have f2 : DataW.trod (funcToken Tryd.prog) Tryd.prog W 0 (fun _ => true) true m' 4 ((((cs.toList.drop (i * 3)).take 3).drop 2).take (Tryd.prog.cellsOf 4)) = some y2 := hyf 2 _ rfl
      rw [show Tryd.prog.cellsOf 47 = 1 by kernel_rfl] at f0
      rw [show Tryd.prog.cellsOf 4 = 1 by kernel_rfl] at f1 f2
      rw [take_in (k := 0) (by decide) v0] at f0
      rw [take_in (k := 1) (by decide) v1] at f1
      rw [take_in (k := 2) (by decide) v2] at f2
      have c0 := fn_of (q := y0.2) Tryd.underlying47 ho (by rw [f0, ← e0])
      obtain ⟨b1, c1, d1⟩ := DataW.trod_bool Tryd.underlying4 (f1.trans (show _ = some y1 from rfl))
      obtain ⟨b2, c2, d2⟩ := DataW.trod_bool Tryd.underlying4 (f2.trans (show _ = some y2 from rfl))
      have k1 : b1 = x.2.2.1 := Lit.bool.inj (DataW.lit.inj ((congrArg Prod.fst d1).symm.trans e1))
      have k2 : b2 = x.2.2.2 := Lit.bool.inj (DataW.lit.inj ((congrArg Prod.fst d2).symm.trans e2))
      subst k1; subst k2
      have c1' := List.cons.inj c1 |>.1
      have c2' := List.cons.inj c2 |>.1
      refine ⟨?_, ?_, ?_⟩
      · have := World.var?_cell hg hv (i * 3 + 0)
        rw [← Array.getElem?_toList, v0] at this
        exact this.trans (congrArg some c0)
      · rw [World.var?_cell hg hv, ← Array.getElem?_toList, v1, c1']
      · rw [World.var?_cell hg hv, ← Array.getElem?_toList, v2, c2']
theorem glob_of {W : World} (hi : funcsAt Tryd.prog W "scoria/vm.instructions" (.agg (instrNames.map fun x => .iface "func" (.lit (.string x.1)))))
    (ho : funcsAt Tryd.prog W "scoria/word.operations" (.agg (opNames.map fun x => .agg [.iface "func" (.lit (.string x.1)), .lit (.bool x.2.2.1), .lit (.bool x.2.2.2)]))) : Glob W := by
  have hin := instr_cells hi
  have hop := op_cells ho
  have hc : ∀ p ∈ globs, W.cell? p.1 = some p.2 := by
    intro p hp
    rcases List.mem_append.1 hp with hp | hp
    · rw [show instrTab = instrNames.mapIdx (fun i x => ((⟨1, i, none⟩ : Addr), fnV x.2)) from rfl] at hp
      obtain ⟨i, hi, rfl⟩ := List.mem_mapIdx.1 hp
      exact hin i _ (List.getElem?_eq_getElem hi)
    · rw [show opTab = (opNames.mapIdx (fun i x => [((⟨3, i * 3, none⟩ : Addr), fnV x.2.1), (⟨3, i * 3 + 1, none⟩, .bool x.2.2.1), (⟨3, i * 3 + 2, none⟩, .bool x.2.2.2)])).flatten from rfl] at hp
      obtain ⟨l, hl, hp⟩ := List.mem_flatten.1 hp
      obtain ⟨i, hi, rfl⟩ := List.mem_mapIdx.1 hl
      obtain ⟨a, b, c⟩ := hop i _ (List.getElem?_eq_getElem hi)
      rcases List.mem_cons.1 hp with rfl | hp
      · exact a
      rcases List.mem_cons.1 hp with rfl | hp
      · exact b
      rcases List.mem_cons.1 hp with rfl | hp
      · exact c
      cases hp
  exact fun p hp => ⟨hc p hp, World.block_lt_of_cell? W p.1 (hc p hp)⟩
theorem glob_of_laid {W : World} (h : laidMetH Tryd.prog [("scoria/word.operations", Rows.laid_scoria_word_operations), ("scoria/vm.instructions", Rows.laid_scoria_vm_instructions)] W) : Glob W := by
  have h1 := h.funcs (n := "scoria/word.operations") (List.mem_cons_self ..)
  have h2 := h.funcs (n := "scoria/vm.instructions") (List.mem_cons_of_mem _ (List.mem_cons_self ..))
  exact glob_of h2 h1
theorem door_met (os : Os) (args : Array Value) : laidMetH Tryd.prog [("scoria/word.operations", Rows.laid_scoria_word_operations), ("scoria/vm.instructions", Rows.laid_scoria_vm_instructions)] ((World.doorLaid Tryd.prog 43 os).forCall (fun _ _ => 0) ⟨#[], args, []⟩).memory :=
  laidMetH_of_parts3 (fuel := 8) (laidMet_of_run' 8 (by kernel_rfl) (by kernel_rfl)) (by kernel_rfl) (by kernel_rfl)
end Go.Proofs.YtmhoefpienagkaaDoor
