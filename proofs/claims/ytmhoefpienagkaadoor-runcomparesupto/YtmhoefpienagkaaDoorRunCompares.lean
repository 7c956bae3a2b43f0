/- RunCompares returns true for all inputs of bulk at most 1048576: the row and its card. -/
import Derived.Test.YtmhoefpienagkaaDoorCards
import Derived.Test.YtmhoefpienagkaaDoorTie
import Derived.SevenTiedAt
import Derived.Test.YtmhoefpienagkaaDoorBa4
section
/- RunOrder: the walk. -/
set_option linter.unusedVariables false
namespace Go.Proofs.YtmhoefpienagkaaDoor
open Go.RowKit
theorem hNeqB (t : TypeId) (x y : Operand) (a b : Bool) (v : Bool) (h : (a != b) = v) (ht : t = 4 := by rfl) : pB .neq t x y (.bool a) (.bool b) (bA v) := by
  subst ht; subst h; unfold pB; cases a <;> cases b <;> kernel_rfl
theorem outCmp_bd (a : List Ev) (x : Int) (b : List Ev) (y : Int) : -1 ≤ outCmp a x b y ∧ outCmp a x b y ≤ 1 := by
  have hs : ∀ u v : Int, -1 ≤ sgn u v ∧ sgn u v ≤ 1 := fun u v => by unfold sgn; split <;> (try split) <;> omega
  have he : ∀ u v : Ev, -1 ≤ evCmp u v ∧ evCmp u v ≤ 1 := fun u v => by rw [evCmp_def]; split <;> (try split) <;> exact hs _ _
  have hd : ∀ a b : List Ev, -1 ≤ difC a b ∧ difC a b ≤ 1 := by
    intro a
    induction a with
    | nil => intro b; cases b <;> exact hs _ _
    | cons u a ih =>
      intro b
      cases b with
      | nil => exact hs _ _
      | cons v b =>
        simp only [difC]
        split
        · exact ih b
        · exact he u v
  rw [outCmp_def]
  split
  · exact hs _ _
  · exact hd _ _
theorem ord_neg (a b : List Ev) (x y : Int) {Q : Out → Prop} (q : ∀ s1, (resVals Tryd.prog s1 Tryd.f4.results.toList).bind (resOf s1) = some (plainR (bA true), []) → Q (.ret s1)) : Judg (post 8 (bodyOf Tryd.f4)) ({ n := 139, slots := [(7, .ptr 7 0), (8, .ptr 8 0), (11, iA (-1))], objs := [(7, (25, [rowE a, iA (x)])), (8, (25, [rowE b, iA (y)]))], lens := [] }) Q := by
  refine Judg.for_ (ι := Unit) [7, 8, 11, 12] [7, 8] (fun _ => { n := 139, slots := [(7, .ptr 7 0), (8, .ptr 8 0), (11, iA (-1)), (12, iA (0))], objs := [(7, (25, [rowE a, iA (x)])), (8, (25, [rowE b, iA (y)]))], lens := [] }) (fun _ => 0) (fun _ => True) (by kernel_rfl) (orc []) (liveOf 4) (s1 := (stOf (runCode Tryd.prog (orc []) (liveOf 4) 0 (fR (post 8 (bodyOf Tryd.f4))) ({ n := 139, slots := [(7, .ptr 7 0), (8, .ptr 8 0), (11, iA (-1))], objs := [(7, (25, [rowE a, iA (x)])), (8, (25, [rowE b, iA (y)]))], lens := [] })))) (by kernel_rfl) (by rw [show (stOf (runCode Tryd.prog (orc []) (liveOf 4) 0 (fR (post 8 (bodyOf Tryd.f4))) ({ n := 139, slots := [(7, .ptr 7 0), (8, .ptr 8 0), (11, iA (-1))], objs := [(7, (25, [rowE a, iA (x)])), (8, (25, [rowE b, iA (y)]))], lens := [] }))).log = [] by kernel_rfl]; exact allnil) () trivial (by kernel_rfl) ?_
  rintro ⟨⟩ _
  refine Judg.run' 4 (orc []) (.exit 0 (stOf (runCode Tryd.prog (orc []) (liveOf 4) 0 (fB (post 8 (bodyOf Tryd.f4))) ({ n := 139, slots := [(7, .ptr 7 0), (8, .ptr 8 0), (11, iA (-1)), (12, iA (0))], objs := [(7, (25, [rowE a, iA (x)])), (8, (25, [rowE b, iA (y)]))], lens := [] })))) [] (by kernel_rfl) (by kernel_rfl) allnil  ?_
  show Judg (fK (post 8 (bodyOf Tryd.f4))) _ _
  refine Judg.clean (L := [7, 8, 11]) (N := [7, 8]) (t := { n := 139, slots := [(7, .ptr 7 0), (8, .ptr 8 0), (11, iA (-1))], objs := [(7, (25, [rowE a, iA (x)])), (8, (25, [rowE b, iA (y)]))], lens := [] }) (by kernel_rfl) ?_
  exact Judg.run' 4 (orcC [(137, plainR (bA true))] []) (.ret (stOf (runCode Tryd.prog (orcC [(137, plainR (bA true))] []) (liveOf 4) 0 (fK (post 8 (bodyOf Tryd.f4))) ({ n := 139, slots := [(7, .ptr 7 0), (8, .ptr 8 0), (11, iA (-1))], objs := [(7, (25, [rowE a, iA (x)])), (8, (25, [rowE b, iA (y)]))], lens := [] })))) [Ok Tryd.prog 13 [] (plainR (bA true))] (by kernel_rfl) (by kernel_rfl) (allc (okLives) allnil) (q _ (by kernel_rfl))
def stOr4 (a b : List Ev) (x y : Int) (k i : Nat) : St := { n := 139, slots := [(7, .ptr 7 0), (8, .ptr 8 0), (11, iA ((k : Nat) : Int)), (12, iA ((i : Nat) : Int))], objs := [(7, (25, [rowE a, iA (x)])), (8, (25, [rowE b, iA (y)]))], lens := [] }
theorem ord_nat (a b : List Ev) (x y : Int) (k : Nat) (ha : a.length ≤ 100000) (hb : b.length ≤ 100000) (hk : k ≤ min a.length b.length) (heq : ∀ t, t < k → a[t]? = b[t]?) (hne : k < a.length → k < b.length → a[k]? ≠ b[k]?) {Q : Out → Prop} (q : ∀ s1, (resVals Tryd.prog s1 Tryd.f4.results.toList).bind (resOf s1) = some (plainR (bA true), []) → Q (.ret s1)) : Judg (post 8 (bodyOf Tryd.f4)) ({ n := 139, slots := [(7, .ptr 7 0), (8, .ptr 8 0), (11, iA ((k : Nat) : Int))], objs := [(7, (25, [rowE a, iA (x)])), (8, (25, [rowE b, iA (y)]))], lens := [] }) Q := by
  refine Judg.for_ (ι := Nat) [7, 8, 11, 12] [7, 8] (fun i => stOr4 a b x y k i) (fun i => k - i) (fun i => i ≤ k) (by kernel_rfl) (orc []) (liveOf 4) (s1 := (stOf (runCode Tryd.prog (orc []) (liveOf 4) 0 (fR (post 8 (bodyOf Tryd.f4))) ({ n := 139, slots := [(7, .ptr 7 0), (8, .ptr 8 0), (11, iA ((k : Nat) : Int))], objs := [(7, (25, [rowE a, iA (x)])), (8, (25, [rowE b, iA (y)]))], lens := [] })))) (by kernel_rfl) (by rw [show (stOf (runCode Tryd.prog (orc []) (liveOf 4) 0 (fR (post 8 (bodyOf Tryd.f4))) ({ n := 139, slots := [(7, .ptr 7 0), (8, .ptr 8 0), (11, iA ((k : Nat) : Int))], objs := [(7, (25, [rowE a, iA (x)])), (8, (25, [rowE b, iA (y)]))], lens := [] }))).log = [] by kernel_rfl]; exact allnil) 0 (Nat.zero_le _) (by kernel_rfl) ?_
  intro i hi
  by_cases hik : i < k
  · obtain ⟨u, hu⟩ : ∃ u, a[i]? = some u := ⟨a[i], List.getElem?_eq_getElem (by omega)⟩
    obtain ⟨v, hv⟩ : ∃ v, b[i]? = some v := ⟨b[i], List.getElem?_eq_getElem (by omega)⟩
    have huv : u = v := by have := heq i hik; rw [hu, hv] at this; exact Option.some.inj this
    exact Judg.run' 4 (orc [(93, .val (bA true)), (99, .val (.rptr (iA (u.p) :: iA (u.k) :: iA (u.n) :: evA (a.drop (i + 1))))), (104, .val (.rptr (iA (v.p) :: iA (v.k) :: iA (v.n) :: evA (b.drop (i + 1))))), (106, .val (bA false)), (95, .val (iA ((i + 1 : Nat) : Int)))]) (.go (stOf (runCode Tryd.prog (orc [(93, .val (bA true)), (99, .val (.rptr (iA (u.p) :: iA (u.k) :: iA (u.n) :: evA (a.drop (i + 1))))), (104, .val (.rptr (iA (v.p) :: iA (v.k) :: iA (v.n) :: evA (b.drop (i + 1))))), (106, .val (bA false)), (95, .val (iA ((i + 1 : Nat) : Int)))]) (liveOf 4) 0 (fB (post 8 (bodyOf Tryd.f4))) ((stOr4 a b x y k i))))) [pB .add 3 (.tmp 94) (.const (.int .i64 1)) (.int .i64 ((i : Nat) : Int)) (.int .i64 (1)) (iA ((i + 1 : Nat) : Int)), pB .neq 33 (.tmp 100) (.tmp 105) (.agg #[.int .i64 (u.p), .int .i64 (u.k), .int .i64 (u.n)]) (.agg #[.int .i64 (v.p), .int .i64 (v.k), .int .i64 (v.n)]) (bA false), cmdIndexAddr Tryd.prog 23 (rowE b) (iA ((i : Nat) : Int)) = some (.val (.rptr (iA (v.p) :: iA (v.k) :: iA (v.n) :: evA (b.drop (i + 1))))), cmdIndexAddr Tryd.prog 23 (rowE a) (iA ((i : Nat) : Int)) = some (.val (.rptr (iA (u.p) :: iA (u.k) :: iA (u.n) :: evA (a.drop (i + 1))))), pB .lss 3 (.tmp 91) (.tmp 92) (.int .i64 ((i : Nat) : Int)) (.int .i64 ((k : Nat) : Int)) (bA true)] (by kernel_rfl) (by kernel_rfl) (allc (hAdd _ _ _ _ _ _ (by simp) ⟨by omega, by omega⟩) (allc (hNeqE _ _ _ _ _ (by simpa using huv)) (allc (hIdxE hv) (allc (hIdxE hu) (allc (hLss _ _ _ _ _ _ (decide_eq_true (by omega))) allnil))))) ⟨i + 1, by omega, by omega, by kernel_rfl⟩
  · refine Judg.run' 4 (orc [(93, .val (bA false))]) (.exit 0 (stOf (runCode Tryd.prog (orc [(93, .val (bA false))]) (liveOf 4) 0 (fB (post 8 (bodyOf Tryd.f4))) ((stOr4 a b x y k i))))) [pB .lss 3 (.tmp 91) (.tmp 92) (.int .i64 ((i : Nat) : Int)) (.int .i64 ((k : Nat) : Int)) (bA false)] (by kernel_rfl) (by kernel_rfl) (allc (hLss _ _ _ _ _ _ (decide_eq_false (by omega))) allnil)  ?_
    show Judg (fK (post 8 (bodyOf Tryd.f4))) _ _
    refine Judg.clean (L := [7, 8, 11]) (N := [7, 8]) (t := { n := 139, slots := [(7, .ptr 7 0), (8, .ptr 8 0), (11, iA ((k : Nat) : Int))], objs := [(7, (25, [rowE a, iA (x)])), (8, (25, [rowE b, iA (y)]))], lens := [] }) (by kernel_rfl) ?_
    by_cases h1 : k < a.length
    · by_cases h2 : k < b.length
      · obtain ⟨u, hu⟩ : ∃ u, a[k]? = some u := ⟨a[k], List.getElem?_eq_getElem h1⟩
        obtain ⟨v, hv⟩ : ∃ v, b[k]? = some v := ⟨b[k], List.getElem?_eq_getElem h2⟩
        have huv : ¬ u = v := fun z => hne h1 h2 (by rw [hu, hv, z])
        exact Judg.run' 4 (orcC [(137, plainR (bA true))] [(108, .val (bA false)), (114, .val (bA false)), (121, .val (bA false)), (127, .val (.rptr (iA (u.p) :: iA (u.k) :: iA (u.n) :: evA (a.drop (k + 1))))), (132, .val (.rptr (iA (v.p) :: iA (v.k) :: iA (v.n) :: evA (b.drop (k + 1))))), (134, .val (bA true))]) (.ret (stOf (runCode Tryd.prog (orcC [(137, plainR (bA true))] [(108, .val (bA false)), (114, .val (bA false)), (121, .val (bA false)), (127, .val (.rptr (iA (u.p) :: iA (u.k) :: iA (u.n) :: evA (a.drop (k + 1))))), (132, .val (.rptr (iA (v.p) :: iA (v.k) :: iA (v.n) :: evA (b.drop (k + 1))))), (134, .val (bA true))]) (liveOf 4) 0 (fK (post 8 (bodyOf Tryd.f4))) ({ n := 139, slots := [(7, .ptr 7 0), (8, .ptr 8 0), (11, iA ((k : Nat) : Int))], objs := [(7, (25, [rowE a, iA (x)])), (8, (25, [rowE b, iA (y)]))], lens := [] })))) [Ok Tryd.prog 13 [] (plainR (bA true)), pB .neq 33 (.tmp 128) (.tmp 133) (.agg #[.int .i64 (u.p), .int .i64 (u.k), .int .i64 (u.n)]) (.agg #[.int .i64 (v.p), .int .i64 (v.k), .int .i64 (v.n)]) (bA true), cmdIndexAddr Tryd.prog 23 (rowE b) (iA ((k : Nat) : Int)) = some (.val (.rptr (iA (v.p) :: iA (v.k) :: iA (v.n) :: evA (b.drop (k + 1))))), cmdIndexAddr Tryd.prog 23 (rowE a) (iA ((k : Nat) : Int)) = some (.val (.rptr (iA (u.p) :: iA (u.k) :: iA (u.n) :: evA (a.drop (k + 1))))), pB .geq 3 (.tmp 117) (.tmp 120) (.int .i64 ((k : Nat) : Int)) (.int .i64 ((b.length : Nat) : Int)) (bA false), pB .geq 3 (.tmp 110) (.tmp 113) (.int .i64 ((k : Nat) : Int)) (.int .i64 ((a.length : Nat) : Int)) (bA false), pB .lss 3 (.tmp 107) (.const (.int .i64 0)) (.int .i64 ((k : Nat) : Int)) (.int .i64 (0)) (bA false)] (by kernel_rfl) (by kernel_rfl) (allc (okLives) (allc (hNeqE _ _ _ _ _ (by simpa using huv)) (allc (hIdxE hv) (allc (hIdxE hu) (allc (hGeq _ _ _ _ _ _ (decide_eq_false (by omega))) (allc (hGeq _ _ _ _ _ _ (decide_eq_false (by omega))) (allc (hLss _ _ _ _ _ _ (decide_eq_false (by omega))) allnil))))))) (q _ (by kernel_rfl))
      · exact Judg.run' 4 (orcC [(137, plainR (bA true))] [(108, .val (bA false)), (114, .val (bA false)), (121, .val (bA true))]) (.ret (stOf (runCode Tryd.prog (orcC [(137, plainR (bA true))] [(108, .val (bA false)), (114, .val (bA false)), (121, .val (bA true))]) (liveOf 4) 0 (fK (post 8 (bodyOf Tryd.f4))) ({ n := 139, slots := [(7, .ptr 7 0), (8, .ptr 8 0), (11, iA ((k : Nat) : Int))], objs := [(7, (25, [rowE a, iA (x)])), (8, (25, [rowE b, iA (y)]))], lens := [] })))) [Ok Tryd.prog 13 [] (plainR (bA true)), pB .geq 3 (.tmp 117) (.tmp 120) (.int .i64 ((k : Nat) : Int)) (.int .i64 ((b.length : Nat) : Int)) (bA true), pB .geq 3 (.tmp 110) (.tmp 113) (.int .i64 ((k : Nat) : Int)) (.int .i64 ((a.length : Nat) : Int)) (bA false), pB .lss 3 (.tmp 107) (.const (.int .i64 0)) (.int .i64 ((k : Nat) : Int)) (.int .i64 (0)) (bA false)] (by kernel_rfl) (by kernel_rfl) (allc (okLives) (allc (hGeq _ _ _ _ _ _ (decide_eq_true (by omega))) (allc (hGeq _ _ _ _ _ _ (decide_eq_false (by omega))) (allc (hLss _ _ _ _ _ _ (decide_eq_false (by omega))) allnil)))) (q _ (by kernel_rfl))
    · exact Judg.run' 4 (orcC [(137, plainR (bA true))] [(108, .val (bA false)), (114, .val (bA true))]) (.ret (stOf (runCode Tryd.prog (orcC [(137, plainR (bA true))] [(108, .val (bA false)), (114, .val (bA true))]) (liveOf 4) 0 (fK (post 8 (bodyOf Tryd.f4))) ({ n := 139, slots := [(7, .ptr 7 0), (8, .ptr 8 0), (11, iA ((k : Nat) : Int))], objs := [(7, (25, [rowE a, iA (x)])), (8, (25, [rowE b, iA (y)]))], lens := [] })))) [Ok Tryd.prog 13 [] (plainR (bA true)), pB .geq 3 (.tmp 110) (.tmp 113) (.int .i64 ((k : Nat) : Int)) (.int .i64 ((a.length : Nat) : Int)) (bA true), pB .lss 3 (.tmp 107) (.const (.int .i64 0)) (.int .i64 ((k : Nat) : Int)) (.int .i64 (0)) (bA false)] (by kernel_rfl) (by kernel_rfl) (allc (okLives) (allc (hGeq _ _ _ _ _ _ (decide_eq_true (by omega))) (allc (hLss _ _ _ _ _ _ (decide_eq_false (by omega))) allnil))) (q _ (by kernel_rfl))
theorem ordA1 (a b c : List Ev) (x y z : Int) (ha : a.length ≤ 100000) (hb : b.length ≤ 100000) (hc : c.length ≤ 100000) (l m n : List Int) (h6a : Ok Tryd.prog 6 [rowI l] (plainR (outA a x))) (h6b : Ok Tryd.prog 6 [rowI m] (plainR (outA b y))) (h6c : Ok Tryd.prog 6 [rowI n] (plainR (outA c z))) (h11 : Ok Tryd.prog 11 [outA a x, outA b y] (plainR (iA (0)))) (h11b : Ok Tryd.prog 11 [outA b y, outA a x] (plainR (iA (0)))) (h11a : Ok Tryd.prog 11 [outA a x, outA a x] (plainR (iA 0))) (h7 : Ok Tryd.prog 7 [outA a x, outA b y] (plainR (bA true))) (h7a : Ok Tryd.prog 7 [outA a x, outA a x] (plainR (bA true))) (h9 : Ok Tryd.prog 9 [outA a x, outA b y] (plainR (iA (-1)))) (h9b : Ok Tryd.prog 9 [outA b y, outA a x] (plainR (iA (-1)))) (mm : Nat) (hm : min a.length b.length = mm) (hbc : outCmp b y c z ≤ 0) (hac : outCmp a x c z ≤ 0) {Q : Out → Prop} (k : Judg (post 8 (bodyOf Tryd.f4)) ({ n := 139, slots := [(7, .ptr 7 0), (8, .ptr 8 0), (11, iA (-1))], objs := [(7, (25, [rowE a, iA (x)])), (8, (25, [rowE b, iA (y)]))], lens := [] }) Q) : Judg (bodyOf Tryd.f4) (start [rowI l, rowI m, rowI n] 139) Q := by
  refine Judg.pre' 4 (orcC [(14, plainR (outA a x)), (16, plainR (outA b y)), (18, plainR (outA c z)), (21, plainR (iA (0))), (24, plainR (iA (-1))), (28, plainR (iA (0))), (36, plainR (bA true)), (42, plainR (iA 0)), (48, plainR (bA true)), (57, plainR (iA (outCmp b y c z))), (63, plainR (iA (outCmp a x c z))), (70, plainR (iA (-1))), (77, plainR (bA true))] [(58, .val (bA true)), (64, .val (bA false)), (88, .val (iA ((mm : Nat) : Int))), (89, .val (bA false))]) 8 (stOf (runCode Tryd.prog (orcC [(14, plainR (outA a x)), (16, plainR (outA b y)), (18, plainR (outA c z)), (21, plainR (iA (0))), (24, plainR (iA (-1))), (28, plainR (iA (0))), (36, plainR (bA true)), (42, plainR (iA 0)), (48, plainR (bA true)), (57, plainR (iA (outCmp b y c z))), (63, plainR (iA (outCmp a x c z))), (70, plainR (iA (-1))), (77, plainR (bA true))] [(58, .val (bA true)), (64, .val (bA false)), (88, .val (iA ((mm : Nat) : Int))), (89, .val (bA false))]) (liveOf 4) 0 (YtmhoefpienagkaaDoor.pre 8 (bodyOf Tryd.f4)) (start [rowI l, rowI m, rowI n] 139))) [pB .gtr 3 (.tmp 81) (.tmp 88) (.int .i64 (-1)) (.int .i64 ((mm : Nat) : Int)) (bA false), pMin [3, 3] 3 (iA ((a.length : Nat) : Int)) (iA ((b.length : Nat) : Int)) (iA ((mm : Nat) : Int)), Ok Tryd.prog 7 [.agg [rowE a, iA (x)], .agg [rowE b, iA (y)]] (plainR (bA true)), Ok Tryd.prog 9 [.agg [rowE b, iA (y)], .agg [rowE a, iA (x)]] (plainR (iA (-1))), pB .gtr 3 (.tmp 63) (.const (.int .i64 0)) (.int .i64 (outCmp a x c z)) (.int .i64 (0)) (bA false), Ok Tryd.prog 11 [.agg [rowE a, iA (x)], .agg [rowE c, iA (z)]] (plainR (iA (outCmp a x c z))), pB .leq 3 (.tmp 57) (.const (.int .i64 0)) (.int .i64 (outCmp b y c z)) (.int .i64 (0)) (bA true), Ok Tryd.prog 11 [.agg [rowE b, iA (y)], .agg [rowE c, iA (z)]] (plainR (iA (outCmp b y c z))), Ok Tryd.prog 7 [.agg [rowE a, iA (x)], .agg [rowE a, iA (x)]] (plainR (bA true)), Ok Tryd.prog 11 [.agg [rowE a, iA (x)], .agg [rowE a, iA (x)]] (plainR (iA 0)), Ok Tryd.prog 7 [.agg [rowE a, iA (x)], .agg [rowE b, iA (y)]] (plainR (bA true)), Ok Tryd.prog 11 [.agg [rowE b, iA (y)], .agg [rowE a, iA (x)]] (plainR (iA (0))), Ok Tryd.prog 9 [.agg [rowE a, iA (x)], .agg [rowE b, iA (y)]] (plainR (iA (-1))), Ok Tryd.prog 11 [.agg [rowE a, iA (x)], .agg [rowE b, iA (y)]] (plainR (iA (0))), Ok Tryd.prog 6 [rowI n] (plainR (outA c z)), Ok Tryd.prog 6 [rowI m] (plainR (outA b y)), Ok Tryd.prog 6 [rowI l] (plainR (outA a x))] (by kernel_rfl) (by kernel_rfl) (allc (hGtr _ _ _ _ _ _ (decide_eq_false (by omega))) (allc (hMin _ _ _ _ _ hm) (allc (h7) (allc (h9b) (allc (hGtr _ _ _ _ _ _ (decide_eq_false (by omega))) (allc (okCompare a c x z (by omega) (by omega)) (allc (hLeq _ _ _ _ _ _ (decide_eq_true hbc)) (allc (okCompare b c y z (by omega) (by omega)) (allc (h7a) (allc (h11a) (allc (h7) (allc (h11b) (allc (h9) (allc (h11) (allc (h6c) (allc (h6b) (allc (h6a) allnil))))))))))))))))) ?_
  exact Judg.clean (L := [7, 8, 11]) (N := [7, 8]) (t := { n := 139, slots := [(7, .ptr 7 0), (8, .ptr 8 0), (11, iA (-1))], objs := [(7, (25, [rowE a, iA (x)])), (8, (25, [rowE b, iA (y)]))], lens := [] }) (by kernel_rfl) k
theorem ordA2 (a b c : List Ev) (x y z : Int) (ha : a.length ≤ 100000) (hb : b.length ≤ 100000) (hc : c.length ≤ 100000) (l m n : List Int) (h6a : Ok Tryd.prog 6 [rowI l] (plainR (outA a x))) (h6b : Ok Tryd.prog 6 [rowI m] (plainR (outA b y))) (h6c : Ok Tryd.prog 6 [rowI n] (plainR (outA c z))) (h11 : Ok Tryd.prog 11 [outA a x, outA b y] (plainR (iA (0)))) (h11b : Ok Tryd.prog 11 [outA b y, outA a x] (plainR (iA (0)))) (h11a : Ok Tryd.prog 11 [outA a x, outA a x] (plainR (iA 0))) (h7 : Ok Tryd.prog 7 [outA a x, outA b y] (plainR (bA true))) (h7a : Ok Tryd.prog 7 [outA a x, outA a x] (plainR (bA true))) (h9 : Ok Tryd.prog 9 [outA a x, outA b y] (plainR (iA (-1)))) (h9b : Ok Tryd.prog 9 [outA b y, outA a x] (plainR (iA (-1)))) (mm : Nat) (hm : min a.length b.length = mm) (hbc : ¬ outCmp b y c z ≤ 0) {Q : Out → Prop} (k : Judg (post 8 (bodyOf Tryd.f4)) ({ n := 139, slots := [(7, .ptr 7 0), (8, .ptr 8 0), (11, iA (-1))], objs := [(7, (25, [rowE a, iA (x)])), (8, (25, [rowE b, iA (y)]))], lens := [] }) Q) : Judg (bodyOf Tryd.f4) (start [rowI l, rowI m, rowI n] 139) Q := by
  refine Judg.pre' 4 (orcC [(14, plainR (outA a x)), (16, plainR (outA b y)), (18, plainR (outA c z)), (21, plainR (iA (0))), (24, plainR (iA (-1))), (28, plainR (iA (0))), (36, plainR (bA true)), (42, plainR (iA 0)), (48, plainR (bA true)), (57, plainR (iA (outCmp b y c z))), (70, plainR (iA (-1))), (77, plainR (bA true))] [(58, .val (bA false)), (88, .val (iA ((mm : Nat) : Int))), (89, .val (bA false))]) 8 (stOf (runCode Tryd.prog (orcC [(14, plainR (outA a x)), (16, plainR (outA b y)), (18, plainR (outA c z)), (21, plainR (iA (0))), (24, plainR (iA (-1))), (28, plainR (iA (0))), (36, plainR (bA true)), (42, plainR (iA 0)), (48, plainR (bA true)), (57, plainR (iA (outCmp b y c z))), (70, plainR (iA (-1))), (77, plainR (bA true))] [(58, .val (bA false)), (88, .val (iA ((mm : Nat) : Int))), (89, .val (bA false))]) (liveOf 4) 0 (YtmhoefpienagkaaDoor.pre 8 (bodyOf Tryd.f4)) (start [rowI l, rowI m, rowI n] 139))) [pB .gtr 3 (.tmp 81) (.tmp 88) (.int .i64 (-1)) (.int .i64 ((mm : Nat) : Int)) (bA false), pMin [3, 3] 3 (iA ((a.length : Nat) : Int)) (iA ((b.length : Nat) : Int)) (iA ((mm : Nat) : Int)), Ok Tryd.prog 7 [.agg [rowE a, iA (x)], .agg [rowE b, iA (y)]] (plainR (bA true)), Ok Tryd.prog 9 [.agg [rowE b, iA (y)], .agg [rowE a, iA (x)]] (plainR (iA (-1))), pB .leq 3 (.tmp 57) (.const (.int .i64 0)) (.int .i64 (outCmp b y c z)) (.int .i64 (0)) (bA false), Ok Tryd.prog 11 [.agg [rowE b, iA (y)], .agg [rowE c, iA (z)]] (plainR (iA (outCmp b y c z))), Ok Tryd.prog 7 [.agg [rowE a, iA (x)], .agg [rowE a, iA (x)]] (plainR (bA true)), Ok Tryd.prog 11 [.agg [rowE a, iA (x)], .agg [rowE a, iA (x)]] (plainR (iA 0)), Ok Tryd.prog 7 [.agg [rowE a, iA (x)], .agg [rowE b, iA (y)]] (plainR (bA true)), Ok Tryd.prog 11 [.agg [rowE b, iA (y)], .agg [rowE a, iA (x)]] (plainR (iA (0))), Ok Tryd.prog 9 [.agg [rowE a, iA (x)], .agg [rowE b, iA (y)]] (plainR (iA (-1))), Ok Tryd.prog 11 [.agg [rowE a, iA (x)], .agg [rowE b, iA (y)]] (plainR (iA (0))), Ok Tryd.prog 6 [rowI n] (plainR (outA c z)), Ok Tryd.prog 6 [rowI m] (plainR (outA b y)), Ok Tryd.prog 6 [rowI l] (plainR (outA a x))] (by kernel_rfl) (by kernel_rfl) (allc (hGtr _ _ _ _ _ _ (decide_eq_false (by omega))) (allc (hMin _ _ _ _ _ hm) (allc (h7) (allc (h9b) (allc (hLeq _ _ _ _ _ _ (decide_eq_false hbc)) (allc (okCompare b c y z (by omega) (by omega)) (allc (h7a) (allc (h11a) (allc (h7) (allc (h11b) (allc (h9) (allc (h11) (allc (h6c) (allc (h6b) (allc (h6a) allnil))))))))))))))) ?_
  exact Judg.clean (L := [7, 8, 11]) (N := [7, 8]) (t := { n := 139, slots := [(7, .ptr 7 0), (8, .ptr 8 0), (11, iA (-1))], objs := [(7, (25, [rowE a, iA (x)])), (8, (25, [rowE b, iA (y)]))], lens := [] }) (by kernel_rfl) k
theorem ordB1 (a b c : List Ev) (x y z : Int) (ha : a.length ≤ 100000) (hb : b.length ≤ 100000) (hc : c.length ≤ 100000) (l m n : List Int) (h6a : Ok Tryd.prog 6 [rowI l] (plainR (outA a x))) (h6b : Ok Tryd.prog 6 [rowI m] (plainR (outA b y))) (h6c : Ok Tryd.prog 6 [rowI n] (plainR (outA c z))) (k : Nat) (h11 : Ok Tryd.prog 11 [outA a x, outA b y] (plainR (iA (outCmp a x b y)))) (h11b : Ok Tryd.prog 11 [outA b y, outA a x] (plainR (iA (outCmp b y a x)))) (h11a : Ok Tryd.prog 11 [outA a x, outA a x] (plainR (iA 0))) (h7 : Ok Tryd.prog 7 [outA a x, outA b y] (plainR (bA false))) (h7a : Ok Tryd.prog 7 [outA a x, outA a x] (plainR (bA true))) (h9 : Ok Tryd.prog 9 [outA a x, outA b y] (plainR (iA ((k : Nat) : Int)))) (h9b : Ok Tryd.prog 9 [outA b y, outA a x] (plainR (iA ((k : Nat) : Int)))) (mm : Nat) (hm : min a.length b.length = mm) (hX0 : outCmp a x b y ≠ 0) (hanti : outCmp b y a x = -outCmp a x b y) (hbd : -1 ≤ outCmp a x b y ∧ outCmp a x b y ≤ 1) (hkm : k ≤ mm) (hab : outCmp a x b y ≤ 0) (hbc : outCmp b y c z ≤ 0) (hac : outCmp a x c z ≤ 0) {Q : Out → Prop} (kont : Judg (post 8 (bodyOf Tryd.f4)) ({ n := 139, slots := [(7, .ptr 7 0), (8, .ptr 8 0), (11, iA ((k : Nat) : Int))], objs := [(7, (25, [rowE a, iA (x)])), (8, (25, [rowE b, iA (y)]))], lens := [] }) Q) : Judg (bodyOf Tryd.f4) (start [rowI l, rowI m, rowI n] 139) Q := by
  refine Judg.pre' 4 (orcC [(14, plainR (outA a x)), (16, plainR (outA b y)), (18, plainR (outA c z)), (21, plainR (iA (outCmp a x b y))), (24, plainR (iA ((k : Nat) : Int))), (28, plainR (iA (outCmp b y a x))), (36, plainR (bA false)), (42, plainR (iA 0)), (48, plainR (bA true)), (57, plainR (iA (outCmp b y c z))), (63, plainR (iA (outCmp a x c z))), (70, plainR (iA ((k : Nat) : Int))), (77, plainR (bA false))] [(29, .val (iA (-(outCmp b y a x)))), (30, .val (bA false)), (33, .val (bA false)), (53, .val (bA true)), (58, .val (bA true)), (64, .val (bA false)), (71, .val (bA false)), (74, .val (bA false)), (88, .val (iA ((mm : Nat) : Int))), (89, .val (bA false))]) 8 (stOf (runCode Tryd.prog (orcC [(14, plainR (outA a x)), (16, plainR (outA b y)), (18, plainR (outA c z)), (21, plainR (iA (outCmp a x b y))), (24, plainR (iA ((k : Nat) : Int))), (28, plainR (iA (outCmp b y a x))), (36, plainR (bA false)), (42, plainR (iA 0)), (48, plainR (bA true)), (57, plainR (iA (outCmp b y c z))), (63, plainR (iA (outCmp a x c z))), (70, plainR (iA ((k : Nat) : Int))), (77, plainR (bA false))] [(29, .val (iA (-(outCmp b y a x)))), (30, .val (bA false)), (33, .val (bA false)), (53, .val (bA true)), (58, .val (bA true)), (64, .val (bA false)), (71, .val (bA false)), (74, .val (bA false)), (88, .val (iA ((mm : Nat) : Int))), (89, .val (bA false))]) (liveOf 4) 0 (YtmhoefpienagkaaDoor.pre 8 (bodyOf Tryd.f4)) (start [rowI l, rowI m, rowI n] 139))) [pB .gtr 3 (.tmp 81) (.tmp 88) (.int .i64 ((k : Nat) : Int)) (.int .i64 ((mm : Nat) : Int)) (bA false), pMin [3, 3] 3 (iA ((a.length : Nat) : Int)) (iA ((b.length : Nat) : Int)) (iA ((mm : Nat) : Int)), Ok Tryd.prog 7 [.agg [rowE a, iA (x)], .agg [rowE b, iA (y)]] (plainR (bA false)), pB .eql 3 (.tmp 73) (.const (.int .i64 (-1))) (.int .i64 ((k : Nat) : Int)) (.int .i64 (-1)) (bA false), pB .neq 3 (.tmp 67) (.tmp 70) (.int .i64 ((k : Nat) : Int)) (.int .i64 ((k : Nat) : Int)) (bA false), Ok Tryd.prog 9 [.agg [rowE b, iA (y)], .agg [rowE a, iA (x)]] (plainR (iA ((k : Nat) : Int))), pB .gtr 3 (.tmp 63) (.const (.int .i64 0)) (.int .i64 (outCmp a x c z)) (.int .i64 (0)) (bA false), Ok Tryd.prog 11 [.agg [rowE a, iA (x)], .agg [rowE c, iA (z)]] (plainR (iA (outCmp a x c z))), pB .leq 3 (.tmp 57) (.const (.int .i64 0)) (.int .i64 (outCmp b y c z)) (.int .i64 (0)) (bA true), Ok Tryd.prog 11 [.agg [rowE b, iA (y)], .agg [rowE c, iA (z)]] (plainR (iA (outCmp b y c z))), pB .leq 3 (.tmp 52) (.const (.int .i64 0)) (.int .i64 (outCmp a x b y)) (.int .i64 (0)) (bA true), Ok Tryd.prog 7 [.agg [rowE a, iA (x)], .agg [rowE a, iA (x)]] (plainR (bA true)), Ok Tryd.prog 11 [.agg [rowE a, iA (x)], .agg [rowE a, iA (x)]] (plainR (iA 0)), Ok Tryd.prog 7 [.agg [rowE a, iA (x)], .agg [rowE b, iA (y)]] (plainR (bA false)), pB .eql 3 (.tmp 32) (.const (.int .i64 0)) (.int .i64 (outCmp a x b y)) (.int .i64 (0)) (bA false), pB .neq 3 (.tmp 25) (.tmp 29) (.int .i64 (outCmp a x b y)) (.int .i64 (-(outCmp b y a x))) (bA false), (peek Tryd.prog (Op.unary .neg (.int .i64 (outCmp b y a x)))).map (fun v => Cmd.val (.sc v)) = some (.val (iA (-(outCmp b y a x)))), Ok Tryd.prog 11 [.agg [rowE b, iA (y)], .agg [rowE a, iA (x)]] (plainR (iA (outCmp b y a x))), Ok Tryd.prog 9 [.agg [rowE a, iA (x)], .agg [rowE b, iA (y)]] (plainR (iA ((k : Nat) : Int))), Ok Tryd.prog 11 [.agg [rowE a, iA (x)], .agg [rowE b, iA (y)]] (plainR (iA (outCmp a x b y))), Ok Tryd.prog 6 [rowI n] (plainR (outA c z)), Ok Tryd.prog 6 [rowI m] (plainR (outA b y)), Ok Tryd.prog 6 [rowI l] (plainR (outA a x))] (by kernel_rfl) (by kernel_rfl) (allc (hGtr _ _ _ _ _ _ (decide_eq_false (by omega))) (allc (hMin _ _ _ _ _ hm) (allc (h7) (allc (hEql _ _ _ _ _ _ (by rw [beq_eq_false_iff_ne]; omega)) (allc (hNeq _ _ _ _ _ _ (by simp)) (allc (h9b) (allc (hGtr _ _ _ _ _ _ (decide_eq_false (by omega))) (allc (okCompare a c x z (by omega) (by omega)) (allc (hLeq _ _ _ _ _ _ (decide_eq_true hbc)) (allc (okCompare b c y z (by omega) (by omega)) (allc (hLeq _ _ _ _ _ _ (decide_eq_true hab)) (allc (h7a) (allc (h11a) (allc (h7) (allc (hEql _ _ _ _ _ _ (by rw [beq_eq_false_iff_ne]; omega)) (allc (hNeq _ _ _ _ _ _ (by rw [bne_eq_false_iff_eq]; omega)) (allc (hNeg 3 _ _ rfl ⟨by omega, by omega⟩) (allc (h11b) (allc (h9) (allc (h11) (allc (h6c) (allc (h6b) (allc (h6a) allnil))))))))))))))))))))))) ?_
  exact Judg.clean (L := [7, 8, 11]) (N := [7, 8]) (t := { n := 139, slots := [(7, .ptr 7 0), (8, .ptr 8 0), (11, iA ((k : Nat) : Int))], objs := [(7, (25, [rowE a, iA (x)])), (8, (25, [rowE b, iA (y)]))], lens := [] }) (by kernel_rfl) kont
theorem ordB2 (a b c : List Ev) (x y z : Int) (ha : a.length ≤ 100000) (hb : b.length ≤ 100000) (hc : c.length ≤ 100000) (l m n : List Int) (h6a : Ok Tryd.prog 6 [rowI l] (plainR (outA a x))) (h6b : Ok Tryd.prog 6 [rowI m] (plainR (outA b y))) (h6c : Ok Tryd.prog 6 [rowI n] (plainR (outA c z))) (k : Nat) (h11 : Ok Tryd.prog 11 [outA a x, outA b y] (plainR (iA (outCmp a x b y)))) (h11b : Ok Tryd.prog 11 [outA b y, outA a x] (plainR (iA (outCmp b y a x)))) (h11a : Ok Tryd.prog 11 [outA a x, outA a x] (plainR (iA 0))) (h7 : Ok Tryd.prog 7 [outA a x, outA b y] (plainR (bA false))) (h7a : Ok Tryd.prog 7 [outA a x, outA a x] (plainR (bA true))) (h9 : Ok Tryd.prog 9 [outA a x, outA b y] (plainR (iA ((k : Nat) : Int)))) (h9b : Ok Tryd.prog 9 [outA b y, outA a x] (plainR (iA ((k : Nat) : Int)))) (mm : Nat) (hm : min a.length b.length = mm) (hX0 : outCmp a x b y ≠ 0) (hanti : outCmp b y a x = -outCmp a x b y) (hbd : -1 ≤ outCmp a x b y ∧ outCmp a x b y ≤ 1) (hkm : k ≤ mm) (hab : outCmp a x b y ≤ 0) (hbc : ¬ outCmp b y c z ≤ 0) {Q : Out → Prop} (kont : Judg (post 8 (bodyOf Tryd.f4)) ({ n := 139, slots := [(7, .ptr 7 0), (8, .ptr 8 0), (11, iA ((k : Nat) : Int))], objs := [(7, (25, [rowE a, iA (x)])), (8, (25, [rowE b, iA (y)]))], lens := [] }) Q) : Judg (bodyOf Tryd.f4) (start [rowI l, rowI m, rowI n] 139) Q := by
  refine Judg.pre' 4 (orcC [(14, plainR (outA a x)), (16, plainR (outA b y)), (18, plainR (outA c z)), (21, plainR (iA (outCmp a x b y))), (24, plainR (iA ((k : Nat) : Int))), (28, plainR (iA (outCmp b y a x))), (36, plainR (bA false)), (42, plainR (iA 0)), (48, plainR (bA true)), (57, plainR (iA (outCmp b y c z))), (70, plainR (iA ((k : Nat) : Int))), (77, plainR (bA false))] [(29, .val (iA (-(outCmp b y a x)))), (30, .val (bA false)), (33, .val (bA false)), (53, .val (bA true)), (58, .val (bA false)), (71, .val (bA false)), (74, .val (bA false)), (88, .val (iA ((mm : Nat) : Int))), (89, .val (bA false))]) 8 (stOf (runCode Tryd.prog (orcC [(14, plainR (outA a x)), (16, plainR (outA b y)), (18, plainR (outA c z)), (21, plainR (iA (outCmp a x b y))), (24, plainR (iA ((k : Nat) : Int))), (28, plainR (iA (outCmp b y a x))), (36, plainR (bA false)), (42, plainR (iA 0)), (48, plainR (bA true)), (57, plainR (iA (outCmp b y c z))), (70, plainR (iA ((k : Nat) : Int))), (77, plainR (bA false))] [(29, .val (iA (-(outCmp b y a x)))), (30, .val (bA false)), (33, .val (bA false)), (53, .val (bA true)), (58, .val (bA false)), (71, .val (bA false)), (74, .val (bA false)), (88, .val (iA ((mm : Nat) : Int))), (89, .val (bA false))]) (liveOf 4) 0 (YtmhoefpienagkaaDoor.pre 8 (bodyOf Tryd.f4)) (start [rowI l, rowI m, rowI n] 139))) [pB .gtr 3 (.tmp 81) (.tmp 88) (.int .i64 ((k : Nat) : Int)) (.int .i64 ((mm : Nat) : Int)) (bA false), pMin [3, 3] 3 (iA ((a.length : Nat) : Int)) (iA ((b.length : Nat) : Int)) (iA ((mm : Nat) : Int)), Ok Tryd.prog 7 [.agg [rowE a, iA (x)], .agg [rowE b, iA (y)]] (plainR (bA false)), pB .eql 3 (.tmp 73) (.const (.int .i64 (-1))) (.int .i64 ((k : Nat) : Int)) (.int .i64 (-1)) (bA false), pB .neq 3 (.tmp 67) (.tmp 70) (.int .i64 ((k : Nat) : Int)) (.int .i64 ((k : Nat) : Int)) (bA false), Ok Tryd.prog 9 [.agg [rowE b, iA (y)], .agg [rowE a, iA (x)]] (plainR (iA ((k : Nat) : Int))), pB .leq 3 (.tmp 57) (.const (.int .i64 0)) (.int .i64 (outCmp b y c z)) (.int .i64 (0)) (bA false), Ok Tryd.prog 11 [.agg [rowE b, iA (y)], .agg [rowE c, iA (z)]] (plainR (iA (outCmp b y c z))), pB .leq 3 (.tmp 52) (.const (.int .i64 0)) (.int .i64 (outCmp a x b y)) (.int .i64 (0)) (bA true), Ok Tryd.prog 7 [.agg [rowE a, iA (x)], .agg [rowE a, iA (x)]] (plainR (bA true)), Ok Tryd.prog 11 [.agg [rowE a, iA (x)], .agg [rowE a, iA (x)]] (plainR (iA 0)), Ok Tryd.prog 7 [.agg [rowE a, iA (x)], .agg [rowE b, iA (y)]] (plainR (bA false)), pB .eql 3 (.tmp 32) (.const (.int .i64 0)) (.int .i64 (outCmp a x b y)) (.int .i64 (0)) (bA false), pB .neq 3 (.tmp 25) (.tmp 29) (.int .i64 (outCmp a x b y)) (.int .i64 (-(outCmp b y a x))) (bA false), (peek Tryd.prog (Op.unary .neg (.int .i64 (outCmp b y a x)))).map (fun v => Cmd.val (.sc v)) = some (.val (iA (-(outCmp b y a x)))), Ok Tryd.prog 11 [.agg [rowE b, iA (y)], .agg [rowE a, iA (x)]] (plainR (iA (outCmp b y a x))), Ok Tryd.prog 9 [.agg [rowE a, iA (x)], .agg [rowE b, iA (y)]] (plainR (iA ((k : Nat) : Int))), Ok Tryd.prog 11 [.agg [rowE a, iA (x)], .agg [rowE b, iA (y)]] (plainR (iA (outCmp a x b y))), Ok Tryd.prog 6 [rowI n] (plainR (outA c z)), Ok Tryd.prog 6 [rowI m] (plainR (outA b y)), Ok Tryd.prog 6 [rowI l] (plainR (outA a x))] (by kernel_rfl) (by kernel_rfl) (allc (hGtr _ _ _ _ _ _ (decide_eq_false (by omega))) (allc (hMin _ _ _ _ _ hm) (allc (h7) (allc (hEql _ _ _ _ _ _ (by rw [beq_eq_false_iff_ne]; omega)) (allc (hNeq _ _ _ _ _ _ (by simp)) (allc (h9b) (allc (hLeq _ _ _ _ _ _ (decide_eq_false hbc)) (allc (okCompare b c y z (by omega) (by omega)) (allc (hLeq _ _ _ _ _ _ (decide_eq_true hab)) (allc (h7a) (allc (h11a) (allc (h7) (allc (hEql _ _ _ _ _ _ (by rw [beq_eq_false_iff_ne]; omega)) (allc (hNeq _ _ _ _ _ _ (by rw [bne_eq_false_iff_eq]; omega)) (allc (hNeg 3 _ _ rfl ⟨by omega, by omega⟩) (allc (h11b) (allc (h9) (allc (h11) (allc (h6c) (allc (h6b) (allc (h6a) allnil))))))))))))))))))))) ?_
  exact Judg.clean (L := [7, 8, 11]) (N := [7, 8]) (t := { n := 139, slots := [(7, .ptr 7 0), (8, .ptr 8 0), (11, iA ((k : Nat) : Int))], objs := [(7, (25, [rowE a, iA (x)])), (8, (25, [rowE b, iA (y)]))], lens := [] }) (by kernel_rfl) kont
theorem ordB3 (a b c : List Ev) (x y z : Int) (ha : a.length ≤ 100000) (hb : b.length ≤ 100000) (hc : c.length ≤ 100000) (l m n : List Int) (h6a : Ok Tryd.prog 6 [rowI l] (plainR (outA a x))) (h6b : Ok Tryd.prog 6 [rowI m] (plainR (outA b y))) (h6c : Ok Tryd.prog 6 [rowI n] (plainR (outA c z))) (k : Nat) (h11 : Ok Tryd.prog 11 [outA a x, outA b y] (plainR (iA (outCmp a x b y)))) (h11b : Ok Tryd.prog 11 [outA b y, outA a x] (plainR (iA (outCmp b y a x)))) (h11a : Ok Tryd.prog 11 [outA a x, outA a x] (plainR (iA 0))) (h7 : Ok Tryd.prog 7 [outA a x, outA b y] (plainR (bA false))) (h7a : Ok Tryd.prog 7 [outA a x, outA a x] (plainR (bA true))) (h9 : Ok Tryd.prog 9 [outA a x, outA b y] (plainR (iA ((k : Nat) : Int)))) (h9b : Ok Tryd.prog 9 [outA b y, outA a x] (plainR (iA ((k : Nat) : Int)))) (mm : Nat) (hm : min a.length b.length = mm) (hX0 : outCmp a x b y ≠ 0) (hanti : outCmp b y a x = -outCmp a x b y) (hbd : -1 ≤ outCmp a x b y ∧ outCmp a x b y ≤ 1) (hkm : k ≤ mm) (hab : ¬ outCmp a x b y ≤ 0) {Q : Out → Prop} (kont : Judg (post 8 (bodyOf Tryd.f4)) ({ n := 139, slots := [(7, .ptr 7 0), (8, .ptr 8 0), (11, iA ((k : Nat) : Int))], objs := [(7, (25, [rowE a, iA (x)])), (8, (25, [rowE b, iA (y)]))], lens := [] }) Q) : Judg (bodyOf Tryd.f4) (start [rowI l, rowI m, rowI n] 139) Q := by
  refine Judg.pre' 4 (orcC [(14, plainR (outA a x)), (16, plainR (outA b y)), (18, plainR (outA c z)), (21, plainR (iA (outCmp a x b y))), (24, plainR (iA ((k : Nat) : Int))), (28, plainR (iA (outCmp b y a x))), (36, plainR (bA false)), (42, plainR (iA 0)), (48, plainR (bA true)), (70, plainR (iA ((k : Nat) : Int))), (77, plainR (bA false))] [(29, .val (iA (-(outCmp b y a x)))), (30, .val (bA false)), (33, .val (bA false)), (53, .val (bA false)), (71, .val (bA false)), (74, .val (bA false)), (88, .val (iA ((mm : Nat) : Int))), (89, .val (bA false))]) 8 (stOf (runCode Tryd.prog (orcC [(14, plainR (outA a x)), (16, plainR (outA b y)), (18, plainR (outA c z)), (21, plainR (iA (outCmp a x b y))), (24, plainR (iA ((k : Nat) : Int))), (28, plainR (iA (outCmp b y a x))), (36, plainR (bA false)), (42, plainR (iA 0)), (48, plainR (bA true)), (70, plainR (iA ((k : Nat) : Int))), (77, plainR (bA false))] [(29, .val (iA (-(outCmp b y a x)))), (30, .val (bA false)), (33, .val (bA false)), (53, .val (bA false)), (71, .val (bA false)), (74, .val (bA false)), (88, .val (iA ((mm : Nat) : Int))), (89, .val (bA false))]) (liveOf 4) 0 (YtmhoefpienagkaaDoor.pre 8 (bodyOf Tryd.f4)) (start [rowI l, rowI m, rowI n] 139))) [pB .gtr 3 (.tmp 81) (.tmp 88) (.int .i64 ((k : Nat) : Int)) (.int .i64 ((mm : Nat) : Int)) (bA false), pMin [3, 3] 3 (iA ((a.length : Nat) : Int)) (iA ((b.length : Nat) : Int)) (iA ((mm : Nat) : Int)), Ok Tryd.prog 7 [.agg [rowE a, iA (x)], .agg [rowE b, iA (y)]] (plainR (bA false)), pB .eql 3 (.tmp 73) (.const (.int .i64 (-1))) (.int .i64 ((k : Nat) : Int)) (.int .i64 (-1)) (bA false), pB .neq 3 (.tmp 67) (.tmp 70) (.int .i64 ((k : Nat) : Int)) (.int .i64 ((k : Nat) : Int)) (bA false), Ok Tryd.prog 9 [.agg [rowE b, iA (y)], .agg [rowE a, iA (x)]] (plainR (iA ((k : Nat) : Int))), pB .leq 3 (.tmp 52) (.const (.int .i64 0)) (.int .i64 (outCmp a x b y)) (.int .i64 (0)) (bA false), Ok Tryd.prog 7 [.agg [rowE a, iA (x)], .agg [rowE a, iA (x)]] (plainR (bA true)), Ok Tryd.prog 11 [.agg [rowE a, iA (x)], .agg [rowE a, iA (x)]] (plainR (iA 0)), Ok Tryd.prog 7 [.agg [rowE a, iA (x)], .agg [rowE b, iA (y)]] (plainR (bA false)), pB .eql 3 (.tmp 32) (.const (.int .i64 0)) (.int .i64 (outCmp a x b y)) (.int .i64 (0)) (bA false), pB .neq 3 (.tmp 25) (.tmp 29) (.int .i64 (outCmp a x b y)) (.int .i64 (-(outCmp b y a x))) (bA false), (peek Tryd.prog (Op.unary .neg (.int .i64 (outCmp b y a x)))).map (fun v => Cmd.val (.sc v)) = some (.val (iA (-(outCmp b y a x)))), Ok Tryd.prog 11 [.agg [rowE b, iA (y)], .agg [rowE a, iA (x)]] (plainR (iA (outCmp b y a x))), Ok Tryd.prog 9 [.agg [rowE a, iA (x)], .agg [rowE b, iA (y)]] (plainR (iA ((k : Nat) : Int))), Ok Tryd.prog 11 [.agg [rowE a, iA (x)], .agg [rowE b, iA (y)]] (plainR (iA (outCmp a x b y))), Ok Tryd.prog 6 [rowI n] (plainR (outA c z)), Ok Tryd.prog 6 [rowI m] (plainR (outA b y)), Ok Tryd.prog 6 [rowI l] (plainR (outA a x))] (by kernel_rfl) (by kernel_rfl) (allc (hGtr _ _ _ _ _ _ (decide_eq_false (by omega))) (allc (hMin _ _ _ _ _ hm) (allc (h7) (allc (hEql _ _ _ _ _ _ (by rw [beq_eq_false_iff_ne]; omega)) (allc (hNeq _ _ _ _ _ _ (by simp)) (allc (h9b) (allc (hLeq _ _ _ _ _ _ (decide_eq_false hab)) (allc (h7a) (allc (h11a) (allc (h7) (allc (hEql _ _ _ _ _ _ (by rw [beq_eq_false_iff_ne]; omega)) (allc (hNeq _ _ _ _ _ _ (by rw [bne_eq_false_iff_eq]; omega)) (allc (hNeg 3 _ _ rfl ⟨by omega, by omega⟩) (allc (h11b) (allc (h9) (allc (h11) (allc (h6c) (allc (h6b) (allc (h6a) allnil))))))))))))))))))) ?_
  exact Judg.clean (L := [7, 8, 11]) (N := [7, 8]) (t := { n := 139, slots := [(7, .ptr 7 0), (8, .ptr 8 0), (11, iA ((k : Nat) : Int))], objs := [(7, (25, [rowE a, iA (x)])), (8, (25, [rowE b, iA (y)]))], lens := [] }) (by kernel_rfl) kont
def FinO (out : Out) : Prop := ∃ s1 l, (out = Out.go s1 ∨ out = .ret s1) ∧ (resVals Tryd.prog s1 Tryd.f4.results.toList).bind (resOf s1) = some (plainR (bA true), l) ∧ ∀ p ∈ l, p
theorem okOrder (l m n : List Int) (hl : l.length ≤ 100000000) (hm : m.length ≤ 100000000) (hn : n.length ≤ 100000000) (wl : I64s l) (wm : I64s m) (wn : I64s n) : Ok Tryd.prog 4 [rowI l, rowI m, rowI n] (plainR (bA true)) := by
  have h6a := okOutcome l hl wl
  have h6b := okOutcome m hm wm
  have h6c := okOutcome n hn wn
  have la : (evsOf' l (min l.length 9)).length ≤ 100000 := by rw [evsOf'_len l _ (Nat.min_le_left _ _)]; omega
  have lb : (evsOf' m (min m.length 9)).length ≤ 100000 := by rw [evsOf'_len m _ (Nat.min_le_left _ _)]; omega
  have lc : (evsOf' n (min n.length 9)).length ≤ 100000 := by rw [evsOf'_len n _ (Nat.min_le_left _ _)]; omega
  generalize evsOf' l (min l.length 9) = a at h6a la
  generalize evsOf' m (min m.length 9) = b at h6b lb
  generalize evsOf' n (min n.length 9) = c at h6c lc
  generalize atZ l 0 3 = x at h6a
  generalize atZ m 0 3 = y at h6b
  generalize atZ n 0 3 = z at h6c
  refine Ok.judg Tryd.func4 (c := bodyOf Tryd.f4) rfl (by simp [Tryd.ntmps4]) ?_
  have fin : ∀ s1, (resVals Tryd.prog s1 Tryd.f4.results.toList).bind (resOf s1) = some (plainR (bA true), []) → FinO (.ret s1) := fun s1 h => ⟨s1, [], .inr rfl, h, allnil⟩
  have haa : outCmp a x a x = 0 := outCmp_zero.2 ⟨rfl, rfl⟩
  have h11a : Ok Tryd.prog 11 [outA a x, outA a x] (plainR (iA 0)) := by rw [← haa]; exact okCompare a a x x (by omega) (by omega)
  have h7a : Ok Tryd.prog 7 [outA a x, outA a x] (plainR (bA true)) := by have := okSame a a x x (by omega) (by omega); rw [haa] at this; exact this
  have h11 := okCompare a b x y (by omega) (by omega)
  have h11b := okCompare b a y x (by omega) (by omega)
  have h7 := okSame a b x y (by omega) (by omega)
  have h9 := okFirst a b x y (by omega) (by omega)
  have h9b := okFirst b a y x (by omega) (by omega)
  rw [outFst_comm] at h9b
  have hanti := outCmp_anti a x b y
  have hbd := outCmp_bd a x b y
  by_cases hk : outFst a x b y = -1
  · have hX := outFst_same.1 hk
    rw [hk] at h9 h9b
    rw [hanti, hX] at h11b
    rw [hX] at h11 h7
    have k := ord_neg a b x y (Q := FinO) fin
    by_cases hbc : outCmp b y c z ≤ 0
    · exact ordA1 a b c x y z la lb lc l m n h6a h6b h6c h11 h11b h11a h7 h7a h9 h9b _ rfl hbc (outCmp_trans (by omega) hbc) k
    · exact ordA2 a b c x y z la lb lc l m n h6a h6b h6c h11 h11b h11a h7 h7a h9 h9b _ rfl hbc k
  · have hX : outCmp a x b y ≠ 0 := fun q => hk (outFst_same.2 q)
    obtain ⟨k, e, k1, k2, k3⟩ := outFst_spec hk
    rw [e] at h9 h9b
    rw [decide_eq_false hX] at h7
    have kont := ord_nat a b x y k (Q := FinO) la lb k1 k2 k3 fin
    by_cases hab : outCmp a x b y ≤ 0
    · by_cases hbc : outCmp b y c z ≤ 0
      · exact ordB1 a b c x y z la lb lc l m n h6a h6b h6c k h11 h11b h11a h7 h7a h9 h9b _ rfl hX hanti hbd k1 hab hbc (outCmp_trans hab hbc) kont
      · exact ordB2 a b c x y z la lb lc l m n h6a h6b h6c k h11 h11b h11a h7 h7a h9 h9b _ rfl hX hanti hbd k1 hab hbc kont
    · exact ordB3 a b c x y z la lb lc l m n h6a h6b h6c k h11 h11b h11a h7 h7a h9 h9b _ rfl hX hanti hbd k1 hab kont
end Go.Proofs.YtmhoefpienagkaaDoor
end

section
/- RunCompares: the walk. -/
set_option linter.unusedVariables false
namespace Go.Proofs.YtmhoefpienagkaaDoor
open Go.RowKit
/-- a row of a slot is seen in other words -/
theorem Judg.slotRow (t size n : Nat) {xs ys : List AV} {c : Code} {s : St} {Q : Out → Prop} (ht : look s.slots t = some (.row none size n xs)) (hxy : ∀ pr w c, V pr w c (.row none size n xs) → V pr w c (.row none size n ys))
    (k : Judg c { s with slots := (t, .row none size n ys) :: s.slots } Q) : Judg c s Q := fun γ w0 a w hr => by
  have hv : V γ.pr w (a.tmps.getD t undef) (.row none size n xs) := hr.slot t _ ht
  have hr2 : Rel γ w0 { s with slots := (t, .row none size n ys) :: s.slots } a w := by
    refine ⟨hr.size, hr.defers, hr.below, hr.base, fun t' x hx => ?_, hr.obj, hr.len, hr.inj, hr.blt, hr.plt, hr.frm, hr.gl⟩
    simp only [look_cons] at hx
    split at hx
    · rename_i e; subst e; cases hx
      exact hxy _ _ _ hv
    · exact hr.slot t' x hx
  exact k γ w0 a w hr2
theorem V.rowE_nil {pr : Nat → Nat → Prop} {w : World} {c : Value} (h : V pr w c (.sc (.slice none 0 0))) : V pr w c (rowE []) := by
  have e : c = .slice none 0 0 := h
  subst e
  exact ⟨none, 0, rfl, Nat.le_refl _, by simp [maxLen], by simp [evA], fun hn => absurd hn (by simp)⟩
def cells4 (es : Nat → List Ev) (xs : Nat → Int) : List AV := [rowE (es 0), iA (xs 0), rowE (es 1), iA (xs 1), rowE (es 2), iA (xs 2), rowE (es 3), iA (xs 3)]
theorem hIdx4 {es : Nat → List Ev} {xs : Nat → Int} {i : Nat} (h : i < 4) : cmdIndexAddr Tryd.prog 27 (.row none 2 4 (cells4 es xs)) (iA i) = some (.val (.rptr (rowE (es i) :: iA (xs i) :: (cells4 es xs).drop (i * 2 + 2)))) := by
  rcases i with _ | _ | _ | _ | i
  · kernel_rfl
  · kernel_rfl
  · kernel_rfl
  · kernel_rfl
  · omega
theorem hHiE {es : List Ev} {k : Nat} (h : k ≤ es.length) : cmdSlice Tryd.prog 23 (rowE es) none (some (iA k)) none = some (.val (rowE (es.take k))) := by
  rw [← rowE_take es k h]
  exact elEv.slHi (rowOf_row _ _ _ _) h
def pick4 {α : Type} (a b c d : α) : Nat → α
  | 0 => a
  | 1 => b
  | 2 => c
  | _ => d
theorem rcLoop (es : Nat → List Ev) (xs : Nat → Int) (sm : Nat → Nat → Bool) (ft cp : Nat → Nat → Int)
    (h7 : ∀ i k, i < 4 → k < 4 → Ok Tryd.prog 7 [outA (es i) (xs i), outA (es k) (xs k)] (plainR (bA (sm i k)))) (h8 : ∀ i k, i < 4 → k < 4 → Ok Tryd.prog 8 [outA (es i) (xs i), outA (es k) (xs k)] (plainR (bA (sm i k))))
    (h9 : ∀ i k, i < 4 → k < 4 → Ok Tryd.prog 9 [outA (es i) (xs i), outA (es k) (xs k)] (plainR (iA (ft i k)))) (h10 : ∀ i k, i < 4 → k < 4 → Ok Tryd.prog 10 [outA (es i) (xs i), outA (es k) (xs k)] (plainR (iA (ft i k))))
    (h11 : ∀ i k, i < 4 → k < 4 → Ok Tryd.prog 11 [outA (es i) (xs i), outA (es k) (xs k)] (plainR (iA (cp i k)))) (h12 : ∀ i k, i < 4 → k < 4 → Ok Tryd.prog 12 [outA (es i) (xs i), outA (es k) (xs k)] (plainR (iA (cp i k)))) {Q : Out → Prop} (q : ∀ s1, (resVals Tryd.prog s1 Tryd.f3.results.toList).bind (resOf s1) = some (plainR (bA true), []) → Q (.ret s1)) : Judg (post 3 (bodyOf Tryd.f3)) ({ n := 73, slots := [(7, .row none 2 (4) (cells4 es xs))], objs := [], lens := [] }) Q := by
  refine Judg.for_ (ι := Nat) [7, 8] [] (fun i => { n := 73, slots := [(7, .row none 2 (4) (cells4 es xs)), (8, iA ((i : Nat) : Int))], objs := [], lens := [] }) (fun i => 4 - i) (fun i => i ≤ 4) (by kernel_rfl) (orc []) (liveOf 3) (s1 := (stOf (runCode Tryd.prog (orc []) (liveOf 3) 0 (fR (post 3 (bodyOf Tryd.f3))) ({ n := 73, slots := [(7, .row none 2 (4) (cells4 es xs))], objs := [], lens := [] })))) (by kernel_rfl) (by rw [show (stOf (runCode Tryd.prog (orc []) (liveOf 3) 0 (fR (post 3 (bodyOf Tryd.f3))) ({ n := 73, slots := [(7, .row none 2 (4) (cells4 es xs))], objs := [], lens := [] }))).log = [] by kernel_rfl]; exact allnil) 0 (Nat.zero_le _) (by kernel_rfl) ?_
  intro i hi4
  by_cases hi : i < 4
  · have hc : (fB (post 3 (bodyOf Tryd.f3))) = .seq (sX (fB (post 3 (bodyOf Tryd.f3)))) (.seq (.block (bI (sX (sY (fB (post 3 (bodyOf Tryd.f3)))))) (bX (sX (sY (fB (post 3 (bodyOf Tryd.f3))))))) (sY (sY (fB (post 3 (bodyOf Tryd.f3)))))) := by kernel_rfl
    rw [hc]
    refine Judg.seq' (H := (orc [(30, .val (bA true))])) (f := 3) (stOf (runCode Tryd.prog (orc [(30, .val (bA true))]) (liveOf 3) 0 (sX (fB (post 3 (bodyOf Tryd.f3)))) ({ n := 73, slots := [(7, .row none 2 (4) (cells4 es xs)), (8, iA ((i : Nat) : Int))], objs := [], lens := [] }))) [pB .lss 3 (.tmp 27) (.tmp 29) (.int .i64 ((i : Nat) : Int)) (.int .i64 (4)) (bA true)] (by kernel_rfl) (by kernel_rfl) (allc (hLss _ _ _ _ _ _ (decide_eq_true (by omega))) allnil) ?_
    refine Judg.blockSeq ?_
    refine Judg.clean (L := [7, 8]) (N := []) (t := { n := 73, slots := [(7, .row none 2 (4) (cells4 es xs)), (8, iA ((i : Nat) : Int))], objs := [], lens := [] }) (by kernel_rfl) ?_
    refine Judg.forEnd (ι := Nat) [7, 8, 9] [] (fun k => { n := 73, slots := [(7, .row none 2 (4) (cells4 es xs)), (8, iA ((i : Nat) : Int)), (9, iA ((k : Nat) : Int))], objs := [], lens := [] }) (fun k => 4 - k) (fun k => k ≤ 4) (by kernel_rfl) (orc []) (liveOf 3) (s1 := (stOf (runCode Tryd.prog (orc []) (liveOf 3) 0 (eR (bX (sX (sY (fB (post 3 (bodyOf Tryd.f3))))))) ({ n := 73, slots := [(7, .row none 2 (4) (cells4 es xs)), (8, iA ((i : Nat) : Int))], objs := [], lens := [] })))) (by kernel_rfl) (by rw [show (stOf (runCode Tryd.prog (orc []) (liveOf 3) 0 (eR (bX (sX (sY (fB (post 3 (bodyOf Tryd.f3))))))) ({ n := 73, slots := [(7, .row none 2 (4) (cells4 es xs)), (8, iA ((i : Nat) : Int))], objs := [], lens := [] }))).log = [] by kernel_rfl]; exact allnil) 0 (Nat.zero_le _) (by kernel_rfl) ?_
    intro k hk4
    by_cases hk : k < 4
    · exact Judg.run' 3 (orcC [(49, plainR (bA (sm i k))), (52, plainR (bA (sm i k))), (57, plainR (iA ((ft i k)))), (60, plainR (iA ((ft i k)))), (66, plainR (iA ((cp i k)))), (69, plainR (iA ((cp i k))))] [(36, .val (bA true)), (41, .val (.rptr (rowE (es i) :: iA ((xs i)) :: (cells4 es xs).drop (i * 2 + 2)))), (45, .val (.rptr (rowE (es k) :: iA ((xs k)) :: (cells4 es xs).drop (k * 2 + 2)))), (53, .val (bA false)), (61, .val (bA false)), (70, .val (bA false)), (38, .val (iA ((k + 1 : Nat) : Int)))]) (.go (stOf (runCode Tryd.prog (orcC [(49, plainR (bA (sm i k))), (52, plainR (bA (sm i k))), (57, plainR (iA ((ft i k)))), (60, plainR (iA ((ft i k)))), (66, plainR (iA ((cp i k)))), (69, plainR (iA ((cp i k))))] [(36, .val (bA true)), (41, .val (.rptr (rowE (es i) :: iA ((xs i)) :: (cells4 es xs).drop (i * 2 + 2)))), (45, .val (.rptr (rowE (es k) :: iA ((xs k)) :: (cells4 es xs).drop (k * 2 + 2)))), (53, .val (bA false)), (61, .val (bA false)), (70, .val (bA false)), (38, .val (iA ((k + 1 : Nat) : Int)))]) (liveOf 3) 0 (eB (bX (sX (sY (fB (post 3 (bodyOf Tryd.f3))))))) ({ n := 73, slots := [(7, .row none 2 (4) (cells4 es xs)), (8, iA ((i : Nat) : Int)), (9, iA ((k : Nat) : Int))], objs := [], lens := [] })))) [pB .add 3 (.tmp 37) (.const (.int .i64 1)) (.int .i64 ((k : Nat) : Int)) (.int .i64 (1)) (iA ((k + 1 : Nat) : Int)), pB .neq 3 (.tmp 66) (.tmp 69) (.int .i64 ((cp i k))) (.int .i64 ((cp i k))) (bA false), Ok Tryd.prog 12 [.agg [rowE (es i), iA ((xs i))], .agg [rowE (es k), iA ((xs k))]] (plainR (iA ((cp i k)))), Ok Tryd.prog 11 [.agg [rowE (es i), iA ((xs i))], .agg [rowE (es k), iA ((xs k))]] (plainR (iA ((cp i k)))), pB .neq 3 (.tmp 57) (.tmp 60) (.int .i64 ((ft i k))) (.int .i64 ((ft i k))) (bA false), Ok Tryd.prog 10 [.agg [rowE (es i), iA ((xs i))], .agg [rowE (es k), iA ((xs k))]] (plainR (iA ((ft i k)))), Ok Tryd.prog 9 [.agg [rowE (es i), iA ((xs i))], .agg [rowE (es k), iA ((xs k))]] (plainR (iA ((ft i k)))), pB .neq 4 (.tmp 49) (.tmp 52) (.bool (sm i k)) (.bool (sm i k)) (bA false), Ok Tryd.prog 8 [.agg [rowE (es i), iA ((xs i))], .agg [rowE (es k), iA ((xs k))]] (plainR (bA (sm i k))), Ok Tryd.prog 7 [.agg [rowE (es i), iA ((xs i))], .agg [rowE (es k), iA ((xs k))]] (plainR (bA (sm i k))), cmdIndexAddr Tryd.prog 27 (.row none 2 (4) (cells4 es xs)) (iA ((k : Nat) : Int)) = some (.val (.rptr (rowE (es k) :: iA ((xs k)) :: (cells4 es xs).drop (k * 2 + 2)))), cmdIndexAddr Tryd.prog 27 (.row none 2 (4) (cells4 es xs)) (iA ((i : Nat) : Int)) = some (.val (.rptr (rowE (es i) :: iA ((xs i)) :: (cells4 es xs).drop (i * 2 + 2)))), pB .lss 3 (.tmp 33) (.tmp 35) (.int .i64 ((k : Nat) : Int)) (.int .i64 (4)) (bA true)] (by kernel_rfl) (by kernel_rfl) (allc (hAdd _ _ _ _ _ _ (by simp) ⟨by omega, by omega⟩) (allc (hNeq _ _ _ _ _ _ (by rw [bne_eq_false_iff_eq])) (allc (h12 i k hi hk) (allc (h11 i k hi hk) (allc (hNeq _ _ _ _ _ _ (by rw [bne_eq_false_iff_eq])) (allc (h10 i k hi hk) (allc (h9 i k hi hk) (allc (hNeqB _ _ _ _ _ _ (by simp)) (allc (h8 i k hi hk) (allc (h7 i k hi hk) (allc (hIdx4 hk) (allc (hIdx4 hi) (allc (hLss _ _ _ _ _ _ (decide_eq_true (by omega))) allnil))))))))))))) ⟨k + 1, by omega, by omega, by kernel_rfl⟩
    · refine Judg.run' 3 (orc [(36, .val (bA false))]) (.exit 2 (stOf (runCode Tryd.prog (orc [(36, .val (bA false))]) (liveOf 3) 0 (eB (bX (sX (sY (fB (post 3 (bodyOf Tryd.f3))))))) ({ n := 73, slots := [(7, .row none 2 (4) (cells4 es xs)), (8, iA ((i : Nat) : Int)), (9, iA ((k : Nat) : Int))], objs := [], lens := [] })))) [pB .lss 3 (.tmp 33) (.tmp 35) (.int .i64 ((k : Nat) : Int)) (.int .i64 (4)) (bA false)] (by kernel_rfl) (by kernel_rfl) (allc (hLss _ _ _ _ _ _ (decide_eq_false (by omega))) allnil) ?_
      show Judg (sY (sY (fB (post 3 (bodyOf Tryd.f3))))) _ _
      refine Judg.clean (L := [7, 8]) (N := []) (t := { n := 73, slots := [(7, .row none 2 (4) (cells4 es xs)), (8, iA ((i : Nat) : Int))], objs := [], lens := [] }) (by kernel_rfl) ?_
      exact Judg.run' 3 (orc [(32, .val (iA ((i + 1 : Nat) : Int)))]) (.go (stOf (runCode Tryd.prog (orc [(32, .val (iA ((i + 1 : Nat) : Int)))]) (liveOf 3) 0 (sY (sY (fB (post 3 (bodyOf Tryd.f3))))) ({ n := 73, slots := [(7, .row none 2 (4) (cells4 es xs)), (8, iA ((i : Nat) : Int))], objs := [], lens := [] })))) [pB .add 3 (.tmp 31) (.const (.int .i64 1)) (.int .i64 ((i : Nat) : Int)) (.int .i64 (1)) (iA ((i + 1 : Nat) : Int))] (by kernel_rfl) (by kernel_rfl) (allc (hAdd _ _ _ _ _ _ (by simp) ⟨by omega, by omega⟩) allnil) ⟨i + 1, by omega, by omega, by kernel_rfl⟩
  · refine Judg.run' 3 (orc [(30, .val (bA false))]) (.exit 0 (stOf (runCode Tryd.prog (orc [(30, .val (bA false))]) (liveOf 3) 0 (fB (post 3 (bodyOf Tryd.f3))) ({ n := 73, slots := [(7, .row none 2 (4) (cells4 es xs)), (8, iA ((i : Nat) : Int))], objs := [], lens := [] })))) [pB .lss 3 (.tmp 27) (.tmp 29) (.int .i64 ((i : Nat) : Int)) (.int .i64 (4)) (bA false)] (by kernel_rfl) (by kernel_rfl) (allc (hLss _ _ _ _ _ _ (decide_eq_false (by omega))) allnil) ?_
    show Judg (fK (post 3 (bodyOf Tryd.f3))) _ _
    refine Judg.clean (L := []) (N := []) (t := { n := 73, slots := [], objs := [], lens := [] }) (by kernel_rfl) ?_
    exact Judg.run' 3 (orcC [(72, plainR (bA true))] []) (.ret (stOf (runCode Tryd.prog (orcC [(72, plainR (bA true))] []) (liveOf 3) 0 (fK (post 3 (bodyOf Tryd.f3))) ({ n := 73, slots := [], objs := [], lens := [] })))) [Ok Tryd.prog 13 [] (plainR (bA true))] (by kernel_rfl) (by kernel_rfl) (allc (okLives) allnil) (q _ (by kernel_rfl))
theorem rcPre (l m : List Int) (es : List Ev) (z : Int) (a b : List Ev) (x y : Int) (h6a : Ok Tryd.prog 6 [rowI l] (plainR (outA a x))) (h6b : Ok Tryd.prog 6 [rowI m] (plainR (outA b y))) (mm : Nat) (hm : min es.length 20 = mm) {Q : Out → Prop}
    (k : Judg (post 3 (bodyOf Tryd.f3)) { n := 73, slots := [(7, .row none 2 4 [rowE a, iA (x), rowE b, iA (y), rowE (es.take mm), iA (z), rowE [], iA 0])], objs := [], lens := [] } Q) : Judg (bodyOf Tryd.f3) (start [rowI l, rowI m, outA es z] 73) Q := by
  refine Judg.pre' 3 (orcC [(21, plainR (outA a x)), (23, plainR (outA b y))] [(17, .val (iA ((mm : Nat) : Int))), (18, .val (rowE (es.take mm)))]) 3 (stOf (runCode Tryd.prog (orcC [(21, plainR (outA a x)), (23, plainR (outA b y))] [(17, .val (iA ((mm : Nat) : Int))), (18, .val (rowE (es.take mm)))]) (liveOf 3) 0 (YtmhoefpienagkaaDoor.pre 3 (bodyOf Tryd.f3)) (start [rowI l, rowI m, outA es z] 73))) [Ok Tryd.prog 6 [rowI m] (plainR (outA b y)), Ok Tryd.prog 6 [rowI l] (plainR (outA a x)), cmdSlice Tryd.prog 23 (rowE es) none (some (iA ((mm : Nat) : Int))) none = some (.val (rowE (es.take mm))), pMin [3, 3] 3 (iA ((es.length : Nat) : Int)) (iA (20)) (iA ((mm : Nat) : Int))] (by kernel_rfl) (by kernel_rfl) (allc (h6b) (allc (h6a) (allc (hHiE (by omega)) (allc (hMin _ _ _ 20 _ hm) allnil)))) ?_
  refine Judg.clean (L := [7]) (N := []) (t := { n := 73, slots := [(7, .row none 2 (4) ([rowE a, iA (x), rowE b, iA (y), rowE (es.take mm), iA (z), .sc (.slice none 0 0), iA (0)]))], objs := [], lens := [] }) (by kernel_rfl) ?_
  refine Judg.slotRow 7 2 4 (xs := [rowE a, iA (x), rowE b, iA (y), rowE (es.take mm), iA (z), .sc (.slice none 0 0), iA (0)]) (ys := [rowE a, iA (x), rowE b, iA (y), rowE (es.take mm), iA (z), rowE [], iA 0]) rfl ?_ ?_
  · rintro pr w c ⟨A, cap, e, q1, q2, q3, q4⟩
    refine ⟨A, cap, e, q1, q2, rfl, fun hn => ?_⟩
    obtain ⟨b1, o1, e1, ⟨c1, c2, c3, c4, c5, c6, ⟨u, d1, d2, d3, d4⟩, c8, c9⟩⟩ := q4 hn
    exact ⟨b1, o1, e1, ⟨c1, c2, c3, c4, c5, c6, ⟨u, d1, d2, d3, V.rowE_nil d4⟩, c8, c9⟩⟩
  · exact Judg.clean (L := [7]) (N := []) (t := { n := 73, slots := [(7, .row none 2 4 [rowE a, iA (x), rowE b, iA (y), rowE (es.take mm), iA (z), rowE [], iA 0])], objs := [], lens := [] }) (by kernel_rfl) k
def FinO3 (out : Out) : Prop := ∃ s1 l, (out = Out.go s1 ∨ out = .ret s1) ∧ (resVals Tryd.prog s1 Tryd.f3.results.toList).bind (resOf s1) = some (plainR (bA true), l) ∧ ∀ p ∈ l, p
theorem okCompares (l m : List Int) (es : List Ev) (z : Int) (hl : l.length ≤ 100000000) (hm : m.length ≤ 100000000) (wl : I64s l) (wm : I64s m) : Ok Tryd.prog 3 [rowI l, rowI m, outA es z] (plainR (bA true)) := by
  have h6a := okOutcome l hl wl
  have h6b := okOutcome m hm wm
  have la : (evsOf' l (min l.length 9)).length ≤ 100000 := by rw [evsOf'_len l _ (Nat.min_le_left _ _)]; omega
  have lb : (evsOf' m (min m.length 9)).length ≤ 100000 := by rw [evsOf'_len m _ (Nat.min_le_left _ _)]; omega
  generalize evsOf' l (min l.length 9) = a at h6a la
  generalize evsOf' m (min m.length 9) = b at h6b lb
  generalize atZ l 0 3 = x at h6a
  generalize atZ m 0 3 = y at h6b
  have hes : ∀ i, i < 4 → (pick4 a b (es.take (min es.length 20)) ([] : List Ev) i).length ≤ 100000 := by
    intro i hi
    rcases i with _ | _ | _ | _ | i
    · exact la
    · exact lb
    · show (es.take (min es.length 20)).length ≤ 100000
      rw [List.length_take]; omega
    · exact Nat.zero_le _
    · omega
  refine Ok.judg Tryd.func3 (c := bodyOf Tryd.f3) rfl (by simp [Tryd.ntmps3]) ?_
  refine rcPre l m es z a b x y h6a h6b _ rfl ?_
  exact rcLoop (pick4 a b (es.take (min es.length 20)) []) (pick4 x y z 0) (fun i k => decide (outCmp (pick4 a b (es.take (min es.length 20)) ([] : List Ev) i) (pick4 x y z 0 i) (pick4 a b (es.take (min es.length 20)) [] k) (pick4 x y z 0 k) = 0))
    (fun i k => outFst (pick4 a b (es.take (min es.length 20)) [] i) (pick4 x y z 0 i) (pick4 a b (es.take (min es.length 20)) [] k) (pick4 x y z 0 k)) (fun i k => outCmp (pick4 a b (es.take (min es.length 20)) [] i) (pick4 x y z 0 i) (pick4 a b (es.take (min es.length 20)) [] k) (pick4 x y z 0 k))
    (fun i k hi hk => okSame _ _ _ _ (by have := hes i hi; omega) (by have := hes k hk; omega))
    (fun i k hi hk => by rw [← refSame_eq]; exact okRefSame _ _ _ _ (by have := hes i hi; omega) (by have := hes k hk; omega))
    (fun i k hi hk => okFirst _ _ _ _ (by have := hes i hi; omega) (by have := hes k hk; omega))
    (fun i k hi hk => by rw [← refFst_eq]; exact okRefFirst _ _ _ _ (by have := hes i hi; omega) (by have := hes k hk; omega))
    (fun i k hi hk => okCompare _ _ _ _ (by have := hes i hi; omega) (by have := hes k hk; omega))
    (fun i k hi hk => by rw [← refCmp_eq]; exact okRefCompare _ _ _ _ (by have := hes i hi; omega) (by have := hes k hk; omega))
    (Q := FinO3) fun s1 h => ⟨s1, [], .inr rfl, h, allnil⟩
end Go.Proofs.YtmhoefpienagkaaDoor
end

/- RunCompares returns true for all inputs of bulk at most 1048576: the row and its card. -/
namespace Go.Proofs.YtmhoefpienagkaaDoor
open Go.ChangeShapes Go.WideShapes Go.ChangeAt Go.RowKit

theorem VC_ev {pr : Nat → Nat → Prop} {W : World} {b : Nat} : ∀ {es : List Ev} {o : Nat}, (∀ i e, es[i]? = some e → (W.cell? ⟨b, o + i * 3, none⟩ = some (.int .i64 e.p) ∧ pr b (o + i * 3)) ∧ (W.cell? ⟨b, o + i * 3 + 1, none⟩ = some (.int .i64 e.k) ∧ pr b (o + i * 3 + 1)) ∧ (W.cell? ⟨b, o + i * 3 + 2, none⟩ = some (.int .i64 e.n) ∧ pr b (o + i * 3 + 2))) → VC pr W b o (evA es)
  | [], _, _ => trivial
  | e :: r, o, h => by
    obtain ⟨⟨a1, a2⟩, ⟨b1, b2⟩, ⟨c1, c2⟩⟩ := h 0 e rfl
    rw [Nat.zero_mul, Nat.add_zero] at a1 a2 b1 b2 c1 c2
    refine ⟨⟨_, a1, a2, rfl, rfl⟩, ⟨_, b1, b2, rfl, rfl⟩, ⟨_, c1, c2, rfl, rfl⟩, ?_⟩
    refine VC_ev fun i x hx => ?_
    have k := h (i + 1) x hx
    rw [show o + (i + 1) * 3 = o + 1 + 1 + 1 + i * 3 by omega] at k
    exact k
def intAt (W : World) (A : Addr) : Int := match W.cell? A with | some (.int _ n) => n | _ => 0
theorem open_evs {H : Type} {enc : TypeId × Value → H} {W : World} {n : Nat} {c0 : Value} {x : DataW H × List MemPlace} (h : DataW.trod enc Tryd.prog W 0 (fun _ => true) true n 23 [c0] = some x) : ∃ es : List Ev, V (pr0 W) W c0 (rowE es) ∧ c0.oneCell' = true := by
  rcases DataW.trod_slice Tryd.underlying23 h with ⟨hc, _⟩ | ⟨a, len, cap, elems, rest, m, _, hc, _, _, hl, hm, hlen, hel, _, _⟩
  · obtain rfl := (List.cons.inj hc).1
    exact ⟨[], ⟨none, 0, rfl, Nat.le_refl _, by simp [maxLen], by simp [evA], fun hn => absurd hn (by simp)⟩, rfl⟩
  · obtain rfl := (List.cons.inj hc).1
    rw [show Tryd.prog.cellsOf 33 = 3 by kernel_rfl] at hel
    have each : ∀ i, i < len → ∃ e : Ev, W.cell? ((a.add (i * 3)).add 0) = some (.int .i64 e.p) ∧ W.cell? ((a.add (i * 3)).add 1) = some (.int .i64 e.k) ∧ W.cell? ((a.add (i * 3)).add 2) = some (.int .i64 e.n) := by
      intro i hi
      have h1 := hel i hi
      have hi' : i < elems.length := by omega
      rw [List.getElem?_eq_getElem hi'] at h1
      obtain ⟨cs, h2, h3⟩ := Option.bind_eq_some_iff.1 h1
      obtain ⟨xs, m', _, _, _, hn, hf⟩ := DataW.trod_struct Tryd.underlying33 h3
      unfold World.cells? at h2
      rw [if_pos (Nat.zero_le _)] at h2
      simp only [List.range_succ, List.range_zero, List.nil_append, List.cons_append, List.mapM_cons, List.mapM_nil] at h2
      cases g0 : W.cell? ((a.add (i * 3)).add 0) with
      | none => simp [g0] at h2
      | some u0 =>
        cases g1 : W.cell? ((a.add (i * 3)).add 1) with
        | none => simp [g0, g1] at h2
        | some u1 =>
          cases g2 : W.cell? ((a.add (i * 3)).add 2) with
          | none => simp [g0, g1, g2] at h2
          | some u2 =>
            simp [g0, g1, g2] at h2
            subst h2
            have f0 := hf 0 _ rfl
            have f1 := hf 1 _ rfl
            have f2 := hf 2 _ rfl
            match xs, hn with
            | [y0, y1, y2], _ =>
              have f0' : DataW.trod enc Tryd.prog W 0 (fun _ => true) true m' 3 ([u0, u1, u2].take (Tryd.prog.cellsOf 3)) = some y0 := f0
              have f1' : DataW.trod enc Tryd.prog W 0 (fun _ => true) true m' 3 ([u1, u2].take (Tryd.prog.cellsOf 3)) = some y1 := f1
              have f2' : DataW.trod enc Tryd.prog W 0 (fun _ => true) true m' 3 ([u2].take (Tryd.prog.cellsOf 3)) = some y2 := f2
              rw [show Tryd.prog.cellsOf 3 = 1 by kernel_rfl] at f0' f1' f2'
              obtain ⟨n0, e0, _, _⟩ := DataW.trod_int Tryd.underlying3 f0'
              obtain ⟨n1, e1, _, _⟩ := DataW.trod_int Tryd.underlying3 f1'
              obtain ⟨n2, e2, _, _⟩ := DataW.trod_int Tryd.underlying3 f2'
              have e0' : u0 = .int .i64 n0 := (List.cons.inj e0).1
              have e1' : u1 = .int .i64 n1 := (List.cons.inj e1).1
              have e2' : u2 = .int .i64 n2 := (List.cons.inj e2).1
              subst e0'; subst e1'; subst e2'
              exact ⟨⟨n0, n1, n2⟩, rfl, rfl, rfl⟩
    refine ⟨(List.range len).map fun i => ⟨intAt W (a.add (i * 3)), intAt W (a.add (i * 3 + 1)), intAt W (a.add (i * 3 + 2))⟩, ⟨some a, cap, by simp, by simpa using hl, hm, by rw [evA_length], fun hn => ?_⟩, rfl⟩
    have hn' : 0 < len := by simpa using hn
    obtain ⟨e, h0, _, _⟩ := each 0 hn'
    obtain ⟨b, off, spot⟩ := a
    have hs : spot = none := by simpa [Addr.add] using World.cell?_spot h0
    subst hs
    refine ⟨b, off, rfl, VC_ev fun i x hx => ?_⟩
    have hi : i < len := by have := (List.getElem?_eq_some_iff.1 hx).1; simpa using this
    obtain ⟨e, k0, k1, k2⟩ := each i hi
    simp only [Addr.add_lit, Nat.add_zero] at k0 k1 k2
    have hx' : x = ⟨intAt W ⟨b, off + i * 3, none⟩, intAt W ⟨b, off + i * 3 + 1, none⟩, intAt W ⟨b, off + i * 3 + 2, none⟩⟩ := by
      rw [List.getElem?_map, List.getElem?_range hi] at hx
      have hx2 := (Option.some.inj hx).symm
      simp only [Addr.add_lit, Nat.add_assoc] at hx2 ⊢
      exact hx2
    have q0 : intAt W ⟨b, off + i * 3, none⟩ = e.p := by unfold intAt; rw [k0]
    have q1 : intAt W ⟨b, off + i * 3 + 1, none⟩ = e.k := by unfold intAt; rw [k1]
    have q2 : intAt W ⟨b, off + i * 3 + 2, none⟩ = e.n := by unfold intAt; rw [k2]
    rw [q0, q1, q2] at hx'
    subst hx'
    have l0 := World.block_lt_of_cell? W _ k0
    exact ⟨⟨k0, l0⟩, ⟨k1, l0⟩, ⟨k2, l0⟩⟩
set_option maxRecDepth 100000 in
theorem open25 {H : Type} {enc : TypeId × Value → H} {W : World} {base : Nat} {d : DataW H} {p : List MemPlace} {v : Value} (hv : Value.okWide Tryd.prog W .any base 25 v) (h : DataW.Trod enc Tryd.prog W 0 (fun _ => true) true 25 v d p) :
    ∃ (es : List Ev) (z : Int), V (pr0 W) W v (outA es z) := by
  obtain ⟨cs, rfl, hsz⟩ := okWide_struct Tryd.underlying25 hv
  rw [show Tryd.prog.cellsOf 25 = 2 by kernel_rfl] at hsz
  obtain ⟨fuel, hf⟩ := h
  obtain ⟨l⟩ := cs
  match l, hsz with
  | [c0, c1], _ =>
    have hf' : DataW.trod enc Tryd.prog W 0 (fun _ => true) true fuel 25 [c0, c1] = some (d, p) := hf
    obtain ⟨xs, m, _, _, _, hn, hg⟩ := DataW.trod_struct Tryd.underlying25 hf'
    have f0 := hg 0 _ rfl
    have f1 := hg 1 _ rfl
    match xs, hn with
    | [y0, y1], _ =>
      have f0' : DataW.trod enc Tryd.prog W 0 (fun _ => true) true m 23 ([c0, c1].take (Tryd.prog.cellsOf 23)) = some y0 := f0
      have f1' : DataW.trod enc Tryd.prog W 0 (fun _ => true) true m 3 ([c1].take (Tryd.prog.cellsOf 3)) = some y1 := f1
      rw [show Tryd.prog.cellsOf 23 = 1 by kernel_rfl] at f0'
      rw [show Tryd.prog.cellsOf 3 = 1 by kernel_rfl] at f1'
      obtain ⟨es, h1, h2⟩ := open_evs f0'
      obtain ⟨z, e1, _, _⟩ := DataW.trod_int Tryd.underlying3 f1'
      have e1' : c1 = .int .i64 z := (List.cons.inj e1).1
      subst e1'
      exact ⟨es, z, [c0, .int .i64 z], rfl, by intro u hu; simp at hu; rcases hu with rfl | rfl; exact h2; rfl, ⟨c0, _, rfl, h1, ⟨_, _, rfl, rfl, rfl⟩⟩⟩
theorem keep25 {H : Type} {enc : TypeId × Value → H} {W W' : World} {d : DataW H} {p : List MemPlace} {v : Value} (h : DataW.Trod enc Tryd.prog W 0 (fun _ => true) true 25 v d p) (hb : Below W.heap.size W W') (hlt : ∀ x ∈ p, x.block < W.heap.size) : DataW.Trod enc Tryd.prog W' 0 (fun b => decide (b < W.heap.size)) true 25 v d p :=
  Below.trod laidOut0 (by kernel_rfl) (of_decide_eq_true (by kernel_rfl)) h hb hlt

set_option maxRecDepth 100000 in
theorem runCompares_contract (H : Type) (enc : TypeId × Value → H) (W : World) (base : Nat) (args : Array Value) (ds gs : List (DataW H)) (before : List MemPlace)
    (hval : ∀ (j : Nat) t v, Tryd.f3.params[j]? = some t → args[j]? = some v → Value.okWide Tryd.prog W .any base t v)
    (hW : DataW.Whole enc Tryd.prog Tryd.f3.params.toList Rows.runComparesSpec.vars false W args.toList ds gs before) (hk : Rows.uptoSmall H (ds ++ gs) = true) (hL : laidMetH Tryd.prog Rows.runComparesUptoRow.laid W) :
    Calls Tryd.prog 3 args W fun e W' => ∃ v, e = .returned v ∧ Rows.runComparesSpec.post enc Tryd.prog Tryd.f3 false true false false W args v W' := by
  have hG : Glob W := glob_of_laid hL
  have hW' := hW
  obtain ⟨p, q, hA0, hV, rfl, hfz, hnd⟩ := hW
  have hA : DataW.TrodAll enc Tryd.prog W 0 (fun _ => true) true Tryd.f3.params.toList args.toList ds p := hA0
  rw [Tryd.params3] at hA hval
  obtain ⟨v0, vs0, d0, ds0, p0, q0, hargs, rfl, rfl, h0, r0⟩ := trodAll_cons hA
  obtain ⟨v1, vs1, d1, ds1, p1, q1, rfl, rfl, rfl, h1, r1⟩ := trodAll_cons r0
  obtain ⟨v2, vs2, d2, ds2, p2, q2, rfl, rfl, rfl, h2, r2⟩ := trodAll_cons r1
  obtain ⟨rfl, rfl, rfl⟩ := trodAll_nil r2
  obtain rfl : args = #[v0, v1, v2] := by cases args; simp_all
  obtain ⟨rfl, rfl⟩ := trodVars_none hV
  clear hA0
  simp only [List.append_nil, List.nil_append] at hW' hk
  have hlt0 : ∀ x ∈ p0, x.block < W.heap.size := fun x hx => hW'.lt x (by simp [hx])
  obtain ⟨l0, hV0, hw0, hb0⟩ := open22 (okWide_slice Tryd.underlying22 (hval 0 22 v0 rfl rfl)) h0 hlt0
  have hlt1 : ∀ x ∈ p1, x.block < W.heap.size := fun x hx => hW'.lt x (by simp [hx])
  obtain ⟨l1, hV1, hw1, hb1⟩ := open22 (okWide_slice Tryd.underlying22 (hval 1 22 v1 rfl rfl)) h1 hlt1
  have hlt2 : ∀ x ∈ p2, x.block < W.heap.size := fun x hx => hW'.lt x (by simp [hx])
  obtain ⟨l2, z2, hV2⟩ := open25 (hval 2 25 v2 rfl rfl) h2
  have hbulk : Rows.uptoBulkAll (H := H) [d0, d1, d2] ≤ 1048576 := bound_of hk
  simp only [Rows.uptoBulkAll] at hbulk
  have hcall := (okCompares l0 l1 l2 z2 (by omega) (by omega) hw0 hw1).2 W (pr0 W) [v0, v1, v2] hG (pr0_lt W) ⟨_, _, rfl, hV0, _, _, rfl, hV1, _, _, rfl, hV2, rfl⟩
  refine hcall.mono ?_
  rintro e W' ⟨v, pr', rfl, hbel, _, _, hres, _⟩
  have hv : v = .bool true := hres
  subst hv
  refine ⟨_, rfl, _, _, _, [], (p0 ++ (p1 ++ (p2 ++ []))), [], hW', ?_, ?_, rfl, hbel.frame _, fun h => by cases h⟩
  · show DataW.TrodAll enc Tryd.prog W' _ _ false [4] [.bool true] [.lit (.bool true)] []
    exact trodAll_cons_mk (p := []) (p' := []) (shut_bool Tryd.underlying4 _) trodAll_mk0
  · show DataW.TrodAll enc Tryd.prog W' 0 _ true [22, 22, 25] [v0, v1, v2] [d0, d1, d2] _
    exact trodAll_cons_mk (keep22 h0 hbel hlt0) (trodAll_cons_mk (keep22 h1 hbel hlt1) (trodAll_cons_mk (keep25 h2 hbel hlt2) (trodAll_mk0)))

theorem runCompares_reads (os : Os) {H : Type} (enc : TypeId × Value → H) : ∃ places, DataW.whole enc Tryd.prog ((World.doorLaid Tryd.prog 43 os).forCall (fun _ _ => 0) ⟨#[], #[.slice none 0 0, .slice none 0 0, .agg #[.slice none 0 0, .int .i64 0]], []⟩).memory Tryd.f3.params.toList Rows.runComparesSpec.vars false #[.slice none 0 0, .slice none 0 0, .agg #[.slice none 0 0, .int .i64 0]].toList 8 = some ([.nil, .nil, .agg [.nil, .lit (.int .i64 0)]], [], places) :=
  ⟨[], by kernel_rfl⟩
set_option maxRecDepth 100000 in
theorem runCompares_lifted (os : Os) (started : os.Started) (H : Type) (enc : TypeId × Value → H) (F : Stop.Interp) :
    ReturnsInHanded {} Tryd.checked os 3 .any ((Rows.OpenSpec.upto Rows.runComparesSpec).preRow enc Tryd.prog Tryd.f3 Rows.runComparesUptoRow.domain false Rows.runComparesUptoRow.laid) (((Rows.OpenSpec.upto Rows.runComparesSpec).at F).post enc Tryd.prog Tryd.f3 false true false false) := by
  obtain ⟨places, hx⟩ := runCompares_reads os enc
  refine returnsInHanded_of_row (C := Tryd.checked) (s := Rows.OpenSpec.upto Rows.runComparesSpec) own0 started (by kernel_rfl) Tryd.func3
    (witness_row_at (enc := enc) (C := Tryd.checked) false (World.doorLaid Tryd.prog 43 os) #[.slice none 0 0, .slice none 0 0, .agg #[.slice none 0 0, .int .i64 0]] rfl (by kernel_rfl) (by kernel_rfl) (by kernel_rfl)
      (OpenSpec.preRow_of_cond 8 hx (by kernel_rfl) (fun k hk => by cases hk; kernel_rfl) (by kernel_rfl) (door_met os _))) ?_
  intro W base args ds gs before hval hW _ hk _ hL _ _
  exact runCompares_contract H enc W base args ds gs before hval hW (hk _ rfl) hL
theorem runComparesUpto_proved : Rows.RunComparesUptoSaid :=
  OpenClaim.holds_of_cond 3 Tryd.f3 rfl rfl rfl rfl rfl rfl rfl ⟨rfl, rfl, rfl, rfl, rfl⟩ rfl rfl rfl rfl rfl (by kernel_rfl) Tryd.func3 (by kernel_rfl)
    (of_decide_eq_true (by kernel_rfl)) (by unfold Func.isWrapper; first | (rw [if_pos (by decide +kernel)]; kernel_rfl) | (rw [if_neg (by decide +kernel)]; exact ⟨rfl, rfl⟩))
    (fun os started H enc _ F => by rw [OpenClaim.pre_eq_preRow]; exact runCompares_lifted os started H enc F)
theorem runCompares_plain (lk : Bool) (hlk : lk = Tryd.pinned.checked.prog.looks []) (f : FuncId) (fn : Func) (hf : Tryd.pinned.checked.prog.funcNamed "scoria/scorialaw11.RunCompares" = some f) (hfn : Tryd.pinned.checked.prog.funcs[f]? = some fn) :
    lk = Tryd.pinned.checked.prog.looks [] ∧ ∀ (j : Nat) t, fn.params[j]? = some t → Tryd.pinned.checked.prog.wantsStandIn t = false := by
  obtain rfl : f = 3 := Option.some.inj ((show Tryd.prog.funcNamed "scoria/scorialaw11.RunCompares" = some 3 by kernel_rfl).symm.trans hf) |>.symm
  obtain rfl : fn = Tryd.f3 := (Option.some.inj (Tryd.func3.symm.trans hfn)).symm
  refine ⟨hlk, fun j t ht => ?_⟩
  rw [Tryd.params3] at ht
  have hm : t ∈ [22, 25] := by
    have := Array.mem_of_getElem? ht
    simp at this ⊢
    omega
  have hall : ([22, 25].all fun u => !Tryd.prog.wantsStandIn u) = true := by kernel_rfl
  exact (show Tryd.prog.wantsStandIn t = false by simpa using List.all_eq_true.1 hall t hm)
theorem runComparesUptoCard_proved : Rows.RunComparesUptoCardSaid :=
  Claim7.holds_tied_plain_at .later [] _ _ _ _ runComparesUpto_proved (fun _ h => by cases h) (by kernel_rfl) (fun _ h => by cases h) runComparesUpto_row_tie rfl ⟨rfl, rfl⟩ (by kernel_rfl) rfl (runCompares_plain _ (by kernel_rfl)) (by kernel_rfl)
end Go.Proofs.YtmhoefpienagkaaDoor
