/- Contracts of the functions that the laws of scorialaw38 reach, part 5. -/
import Derived.Laws.BytesString
import Derived.Test.YtlekojbcaelpiaaRows
import Derived.ProofKit
import Derived.OpenShut
import Derived.JoinedCond
import Derived.Carry
import Derived.Test.YtlekojbcaelpiaaBa4
set_option linter.unusedVariables false
set_option linter.unusedSimpArgs false

/- report.Merge: the start, the first loop, the sort. -/
namespace Go.Proofs.Ytlekojbcaelpiaa
open Go.RowKit
noncomputable abbrev K1m : Code := sY C26
noncomputable abbrev R1m : Code := sX K1m
noncomputable def s26a (l : List Rp) : St := stOf (runCode Try.prog (orc []) (liveOf 26) 0 (Ytlekojbcaelpiaa.pre 1 C26) (start [rowR l] 63))
noncomputable def s26a1 (mb : Nat) (l : List Rp) : St := { s26a l with slots := (11, .sc (.map (some mb))) :: (s26a l).slots }
noncomputable def s26a2 (mb : Nat) (l : List Rp) : St := match runS Try.prog (orc []) (rOps R1m) ((rOps R1m).toList.drop 1) (s26a1 mb l) with | some s => s | none => { n := 0, slots := [], objs := [], lens := [] }
noncomputable def s26a3 (mb : Nat) (l : List Rp) : St := stOf (runCode Try.prog (orc []) (liveOf 26) 0 (Ytlekojbcaelpiaa.pre 1 (sY K1m)) (s26a2 mb l))
noncomputable def s26a4 (mb : Nat) (l : List Rp) : St := { s26a3 mb l with slots := (5, .row (some (41, 30)) 6 0 []) :: (s26a3 mb l).slots, lens := (41, 0) :: (s26a3 mb l).lens }
noncomputable def s26a5 (mb : Nat) (l : List Rp) : St := stOf (runCode Try.prog (orc []) (liveOf 26) 0 (fR T26) (s26a4 mb l))
def st26g (n : Nat) (cs : List AV) : St := { n := 63, slots := [(5, .row (some (41, 30)) 6 (n) (cs))], objs := [], lens := [(41, n * 6)] }
theorem Rel.lt_of {γ : Gh} {w0 w : World} {s : St} {a : Act} (h : Rel γ w0 s a w) {k : Nat} {o : Obj} (hk : γ.fr k = some o) : k < w.heap.size := (Array.getElem?_eq_some_iff.1 (h.frm k o hk).1).1
theorem m26_first (l : List Rp) (hl : l.length ≤ 999999) (hf : ∀ r ∈ l, Fit r) {Qo : Out → Prop}
    (q : ∀ B F0 mb es F, Inv26 B F0 mb (firsts l) es F → JudgF B F (fK T26) (st26g es.length (csOf es)) (fun o F' => Qo o ∧ ∀ k o, F0 k = some o → F' k = some o)) : Judg C26 (start [rowR l] 63) Qo := by
  refine Judg.pre' 26 (orc []) 1 (s26a l) [] (by kernel_rfl) (by kernel_rfl) allnil ?_
  refine Judg.ofF fun B F0 => ?_
  show JudgF B F0 K1m _ _
  refine JudgF.seqE (by kernel_rfl) (JudgF.regionPart (by kernel_rfl) (orc []) 0 (s26a l) (Nat.zero_le _) (by kernel_rfl) (by
    rw [show (s26a l).log = [] by kernel_rfl]; exact allnil) ?_)
  intro γ0 γ w0 a w hg hr hb hF
  have hlist : List.range' 0 ((rOps R1m).size - 0) = [0, 1] := by kernel_rfl
  rw [hlist]
  generalize hmb : w.heap.size = mb
  have hF' := updF F0 mb (some (.map #[] 0))
  refine wpOps_val (o := (rOps R1m)[0]!) (c := .map (some mb)) (w' := w.alloc (.map #[] 0)) (by kernel_rfl) (by kernel_rfl) ?_ ?_
  · have ho : ((rOps R1m)[0]!).op = .makeMap 82 none := by kernel_rfl
    simp only [execOp, ho]
    rw [← hmb]
    exact v_run (run_makeMap_plain w 82)
  have hr1 : Rel γ w0 (s26a l) a (w.alloc (.map #[] 0)) := hr.called ((Below.refl _ _).alloc (Nat.le_refl _) _)
  have hheap : (w.alloc (.map #[] 0)).heap[mb]? = some (.map #[] 0) := by rw [← hmb]; exact (MapKept.heap_alloc w _).1
  have hF0 : ∀ k o, F0 k = some o → k ≠ mb := fun k o h => by have := hr.lt_of (k := k) (by rw [hF]; exact h); omega
  have hr2 := hr1.freeze (updF F0 mb (some (.map #[] 0))) (fun k o h => by
    unfold updF at h
    split at h
    · rename_i e; subst e; cases h
      exact ⟨hheap, fun d hd => by have := hr.blt d _ hd; omega⟩
    · exact hr1.frm k o (by rw [hF]; exact h))
  have hr3 : Rel { γ with fr := updF F0 mb (some (.map #[] 0)) } w0 (s26a1 mb l) (a.put ((rOps R1m)[0]!).dst (.map (some mb))) (w.alloc (.map #[] 0)) := by
    have hd : ((rOps R1m)[0]!).dst = some 11 := by kernel_rfl
    rw [hd]
    refine hr2.put (x := .sc (.map (some mb))) (by kernel_rfl) ?_
    exact rfl
  refine ops_sound (call := orc []) (t := s26a2 mb l) [1] ((rOps R1m).toList.drop 1) (by kernel_rfl) (by kernel_rfl) (by
    intro p hp
    rw [show (s26a2 mb l).log = [] by kernel_rfl] at hp
    revert p
    exact allnil) hr3 ?_
  intro γ' a' w' hg' hr'
  have hBm : B ≤ mb := by rw [← hmb, ← hb]; exact hr.base
  have hinv0 : Inv26 B F0 mb [] [] (updF F0 mb (some (.map #[] 0))) := ⟨fun k o h => ⟨hF0 k o h, by unfold updF; rw [if_neg (hF0 k o h)]; exact h⟩, ⟨_, by unfold updF; rw [if_pos rfl], fun W hW => by
      have := World.ownsMap_made w Try.prog 3 (plainElem (H := Nat) Try.prog 4)
      rw [hmb] at this
      exact owns_of this (hW.trans hheap.symm)⟩, rfl, fun e he => by cases he⟩
  refine ⟨.go (s26a2 mb l), updF F0 mb (some (.map #[] 0)), { γ with fr := updF F0 mb (some (.map #[] 0)) }, ?_, ⟨hg.1, hg.2⟩, rfl, _, γ', rfl, hg', hr'⟩
  show JudgF B _ (sY K1m) _ _
  refine JudgF.pre' 26 (orc []) 1 (s26a3 mb l) [] (by kernel_rfl) (by kernel_rfl) allnil ?_
  show JudgF B _ T26 _ _
  refine JudgF.nilSlot 5 41 30 6 (by kernel_rfl) (by kernel_rfl) ?_
  refine JudgF.for_ (ι := Nat × List Elm) [4, 5, 12, 13, 14] [41] (fun p => st26 mb l p.1 p.2.length (csOf p.2)) (fun p => l.length - p.1) (fun p F => p.1 ≤ l.length ∧ Inv26 B F0 mb (firsts (l.take p.1)) p.2 F) (by kernel_rfl) (orc []) (liveOf 26) (s1 := s26a5 mb l) (by kernel_rfl)
    (by rw [show (s26a5 mb l).log = [] by kernel_rfl]; exact allnil) (0, []) ⟨Nat.zero_le _, hinv0⟩ (by kernel_rfl) ?_
  rintro ⟨i, es⟩ F ⟨hi, inv⟩
  simp only at hi inv ⊢
  by_cases hlt : i < l.length
  · obtain ⟨x, hx⟩ : ∃ x, l[i]? = some x := ⟨l[i], List.getElem?_eq_getElem hlt⟩
    have hlen : (firsts (l.take i)).length ≤ 999999 := by have := firsts_len (l.take i); rw [List.length_take] at this; omega
    refine m26_round (by omega) hx (hf x (List.mem_of_getElem? hx)) inv hBm hlen fun es' F' s' inv' h => ?_
    exact ⟨(i + 1, es'), ⟨by show i + 1 ≤ _; omega, by show Inv26 B F0 mb (firsts (l.take (i + 1))) es' F'; rw [firsts_take hx]; exact inv'⟩, by show l.length - (i + 1) < l.length - i; omega, h⟩
  · obtain rfl : i = l.length := by omega
    rw [List.take_length] at inv
    generalize hj : es.length = j
    generalize hcs : csOf es = cs
    refine JudgF.run' 26 (orc [(15, .val (bA false))]) (.exit 0 (stOf (runCode Try.prog (orc [(15, .val (bA false))]) (liveOf 26) 0 (B26) (st26 mb l l.length j cs)))) [pB .lss 3 (.tmp 14) (.tmp 13) (.int .i64 ((l.length : Nat) : Int)) (.int .i64 ((l.length : Nat) : Int)) (bA false)] (by kernel_rfl) (by kernel_rfl) (allc (hLss _ _ _ _ _ _ (decide_eq_false (by omega))) allnil) ?_
    show JudgF B F (fK T26) _ _
    refine JudgF.clean (L := [5]) (N := [41]) (t := st26g j cs) (by kernel_rfl) ?_
    rw [← hj, ← hcs]
    exact q B F0 mb es F inv
noncomputable abbrev R11m : Code := sX (fK T26)
noncomputable def s26k (n : Nat) (cs : List AV) : St := match runS Try.prog (orc []) (rOps R11m) ((rOps R11m).toList.take 1) (st26g n cs) with | some s => s | none => { n := 0, slots := [], objs := [], lens := [] }
def nest (es : List Elm) : List AV := es.flatMap fun e => rpC e.r
theorem nest_rps (es : List Elm) : nest es = rpsA (es.map (·.r)) := by
  unfold nest rpsA; rw [List.flatMap_map]
/-- the row read by its rows, once what they lie in is promised -/
theorem nest_VL {B : Nat} {F : Frz} {w : World} {pr : Nat → Nat → Prop} (hw : ∀ k o, F k = some o → w.heap[k]? = some o) (hp : ∀ b i, B ≤ b → (∃ o, F b = some o) → pr b i) : ∀ (es : List Elm), (∀ e ∈ es, FrV B F (.slice e.A2 e.r.args.length e.k2) (rowI e.r.args) ∧ FrV B F (.slice e.A3 e.r.events.length e.k3) (rowE e.r.events)) → VL pr w (es.flatMap cellsE) (nest es)
  | [], _ => by simp [nest, VL]
  | e :: es, h => by
    have ih := nest_VL hw hp es fun e' he => h e' (by simp [he])
    obtain ⟨⟨q1, a1, b1⟩, ⟨q2, a2, b2⟩⟩ := h e (by simp)
    have v1 := V.mono (pr' := pr) (w' := w) (fun b i u hq hc => ⟨hp b i (a1 b i hq).1 (a1 b i hq).2, hc⟩) _ (b1 w hw)
    have v2 := V.mono (pr' := pr) (w' := w) (fun b i u hq hc => ⟨hp b i (a2 b i hq).1 (a2 b i hq).2, hc⟩) _ (b2 w hw)
    show VL pr w (cellsE e ++ es.flatMap cellsE) (rpC e.r ++ nest es)
    exact ⟨_, _, rfl, rfl, _, _, rfl, rfl, _, _, rfl, v1, _, _, rfl, v2, _, _, rfl, rfl, _, _, rfl, rfl, ih⟩
theorem Fx_le {F : Frz} {mb k : Nat} {o : Obj} (h : Fx F mb k = some o) : F k = some o := by
  unfold Fx at h; split at h
  · cases h
  · exact h

set_option maxRecDepth 100000 in
theorem m26_sort {B : Nat} {F0 F : Frz} {mb : Nat} {acc : List Rp} {es : List Elm} (inv : Inv26 B F0 mb acc es F) (hlen : es.length ≤ 1000000) {Qo : Out → Prop}
    (q : ∀ es' : List Elm, es'.Perm es → es'.Pairwise (fun x y => x.r.id ≤ y.r.id) → Judg (sY (fK T26)) (st26g es.length (rpsA (es'.map (·.r)))) Qo) :
    JudgF B F (fK T26) (st26g es.length (csOf es)) (fun o F' => Qo o ∧ ∀ k o, F0 k = some o → F' k = some o) := by
  refine JudgF.seqE (by kernel_rfl) (JudgF.regionPart (by kernel_rfl) (orc []) 1 (s26k es.length (csOf es)) (of_decide_eq_true (by kernel_rfl)) (by kernel_rfl) (by
    rw [show (s26k es.length (csOf es)).log = [] by kernel_rfl]; exact allnil) ?_)
  intro γ0 γ w0 a w hg hr hb hF
  have hlist : List.range' 1 ((rOps R11m).size - 1) = [1] := by kernel_rfl
  rw [hlist]
  obtain ⟨n, hn⟩ : ∃ n, es.length = n := ⟨_, rfl⟩
  rw [hn] at hr q
  have hcl : Rel γ w0 (st26g n (csOf es)) a w := hr.cleaned (L := [5]) (N := [41]) (by kernel_rfl)
  have v43 : AVR1 γ (s26k n (csOf es)).lens w (a.tmps.getD 43 undef) (.row (some (41, 30)) 6 n (csOf es)) := hr.slot 43 (.row (some (41, 30)) 6 n (csOf es)) (by kernel_rfl)
  have v5 : AVR1 γ (s26k n (csOf es)).lens w (a.tmps.getD 5 undef) (.row (some (41, 30)) 6 n (csOf es)) := hr.slot 5 (.row (some (41, 30)) 6 n (csOf es)) (by kernel_rfl)
  have hlens : (s26k n (csOf es)).lens = [(41, n * 6)] := by kernel_rfl
  rw [hlens] at v43 v5
  have o43 := (v43.2 (n * 6) (by simp [look_cons])).2 rfl
  have o5 := (v5.2 (n * 6) (by simp [look_cons])).2 rfl
  have hsub : ∀ k o, F0 k = some o → γ.fr k = some o := fun k o h => by rw [hF]; exact (inv.sub k o h).2
  have hd44 : ((rOps R11m)[1]!).dst = some 44 := by kernel_rfl
  have ecall : ∀ c43, a.tmps.getD 43 undef = c43 → (execOp a.eval ((rOps R11m)[1]!)).run Try.prog w = .ok (.enter 50 (#[c43, .func (.func 51) #[] #[]])) w := fun c43 h43 => by
    have e := exec_call (P := Try.prog) (w := w) (a := a) (o := (rOps R11m)[1]!) (x := .func 50) (g := 50) (cb := #[]) (args := #[c43, .func (.func 51) #[] #[]]) (c := match ((rOps R11m)[1]!).op with | .call c => c | _ => default) (by kernel_rfl) (by kernel_rfl) rfl (by
      have e2 : (match ((rOps R11m)[1]!).op with | .call c => c | _ => default : Call).args = #[.tmp 43, .func 51] := by kernel_rfl
      rw [e2]
      simp only [List.map_toArray, List.map_cons, List.map_nil]
      rw [show a.eval (.tmp 43) = c43 from h43]; rfl) (enters Try.func50 rfl)
    simpa using e
  rcases Nat.eq_zero_or_pos n with h0 | hpos
  · subst h0
    obtain rfl : es = [] := List.eq_nil_of_length_eq_zero hn
    have hc43 : ∃ A k, a.tmps.getD 43 undef = .slice A 0 k := by
      obtain ⟨A, cap, e, _⟩ := v43.1
      exact ⟨A, cap, e⟩
    obtain ⟨A, k, h43⟩ := hc43
    refine wpOps_call (by kernel_rfl) (by kernel_rfl) (ecall _ h43) (sort50n A k _ w) ?_
    rintro e w' ⟨rfl, rfl⟩
    refine ⟨_, rfl, .go (st26g 0 []), γ.fr, γ, ?_, hg, rfl, _, γ, rfl, GExt.refl γ, ?_⟩
    · have := q [] (List.Perm.refl _) List.Pairwise.nil
      exact JudgF.of this fun o ho => ⟨ho, hsub⟩
    · rw [hd44]
      exact hcl.putAny (by rfl)
  · obtain ⟨A43, cap43, h43, _⟩ := id v43.1
    rcases o43 with ⟨A, e1, e2⟩ | ⟨us, ho, hbk⟩
    · omega
    rcases ho.2 with ⟨_, e2⟩ | ⟨g, cap, cur, e3, b1, b2, b3, b4, b5, b6⟩
    · omega
    have hblk : γ.blk 41 = some g := hbk g (by rw [e3]; rfl)
    have hus := own_VL (tok := none) (by rw [e3] at ho; exact ho) (by have := v43.1; rw [e3] at this; exact this)
    rw [csOf, VL_sc] at hus
    obtain ⟨rfl, hone⟩ := hus
    have hHo := holdsE b2 hn b3 b5 b6
    have hglt : g < w.heap.size := (Array.getElem?_eq_some_iff.1 b2).1
    have hs50 := sort50 g cap es.toArray w hHo hglt (by simp; omega)
    have hsz : es.toArray.size = n := by simpa using hn
    rw [hsz] at hs50
    refine wpOps_call (by kernel_rfl) (by kernel_rfl) (ecall _ e3) hs50 ?_
    rintro e w' ⟨rfl, d', m, os, hperm, hsorted, hw'⟩
    have hd'sz : d'.size = n := hperm.1.trans hsz
    obtain ⟨es', rfl⟩ : ∃ es' : List Elm, d' = es'.toArray := ⟨d'.toList, by simp⟩
    have hn' : es'.length = n := by simpa using hd'sz
    have hP : es'.Perm es := by
      have h3 := hperm.2.2
      have e1 : (es'.toArray.extract 0 n).toList = es' := by rw [← hn']; simp
      have e2 : (es.toArray.extract 0 n).toList = es := by rw [← hn]; simp
      rw [e1, e2] at h3; exact h3
    have hS : es'.Pairwise (fun x y => x.r.id ≤ y.r.id) := by
      rw [List.pairwise_iff_getElem]
      intro i j hi hj hij
      have := hsorted i j (Nat.zero_le _) hij (by omega)
      rw [ltE] at this
      have hi2 : (es'.toArray)[i]! = es'[i] := by rw [getElem!_pos (es'.toArray) i (by simpa using hi)]; simp
      have hj2 : (es'.toArray)[j]! = es'[j] := by rw [getElem!_pos (es'.toArray) j (by simpa using hj)]; simp
      rw [hi2, hj2] at this
      simpa using this
    obtain ⟨k1, k2, k3, k4, k5, cur', k6, k7, k8⟩ := sortW b2 hn b3 b5 b6 hn' hw'
    have hblk_other : ∀ k o, γ.fr k = some o → w'.heap[k]? = some o := fun k o h => by
      have := hr.frm k o h
      rw [k5 k (Array.getElem?_eq_some_iff.1 this.1).1 (fun e => by subst e; exact this.2 41 hblk)]; exact this.1
    let pr2 : Nat → Nat → Prop := fun b i => γ.pr b i ∨ (γ.base ≤ b ∧ ∃ o, γ.fr b = some o)
    let γ2 : Gh := { γ with pr := pr2 }
    obtain ⟨A5, cap5, h5, p1, p2, p3, p4⟩ := id v5.1
    obtain ⟨bb, oo, q1, q2⟩ := p4 hpos
    subst q1
    rcases o5 with ⟨A, e1, e2⟩ | ⟨us5, ho5, hbk5⟩
    · omega
    rcases ho5.2 with ⟨_, e2⟩ | ⟨g5, cap5', cur5, e5, c1, c2, c3, c4, c5, c6⟩
    · omega
    have hg5 : g5 = g := by have := hbk5 g5 (by rw [e5]; rfl); rw [hblk] at this; exact (Option.some.inj this).symm
    subst hg5
    rw [b2] at c2; cases c2
    rw [e5] at h5
    obtain ⟨rfl, rfl, rfl⟩ : bb = g5 ∧ oo = 0 ∧ cap5 = cap5' := by
      injection h5 with h5 h6 h7
      injection h5 with h5
      injection h5 with h8 h9
      exact ⟨h8.symm, h9.symm, h7.symm⟩
    have hprg : ∀ i, i < n * 6 → γ.pr bb i := fun i hi => by
      obtain ⟨x, hx⟩ : ∃ x, (csOf es)[i]? = some x := ⟨_, List.getElem?_eq_getElem (by rw [p3]; exact hi)⟩
      obtain ⟨u, r1, r2, _⟩ := q2.at_ hx
      simpa using r2
    have hVL : VL pr2 w' (es'.flatMap cellsE) (nest es') := nest_VL (B := B) (F := Fx F mb) (fun k o h => hblk_other k o (by rw [hF]; exact Fx_le h)) (fun b i h1 ⟨o, h2⟩ => .inr ⟨by rw [hb]; exact h1, o, by rw [hF]; exact Fx_le h2⟩) es' (fun e he => inv.els e (hP.subset he))
    have hown2 : w'.ownsRow γ.base 30 6 (.slice (some ⟨bb, 0, none⟩) n cap5) n (es'.flatMap cellsE) := ⟨by rw [← k8]; simp [k7, c5]; omega, .inr ⟨bb, cap5, cur', rfl, b1, k6, c3, c4, by rw [k7]; exact c5, k8⟩⟩
    have hone' : ∀ u ∈ es'.flatMap cellsE, u.oneCell' = true := fun u hu => by
      obtain ⟨e, he, hu⟩ := List.mem_flatMap.1 hu
      exact hone u (List.mem_flatMap.2 ⟨e, hP.subset he, hu⟩)
    have hV5 : V pr2 w' (.slice (some ⟨bb, 0, none⟩) n cap5) (.row (some (41, 30)) 6 n (nest es')) := V_own hown2 c3 c4 hVL hone' (fun i hi => .inl (hprg i hi)) _
    have hnotfr : ∀ o, γ.fr bb ≠ some o := fun o h => (hr.frm bb o h).2 41 hblk
    have hbel : Below γ.base w w' := ⟨k1, k2, k3, k4, fun k hk => k5 k (by have := hr.base; omega) (fun e => by subst e; omega)⟩
    have hr2 : Rel γ2 w0 (st26g n (nest es')) a w' := by
      refine ⟨hcl.size, hcl.defers, hcl.below.trans hbel, Nat.le_trans hcl.base k4, fun t x hx => ?_, fun d ty xs hx => by simp [st26g, look] at hx, fun d len bb' hl hg' => ?_, hcl.inj, fun d b h => Nat.lt_of_lt_of_le (hcl.blt d b h) k4, fun b i h => ?_, fun k o h => ⟨hblk_other k o h, (hcl.frm k o h).2⟩⟩
      · simp only [st26g, look_cons] at hx
        split at hx
        · rename_i e; subst e; cases hx
          refine ⟨by rw [e5]; exact hV5, fun len hl => ?_⟩
          simp only [st26g, look_cons] at hl
          simp at hl; subst hl
          exact ⟨Nat.le_refl _, fun _ => .inr ⟨_, by rw [e5]; exact hown2, fun bb' hg' => by rw [e5] at hg'; simp only [Value.ownBlock, Option.some.injEq] at hg'; subst hg'; exact hblk⟩⟩
        · cases hx
      · have := hcl.len d len bb' hl hg'
        refine ⟨this.1, fun i hi => ?_⟩
        rcases hi with hi | ⟨_, o, ho⟩
        · exact this.2 i hi
        · exact absurd hg' ((hcl.frm bb' o ho).2 d)
      · rcases h with h | ⟨_, o, ho⟩
        · exact Nat.lt_of_lt_of_le (hcl.plt b i h) k4
        · exact Nat.lt_of_lt_of_le (hcl.lt_of ho) k4
    refine ⟨_, rfl, .go (st26g n (nest es')), γ.fr, γ2, ?_, ⟨hg.1, fun b i hb' hp => ?_⟩, rfl, _, γ2, rfl, GExt.refl γ2, ?_⟩
    · have := q es' hP hS
      rw [← nest_rps] at this
      exact JudgF.of this fun o ho => ⟨ho, hsub⟩
    · rcases hp with hp | ⟨h1, _⟩
      · exact hg.2 b i hb' hp
      · have := hg.1; omega
    · rw [hd44]
      exact hr2.putAny (by rfl)
end Go.Proofs.Ytlekojbcaelpiaa

/- report.all with Merge's second closure. -/
namespace Go.Proofs.Ytlekojbcaelpiaa
open Go.RowKit
theorem clos54_t (r y : Rp) (h55 : Ok Try.prog 55 [rpA r, rpA y] (plainR (bA true))) : Ok Try.prog 54 [rpA y, .rptr (rpC r)] (plainR (bA false)) :=
  Ok.run' 54 (orcC [(6, plainR (bA true))] []) Try.func54 [Ok Try.prog 55 [.agg [iA (r.id), iA (r.ver), rowI r.args, rowE r.events, bA (r.cut), iA (r.en)], .agg [iA (y.id), iA (y.ver), rowI y.args, rowE y.events, bA (y.cut), iA (y.en)]] (plainR (bA true))] (by kernel_rfl) (allc (h55) allnil)
theorem clos54_f (r y : Rp) (h55 : Ok Try.prog 55 [rpA r, rpA y] (plainR (bA false))) : Ok Try.prog 54 [rpA y, .rptr (rpC r)] (plainR (bA true)) :=
  Ok.run' 54 (orcC [(6, plainR (bA false))] []) Try.func54 [Ok Try.prog 55 [.agg [iA (r.id), iA (r.ver), rowI r.args, rowE r.events, bA (r.cut), iA (r.en)], .agg [iA (y.id), iA (y.ver), rowI y.args, rowE y.events, bA (y.cut), iA (y.en)]] (plainR (bA false))] (by kernel_rfl) (allc (h55) allnil)
theorem clos54 (r y : Rp) (hr : Fit r) (hy : Fit y) : Ok Try.prog 54 [rpA y, .rptr (rpC r)] (plainR (bA (!contrB r y))) := by
  have h := ok55 r y hr hy
  cases hc : contrB r y with
  | true => rw [hc] at h; exact clos54_t r y h
  | false => rw [hc] at h; exact clos54_f r y h
noncomputable abbrev C53 : Code := bodyOf Try.f53
noncomputable abbrev T53 : Code := post 1 C53
noncomputable abbrev B53 : Code := fB T53
noncomputable abbrev X53 : Code := bX (sX (post 2 B53))
noncomputable abbrev R4a : Code := sX (sY X53)
noncomputable abbrev Q4a : Code := sY (sY X53)
noncomputable abbrev R6a : Code := sY (post 2 B53)
noncomputable def s53a (ptr : Value) (rs : List Rp) : St := stOf (runCode Try.prog (orc []) (liveOf 53) 0 (Ytlekojbcaelpiaa.pre 1 C53) (start [rowR rs, .sc (.func (.func 54) #[] #[ptr])] 18))
noncomputable def s53b (ptr : Value) (rs : List Rp) : St := stOf (runCode Try.prog (orc []) (liveOf 53) 0 (fR T53) (s53a ptr rs))
def st53 (ptr : Value) (rs : List Rp) (i : Nat) : St := { n := 18, slots := [(1, .sc (.func (.func 54) #[] #[ptr])), (7, rowR rs), (8, iA ((rs.length : Nat) : Int)), (9, iA ((i : Nat) : Int))], objs := [], lens := [] }
def st53b (ptr : Value) (rs : List Rp) (i : Nat) (y : Rp) : St := { n := 18, slots := [(1, .sc (.func (.func 54) #[] #[ptr])), (6, .ptr 6 0), (7, rowR rs), (8, iA ((rs.length : Nat) : Int)), (9, iA ((i : Nat) : Int))], objs := [(6, (30, [iA (y.id), iA (y.ver), rowI y.args, rowE y.events, bA (y.cut), iA (y.en)]))], lens := [] }
noncomputable def s53t (ptr : Value) (rs : List Rp) (i : Nat) (y : Rp) : St := match runS Try.prog (orc []) (rOps R4a) ((rOps R4a).toList.take 2) (st53b ptr rs i y) with | some s => s | none => { n := 0, slots := [], objs := [], lens := [] }
noncomputable def s53u (ptr : Value) (rs : List Rp) (i : Nat) (y : Rp) (b : Bool) : St := { s53t ptr rs i y with slots := (15, bA b) :: (s53t ptr rs i y).slots }
noncomputable def s53v (ptr : Value) (rs : List Rp) (i : Nat) (y : Rp) (b : Bool) : St := match runS Try.prog (orc []) (rOps R4a) ((rOps R4a).toList.drop 3) (s53u ptr rs i y b) with | some s => s | none => { n := 0, slots := [], objs := [], lens := [] }
def Ret53 (F : Frz) (v : Bool) (o : Out) (F' : Frz) : Prop := F' = F ∧ ∃ s1, o = .ret s1 ∧ (resVals Try.prog s1 Try.f53.results.toList).bind (resOf s1) = some (plainR (bA v), [])
theorem a53_round {B : Nat} {F : Frz} {ptr : Value} {rs : List Rp} {r y : Rp} {i : Nat} (hp : FrV 0 F ptr (.rptr (rpC r))) (hy : rs[i]? = some y) (hl : rs.length ≤ 1000000) (hfr : Fit r) (hfy : Fit y) {Q : Out → Frz → Prop}
    (q1 : contrB r y = true → ∀ o F', Ret53 F false o F' → Q o F') (q2 : contrB r y = false → ∀ s', clean [1, 7, 8, 9] [] s' = st53 ptr rs (i + 1) → Q (.go s') F) : JudgF B F B53 (st53 ptr rs i) Q := by
  have hil : i < rs.length := (List.getElem?_eq_some_iff.1 hy).1
  refine JudgF.pre' 53 (orc [(10, .val (bA true))]) 2 (stOf (runCode Try.prog (orc [(10, .val (bA true))]) (liveOf 53) 0 (Ytlekojbcaelpiaa.pre 2 B53) (st53 ptr rs i))) [pB .lss 3 (.tmp 9) (.tmp 8) (.int .i64 ((i : Nat) : Int)) (.int .i64 ((rs.length : Nat) : Int)) (bA true)] (by kernel_rfl) (by kernel_rfl) (allc (hLss _ _ _ _ _ _ (decide_eq_true (by omega))) allnil) ?_
  refine JudgF.seqE (by kernel_rfl) (JudgF.blockE (by kernel_rfl) ?_)
  refine JudgF.pre' 53 (orc [(11, .val (.rptr (iA (y.id) :: iA (y.ver) :: rowI y.args :: rowE y.events :: bA (y.cut) :: iA (y.en) :: rpsA (rs.drop (i + 1)))))]) 1 (stOf (runCode Try.prog (orc [(11, .val (.rptr (iA (y.id) :: iA (y.ver) :: rowI y.args :: rowE y.events :: bA (y.cut) :: iA (y.en) :: rpsA (rs.drop (i + 1)))))]) (liveOf 53) 0 (Ytlekojbcaelpiaa.pre 1 X53) (stOf (runCode Try.prog (orc [(10, .val (bA true))]) (liveOf 53) 0 (Ytlekojbcaelpiaa.pre 2 B53) (st53 ptr rs i))))) ([cmdIndexAddr Try.prog 52 (rowR rs) (iA ((i : Nat) : Int)) = some (.val (.rptr (iA (y.id) :: iA (y.ver) :: rowI y.args :: rowE y.events :: bA (y.cut) :: iA (y.en) :: rpsA (rs.drop (i + 1))))), pB .lss 3 (.tmp 9) (.tmp 8) (.int .i64 ((i : Nat) : Int)) (.int .i64 ((rs.length : Nat) : Int)) (bA true)]) (by kernel_rfl) (by kernel_rfl) (allc (el52.idxR hy) (allc (hLss _ _ _ _ _ _ (decide_eq_true (by omega))) allnil)) ?_
  refine JudgF.clean (L := [1, 6, 7, 8, 9]) (N := [6]) (t := st53b ptr rs i y) (by kernel_rfl) ?_
  show JudgF B F (sY X53) _ _
  refine JudgF.seqE (by kernel_rfl) (JudgF.regionPart (by kernel_rfl) (orc []) 2 (s53t ptr rs i y) (of_decide_eq_true (by kernel_rfl)) (by kernel_rfl) (by
    rw [show (s53t ptr rs i y).log = [] by kernel_rfl]; exact allnil) ?_)
  intro γ0 γ w0 a w hg hr hb hF
  have hlist : List.range' 2 ((rOps R4a).size - 2) = [2, 3] := by kernel_rfl
  rw [hlist]
  have e13 : a.eval (.tmp 13) = .func (.func 54) #[] #[ptr] := hr.slot 13 (.sc (.func (.func 54) #[] #[ptr])) (by kernel_rfl)
  have v14 : V γ.pr w (a.eval (.tmp 14)) (rpA y) := (hr.slot 14 (rpA y) (by kernel_rfl)).plain
  obtain ⟨qq, hq1, hq2⟩ := hp
  have vp := hq2 w (fun k o h => (hr.frm k o (by rw [hF]; exact h)).1)
  have hpl : ∀ b i, (γ.pr b i ∨ qq b i) → b < w.heap.size := fun b i h => by
    rcases h with h | h
    · exact hr.plt b i h
    · obtain ⟨o, ho⟩ := (hq1 b i h).2
      exact hr.lt_of (k := b) (o := o) (by rw [hF]; exact ho)
  have hcall := (clos54 r y hfr hfy).2 w (fun b i => γ.pr b i ∨ qq b i) [a.eval (.tmp 14), ptr] hpl ⟨_, _, rfl, V.mono (fun b i u h hc => ⟨.inl h, hc⟩) _ v14, _, _, rfl, V.mono (fun b i u h hc => ⟨.inr h, hc⟩) _ vp, rfl⟩
  have ecall := exec_call (P := Try.prog) (w := w) (a := a) (o := (rOps R4a)[2]!) (x := .tmp 13) (g := 54) (cb := #[ptr]) (args := #[a.eval (.tmp 14)]) (c := match ((rOps R4a)[2]!).op with | .call c => c | _ => default) (by kernel_rfl) (by kernel_rfl) e13 (by
      have e2 : (match ((rOps R4a)[2]!).op with | .call c => c | _ => default : Call).args = #[.tmp 14] := by kernel_rfl
      rw [e2]; simp) (enters Try.func54 rfl)
  refine wpOps_call (by kernel_rfl) (by kernel_rfl) ecall hcall ?_
  rintro e w' ⟨c, pr', rfl, hbel, _, _, hV, _⟩
  have hc : c = .bool (!contrB r y) := hV
  subst hc
  refine ⟨_, rfl, ?_⟩
  generalize hbb : (!contrB r y) = b
  have hr2 : Rel γ w0 (s53u ptr rs i y b) (a.put ((rOps R4a)[2]!).dst (.bool b)) w' := by
    have hd : ((rOps R4a)[2]!).dst = some 15 := by kernel_rfl
    rw [hd]
    refine (hr.called hbel).put (x := bA b) (by kernel_rfl) ?_
    exact rfl
  refine ops_sound (call := orc []) (t := s53v ptr rs i y b) [3] ((rOps R4a).toList.drop 3) (by kernel_rfl) (by cases b <;> kernel_rfl) (by
    intro p hp
    rw [show (s53v ptr rs i y b).log = [] by cases b <;> kernel_rfl] at hp
    revert p
    exact allnil) hr2 ?_
  intro γ' a' w'' hg' hr'
  refine ⟨.go (s53v ptr rs i y b), F, γ, ?_, hg, hF, _, γ', rfl, hg', hr'⟩
  show JudgF B F Q4a _ _
  cases b with
  | false =>
    refine JudgF.run' 53 (orc []) (.ret (stOf (runCode Try.prog (orc []) (liveOf 53) 0 (Q4a) (s53v ptr rs i y false)))) [] (by kernel_rfl) (by kernel_rfl) allnil ?_
    exact q1 (by simpa using hbb) _ F ⟨rfl, _, rfl, by kernel_rfl⟩
  | true =>
    refine JudgF.run' 53 (orc []) (.go (stOf (runCode Try.prog (orc []) (liveOf 53) 0 (Q4a) (s53v ptr rs i y true)))) [] (by kernel_rfl) (by kernel_rfl) allnil ?_
    show JudgF B F R6a _ _
    refine JudgF.run' 53 (orc [(17, .val (iA ((i + 1 : Nat) : Int)))]) (.go (stOf (runCode Try.prog (orc [(17, .val (iA ((i + 1 : Nat) : Int)))]) (liveOf 53) 0 (R6a) ((stOf (runCode Try.prog (orc []) (liveOf 53) 0 (Q4a) (s53v ptr rs i y true))))))) [pB .add 3 (.tmp 9) (.const (.int .i64 1)) (.int .i64 ((i : Nat) : Int)) (.int .i64 (1)) (iA ((i + 1 : Nat) : Int))] (by kernel_rfl) (by kernel_rfl) (allc (hAdd _ _ _ _ _ _ (by simp) ⟨by omega, by omega⟩) allnil) ?_
    exact q2 (by simpa using hbb) _ (by kernel_rfl)
theorem a53_body {B : Nat} {F : Frz} {ptr : Value} (rs : List Rp) (r : Rp) (hp : FrV 0 F ptr (.rptr (rpC r))) (hl : rs.length ≤ 1000000) (hfr : Fit r) (hf : ∀ y ∈ rs, Fit y) :
    JudgF B F C53 (start [rowR rs, .sc (.func (.func 54) #[] #[ptr])] 18) (Ret53 F (rs.all fun y => !contrB r y)) := by
  refine JudgF.pre' 53 (orc []) 1 (s53a ptr rs) [] (by kernel_rfl) (by kernel_rfl) allnil ?_
  refine JudgF.for_ (ι := Nat) [1, 7, 8, 9] [] (fun i => st53 ptr rs i) (fun i => rs.length - i) (fun i F' => i ≤ rs.length ∧ F' = F ∧ (rs.take i).all (fun y => !contrB r y) = true) (by kernel_rfl) (orc []) (liveOf 53) (s1 := s53b ptr rs) (by kernel_rfl)
    (by rw [show (s53b ptr rs).log = [] by kernel_rfl]; exact allnil) 0 ⟨Nat.zero_le _, rfl, rfl⟩ (by kernel_rfl) ?_
  rintro i F2 ⟨hi, rfl, hall⟩
  by_cases hlt : i < rs.length
  · obtain ⟨y, hy⟩ : ∃ y, rs[i]? = some y := ⟨rs[i], List.getElem?_eq_getElem hlt⟩
    refine a53_round hp hy hl hfr (hf y (List.mem_of_getElem? hy)) (fun hc o F' h => ?_) fun hc s' h => ?_
    · obtain ⟨rfl, s1, rfl, h2⟩ := h
      have e : (rs.all fun y => !contrB r y) = false := by
        rw [List.all_eq_false]; exact ⟨y, List.mem_of_getElem? hy, by simp [hc]⟩
      rw [e]; exact ⟨rfl, s1, rfl, h2⟩
    · exact ⟨i + 1, ⟨by omega, rfl, by rw [take_succ_at hy, List.all_append, hall]; simp [hc]⟩, by omega, h⟩
  · obtain rfl : i = rs.length := by omega
    rw [List.take_length] at hall
    rw [hall]
    refine JudgF.run' 53 (orc [(10, .val (bA false))]) (.exit 0 (stOf (runCode Try.prog (orc [(10, .val (bA false))]) (liveOf 53) 0 (B53) (st53 ptr rs rs.length)))) [pB .lss 3 (.tmp 9) (.tmp 8) (.int .i64 ((rs.length : Nat) : Int)) (.int .i64 ((rs.length : Nat) : Int)) (bA false)] (by kernel_rfl) (by kernel_rfl) (allc (hLss _ _ _ _ _ _ (decide_eq_false (by omega))) allnil) ?_
    show JudgF B F2 (fK T53) _ _
    exact JudgF.run' 53 (orc []) (.ret (stOf (runCode Try.prog (orc []) (liveOf 53) 0 (fK T53) ((stOf (runCode Try.prog (orc [(10, .val (bA false))]) (liveOf 53) 0 (B53) (st53 ptr rs rs.length))))))) [pB .lss 3 (.tmp 9) (.tmp 8) (.int .i64 ((rs.length : Nat) : Int)) (.int .i64 ((rs.length : Nat) : Int)) (bA false)] (by kernel_rfl) (by kernel_rfl) (allc (hLss _ _ _ _ _ _ (decide_eq_false (by omega))) allnil) ⟨rfl, _, rfl, by kernel_rfl⟩
theorem all53 (rs : List Rp) (r : Rp) (hl : rs.length ≤ 1000000) (hfr : Fit r) (hf : ∀ y ∈ rs, Fit y) (w : World) (pr : Nat → Nat → Prop) (c ptr : Value) (hpl : ∀ b i, pr b i → b < w.heap.size) (hc : V pr w c (rowR rs)) (hp : V pr w ptr (.rptr (rpC r))) :
    Calls Try.prog 53 #[c, .func (.func 54) #[] #[ptr]] w (Post w pr (plainR (bA (rs.all fun y => !contrB r y)))) := by
  refine calls_of_wp Try.func53 (c := C53) rfl ?_
  have h0 := rel_start (fn := Try.f53) (args := [rowR rs, .sc (.func (.func 54) #[] #[ptr])]) (cs := [c, .func (.func 54) #[] #[ptr]]) (pr := pr) (w := w) (by simp [Try.ntmps53]) hpl ⟨_, _, rfl, hc, _, _, rfl, rfl, rfl⟩
  have h1 := h0.freeze (fun k => w.heap[k]?) (fun k o h => ⟨h, fun d hd => by simp at hd⟩)
  have hF : FrV 0 (fun k => w.heap[k]?) ptr (.rptr (rpC r)) := ⟨pr, fun b i h => ⟨Nat.zero_le _, _, Array.getElem?_eq_getElem (hpl b i h)⟩, fun w2 hw2 => V.mono (fun b i u h hcc => ⟨h, by
    rw [World.cell?_of_block (w := w) (w' := w2)]
    · exact hcc
    · exact (hw2 b _ (Array.getElem?_eq_getElem (hpl b i h))).trans (Array.getElem?_eq_getElem (hpl b i h)).symm⟩) _ hp⟩
  have hnt : Try.f53.ntmps = 18 := Try.ntmps53
  rw [hnt] at h1
  refine wp_mono (a53_body (B := w.heap.size) (F := fun k => w.heap[k]?) rs r hF hl hfr hf _ _ _ _ h1 rfl rfl) fun e a' w' ⟨out, F', γ1, hq, hg, hf1, p⟩ => ?_
  obtain ⟨rfl, s1, rfl, hres⟩ := hq
  cases e with
  | ret =>
    obtain ⟨s2, γ2, e2, hg2, hr⟩ := p
    cases e2
    have hgf : GExt { base := w.heap.size, pr := pr, blk := fun _ => none } { γ2 with fr := fun _ => none } := ⟨hg2.base.trans hg.1, fun b i hb hp => hg.2 b i hb (hg2.old b i (by rw [hg.1]; exact hb) hp), rfl⟩
    obtain ⟨k1, v', hv', hpost⟩ := results_fin (fn := Try.f53) hres (fun p hp => by cases hp) hgf (hr.freeze (fun _ => none) (fun k o h => by cases h))
    exact ⟨k1, v', hv', hpost⟩
  | normal => obtain ⟨s2, γ2, e2, _⟩ := p; cases e2
  | exit id => obtain ⟨s2, γ2, e2, _⟩ := p; cases e2
  | _ => exact p.elim
end Go.Proofs.Ytlekojbcaelpiaa

/- report.Merge: the second loop, the whole. -/
namespace Go.Proofs.Ytlekojbcaelpiaa
open Go.RowKit
noncomputable abbrev E26 : Code := sY (fK T26)
noncomputable abbrev T26b : Code := sY E26
noncomputable abbrev B26b : Code := fB T26b
noncomputable abbrev X26b : Code := bX (sX (post 2 B26b))
noncomputable abbrev R16m : Code := sX (sY X26b)
noncomputable abbrev Q16m : Code := sY (sY X26b)
noncomputable abbrev R18m : Code := sY (post 2 B26b)
def st26i (rs : List Rp) : St := { n := 63, slots := [(5, rowR rs)], objs := [], lens := [] }
def st26j (rs : List Rp) (i j : Nat) (cs : List AV) : St := { n := 63, slots := [(5, rowR rs), (8, .row (some (59, 3)) 1 (j) (cs)), (45, rowR rs), (46, iA ((rs.length : Nat) : Int)), (47, iA ((i : Nat) : Int))], objs := [], lens := [(59, j * 1)] }
def st26l (rs : List Rp) (i j : Nat) (cs : List AV) (x : Rp) : St := { n := 63, slots := [(5, rowR rs), (8, .row (some (59, 3)) 1 (j) (cs)), (10, .ptr 10 0), (45, rowR rs), (46, iA ((rs.length : Nat) : Int)), (47, iA ((i : Nat) : Int))], objs := [(10, (30, [iA (x.id), iA (x.ver), rowI x.args, rowE x.events, bA (x.cut), iA (x.en)]))], lens := [(59, j * 1)] }
noncomputable def s26j1 (rs : List Rp) : St := stOf (runCode Try.prog (orc []) (liveOf 26) 0 (Ytlekojbcaelpiaa.pre 1 E26) (st26i rs))
noncomputable def s26j2 (rs : List Rp) : St := { s26j1 rs with slots := (8, .row (some (59, 3)) 1 0 []) :: (s26j1 rs).slots, lens := (59, 0) :: (s26j1 rs).lens }
noncomputable def s26j3 (rs : List Rp) : St := stOf (runCode Try.prog (orc []) (liveOf 26) 0 (fR T26b) (s26j2 rs))
noncomputable def s26m (rs : List Rp) (i j : Nat) (cs : List AV) (x : Rp) : St := match runS Try.prog (orc []) (rOps R16m) ((rOps R16m).toList.take 1) (st26l rs i j cs x) with | some s => s | none => { n := 0, slots := [], objs := [], lens := [] }
noncomputable def s26n (rs : List Rp) (i j : Nat) (cs : List AV) (x : Rp) (b : Bool) : St := { s26m rs i j cs x with slots := (53, bA b) :: (s26m rs i j cs x).slots }
noncomputable def s26o (rs : List Rp) (i j : Nat) (cs : List AV) (x : Rp) (b : Bool) : St := match runS Try.prog (orc []) (rOps R16m) ((rOps R16m).toList.drop 3) (s26n rs i j cs x b) with | some s => s | none => { n := 0, slots := [], objs := [], lens := [] }
theorem m26b_call {B : Nat} {F : Frz} {rs : List Rp} {x : Rp} {i j : Nat} {cs : List AV} (hl : rs.length ≤ 1000000) (hf : ∀ y ∈ rs, Fit y) (hfx : Fit x) {Q : Out → Frz → Prop}
    (q : JudgF B F Q16m (s26o rs i j cs x (rs.all fun y => !contrB x y)) Q) : JudgF B F (sY X26b) (st26l rs i j cs x) Q := by
  refine JudgF.seqE (by kernel_rfl) (JudgF.regionPart (by kernel_rfl) (orc []) 1 (s26m rs i j cs x) (of_decide_eq_true (by kernel_rfl)) (by kernel_rfl) (by
    rw [show (s26m rs i j cs x).log = [] by kernel_rfl]; exact allnil) ?_)
  intro γ0 γ w0 a w hg hr hb hF
  have hlist : List.range' 1 ((rOps R16m).size - 1) = [1, 2, 3] := by kernel_rfl
  rw [hlist]
  have v51 : V γ.pr w (a.eval (.tmp 51)) (rowR rs) := (hr.slot 51 (rowR rs) (by kernel_rfl)).plain
  have v10 : AVR1 γ (s26m rs i j cs x).lens w (a.tmps.getD 10 undef) (.ptr 10 0) := hr.slot 10 (.ptr 10 0) (by kernel_rfl)
  obtain ⟨⟨bx, e10, hbx⟩, _⟩ := v10
  obtain ⟨_, bx', cells, hbx', hbase, hheap, hcells, hone, hno⟩ := hr.obj 10 30 (rpC x) (by kernel_rfl)
  have : bx' = bx := by rw [hbx] at hbx'; exact (Option.some.inj hbx').symm
  subst this
  have hn52 : ((rOps R16m)[1]!).dst = some 52 := by kernel_rfl
  have hn53 : ((rOps R16m)[2]!).dst = some 53 := by kernel_rfl
  have hsz : a.tmps.size = 63 := hr.size
  obtain ⟨clo, hclo⟩ : ∃ clo : Value, clo = .func (.func 54) #[] #[.pointer (some ⟨bx', 0, none⟩)] := ⟨_, rfl⟩
  refine wpOps_val (o := (rOps R16m)[1]!) (c := clo) (w' := w) (by kernel_rfl) (by kernel_rfl) ?_ ?_
  · have ho : ((rOps R16m)[1]!).op = .makeFunc (.func 54) #[] #[.tmp 10] := by kernel_rfl
    simp only [execOp, ho]
    rw [hclo]
    have e : a.eval (.tmp 10) = .pointer (some ⟨bx', 0, none⟩) := e10
    simp [e]
    rfl
  rw [hn52]
  have hr1 : Rel γ w0 (s26m rs i j cs x) (a.put (some 52) clo) w := hr.putAny (by kernel_rfl)
  have vptr : V (fun b k => γ.pr b k ∨ b = bx') w (.pointer (some ⟨bx', 0, none⟩)) (.rptr (rpC x)) := by
    refine ⟨bx', 0, rfl, ?_⟩
    have hVL : VL γ.pr w cells (rpC x) := by
      have := hcells.plain
      have e : (rpC x).map plain1 = rpC x := rfl
      rw [e] at this; exact this
    refine VC.of_VL (VL.mono (fun b k u h hc => ⟨.inl h, hc⟩) _ hVL) fun k v hk => ⟨?_, .inr rfl, hone v (List.mem_of_getElem? hk)⟩
    simp only [World.cell?, hheap, Nat.zero_add]
    simpa using hk
  have hcall := all53 rs x hl hfx hf w (fun b k => γ.pr b k ∨ b = bx') (a.eval (.tmp 51)) (.pointer (some ⟨bx', 0, none⟩)) (fun b k h => by
    rcases h with h | rfl
    · exact hr.plt b k h
    · exact hr.blt 10 b hbx) (V.mono (fun b k u h hc => ⟨.inl h, hc⟩) _ v51) vptr
  rw [← hclo] at hcall
  have ecall := exec_call (P := Try.prog) (w := w) (a := a.put (some 52) clo) (o := (rOps R16m)[2]!) (x := .func 53) (g := 53) (cb := #[]) (args := #[a.eval (.tmp 51), clo]) (c := match ((rOps R16m)[2]!).op with | .call c => c | _ => default) (by kernel_rfl) (by kernel_rfl) rfl (by
      have e2 : (match ((rOps R16m)[2]!).op with | .call c => c | _ => default : Call).args = #[.tmp 51, .tmp 52] := by kernel_rfl
      rw [e2]
      simp only [List.map_toArray, List.map_cons, List.map_nil]
      rw [put_eval_ne (by omega), put_eval_eq (by omega)]) (enters Try.func53 rfl)
  refine wpOps_call (by kernel_rfl) (by kernel_rfl) (by simpa using ecall) hcall ?_
  rintro e w' ⟨c, pr', rfl, hbel, _, _, hV, _⟩
  have hc : c = .bool (rs.all fun y => !contrB x y) := hV
  subst hc
  refine ⟨_, rfl, ?_⟩
  generalize (rs.all fun y => !contrB x y) = b at q ⊢
  have hr2 : Rel γ w0 (s26n rs i j cs x b) ((a.put (some 52) clo).put ((rOps R16m)[2]!).dst (.bool b)) w' := by
    rw [hn53]
    refine (hr1.called hbel).put (x := bA b) (by kernel_rfl) ?_
    exact rfl
  refine ops_sound (call := orc []) (t := s26o rs i j cs x b) [3] ((rOps R16m).toList.drop 3) (by kernel_rfl) (by cases b <;> kernel_rfl) (by
    intro p hp
    rw [show (s26o rs i j cs x b).log = [] by cases b <;> kernel_rfl] at hp
    revert p
    exact allnil) hr2 ?_
  intro γ' a' w'' hg' hr'
  exact ⟨.go (s26o rs i j cs x b), F, γ, q, hg, hF, _, γ', rfl, hg', hr'⟩
theorem any_all {α : Type} (p : α → Bool) : ∀ l : List α, l.any p = !(l.all fun y => !p y)
  | [] => rfl
  | x :: l => by rw [List.any_cons, List.all_cons, any_all p l]; cases p x <;> simp
theorem m26b_round {B : Nat} {F : Frz} {rs : List Rp} {x : Rp} {i j : Nat} {cs : List AV} (hx : rs[i]? = some x) (hl : rs.length ≤ 1000000) (hj : j ≤ 1000000) (hf : ∀ y ∈ rs, Fit y) {Q : Out → Frz → Prop}
    (q : ∀ s', clean [5, 8, 45, 46, 47] [59] s' = (if rs.any (fun y => contrB x y) = true then st26j rs (i + 1) (j + 1) (cs ++ [iA x.id]) else st26j rs (i + 1) j cs) → Q (.go s') F) : JudgF B F B26b (st26j rs i j cs) Q := by
  have hil : i < rs.length := (List.getElem?_eq_some_iff.1 hx).1
  refine JudgF.pre' 26 (orc [(48, .val (bA true))]) 2 (stOf (runCode Try.prog (orc [(48, .val (bA true))]) (liveOf 26) 0 (Ytlekojbcaelpiaa.pre 2 B26b) (st26j rs i j cs))) [pB .lss 3 (.tmp 47) (.tmp 46) (.int .i64 ((i : Nat) : Int)) (.int .i64 ((rs.length : Nat) : Int)) (bA true)] (by kernel_rfl) (by kernel_rfl) (allc (hLss _ _ _ _ _ _ (decide_eq_true (by omega))) allnil) ?_
  refine JudgF.seqE (by kernel_rfl) (JudgF.blockE (by kernel_rfl) ?_)
  refine JudgF.pre' 26 (orc [(49, .val (.rptr (iA (x.id) :: iA (x.ver) :: rowI x.args :: rowE x.events :: bA (x.cut) :: iA (x.en) :: rpsA (rs.drop (i + 1)))))]) 1 (stOf (runCode Try.prog (orc [(49, .val (.rptr (iA (x.id) :: iA (x.ver) :: rowI x.args :: rowE x.events :: bA (x.cut) :: iA (x.en) :: rpsA (rs.drop (i + 1)))))]) (liveOf 26) 0 (Ytlekojbcaelpiaa.pre 1 X26b) (stOf (runCode Try.prog (orc [(48, .val (bA true))]) (liveOf 26) 0 (Ytlekojbcaelpiaa.pre 2 B26b) (st26j rs i j cs))))) ([cmdIndexAddr Try.prog 52 (rowR rs) (iA ((i : Nat) : Int)) = some (.val (.rptr (iA (x.id) :: iA (x.ver) :: rowI x.args :: rowE x.events :: bA (x.cut) :: iA (x.en) :: rpsA (rs.drop (i + 1))))), pB .lss 3 (.tmp 47) (.tmp 46) (.int .i64 ((i : Nat) : Int)) (.int .i64 ((rs.length : Nat) : Int)) (bA true)]) (by kernel_rfl) (by kernel_rfl) (allc (el52.idxR hx) (allc (hLss _ _ _ _ _ _ (decide_eq_true (by omega))) allnil)) ?_
  refine JudgF.clean (L := [5, 8, 10, 45, 46, 47]) (N := [10, 59]) (t := st26l rs i j cs x) (by kernel_rfl) ?_
  show JudgF B F (sY X26b) _ _
  refine m26b_call hl hf (hf x (List.mem_of_getElem? hx)) ?_
  have hany : rs.any (fun y => contrB x y) = !(rs.all fun y => !contrB x y) := any_all _ _
  rw [hany] at q
  generalize (rs.all fun y => !contrB x y) = b at q ⊢
  cases b with
  | false =>
    refine JudgF.run' 26 (orc [(59, .grow 59 3 1 (j) (cs) (1) ([iA (x.id)]))]) (.go (stOf (runCode Try.prog (orc [(59, .grow 59 3 1 (j) (cs) (1) ([iA (x.id)]))]) (liveOf 26) 0 (Q16m) (s26o rs i j cs x false)))) [cmdAppend Try.prog 22 22 (.row (some (59, 3)) 1 (j) (cs)) (.row (some (58, 3)) 1 (1) ([iA (x.id)])) = some (.grow 59 3 1 (j) (cs) (1) ([iA (x.id)])), j * 1 = j * 1] (by kernel_rfl) (by kernel_rfl) (allc (el22.grow (rowOf_row _ _ _ _) (fits_of (by omega) (by omega))) (allc (rfl) allnil)) ?_
    show JudgF B F R18m _ _
    refine JudgF.run' 26 (orc [(60, .val (iA ((i + 1 : Nat) : Int)))]) (.go (stOf (runCode Try.prog (orc [(60, .val (iA ((i + 1 : Nat) : Int)))]) (liveOf 26) 0 (R18m) ((stOf (runCode Try.prog (orc [(59, .grow 59 3 1 (j) (cs) (1) ([iA (x.id)]))]) (liveOf 26) 0 (Q16m) (s26o rs i j cs x false))))))) [pB .add 3 (.tmp 47) (.const (.int .i64 1)) (.int .i64 ((i : Nat) : Int)) (.int .i64 (1)) (iA ((i + 1 : Nat) : Int)), cmdAppend Try.prog 22 22 (.row (some (59, 3)) 1 (j) (cs)) (.row (some (58, 3)) 1 (1) ([iA (x.id)])) = some (.grow 59 3 1 (j) (cs) (1) ([iA (x.id)])), j * 1 = j * 1] (by kernel_rfl) (by kernel_rfl) (allc (hAdd _ _ _ _ _ _ (by simp) ⟨by omega, by omega⟩) (allc (el22.grow (rowOf_row _ _ _ _) (fits_of (by omega) (by omega))) (allc (rfl) allnil))) ?_
    exact q _ (by rw [if_pos (by decide)]; kernel_rfl)
  | true =>
    refine JudgF.run' 26 (orc []) (.go (stOf (runCode Try.prog (orc []) (liveOf 26) 0 (Q16m) (s26o rs i j cs x true)))) [] (by kernel_rfl) (by kernel_rfl) allnil ?_
    show JudgF B F R18m _ _
    refine JudgF.run' 26 (orc [(60, .val (iA ((i + 1 : Nat) : Int)))]) (.go (stOf (runCode Try.prog (orc [(60, .val (iA ((i + 1 : Nat) : Int)))]) (liveOf 26) 0 (R18m) ((stOf (runCode Try.prog (orc []) (liveOf 26) 0 (Q16m) (s26o rs i j cs x true))))))) [pB .add 3 (.tmp 47) (.const (.int .i64 1)) (.int .i64 ((i : Nat) : Int)) (.int .i64 (1)) (iA ((i + 1 : Nat) : Int))] (by kernel_rfl) (by kernel_rfl) (allc (hAdd _ _ _ _ _ _ (by simp) ⟨by omega, by omega⟩) allnil) ?_
    exact q _ (by rw [if_neg (by decide)]; kernel_rfl)
def wrongs (con : Rp → Rp → Bool) (rs : List Rp) (k : Nat) : List Int := ((rs.take k).filter fun x => rs.any fun y => con x y).map (·.id)
theorem m26b {rs : List Rp} (hl : rs.length ≤ 1000000) (hf : ∀ y ∈ rs, Fit y) : Judg E26 (st26i rs) (fun out => ∃ s1 l r', ResImp r' (plainR (.tup [rowR rs, rowI (wrongR contrB rs)])) ∧ (out = .go s1 ∨ out = .ret s1) ∧ (resVals Try.prog s1 Try.f26.results.toList).bind (resOf s1) = some (r', l) ∧ ∀ p ∈ l, p) := by
  refine Judg.ofF fun B F => ?_
  refine JudgF.pre' 26 (orc []) 1 (s26j1 rs) [] (by kernel_rfl) (by kernel_rfl) allnil ?_
  refine JudgF.nilSlot 8 59 3 1 (by kernel_rfl) (by kernel_rfl) ?_
  show JudgF B F T26b _ _
  refine JudgF.for_ (ι := Nat) [5, 8, 45, 46, 47] [59] (fun i => st26j rs i (wrongs contrB rs i).length ((wrongs contrB rs i).map iA)) (fun i => rs.length - i) (fun i F' => i ≤ rs.length ∧ F' = F) (by kernel_rfl) (orc []) (liveOf 26) (s1 := s26j3 rs) (by kernel_rfl)
    (by rw [show (s26j3 rs).log = [] by kernel_rfl]; exact allnil) 0 ⟨Nat.zero_le _, rfl⟩ (by kernel_rfl) ?_
  rintro i F2 ⟨hi, rfl⟩
  have hwl : ∀ k, (wrongs contrB rs k).length ≤ rs.length := fun k => by
    unfold wrongs; rw [List.length_map]
    have h1 := List.length_filter_le (fun x => rs.any fun y => contrB x y) (rs.take k)
    rw [List.length_take] at h1; omega
  by_cases hlt : i < rs.length
  · obtain ⟨x, hx⟩ : ∃ x, rs[i]? = some x := ⟨rs[i], List.getElem?_eq_getElem hlt⟩
    refine m26b_round hx hl (by have := hwl i; omega) hf fun s' h => ⟨i + 1, ⟨by omega, rfl⟩, by omega, ?_⟩
    rw [h]
    have e : wrongs contrB rs (i + 1) = if rs.any (fun y => contrB x y) = true then wrongs contrB rs i ++ [x.id] else wrongs contrB rs i := by
      unfold wrongs
      rw [take_succ_at hx, List.filter_append]
      by_cases hc : rs.any (fun y => contrB x y) = true
      · simp [List.filter_cons, hc]
      · simp [List.filter_cons, hc]
    rw [e]
    by_cases hc : rs.any (fun y => contrB x y) = true
    · rw [if_pos hc, if_pos hc]; simp
    · rw [if_neg hc, if_neg hc]
  · obtain rfl : i = rs.length := by omega
    have hw : wrongs contrB rs rs.length = wrongR contrB rs := by unfold wrongs wrongR; rw [List.take_length]
    have hres : plainR (.tup [rowR rs, rowI (wrongR contrB rs)]) = plainR (.tup [rowR rs, .row none 1 (wrongs contrB rs rs.length).length ((wrongs contrB rs rs.length).map iA)]) := by rw [hw]; rfl
    rw [hres]
    generalize hj : (wrongs contrB rs rs.length).length = j
    generalize (wrongs contrB rs rs.length).map iA = cs
    refine JudgF.run' 26 (orc [(48, .val (bA false))]) (.exit 2 (stOf (runCode Try.prog (orc [(48, .val (bA false))]) (liveOf 26) 0 (B26b) (st26j rs rs.length j cs)))) [pB .lss 3 (.tmp 47) (.tmp 46) (.int .i64 ((rs.length : Nat) : Int)) (.int .i64 ((rs.length : Nat) : Int)) (bA false)] (by kernel_rfl) (by kernel_rfl) (allc (hLss _ _ _ _ _ _ (decide_eq_false (by omega))) allnil) ?_
    show JudgF B F2 (fK T26b) _ _
    refine JudgF.run' 26 (orc []) (.ret (stOf (runCode Try.prog (orc []) (liveOf 26) 0 (fK T26b) ((stOf (runCode Try.prog (orc [(48, .val (bA false))]) (liveOf 26) 0 (B26b) (st26j rs rs.length j cs))))))) [pB .lss 3 (.tmp 47) (.tmp 46) (.int .i64 ((rs.length : Nat) : Int)) (.int .i64 ((rs.length : Nat) : Int)) (bA false)] (by kernel_rfl) (by kernel_rfl) (allc (hLss _ _ _ _ _ _ (decide_eq_false (by omega))) allnil) ?_
    exact ⟨fin_retW (l := []) _ (by kernel_rfl) allnil (ResImp.refl _), fun k o h => h⟩
end Go.Proofs.Ytlekojbcaelpiaa

/- report.Merge and scoriaref38.Merge keep the same reports. -/
namespace Go.Proofs.Ytlekojbcaelpiaa
open Go.RowKit
theorem take_tw {α : Type} (p : α → Bool) : ∀ l : List α, l.take (l.takeWhile p).length = l.takeWhile p
  | [] => rfl
  | x :: l => by
    cases h : p x with
    | true => simp [List.takeWhile_cons, h, take_tw p l]
    | false => simp [List.takeWhile_cons, h]
theorem mem_tw {α : Type} (p : α → Bool) {x : α} : ∀ l : List α, x ∈ l.takeWhile p → p x = true
  | [], h => by simp at h
  | y :: l, h => by
    cases hp : p y with
    | true =>
      rw [List.takeWhile_cons, hp, if_pos rfl] at h
      rcases List.mem_cons.1 h with rfl | h
      · exact hp
      · exact mem_tw p l h
    | false => simp [List.takeWhile_cons, hp] at h
abbrev Srt (l : List Rp) : Prop := l.Pairwise fun x y => x.id < y.id
theorem ins_perm {out acc : List Rp} (x : Rp) (hs : Srt out) (hp : out.Perm acc) : Srt (insR out x) ∧ (insR out x).Perm (stepM acc x) := by
  have hmem : x.id ∈ acc.map (·.id) ↔ x.id ∈ out.map (·.id) := (hp.map _).symm.mem_iff
  unfold insR stepM
  cases hv : validB x with
  | false => rw [if_pos rfl, if_neg (fun h => by simp at h)]; exact ⟨hs, hp⟩
  | true =>
    rw [if_neg (by simp)]
    have hsp : out.takeWhile (fun y => decide (y.id < x.id)) ++ out.dropWhile (fun y => decide (y.id < x.id)) = out := List.takeWhile_append_dropWhile
    have htake : out.take (posR out x.id) = out.takeWhile (fun y => decide (y.id < x.id)) := take_tw _ out
    have hdrop : out.drop (posR out x.id) = out.dropWhile (fun y => decide (y.id < x.id)) := by
      have h1 := List.take_append_drop (posR out x.id) out
      rw [htake] at h1
      exact List.append_cancel_left (h1.trans hsp.symm)
    have hget : out[posR out x.id]? = (out.dropWhile (fun y => decide (y.id < x.id))).head? := by
      rw [← hdrop, List.head?_drop]
    have hlt : ∀ y ∈ out.takeWhile (fun y => decide (y.id < x.id)), y.id < x.id := fun y hy => by
      have := mem_tw _ _ hy
      simpa using this
    rw [hget, htake, hdrop]
    generalize ht : out.takeWhile (fun y => decide (y.id < x.id)) = t at *
    cases hd : out.dropWhile (fun y => decide (y.id < x.id)) with
    | nil =>
      rw [hd] at hsp
      rw [List.append_nil] at hsp
      subst hsp
      have hno : x.id ∉ t.map (·.id) := fun h => by
        obtain ⟨y, hy, he⟩ := List.mem_map.1 h
        have := hlt y hy; omega
      rw [if_neg (by simp), if_pos ⟨by simp, fun h => hno (hmem.1 h)⟩]
      exact ⟨List.pairwise_append.2 ⟨hs, List.pairwise_singleton _ _, fun a ha b hb => by simp at hb; subst hb; exact hlt a ha⟩, hp.append_right _⟩
    | cons z zs =>
      rw [hd] at hsp
      have hz : ¬ z.id < x.id := by
        have := List.head?_dropWhile_not (fun y : Rp => decide (y.id < x.id)) out
        rw [hd] at this
        simpa using this
      rw [← hsp] at hs
      obtain ⟨s1, s2, s3⟩ := List.pairwise_append.1 hs
      obtain ⟨s4, s5⟩ := List.pairwise_cons.1 s2
      simp only [List.head?_cons, Option.map_some, Option.some.injEq]
      by_cases he : z.id = x.id
      · rw [if_pos he, if_neg (fun h => h.2 (hmem.2 (by rw [← hsp]; exact List.mem_map.2 ⟨z, by simp, he⟩)))]
        exact ⟨by rw [← hsp]; exact hs, hp⟩
      · have hno : x.id ∉ out.map (·.id) := fun h => by
          obtain ⟨y, hy, e⟩ := List.mem_map.1 h
          rw [← hsp] at hy
          rcases List.mem_append.1 hy with hy | hy
          · have := hlt y hy; omega
          · rcases List.mem_cons.1 hy with rfl | hy
            · exact he e
            · have := s4 y hy; omega
        rw [if_neg he, if_pos ⟨by simp, fun h => hno (hmem.1 h)⟩]
        refine ⟨List.pairwise_append.2 ⟨s1, List.pairwise_cons.2 ⟨fun y hy => ?_, s2⟩, fun a ha b hb => ?_⟩, ?_⟩
        · rcases List.mem_cons.1 hy with rfl | hy
          · omega
          · have := s4 y hy; omega
        · rcases List.mem_cons.1 hb with rfl | hb
          · exact hlt a ha
          · exact s3 a ha b hb
        · rw [← hsp] at hp
          have h1 : (t ++ x :: z :: zs).Perm (x :: (t ++ z :: zs)) := List.perm_middle
          have h2 : (x :: (t ++ z :: zs)).Perm (x :: acc) := hp.cons x
          have h3 : (x :: acc).Perm (acc ++ [x]) := (List.perm_append_singleton x acc).symm
          exact (h1.trans h2).trans h3
theorem fold_perm (l : List Rp) : Srt (foldR l) ∧ (foldR l).Perm (firsts l) := by
  unfold foldR firsts
  suffices ∀ (l out acc : List Rp), Srt out → out.Perm acc → Srt (l.foldl insR out) ∧ (l.foldl insR out).Perm (l.foldl stepM acc) from this l [] [] List.Pairwise.nil (List.Perm.refl _)
  intro l
  induction l with
  | nil => intro out acc h k; exact ⟨h, k⟩
  | cons x l ih => intro out acc h k; have := ins_perm x h k; exact ih _ _ this.1 this.2
theorem srt_eq : ∀ {a b : List Rp}, Srt a → Srt b → a.Perm b → a = b
  | [], b, _, _, h => (List.nil_perm.1 h).symm
  | x :: a, [], _, _, h => by have := h.length_eq; simp at this
  | x :: a, y :: b, ha, hb, h => by
    obtain ⟨a1, a2⟩ := List.pairwise_cons.1 ha
    obtain ⟨b1, b2⟩ := List.pairwise_cons.1 hb
    have hx : x ∈ y :: b := h.subset (by simp)
    have hy : y ∈ x :: a := h.symm.subset (by simp)
    have e : x = y := by
      rcases List.mem_cons.1 hx with e | hx
      · exact e
      · rcases List.mem_cons.1 hy with e | hy
        · exact e.symm
        · have := a1 y hy; have := b1 x hx; omega
    subst e
    rw [srt_eq a2 b2 (List.Perm.cons_inv h)]
theorem firsts_mem {l : List Rp} {x : Rp} (h : x ∈ firsts l) : x ∈ l ∧ validB x = true := by
  unfold firsts at h
  suffices ∀ (l acc : List Rp), x ∈ l.foldl stepM acc → x ∈ acc ∨ (x ∈ l ∧ validB x = true) from by
    rcases this l [] h with h | h
    · cases h
    · exact h
  intro l
  induction l with
  | nil => intro acc h; exact .inl h
  | cons y l ih =>
    intro acc h
    rcases ih _ h with h | h
    · unfold stepM at h
      split at h
      · rename_i hc
        rcases List.mem_append.1 h with h | h
        · exact .inl h
        · simp only [List.mem_singleton] at h; subst h; exact .inr ⟨by simp, hc.1⟩
      · exact .inl h
    · exact .inr ⟨by simp [h.1], h.2⟩
theorem fold_mem {l : List Rp} {x : Rp} (h : x ∈ foldR l) : x ∈ l ∧ validB x = true := firsts_mem ((fold_perm l).2.subset h)
theorem fold_len (l : List Rp) : (foldR l).length ≤ l.length := by rw [(fold_perm l).2.length_eq]; exact firsts_len l
/-- REPORT.MERGE -/
theorem ok26 (l : List Rp) (hl : l.length ≤ 999999) (hf : ∀ r ∈ l, Fit r) : Ok Try.prog 26 [rowR l] (plainR (.tup [rowR (foldR l), rowI (wrongR contrB (foldR l))])) := by
  refine Ok.judgW Try.func26 (c := C26) rfl (by simp [Try.ntmps26]) ?_
  refine m26_first l hl hf fun B F0 mb es F inv => ?_
  have hlen : es.length ≤ 999999 := by
    have h1 := congrArg List.length inv.acc
    rw [List.length_map] at h1
    have := firsts_len l; omega
  refine m26_sort inv (by omega) fun es' hp hs => ?_
  have hperm : (es'.map (·.r)).Perm (foldR l) := ((hp.map (·.r)).trans (by rw [inv.acc])).trans (fold_perm l).2.symm
  have hnd : ((es'.map (·.r)).map (·.id)).Nodup := by
    refine ((hperm.map (·.id)).nodup_iff).2 ?_
    rw [List.nodup_iff_pairwise_ne, List.pairwise_map]
    exact (fold_perm l).1.imp fun h => by omega
  have hsr : Srt (es'.map (·.r)) := by
    rw [List.nodup_iff_pairwise_ne, List.pairwise_map, List.pairwise_map] at hnd
    show List.Pairwise _ _
    rw [List.pairwise_map]
    exact (hs.and hnd).imp fun ⟨h1, h2⟩ => by omega
  have heq := srt_eq hsr (fold_perm l).1 hperm
  have hn : es.length = (foldR l).length := by
    rw [← heq, List.length_map]; exact hp.length_eq.symm
  rw [heq, hn]
  refine Judg.clean (L := [5]) (N := []) (t := st26i (foldR l)) (by kernel_rfl) ?_
  exact m26b (by have := fold_len l; omega) fun y hy => hf y (fold_mem hy).1
end Go.Proofs.Ytlekojbcaelpiaa

/- report.read: the whole. -/
namespace Go.Proofs.Ytlekojbcaelpiaa
open Go.RowKit

noncomputable def s13 (a0 a1 a2 a3 : Int) (l2 l3 : List Int) : St := match runS Try.prog (orc []) (rOps R13) [(rOps R13)[0]!, (rOps R13)[1]!] (st44e a0 a1 a2 a3 l2 l3) with | some s => s | none => { n := 0, slots := [], objs := [], lens := [] }
def st44n (a0 a1 a3 : Int) (cu : Bool) (l2 l3 : List Int) : St := { n := 82, slots := [(2, .ptr 2 0), (9, .ptr 9 0), (63, rowI l3)], objs := [(2, (30, [iA 0, iA 0, .sc (.slice none 0 0), .sc (.slice none 0 0), bA false, iA 0])), (9, (30, [iA a0, iA a1, rowI l2, .sc (.slice none 0 0), bA cu, iA a3]))], lens := [] }
theorem nm_of' {N : List Nat} {e : Nat} {f : Nat → Option Nat} {d b : Nat} (h : (if d ∈ N then (if d = e then none else f d) else none) = some b) : d ∈ N ∧ d ≠ e ∧ f d = some b := by
  split at h
  · rename_i h1
    split at h
    · cases h
    · rename_i h2; exact ⟨h1, h2, h⟩
  · cases h
set_option maxRecDepth 100000 in
theorem read_ok (b : List Int) (a0 a1 a2 a3 : Int) (l2 l3 : List Int) (n1 n2 n3 : Nat) (hb : b.length ≤ 900000) (h1 : Ok Try.prog 61 [rowU b] (gRes 0 [a0, a1, a2, a3] n1)) (h2 : Ok Try.prog 61 [rowU (b.drop n1)] (gRes 0 l2 n2)) (h3 : Ok Try.prog 61 [rowU ((b.drop n1).drop n2)] (gRes 0 l3 n3))
    (hn1 : n1 ≤ b.length) (hn2 : n2 ≤ (b.drop n1).length) (hn3 : n3 ≤ ((b.drop n1).drop n2).length) (hl3 : l3.length ≤ 900000) (hm : l3.length % 3 = 0) :
    Ok Try.prog 44 [rowU b] (plainR (.tup [rpA ⟨a0, a1, l2, evs3 l3, (a2 == 1), a3⟩, bA true])) := Ok.mk' Try.func44 rfl fun w pr cs hp h => by
  obtain ⟨q, hq⟩ : ∃ q, l3.length = 3 * q := ⟨l3.length / 3, by omega⟩
  refine callsIn_wide.1 (callsIn_of_wp_marks (n := 5) Try.func44 (c := C44) rfl trivial (wpIn_wide.2 ?_) rfl)
  have hrel := rel_start (fn := Try.f44) (args := [rowU b]) (cs := cs) (pr := pr) (w := w) (by simp [Try.ntmps44]) hp h
  generalize hQf : bodyPostM Fence.wide 5 Try.prog Try.f44 (Post w pr (plainR (.tup [rpA ⟨a0, a1, l2, evs3 l3, (a2 == 1), a3⟩, bA true]))) = Qf
  refine wp_pre (orc []) (liveOf 44) 0 2 (s' := s44a b) (by kernel_rfl) (by rw [show (s44a b).log = [] by kernel_rfl]; exact allnil) hrel ?_
  intro γ1 c1 w1 hg1 hr1
  clear hrel h
  have e1 : post 2 C44 = .seq L44 K44 := by kernel_rfl
  rw [e1]
  refine wp_seq (wp_of_judg (Qo := fun o => ∃ s', o = .go s' ∧ clean [2, 4] [2, 4] s' = st44c [a0, a1, a2, a3] l2 l3) (read_loop b [a0, a1, a2, a3] l2 l3 n1 n2 n3 0 0 0 hb h1 (fun _ => h2) (fun _ _ => h3) (fun _ => hn1) (fun _ _ => hn2) (fun _ _ _ => hn3) (fun s' _ _ _ hs => ⟨s', rfl, hs⟩) (fun s' hn _ => absurd ⟨rfl, rfl, rfl⟩ hn)) hr1 (fun o ⟨s', e, _⟩ => ⟨s', e⟩) ?_)
  rintro s2 γ2 c2 w2 ⟨_, e, hs2⟩ hg2 hr2
  cases e
  have hr2 := hr2.cleaned hs2
  have e2 : K44 = .seq (sX K44) (.seq (sX (sY K44)) T44) := by kernel_rfl
  show (K44).wp Try.prog Qf c2 w2
  rw [e2]
  refine wp_seq (wp_of_judg (read_mid a0 a1 a2 a3 l2 l3 hm hl3) hr2 (fun o ⟨s', e, _⟩ => ⟨s', e⟩) ?_)
  rintro s3 γ3 c3 w3 ⟨_, e, J3⟩ hg3 hr3
  cases e
  show (Code.seq (sX (sY K44)) T44).wp Try.prog Qf c3 w3
  refine wp_seq (wp_of_judg J3 hr3 (fun o ⟨s', e, _⟩ => ⟨s', e⟩) ?_)
  rintro s4 γ4 c4 w4 ⟨_, e, hs4⟩ hg4 hr4
  cases e
  have hr4 := hr4.cleaned hs4
  show (T44).wp Try.prog Qf c4 w4
  have e3 : T44 = .seq (.seq R13 (.block (bI (sY (sX T44))) RF44)) (.seq R16 .ret) := by kernel_rfl
  rw [e3]
  refine wp_seq (wp_seq ?_)
  -- Chunk is called
  have e4 : R13 = .region (rId R13) (rOps R13) false := by kernel_rfl
  rw [e4]
  refine wp_region ?_
  have e5 : List.range (rOps R13).size = [0, 1] ++ [2] := by kernel_rfl
  rw [e5]
  refine ops_part (call := orc []) [0, 1] [(rOps R13)[0]!, (rOps R13)[1]!] (by kernel_rfl) (s := st44e a0 a1 a2 a3 l2 l3) (t := s13 a0 a1 a2 a3 l2 l3) (by kernel_rfl) (by rw [show (s13 a0 a1 a2 a3 l2 l3).log = [] by kernel_rfl]; exact allnil) hr4 ?_
  intro γ5 c5 w5 hg5 hr5
  have h63 : V γ5.pr w5 (c5.tmps.getD 63 undef) (rowI l3) := hr5.slot 63 (rowI l3) (by kernel_rfl)
  obtain ⟨A, cap, hA, hcap1, hcap2, hlen, hrow⟩ := id h63
  rw [wpOps_cons]
  unfold wpOp
  have ho : (rOps R13)[2]? = some (rOps R13)[2]! := by kernel_rfl
  rw [ho]
  have hw2 : Region.wanted (rOps R13)[2]! (yielded (rOps R13) c5.tmps) = true := by kernel_rfl
  simp only [hw2, if_true]
  left
  have hop : ((rOps R13)[2]!).op = .call { callee := .value (.func 62), args := #[.tmp 63, .const (.int .i64 3)], argTypes := #[22, 3] } := by kernel_rfl
  have hdst : ((rOps R13)[2]!).dst = some 64 := by kernel_rfl
  have hex : (execOp c5.eval (rOps R13)[2]!).run Try.prog w5 = (callFunc 62 #[c5.tmps.getD 63 undef, .int .i64 3]).run Try.prog w5 := by
    simp only [execOp, hop, resolve, Act.eval, Deferred.ofValue, Sem.run_bind, Sem.run_pure, Result.andThen_ok, invoke]
    simp
    exact ⟨by simp [Act.eval], by simp [Act.eval]⟩
  unfold Oper.wp
  rw [hex, run_callFunc (enters Try.func62 rfl), Oper.upon_enter, hA]
  refine (chunk_in A l3.length cap w5).mono ?_
  rintro e w6 ⟨rfl, hw6⟩
  simp only [hdst]
  have hb6 : Below w5.heap.size w5 w6 := by rw [hw6]; exact ((Below.refl _ _).alloc (Nat.le_refl _) _).alloc (by simp) _
  have hr6 : Rel γ5 w (s13 a0 a1 a2 a3 l2 l3) c5 w6 := hr5.grow_world γ5.pr hb6 (fun _ _ h => h) (fun _ _ h => .inl h)
  have hbs6 : w5.heap.size < w6.heap.size := by rw [hw6]; simp; omega
  have hbn6 : w5.heap.size + 1 < w6.heap.size := by rw [hw6]; simp
  have hsz6 : w6.heap.size = w5.heap.size + 1 + 1 := by rw [hw6]; simp
  have hBx : Boxes w5.heap.size (w5.heap.size + 1) A (3 * q) cap w6 := by
    rw [hw6]
    refine ⟨?_, ?_⟩
    · rw [Below.heap_alloc _ _ _ (by simp), heap_alloc_new, hq]
    · have := heap_alloc_new (w5.alloc (.cells #[.slice A l3.length cap] 22)) (.cells #[.int .i64 3] 3)
      simpa using this
  have hcl6 : clean [2, 9, 63] [2, 9] (s13 a0 a1 a2 a3 l2 l3) = st44n a0 a1 a3 (a2 == 1) l2 l3 := by kernel_rfl
  have hr7 := (hr6.cleaned hcl6).putAny (d := 64) (c := .func (.func 75) #[] #[.pointer (some ⟨w5.heap.size, 0, none⟩), .pointer (some ⟨w5.heap.size + 1, 0, none⟩)]) (by rfl)
  obtain ⟨c6, hc6⟩ : ∃ c6, c5.put (some 64) (.func (.func 75) #[] #[.pointer (some ⟨w5.heap.size, 0, none⟩), .pointer (some ⟨w5.heap.size + 1, 0, none⟩)]) = c6 := ⟨_, rfl⟩
  rw [hc6] at hr7
  have h64 : c6.eval (.tmp 64) = .func (.func 75) #[] #[.pointer (some ⟨w5.heap.size, 0, none⟩), .pointer (some ⟨w5.heap.size + 1, 0, none⟩)] := by
    rw [← hc6]; exact put_eval_eq (by have := hr5.size; have e : (s13 a0 a1 a2 a3 l2 l3).n = 82 := by kernel_rfl
                                      omega)
  rw [hc6]
  have hdef6 : c6.defers = [] := hr7.defers
  have hr8 := hr7.nilCell 9 3 79 71 3 (ty := 30) (xs := [iA a0, iA a1, rowI l2, .sc (.slice none 0 0), bA (a2 == 1), iA a3]) (by rfl) rfl (by rfl)
  have hr8 := (hr8.cleaned (L := [2, 9, 63]) (N := [2, 9, 79]) (t := st44r a0 a1 a3 (a2 == 1) l2 l3 0 []) (by kernel_rfl)).forget [2, 9, 79] (fun t x hx d hd => by
      simp only [st44r, look_cons] at hx
      split at hx
      · cases hx; simp [ment, ment1] at hd; simp [hd.symm]
      · split at hx
        · cases hx; simp [ment, ment1] at hd; simp [hd.symm]
        · split at hx
          · cases hx; simp [rowI, ment, ment1] at hd
          · cases hx) (fun d ty xs hx => by
      simp only [st44r, look_cons] at hx
      split at hx
      · rename_i e; cases hx; exact ⟨by simp [e.symm], fun d' h => by simp [ment1, iA, bA] at h⟩
      · split at hx
        · rename_i e; cases hx; exact ⟨by simp [e.symm], fun d' h => by simp [ment1, rowI, iA, bA] at h; simp [h.symm]⟩
        · cases hx)
  generalize hγ : ({ base := γ5.base, pr := γ5.pr, blk := fun d => if d ∈ [2, 9, 79] then (if d = 79 then none else γ5.blk d) else none, fr := γ5.fr } : Gh) = γ8 at hr8
  have hg58 : GExt γ5 γ8 := by rw [← hγ]; exact ⟨rfl, fun _ _ _ h => h, rfl⟩
  have hg08 : GExt { base := w.heap.size, pr := pr, blk := fun _ => none } γ8 := ((((hg1.trans hg2).trans hg3).trans hg4).trans hg5).trans hg58
  have hnm : Named w5.heap.size (w5.heap.size + 1) γ8 w6 := by
    refine ⟨fun d k hd => ?_, hg08.fr⟩
    have hd' := hd
    rw [← hγ] at hd'
    simp only at hd'
    obtain ⟨hm1, hd'⟩ := nm_of' hd'
    have hk := hr5.blt d k hd'.2
    refine ⟨?_, by omega, by omega, ?_⟩
    · simp only [List.mem_cons, List.not_mem_nil, or_false] at hm1; exact hm1
    · simp only [List.mem_cons, List.not_mem_nil, or_false] at hm1
      rcases hm1 with rfl | rfl | rfl
      · obtain ⟨_, b', cs', q1, _, q3, _⟩ := hr8.obj 2 _ _ (by rfl)
        rw [hd] at q1; cases q1; exact ⟨_, q3, rfl⟩
      · obtain ⟨_, b', cs', q1, _, q3, _⟩ := hr8.obj 9 _ _ (by rfl)
        rw [hd] at q1; cases q1; exact ⟨_, q3, rfl⟩
      · exact absurd rfl hd'.1
  clear hr7
  -- the range over the function
  have hb63 : 0 < q → ∃ bb off, A = some ⟨bb, off, none⟩ := fun h0 => by
    obtain ⟨bb, off, e, _⟩ := hrow (by omega); exact ⟨bb, off, e⟩
  obtain ⟨bb, off, hAq⟩ : ∃ bb off, 0 < q → A = some ⟨bb, off, none⟩ := by
    rcases Nat.eq_zero_or_pos q with h0 | h0
    · exact ⟨0, 0, fun h => by omega⟩
    · obtain ⟨bb, off, e⟩ := hb63 h0; exact ⟨bb, off, fun _ => e⟩
  show Exit.then _ _ .normal c6 w6
  show (Code.block (bI (sY (sX T44))) RF44).wp Try.prog _ c6 w6
  refine wp_block ((wpIn_wide (n := 5)).1 ?_)
  have e6 : RF44 = .rangeFunc (.tmp 64) #[65] (rfA RF44) (rfB RF44) := by kernel_rfl
  rw [e6]
  let v (x : _root_.Fin q) : Value := chunkV bb off x.1
  refine wpIn_rangeFunc_ownG (n := 5) rfl (by omega) (gf := 75) h64 trivial (fun args w => run_callFunc (enters Try.func75 rfl) args) (chunk_stops 4 w5.heap.size (w5.heap.size + 1) bb off q cap A hAq (by omega) (by omega) (by unfold maxLen at hcap2; omega) w6 hbs6 hbn6 hBx)
    (fun h k => ⟨k.1.trans h.1, k.2.trans h.2⟩) (fun W l o o' hl _ _ _ => ⟨World.putObj_heap_other (by omega), World.putObj_heap_other (by omega)⟩) (Below.refl _ _) (fun _ => rfl)
    (fun pre W => w6.heap.size ≤ W.heap.size ∧ ∃ γ, GExt γ8 γ ∧ Rel γ w (st44r a0 a1 a3 (a2 == 1) l2 l3 pre.length (evA (pre.map fun j => evAt l3 j.1))) c6 W ∧ Named w5.heap.size (w5.heap.size + 1) γ W) (fun _ _ _ => False) ?_ (fun _ _ _ _ _ h _ _ => h) ⟨Nat.le_refl _, γ8, GExt.refl γ8, hr8, hnm⟩
    (fun x => ({ tmps := c6.tmps.setIfInBounds 65 (v x), defers := [] } : Act).put (some 10) (v x)) ?assign ?body ?done ?stop
  · -- what is no cells may turn
    rintro pre W W' row ⟨hsz, γ, hg, hr, hn⟩ hgr hrw
    have hbase : γ.base ≤ w6.heap.size := by rw [hg.base]; exact hr8.base
    have hrn : ∀ d k, γ.blk d = some k → row ≠ some k := fun d k hd e => by
      obtain ⟨_, _, _, o, h1, h2⟩ := hn.nm d k hd
      obtain ⟨_, o', h3, h4⟩ := hrw k e
      rw [h1] at h3; cases h3; rw [h2] at h4; cases h4
    refine ⟨Nat.le_trans hsz hgr.size, γ, hg, hr.turned hgr (fun r e => ⟨by have := (hrw r e).1; omega, (hrw r e).2⟩) (fun d _ _ k _ hd => hrn d k hd) hrn (fun k o hk => by rw [hn.fr] at hk; cases hk), fun d k hd => ?_, hn.fr⟩
    obtain ⟨m1, m2, m3, o, h1, h2⟩ := hn.nm d k hd
    exact ⟨m1, m2, m3, o, (hgr.block k (Array.getElem?_eq_some_iff.1 h1).1 (fun e => hrn d k hd e.symm)).trans h1, h2⟩
  case assign =>
    intro l x W K hK
    have e7 : rfA RF44 = .region (rId (rfA RF44)) (rOps (rfA RF44)) false := by kernel_rfl
    rw [e7]
    refine wpIn_region ?_
    have e8 : List.range (rOps (rfA RF44)).size = [0] := by kernel_rfl
    have ho : (rOps (rfA RF44))[0]? = some (rOps (rfA RF44))[0]! := by kernel_rfl
    have hop : ((rOps (rfA RF44))[0]!).op = .assign (.tmp 65) := by kernel_rfl
    have hd : ((rOps (rfA RF44))[0]!).dst = some 10 := by kernel_rfl
    have hgd : ((rOps (rfA RF44))[0]!).guard = none := by kernel_rfl
    rw [e8]
    simp only [wpOpsIn, ho]
    have hwn : ∀ f, Region.wanted (rOps (rfA RF44))[0]! f = true := fun f => by unfold Region.wanted; rw [hgd]
    simp only [hwn, if_true]
    refine ⟨fun _ _ => trivial, ?_⟩
    rw [show (Fence.wide.inRound l).round = some l from rfl, Oper.semAt_some l _ _ (fun c hc => by rw [hop] at hc; cases hc)]
    simp only [execOp, hop, Sem.run_pure, Oper.uponIn, hd]
    have hz : ((#[65] : Array Tmp).zip #[chunkV bb off x.1]).foldl (fun t (p, v) => t.setIfInBounds p v) c6.tmps = c6.tmps.setIfInBounds 65 (v x) := by simp [v]
    have hs82 : c6.tmps.size = 82 := hr8.size
    have hev : ({ tmps := c6.tmps.setIfInBounds 65 (v x), defers := [] } : Act).eval (.tmp 65) = v x := by
      simp [Act.eval, Array.getD, hs82]
    rw [hz]
    show K (Act.put { tmps := c6.tmps.setIfInBounds 65 (v x), defers := [] } (some 10) (Act.eval { tmps := c6.tmps.setIfInBounds 65 (v x), defers := [] } (.tmp 65))) W
    rw [hev]; exact hK
  case stop => rintro D c pre W _ _ hF; exact hF.elim
  case body =>
    rintro l pre x W ⟨hsz, γ, hg, hr, hn⟩ hpl
    have e9 : rfB RF44 = .block (bI (rfB RF44)) G15 := by kernel_rfl
    rw [e9]
    refine wpIn_block ?_
    obtain ⟨p, hp'⟩ : ∃ p, l3[3 * x.1]? = some p := ⟨l3[3 * x.1]'(by have := x.2; omega), List.getElem?_eq_getElem (by have := x.2; omega)⟩
    obtain ⟨k, hk'⟩ : ∃ k, l3[3 * x.1 + 1]? = some k := ⟨l3[3 * x.1 + 1]'(by have := x.2; omega), List.getElem?_eq_getElem (by have := x.2; omega)⟩
    obtain ⟨m, hm'⟩ : ∃ m, l3[3 * x.1 + 2]? = some m := ⟨l3[3 * x.1 + 2]'(by have := x.2; omega), List.getElem?_eq_getElem (by have := x.2; omega)⟩
    have hev : evAt l3 x.1 = ⟨p, k, m⟩ := by simp [evAt, List.getD, hp', hk', hm']
    have hes : evA ((pre ++ [x]).map fun j => evAt l3 j.1) = evA (pre.map fun j => evAt l3 j.1) ++ [iA p, iA k, iA m] := by
      rw [List.map_append, evA_append, List.map_singleton, hev]; rfl
    have hlen' : (pre ++ [x]).length = pre.length + 1 := by simp
    have h63' : c6.tmps.getD 63 undef = .slice A l3.length cap := by rw [← hc6, put_same (fun e he => by cases he; omega)]; exact hA
    have hxl := x.2
    have hAs := hAq (by omega)
    have hV63 : V γ.pr W (c6.tmps.getD 63 undef) (rowI l3) := hr.slot 63 (rowI l3) (by rfl)
    rw [h63', hAs] at hV63
    obtain ⟨_, _, ec, _, _, _, hrow'⟩ := hV63
    cases ec
    obtain ⟨_, _, eb, hVC⟩ := hrow' (by omega)
    cases eb
    have at1 : ∀ i y, l3[i]? = some y → ∃ u, W.cell? ⟨bb, off + i, none⟩ = some u ∧ γ.pr bb (off + i) ∧ u.oneCell' = true ∧ V γ.pr W u (iA y) := fun i y hy => hVC.at_ (by rw [List.getElem?_map, hy]; rfl)
    have hchunk : V γ.pr W (v x) (.row none 1 3 [iA p, iA k, iA m]) := by
      refine ⟨some ⟨bb, off + 3 * x.1, none⟩, 3, rfl, Nat.le_refl _, by simp [maxLen], rfl, fun _ => ⟨bb, off + 3 * x.1, rfl, at1 _ _ hp', ?_, ?_, trivial⟩⟩
      · have := at1 _ _ hk'; rw [← Nat.add_assoc] at this; exact this
      · have := at1 _ _ hm'; rw [show off + (3 * x.1 + 2) = off + 3 * x.1 + 1 + 1 by omega] at this; exact this
    have ea : ({ tmps := c6.tmps.setIfInBounds 65 (v x), defers := [] } : Act) = c6.put (some 65) (v x) := by
      simp only [Act.put, hdef6]
    have hra : Rel γ w (st44s a0 a1 a3 (a2 == 1) l2 l3 pre.length (evA (pre.map fun j => evAt l3 j.1)) p k m) (({ tmps := c6.tmps.setIfInBounds 65 (v x), defers := [] } : Act).put (some 10) (v x)) W := by
      rw [ea]
      exact (hr.putAny (d := 65) (by rfl)).put (dst := some 10) (x := .row none 1 3 [iA p, iA k, iA m]) (by rfl) hchunk
    refine read_round a0 a1 a3 (a2 == 1) l2 l3 (γ := γ) (w0 := w) (a3' := c6) (j := pre.length) (p := p) (k := k) (m := m) hr hn (by omega) (by omega) (by omega) hra ?_ (fun _ _ h => h) ?_
    · intro t ht
      rw [put_same (fun e he => by cases he; rcases ht with rfl | rfl | rfl <;> decide), ea, put_same (fun e he => by cases he; rcases ht with rfl | rfl | rfl <;> decide)]
    · rintro a' W' hkf hkp ⟨γ', hg', hr', hn'⟩
      refine ⟨⟨hkf.size, fun k o _ => hkf.same k o (Nat.zero_le _)⟩, hkp, Nat.le_trans hsz hkf.size, γ', hg.trans hg', ?_, hn'⟩
      rw [hlen', hes]; exact hr'
  case done =>
    rintro D xs W hD rfl ⟨hsz, γ, hg, hr, hn⟩ hK
    rw [hdef6]
    show (Code.seq R16 .ret).wp Try.prog Qf { c6 with defers := [{ target := .collected D, args := #[] }] } W
    have hlq : (List.finRange q).length = q := by simp
    rw [evs3_map q l3 hq, hlq] at hr
    have hevl : (evs3 l3).length = q := by rw [evs3_length]; omega
    have hnD : ∀ d, γ.blk d ≠ some D := fun d hd => by
      obtain ⟨_, _, _, o, h1, h2⟩ := hn.nm d D hd
      rw [hK] at h1; cases h1; cases h2
    have hrf := hr.freeze (fun k => if k = D then some (.deferred (some [])) else none) (fun k o hk => by
      split at hk
      · rename_i e; subst e; cases hk; exact ⟨hK, hnD⟩
      · cases hk)
    have e10 : R16 = .region (rId R16) (rOps R16) false := by kernel_rfl
    have hrowE : AV.row none 3 q (evA (evs3 l3)) = rowE (evs3 l3) := by unfold rowE; rw [hevl]
    have hrpA : rpA ⟨a0, a1, l2, evs3 l3, (a2 == 1), a3⟩ = .agg [iA a0, iA a1, rowI l2, .row none 3 q (evA (evs3 l3)), bA (a2 == 1), iA a3] := by rw [hrowE]; rfl
    rw [hrpA] at hQf
    generalize evA (evs3 l3) = es at hrf hQf
    generalize (a2 == 1) = cu at hrf hQf
    have hops : wpOps Try.prog (rOps R16) (fun e a' w' => e = .normal ∧ ∃ γ', GExt { γ with fr := fun k => if k = D then some (.deferred (some [])) else none } γ' ∧ Rel γ' w (s44u a0 a1 a3 cu l2 l3 q es) a' w') (List.range (rOps R16).size) c6 W :=
      ops_sound (call := orc []) (List.range (rOps R16).size) (rOps R16).toList (by kernel_rfl) (by kernel_rfl) (by rw [show (s44u a0 a1 a3 cu l2 l3 q es).log = [] by kernel_rfl]; exact allnil) hrf (fun γ' a' w' hg hr => ⟨rfl, γ', hg, hr⟩)
    rw [e10]
    refine wp_seq (wp_mono (wp_region (ops_defers [{ target := .collected D, args := #[] }] (fun i o ho => List.all_eq_true.1 (show (rOps R16).toList.all noRow = true by kernel_rfl) o (by rw [Array.mem_toList_iff]; exact Array.mem_of_getElem? ho)) (fun a w h => by cases h.1) _ _ _ hops)) ?_)
    rintro e a' w' ⟨b5, rfl, rfl, γ', hg', hr'⟩
    show Code.ret.wp Try.prog Qf _ w'
    refine wp_ret ?_
    have hD' : w'.heap[D]? = some (.deferred (some [])) := (hr'.frm D (.deferred (some [])) (by rw [hg'.fr]; simp)).1
    have hnD' : ∀ d, γ'.blk d ≠ some D := (hr'.frm D (.deferred (some [])) (by rw [hg'.fr]; simp)).2
    have hbase : γ'.base = w.heap.size := by rw [hg'.base]; exact (hg08.trans hg).base
    have hr6 : Rel { γ' with fr := fun _ => none } w (s44u a0 a1 a3 cu l2 l3 q es) b5 (w'.putObj D (.deferred none)) :=
      (hr'.freeze (fun _ => none) (fun k o hk => by cases hk)).turned (row := some D) (grownBy_putObj' w' D _) (fun r e => by cases e; exact ⟨by show γ'.base ≤ _; rw [hbase]; have := hr8.base; have h8 : γ8.base = w.heap.size := hg08.base; omega, _, hD', rfl⟩)
        (fun d _ _ k _ hd e => by cases e; exact hnD' d hd) (fun d k hd e => by cases e; exact hnD' d hd) (fun k o hk => by cases hk)
    have hgf : GExt { base := w.heap.size, pr := pr, blk := fun _ => none } { γ' with fr := fun _ => none } := ⟨hbase, fun b i hb hp => (hg08.trans hg).old b i hb (hg'.old b i (by show b < γ.base; rw [(hg08.trans hg).base]; exact hb) hp), rfl⟩
    obtain ⟨_, v', hv', hpost⟩ := results_fin (fn := Try.f44) (r := plainR (.tup [.agg [iA a0, iA a1, rowI l2, .row none 3 q es, bA cu, iA a3], bA true])) (l' := []) (by kernel_rfl) allnil hgf hr6
    rw [← hQf]
    exact ⟨by simp, .inl ⟨D, _, rfl, run_takeDeferred hD', v', hv', hpost⟩⟩
end Go.Proofs.Ytlekojbcaelpiaa

/- bytes.Equal, bytes.HasPrefix, report.Cut. -/
namespace Go.Proofs.Ytlekojbcaelpiaa
open Go.RowKit
def strOf (l : List Int) : ByteArray := l.foldl (fun r n => r.push (UInt8.ofNat n.toNat)) ByteArray.empty
theorem strOf_data (l : List Int) : (strOf l).data.toList = l.map fun n => UInt8.ofNat n.toNat := by
  have key : ∀ (l : List Int) (s : ByteArray), (l.foldl (fun r n => r.push (UInt8.ofNat n.toNat)) s).data.toList = s.data.toList ++ l.map fun n => UInt8.ofNat n.toNat := by
    intro l
    induction l with
    | nil => intro s; simp
    | cons n l ih => intro s; simp only [List.foldl_cons, ih, List.map_cons]; simp [ByteArray.push]
  exact (key l ByteArray.empty).trans (by simp [ByteArray.empty, ByteArray.emptyWithCapacity]; rfl)
theorem strOf_inj {a b : List Int} (ha : U8s a) (hb : U8s b) (h : strOf a = strOf b) : a = b := by
  have h' : a.map (fun n => UInt8.ofNat n.toNat) = b.map (fun n => UInt8.ofNat n.toNat) := by rw [← strOf_data, ← strOf_data, h]
  refine List.ext_getElem? fun i => ?_
  have hi := congrArg (fun l : List UInt8 => l[i]?) h'
  simp only [List.getElem?_map] at hi
  cases hx : a[i]? with
  | none => cases hy : b[i]? with
    | none => rfl
    | some y => rw [hx, hy] at hi; simp at hi
  | some x => cases hy : b[i]? with
    | none => rw [hx, hy] at hi; simp at hi
    | some y =>
      rw [hx, hy] at hi
      simp only [Option.map_some, Option.some.injEq] at hi
      have e := congrArg UInt8.toNat hi
      simp only [UInt8.toNat_ofNat'] at e
      have h1 := ha.at_ hx
      have h2 := hb.at_ hy
      unfold U8 at h1 h2
      congr 1; omega
theorem bytes_inj' {a b : ByteArray} (h : a.data.toList = b.data.toList) : a = b := by
  obtain ⟨⟨x⟩⟩ := a
  obtain ⟨⟨y⟩⟩ := b
  cases h; rfl
theorem convert_str {w : World} {B n c : Nat} {A : Option Addr} {l : List Int} (hl : l.length = n) (hr : Reads w B 1 A n (byts l)) : (convert 34 9 (.slice A n c)).run Try.prog w = .ok (.string (strOf l)) w := by
  rw [run_convert_bytes_string w 34 9 5 A n c Try.underlying34 Try.underlying5 Try.underlying9]
  rcases A with _ | ad
  · have hn : n = 0 := by
      rcases Nat.eq_zero_or_pos n with h | h
      · exact h
      · obtain ⟨_, h, _⟩ := hr.2 h; cases h
    have : l = [] := List.eq_nil_of_length_eq_zero (by omega)
    subst this
    rfl
  · refine run_bytesToString w ad n c l ?_
    have hb : (byts l).length = n := by rw [byts_length]; exact hl
    have := run_loadCells_list (P := Try.prog) w ad (byts l) (fun j v hj => by
      have h0 : 0 < n := by have := (List.getElem?_eq_some_iff.1 hj).1; omega
      obtain ⟨ad', e, _, hc⟩ := hr.2 h0
      cases e; exact hc j v hj)
    rw [hb] at this
    exact this
set_option maxRecDepth 100000 in
set_option maxHeartbeats 1000000 in
theorem equal63 (A1 A2 : Option Addr) (c1 c2 B : Nat) (a b : List Int) (w : World) (ha : U8s a) (hb : U8s b) (hr1 : Reads w B 1 A1 a.length (byts a)) (hr2 : Reads w B 1 A2 b.length (byts b)) :
    Calls Try.prog 63 #[.slice A1 a.length c1, .slice A2 b.length c2] w fun e w' => e = .returned (.bool (eqI a b)) ∧ w = w' := by
  have hq1 := convert_str (c := c1) rfl hr1
  have hq2 := convert_str (c := c2) rfl hr2
  have he : ((strOf a).toList == (strOf b).toList) = eqI a b := by
    rw [ByteArray.toList_eq, ByteArray.toList_eq, strOf_data, strOf_data]
    unfold eqI
    by_cases h : a = b
    · subst h; simp
    · have : ¬ a.map (fun n => UInt8.ofNat n.toNat) = b.map (fun n => UInt8.ofNat n.toNat) := fun hh => h (strOf_inj ha hb (bytes_inj' (by rw [strOf_data, strOf_data, hh])))
      rw [decide_eq_false h]
      exact beq_eq_false_iff_ne.2 this
  have E := Lib.hid he
  clear hr1 hr2 ha hb he
  generalize strOf a = s1 at hq1 hq2 E
  generalize strOf b = s2 at hq1 hq2 E
  go_enter Try.func63, Try.ntmps63
  go_wp2
  go_ret
  exact ⟨ret_bool E.out, rfl⟩
theorem ok63 (a b : List Int) (ha : U8s a) (hb : U8s b) : Ok Try.prog 63 [rowU a, rowU b] (plainR (bA (eqI a b))) := Ok.mk' Try.func63 rfl fun w pr cs hp h => by
  obtain ⟨c, d, rfl, h1, h2⟩ := vl2 h
  obtain ⟨A, ca, rfl, _, _, r1⟩ := rowU_reads h1
  obtain ⟨A2, ca2, rfl, _, _, r2⟩ := rowU_reads h2
  refine (equal63 A A2 ca ca2 _ a b w ha hb r1 r2).mono ?_
  rintro e w' ⟨rfl, rfl⟩
  exact post_sc hp (Below.refl _ _)
theorem ok38 (n lo hi : Int) : Ok Try.prog 38 [iA n, iA lo, iA hi] (plainR (bA (withinB n lo hi))) := Ok.mk' Try.func38 rfl fun w pr cs hp h => by
  simp only [VL] at h
  obtain ⟨c, _, rfl, h1, d, _, rfl, h2, e, _, rfl, h3, rfl⟩ := h
  have e1 : c = .int .i64 n := h1
  have e2 : d = .int .i64 lo := h2
  have e3 : e = .int .i64 hi := h3
  subst e1; subst e2; subst e3
  refine (within_any n lo hi w).mono ?_
  rintro e w' ⟨rfl, rfl⟩
  exact post_sc hp (Below.refl _ _)
/-- the one begins with the other -/
def preB (a b : List Int) : Bool := decide (b.length ≤ a.length) && eqI (a.take b.length) b

theorem pre_no (a b : List Int) (h : ¬ b.length ≤ a.length) : Ok Try.prog 45 [rowU a, rowU b] (plainR (bA false)) := by
  exact Ok.run' 45 (orc [(9, .val (bA false))]) Try.func45 [pB .geq 3 (.tmp 6) (.tmp 8) (.int .i64 (a.length)) (.int .i64 (b.length)) (bA false)] (by kernel_rfl) (allc (hGeq _ _ _ _ _ _ (decide_eq_false (by omega))) allnil)

theorem pre_yes (a b : List Int) (v : Bool) (h : b.length ≤ a.length) (h6 : Ok Try.prog 63 [rowU (a.take b.length), rowU b] (plainR (bA v))) : Ok Try.prog 45 [rowU a, rowU b] (plainR (bA v)) := by
  exact Ok.run' 45 (orcC [(16, plainR (bA v))] [(9, .val (bA true)), (14, .val (rowU (a.take b.length)))]) Try.func45 [Ok Try.prog 63 [rowU (a.take b.length), rowU b] (plainR (bA v)), cmdSlice Try.prog 34 (rowU a) none (some (iA b.length)) none = some (.val (rowU (a.take b.length))), pB .geq 3 (.tmp 6) (.tmp 8) (.int .i64 (a.length)) (.int .i64 (b.length)) (bA true)] (by kernel_rfl) (allc (h6) (allc (by rw [← rowU_take a b.length h]; exact el34.slHi (rowOf_row _ _ _ _) h) (allc (hGeq _ _ _ _ _ _ (decide_eq_true (by omega))) allnil)))

theorem ok45 (a b : List Int) (ha : U8s a) (hb : U8s b) : Ok Try.prog 45 [rowU a, rowU b] (plainR (bA (preB a b))) := by
  unfold preB
  by_cases h : b.length ≤ a.length
  · have := pre_yes a b _ h (ok63 (a.take b.length) b (fun x hx => ha x (List.mem_of_mem_take hx)) hb)
    simpa [h] using this
  · have := pre_no a b h
    simpa [h] using this

theorem cutb_no (id ver en : Int) (args : List Int) (es : List Ev) (ev : Int) (ha : args.length ≤ 1000000) (he : es.length ≤ 1000000) (h : withinB ev 0 es.length = false) : Ok Try.prog 34 [iA id, iA ver, rowI args, outA es en, iA ev] (plainR (rpA ⟨id, ver, args, es, false, en⟩)) := by
  exact Ok.run' 34 (orcC [(15, ownI args), (18, ownE es), (26, plainR (bA false))] []) Try.func34 [Ok Try.prog 38 [iA ev, iA 0, iA es.length] (plainR (bA false)), Ok Try.prog 49 [rowE es] (ownE es), Ok Try.prog 48 [rowI args] (ownI args)] (by kernel_rfl) (allc (by rw [← h]; exact ok38 _ _ _) (allc (ok49 es he) (allc (ok48 args ha) allnil)))

theorem cutb_yes (id ver en : Int) (args : List Int) (es : List Ev) (k : Nat) (ha : args.length ≤ 1000000) (he : es.length ≤ 1000000) (h : withinB k 0 es.length = true) (hk : k ≤ es.length) : Ok Try.prog 34 [iA id, iA ver, rowI args, outA es en, iA k] (plainR (rpA ⟨id, ver, args, es.take k, true, 0⟩)) := by
  exact Ok.run' 34 (orcC [(15, ownI args), (18, ownE es), (26, plainR (bA true))] [(30, .val (rowE (es.take k)))]) Try.func34 [cmdSlice Try.prog 23 (.row (some (18, 71)) 3 es.length (evA es)) none (some (iA k)) none = some (.val (rowE (es.take k))), Ok Try.prog 38 [iA k, iA 0, iA es.length] (plainR (bA true)), Ok Try.prog 49 [rowE es] (ownE es), Ok Try.prog 48 [rowI args] (ownI args)] (by kernel_rfl) (allc (by rw [← rowE_take es k hk]; exact el23.slHi (rowOf_row _ _ _ _) hk) (allc (by rw [← h]; exact ok38 _ _ _) (allc (ok49 es he) (allc (ok48 args ha) allnil))))

theorem ok34 (id ver en ev : Int) (args : List Int) (es : List Ev) (ha : args.length ≤ 1000000) (he : es.length ≤ 1000000) : Ok Try.prog 34 [iA id, iA ver, rowI args, outA es en, iA ev] (plainR (rpA (cutRef id ver args es en ev))) := by
  unfold cutRef
  by_cases h : 0 ≤ ev ∧ ev ≤ es.length
  · rw [if_pos h]
    obtain ⟨k, rfl⟩ := Int.eq_ofNat_of_zero_le h.1
    exact cutb_yes id ver en args es k ha he (by simp [withinB]; omega) (by omega)
  · rw [if_neg h]
    exact cutb_no id ver en args es ev ha he (by simp only [withinB]; exact decide_eq_false h)
end Go.Proofs.Ytlekojbcaelpiaa

/- report.read, report.Decode. -/
namespace Go.Proofs.Ytlekojbcaelpiaa
open Go.RowKit
/-- what report.read answers -/
def readR (b : List Int) : Option Rp :=
  if (getsZ b).1 ≠ 0 then none else
  match (getsZ b).2.1 with
  | [a0, a1, a2, a3] =>
    if (getsZ (b.drop (getsZ b).2.2)).1 ≠ 0 then none else
    if (getsZ ((b.drop (getsZ b).2.2).drop (getsZ (b.drop (getsZ b).2.2)).2.2)).1 ≠ 0 then none else
    if (getsZ ((b.drop (getsZ b).2.2).drop (getsZ (b.drop (getsZ b).2.2)).2.2)).2.1.length % 3 ≠ 0 then none else
    some ⟨a0, a1, (getsZ (b.drop (getsZ b).2.2)).2.1, evs3 (getsZ ((b.drop (getsZ b).2.2).drop (getsZ (b.drop (getsZ b).2.2)).2.2)).2.1, (a2 == 1), a3⟩
  | _ => none
def readA : Option Rp → AV
  | none => .tup [rpA rp0, bA false]
  | some r => .tup [rpA r, bA true]
theorem ok44 (b : List Int) (hb : b.length ≤ 900000) (hu : U8s b) : Ok Try.prog 44 [rowU b] (plainR (readA (readR b))) ∧ ∀ r, readR b = some r → Fit r := by
  have h1 := ok61 b (by omega) hu
  have f0 : ∀ {e : Int}, (e = 2 ∨ e = 3) → e ≠ 0 := fun h => by omega
  unfold getsRes at h1
  unfold readR
  rcases getsZ_form b hu with ⟨e, he, hz⟩ | ⟨l1, n1, hz, hn1, hl1, hw1⟩
  · rw [hz] at h1 ⊢
    rw [if_pos (f0 he)]
    exact ⟨read_fail b [] [] [] 0 0 0 e 0 0 hb h1 (fun h => absurd h (f0 he)) (fun h => absurd h (f0 he)) (fun h => absurd h (f0 he)) (fun h => absurd h (f0 he)) (fun h => absurd h (f0 he)) (by simp) (fun h => f0 he h.1), fun r h => by cases h⟩
  rw [hz] at h1 ⊢
  simp only [ne_eq, not_true, if_false]
  have h2 := ok61 (b.drop n1) (by simp; omega) (hu.drop n1)
  unfold getsRes at h2
  have hd1 : (b.drop n1).length = b.length - n1 := by simp
  rcases getsZ_form (b.drop n1) (hu.drop n1) with ⟨e, he, hz2⟩ | ⟨l2, n2, hz2, hn2, hl2, hw2⟩
  · rw [hz2] at h2 ⊢
    have := read_fail b l1 [] [] n1 0 0 0 e 0 hb h1 (fun _ => h2) (fun _ h => absurd h (f0 he)) (fun _ => hn1) (fun _ h => absurd h (f0 he)) (fun _ h => absurd h (f0 he)) (by simp) (fun h => f0 he h.2.1)
    simp only [f0 he, not_false_eq_true, if_true]
    split <;> exact ⟨this, fun r h => by cases h⟩
  rw [hz2] at h2 ⊢
  simp only [not_true, if_false]
  have h3 := ok61 ((b.drop n1).drop n2) (by simp; omega) ((hu.drop n1).drop n2)
  unfold getsRes at h3
  have hd2 : ((b.drop n1).drop n2).length = b.length - n1 - n2 := by simp; omega
  rcases getsZ_form ((b.drop n1).drop n2) ((hu.drop n1).drop n2) with ⟨e, he, hz3⟩ | ⟨l3, n3, hz3, hn3, hl3, hw3⟩
  · rw [hz3] at h3 ⊢
    have := read_fail b l1 l2 [] n1 n2 0 0 0 e hb h1 (fun _ => h2) (fun _ _ => h3) (fun _ => hn1) (fun _ _ => hn2) (fun _ _ h => absurd h (f0 he)) (by simp) (fun h => f0 he h.2.2.1)
    simp only [f0 he, not_false_eq_true, if_true]
    split <;> exact ⟨this, fun r h => by cases h⟩
  rw [hz3] at h3 ⊢
  simp only [not_true, if_false]
  by_cases hl4 : l1.length = 4
  case neg =>
    have := read_fail b l1 l2 l3 n1 n2 n3 0 0 0 hb h1 (fun _ => h2) (fun _ _ => h3) (fun _ => hn1) (fun _ _ => hn2) (fun _ _ _ => hn3) (by omega) (fun h => hl4 h.2.2.2.1)
    split
    · simp at hl4
    · exact ⟨this, fun r h => by cases h⟩
  obtain ⟨a0, a1, a2, a3, rfl⟩ : ∃ a0 a1 a2 a3, l1 = [a0, a1, a2, a3] := by
    match l1, hl4 with
    | [a0, a1, a2, a3], _ => exact ⟨a0, a1, a2, a3, rfl⟩
  simp only
  by_cases hm : l3.length % 3 = 0
  case neg =>
    have := read_fail b [a0, a1, a2, a3] l2 l3 n1 n2 n3 0 0 0 hb h1 (fun _ => h2) (fun _ _ => h3) (fun _ => hn1) (fun _ _ => hn2) (fun _ _ _ => hn3) (by omega) (fun h => hm h.2.2.2.2)
    rw [if_pos hm]
    exact ⟨this, fun r h => by cases h⟩
  rw [if_neg (by simpa using hm)]
  refine ⟨read_ok b a0 a1 a2 a3 l2 l3 n1 n2 n3 hb h1 h2 h3 hn1 hn2 hn3 (by omega) hm, fun r hr => ?_⟩
  cases hr
  exact ⟨by show l2.length ≤ _; omega, by show (evs3 l3).length ≤ _; rw [evs3_length]; omega, ⟨hw1 _ (by simp), hw1 _ (by simp), hw1 _ (by simp), hw2, nums_evs3 l3 hw3⟩⟩
theorem encInts_u8 (l : List Int) (h : I64s l) (hl : l.length ≤ 1000000000) : U8s (encInts l) := by
  intro x hx
  unfold encInts at hx
  rcases List.mem_append.1 hx with hx | hx
  · exact encZ_u8 _ ⟨by omega, by omega⟩ x hx
  · obtain ⟨y, hy, hx⟩ := List.mem_flatMap.1 hx
    exact encZ_u8 y (h y hy) x hx
theorem bytesR_u8 (r : Rp) (h : Fit r) : U8s (bytesR r) := by
  intro x hx
  unfold bytesR at hx
  have hla := h.la
  have hle := h.le
  rcases List.mem_append.1 hx with hx | hx
  · rcases List.mem_append.1 hx with hx | hx
    · exact encInts_u8 _ h.wf.four (by simp) x hx
    · exact encInts_u8 _ h.wf.args (by omega) x hx
  · exact encInts_u8 _ h.wf.evs (by rw [nums_length]; omega) x hx
theorem encB_u8 (r : Rp) (h : Fit r) : U8s (encB r) := by
  unfold encB
  split
  · exact bytesR_u8 r h
  · intro x hx; cases hx
theorem db_no (b : List Int) (r : Rp) (h14 : Ok Try.prog 14 [rpA r] (ownU (encB r))) (h44 : Ok Try.prog 44 [rowU b] (plainR (.tup [rpA r, bA false]))) : Ok Try.prog 17 [rowU b] (plainR (.tup [zeroA, iA 0, iA 2])) :=
  Ok.run' 17 (orcC [(10, plainR (.tup [rpA r, bA false])), (14, ownU (encB r))] []) Try.func17 [Ok Try.prog 14 [.agg [iA (r.id), iA (r.ver), rowI r.args, rowE r.events, bA (r.cut), iA (r.en)]] (ownU (encB r)), Ok Try.prog 44 [rowU b] (plainR (.tup [rpA r, bA false]))] (by kernel_rfl) (allc (h14) (allc (h44) allnil))
theorem db_nil (b : List Int) (r : Rp) (h14 : Ok Try.prog 14 [rpA r] (ownU (encB r))) (h44 : Ok Try.prog 44 [rowU b] (plainR (.tup [rpA r, bA true]))) (h : (encB r).length = 0) : Ok Try.prog 17 [rowU b] (plainR (.tup [zeroA, iA 0, iA 2])) :=
  Ok.run' 17 (orcC [(10, plainR (.tup [rpA r, bA true])), (14, ownU (encB r))] [(19, .val (bA false))]) Try.func17 [pB .gtr 3 (.tmp 18) (.const (.int .i64 0)) (.int .i64 (((encB r).length : Nat) : Int)) (.int .i64 (0)) (bA false), Ok Try.prog 14 [.agg [iA (r.id), iA (r.ver), rowI r.args, rowE r.events, bA (r.cut), iA (r.en)]] (ownU (encB r)), Ok Try.prog 44 [rowU b] (plainR (.tup [rpA r, bA true]))] (by kernel_rfl) (allc (hGtr _ _ _ _ _ _ (decide_eq_false (by omega))) (allc (h14) (allc (h44) allnil)))
theorem db_pre (b : List Int) (r : Rp) (h14 : Ok Try.prog 14 [rpA r] (ownU (encB r))) (h44 : Ok Try.prog 44 [rowU b] (plainR (.tup [rpA r, bA true]))) (h : 0 < (encB r).length) (h45 : Ok Try.prog 45 [rowU b, rowU (encB r)] (plainR (bA false))) : Ok Try.prog 17 [rowU b] (plainR (.tup [zeroA, iA 0, iA 2])) :=
  Ok.run' 17 (orcC [(10, plainR (.tup [rpA r, bA true])), (14, ownU (encB r)), (24, plainR (bA false))] [(19, .val (bA true))]) Try.func17 [Ok Try.prog 45 [rowU b, rowU (encB r)] (plainR (bA false)), pB .gtr 3 (.tmp 18) (.const (.int .i64 0)) (.int .i64 (((encB r).length : Nat) : Int)) (.int .i64 (0)) (bA true), Ok Try.prog 14 [.agg [iA (r.id), iA (r.ver), rowI r.args, rowE r.events, bA (r.cut), iA (r.en)]] (ownU (encB r)), Ok Try.prog 44 [rowU b] (plainR (.tup [rpA r, bA true]))] (by kernel_rfl) (allc (h45) (allc (hGtr _ _ _ _ _ _ (decide_eq_true (by omega))) (allc (h14) (allc (h44) allnil))))
theorem db_yes (b : List Int) (r : Rp) (h14 : Ok Try.prog 14 [rpA r] (ownU (encB r))) (h44 : Ok Try.prog 44 [rowU b] (plainR (.tup [rpA r, bA true]))) (h : 0 < (encB r).length) (h45 : Ok Try.prog 45 [rowU b, rowU (encB r)] (plainR (bA true))) : Ok Try.prog 17 [rowU b] (plainR (.tup [rpA r, iA ((encB r).length : Nat), iA 0])) :=
  Ok.run' 17 (orcC [(10, plainR (.tup [rpA r, bA true])), (14, ownU (encB r)), (24, plainR (bA true))] [(19, .val (bA true))]) Try.func17 [Ok Try.prog 45 [rowU b, rowU (encB r)] (plainR (bA true)), pB .gtr 3 (.tmp 18) (.const (.int .i64 0)) (.int .i64 (((encB r).length : Nat) : Int)) (.int .i64 (0)) (bA true), Ok Try.prog 14 [.agg [iA (r.id), iA (r.ver), rowI r.args, rowE r.events, bA (r.cut), iA (r.en)]] (ownU (encB r)), Ok Try.prog 44 [rowU b] (plainR (.tup [rpA r, bA true]))] (by kernel_rfl) (allc (h45) (allc (hGtr _ _ _ _ _ _ (decide_eq_true (by omega))) (allc (h14) (allc (h44) allnil))))
/-- what report.Decode answers -/
def decB (b : List Int) : Option (Rp × Nat) :=
  match readR b with
  | none => none
  | some r => if 0 < (encB r).length ∧ preB b (encB r) = true then some (r, (encB r).length) else none

theorem fit0 : Fit rp0 := ⟨by decide, by decide, ⟨⟨by decide, by decide⟩, ⟨by decide, by decide⟩, ⟨by decide, by decide⟩, (fun x h => by cases h), (fun x h => by cases h)⟩⟩
theorem ok17 (b : List Int) (hb : b.length ≤ 900000) (hu : U8s b) : Ok Try.prog 17 [rowU b] (plainR (decA (decB b))) := by
  obtain ⟨h44, hfit⟩ := ok44 b hb hu
  unfold decB
  cases hr : readR b with
  | none =>
    rw [hr] at h44
    exact (db_no b rp0 (ok14 rp0 fit0) h44).imp ResImp.zeroTup
  | some r =>
    rw [hr] at h44
    have hf := hfit r hr
    have h14 := ok14 r hf
    simp only
    by_cases h0 : 0 < (encB r).length
    · have h45 := ok45 b (encB r) hu (encB_u8 r hf)
      cases hp : preB b (encB r) with
      | true =>
        rw [hp] at h45
        rw [if_pos ⟨h0, rfl⟩]
        exact db_yes b r h14 h44 h0 h45
      | false =>
        rw [hp] at h45
        rw [if_neg (by simp)]
        exact (db_pre b r h14 h44 h0 h45).imp ResImp.zeroTup
    · rw [if_neg (fun h => h0 h.1)]
      exact (db_nil b r h14 h44 (by omega)).imp ResImp.zeroTup
end Go.Proofs.Ytlekojbcaelpiaa

/- scorialaw38.lives: what the chapter's example asks. -/
namespace Go.Proofs.Ytlekojbcaelpiaa
open Go.RowKit
def r7 : Rp := ⟨7, 2, [3], [⟨0, 0, 5⟩], true, 0⟩
def r8 : Rp := ⟨8, 2, [3], [], false, 1⟩
theorem i64_lit {a : Int} (h1 : -9223372036854775808 ≤ a) (h2 : a ≤ 9223372036854775807) : I64 a := ⟨h1, h2⟩
theorem fit7 : Fit r7 := ⟨by decide, by decide, ⟨⟨by decide, by decide⟩, ⟨by decide, by decide⟩, ⟨by decide, by decide⟩, (fun x h => by
  simp [r7] at h; subst h; exact i64_lit (by decide) (by decide)), (fun x h => by
  have h' : x ∈ [0, 0, 5] := h
  simp at h'; rcases h' with rfl | rfl <;> exact i64_lit (by decide) (by decide))⟩⟩
theorem fit8 : Fit r8 := ⟨by decide, by decide, ⟨⟨by decide, by decide⟩, ⟨by decide, by decide⟩, ⟨by decide, by decide⟩, (fun x h => by
  simp [r8] at h; subst h; exact i64_lit (by decide) (by decide)), (fun x h => by cases h)⟩⟩
theorem fits78 : ∀ r ∈ [r7, r8], Fit r := fun r h => by
  simp at h; rcases h with rfl | rfl
  · exact fit7
  · exact fit8
noncomputable abbrev C16 : Code := bodyOf Try.f16
noncomputable def s16a : St := stOf (runCode Try.prog (orc []) (liveOf 16) 0 (Ytlekojbcaelpiaa.pre 3 C16) (start [] 82))
def s16b : St := { n := 82, slots := [(0, bA false), (1, .ptr 1 0), (2, .ptr 2 0)], objs := [(1, (30, [iA (7), iA (2), .row none 1 (1) ([iA (3)]), .row none 3 (1) ([iA (0), iA (0), iA (5)]), bA true, iA (0)])), (2, (30, [iA (8), iA (2), .row none 1 (1) ([iA (3)]), .row (some (90, 71)) 3 (0) ([]), bA false, iA (1)]))], lens := [(90, 0)] }
theorem ok16 : Ok Try.prog 16 [] (plainR (bA true)) := by
  have h17 : Ok Try.prog 17 [.row none 1 ((encB r7).length + 1) ((encB r7).map uA ++ [uA 9])] (plainR (.tup [rpA r7, iA 19, iA 0])) := by
    have h := ok17 (encB r7 ++ [9]) (by decide) (fun x hx => by
      rcases List.mem_append.1 hx with hx | hx
      · exact encB_u8 r7 fit7 x hx
      · simp at hx; subst hx; exact ⟨by decide, by decide⟩)
    rw [show decB (encB r7 ++ [9]) = some (r7, 19) by kernel_rfl] at h
    exact h
  have h26 : Ok Try.prog 26 [rowR [r8, r7, r7]] (plainR (.tup [rowR [r7, r8], rowI [7, 8]])) := by
    have h := ok26 [r8, r7, r7] (by decide) (fun r h => by
      simp at h; rcases h with rfl | rfl
      · exact fit8
      · exact fit7)
    rw [show foldR [r8, r7, r7] = [r7, r8] by kernel_rfl, show wrongR contrB [r7, r8] = [7, 8] by kernel_rfl] at h
    exact h
  refine Ok.judgW Try.func16 (c := C16) rfl (by simp [Try.ntmps16]) ?_
  refine Judg.pre' 16 (orc []) 3 s16a [] (by kernel_rfl) (by kernel_rfl) allnil ?_
  refine Judg.nilCell 2 3 90 71 3 (ty := 30) (xs := [iA 8, iA 2, .row none 1 1 [iA 3], .sc (.slice none 0 0), bA false, iA 1]) (by kernel_rfl) (by kernel_rfl) (by kernel_rfl) ?_
  refine Judg.clean (L := [0, 1, 2]) (N := [1, 2, 90]) (t := s16b) (by kernel_rfl) ?_
  exact Judg.run' 16 (orcC [(21, ownU (encB r7)), (24, plainR (.tup [rpA r7, iA 19, iA 0])), (33, plainR (.tup [rowR [r7, r8], rowI [7, 8]])), (37, plainR (bA true)), (40, ownU (encB r7)), (55, plainR (bA true)), (60, plainR (bA true)), (67, plainR (bA false)), (75, plainR (bA true)), (80, plainR (bA true))] [(23, .grow 21 5 1 ((encB r7).length) ((encB r7).map uA) (1) ([uA (9)])), (42, .val (bA true))]) (.ret (stOf (runCode Try.prog (orcC [(21, ownU (encB r7)), (24, plainR (.tup [rpA r7, iA 19, iA 0])), (33, plainR (.tup [rowR [r7, r8], rowI [7, 8]])), (37, plainR (bA true)), (40, ownU (encB r7)), (55, plainR (bA true)), (60, plainR (bA true)), (67, plainR (bA false)), (75, plainR (bA true)), (80, plainR (bA true))] [(23, .grow 21 5 1 ((encB r7).length) ((encB r7).map uA) (1) ([uA (9)])), (42, .val (bA true))]) (liveOf 16) 0 (post 3 C16) (s16b)))) [Ok Try.prog 30 [rowI [7, 8], .row none 1 (2) ([iA (7), iA (8)])] (plainR (bA true)), Ok Try.prog 29 [rowR [r7, r8], .row none 6 (2) ([iA (7), iA (2), .row none 1 (1) ([iA (3)]), .row none 3 (1) ([iA (0), iA (0), iA (5)]), bA true, iA (0), iA (8), iA (2), .row none 1 (1) ([iA (3)]), .row none 3 (0) ([]), bA false, iA (1)])] (plainR (bA true)), Ok Try.prog 32 [.agg [iA (7), iA (2), .row none 1 (1) ([iA (3)]), .row none 3 (1) ([iA (0), iA (0), iA (5)]), bA true, iA (0)], .agg [.row none 3 (1) ([iA (0), iA (0), iA (4)]), iA (0)]] (plainR (bA false)), Ok Try.prog 32 [.agg [iA (7), iA (2), .row none 1 (1) ([iA (3)]), .row none 3 (1) ([iA (0), iA (0), iA (5)]), bA true, iA (0)], .agg [.row none 3 (2) ([iA (0), iA (0), iA (5), iA (0), iA (1), iA (0)]), iA (0)]] (plainR (bA true)), Ok Try.prog 20 [.agg [iA (r7.id), iA (r7.ver), rowI r7.args, rowE r7.events, bA (r7.cut), iA (r7.en)], .agg [iA (7), iA (2), .row none 1 (1) ([iA (3)]), .row none 3 (1) ([iA (0), iA (0), iA (5)]), bA true, iA (0)]] (plainR (bA true)), pB .eql 3 (.tmp 41) (.const (.int .i64 19)) (.int .i64 (((encB r7).length : Nat) : Int)) (.int .i64 (19)) (bA true), Ok Try.prog 14 [.agg [iA (7), iA (2), .row none 1 (1) ([iA (3)]), .row none 3 (1) ([iA (0), iA (0), iA (5)]), bA true, iA (0)]] (ownU (encB r7)), Ok Try.prog 10 [.agg [iA (7), iA (2), .row none 1 (1) ([iA (3)]), .row none 3 (1) ([iA (0), iA (0), iA (5)]), bA true, iA (0)]] (plainR (bA true)), Ok Try.prog 26 [.row none 6 (3) ([iA (8), iA (2), .row none 1 (1) ([iA (3)]), .row none 3 (0) ([]), bA false, iA (1), iA (7), iA (2), .row none 1 (1) ([iA (3)]), .row none 3 (1) ([iA (0), iA (0), iA (5)]), bA true, iA (0), iA (7), iA (2), .row none 1 (1) ([iA (3)]), .row none 3 (1) ([iA (0), iA (0), iA (5)]), bA true, iA (0)])] (plainR (.tup [rowR [r7, r8], rowI [7, 8]])), Ok Try.prog 17 [.row none 1 ((encB r7).length + 1) ((encB r7).map uA ++ [uA (9)])] (plainR (.tup [rpA r7, iA 19, iA 0])), cmdAppend Try.prog 34 34 (.row (some (21, 5)) 1 ((encB r7).length) ((encB r7).map uA)) (.row (some (22, 5)) 1 (1) ([uA (9)])) = some (.grow 21 5 1 ((encB r7).length) ((encB r7).map uA) (1) ([uA (9)])), (encB r7).length * 1 = ((encB r7).length) * 1, Ok Try.prog 14 [.agg [iA (7), iA (2), .row none 1 (1) ([iA (3)]), .row none 3 (1) ([iA (0), iA (0), iA (5)]), bA true, iA (0)]] (ownU (encB r7))] (by kernel_rfl) (by kernel_rfl) (allc (ok30 [7, 8] [7, 8] (by decide) (by decide)) (allc (ok29 [r7, r8] [r7, r8] fits78 fits78 (by decide) (by decide)) (allc (ok32 r7 [⟨0, 0, 4⟩] 0 fit7 (by decide)) (allc (ok32 r7 [⟨0, 0, 5⟩, ⟨0, 1, 0⟩] 0 fit7 (by decide)) (allc (ok20 r7 r7 fit7 fit7) (allc (hEql _ _ _ _ _ _ (by decide)) (allc (ok14 r7 fit7) (allc (ok10 r7 fit7) (allc (h26) (allc (h17) (allc (el34.grow (rowOf_row _ _ _ _) (fits_of (by decide) (by decide))) (allc (rfl) (allc (ok14 r7 fit7) allnil))))))))))))) (fin_retW (l := []) _ (by kernel_rfl) allnil (ResImp.refl _))
end Go.Proofs.Ytlekojbcaelpiaa

/- Sizes and ranges of the generated reports. -/
namespace Go.Proofs.Ytlekojbcaelpiaa
open Go.RowKit
def EvOk (e : Ev) : Prop := I64 e.p ∧ I64 e.k ∧ I64 e.n
theorem nums_ok {l : List Ev} : I64s (nums l) ↔ ∀ e ∈ l, EvOk e := by
  constructor
  · intro h e he
    have hm : ∀ x ∈ nums3 e, I64 x := fun x hx => h x (List.mem_flatMap.2 ⟨e, he, hx⟩)
    exact ⟨hm _ (by simp [nums3]), hm _ (by simp [nums3]), hm _ (by simp [nums3])⟩
  · intro h x hx
    obtain ⟨e, he, hx⟩ := List.mem_flatMap.1 hx
    obtain ⟨h1, h2, h3⟩ := h e he
    simp only [nums3, List.mem_cons, List.not_mem_nil, or_false] at hx
    rcases hx with rfl | rfl | rfl
    · exact h1
    · exact h2
    · exact h3
def Sz (na ne : Nat) (r : Rp) : Prop := r.args.length ≤ na ∧ r.events.length ≤ ne ∧ WfR r
theorem Sz.fit {na ne : Nat} {r : Rp} (h : Sz na ne r) (h1 : na ≤ 1000000) (h2 : ne ≤ 300000) : Fit r := ⟨by have := h.1; omega, by have := h.2.1; omega, h.2.2⟩
theorem Sz.mono {na ne na' ne' : Nat} {r : Rp} (h : Sz na ne r) (h1 : na ≤ na') (h2 : ne ≤ ne') : Sz na' ne' r := ⟨by have := h.1; omega, by have := h.2.1; omega, h.2.2⟩
theorem i64_small {a : Int} (h1 : -2000000 ≤ a) (h2 : a ≤ 2000000) : I64 a := ⟨by omega, by omega⟩
theorem evOf'_ok (x : Int) : EvOk (evOf' x) := by
  have h1 := aroundZ_bd x 2 (by omega) (by omega)
  have h2 := aroundZ_bd (x.tdiv 2) 3 (by omega) (by omega)
  have h3 := aroundZ_bd (x.tdiv 6) 3 (by omega) (by omega)
  exact ⟨i64_small (by show -2000000 ≤ aroundZ x 2; omega) (by show aroundZ x 2 ≤ _; omega), i64_small (by show -2000000 ≤ aroundZ (x.tdiv 2) 3; omega) (by show aroundZ (x.tdiv 2) 3 ≤ _; omega),
    i64_small (by show -2000000 ≤ aroundZ (x.tdiv 6) 3 - 1; omega) (by show aroundZ (x.tdiv 6) 3 - 1 ≤ _; omega)⟩
theorem evsOf'_ok (l : List Int) (k : Nat) : ∀ e ∈ evsOf' l k, EvOk e := fun e he => by
  obtain ⟨x, _, rfl⟩ := List.mem_map.1 he
  exact evOf'_ok x
theorem evsOf'_le (l : List Int) : (evsOf' l (min l.length 9)).length ≤ 8 := by
  unfold evsOf'
  rw [List.length_map, List.length_drop, List.length_take]; omega
theorem sz_cut {id ver en ev : Int} {args : List Int} {es : List Ev} {na ne : Nat} (h1 : I64 id) (h2 : I64 ver) (h3 : I64 en) (ha : I64s args) (he : ∀ e ∈ es, EvOk e) (hna : args.length ≤ na) (hne : es.length ≤ ne) : Sz na ne (cutRef id ver args es en ev) := by
  unfold cutRef
  split
  · exact ⟨hna, by show (es.take _).length ≤ _; rw [List.length_take]; omega, ⟨h1, h2, i64_small (by show (-2000000 : Int) ≤ 0; omega) (by show (0 : Int) ≤ _; omega), ha, nums_ok.2 fun e h => he e (List.mem_of_mem_take h)⟩⟩
  · exact ⟨hna, hne, ⟨h1, h2, h3, ha, nums_ok.2 he⟩⟩
theorem sz_one (l : List Int) : Sz 1 8 (oneR l) := by
  have a := atZ_bd l 0 9 (by omega) (by omega)
  have b := atZ_bd l 1 2 (by omega) (by omega)
  have c := atZ_bd l 2 2 (by omega) (by omega)
  have d := atZ_bd (l.drop (min l.length 4)) 0 3 (by omega) (by omega)
  exact sz_cut (i64_small (by omega) (by omega)) (i64_small (by omega) (by omega)) (i64_small (by omega) (by omega)) (fun x hx => by
    simp only [List.mem_singleton] at hx; subst hx; exact i64_small (by omega) (by omega)) (evsOf'_ok _ _) (by simp) (evsOf'_le _)
theorem evOf_ok (b : Int) : EvOk (evOf b) := by
  have h1 := aroundZ_bd b 6 (by omega) (by omega)
  have h2 := aroundZ_bd (b.tdiv 6) 5 (by omega) (by omega)
  have h3 := aroundZ_bd (b.tdiv 30) 20 (by omega) (by omega)
  exact ⟨i64_small (by show -2000000 ≤ aroundZ b 6 - 1; omega) (by show aroundZ b 6 - 1 ≤ _; omega), i64_small (by show -2000000 ≤ aroundZ (b.tdiv 6) 5 - 1; omega) (by show aroundZ (b.tdiv 6) 5 - 1 ≤ _; omega),
    i64_small (by show -2000000 ≤ aroundZ (b.tdiv 30) 20 - 10; omega) (by show aroundZ (b.tdiv 30) 20 - 10 ≤ _; omega)⟩
theorem sz_spoilt {na ne : Nat} {r : Rp} (h : Sz na ne r) (how b : Int) (hb : I64 b) : Sz (na + 1) (ne + 258) (spoiltR r how b) := by
  obtain ⟨ha, he, hw⟩ := h
  have hev := nums_ok.1 hw.evs
  have b5 := aroundZ_bd b 5 (by omega) (by omega)
  have b5' := aroundZ_lt b 5 (by omega)
  have b40 := aroundZ_bd b 40 (by omega) (by omega)
  have b20 := aroundZ_bd b 20 (by omega) (by omega)
  have b9 := aroundZ_bd b 9 (by omega) (by omega)
  have b9' := aroundZ_lt b 9 (by omega)
  have c20 := aroundZ_bd (b.tdiv 7) 20 (by omega) (by omega)
  unfold spoiltR spoiltM
  split
  · refine ⟨by show r.args.length ≤ _; omega, by show r.events.length ≤ _; omega, ⟨?_, hw.ver, hw.en, hw.args, hw.evs⟩⟩
    show I64 (([0, 1, 1048576, 1048577, b] : List Int)[(aroundZ b 5).toNat]?.getD 0)
    have k : aroundZ b 5 = 0 ∨ aroundZ b 5 = 1 ∨ aroundZ b 5 = 2 ∨ aroundZ b 5 = 3 ∨ aroundZ b 5 = 4 := by omega
    rcases k with k | k | k | k | k <;> rw [k]
    · exact i64_small (a := 0) (by decide) (by decide)
    · exact i64_small (a := 1) (by decide) (by decide)
    · exact i64_small (a := 1048576) (by decide) (by decide)
    · exact i64_small (a := 1048577) (by decide) (by decide)
    · exact hb
  split
  · exact ⟨by show r.args.length ≤ _; omega, by show r.events.length ≤ _; omega, ⟨hw.id, i64_small (a := aroundZ b 40 - 4) (by omega) (by omega), hw.en, hw.args, hw.evs⟩⟩
  split
  · exact ⟨by show (r.args ++ [_]).length ≤ _; simp; omega, by show r.events.length ≤ _; omega, ⟨hw.id, hw.ver, hw.en, fun x hx => by
      rcases List.mem_append.1 hx with hx | hx
      · exact hw.args x hx
      · simp only [List.mem_singleton] at hx; subst hx; exact i64_small (by omega) (by omega), hw.evs⟩⟩
  split
  · exact ⟨by show r.args.length ≤ _; omega, by show r.events.length ≤ _; omega, ⟨hw.id, hw.ver, hw.en, hw.args, hw.evs⟩⟩
  split
  · exact ⟨by show r.args.length ≤ _; omega, by show r.events.length ≤ _; omega, ⟨hw.id, hw.ver, i64_small (a := aroundZ b 40 - 4) (by omega) (by omega), hw.args, hw.evs⟩⟩
  split
  · exact ⟨by show r.args.length ≤ _; omega, by show (r.events ++ [_]).length ≤ _; simp; omega, ⟨hw.id, hw.ver, hw.en, hw.args, nums_ok.2 fun e h => by
      rcases List.mem_append.1 h with h | h
      · exact hev e h
      · simp only [List.mem_singleton] at h; subst h; exact evOf_ok b⟩⟩
  split
  · exact ⟨by show r.args.length ≤ _; omega, by show (r.events ++ List.replicate _ _).length ≤ _; simp; omega, ⟨hw.id, hw.ver, hw.en, hw.args, nums_ok.2 fun e h => by
      rcases List.mem_append.1 h with h | h
      · exact hev e h
      · obtain ⟨_, rfl⟩ := List.mem_replicate.1 h
        exact ⟨i64_small (by decide) (by decide), i64_small (by decide) (by decide), i64_small (by decide) (by decide)⟩⟩⟩
  split
  · rename_i e heq
    have hee := hev e (List.mem_of_getElem? heq)
    exact ⟨by show r.args.length ≤ _; omega, by show (r.events.set _ _).length ≤ _; rw [List.length_set]; omega, ⟨hw.id, hw.ver, hw.en, hw.args, nums_ok.2 fun e' h => by
      rcases List.mem_or_eq_of_mem_set h with h | rfl
      · exact hev e' h
      · exact ⟨hee.1, hee.2.1, i64_small (by show -2000000 ≤ aroundZ (b.tdiv 7) 20 - 10; omega) (by show aroundZ (b.tdiv 7) 20 - 10 ≤ _; omega)⟩⟩⟩
  · exact ⟨by omega, by omega, hw⟩
end Go.Proofs.Ytlekojbcaelpiaa

/- ReportValid: the walk. -/
namespace Go.Proofs.Ytlekojbcaelpiaa
open Go.RowKit
noncomputable abbrev C3 : Code := bodyOf Try.f3
noncomputable abbrev T3 : Code := post 4 C3
def st3a (x0 x1 x2 : Rp) : St := { n := 64, slots := [(9, .ptr 9 0), (11, .row none 6 (3) ([iA (x0.id), iA (x0.ver), rowI x0.args, rowE x0.events, bA (x0.cut), iA (x0.en), iA (x1.id), iA (x1.ver), rowI x1.args, rowE x1.events, bA (x1.cut), iA (x1.en), iA (x2.id), iA (x2.ver), rowI x2.args, rowE x2.events, bA (x2.cut), iA (x2.en)]))], objs := [(9, (25, [iA (x0.id), iA (x0.ver), rowI x0.args, rowE x0.events, bA (x0.cut), iA (x0.en)]))], lens := [] }
def st3 (x0 x1 x2 : Rp) (k : Nat) : St := { n := 64, slots := [(9, .ptr 9 0), (11, .row none 6 (3) ([iA (x0.id), iA (x0.ver), rowI x0.args, rowE x0.events, bA (x0.cut), iA (x0.en), iA (x1.id), iA (x1.ver), rowI x1.args, rowE x1.events, bA (x1.cut), iA (x1.en), iA (x2.id), iA (x2.ver), rowI x2.args, rowE x2.events, bA (x2.cut), iA (x2.en)])), (12, iA ((k : Nat) : Int))], objs := [(9, (25, [iA (x0.id), iA (x0.ver), rowI x0.args, rowE x0.events, bA (x0.cut), iA (x0.en)]))], lens := [] }
noncomputable def s3b (x0 x1 x2 : Rp) : St := stOf (runCode Try.prog (orc []) (liveOf 3) 0 (fR T3) (st3a x0 x1 x2))
theorem hNeqB (t : TypeId) (x y : Operand) (a b : Bool) (v : Bool) (h : (a != b) = v) (ht : t = 4 := by rfl) : pB .neq t x y (.bool a) (.bool b) (bA v) := by
  subst h; subst ht; unfold pB; cases a <;> cases b <;> kernel_rfl
theorem hEqlB (t : TypeId) (x y : Operand) (a b : Bool) (v : Bool) (h : (a == b) = v) (ht : t = 4 := by rfl) : pB .eql t x y (.bool a) (.bool b) (bA v) := by
  subst h; subst ht; unfold pB; cases a <;> cases b <;> kernel_rfl
theorem eqI_refl (l : List Int) : eqI l l = true := by unfold eqI; exact decide_eq_true rfl
theorem law3_any (l : List Int) (b c d : Int) (x0 x1 x2 : Rp) (hb : I64 b) (h8 : Ok Try.prog 8 [rowI l] (plainR (rpA x0))) (h91 : Ok Try.prog 9 [rpA x0, iA (b), iA (c)] (plainR (rpA x1))) (h92 : Ok Try.prog 9 [rpA x1, iA (b.tdiv 8), iA (d)] (plainR (rpA x2)))
    (f0 : Fit x0) (f1 : Fit x1) (f2 : Fit x2) (e0 : (encB x0).length ≤ 100000000) (e1 : (encB x1).length ≤ 100000000) (e2 : (encB x2).length ≤ 100000000) (hv : validB x0 = true) : Ok Try.prog 3 [rowI l, iA b, iA c, iA d] (plainR (bA true)) := by
  have g0 := ok13 (encB x0) (encB x0) e0 e0
  have g1 := ok13 (encB x1) (encB x1) e1 e1
  have g2 := ok13 (encB x2) (encB x2) e2 e2
  rw [eqI_refl] at g0 g1 g2
  have h10 := ok10 x0 f0
  rw [hv] at h10
  refine Ok.judgW Try.func3 (c := C3) rfl (by simp [Try.ntmps3]) ?_
  refine Judg.pre' 3 (orcC [(14, plainR (rpA x0)), (18, plainR (rpA x1)), (25, plainR (rpA x2))] [(23, .val (iA (b.tdiv 8)))]) 4 (stOf (runCode Try.prog (orcC [(14, plainR (rpA x0)), (18, plainR (rpA x1)), (25, plainR (rpA x2))] [(23, .val (iA (b.tdiv 8)))]) (liveOf 3) 0 (Ytlekojbcaelpiaa.pre 4 C3) (start [rowI l, iA b, iA c, iA d] 64))) [Ok Try.prog 9 [.agg [iA (x1.id), iA (x1.ver), rowI x1.args, rowE x1.events, bA (x1.cut), iA (x1.en)], iA (b.tdiv 8), iA (d)] (plainR (rpA x2)), pB .quo 3 (.tmp 22) (.const (.int .i64 8)) (.int .i64 (b)) (.int .i64 (8)) (iA (b.tdiv 8)), Ok Try.prog 9 [.agg [iA (x0.id), iA (x0.ver), rowI x0.args, rowE x0.events, bA (x0.cut), iA (x0.en)], iA (b), iA (c)] (plainR (rpA x1)), Ok Try.prog 8 [rowI l] (plainR (rpA x0))] (by kernel_rfl) (by kernel_rfl) (allc (h92) (allc (hQuo _ _ _ _ _ _ (by omega) rfl (tdiv_I64 hb 8 (by omega))) (allc (h91) (allc (h8) allnil)))) ?_
  refine Judg.clean (L := [9, 11]) (N := [9]) (t := st3a x0 x1 x2) (by kernel_rfl) ?_
  refine Judg.for_ (ι := Nat) [9, 11, 12] [9] (fun k => st3 x0 x1 x2 k) (fun k => 3 - k) (fun k => k ≤ 3) (by kernel_rfl) (orc []) (liveOf 3) (s1 := s3b x0 x1 x2) (by kernel_rfl)
    (by rw [show (s3b x0 x1 x2).log = [] by kernel_rfl]; exact allnil) 0 (Nat.zero_le _) (by kernel_rfl) ?_
  intro k hk
  have hk' : k = 0 ∨ k = 1 ∨ k = 2 ∨ k = 3 := by omega
  rcases hk' with rfl | rfl | rfl | rfl
  · exact Judg.run' 3 (orcC [(35, plainR (rpA x0)), (36, plainR (bA (validB x0))), (41, plainR (bA (validB x0))), (48, plainR (rpA x0)), (49, ownU (encB x0)), (54, ownU (encB x0)), (55, plainR (bA true))] [(42, .val (bA false))]) (.go (stOf (runCode Try.prog (orcC [(35, plainR (rpA x0)), (36, plainR (bA (validB x0))), (41, plainR (bA (validB x0))), (48, plainR (rpA x0)), (49, ownU (encB x0)), (54, ownU (encB x0)), (55, plainR (bA true))] [(42, .val (bA false))]) (liveOf 3) 0 (fB T3) (st3 x0 x1 x2 0)))) [Ok Try.prog 13 [rowU (encB x0), rowU (encB x0)] (plainR (bA true)), Ok Try.prog 15 [.agg [iA (x0.id), iA (x0.ver), rowI x0.args, rowE x0.events, bA (x0.cut), iA (x0.en)]] (ownU (encB x0)), Ok Try.prog 14 [rpA x0] (ownU (encB x0)), Ok Try.prog 11 [.agg [iA (x0.id), iA (x0.ver), rowI x0.args, rowE x0.events, bA (x0.cut), iA (x0.en)]] (plainR (rpA x0)), pB .neq 4 (.tmp 36) (.tmp 41) (.bool (validB x0)) (.bool (validB x0)) (bA false), Ok Try.prog 12 [.agg [iA (x0.id), iA (x0.ver), rowI x0.args, rowE x0.events, bA (x0.cut), iA (x0.en)]] (plainR (bA (validB x0))), Ok Try.prog 10 [rpA x0] (plainR (bA (validB x0))), Ok Try.prog 11 [.agg [iA (x0.id), iA (x0.ver), rowI x0.args, rowE x0.events, bA (x0.cut), iA (x0.en)]] (plainR (rpA x0))] (by kernel_rfl) (by kernel_rfl) (allc (g0) (allc (ok15 x0 f0) (allc (ok14 x0 f0) (allc (ok11 x0) (allc (hNeqB _ _ _ _ _ _ (by simp)) (allc (ok12 x0 f0) (allc (ok10 x0 f0) (allc (ok11 x0) allnil)))))))) ⟨1, by omega, by omega, by kernel_rfl⟩
  · exact Judg.run' 3 (orcC [(35, plainR (rpA x1)), (36, plainR (bA (validB x1))), (41, plainR (bA (validB x1))), (48, plainR (rpA x1)), (49, ownU (encB x1)), (54, ownU (encB x1)), (55, plainR (bA true))] [(42, .val (bA false))]) (.go (stOf (runCode Try.prog (orcC [(35, plainR (rpA x1)), (36, plainR (bA (validB x1))), (41, plainR (bA (validB x1))), (48, plainR (rpA x1)), (49, ownU (encB x1)), (54, ownU (encB x1)), (55, plainR (bA true))] [(42, .val (bA false))]) (liveOf 3) 0 (fB T3) (st3 x0 x1 x2 1)))) [Ok Try.prog 13 [rowU (encB x1), rowU (encB x1)] (plainR (bA true)), Ok Try.prog 15 [.agg [iA (x1.id), iA (x1.ver), rowI x1.args, rowE x1.events, bA (x1.cut), iA (x1.en)]] (ownU (encB x1)), Ok Try.prog 14 [rpA x1] (ownU (encB x1)), Ok Try.prog 11 [.agg [iA (x1.id), iA (x1.ver), rowI x1.args, rowE x1.events, bA (x1.cut), iA (x1.en)]] (plainR (rpA x1)), pB .neq 4 (.tmp 36) (.tmp 41) (.bool (validB x1)) (.bool (validB x1)) (bA false), Ok Try.prog 12 [.agg [iA (x1.id), iA (x1.ver), rowI x1.args, rowE x1.events, bA (x1.cut), iA (x1.en)]] (plainR (bA (validB x1))), Ok Try.prog 10 [rpA x1] (plainR (bA (validB x1))), Ok Try.prog 11 [.agg [iA (x1.id), iA (x1.ver), rowI x1.args, rowE x1.events, bA (x1.cut), iA (x1.en)]] (plainR (rpA x1))] (by kernel_rfl) (by kernel_rfl) (allc (g1) (allc (ok15 x1 f1) (allc (ok14 x1 f1) (allc (ok11 x1) (allc (hNeqB _ _ _ _ _ _ (by simp)) (allc (ok12 x1 f1) (allc (ok10 x1 f1) (allc (ok11 x1) allnil)))))))) ⟨2, by omega, by omega, by kernel_rfl⟩
  · exact Judg.run' 3 (orcC [(35, plainR (rpA x2)), (36, plainR (bA (validB x2))), (41, plainR (bA (validB x2))), (48, plainR (rpA x2)), (49, ownU (encB x2)), (54, ownU (encB x2)), (55, plainR (bA true))] [(42, .val (bA false))]) (.go (stOf (runCode Try.prog (orcC [(35, plainR (rpA x2)), (36, plainR (bA (validB x2))), (41, plainR (bA (validB x2))), (48, plainR (rpA x2)), (49, ownU (encB x2)), (54, ownU (encB x2)), (55, plainR (bA true))] [(42, .val (bA false))]) (liveOf 3) 0 (fB T3) (st3 x0 x1 x2 2)))) [Ok Try.prog 13 [rowU (encB x2), rowU (encB x2)] (plainR (bA true)), Ok Try.prog 15 [.agg [iA (x2.id), iA (x2.ver), rowI x2.args, rowE x2.events, bA (x2.cut), iA (x2.en)]] (ownU (encB x2)), Ok Try.prog 14 [rpA x2] (ownU (encB x2)), Ok Try.prog 11 [.agg [iA (x2.id), iA (x2.ver), rowI x2.args, rowE x2.events, bA (x2.cut), iA (x2.en)]] (plainR (rpA x2)), pB .neq 4 (.tmp 36) (.tmp 41) (.bool (validB x2)) (.bool (validB x2)) (bA false), Ok Try.prog 12 [.agg [iA (x2.id), iA (x2.ver), rowI x2.args, rowE x2.events, bA (x2.cut), iA (x2.en)]] (plainR (bA (validB x2))), Ok Try.prog 10 [rpA x2] (plainR (bA (validB x2))), Ok Try.prog 11 [.agg [iA (x2.id), iA (x2.ver), rowI x2.args, rowE x2.events, bA (x2.cut), iA (x2.en)]] (plainR (rpA x2))] (by kernel_rfl) (by kernel_rfl) (allc (g2) (allc (ok15 x2 f2) (allc (ok14 x2 f2) (allc (ok11 x2) (allc (hNeqB _ _ _ _ _ _ (by simp)) (allc (ok12 x2 f2) (allc (ok10 x2 f2) (allc (ok11 x2) allnil)))))))) ⟨3, by omega, by omega, by kernel_rfl⟩
  · refine Judg.run' 3 (orc []) (.exit 0 (stOf (runCode Try.prog (orc []) (liveOf 3) 0 (fB T3) (st3 x0 x1 x2 3)))) [] (by kernel_rfl) (by kernel_rfl) allnil ?_
    show Judg (fK T3) _ _
    exact Judg.run' 3 (orcC [(59, plainR (rpA x0)), (60, plainR (bA true)), (62, plainR (bA true))] []) (.ret (stOf (runCode Try.prog (orcC [(59, plainR (rpA x0)), (60, plainR (bA true)), (62, plainR (bA true))] []) (liveOf 3) 0 (fK T3) ((stOf (runCode Try.prog (orc []) (liveOf 3) 0 (fB T3) (st3 x0 x1 x2 3))))))) [Ok Try.prog 16 [] (plainR (bA true)), Ok Try.prog 10 [rpA x0] (plainR (bA true)), Ok Try.prog 11 [.agg [iA (x0.id), iA (x0.ver), rowI x0.args, rowE x0.events, bA (x0.cut), iA (x0.en)]] (plainR (rpA x0))] (by kernel_rfl) (by kernel_rfl) (allc (ok16) (allc (h10) (allc (ok11 x0) allnil))) (fin_retW (l := []) _ (by kernel_rfl) allnil (ResImp.refl _))
end Go.Proofs.Ytlekojbcaelpiaa

/- What a law's arguments read as, and what is asked behind the call. -/
namespace Go.Proofs.Ytlekojbcaelpiaa
open Go.ChangeShapes Go.WideShapes Go.ChangeAt Go.RowKit

theorem own0 : ownKnob Try.prog.godebug = none := by kernel_rfl
theorem laidOut0 : laidOutB Try.prog = true := by kernel_rfl
abbrev pr0 (W : World) : Nat → Nat → Prop := fun b _ => b < W.heap.size
theorem pr0_lt (W : World) : ∀ b i, pr0 W b i → b < W.heap.size := fun _ _ h => h

theorem bulk_one {H : Type} (d : DataW H) : 1 ≤ Rows.uptoBulk d := by
  cases d with
  | lit l => cases l <;> simp [Rows.uptoBulk]
  | nil => simp [Rows.uptoBulk]
  | ptr d => simp [Rows.uptoBulk]
  | slice elems spare => simp [Rows.uptoBulk]
  | agg parts => simp [Rows.uptoBulk]
  | iface t d => simp [Rows.uptoBulk]
  | map entries => simp [Rows.uptoBulk]
  | held h => simp [Rows.uptoBulk]
theorem bulk_len {H : Type} (l : List (DataW H)) : l.length ≤ Rows.uptoBulkAll l := by
  induction l with
  | nil => simp [Rows.uptoBulkAll]
  | cons x r ih => have := bulk_one x; simp only [Rows.uptoBulkAll, List.length_cons]; omega
theorem bulk_slice {H : Type} (elems spare : List (DataW H)) : elems.length + 1 ≤ Rows.uptoBulk (.slice elems spare) := by
  have h1 := bulk_len elems
  simp only [Rows.uptoBulk]
  omega
section
variable {H : Type} {enc : TypeId × Value → H} {W : World} {d : DataW H} {p : List MemPlace} {v : Value}
theorem open_k {t e : TypeId} {k : IntKind} (ht : Try.prog.underlying t = some (.slice e)) (he : Try.prog.underlying e = some (.int k)) (hc : Try.prog.cellsOf e = 1) (hv : ∃ a len cap, v = .slice a len cap) (h : DataW.Trod enc Try.prog W 0 (fun _ => true) true t v d p) (hlt : ∀ x ∈ p, x.block < W.heap.size) :
    ∃ l : List Int, V (pr0 W) W v (.row none 1 l.length (l.map fun x => .sc (.int k x))) ∧ (∀ x ∈ l, (Lit.int k x).wf = true) ∧ l.length + 1 ≤ Rows.uptoBulk d := by
  obtain ⟨a0, len, cap, rfl⟩ := hv
  obtain ⟨fuel, hf⟩ := h
  rcases open_ints ht he hc hf with ⟨hcs, hx⟩ | ⟨a, len', cap', zs, hcs, _, hl, hm, hz, hx, hcell, hwz⟩
  · simp [Value.cells] at hcs
    obtain ⟨rfl, rfl, rfl⟩ := hcs
    simp only [Prod.mk.injEq] at hx
    obtain ⟨rfl, rfl⟩ := hx
    exact ⟨[], ⟨none, 0, rfl, Nat.le_refl _, by simp [maxLen], by simp, fun h => absurd h (by simp)⟩, by simp, by simp [Rows.uptoBulk]⟩
  · simp [Value.cells] at hcs
    obtain ⟨rfl, rfl, rfl⟩ := hcs
    simp only [Prod.mk.injEq] at hx
    obtain ⟨rfl, rfl⟩ := hx
    simp only [if_true] at hz
    have hlen : (zs.take len).length = len := by rw [List.length_take]; omega
    refine ⟨zs.take len, ?_, fun x hx => hwz x (List.mem_of_mem_take hx), ?_⟩
    · rw [hlen]
      refine ⟨some a, cap, rfl, hl, hm, by simp; omega, fun hpos => ?_⟩
      have h0 := hcell 0 (by omega)
      obtain ⟨b, off, spot⟩ := a
      have hspot : spot = none := by
        cases spot with
        | none => rfl
        | some s =>
          simp only [Addr.add, if_true, World.cell?, Option.isSome_some] at h0
          split at h0 <;> simp at h0
      subst hspot
      have hb : b < W.heap.size := by
        have := hlt (.cell b off) (MemPlace.mem_row.2 ⟨0, by omega, by simp⟩)
        simpa [MemPlace.block] using this
      refine ⟨b, off, rfl, VC.of_at fun i x hx => ?_⟩
      rw [List.getElem?_map] at hx
      cases hq : (zs.take len)[i]? with
      | none => rw [hq] at hx; cases hx
      | some z =>
        rw [hq] at hx; cases hx
        have hi : i < len := by have := (List.getElem?_eq_some_iff.1 hq).1; omega
        have hzi : zs.getD i 0 = z := by
          rw [List.getElem?_take, if_pos hi] at hq
          simp [List.getD, hq]
        have h2 := hcell i (by omega)
        rw [hzi, Addr.add_lit] at h2
        exact ⟨_, h2, hb, rfl, rfl⟩
    · have := bulk_slice (H := H) (lits k (zs.take len)) (lits k (zs.drop len))
      have e : (lits (H := H) k (zs.take len)).length = len := by simp [lits]; omega
      rw [hlen]; omega
theorem wf_I64 {x : Int} (h : (Lit.int .i64 x).wf = true) : I64 x := by
  have h' : (decide (IntKind.i64.min ≤ x) && decide (x ≤ IntKind.i64.max)) = true := h
  rw [Bool.and_eq_true, decide_eq_true_eq, decide_eq_true_eq] at h'
  exact h'
theorem wf_U8 {x : Int} (h : (Lit.int .u8 x).wf = true) : U8 x := by
  have h' : (decide (IntKind.u8.min ≤ x) && decide (x ≤ IntKind.u8.max)) = true := h
  rw [Bool.and_eq_true, decide_eq_true_eq, decide_eq_true_eq] at h'
  exact h'
theorem open22 (hv : ∃ a len cap, v = .slice a len cap) (h : DataW.Trod enc Try.prog W 0 (fun _ => true) true 22 v d p) (hlt : ∀ x ∈ p, x.block < W.heap.size) :
    ∃ l : List Int, V (pr0 W) W v (rowI l) ∧ I64s l ∧ l.length + 1 ≤ Rows.uptoBulk d := by
  obtain ⟨l, h1, h2, h3⟩ := open_k Try.underlying22 Try.underlying3 (by kernel_rfl) hv h hlt
  exact ⟨l, h1, fun x hx => wf_I64 (h2 x hx), h3⟩
theorem open34 (hv : ∃ a len cap, v = .slice a len cap) (h : DataW.Trod enc Try.prog W 0 (fun _ => true) true 34 v d p) (hlt : ∀ x ∈ p, x.block < W.heap.size) :
    ∃ l : List Int, V (pr0 W) W v (rowU l) ∧ U8s l ∧ l.length + 1 ≤ Rows.uptoBulk d := by
  obtain ⟨l, h1, h2, h3⟩ := open_k Try.underlying34 Try.underlying5 (by kernel_rfl) hv h hlt
  exact ⟨l, h1, fun x hx => wf_U8 (h2 x hx), h3⟩
theorem keep22 {W' : World} (h : DataW.Trod enc Try.prog W 0 (fun _ => true) true 22 v d p) (hb : Below W.heap.size W W') (hlt : ∀ x ∈ p, x.block < W.heap.size) : DataW.Trod enc Try.prog W' 0 (fun b => decide (b < W.heap.size)) true 22 v d p :=
  Below.trod laidOut0 (by kernel_rfl) (of_decide_eq_true (by kernel_rfl)) h hb hlt
theorem keep34 {W' : World} (h : DataW.Trod enc Try.prog W 0 (fun _ => true) true 34 v d p) (hb : Below W.heap.size W W') (hlt : ∀ x ∈ p, x.block < W.heap.size) : DataW.Trod enc Try.prog W' 0 (fun b => decide (b < W.heap.size)) true 34 v d p :=
  Below.trod laidOut0 (by kernel_rfl) (of_decide_eq_true (by kernel_rfl)) h hb hlt
end
end Go.Proofs.Ytlekojbcaelpiaa

/- Small facts for the laws: bounds, generated reports are valid. -/
namespace Go.Proofs.Ytlekojbcaelpiaa
open Go.ChangeShapes Go.WideShapes Go.ChangeAt Go.RowKit

theorem bound_of {H : Type} {l : List (DataW H)} (hk : Rows.uptoSmall H l = true) : Rows.uptoBulkAll l ≤ 1048576 := by
  unfold Rows.uptoSmall at hk
  rw [decide_eq_true_eq] at hk
  exact hk
theorem withinB_t {n lo hi : Int} (h1 : lo ≤ n) (h2 : n ≤ hi) : withinB n lo hi = true := decide_eq_true ⟨h1, h2⟩
theorem evB_gen (x : Int) : evB (evOf' x) = true := by
  have h1 := aroundZ_nonneg x 2 (by omega)
  have h1' := aroundZ_lt x 2 (by omega)
  have h2 := aroundZ_nonneg (x.tdiv 2) 3 (by omega)
  have h2' := aroundZ_lt (x.tdiv 2) 3 (by omega)
  have h3 := aroundZ_nonneg (x.tdiv 6) 3 (by omega)
  have h3' := aroundZ_lt (x.tdiv 6) 3 (by omega)
  unfold evB
  rw [show withinB (evOf' x).p 0 3 = true from withinB_t (by show 0 ≤ aroundZ x 2; omega) (by show aroundZ x 2 ≤ 3; omega), show withinB (evOf' x).k 0 2 = true from withinB_t (by show 0 ≤ aroundZ (x.tdiv 2) 3; omega) (by show aroundZ (x.tdiv 2) 3 ≤ 2; omega)]
  show (true && true && decide (-8 ≤ aroundZ (x.tdiv 6) 3 - 1 ∧ aroundZ (x.tdiv 6) 3 - 1 ≤ 7)) = true
  rw [decide_eq_true ⟨by omega, by omega⟩]; rfl
theorem evsB_gen (l : List Int) (k : Nat) : evsB (evsOf' l k) = true := by
  unfold evsB
  rw [List.all_eq_true]
  intro e he
  obtain ⟨x, _, rfl⟩ := List.mem_map.1 he
  exact evB_gen x
theorem atZ_rng (l : List Int) (i : Nat) (m : Int) (h : 0 < m) : 0 ≤ atZ l i m ∧ atZ l i m < m := by
  unfold atZ
  split
  · exact ⟨aroundZ_nonneg _ m h, aroundZ_lt _ m h⟩
  · omega
theorem validB_mk {r : Rp} (h1 : withinB r.id 1 1048576 = true) (h2 : withinB r.ver 0 31 = true) (h3 : r.args.length ≤ 3) (h4 : argsB r.args = true) (h5 : r.events.length ≤ 256) (h6 : evsB r.events = true) (h7 : withinB r.en 0 2 = true) (h8 : cutB r.cut r.en = true) : validB r = true := by
  unfold validB
  rw [h1, h2, decide_eq_true h3, h4, decide_eq_true h5, h6, h7, h8]; rfl
theorem valid_cut {id ver en ev : Int} {args : List Int} {es : List Ev} (h1 : 1 ≤ id ∧ id ≤ 1048576) (h2 : 0 ≤ ver ∧ ver ≤ 31) (h3 : args.length ≤ 3) (h4 : argsB args = true) (h5 : es.length ≤ 256) (h6 : evsB es = true) (h7 : 0 ≤ en ∧ en ≤ 2) : validB (cutRef id ver args es en ev) = true := by
  unfold cutRef
  split
  · refine validB_mk (withinB_t h1.1 h1.2) (withinB_t h2.1 h2.2) h3 h4 (by show (es.take _).length ≤ _; rw [List.length_take]; omega) ?_ (withinB_t (n := 0) (by decide) (by decide)) rfl
    show evsB (es.take _) = true
    unfold evsB at h6 ⊢
    rw [List.all_eq_true] at h6 ⊢
    exact fun e he => h6 e (List.mem_of_mem_take he)
  · exact validB_mk (withinB_t h1.1 h1.2) (withinB_t h2.1 h2.2) h3 h4 h5 h6 (withinB_t h7.1 h7.2) rfl
theorem valid_one (l : List Int) : validB (oneR l) = true := by
  have a := atZ_rng l 0 9 (by omega)
  have b := atZ_rng l 1 2 (by omega)
  have c := atZ_rng l 2 2 (by omega)
  have d := atZ_rng (l.drop (min l.length 4)) 0 3 (by omega)
  refine valid_cut ⟨by omega, by omega⟩ ⟨by omega, by omega⟩ (by simp) ?_ (by have := evsOf'_le (l.drop (min l.length 4)); omega) (evsB_gen _ _) ⟨by omega, by omega⟩
  show (wordB (atZ l 2 2) && true) = true
  rw [Bool.and_true]
  exact decide_eq_true ⟨by omega, by omega⟩
theorem encB_le (r : Rp) (h : Fit r) : (encB r).length ≤ 30000000 := by
  unfold encB
  split
  · exact bytesR_le r h.wf h.la h.le
  · simp
end Go.Proofs.Ytlekojbcaelpiaa
