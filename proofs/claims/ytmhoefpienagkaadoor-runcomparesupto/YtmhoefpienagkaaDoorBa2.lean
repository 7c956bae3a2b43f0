/- Contracts of the functions that the laws of scorialaw11 reach, part 2. -/
import Derived.RangeFuncWrites
import Derived.RangeFuncCalls
import Derived.OrdersIn
import Derived.TacticsIn
import Derived.Maps.Own
import Derived.Maps.Views
import Derived.WideMake
import Derived.Recover
import Derived.Test.YtmhoefpienagkaaDoorBa1
/- Operations that change places; regions, whatever order is drawn. -/
namespace Go.Proofs.YtmhoefpienagkaaDoor
open Go.RowKit

structure Eqv (s s' : St) : Prop where
  n : s.n = s'.n
  slots : ∀ t, look s.slots t = look s'.slots t
  objs : ∀ t, look s.objs t = look s'.objs t
  lens : ∀ t, look s.lens t = look s'.lens t
  absent : ∀ d, s.absent d = s'.absent d
  log : ∀ p, p ∈ s.log ↔ p ∈ s'.log
theorem Eqv.refl (s : St) : Eqv s s := ⟨rfl, fun _ => rfl, fun _ => rfl, fun _ => rfl, fun _ => rfl, fun _ => Iff.rfl⟩
theorem Eqv.symm {s s' : St} (h : Eqv s s') : Eqv s' s := ⟨h.n.symm, fun t => (h.slots t).symm, fun t => (h.objs t).symm, fun t => (h.lens t).symm, fun t => (h.absent t).symm, fun p => (h.log p).symm⟩
theorem Eqv.trans {s s' s'' : St} (h : Eqv s s') (k : Eqv s' s'') : Eqv s s'' :=
  ⟨h.n.trans k.n, fun t => (h.slots t).trans (k.slots t), fun t => (h.objs t).trans (k.objs t), fun t => (h.lens t).trans (k.lens t), fun t => (h.absent t).trans (k.absent t), fun p => (h.log p).trans (k.log p)⟩
theorem Rel.eqv {γ : Gh} {w0 w : World} {s s' : St} {a : Act} (h : Rel γ w0 s a w) (e : Eqv s s') : Rel γ w0 s' a w := by
  have h' := h.sameLens (L := s'.lens) (fun d => (e.lens d).symm)
  exact ⟨h'.size.trans e.n, h'.defers, h'.below, h'.base, fun t x hx => h'.slot t x (by simpa [e.slots t] using hx), fun d ty xs hx => h'.obj d ty xs (by simpa [e.objs d] using hx), h'.len, h'.inj, h'.blt, h'.plt, h'.frm, h'.gl⟩

theorem look_append {α : Type} : ∀ (A l : List (Nat × α)) (t : Nat), look (A ++ l) t = match look A t with | some v => some v | none => look l t
  | [], l, t => rfl
  | (k, v) :: A, l, t => by
    rw [List.cons_append, look_cons, look_cons]
    by_cases h : k = t
    · simp [h]
    · rw [if_neg h, if_neg h, look_append A l t]
theorem look_none {α : Type} {A : List (Nat × α)} {t : Nat} (h : ∀ p ∈ A, p.1 ≠ t) : look A t = none := by
  cases hl : look A t with
  | none => rfl
  | some v => exact absurd rfl (h _ (look_mem hl))
theorem look_apart {α : Type} {A B l : List (Nat × α)} (h : ∀ p ∈ A, ∀ q ∈ B, p.1 ≠ q.1) (t : Nat) : look (A ++ (B ++ l)) t = look (B ++ (A ++ l)) t := by
  rw [look_append, look_append, look_append, look_append]
  cases ha : look A t with
  | none => rfl
  | some v =>
    have : look B t = none := look_none fun q hq e => h _ (look_mem ha) q hq (by simp [e])
    rw [this]
/-- what is laid on a state -/
def St.lay (s : St) (A : List (Nat × AV)) (B : List (Nat × (Nat × List AV))) (C : List (Nat × Nat)) (D : List Prop) : St := { n := s.n, slots := A ++ s.slots, objs := B ++ s.objs, lens := C ++ s.lens, log := D ++ s.log }
theorem absent_lay (s : St) (A : List (Nat × AV)) (B : List (Nat × (Nat × List AV))) (C : List (Nat × Nat)) (D : List Prop) (d : Nat) :
    (s.lay A B C D).absent d = ((A.all (fun p => !ment d p.2) && B.all (fun p => !Nat.beq p.1 d && p.2.2.all fun x => !ment d x) && C.all fun p => !Nat.beq p.1 d) && s.absent d) := by
  simp only [St.lay, St.absent, List.all_append]
  ac_rfl

section
variable {P : Program} {call : Orc}
def cmdFor (P : Program) (call : Orc) (ops : Array Oper) (o : Oper) (s : St) : Option (Cmd × List Prop) :=
  match wants ops s o with
  | some true => match call.hint o.dst with
    | some c => some (c, [cmdOf P call s.eval o = some c])
    | none => (cmdOf P call s.eval o).map fun c => (c, [])
  | some false => some (.val (.sc undef), [])
  | none => none
def addLog (l : List Prop) (t : St) : St := { t with log := l ++ t.log }
theorem stepOp_eq {ops : Array Oper} {F : List Nat} {o : Oper} {s : St} : stepOp P call ops F o s = (cmdFor P call ops o s).bind fun p => (s.apply F o.dst p.1).map (addLog p.2) := by
  unfold stepOp cmdFor
  cases wants ops s o with
  | none => rfl
  | some b =>
    cases b with
    | true =>
      simp only
      cases call.hint o.dst with
      | some c => rfl
      | none =>
        simp only
        cases cmdOf P call s.eval o with
        | none => rfl
        | some c =>
          simp only [Option.bind_some, Option.map_some]
          cases s.apply F o.dst c <;> rfl
    | false =>
      have : avoids F (.sc undef) = true := avoids_iff.2 fun f _ => rfl
      simp only [Option.bind_some, St.apply, this]
      cases s.put o.dst (.sc undef) <;> rfl

theorem cmdOf_congr {ev ev' : Operand → AV} {o : Oper} (h : ∀ x ∈ o.op.operands, ev x = ev' x) : cmdOf P call ev o = cmdOf P call ev' o := by
  obtain ⟨dst, op, type, pos, after, guard⟩ := o
  cases op <;> simp only [cmdOf] <;> simp only [Op.operands] at h
  case move x => rw [h x (by simp)]
  case assign x => rw [h x (by simp)]
  case pick c x y => rw [h c (by simp), h x (by simp), h y (by simp)]
  case box e x => rw [h x (by simp)]
  case build t ps =>
    congr 1
    refine List.map_congr_left fun p hp => ?_
    rw [h p.2 (by simp only [List.mem_toArray, List.mem_map]; exact ⟨p, hp, rfl⟩)]
  case buildSlice t n ps =>
    congr 1
    refine List.map_congr_left fun p hp => ?_
    rw [h p.2 (by simp only [List.mem_toArray, List.mem_map]; exact ⟨p, hp, rfl⟩)]
  case load t x => rw [h x (by simp)]
  case store t x v => rw [h x (by simp), h v (by simp)]
  case fieldAddr t x k => rw [h x (by simp)]
  case field t x k => rw [h x (by simp)]
  case indexAddr t x i => rw [h x (by simp), h i (by simp)]
  case slice t x lo hg mx =>
    have h1 : lo.map ev = lo.map ev' := by cases lo with | none => rfl | some q => rw [Option.map_some, Option.map_some, h q (by simp)]
    have h2 : hg.map ev = hg.map ev' := by cases hg with | none => rfl | some q => rw [Option.map_some, Option.map_some, h q (by simp)]
    have h3 : mx.map ev = mx.map ev' := by cases mx with | none => rfl | some q => rw [Option.map_some, Option.map_some, h q (by simp)]
    rw [h x (by simp), h1, h2, h3]
  case extract x i => rw [h x (by simp)]
  case binOp op t x y u => rw [h x (by simp), h y (by simp)]
  case unOp op t x => rw [h x (by simp)]
  case convert src dst x => rw [h x (by simp)]
  case call c =>
    have h1 : c.args.toList.map ev = c.args.toList.map ev' := List.map_congr_left fun x hx => h x (by simp only [Call.operands, Array.mem_append]; exact .inr (by simpa using hx))
    unfold cmdCall
    rw [h1]
    cases hc : c.callee with
    | value f => simp only; rw [h f (by simp [Call.operands, hc])]
    | invoke r m => rfl
    | builtin b => rfl

theorem cmdFor_congr {ops : Array Oper} {o : Oper} {s s' : St} (h : ∀ t ∈ o.looksAt ops, look s'.slots t = look s.slots t) : cmdFor P call ops o s' = cmdFor P call ops o s := by
  have h1 : wants ops s' o = wants ops s o := by
    unfold wants
    cases hg : o.guard with
    | none => rfl
    | some p =>
      obtain ⟨j, want⟩ := p
      simp only
      cases ht : (ops[j]?).bind (·.dst) with
      | none => rfl
      | some t =>
        simp only
        rw [h t (by simp [Oper.looksAt, hg, ht])]
  have h2 : cmdOf P call s'.eval o = cmdOf P call s.eval o := cmdOf_congr fun x hx => by
    cases x with
    | tmp t =>
      simp only [St.eval]
      rw [h t (List.mem_append_left _ (List.mem_filterMap.2 ⟨.tmp t, by simpa using hx, rfl⟩))]
    | _ => rfl
  unfold cmdFor
  rw [h1, h2]

/-- which operations give which effects -/
theorem cmd_cls {ev : Operand → AV} {o : Oper} {c : Cmd} (h : cmdOf P call ev o = some c) :
    (c.ro ≠ none → clsOf o = .load ∨ clsOf o = .store) ∧ (c.wo ≠ none → clsOf o = .store) ∧ (c.rl ≠ none → clsOf o = .append) ∧ (c.names = true → naming o = o.dst) ∧ (c.boxes = true → naming o = o.dst) := by
  have quiet : ∀ v, c = .val v → (c.ro ≠ none → clsOf o = .load ∨ clsOf o = .store) ∧ (c.wo ≠ none → clsOf o = .store) ∧ (c.rl ≠ none → clsOf o = .append) ∧ (c.names = true → naming o = o.dst) ∧ (c.boxes = true → naming o = o.dst) := by
    rintro v rfl; simp [Cmd.ro, Cmd.wo, Cmd.rl, Cmd.names, Cmd.boxes]
  obtain ⟨dst, op, type, pos, after, guard⟩ := o
  cases op <;> simp only [cmdOf, reduceCtorEq] at h
  case move x => exact quiet _ (Option.some.inj h).symm
  case assign x => exact quiet _ (Option.some.inj h).symm
  case pick c x y =>
    split at h
    · exact quiet _ (Option.some.inj h).symm
    · cases h
  case alloc e =>
    simp only [cmdAlloc, Option.map_eq_some_iff] at h
    obtain ⟨xs, _, rfl⟩ := h
    simp [Cmd.ro, Cmd.wo, Cmd.rl, naming, clsOf]
  case box e x =>
    simp only [cmdBox, Option.map_eq_some_iff] at h
    obtain ⟨xs, _, rfl⟩ := h
    simp [Cmd.ro, Cmd.wo, Cmd.rl, naming, clsOf]
  case build t ps =>
    unfold cmdBuild at h
    split at h
    · split at h
      · simp only [Option.map_eq_some_iff] at h; obtain ⟨_, _, h⟩ := h; exact quiet _ h.symm
      · cases h
    · cases h
  case buildSlice t len ps =>
    unfold cmdBuildSlice at h
    split at h
    · split at h
      · split at h
        · simp only [Option.map_eq_some_iff] at h; obtain ⟨_, _, rfl⟩ := h
          simp [Cmd.ro, Cmd.wo, Cmd.rl, naming, clsOf]
        · cases h
      · cases h
    · cases h
  case load t x =>
    unfold cmdLoad at h
    split at h
    · cases h; simp [Cmd.wo, Cmd.rl, Cmd.names, Cmd.boxes, clsOf]
    · cases h; simp [Cmd.wo, Cmd.rl, Cmd.names, Cmd.boxes, clsOf]
    · simp only [Option.map_eq_some_iff] at h; obtain ⟨_, _, h⟩ := h; exact quiet _ h.symm
    · exact quiet _ (Option.some.inj h).symm
    · cases h
  case store t x v =>
    unfold cmdStore at h
    split at h
    · split at h
      · cases h; simp [Cmd.rl, Cmd.names, Cmd.boxes, clsOf]
      · cases h
    · cases h
  case fieldAddr t x k =>
    unfold cmdFieldAddr at h
    split at h
    · split at h <;> first | exact quiet _ (Option.some.inj h).symm | cases h
    · cases h
  case field t x k =>
    unfold cmdField at h
    split at h
    · simp only [Option.map_eq_some_iff] at h; obtain ⟨_, _, h⟩ := h; exact quiet _ h.symm
    · split at h
      · simp only [Option.map_eq_some_iff] at h; obtain ⟨_, _, h⟩ := h; exact quiet _ h.symm
      · exact quiet _ (Option.some.inj h).symm
      · cases h
    · cases h
  case indexAddr t x i =>
    unfold cmdIndexAddr at h
    split at h
    · split at h
      · exact quiet _ (Option.some.inj h).symm
      · cases h
    · split at h
      · split at h
        · exact quiet _ (Option.some.inj h).symm
        · cases h
      · cases h
    · cases h
  case slice t x lo hg mx =>
    unfold cmdSlice at h
    split at h
    case h_2 => cases h
    split at h
    case h_2 => cases h
    split at h
    · split at h
      · exact quiet _ (Option.some.inj h).symm
      · cases h
    · split at h
      · split at h
        · exact quiet _ (Option.some.inj h).symm
        · cases h
      · cases h
    · cases h
  case extract x i =>
    split at h
    · split at h
      · cases h
      · exact quiet _ (Option.some.inj h).symm
      · cases h
    · cases h
  case binOp op t x y u =>
    split at h
    · simp only [Option.map_eq_some_iff] at h; obtain ⟨_, _, h⟩ := h; exact quiet _ h.symm
    · cases h
  case unOp op t x =>
    split at h
    · simp only [Option.map_eq_some_iff] at h; obtain ⟨_, _, h⟩ := h; exact quiet _ h.symm
    · cases h
  case convert src dst' x =>
    split at h
    · simp only [Option.map_eq_some_iff] at h; obtain ⟨_, _, h⟩ := h; exact quiet _ h.symm
    · cases h
  case call c' =>
    unfold cmdCall at h
    split at h
    · rename_i b hcal
      generalize c'.args.toList.map ev = xs at h
      generalize c'.argTypes.toList = ts at h
      unfold cmdBuiltin at h
      split at h
      · unfold cmdLen at h
        split at h <;> first | (simp only [Option.map_eq_some_iff] at h; obtain ⟨_, _, h⟩ := h; exact quiet _ h.symm) | cases h
      · unfold cmdAppend at h
        split at h
        case h_2 => cases h
        split at h
        case h_2 => cases h
        split at h
        · split at h
          · cases h; simp [Cmd.ro, Cmd.wo, Cmd.names, Cmd.boxes, clsOf, hcal]
          · cases h
        · split at h
          · cases h; simp [Cmd.ro, Cmd.wo, Cmd.rl, naming, clsOf, hcal]
          · cases h
        · split at h
          · cases h; simp [Cmd.ro, Cmd.wo, Cmd.rl, naming, clsOf, hcal]
          · cases h
        · cases h
      · simp only [Option.bind_eq_some_iff, Option.map_eq_some_iff] at h; obtain ⟨_, _, _, _, h⟩ := h; exact quiet _ h.symm
      · simp only [Option.bind_eq_some_iff, Option.map_eq_some_iff] at h; obtain ⟨_, _, _, _, h⟩ := h; exact quiet _ h.symm
      · cases h
    · rename_i f hcal
      unfold cmdValue at h
      split at h
      case h_2 => cases h
      split at h
      case h_2 => cases h
      simp only [Option.map_eq_some_iff] at h
      obtain ⟨r, _, rfl⟩ := h
      simp [Cmd.ro, Cmd.wo, Cmd.rl, Cmd.boxes, naming, clsOf, hcal]
    · cases h
theorem cmdFor_cls {ops : Array Oper} {s : St} {o : Oper} {c : Cmd} {l : List Prop} (h : cmdFor P call ops o s = some (c, l)) (hl : ∀ p ∈ l, p) :
    (c.ro ≠ none → clsOf o = .load ∨ clsOf o = .store) ∧ (c.wo ≠ none → clsOf o = .store) ∧ (c.rl ≠ none → clsOf o = .append) ∧ (c.names = true → naming o = o.dst) ∧ (c.boxes = true → naming o = o.dst) := by
  unfold cmdFor at h
  split at h
  · split at h
    · rename_i c' hh
      simp only [Option.some.injEq, Prod.mk.injEq] at h
      obtain ⟨rfl, rfl⟩ := h
      exact cmd_cls (hl (cmdOf P call s.eval o = some c') (List.mem_singleton.2 rfl))
    · simp only [Option.map_eq_some_iff, Prod.mk.injEq] at h
      obtain ⟨c', h, rfl, _⟩ := h
      exact cmd_cls h
  · cases h; simp [Cmd.ro, Cmd.wo, Cmd.rl, Cmd.names, Cmd.boxes]
  · cases h

theorem addLog_lay (l : List Prop) (s : St) (A : List (Nat × AV)) (B : List (Nat × (Nat × List AV))) (C : List (Nat × Nat)) (D : List Prop) : addLog l (s.lay A B C D) = s.lay A B C (l ++ D) := by
  simp [addLog, St.lay]
theorem wo_ro {c : Cmd} {d : Nat} (h : c.wo = some d) : c.ro = some d := by cases c <;> simp [Cmd.wo, Cmd.ro] at h ⊢ <;> exact h
theorem mem_swap (a b c d e : List Prop) (p : Prop) : p ∈ (a ++ b) ++ ((c ++ d) ++ e) ↔ p ∈ c ++ (d ++ (a ++ (b ++ e))) := by
  simp only [List.mem_append]
  exact iff_of_eq (by ac_rfl)
theorem step_congr {ops : Array Oper} {F : List Nat} {o : Oper} {s s' t : St} (e : Eqv s s') (h : stepOp P call ops F o s = some t) : ∃ t', stepOp P call ops F o s' = some t' ∧ Eqv t t' := by
  rw [stepOp_eq, Option.bind_eq_some_iff] at h
  obtain ⟨⟨c, l⟩, hc, ha⟩ := h
  simp only [Option.map_eq_some_iff] at ha
  obtain ⟨t0, ha, rfl⟩ := ha
  obtain ⟨A, B, C, D, rfl, E⟩ := apply_eff ha
  have hc' : cmdFor P call ops o s' = some (c, l) := by rw [cmdFor_congr (s := s) (fun t _ => (e.slots t).symm)]; exact hc
  refine ⟨s'.lay A B C (l ++ D), ?_, ?_⟩
  · rw [stepOp_eq, hc']
    simp only [Option.bind_some]
    refine Eq.trans (congrArg (Option.map (addLog l)) (?_ : s'.apply F o.dst c = some (s'.lay A B C D))) (by rw [Option.map_some, addLog_lay])
    exact E.again s' e.n.symm (fun d _ => (e.objs d).symm) (fun d _ => (e.lens d).symm) (fun d h1 h2 => by rw [← e.absent]; exact E.abs d h1 h2)
  · refine ⟨e.n, fun t => ?_, fun t => ?_, fun t => ?_, fun d => ?_, fun p => by simp only [St.lay, addLog, List.mem_append, e.log, or_assoc]⟩
    · simp only [St.lay, addLog, look_append, e.slots]
    · simp only [St.lay, addLog, look_append, e.objs]
    · simp only [St.lay, addLog, look_append, e.lens]
    · have := absent_lay s A B C D d
      have h2 := absent_lay s' A B C D d
      rw [e.absent, ← h2] at this
      exact this

theorem commute {ops : Array Oper} {x y : Oper} {Fx Fy : List Nat} {s s1 s2 : St} (hb : beside ops x y = true) (hx : ∀ d, naming x = some d → d ∈ Fy) (hy : ∀ d, naming y = some d → d ∈ Fx)
    (h1 : stepOp P call ops Fx x s = some s1) (h2 : stepOp P call ops Fy y s1 = some s2) (hl : ∀ p ∈ s2.log, p) : ∃ s1' s2', stepOp P call ops Fy y s = some s1' ∧ stepOp P call ops Fx x s1' = some s2' ∧ Eqv s2' s2 := by
  simp only [beside, Bool.and_eq_true, Bool.not_eq_true'] at hb
  obtain ⟨hap, hcl⟩ := hb
  obtain ⟨a1, a2, a3⟩ := Oper.apart_spec hap
  rw [stepOp_eq, Option.bind_eq_some_iff] at h1 h2
  obtain ⟨⟨cx, lx'⟩, hcx, hax⟩ := h1
  obtain ⟨⟨cy, ly'⟩, hcy, hay⟩ := h2
  simp only [Option.map_eq_some_iff] at hax hay
  obtain ⟨u1, hax, rfl⟩ := hax
  obtain ⟨u2, hay, rfl⟩ := hay
  obtain ⟨Ax, Bx, Cx, Dx, rfl, Ex⟩ := apply_eff hax
  obtain ⟨Ay, By, Cy, Dy, rfl, Ey⟩ := apply_eff hay
  have kx := cmdFor_cls hcx (fun p hp => hl p (by simp [addLog, hp]))
  have ky := cmdFor_cls hcy (fun p hp => hl p (by simp [addLog, hp]))
  -- the second's command, earlier
  have hcy' : cmdFor P call ops y s = some (cy, ly') := by
    rw [← hcy]
    refine (cmdFor_congr fun t ht => ?_).symm
    simp only [addLog, look_append]
    rw [look_none (A := Ax) fun p hp e => a1 _ (Ex.keyA p hp) (e ▸ ht)]
  have nx : cx.names = true ∨ cx.boxes = true → ∀ d, x.dst = some d → d ∈ Fy := fun h d hd => hx d (h.elim (fun h => (kx.2.2.2.1 h).trans hd) (fun h => (kx.2.2.2.2 h).trans hd))
  have ny : cy.names = true ∨ cy.boxes = true → ∀ d, y.dst = some d → d ∈ Fx := fun h d hd => hy d (h.elim (fun h => (ky.2.2.2.1 h).trans hd) (fun h => (ky.2.2.2.2 h).trans hd))
  -- reading the objects and the lengths is the same before and behind the other
  have ox : ∀ d, cy.ro = some d → ∀ p ∈ Bx, p.1 ≠ d := by
    intro d hd p hp e
    rcases Ex.keyB p hp with h | ⟨h, h'⟩
    · have c1 := kx.2.1 (by rw [h]; simp)
      rcases ky.1 (by rw [hd]; simp) with c2 | c2 <;> rw [c1, c2] at hcl <;> cases hcl
    · exact Ey.rdO d hd (e ▸ nx (.inr h) _ h')
  have oy : ∀ d, cx.ro = some d → ∀ p ∈ By, p.1 ≠ d := by
    intro d hd p hp e
    rcases Ey.keyB p hp with h | ⟨h, h'⟩
    · have c1 := ky.2.1 (by rw [h]; simp)
      rcases kx.1 (by rw [hd]; simp) with c2 | c2 <;> rw [c1, c2] at hcl <;> cases hcl
    · exact Ex.rdO d hd (e ▸ ny (.inr h) _ h')
  have lx : ∀ d, cy.rl = some d → ∀ p ∈ Cx, p.1 ≠ d := by
    intro d hd p hp e
    rcases Ex.keyC p hp with h | ⟨h, h'⟩
    · have c1 := kx.2.2.1 (by rw [h]; simp)
      have c2 := ky.2.2.1 (by rw [hd]; simp)
      rw [c1, c2] at hcl; cases hcl
    · exact Ey.rdL d hd (e ▸ nx (.inl h) _ h')
  have ly : ∀ d, cx.rl = some d → ∀ p ∈ Cy, p.1 ≠ d := by
    intro d hd p hp e
    rcases Ey.keyC p hp with h | ⟨h, h'⟩
    · have c1 := ky.2.2.1 (by rw [h]; simp)
      have c2 := kx.2.2.1 (by rw [hd]; simp)
      rw [c1, c2] at hcl; cases hcl
    · exact Ex.rdL d hd (e ▸ ny (.inl h) _ h')
  have hay' : s.apply Fy y.dst cy = some (s.lay Ay By Cy Dy) := by
    refine Ey.again s rfl (fun d hd => ?_) (fun d hd => ?_) (fun d h1 h2 => ?_)
    · simp only [addLog, look_append]; rw [look_none (ox d hd)]
    · simp only [addLog, look_append]; rw [look_none (lx d hd)]
    · have := Ey.abs d h1 h2
      have e : (s.lay Ax Bx Cx Dx).absent d = true := this
      rw [absent_lay, Bool.and_eq_true] at e
      exact e.2
  have hcx' : cmdFor P call ops x (s.lay Ay By Cy (ly' ++ Dy)) = some (cx, lx') := by
    rw [← hcx]
    refine cmdFor_congr fun t ht => ?_
    simp only [St.lay, look_append]
    rw [look_none (A := Ay) fun p hp e => a3 _ (Ey.keyA p hp) (e ▸ ht)]
  have hax' : (s.lay Ay By Cy (ly' ++ Dy)).apply Fx x.dst cx = some ((s.lay Ay By Cy (ly' ++ Dy)).lay Ax Bx Cx Dx) := by
    refine Ex.again _ rfl (fun d hd => ?_) (fun d hd => ?_) (fun d h1 h2 => ?_)
    · simp only [St.lay, look_append]; rw [look_none (oy d hd)]
    · simp only [St.lay, look_append]; rw [look_none (ly d hd)]
    · rw [absent_lay, Ex.abs d h1 h2, Bool.and_true]
      have hd := nx (.inl h1) d h2
      simp only [Bool.and_eq_true, List.all_eq_true, Bool.not_eq_true']
      exact ⟨⟨fun p hp => Ey.avA d hd p hp, fun p hp => ⟨beq_false' (Ey.avB d hd p hp).1, fun z hz => (Ey.avB d hd p hp).2 z hz⟩⟩, fun p hp => beq_false' (Ey.avC d hd p hp)⟩
  have r1 : stepOp P call ops Fy y s = some (s.lay Ay By Cy (ly' ++ Dy)) := by
    rw [stepOp_eq, hcy']
    exact (congrArg (Option.map (addLog ly')) hay').trans (by rw [Option.map_some, addLog_lay])
  have r2 : stepOp P call ops Fx x (s.lay Ay By Cy (ly' ++ Dy)) = some ((s.lay Ay By Cy (ly' ++ Dy)).lay Ax Bx Cx (lx' ++ Dx)) := by
    rw [stepOp_eq, hcx']
    exact (congrArg (Option.map (addLog lx')) hax').trans (by rw [Option.map_some, addLog_lay])
  refine ⟨_, _, r1, r2, ?_⟩
  have dd : ∀ d, x.dst = some d → y.dst = some d → False := fun d h1 h2 => a2 d h1 h2
  refine ⟨rfl, fun t => ?_, fun t => ?_, fun t => ?_, fun d => ?_, fun p => mem_swap lx' Dx ly' Dy s.log p⟩
  · exact look_apart (fun p hp q hq e => dd _ (Ex.keyA p hp) (e ▸ Ey.keyA q hq)) t
  · refine look_apart (fun p hp q hq e => ?_) t
    rcases Ex.keyB p hp with h | ⟨h, h'⟩
    · have hro : cx.ro = some p.1 := wo_ro h
      exact oy _ hro q hq e.symm
    · rcases Ey.keyB q hq with k | ⟨k, k'⟩
      · have hro : cy.ro = some q.1 := wo_ro k
        exact ox _ hro p hp e
      · exact dd _ h' (e ▸ k')
  · refine look_apart (fun p hp q hq e => ?_) t
    rcases Ex.keyC p hp with h | ⟨h, h'⟩
    · exact ly _ h q hq e.symm
    · rcases Ey.keyC q hq with k | ⟨k, k'⟩
      · exact lx _ k p hp e
      · exact dd _ h' (e ▸ k')
  · exact ((absent_lay (s.lay Ay By Cy (ly' ++ Dy)) Ax Bx Cx (lx' ++ Dx) d).trans (congrArg (_ && ·) (absent_lay s Ay By Cy (ly' ++ Dy) d))).trans ((Bool.and_left_comm _ _ _).trans
      ((absent_lay (s.lay Ax Bx Cx (lx' ++ Dx)) Ay By Cy (ly' ++ Dy) d).trans (congrArg (_ && ·) (absent_lay s Ax Bx Cx (lx' ++ Dx) d))).symm)
end
end Go.Proofs.YtmhoefpienagkaaDoor

/- Regions, whatever order is drawn. -/
namespace Go.Proofs.YtmhoefpienagkaaDoor
open Go.RowKit

section
variable {γ : Gh} {w0 w : World} {s : St} {a : Act}
theorem look_map' {α β : Type} (f : α → β) : ∀ (l : List (Nat × α)) (t : Nat), look (l.map fun p => (p.1, f p.2)) t = (look l t).map f
  | [], t => rfl
  | (k, v) :: l, t => by
    rw [List.map_cons, look_cons, look_cons]
    split
    · rfl
    · exact look_map' f l t
theorem look_filter' {α : Type} (d : Nat) : ∀ (l : List (Nat × α)) (t : Nat), look (l.filter fun p => !Nat.beq p.1 d) t = if t = d then none else look l t
  | [], t => by simp [look]
  | (k, v) :: l, t => by
    rw [List.filter_cons]
    by_cases hk : k = d
    · subst hk
      simp only [Nat.beq_refl, Bool.not_true, Bool.false_eq_true, if_false]
      rw [look_filter' k l t, look_cons]
      by_cases ht : t = k
      · simp [ht]
      · simp [ht, Ne.symm ht]
    · simp only [beq_false' hk, Bool.not_false, if_true]
      rw [look_cons, look_filter' d l t, look_cons]
      by_cases ht : k = t
      · subst ht; simp [hk]
      · simp [ht]
theorem AVR1.weaken {L L' : List (Nat × Nat)} (hL : ∀ d len, look L' d = some len → look L d = some len) {c : Value} : ∀ {x : AV}, AVR1 γ L w c x → AVR1 γ L' w c x
  | .undef, h => h
  | .sc _, h => h
  | .row none .., h => h
  | .row (some (d, e)) .., h => ⟨h.1, fun len hl => h.2 len (hL d len hl)⟩
  | .mt, h => h
  | .agg _, h => h
  | .tup _, h => h
  | .rptr _, h => h
  | .ptr d off, h => ⟨h.1, by
    cases hl : look L' d with
    | none => rfl
    | some len => have := hL d len hl; rw [h.2] at this; cases this⟩
theorem AVRL.weaken {L L' : List (Nat × Nat)} (hL : ∀ d len, look L' d = some len → look L d = some len) : ∀ {xs : List AV} {cs : List Value}, AVRL γ L w cs xs → AVRL γ L' w cs xs
  | [], _, h => h
  | x :: xs, _, ⟨c, cs, e, h1, h2⟩ => ⟨c, cs, e, h1.weaken hL, AVRL.weaken hL h2⟩
theorem AVR.weaken {L L' : List (Nat × Nat)} (hL : ∀ d len, look L' d = some len → look L d = some len) {c : Value} : ∀ {x : AV}, AVR γ L w c x → AVR γ L' w c x
  | .tup _, ⟨cs, e, h⟩ => ⟨cs, e, h.weaken hL⟩
  | .undef, h => AVR1.weaken (γ := γ) (w := w) (c := c) (x := .undef) hL h
  | .sc v, h => AVR1.weaken (γ := γ) (w := w) (c := c) (x := .sc v) hL h
  | .row t s n xs, h => AVR1.weaken (γ := γ) (w := w) (c := c) (x := .row t s n xs) hL h
  | .mt, h => AVR1.weaken (γ := γ) (w := w) (c := c) (x := .mt) hL h
  | .agg xs, h => AVR1.weaken (γ := γ) (w := w) (c := c) (x := .agg xs) hL h
  | .ptr d off, h => AVR1.weaken (γ := γ) (w := w) (c := c) (x := .ptr d off) hL h
  | .rptr xs, h => AVR1.weaken (γ := γ) (w := w) (c := c) (x := .rptr xs) hL h
theorem AVR1.scr {L : List (Nat × Nat)} {c : Value} {d : Nat} {x : AV} (h : AVR1 γ L w c x) : AVR1 γ L w c (scr1 d x) := by
  unfold scr1
  split
  · exact AVR1.plain1_of h
  · exact h
where
  AVR1.plain1_of {L : List (Nat × Nat)} {c : Value} {x : AV} (h : AVR1 γ L w c x) : AVR1 γ L w c (plain1 x) := by
    cases x with
    | tup xs => exact trivial
    | undef => exact trivial
    | sc v => exact h
    | row t s n xs => exact AVR1.of_V (x := .row none s n xs) (AVR1.plain (x := .row t s n xs) h)
    | mt => exact h
    | agg xs => exact h
    | ptr d o => exact trivial
    | rptr xs => exact h
theorem Rel.scrub (h : Rel γ w0 s a w) (d : Nat) : Rel γ w0 (s.scrub d) a w := by
  have hlens : ∀ d', look (s.scrub d).lens d' = if d' = d then none else look s.lens d' := fun d' => look_filter' d s.lens d'
  have hL : ∀ d' len, look (s.scrub d).lens d' = some len → look s.lens d' = some len := fun d' len hl => by
    rw [hlens] at hl
    split at hl
    · cases hl
    · exact hl
  refine ⟨h.size, h.defers, h.below, h.base, fun t x hx => ?_, fun d' ty xs hx => ?_, fun d' len g hl hb => h.len d' len g (hL d' len hl) hb, h.inj, h.blt, h.plt, h.frm, h.gl⟩
  · have e : look (s.scrub d).slots t = (look s.slots t).map (YtmhoefpienagkaaDoor.scr d) := look_map' _ _ _
    rw [e] at hx
    simp only [Option.map_eq_some_iff] at hx
    obtain ⟨y, hy, rfl⟩ := hx
    refine (AVR.weaken hL ?_)
    unfold YtmhoefpienagkaaDoor.scr
    split
    · exact AVR_plain2 (h.slot t y hy)
    · exact h.slot t y hy
  · have e : look (s.scrub d).objs d' = (look (s.objs.filter fun p => !Nat.beq p.1 d) d').map fun q => (q.1, q.2.map (scr1 d)) := look_map' (fun q : Nat × List AV => (q.1, q.2.map (scr1 d))) _ _
    rw [e, look_filter'] at hx
    split at hx
    · cases hx
    rename_i hne
    simp only [Option.map_eq_some_iff, Prod.exists, Prod.mk.injEq] at hx
    obtain ⟨ty', ys, hy, rfl, rfl⟩ := hx
    obtain ⟨k1, b, cs, k2, k3, k4, k5, k6⟩ := h.obj d' ty' ys hy
    refine ⟨by rw [hlens, if_neg hne]; exact k1, b, cs, k2, k3, k4, AVRL.of_at (by simp [k5.length]) fun i y u hy hu => ?_, k6⟩
    simp only [List.getElem?_map, Option.map_eq_some_iff] at hy
    obtain ⟨y', hy', rfl⟩ := hy
    obtain ⟨u', q1, q2⟩ := k5.at_ hy'
    rw [hu] at q1; cases q1
    exact (q2.scr).weaken hL
where
  AVR_plain2 {L : List (Nat × Nat)} {c : Value} : ∀ {x : AV}, AVR γ L w c x → AVR γ L w c (plain x)
    | .tup xs, ⟨cs, e, h⟩ => ⟨cs, e, AVRL.of_at (by simp [h.length]) fun i y u hy hu => by
        simp only [List.getElem?_map, Option.map_eq_some_iff] at hy
        obtain ⟨y', hy', rfl⟩ := hy
        obtain ⟨u', k1, k2⟩ := h.at_ hy'
        rw [hu] at k1; cases k1
        exact AVR1.scr.AVR1.plain1_of k2⟩
    | .undef, h => h
    | .sc v, h => h
    | .row t s n xs, h => AVR.of_AVR1 (by simp [plain, plain1]) (AVR1.scr.AVR1.plain1_of (x := .row t s n xs) h)
    | .mt, h => h
    | .agg xs, h => h
    | .ptr d off, h => trivial
    | .rptr xs, h => h
end

section
variable {P : Program} {call : Orc} {ops : Array Oper}

theorem step_log {F : List Nat} {o : Oper} {s s' : St} (h : stepOp P call ops F o s = some s') : ∀ p ∈ s.log, p ∈ s'.log := by
  rw [stepOp_eq, Option.bind_eq_some_iff] at h
  obtain ⟨⟨c, l⟩, _, ha⟩ := h
  simp only [Option.map_eq_some_iff] at ha
  obtain ⟨t0, ha, rfl⟩ := ha
  obtain ⟨A, B, C, D, rfl, _⟩ := apply_eff ha
  intro p hp; simp [addLog, hp]
theorem stepS_log {o : Oper} {s s' : St} (h : stepS P call ops o s = some s') : ∀ p ∈ s.log, p ∈ s'.log := by
  unfold stepS at h
  split at h
  · rename_i hs; cases h; exact step_log hs
  · split at h
    · intro p hp; exact step_log h p hp
    · cases h
theorem runS_log : ∀ (l : List Oper) {s s' : St}, runS P call ops l s = some s' → ∀ p ∈ s.log, p ∈ s'.log
  | [], s, s', h => by simp only [runS, Option.some.injEq] at h; subst h; exact fun p hp => hp
  | o :: l, s, s', h => by
    simp only [runS, Option.bind_eq_some_iff] at h
    obtain ⟨s1, h1, h2⟩ := h
    exact fun p hp => runS_log l h2 p (stepS_log h1 p hp)
theorem runOps_log : ∀ (l : List (List Nat × Oper)) {s s' : St}, runOps P call ops l s = some s' → ∀ p ∈ s.log, p ∈ s'.log
  | [], s, s', h => by simp only [runOps, Option.some.injEq] at h; subst h; exact fun p hp => hp
  | (F, o) :: l, s, s', h => by
    simp only [runOps, Option.bind_eq_some_iff] at h
    obtain ⟨s1, h1, h2⟩ := h
    exact fun p hp => runOps_log l h2 p (step_log h1 p hp)
theorem region_log {draw : Bool} {s s' : St} (h : runRegion P call ops draw s = some s') : ∀ p ∈ s.log, p ∈ s'.log := by
  unfold runRegion at h
  split at h
  · exact runS_log _ h
  · split at h
    · exact runOps_log _ h
    · cases h

theorem runOps_congr : ∀ (l : List (List Nat × Oper)) {s s' t : St}, Eqv s s' → runOps P call ops l s = some t → ∃ t', runOps P call ops l s' = some t' ∧ Eqv t t'
  | [], s, s', t, e, h => by simp only [runOps, Option.some.injEq] at h ⊢; subst h; exact ⟨s', rfl, e⟩
  | (F, o) :: l, s, s', t, e, h => by
    simp only [runOps, Option.bind_eq_some_iff] at h ⊢
    obtain ⟨s1, h1, h2⟩ := h
    obtain ⟨s1', k1, k2⟩ := step_congr e h1
    obtain ⟨t', k3, k4⟩ := runOps_congr l k2 h2
    exact ⟨t', ⟨s1', k1, k3⟩, k4⟩

theorem move_front {o : Oper} {F : List Nat} {l2 : List (List Nat × Oper)} : ∀ (l1 : List (List Nat × Oper)) {s t : St}, (∀ p ∈ l1, beside ops p.2 o = true ∧ (∀ d, naming p.2 = some d → d ∈ F) ∧ ∀ d, naming o = some d → d ∈ p.1) →
    runOps P call ops (l1 ++ (F, o) :: l2) s = some t → (∀ p ∈ t.log, p) → ∃ s1 t', stepOp P call ops F o s = some s1 ∧ runOps P call ops (l1 ++ l2) s1 = some t' ∧ Eqv t' t
  | [], s, t, _, h, _ => by
    simp only [List.nil_append, runOps, Option.bind_eq_some_iff] at h
    obtain ⟨s1, h1, h2⟩ := h
    exact ⟨s1, t, h1, h2, Eqv.refl t⟩
  | (Fp, p) :: l1, s, t, hp, h, hlog => by
    simp only [List.cons_append, runOps, Option.bind_eq_some_iff] at h
    obtain ⟨sp, h1, h2⟩ := h
    obtain ⟨s1, t', k1, k2, k3⟩ := move_front l1 (fun q hq => hp q (List.mem_cons_of_mem _ hq)) h2 hlog
    obtain ⟨a1, a2, a3⟩ := hp (Fp, p) List.mem_cons_self
    obtain ⟨s1', s2', m1, m2, m3⟩ := commute a1 a2 a3 h1 k1 (fun q hq => hlog q ((k3.log q).1 (runOps_log _ k2 q hq)))
    obtain ⟨t'', n1, n2⟩ := runOps_congr (l1 ++ l2) m3.symm k2
    refine ⟨s1', t'', m1, ?_, n2.symm.trans k3⟩
    simp only [List.cons_append, runOps, Option.bind_eq_some_iff]
    exact ⟨s2', m2, n1⟩

variable {γ : Gh} {w0 w : World} {s t : St} {a : Act} {Q : Exit → Act → World → Prop}
theorem ops_sound : ∀ (l : List Nat) (ps : List Oper) {γ : Gh} {s : St} {a : Act} {w : World}, l.map (ops[·]?) = ps.map some → runS P call ops ps s = some t → (∀ p ∈ t.log, p) → Rel γ w0 s a w →
    (∀ γ' a' w', GExt γ γ' → Rel γ' w0 t a' w' → Q .normal a' w') → wpOps P ops Q l a w
  | [], [], γ, s, a, w, _, h, _, hrel, hQ => by
    simp only [runS, Option.some.injEq] at h; subst h
    exact hQ γ a w (GExt.refl γ) hrel
  | [], _ :: _, _, _, _, _, hl, _, _, _, _ => by simp at hl
  | _ :: _, [], _, _, _, _, hl, _, _, _, _ => by simp at hl
  | i :: l, o :: ps, γ, s, a, w, hl, h, hlog, hrel, hQ => by
    simp only [List.map_cons, List.cons.injEq] at hl
    simp only [runS, Option.bind_eq_some_iff] at h
    obtain ⟨s1, h1, h2⟩ := h
    rw [wpOps_cons]
    have fin : ∀ {γ0 : Gh} {s0 : St}, GExt γ γ0 → Rel γ0 w0 s0 a w → stepOp P call ops [] o s0 = some s1 → wpOp P ops Q i (wpOps P ops Q l) a w := fun {γ0 s0} hg hr hs =>
      step_sound hl.1 hr hs (fun p hp => hlog p (runS_log ps h2 p hp)) fun γ' a' w' e hr => ops_sound l ps hl.2 h2 hlog hr fun γ'' a'' w'' e' hr' => hQ γ'' a'' w'' ((hg.trans e).trans e') hr'
    unfold stepS at h1
    split at h1
    · rename_i hs
      cases h1
      exact fin (GExt.refl γ) hrel hs
    · split at h1
      · exact fin (GExt.refl γ) (hrel.scrub _) h1
      · cases h1

theorem has_iff {l : List Nat} {k : Nat} : has l k = true ↔ k ∈ l := by
  simp only [has, List.any_eq_true, Nat.beq_eq]
  exact ⟨fun ⟨x, h1, h2⟩ => h2 ▸ h1, fun h => ⟨k, h, rfl⟩⟩
def W (ops : Array Oper) (j : Nat) : List Nat := (waitsOf ops).getD j []
theorem drawOk_spec (h : drawOk ops = true) {j : Nat} {y : Oper} (hj : ops[j]? = some y) :
    (∀ e ∈ y.after, Region.binds .any e = true → e.on < j) ∧ (∀ k ∈ W ops j, k < j ∧ ∃ e ∈ y.after, Region.binds .any e = true ∧ (e.on = k ∨ k ∈ W ops e.on)) ∧
    ∀ i, i < j → i ∈ W ops j ∨ ∃ x, ops[i]? = some x ∧ beside ops x y = true := by
  simp only [drawOk, List.all_eq_true, List.mem_range] at h
  have := h j (Array.getElem?_eq_some_iff.1 hj).1
  simp only [hj, Bool.and_eq_true, List.all_eq_true, Bool.or_eq_true, Bool.not_eq_true', List.any_eq_true, List.mem_range, has_iff, Nat.beq_eq, Nat.blt_eq] at this
  obtain ⟨⟨h1, h2⟩, h3⟩ := this
  refine ⟨fun e he hb => ?_, fun k hk => ?_, fun i hi => ?_⟩
  · rcases h1 e (by simpa using he) with h | h
    · rw [hb] at h; cases h
    · exact h
  · obtain ⟨k1, e, k2, k3, k4⟩ := h2 k hk
    exact ⟨k1, e, by simpa using k2, k3, k4⟩
  · rcases h3 i hi with h | h
    · exact .inl h
    · cases hx : ops[i]? with
      | none => simp [hx] at h
      | some x => simp only [hx] at h; exact .inr ⟨x, rfl, h⟩
theorem banned_spec {i j d : Nat} {x : Oper} (hx : ops[i]? = some x) (h1 : i ≠ j) (h2 : i ∉ W ops j) (h3 : j ∉ W ops i) (hd : naming x = some d) : d ∈ banned ops j := by
  simp only [banned, List.mem_filterMap, List.mem_range]
  refine ⟨i, (Array.getElem?_eq_some_iff.1 hx).1, ?_⟩
  have e1 : Nat.beq i j = false := beq_false' h1
  have e2 : has ((waitsOf ops).getD j []) i = false := by rw [← Bool.not_eq_true, has_iff]; exact h2
  have e3 : has ((waitsOf ops).getD i []) j = false := by rw [← Bool.not_eq_true, has_iff]; exact h3
  simp only [e1, e2, e3, hx, Bool.or_self, Option.bind_some, hd]

def left (ops : Array Oper) (listed : Array Bool) : List Nat := (List.range ops.size).filter fun j => !listed.getD j true
def itemsOf (ops : Array Oper) (l : List Nat) : List (List Nat × Oper) := l.filterMap fun j => (ops[j]?).map fun o => (banned ops j, o)
theorem mem_left {listed : Array Bool} {j : Nat} : j ∈ left ops listed ↔ j < ops.size ∧ listed.getD j true = false := by simp [left]
theorem left_set {listed : Array Bool} (hs : listed.size = ops.size) {i : Nat} {r1 r2 : List Nat} (h : left ops listed = r1 ++ i :: r2) : left ops (listed.setIfInBounds i true) = r1 ++ r2 := by
  have hnd : (left ops listed).Nodup := List.Nodup.sublist List.filter_sublist List.nodup_range
  rw [h] at hnd
  have hi : i < ops.size := (mem_left.1 (by rw [h]; simp : i ∈ left ops listed)).1
  have e : left ops (listed.setIfInBounds i true) = (left ops listed).filter (fun j => decide (j ≠ i)) := by
    simp only [left, List.filter_filter]
    refine List.filter_congr fun j hj => ?_
    by_cases hji : j = i
    · subst hji; simp [hs, hi]
    · have : (listed.setIfInBounds i true).getD j true = listed.getD j true := getD_set_ne true (Ne.symm hji)
      simp [hji, this]
  rw [e, h, List.filter_append, List.filter_cons]
  rw [List.nodup_append] at hnd
  obtain ⟨n1, n2, n3⟩ := hnd
  rw [List.nodup_cons] at n2
  have f1 : r1.filter (fun j => decide (j ≠ i)) = r1 := List.filter_eq_self.2 fun j hj => by simpa using n3 j hj i (by simp)
  have f2 : r2.filter (fun j => decide (j ≠ i)) = r2 := List.filter_eq_self.2 fun j hj => by
    have : j ≠ i := fun e => n2.1 (e ▸ hj)
    simpa using this
  rw [f1, f2]; simp
theorem left_lt {listed : Array Bool} {i p : Nat} {r1 r2 : List Nat} (h : left ops listed = r1 ++ i :: r2) (hp : p ∈ r1) : p < i := by
  have hs : (left ops listed).Pairwise (· < ·) := List.Pairwise.sublist List.filter_sublist List.pairwise_lt_range
  rw [h, List.pairwise_append] at hs
  exact hs.2.2 p hp i (by simp)

theorem any_sound (hok : drawOk ops = true) : ∀ (n : Nat) (listed : Array Bool) {γ : Gh} {s t : St} {a : Act} {w : World}, listed.size = ops.size → (left ops listed).length = n →
    (∀ j, listed.getD j false = true → ∀ k ∈ W ops j, listed.getD k false = true) → runOps P call ops (itemsOf ops (left ops listed)) s = some t → (∀ p ∈ t.log, p) → Rel γ w0 s a w →
    (∀ γ' a' w' t', GExt γ γ' → Eqv t' t → Rel γ' w0 t' a' w' → Q .normal a' w') → wpAny P .any ops Q n listed a w
  | 0, listed, γ, s, t, a, w, hs, hn, hcl, h, _, hrel, hQ => by
    have hl : left ops listed = [] := List.eq_nil_of_length_eq_zero hn
    rw [hl] at h
    simp only [itemsOf, List.filterMap_nil, runOps, Option.some.injEq] at h
    subst h
    refine ⟨?_, hQ γ a w s (GExt.refl γ) (Eqv.refl s) hrel⟩
    rw [List.eq_nil_iff_forall_not_mem]
    intro j hj
    obtain ⟨h1, o, h2, _⟩ := mem_ready.1 hj
    have : j ∈ left ops listed := mem_left.2 ⟨(Array.getElem?_eq_some_iff.1 h2).1, h1⟩
    rw [hl] at this; cases this
  | n + 1, listed, γ, s, t, a, w, hs, hn, hcl, h, hlog, hrel, hQ => by
    refine ⟨fun hr => ?_, fun i hi => ?_⟩
    · exfalso
      obtain ⟨j, r, hl⟩ : ∃ j r, left ops listed = j :: r := by
        cases hl : left ops listed with
        | nil => rw [hl] at hn; simp at hn
        | cons j r => exact ⟨j, r, rfl⟩
      obtain ⟨h1, h2⟩ := mem_left.1 (by rw [hl]; simp : j ∈ left ops listed)
      have hmem : j ∈ Region.ready .any ops listed := by
        refine mem_ready.2 ⟨h2, ops[j], Array.getElem?_eq_getElem h1, fun e he hb => ?_⟩
        have hlt := (drawOk_spec hok (Array.getElem?_eq_getElem h1)).1 e he hb
        cases hh : listed.getD e.on false with
        | true => rfl
        | false =>
          exfalso
          have hlt' : e.on < listed.size := by omega
          have hm : e.on ∈ left ops listed := mem_left.2 ⟨by omega, by simpa [Array.getD, hlt'] using hh⟩
          have hs' : (left ops listed).Pairwise (· < ·) := List.Pairwise.sublist List.filter_sublist List.pairwise_lt_range
          rw [hl] at hm hs'
          rcases List.mem_cons.1 hm with hm | hm
          · omega
          · have := (List.pairwise_cons.1 hs').1 _ hm; omega
      rw [hr] at hmem; cases hmem
    · obtain ⟨h1, o, h2, h3⟩ := mem_ready.1 hi
      have hlt : i < ops.size := (Array.getElem?_eq_some_iff.1 h2).1
      have hm : i ∈ left ops listed := mem_left.2 ⟨hlt, h1⟩
      obtain ⟨r1, r2, hl⟩ := List.append_of_mem hm
      have hW : ∀ k ∈ W ops i, listed.getD k false = true := fun k hk => by
        obtain ⟨_, e, he, hb, hk'⟩ := (drawOk_spec hok h2).2.1 k hk
        have := h3 e he hb
        rcases hk' with rfl | hk'
        · exact this
        · exact hcl _ this k hk'
      have hit : itemsOf ops (left ops listed) = itemsOf ops r1 ++ (banned ops i, o) :: itemsOf ops r2 := by
        rw [hl]; simp [itemsOf, h2]
      rw [hit] at h
      obtain ⟨s1, t', k1, k2, k3⟩ := move_front (F := banned ops i) (itemsOf ops r1) (fun p hp => by
        obtain ⟨j, hj, hp⟩ := List.mem_filterMap.1 hp
        have hji := left_lt hl hj
        have hjl : listed.getD j true = false := (mem_left.1 (by rw [hl]; simp [hj] : j ∈ left ops listed)).2
        have hjs : j < ops.size := by omega
        have hnW : j ∉ W ops i := fun hh => by
          have := hW j hh
          have hjl' : j < listed.size := by omega
          simp [Array.getD, hjl'] at this hjl
          rw [hjl] at this; cases this
        have hnW2 : i ∉ W ops j := fun hh => by
          have := ((drawOk_spec hok (Array.getElem?_eq_getElem hjs)).2.1 i hh).1
          omega
        rw [Array.getElem?_eq_getElem hjs] at hp
        simp only [Option.map_some, Option.some.injEq] at hp
        subst hp
        refine ⟨?_, fun d hd => banned_spec (Array.getElem?_eq_getElem hjs) (by omega) hnW hnW2 hd, fun d hd => banned_spec h2 (by omega) hnW2 hnW hd⟩
        rcases (drawOk_spec hok h2).2.2 j hji with hh | ⟨x, hx, hb⟩
        · exact absurd hh hnW
        · rw [Array.getElem?_eq_getElem hjs] at hx; cases hx; exact hb) h hlog
      have hl' := left_set hs hl
      have hlog' : ∀ p ∈ t'.log, p := fun p hp => hlog p ((k3.log p).1 hp)
      refine step_sound h2 hrel k1 (fun p hp => hlog' p (runOps_log _ k2 p hp)) fun γ' a' w' e hr => any_sound hok n (listed.setIfInBounds i true) (t := t') (by simp [hs]) ?_ ?_ ?_ hlog' hr fun γ'' a'' w'' t'' e' ht hr' => hQ γ'' a'' w'' t'' (e.trans e') (ht.trans k3) hr'
      · rw [hl']; rw [hl] at hn; simp at hn ⊢; omega
      · intro j hj k hk
        by_cases hji : j = i
        · subst hji; exact getD_set_true (hW k hk)
        · rw [getD_set_ne false (Ne.symm hji)] at hj
          exact getD_set_true (hcl j hj k hk)
      · rw [hl']
        have : itemsOf ops (r1 ++ r2) = itemsOf ops r1 ++ itemsOf ops r2 := by simp [itemsOf]
        rw [this]; exact k2

theorem region_sound (hmix : P.follows .mixedOrders = true) {id : Nat} {draw : Bool} (hrel : Rel γ w0 s a w) (h : runRegion P call ops draw s = some t) (hlog : ∀ p ∈ t.log, p)
    (hQ : ∀ γ' a' w', GExt γ γ' → Rel γ' w0 t a' w' → Q .normal a' w') : (Code.region id ops draw).wp P Q a w := by
  cases draw with
  | false =>
    refine wp_region (ops_sound (List.range ops.size) ops.toList ?_ h hlog hrel hQ)
    refine List.ext_getElem? fun i => ?_
    simp only [List.getElem?_map]
    by_cases hi : i < ops.size
    · simp [List.getElem?_range hi, hi]
    · have h1 : (List.range ops.size)[i]? = none := List.getElem?_eq_none (by simp; omega)
      have h2 : ops.toList[i]? = none := List.getElem?_eq_none (by simp; omega)
      simp [h1, h2]
  | true =>
    simp only [runRegion] at h
    split at h
    case h_2 => cases h
    rename_i hok
    have hl : left ops (Array.replicate ops.size false) = List.range ops.size := by
      simp only [left]
      refine List.filter_eq_self.2 fun j hj => ?_
      have := List.mem_range.1 hj
      simp [this]
    refine wp_region_any hmix (any_sound hok ops.size (Array.replicate ops.size false) (t := t) (γ := γ) (s := s) (by simp) (by rw [hl]; simp) ?_ (by rw [hl]; exact h) hlog (hrel.drew rfl rfl rfl rfl) ?_)
    · intro j hj
      exfalso
      by_cases hlt : j < ops.size <;> simp [hlt] at hj
    · exact fun γ' a' w' t' e ht hr => hQ γ' a' w' e (hr.eqv ht)
end
end Go.Proofs.YtmhoefpienagkaaDoor

/- Code, functions: what the interpreter answers, the machine answers. -/
namespace Go.Proofs.YtmhoefpienagkaaDoor
open Go.RowKit

section
variable {γ : Gh} {w0 w : World} {s : St} {a : Act}
theorem look_filterMap {α β : Type} (l : List (Nat × α)) (f : α → β) : ∀ (live : List Nat) {t : Nat} {v : β}, look (live.filterMap fun t => (look l t).map fun x => (t, f x)) t = some v → ∃ u, look l t = some u ∧ f u = v
  | [], t, v, h => by simp [look] at h
  | k :: live, t, v, h => by
    rw [List.filterMap_cons] at h
    cases hk : look l k with
    | none => simp only [hk, Option.map_none] at h; exact look_filterMap l f live h
    | some u =>
      simp only [hk, Option.map_some, look_cons] at h
      split at h
      · rename_i e; subst e; exact ⟨u, hk, Option.some.inj h⟩
      · exact look_filterMap l f live h
theorem look_filter {α : Type} (l : List (Nat × α)) (live : List Nat) {t : Nat} {v : α} (h : look (live.filterMap fun t => (look l t).map fun x => (t, x)) t = some v) : look l t = some v := by
  obtain ⟨u, h1, h2⟩ := look_filterMap l id live h
  cases h2; exact h1
theorem look_map (f : AV → AV) (l : List (Nat × AV)) : ∀ (live : List Nat) {t : Nat} {v : AV}, look (live.map fun t => (t, f ((look l t).getD .undef))) t = some v → v = f ((look l t).getD .undef)
  | [], t, v, h => by simp [look] at h
  | k :: live, t, v, h => by
    rw [List.map_cons, look_cons] at h
    split at h
    · rename_i e; subst e; simpa using h.symm
    · exact look_map f l live h
theorem AVR1.keep1 {L : List (Nat × Nat)} {c : Value} {names : List Nat} : ∀ {x : AV}, AVR1 γ L w c x → AVR1 γ L w c (keep1 names x)
  | .undef, h => h
  | .sc _, h => h
  | .row none .., h => h
  | .row (some (d, e)) s n xs, h => by
    simp only [YtmhoefpienagkaaDoor.keep1]
    split
    · exact h
    · have := h.1; simpa only [AVR1, V] using this
  | .mt, h => h
  | .agg _, h => h
  | .tup _, _ => trivial
  | .rptr _, h => h
  | .ptr d off, h => by
    simp only [YtmhoefpienagkaaDoor.keep1]
    split
    · exact h
    · exact trivial
theorem AVR.keep1 {L : List (Nat × Nat)} {c : Value} {names : List Nat} {x : AV} (h : AVR γ L w c x) : AVR γ L w c (YtmhoefpienagkaaDoor.keep1 names x) := by
  cases x with
  | tup xs => exact trivial
  | undef => exact h
  | sc v => exact h
  | row t s n xs =>
    refine AVR.of_AVR1 (fun zs => ?_) (AVR1.keep1 (x := .row t s n xs) h)
    cases t with
    | none => simp [YtmhoefpienagkaaDoor.keep1]
    | some p => simp only [YtmhoefpienagkaaDoor.keep1]; split <;> simp
  | mt => exact h
  | agg xs => exact h
  | ptr d o =>
    refine AVR.of_AVR1 (fun zs => ?_) (AVR1.keep1 (x := .ptr d o) h)
    simp only [YtmhoefpienagkaaDoor.keep1]; split <;> simp
  | rptr xs => exact h
theorem Rel.mask (h : Rel γ w0 s a w) (live names : List Nat) : Rel γ w0 (s.mask live names) a w := by
  have hL : ∀ d len, look (s.mask live names).lens d = some len → look s.lens d = some len := fun d len hl => look_filter s.lens names hl
  refine ⟨h.size, h.defers, h.below, h.base, fun t x hx => ?_, fun d ty xs hx => ?_, fun d len g hl hb => h.len d len g (hL d len hl) hb, h.inj, h.blt, h.plt, h.frm, h.gl⟩
  · have := look_map (YtmhoefpienagkaaDoor.keep1 names) s.slots live hx
    subst this
    cases hs : look s.slots t with
    | none => exact trivial
    | some y => exact ((h.slot t y hs).keep1).weaken hL
  · obtain ⟨⟨ty', ys⟩, hy, e⟩ := look_filterMap s.objs (fun x : Nat × List AV => (x.1, x.2.map (YtmhoefpienagkaaDoor.keep1 names))) names hx
    simp only [Prod.mk.injEq] at e
    obtain ⟨rfl, rfl⟩ := e
    obtain ⟨k1, b, cs, k2, k3, k4, k5, k6⟩ := h.obj d ty' ys hy
    refine ⟨?_, b, cs, k2, k3, k4, AVRL.of_at (by simp [k5.length]) fun i y u hy hu => ?_, k6⟩
    · cases hl : look (s.mask live names).lens d with
      | none => rfl
      | some len => have := hL d len hl; rw [k1] at this; cases this
    · simp only [List.getElem?_map, Option.map_eq_some_iff] at hy
      obtain ⟨y', hy', rfl⟩ := hy
      obtain ⟨u', q1, q2⟩ := k5.at_ hy'
      rw [hu] at q1; cases q1
      exact (q2.keep1).weaken hL
theorem Rel.maskIf (h : Rel γ w0 s a w) (live : Option (List Nat × List Nat)) : Rel γ w0 (maskIf live s) a w := by
  cases live with
  | none => exact h
  | some l => exact h.mask l.1 l.2
end

theorem least {p : Nat → Prop} (h : ∃ k, p k) : ∃ k, p k ∧ ∀ m, p m → k ≤ m := by
  obtain ⟨k, hk⟩ := h
  induction k using Nat.strongRecOn with
  | _ k ih =>
    by_cases hm : ∃ m, m < k ∧ p m
    · obtain ⟨m, h1, h2⟩ := hm; exact ih m h1 h2
    · exact ⟨k, hk, fun m hp => Nat.le_of_not_lt fun hlt => hm ⟨m, hlt, hp⟩⟩

def Out.st : Out → St
  | .go s => s
  | .exit _ s => s
  | .ret s => s
theorem iter_log {f : St → Option Out} (hf : ∀ s o, f s = some o → ∀ p ∈ s.log, p ∈ o.st.log) : ∀ (n : Nat) {s : St} {o : Out}, iter f n s = some o → ∀ p ∈ s.log, p ∈ o.st.log
  | 0, s, o, h => by simp [iter] at h
  | n + 1, s, o, h => by
    simp only [iter] at h
    cases hx : f s with
    | none => rw [hx] at h; simp at h
    | some o1 =>
      rw [hx] at h
      have h1 := hf s o1 hx
      cases o1 with
      | go s1 => exact fun p hp => iter_log hf n h p (h1 p hp)
      | exit id s1 => simp only [Option.some.injEq] at h; subst h; exact h1
      | ret s1 => simp only [Option.some.injEq] at h; subst h; exact h1
theorem maskIf_log (live : Option (List Nat × List Nat)) (s : St) : (maskIf live s).log = s.log := by cases live <;> rfl
theorem code_log {P : Program} {call : Orc} {live : Nat → Option (List Nat × List Nat)} {fuel : Nat} : ∀ (c : Code) {s : St} {out : Out}, runCode P call live fuel c s = some out → ∀ p ∈ s.log, p ∈ out.st.log := by
  intro c
  induction c with
  | skip => intro s out h; simp only [runCode, Option.some.injEq] at h; subst h; exact fun p hp => hp
  | region id ops draw =>
    intro s out h
    simp only [runCode, Option.map_eq_some_iff] at h
    obtain ⟨t, h, rfl⟩ := h
    exact fun p hp => region_log h p (by rw [maskIf_log]; exact hp)
  | seq x y ihx ihy =>
    intro s out h
    simp only [runCode] at h
    cases hx : runCode P call live fuel x s with
    | none => rw [hx] at h; simp at h
    | some o =>
      rw [hx] at h
      have h1 := ihx hx
      cases o with
      | go s1 => exact fun p hp => ihy h p (h1 p hp)
      | exit id s1 => simp only [Option.some.injEq] at h; subst h; exact h1
      | ret s1 => simp only [Option.some.injEq] at h; subst h; exact h1
  | cond c x y ihx ihy =>
    intro s out h
    simp only [runCode] at h
    split at h
    · exact ihx h
    · exact ihy h
    · cases h
  | block id x ih =>
    intro s out h
    simp only [runCode] at h
    cases hx : runCode P call live fuel x s with
    | none => rw [hx] at h; simp at h
    | some o =>
      rw [hx] at h
      have h1 := ih hx
      cases o with
      | go s1 => simp only [Option.some.injEq] at h; subst h; exact h1
      | ret s1 => simp only [Option.some.injEq] at h; subst h; exact h1
      | exit id1 s1 =>
        simp only at h
        split at h <;> (cases h; exact h1)
  | loop x ih =>
    intro s out h
    simp only [runCode] at h
    exact iter_log (fun s o h => ih h) _ h
  | exit id => intro s out h; simp only [runCode, Option.some.injEq] at h; subst h; exact fun p hp => hp
  | ret => intro s out h; simp only [runCode, Option.some.injEq] at h; subst h; exact fun p hp => hp
  | label l => intro s out h; simp only [runCode, Option.some.injEq] at h; subst h; exact fun p hp => hp
  | rangeFunc => intro s out h; simp [runCode] at h
  | scope => intro s out h; simp [runCode] at h
  | goto => intro s out h; simp [runCode] at h
  | refuse => intro s out h; simp [runCode] at h

def PostOf (γ0 : Gh) (w0 : World) (out : Out) : Exit → Act → World → Prop
  | .normal, a, w => ∃ s γ, out = .go s ∧ GExt γ0 γ ∧ Rel γ w0 s a w
  | .exit id, a, w => ∃ s γ, out = .exit id s ∧ GExt γ0 γ ∧ Rel γ w0 s a w
  | .ret, a, w => ∃ s γ, out = .ret s ∧ GExt γ0 γ ∧ Rel γ w0 s a w
  | _, _, _ => False

section
variable {P : Program} {call : Orc} {live : Nat → Option (List Nat × List Nat)} {fuel : Nat} (hmix : P.follows .mixedOrders = true)
include hmix
open Classical in
theorem code_sound {w0 : World} : ∀ (c : Code) {s : St} {out : Out} {γ : Gh} {a : Act} {w : World}, runCode P call live fuel c s = some out → (∀ p ∈ out.st.log, p) → Rel γ w0 s a w → c.wp P (PostOf γ w0 out) a w := by
  intro c
  induction c with
  | skip =>
    intro s out γ a w h hlog hrel
    simp only [runCode, Option.some.injEq] at h; subst h
    exact wp_skip ⟨s, γ, rfl, GExt.refl γ, hrel⟩
  | region id ops draw =>
    intro s out γ a w h hlog hrel
    simp only [runCode, Option.map_eq_some_iff] at h
    obtain ⟨t, h, rfl⟩ := h
    exact region_sound hmix (hrel.maskIf (live id)) h hlog fun γ' a' w' e hr => ⟨t, γ', rfl, e, hr⟩
  | seq x y ihx ihy =>
    intro s out γ a w h hlog hrel
    simp only [runCode] at h
    cases hx : runCode P call live fuel x s with
    | none => rw [hx] at h; simp at h
    | some o =>
      rw [hx] at h
      cases o with
      | go s1 =>
        simp only at h
        refine wp_seq (wp_mono (ihx hx (fun p hp => hlog p (code_log y h p hp)) hrel) fun e a' w' hp => ?_)
        cases e with
        | normal =>
          obtain ⟨s2, γ2, e2, hg, hr⟩ := hp
          cases e2
          exact wp_mono (ihy h hlog hr) fun e a'' w'' hp => by
            cases e with
            | normal => obtain ⟨s3, γ3, q1, q2, q3⟩ := hp; exact ⟨s3, γ3, q1, hg.trans q2, q3⟩
            | exit id => obtain ⟨s3, γ3, q1, q2, q3⟩ := hp; exact ⟨s3, γ3, q1, hg.trans q2, q3⟩
            | ret => obtain ⟨s3, γ3, q1, q2, q3⟩ := hp; exact ⟨s3, γ3, q1, hg.trans q2, q3⟩
            | _ => exact hp
        | exit id => obtain ⟨s2, γ2, e2, _⟩ := hp; cases e2
        | ret => obtain ⟨s2, γ2, e2, _⟩ := hp; cases e2
        | _ => exact hp.elim
      | exit id s1 =>
        simp only [Option.some.injEq] at h; subst h
        refine wp_seq (wp_mono (ihx hx hlog hrel) fun e a' w' hp => ?_)
        cases e with
        | normal => obtain ⟨s2, γ2, e2, _⟩ := hp; cases e2
        | _ => exact hp
      | ret s1 =>
        simp only [Option.some.injEq] at h; subst h
        refine wp_seq (wp_mono (ihx hx hlog hrel) fun e a' w' hp => ?_)
        cases e with
        | normal => obtain ⟨s2, γ2, e2, _⟩ := hp; cases e2
        | _ => exact hp
  | cond c x y ihx ihy =>
    intro s out γ a w h hlog hrel
    simp only [runCode] at h
    split at h
    · rename_i hc
      exact wp_cond_true (ev_sc hrel.eval hc) (ihx h hlog hrel)
    · rename_i hc
      exact wp_cond_false (ev_sc hrel.eval hc) (ihy h hlog hrel)
    · cases h
  | block id x ih =>
    intro s out γ a w h hlog hrel
    simp only [runCode] at h
    cases hx : runCode P call live fuel x s with
    | none => rw [hx] at h; simp at h
    | some o =>
      rw [hx] at h
      have hlog' : ∀ p ∈ o.st.log, p := by
        cases o with
        | go s1 => simp only [Option.some.injEq] at h; subst h; exact hlog
        | ret s1 => simp only [Option.some.injEq] at h; subst h; exact hlog
        | exit id1 s1 =>
          simp only at h
          split at h <;> (cases h; exact hlog)
      refine wp_block (wp_mono (ih hx hlog' hrel) fun e a' w' hp => ?_)
      cases o with
      | go s1 =>
        simp only [Option.some.injEq] at h; subst h
        cases e with
        | exit id' => obtain ⟨s2, γ2, e2, _⟩ := hp; cases e2
        | _ => exact hp
      | ret s1 =>
        simp only [Option.some.injEq] at h; subst h
        cases e with
        | exit id' => obtain ⟨s2, γ2, e2, _⟩ := hp; cases e2
        | _ => exact hp
      | exit id1 s1 =>
        simp only at h
        cases e with
        | exit id' =>
          obtain ⟨s2, γ2, e2, hg, hr⟩ := hp
          cases e2
          by_cases hid : id1 = id
          · subst hid
            simp only [Nat.beq_refl, Option.some.injEq] at h; subst h
            simp only [Exit.inBlock, if_true]
            exact ⟨s1, γ2, rfl, hg, hr⟩
          · simp only [beq_false' hid, Option.some.injEq] at h; subst h
            simp only [Exit.inBlock, hid, if_false]
            exact ⟨s1, γ2, rfl, hg, hr⟩
        | normal => obtain ⟨s2, γ2, e2, _⟩ := hp; cases e2
        | ret => obtain ⟨s2, γ2, e2, _⟩ := hp; cases e2
        | _ => exact hp.elim
  | loop x ih =>
    intro s out γ a w h hlog hrel
    simp only [runCode] at h
    let Pr : Nat → Act → World → Prop := fun k a w => ∃ γ' s', GExt γ γ' ∧ Rel γ' w0 s' a w ∧ iter (runCode P call live fuel x) k s' = some out
    refine wp_loop (fun a w => ∃ k, Pr k a w) (fun a w => if h : ∃ k, Pr k a w then (least h).choose else 0) ⟨fuel, γ, s, GExt.refl γ, hrel, h⟩ ?_
    intro a w hI
    have hk := (least hI).choose_spec.1
    generalize hke : (least hI).choose = k at hk
    have hμ : (if h : ∃ k, Pr k a w then (least h).choose else 0) = k := by rw [dif_pos hI]; exact hke
    rw [hμ]
    obtain ⟨γ', s', hg, hr, hit⟩ := hk
    cases k with
    | zero => simp [iter] at hit
    | succ k =>
      simp only [iter] at hit
      cases hx : runCode P call live fuel x s' with
      | none => rw [hx] at hit; simp at hit
      | some o =>
        rw [hx] at hit
        have hlog' : ∀ p ∈ o.st.log, p := by
          cases o with
          | go s1 => exact fun p hp => hlog p (iter_log (fun s o => code_log x) k hit p hp)
          | exit id1 s1 => simp only [Option.some.injEq] at hit; subst hit; exact hlog
          | ret s1 => simp only [Option.some.injEq] at hit; subst hit; exact hlog
        refine wp_mono (ih hx hlog' hr) fun e a' w' hp => ?_
        cases o with
        | go s1 =>
          simp only at hit
          cases e with
          | normal =>
            obtain ⟨s2, γ2, e2, hg2, hr2⟩ := hp
            cases e2
            have hP : Pr k a' w' := ⟨γ2, s1, hg.trans hg2, hr2, hit⟩
            refine ⟨⟨k, hP⟩, ?_⟩
            have hex : ∃ k, Pr k a' w' := ⟨k, hP⟩
            show (if h : ∃ k, Pr k a' w' then (least h).choose else 0) < k + 1
            rw [dif_pos hex]
            exact Nat.lt_succ_of_le ((least hex).choose_spec.2 k hP)
          | exit id => obtain ⟨s2, γ2, e2, _⟩ := hp; cases e2
          | ret => obtain ⟨s2, γ2, e2, _⟩ := hp; cases e2
          | _ => exact hp.elim
        | exit id s1 =>
          simp only [Option.some.injEq] at hit; subst hit
          cases e with
          | normal => obtain ⟨s2, γ2, e2, _⟩ := hp; cases e2
          | exit id' => obtain ⟨s3, γ3, q1, q2, q3⟩ := hp; exact ⟨s3, γ3, q1, hg.trans q2, q3⟩
          | ret => obtain ⟨s2, γ2, e2, _⟩ := hp; cases e2
          | _ => exact hp.elim
        | ret s1 =>
          simp only [Option.some.injEq] at hit; subst hit
          cases e with
          | normal => obtain ⟨s2, γ2, e2, _⟩ := hp; cases e2
          | exit id' => obtain ⟨s2, γ2, e2, _⟩ := hp; cases e2
          | ret => obtain ⟨s3, γ3, q1, q2, q3⟩ := hp; exact ⟨s3, γ3, q1, hg.trans q2, q3⟩
          | _ => exact hp.elim
  | exit id =>
    intro s out γ a w h hlog hrel
    simp only [runCode, Option.some.injEq] at h; subst h
    exact wp_exit ⟨s, γ, rfl, GExt.refl γ, hrel⟩
  | ret =>
    intro s out γ a w h hlog hrel
    simp only [runCode, Option.some.injEq] at h; subst h
    exact wp_ret ⟨s, γ, rfl, GExt.refl γ, hrel⟩
  | label l =>
    intro s out γ a w h hlog hrel
    simp only [runCode, Option.some.injEq] at h; subst h
    exact wp_label ⟨s, γ, rfl, GExt.refl γ, hrel⟩
  | rangeFunc => intro s out γ a w h; simp [runCode] at h
  | scope => intro s out γ a w h; simp [runCode] at h
  | goto => intro s out γ a w h; simp [runCode] at h
  | refuse => intro s out γ a w h; simp [runCode] at h

omit hmix
theorem look_zip : ∀ (args : List AV) (k t : Nat) {x : AV}, look (((List.range args.length).map (· + k)).zip args) t = some x → k ≤ t ∧ args[t - k]? = some x
  | [], k, t, x, h => by simp [look] at h
  | y :: ys, k, t, x, h => by
    rw [List.length_cons, List.range_succ_eq_map, List.map_cons, List.zip_cons_cons, look_cons] at h
    split at h
    · rename_i e
      cases h
      exact ⟨by omega, by rw [show t - k = 0 by omega]; rfl⟩
    · rename_i hne
      have := look_zip ys (k + 1) t (x := x) (by
        rw [← h]; congr 2
        simp only [List.map_map]
        refine List.map_congr_left fun j _ => ?_
        simp only [Function.comp]; omega)
      refine ⟨by omega, ?_⟩
      rw [show t - k = (t - (k + 1)) + 1 by omega]
      simpa using this.2
theorem AVR1.nil_of_V {γ : Gh} {w : World} {c : Value} : ∀ {x : AV}, V γ.pr w c x → AVR1 γ [] w c x
  | .undef, h => h
  | .sc _, h => h
  | .row none .., h => h
  | .row (some (d, e)) .., h => ⟨h, fun len hl => by simp [look] at hl⟩
  | .mt, h => h
  | .agg _, h => h
  | .tup _, h => h
  | .rptr _, h => h
  | .ptr d off, h => by simp only [V] at h
theorem AVR.nil_of_V {γ : Gh} {w : World} {c : Value} : ∀ {x : AV}, V γ.pr w c x → AVR γ [] w c x
  | .tup xs, ⟨cs, e, h⟩ => ⟨cs, e, AVRL.of_at h.length fun i x u hx hu => by
      obtain ⟨u', k1, k2⟩ := h.at_ hx
      rw [hu] at k1; cases k1
      exact AVR1.nil_of_V k2⟩
  | .undef, h => AVR1.nil_of_V (x := .undef) h
  | .sc v, h => AVR1.nil_of_V (x := .sc v) h
  | .row t s n xs, h => AVR1.nil_of_V (x := .row t s n xs) h
  | .mt, h => AVR1.nil_of_V (x := .mt) h
  | .agg xs, h => AVR1.nil_of_V (x := .agg xs) h
  | .ptr d off, h => AVR1.nil_of_V (x := .ptr d off) h
  | .rptr xs, h => AVR1.nil_of_V (x := .rptr xs) h

/-- the results' values -/
def AVRs (γ : Gh) (L : List (Nat × Nat)) (w : World) (cs : List Value) : List AV → Prop
  | [] => cs = []
  | x :: xs => ∃ c cs', cs = c :: cs' ∧ AVR γ L w c x ∧ AVRs γ L w cs' xs
theorem cell_run {γ : Gh} {w0 w : World} {s : St} {a : Act} (hrel : Rel γ w0 s a w) {t : TypeId} {b : Operand} {x : AV} (h : cellVal P s t (s.eval b) = some x) :
    ∃ c, (do loadVar t (← asAddr (a.eval b)) : Sem Value).run P w = .ok c w ∧ AVR γ s.lens w c x := by
  unfold cellVal at h
  split at h
  case h_2 => cases h
  rename_i d off hb
  have hE := hrel.eval b
  rw [hb] at hE
  obtain ⟨⟨b', e, hb'⟩, _⟩ := hE
  split at h
  case h_3 => cases h
  · rename_i ty xs n hobj h1 h2
    obtain ⟨_, b2, cs, k2, k3, k4, k5, k6, k7⟩ := hrel.obj d ty xs hobj
    have : b2 = b' := by rw [hb'] at k2; exact (Option.some.inj k2).symm
    subst this
    simp only [Option.map_eq_some_iff] at h
    obtain ⟨ys, ht, rfl⟩ := h
    obtain ⟨rfl, hl⟩ := takeN_spec ht
    have hsub := (k5.drop off).take n
    have hV := hsub.plain
    have hone : ∀ u ∈ (cs.drop off).take n, u.oneCell' = true := fun u hu => k6 u (List.mem_of_mem_drop (List.mem_of_mem_take hu))
    have hrun := run_load_agg (P := P) (w := w) (b := b2) (o := off) (cs := (cs.drop off).take n) h1 h2 (by rw [hsub.length, hl]) (fun j v hj => by
      rw [List.getElem?_take] at hj
      split at hj
      · rw [List.getElem?_drop] at hj
        rw [cell_of_row w b2 _ cs.toArray ty (0, 0) k4]; simpa using hj
      · cases hj)
    refine ⟨_, by simp [e, asAddr, hrun]; rfl, AVR.of_AVR1 (by unfold mkAgg; split <;> simp) (by
      have := V_mkAgg hone hV
      unfold mkAgg at this ⊢
      split at this <;> exact this)⟩
  · rename_i ty xs hobj h1
    obtain ⟨_, b2, cs, k2, k3, k4, k5, k6, k7⟩ := hrel.obj d ty xs hobj
    have : b2 = b' := by rw [hb'] at k2; exact (Option.some.inj k2).symm
    subst this
    have hy : xs[off]? = some x := by
      rw [List.head?_eq_getElem?, List.getElem?_drop] at h
      simpa using h
    obtain ⟨c, q1, q2⟩ := k5.at_ hy
    have hone := k6 c (List.mem_of_getElem? q1)
    have hrun := run_load_one (P := P) h1 (show w.cell? ⟨b2, off, none⟩ = some c by rw [cell_of_row w b2 _ cs.toArray ty (0, 0) k4]; simpa using q1)
    refine ⟨c, by simp [e, asAddr, hrun], AVR.of_AVR1 (fun zs hz => ?_) q2⟩
    subst hz
    obtain ⟨cs', e', _⟩ := q2
    subst e'; simp [Value.oneCell'] at hone
theorem results_run {γ : Gh} {w0 w : World} {s : St} {a : Act} (hrel : Rel γ w0 s a w) : ∀ (l : List ResultVar) {xs : List AV}, resVals P s l = some xs → ∃ vs : List Value, AVRs γ s.lens w vs xs ∧
    (l.mapM (fun r : ResultVar => match r with | .tmp t => (pure (a.tmps.getD t undef) : Sem Value) | .cell b t => do loadVar t (← asAddr (a.tmps.getD b undef)))).run P w = .ok vs w
  | [], xs, h => by simp only [resVals, Option.some.injEq] at h; subst h; exact ⟨[], rfl, rfl⟩
  | .tmp t :: l, xs, h => by
    simp only [resVals, Option.map_eq_some_iff] at h
    obtain ⟨ys, h, rfl⟩ := h
    obtain ⟨vs, k1, k2⟩ := results_run hrel l h
    refine ⟨a.tmps.getD t undef :: vs, ⟨_, _, rfl, hrel.eval (.tmp t), k1⟩, ?_⟩
    rw [List.mapM_cons]
    simp only [Sem.run_bind, Sem.run_pure, Result.andThen_ok, k2]
  | .cell b t :: l, xs, h => by
    simp only [resVals] at h
    split at h
    case h_2 => cases h
    rename_i x ys hx hys
    simp only [Option.some.injEq] at h; subst h
    obtain ⟨vs, k1, k2⟩ := results_run hrel l hys
    obtain ⟨c, q1, q2⟩ := cell_run hrel (b := .tmp b) hx
    refine ⟨c :: vs, ⟨_, _, rfl, q2, k1⟩, ?_⟩
    rw [List.mapM_cons]
    have q1' : (do loadVar t (← asAddr (a.tmps.getD b undef)) : Sem Value).run P w = .ok c w := q1
    simp only [Sem.run_bind] at q1'
    simp only [Sem.run_bind, q1', Result.andThen_ok, k2, Sem.run_pure]
theorem AVR.plain1' {γ : Gh} {L : List (Nat × Nat)} {w : World} {c : Value} {x : AV} (h : AVR γ L w c x) : V γ.pr w c (YtmhoefpienagkaaDoor.plain1 x) := by
  cases x with
  | tup xs => exact trivial
  | undef => exact trivial
  | sc v => exact h
  | row t s n xs => exact AVR1.plain (x := .row t s n xs) (L := L) h
  | mt => exact h
  | agg xs => exact h
  | ptr d o => exact trivial
  | rptr xs => exact h
theorem AVRs.plain {γ : Gh} {L : List (Nat × Nat)} {w : World} : ∀ {xs : List AV} {cs : List Value}, AVRs γ L w cs xs → VL γ.pr w cs (xs.map YtmhoefpienagkaaDoor.plain1)
  | [], _, h => h
  | x :: xs, _, ⟨c, cs, e, h1, h2⟩ => ⟨c, cs, e, h1.plain1', AVRs.plain h2⟩
theorem own_row {γ : Gh} {w0 w : World} {s : St} {a : Act} (hrel : Rel γ w0 s a w) {x : AV} {c : Value} (hx : AVR γ s.lens w c x) {e : Nat} {p : Prop} (h : ownOf s x = some (e, p)) (hp : p) : OwnRow γ.base γ.pr w e c (plain1 x) := by
  unfold ownOf at h
  split at h
  case h_2 => cases h
  rename_i d e' size n xs
  simp only [Option.map_eq_some_iff, Prod.mk.injEq] at h
  obtain ⟨len, hlen, rfl, rfl⟩ := h
  have hl : len = n * size := hp
  subst hl
  rcases ((hx.2 _ hlen).2 rfl) with h | ⟨us, ho, hb⟩
  · exact .inl h
  · exact .inr ⟨us, ho, fun g hg => (hrel.len d _ g hlen (hb g hg)).2⟩

include hmix
omit hmix in
/-- THE LAW OF A FUNCTION. -/
theorem body_judg {f : Nat} {fn : Func} {c : Code} {args : List AV} {r : Res} {Q : Out → Prop} (hf : P.funcs[f]? = some fn) (hname : (fn.name == "runtime.NumGoroutine") = false) (hb : fn.body = some c) (hle : args.length ≤ fn.ntmps)
    (J : ∀ {γ : Gh} {a : Act} {w : World}, Rel γ w (start args fn.ntmps) a w → c.wp P (fun e a' w' => ∃ out, Q out ∧ PostOf γ w out e a' w') a w)
    (hQ : ∀ out, Q out → ∃ s1 l, (out = .go s1 ∨ out = .ret s1) ∧ (resVals P s1 fn.results.toList).bind (resOf s1) = some (r, l) ∧ ∀ p ∈ l, p) : Ok P f args r := by
  refine ⟨⟨fn, hf, hname, by rw [hb]; rfl⟩, fun w pr cs hgl hpr hargs => ?_⟩
  refine calls_of_wp hf hb ?_
  have hlen := hargs.length
  have hrel : Rel { base := w.heap.size, pr := pr, blk := fun _ => none } w (start args fn.ntmps) { tmps := cs.toArray ++ Array.replicate (fn.ntmps - cs.toArray.size) undef, defers := [] } w := by
    refine ⟨?_, rfl, Below.refl _ _, Nat.le_refl _, fun t x hx => ?_, fun d ty xs hx => by simp [start, look] at hx, fun d len g hl => by simp [start, look] at hl, fun d d' b hd => by simp at hd, fun d b hd => by simp at hd, hpr, (fun k o h => by cases h), hgl⟩
    · simp [start]; omega
    · have hx' := look_zip args 0 t (x := x) (by simpa [start] using hx)
      obtain ⟨u, k1, k2⟩ := hargs.at_ (i := t) (by simpa using hx'.2)
      have : (cs.toArray ++ Array.replicate (fn.ntmps - cs.toArray.size) undef).getD t undef = u := by
        have hlt : t < cs.length := (List.getElem?_eq_some_iff.1 k1).1
        have hg : cs[t] = u := (List.getElem?_eq_some_iff.1 k1).2
        have h2 : t < (cs.toArray ++ Array.replicate (fn.ntmps - cs.toArray.size) undef).size := by simp; omega
        rw [Array.getD, dif_pos h2]
        simp [Array.getElem_append, hlt, hg]
      simp only [start]
      rw [this]
      exact AVR.nil_of_V k2
  -- behind the body
  have fin : ∀ (s1 : St) (l' : List Prop) (γ' : Gh) (a' : Act) (w' : World), (resVals P s1 fn.results.toList).bind (resOf s1) = some (r, l') → (∀ p ∈ l', p) → GExt { base := w.heap.size, pr := pr, blk := fun _ => none } γ' → Rel γ' w s1 a' w' →
      a'.defers = [] ∧ ∃ v, (results fn a'.tmps).run P w' = .ok v w' ∧ ∃ c pr', Ending.returned v = .returned c ∧ Below w.heap.size w w' ∧ (∀ b i, pr' b i → b < w'.heap.size) ∧ (∀ b i, b < w.heap.size → pr' b i → pr b i) ∧ V pr' w' c r.v ∧ ∀ e, r.own = some e → OwnRes w.heap.size pr' w' e c r.v := by
    intro s1 l' γ' a' w' hres hown hg hr
    refine ⟨hr.defers, ?_⟩
    simp only [Option.bind_eq_some_iff] at hres
    obtain ⟨xs, hxs, hres⟩ := hres
    obtain ⟨vs, k1, k2⟩ := results_run (P := P) hr fn.results.toList hxs
    have hbase : γ'.base = w.heap.size := hg.base
    have hrun2 : (results fn a'.tmps).run P w' = .ok (if h : vs.toArray.size = 1 then vs.toArray[0] else .tuple vs.toArray) w' := by
      have hm : fn.results.mapM (fun r : ResultVar => match r with | .tmp t => (pure (a'.tmps.getD t undef) : Sem Value) | .cell b t => do loadVar t (← asAddr (a'.tmps.getD b undef))) =
          List.toArray <$> fn.results.toList.mapM (fun r : ResultVar => match r with | .tmp t => (pure (a'.tmps.getD t undef) : Sem Value) | .cell b t => do loadVar t (← asAddr (a'.tmps.getD b undef))) := Array.mapM_eq_mapM_toList ..
      have hm2 : (fn.results.mapM (fun r : ResultVar => match r with | .tmp t => (pure (a'.tmps.getD t undef) : Sem Value) | .cell b t => do loadVar t (← asAddr (a'.tmps.getD b undef)))).run P w' = .ok vs.toArray w' := by
        rw [hm, map_eq_pure_bind]
        simp only [Sem.run_bind, k2, Result.andThen_ok, Sem.run_pure]
      unfold results
      simp only [Sem.run_bind]
      refine Eq.trans (congrArg (fun r => Result.andThen r _) hm2) ?_
      simp only [Result.andThen_ok, Sem.run_pure]
    rw [hrun2]
    refine ⟨_, rfl, _, γ'.pr, rfl, by rw [← hbase]; exact hr.below, hr.plt, fun b i hb hp => hg.old b i hb hp, ?_⟩
    have one : ∀ (x : AV) (v : Value), AVR γ' s1.lens w' v x → ∀ e p, ownOf s1 x = some (e, p) → p → OwnRow w.heap.size γ'.pr w' e v (plain1 x) := fun x v h1 e p he hp => by
      have := own_row hr h1 he hp
      rw [hbase] at this; exact this
    unfold resOf at hres
    split at hres
    · rename_i x
      simp only [AVRs] at k1
      obtain ⟨v, vs', rfl, h1, rfl⟩ := k1
      have e2 : ∀ e, OwnRow w.heap.size γ'.pr w' e v (plain1 x) → OwnRes w.heap.size γ'.pr w' e v (plain1 x) := fun e => by
        cases x <;> exact fun h => h
      split at hres
      · rename_i e p ho
        cases hres
        refine ⟨by simpa using h1.plain1', fun e he => ?_⟩
        cases he
        simpa using e2 _ (one x v h1 e p ho (hown p (by simp)))
      · cases hres
        exact ⟨by simpa using h1.plain1', fun e he => by cases he⟩
    · cases hres
      simp only [AVRs] at k1
      subst k1
      exact ⟨by simp [V, VL], fun e he => by cases he⟩
    · rename_i x y l
      have hpl := k1.plain
      have hsz : vs.length = l.length + 2 := by rw [hpl.length]; simp
      have hne : ¬ vs.toArray.size = 1 := by simp; omega
      rw [dif_neg hne]
      split at hres
      · rename_i e p ho
        cases hres
        refine ⟨⟨vs, rfl, hpl⟩, fun e he c0 cs0 hc => ?_⟩
        cases he
        simp only [AVRs] at k1
        obtain ⟨v, vs', rfl, h1, _⟩ := k1
        have hc' : v = c0 := by
          injection hc with hc
          have := congrArg Array.toList hc
          simp at this; exact this.1
        subst hc'
        exact one x v h1 e p ho (hown p (by simp))
      · cases hres
        exact ⟨⟨vs, rfl, hpl⟩, fun e he => by cases he⟩
  refine wp_mono (J hrel) fun e a' w' hp => ?_
  obtain ⟨out, hq, hp⟩ := hp
  obtain ⟨s1, l', hout, hres, hown⟩ := hQ out hq
  cases e with
  | normal =>
    obtain ⟨s2, γ2, e2, hg, hr⟩ := hp
    have : s2 = s1 := by rcases hout with h | h <;> rw [h] at e2 <;> cases e2; rfl
    subst this
    exact fin s2 l' γ2 a' w' hres hown hg hr
  | ret =>
    obtain ⟨s2, γ2, e2, hg, hr⟩ := hp
    have : s2 = s1 := by rcases hout with h | h <;> rw [h] at e2 <;> cases e2; rfl
    subst this
    exact fin s2 l' γ2 a' w' hres hown hg hr
  | exit id => obtain ⟨s2, γ2, e2, hg, hr⟩ := hp; rcases hout with h | h <;> rw [h] at e2 <;> cases e2
  | _ => exact hp.elim

theorem body_sound {f : Nat} {fn : Func} {args : List AV} {r : Res} {log : List Prop} (hf : P.funcs[f]? = some fn) (hname : (fn.name == "runtime.NumGoroutine") = false) (h : runBody P call live fuel fn args = some (r, log)) (hlog : ∀ p ∈ log, p) : Ok P f args r := by
  unfold runBody at h
  split at h
  case h_2 => cases h
  rename_i c hb
  have main : ∀ (out : Out) (s1 : St), runCode P call live fuel c (start args fn.ntmps) = some out → (out = .go s1 ∨ out = .ret s1) → args.length ≤ fn.ntmps → ((resVals P s1 fn.results.toList).bind (resOf s1)).map (fun r => (r.1, r.2 ++ s1.log)) = some (r, log) → Ok P f args r := by
    intro out s1 hrun hout hle hres
    simp only [Option.map_eq_some_iff, Prod.mk.injEq] at hres
    obtain ⟨⟨r', l'⟩, hres, er, el⟩ := hres
    simp only at er el
    rw [er] at hres
    have hown : ∀ p ∈ l', p := fun p hp => hlog p (by rw [← el]; simp [hp])
    have hlog2 : ∀ p ∈ s1.log, p := fun p hp => hlog p (by rw [← el]; simp [hp])
    have hlog' : ∀ p ∈ out.st.log, p := by rcases hout with h | h <;> (subst h; exact hlog2)
    exact body_judg (Q := (· = out)) hf hname hb hle (fun hrel => wp_mono (code_sound hmix c hrun hlog' hrel) fun e a' w' hp => ⟨out, rfl, hp⟩) fun o ho => ⟨s1, l', by rw [ho]; exact hout, hres, hown⟩
  split at h
  · rename_i s1 hle hrun
    exact main _ s1 hrun (.inl rfl) (by simpa [Nat.ble_eq] using hle) h
  · rename_i s1 hle hrun
    exact main _ s1 hrun (.inr rfl) (by simpa [Nat.ble_eq] using hle) h
  · cases h
end

end Go.Proofs.YtmhoefpienagkaaDoor

/- Which temporaries are alive at the heads of the loops (printed by live.py). -/
namespace Go.Proofs.YtmhoefpienagkaaDoor
def liveOf (f r : Nat) : Option (List Nat × List Nat) := match f, r with
  | 3, 4 => some ([7, 8], [26])
  | 3, 7 => some ([7, 8, 9], [26])
  | 4, 11 => some ([7, 8, 11, 12], [7, 8, 14, 16, 24])
  | 5, 4 => some ([9, 10, 11], [9, 23, 55])
  | 6, 3 => some ([0, 2, 3, 4], [2, 3, 40])
  | 10, 2 => some ([2, 3, 5], [2, 3])
  | 12, 4 => some ([2, 3, 5, 6, 7], [2, 3, 9, 11])
  | 16, 3 => some ([4, 5, 15, 16, 17], [4, 5, 14])
  | 17, 3 => some ([3, 9, 10, 11], [8])
  | 18, 3 => some ([1, 2, 3, 11, 12, 13], [1, 2, 25, 52])
  | 18, 9 => some ([2, 6, 38, 39, 40], [2, 38, 49, 52])
  | 22, 4 => some ([0, 1, 5], [])
  | 23, 3 => some ([1, 3, 4], [1, 32])
  | 25, 3 => some ([3, 6, 7, 8], [])
  | 28, 12 => some ([3, 4, 8, 10, 11, 14, 53], [4, 8, 10, 11, 14, 34, 42, 48, 52, 71, 86, 98])
  | 32, 1 => some ([1, 2, 4], [2, 4])
  | 34, 3 => some ([1, 2, 3, 4], [1, 2, 11, 39])
  | 34, 6 => some ([1, 2, 3, 4, 23], [1, 2, 11, 39])
  | 34, 13 => some ([1, 2, 6, 40], [1, 2, 6, 39])
  | 35, 5 => some ([3, 4, 5], [])
  | 35, 10 => some ([3, 4, 6, 7], [29])
  | 36, 3 => some ([0, 3, 4], [7])
  | 38, 2 => some ([0, 1, 2, 3, 16, 17], [])
  | 48, 3 => some ([2, 3, 5, 9, 10, 11], [2, 3, 23])
  | 51, 4 => some ([2, 4, 5, 6, 7, 21, 22], [2, 4, 5, 6, 7, 14])
  | 51, 12 => some ([2, 4, 6, 7, 94], [2, 4, 6, 7])
  | 52, 5 => some ([0, 3, 4], [21])
  | 52, 14 => some ([0, 4, 6, 7], [21, 33, 39, 57])
  | 53, 4 => some ([2, 3, 4, 5], [2, 3, 4, 7])
  | 54, 3 => some ([1, 5, 6], [9])
  | 58, 1 => some ([0], [])
  | 64, 3 => some ([1, 2, 3, 15, 16, 17], [1, 2, 3, 51, 66])
  | 64, 7 => some ([1, 2, 3, 6, 15, 16, 17, 22, 23, 24], [1, 2, 3, 6, 44, 51, 66])
  | 64, 15 => some ([2, 3, 55, 56, 57], [2, 3, 51, 66])
  | 66, 4 => some ([0, 1, 12, 13], [])
  | 67, 3 => some ([0, 2, 3, 11], [2, 3])
  | 67, 7 => some ([0, 2, 3, 4, 11, 22, 23, 24], [2, 3])
  | 69, 4 => some ([2, 3, 4, 5], [2, 3, 22])
  | 69, 9 => some ([2, 3, 4, 5, 6, 7, 8, 9, 10, 11, 12, 13, 14, 15], [2, 3, 6, 22, 34])
  | 69, 24 => some ([2, 3, 18, 19], [2, 3, 18])
  | 71, 2 => some ([0, 1, 7, 8], [])
  | 74, 2 => some ([0, 1, 7, 8], [])
  | 75, 2 => some ([0, 1, 7, 8], [])
  | 79, 1 => some ([0, 1, 4], [])
  | 82, 3 => some ([0, 3], [6])
  | 82, 7 => some ([3, 4, 5], [6])
  | 83, 3 => some ([0, 2, 3, 4], [2, 3])
  | 83, 7 => some ([2, 3, 5], [2, 3])
  | 89, 2 => some ([0, 1, 7, 8], [])
  | _, _ => none

end Go.Proofs.YtmhoefpienagkaaDoor

/- Tables of contracts; plain data as abstract values; words for the interpreter's runs. -/
namespace Go.Proofs.YtmhoefpienagkaaDoor
open Go.RowKit

theorem names_all : Tryd.prog.funcs.all (fun fn => !(fn.name == "runtime.NumGoroutine")) = true := by kernel_rfl
theorem names_ok (f : Nat) (fn : Func) (h : Tryd.prog.funcs[f]? = some fn) : (fn.name == "runtime.NumGoroutine") = false := by
  have := Array.all_eq_true_iff_forall_mem.1 names_all fn (Array.mem_of_getElem? h)
  simpa using this
theorem mixed_ok : Tryd.prog.follows .mixedOrders = true := by kernel_rfl

theorem Ok.run {f : Nat} {fn : Func} (call : Orc) (fuel : Nat) {args : List AV} {r : Res} {log : List Prop} (hf : Tryd.prog.funcs[f]? = some fn)
    (h : runBody Tryd.prog call (liveOf f) fuel fn args = some (r, log)) (hlog : ∀ p ∈ log, p) : Ok Tryd.prog f args r :=
  body_sound mixed_ok hf (names_ok f fn hf) h hlog
theorem all1 {p : Prop} (h : p) : ∀ q ∈ [p], q := fun q hq => by rw [List.mem_singleton.1 hq]; exact h
theorem allnil : ∀ q ∈ ([] : List Prop), q := fun q hq => by cases hq
theorem allc {p : Prop} {l : List Prop} (h : p) (k : ∀ q ∈ l, q) : ∀ q ∈ p :: l, q := fun q hq => by
  rcases List.mem_cons.1 hq with e | hq
  · rw [e]; exact h
  · exact k q hq
theorem Ok.weaken {f : Nat} {args args' : List AV} {r : Res} (h : Ok Tryd.prog f args' r) (hw : ∀ pr w cs, VL pr w cs args → VL pr w cs args') : Ok Tryd.prog f args r :=
  ⟨h.1, fun w pr cs hg hp hv => h.2 w pr cs hg hp (hw pr w cs hv)⟩

def I64 (n : Int) : Prop := -9223372036854775808 ≤ n ∧ n ≤ 9223372036854775807
def I64s (xs : List Int) : Prop := ∀ x ∈ xs, I64 x
theorem I64s.at_ {xs : List Int} (h : I64s xs) {i : Nat} {x : Int} (hx : xs[i]? = some x) : I64 x := h x (List.mem_of_getElem? hx)
/-- plain data as abstract values -/
abbrev Ev := Vm.Evt
def iA (n : Int) : AV := .sc (.int .i64 n)
def uA (n : Int) : AV := .sc (.int .u8 n)
def bA (b : Bool) : AV := .sc (.bool b)
def evA (l : List Ev) : List AV := l.flatMap fun e => [iA e.p, iA e.k, iA e.n]
def rowI (l : List Int) : AV := .row none 1 l.length (l.map iA)
def rowU (l : List Int) : AV := .row none 1 l.length (l.map uA)
def rowE (l : List Ev) : AV := .row none 3 l.length (evA l)
def outA (es : List Ev) (en : Int) : AV := .agg [rowE es, iA en]
abbrev plainR (x : AV) : Res := { v := x, own := none }

/-- decoders -/
def deI : List AV → Option (List Int)
  | [] => some []
  | .sc (.int .i64 n) :: xs => (deI xs).map (n :: ·)
  | _ => none
def deU : List AV → Option (List Int)
  | [] => some []
  | .sc (.int .u8 n) :: xs => (deU xs).map (n :: ·)
  | _ => none
def deE : List AV → Option (List Ev)
  | [] => some []
  | .sc (.int .i64 p) :: .sc (.int .i64 k) :: .sc (.int .i64 n) :: xs => (deE xs).map (⟨p, k, n⟩ :: ·)
  | _ => none
def dRow {α : Type} (size : Nat) (de : List AV → Option (List α)) (x : AV) : Option (List α) := match rowOf size x with
  | some (n, xs) => (de xs).bind fun l => match Nat.beq l.length n with | true => some l | false => none
  | none => none
def dI := dRow 1 deI
def dU := dRow 1 deU
def dE := dRow 3 deE
def scOf : Value → AV := .sc
def dAgg : AV → Option (List AV)
  | .sc (.agg cs) => some (cs.toList.map .sc)
  | .agg xs => some xs
  | _ => none
def dInt : AV → Option Int
  | .sc (.int .i64 n) => some n
  | _ => none
def dBool : AV → Option Bool
  | .sc (.bool b) => some b
  | _ => none
def dOut (x : AV) : Option (List Ev × Int) := match dAgg x with
  | some [a, b] => match dE a, dInt b with
    | some es, some en => some (es, en)
    | _, _ => none
  | _ => none

theorem deI_spec : ∀ {xs : List AV} {l : List Int}, deI xs = some l → xs = l.map iA
  | [], l, h => by simp [deI] at h; subst h; rfl
  | x :: xs, l, h => by
    unfold deI at h
    split at h
    · rename_i h'; cases h'
    · rename_i n ys h'
      cases h'
      simp only [Option.map_eq_some_iff] at h
      obtain ⟨l', h, rfl⟩ := h
      rw [deI_spec h]; rfl
    · cases h
theorem deU_spec : ∀ {xs : List AV} {l : List Int}, deU xs = some l → xs = l.map uA
  | [], l, h => by simp [deU] at h; subst h; rfl
  | x :: xs, l, h => by
    unfold deU at h
    split at h
    · rename_i h'; cases h'
    · rename_i n ys h'
      cases h'
      simp only [Option.map_eq_some_iff] at h
      obtain ⟨l', h, rfl⟩ := h
      rw [deU_spec h]; rfl
    · cases h
theorem deE_spec {xs : List AV} {l : List Ev} (h : deE xs = some l) : xs = evA l := by
  induction xs using deE.induct generalizing l with
  | case1 => simp [deE] at h; subst h; rfl
  | case2 p k n xs ih =>
    simp only [deE, Option.map_eq_some_iff] at h
    obtain ⟨l', h, rfl⟩ := h
    rw [ih h]; rfl
  | case3 => simp_all [deE]
theorem deI_map (l : List Int) : deI (l.map iA) = some l := by
  induction l with
  | nil => rfl
  | cons a l ih => simp only [List.map_cons]; rw [show iA a = .sc (.int .i64 a) from rfl]; simp [deI, ih]
theorem deU_map (l : List Int) : deU (l.map uA) = some l := by
  induction l with
  | nil => rfl
  | cons a l ih => simp only [List.map_cons]; rw [show uA a = .sc (.int .u8 a) from rfl]; simp [deU, ih]
theorem deE_evA (l : List Ev) : deE (evA l) = some l := by
  induction l with
  | nil => rfl
  | cons a l ih =>
    have : evA (a :: l) = iA a.p :: iA a.k :: iA a.n :: evA l := by simp [evA]
    rw [this]; simp [iA, deE, ih]
theorem dI_row (t : Option (Nat × Nat)) (l : List Int) : dI (.row t 1 l.length (l.map iA)) = some l := by simp [dI, dRow, rowOf, deI_map]
theorem dU_row (t : Option (Nat × Nat)) (l : List Int) : dU (.row t 1 l.length (l.map uA)) = some l := by simp [dU, dRow, rowOf, deU_map]
theorem dE_row (t : Option (Nat × Nat)) (l : List Ev) : dE (.row t 3 l.length (evA l)) = some l := by simp [dE, dRow, rowOf, deE_evA]
theorem dI_nil : dI (.sc (.slice none 0 0)) = some [] := rfl
theorem dE_nil : dE (.sc (.slice none 0 0)) = some [] := rfl
theorem dU_nil : dU (.sc (.slice none 0 0)) = some [] := rfl
theorem dI_rowI (l : List Int) : dI (rowI l) = some l := dI_row none l
theorem dU_rowU (l : List Int) : dU (rowU l) = some l := dU_row none l
theorem dE_rowE (l : List Ev) : dE (rowE l) = some l := dE_row none l

section
variable {pr : Nat → Nat → Prop} {w : World} {c : Value}
theorem rowOf_V' {size n : Nat} {xs : List AV} : ∀ {x : AV}, rowOf size x = some (n, xs) → V pr w c x → V pr w c (.row none size n xs)
  | .tup _, h, _ => by simp [rowOf] at h
  | .ptr _ _, h, _ => by simp [rowOf] at h
  | .undef, h, v => rowOf_V h v
  | .sc _, h, v => rowOf_V h v
  | .row .., h, v => rowOf_V h (V_plain v)
  | .mt, h, v => rowOf_V h v
  | .agg _, h, v => rowOf_V h v
  | .rptr _, h, v => rowOf_V h v
theorem dRow_V {α : Type} {size : Nat} {de : List AV → Option (List α)} {x : AV} {l : List α} {g : List α → List AV} (hg : ∀ xs l, de xs = some l → xs = g l) (h : dRow size de x = some l) (hv : V pr w c x) : V pr w c (.row none size l.length (g l)) := by
  unfold dRow at h
  split at h
  case h_2 => cases h
  rename_i n xs hr
  simp only [Option.bind_eq_some_iff] at h
  obtain ⟨l', h1, h2⟩ := h
  split at h2
  · rename_i hb
    cases h2
    have := Nat.eq_of_beq_eq_true hb
    subst this
    rw [← hg xs l h1]; exact rowOf_V' hr hv
  · cases h2
theorem dI_V {x : AV} {l : List Int} (h : dI x = some l) (hv : V pr w c x) : V pr w c (rowI l) := dRow_V (fun xs l h => deI_spec h) h hv
theorem dU_V {x : AV} {l : List Int} (h : dU x = some l) (hv : V pr w c x) : V pr w c (rowU l) := dRow_V (fun xs l h => deU_spec h) h hv
theorem dE_V {x : AV} {l : List Ev} (h : dE x = some l) (hv : V pr w c x) : V pr w c (rowE l) := dRow_V (fun xs l h => deE_spec h) h hv
theorem dInt_V {x : AV} {n : Int} (h : dInt x = some n) (hv : V pr w c x) : V pr w c (iA n) := by
  unfold dInt at h; split at h <;> cases h; exact hv
theorem dBool_V {x : AV} {n : Bool} (h : dBool x = some n) (hv : V pr w c x) : V pr w c (bA n) := by
  unfold dBool at h; split at h <;> cases h; exact hv
end
end Go.Proofs.YtmhoefpienagkaaDoor

/- Judgements: pieces of code one after the other, loops. -/
namespace Go.Proofs.YtmhoefpienagkaaDoor
open Go.RowKit

def Judg (c : Code) (s : St) (Q : Out → Prop) : Prop := ∀ (γ : Gh) (w0 : World) (a : Act) (w : World), Rel γ w0 s a w → c.wp Tryd.prog (fun e a' w' => ∃ out, Q out ∧ PostOf γ w0 out e a' w') a w
def stOf : Option Out → St
  | some (.go s) => s
  | some (.exit _ s) => s
  | some (.ret s) => s
  | none => { n := 0, slots := [], objs := [], lens := [] }
def clean (L N : List Nat) (s : St) : St := { s.mask L N with log := [] }

theorem PostOf.trans {γ γ' : Gh} {w0 : World} {out : Out} {e : Exit} {a : Act} {w : World} (h : GExt γ γ') (k : PostOf γ' w0 out e a w) : PostOf γ w0 out e a w := by
  cases e with
  | normal => obtain ⟨s, γ2, q1, q2, q3⟩ := k; exact ⟨s, γ2, q1, h.trans q2, q3⟩
  | exit id => obtain ⟨s, γ2, q1, q2, q3⟩ := k; exact ⟨s, γ2, q1, h.trans q2, q3⟩
  | ret => obtain ⟨s, γ2, q1, q2, q3⟩ := k; exact ⟨s, γ2, q1, h.trans q2, q3⟩
  | _ => exact k
theorem Judg.mono {c : Code} {s : St} {Q Q' : Out → Prop} (h : Judg c s Q) (hq : ∀ o, Q o → Q' o) : Judg c s Q' := fun _ _ _ _ hr => wp_mono (h _ _ _ _ hr) fun _ _ _ ⟨o, q, p⟩ => ⟨o, hq o q, p⟩
/-- a piece of code is run -/
theorem Judg.run (call : Orc) (live : Nat → Option (List Nat × List Nat)) (fuel : Nat) {c : Code} {s : St} {Q : Out → Prop} {o : Out} (h : runCode Tryd.prog call live fuel c s = some o) (hl : ∀ p ∈ o.st.log, p) (hq : Q o) : Judg c s Q := fun _ _ _ _ hr =>
  wp_mono (code_sound mixed_ok c h hl hr) fun _ _ _ hp => ⟨o, hq, hp⟩
/-- only what is alive counts -/
theorem Judg.clean {L N : List Nat} {c : Code} {s t : St} {Q : Out → Prop} (h : clean L N s = t) (k : Judg c t Q) : Judg c s Q := fun _ _ _ _ hr => by
  subst h
  exact k _ _ _ _ ((hr.mask L N).withLog [])
theorem Judg.seq {x y : Code} {s : St} {Q : Out → Prop} (h : Judg x s fun o => match o with | .go s' => Judg y s' Q | o => Q o) : Judg (.seq x y) s Q := fun γ w0 a w hr =>
  wp_seq (wp_mono (h _ _ _ _ hr) fun e a' w' ⟨o, q, p⟩ => by
    cases e with
    | normal =>
      obtain ⟨s', γ', e', hg, hr'⟩ := p
      subst e'
      exact wp_mono (q _ _ _ _ hr') fun e a w ⟨o, q, p⟩ => ⟨o, q, p.trans hg⟩
    | exit i => obtain ⟨s', γ', e', hg, hr'⟩ := id p; subst e'; exact ⟨_, q, p⟩
    | ret => obtain ⟨s', γ', e', hg, hr'⟩ := id p; subst e'; exact ⟨_, q, p⟩
    | _ => exact p.elim)
theorem Judg.block {id : Nat} {c : Code} {s : St} {Q : Out → Prop} (h : Judg c s fun o => match o with | .exit id' s' => if id' = id then Q (.go s') else Q o | o => Q o) : Judg (.block id c) s Q := fun γ w0 a w hr =>
  wp_block (wp_mono (h _ _ _ _ hr) fun e a' w' ⟨o, q, p⟩ => by
    cases e with
    | normal => obtain ⟨s', γ', e', hg, hr'⟩ := (show PostOf γ w0 o .normal a' w' from p); subst e'; exact ⟨_, q, p⟩
    | ret => obtain ⟨s', γ', e', hg, hr'⟩ := (show PostOf γ w0 o .ret a' w' from p); subst e'; exact ⟨_, q, p⟩
    | exit id' =>
      obtain ⟨s', γ', e', hg, hr'⟩ := (show PostOf γ w0 o (.exit id') a' w' from p)
      subst e'
      simp only [Exit.inBlock]
      by_cases hid : id' = id
      · rw [if_pos hid]
        simp only [hid, if_true] at q
        exact ⟨_, q, s', γ', rfl, hg, hr'⟩
      · rw [if_neg hid]
        simp only [hid, if_false] at q
        exact ⟨_, q, p⟩
    | _ => exact p.elim)
theorem Judg.cond_true {c : Operand} {x y : Code} {s : St} {Q : Out → Prop} (hc : s.eval c = .sc (.bool true)) (h : Judg x s Q) : Judg (.cond c x y) s Q := fun _ _ _ _ hr => wp_cond_true (ev_sc hr.eval hc) (h _ _ _ _ hr)
theorem Judg.cond_false {c : Operand} {x y : Code} {s : St} {Q : Out → Prop} (hc : s.eval c = .sc (.bool false)) (h : Judg y s Q) : Judg (.cond c x y) s Q := fun _ _ _ _ hr => wp_cond_false (ev_sc hr.eval hc) (h _ _ _ _ hr)
open Classical in
theorem Judg.loop {c : Code} {s : St} {Q : Out → Prop} (Inv : Nat → St → Prop) {n : Nat} (h0 : Inv n s)
    (step : ∀ n s, Inv n s → Judg c s fun o => match o with | .go s' => ∃ m, m < n ∧ Inv m s' | o => Q o) : Judg (.loop c) s Q := fun γ w0 a w hr => by
  let Pr : Nat → Act → World → Prop := fun k a w => ∃ γ' s', GExt γ γ' ∧ Rel γ' w0 s' a w ∧ Inv k s'
  refine wp_loop (fun a w => ∃ k, Pr k a w) (fun a w => if h : ∃ k, Pr k a w then (least h).choose else 0) ⟨n, γ, s, GExt.refl γ, hr, h0⟩ ?_
  intro a w hI
  have hk := (least hI).choose_spec.1
  generalize hke : (least hI).choose = k at hk
  have hμ : (if h : ∃ k, Pr k a w then (least h).choose else 0) = k := by rw [dif_pos hI]; exact hke
  rw [hμ]
  obtain ⟨γ', s', hg, hr', hi⟩ := hk
  refine wp_mono (step k s' hi _ _ _ _ hr') fun e a' w' ⟨o, q, p⟩ => ?_
  cases e with
  | normal =>
    obtain ⟨s2, γ2, e2, hg2, hr2⟩ := p
    subst e2
    obtain ⟨m, hm, hi2⟩ := q
    have hP : Pr m a' w' := ⟨γ2, s2, hg.trans hg2, hr2, hi2⟩
    refine ⟨⟨m, hP⟩, ?_⟩
    have hex : ∃ k, Pr k a' w' := ⟨m, hP⟩
    show (if h : ∃ k, Pr k a' w' then (least h).choose else 0) < k
    rw [dif_pos hex]
    exact Nat.lt_of_le_of_lt ((least hex).choose_spec.2 m hP) hm
  | exit i => obtain ⟨s3, γ3, e3, hg3, hr3⟩ := id p; subst e3; exact ⟨_, q, p.trans hg⟩
  | ret => obtain ⟨s3, γ3, e3, hg3, hr3⟩ := id p; subst e3; exact ⟨_, q, p.trans hg⟩
  | _ => exact p.elim

def pre : Nat → Code → Code
  | n + 1, .seq a b => .seq a (pre n b)
  | _, _ => .skip
def post : Nat → Code → Code
  | n + 1, .seq _ b => post n b
  | _, c => c
/-- the first n pieces are run -/
theorem Judg.pre (call : Orc) (live : Nat → Option (List Nat × List Nat)) (fuel : Nat) {Q : Out → Prop} : ∀ (n : Nat) {c : Code} {s s' : St}, runCode Tryd.prog call live fuel (pre n c) s = some (.go s') → (∀ p ∈ s'.log, p) → Judg (post n c) s' Q → Judg c s Q
  | 0, c, s, s', h, _, k => by
    have e : YtmhoefpienagkaaDoor.pre 0 c = .skip := by cases c <;> rfl
    have e2 : YtmhoefpienagkaaDoor.post 0 c = c := by cases c <;> rfl
    rw [e] at h
    simp only [runCode, Option.some.injEq, Out.go.injEq] at h
    subst h; rw [e2] at k; exact k
  | n + 1, c, s, s', h, hl, k => by
    cases c with
    | seq a b =>
      simp only [YtmhoefpienagkaaDoor.pre, runCode] at h
      simp only [YtmhoefpienagkaaDoor.post] at k
      cases ha : runCode Tryd.prog call live fuel a s with
      | none => rw [ha] at h; simp at h
      | some o =>
        rw [ha] at h
        cases o with
        | go s1 =>
          simp only at h
          exact Judg.seq (Judg.run call live fuel ha (fun p hp => hl p (code_log _ h p hp)) (Judg.pre call live fuel n h hl k))
        | exit id s1 => simp at h
        | ret s1 => simp at h
    | _ =>
      simp only [YtmhoefpienagkaaDoor.pre, runCode, Option.some.injEq, Out.go.injEq] at h
      subst h; simp only [YtmhoefpienagkaaDoor.post] at k; exact k
/-- the parts of '(start ; loop in a block) ; rest' -/
def fR : Code → Code | .seq (.seq r _) _ => r | _ => .skip
def fI : Code → Nat | .seq (.seq _ (.block id _)) _ => id | _ => 0
def fB : Code → Code | .seq (.seq _ (.block _ (.loop b))) _ => b | _ => .skip
def fK : Code → Code | .seq _ k => k | _ => .skip
def endOf (id : Nat) (rest : Code) (Q : Out → Prop) (again : St → Prop) : Out → Prop
  | .go s' => again s'
  | .exit id' s' => if id' = id then Judg rest s' Q else Q (.exit id' s')
  | .ret s' => Q (.ret s')
/-- A loop: its states at the head are named by indices. -/
theorem Judg.for_ {ι : Type} (L N : List Nat) (st : ι → St) (μ : ι → Nat) (Pi : ι → Prop) {c : Code} (hc : c = .seq (.seq (fR c) (.block (fI c) (.loop (fB c)))) (fK c)) {s s1 : St} {Q : Out → Prop}
    (call : Orc) (live : Nat → Option (List Nat × List Nat)) (hr : runCode Tryd.prog call live 0 (fR c) s = some (.go s1)) (hl : ∀ p ∈ s1.log, p) (i0 : ι) (h0 : Pi i0) (hs0 : YtmhoefpienagkaaDoor.clean L N s1 = st i0)
    (step : ∀ i, Pi i → Judg (fB c) (st i) (endOf (fI c) (fK c) Q fun s' => ∃ j, Pi j ∧ μ j < μ i ∧ YtmhoefpienagkaaDoor.clean L N s' = st j)) : Judg c s Q := by
  rw [hc]
  refine Judg.seq (Judg.seq (Judg.run call live 0 hr hl (Judg.block (Judg.loop (fun n s => ∃ i, Pi i ∧ n = μ i ∧ YtmhoefpienagkaaDoor.clean L N s = st i) ⟨i0, h0, rfl, hs0⟩ ?_))))
  rintro n s' ⟨i, hi, rfl, hs⟩
  refine (Judg.clean hs (step i hi)).mono fun o ho => ?_
  cases o with
  | go s2 =>
    obtain ⟨j, h1, h2, h3⟩ := ho
    exact ⟨μ j, h2, j, h1, rfl, h3⟩
  | exit id' s2 =>
    simp only [endOf] at ho ⊢
    split
    · rename_i e; rw [if_pos e] at ho; exact ho
    · rename_i e; rw [if_neg e] at ho; exact ho
  | ret s2 => exact ho
/-- the loop that stands in a block, and what comes behind it -/
def blk1 : Code → Code
  | .seq (.block _ c) _ => c
  | .block _ c => c
  | _ => .skip
def loop1 : Code → Code
  | .loop c => c
  | _ => .skip
theorem Judg.blockSeq {id : Nat} {c d : Code} {s : St} {Q : Out → Prop} (h : Judg c s fun o => match o with | .exit id' s' => if id' = id then Judg d s' Q else Q o | .go s' => Judg d s' Q | o => Q o) : Judg (.seq (.block id c) d) s Q :=
  Judg.seq (Judg.block (h.mono fun o ho => by
    cases o with
    | exit id' s' =>
      simp only at ho ⊢
      split
      · rename_i e; rw [if_pos e] at ho; exact ho
      · rename_i e; rw [if_neg e] at ho; exact ho
    | go s' => exact ho
    | ret s' => exact ho))

/-- the function's answer, from a judgement on its body -/
theorem Ok.judg {f : Nat} {fn : Func} {c : Code} {args : List AV} {r : Res} (hf : Tryd.prog.funcs[f]? = some fn) (hb : fn.body = some c) (hle : args.length ≤ fn.ntmps)
    (J : Judg c (start args fn.ntmps) fun out => ∃ s1 l, (out = .go s1 ∨ out = .ret s1) ∧ (resVals Tryd.prog s1 fn.results.toList).bind (resOf s1) = some (r, l) ∧ ∀ p ∈ l, p) : Ok Tryd.prog f args r :=
  body_judg (Q := fun out => ∃ s1 l, (out = .go s1 ∨ out = .ret s1) ∧ (resVals Tryd.prog s1 fn.results.toList).bind (resOf s1) = some (r, l) ∧ ∀ p ∈ l, p) hf (names_ok f fn hf) hb hle (fun hr => J _ _ _ _ hr) fun _ h => h
def bodyOf (fn : Func) : Code := match fn.body with | some c => c | none => .skip

/-- what hints claim -/
theorem hLss (t : TypeId) (x y : Operand) (a b : Int) (v : Bool) (h : decide (a < b) = v) : (peek Tryd.prog (do eqGuard .lss t x y (.int .i64 a) (.int .i64 b); binOp .lss t (.int .i64 a) (.int .i64 b))).map (fun v => Cmd.val (.sc v)) = some (.val (bA v)) := by
  subst h; rfl
theorem hLeq (t : TypeId) (x y : Operand) (a b : Int) (v : Bool) (h : decide (a ≤ b) = v) : (peek Tryd.prog (do eqGuard .leq t x y (.int .i64 a) (.int .i64 b); binOp .leq t (.int .i64 a) (.int .i64 b))).map (fun v => Cmd.val (.sc v)) = some (.val (bA v)) := by
  subst h; rfl
theorem hGtr (t : TypeId) (x y : Operand) (a b : Int) (v : Bool) (h : decide (a > b) = v) : (peek Tryd.prog (do eqGuard .gtr t x y (.int .i64 a) (.int .i64 b); binOp .gtr t (.int .i64 a) (.int .i64 b))).map (fun v => Cmd.val (.sc v)) = some (.val (bA v)) := by
  subst h; rfl
theorem hGeq (t : TypeId) (x y : Operand) (a b : Int) (v : Bool) (h : decide (a ≥ b) = v) : (peek Tryd.prog (do eqGuard .geq t x y (.int .i64 a) (.int .i64 b); binOp .geq t (.int .i64 a) (.int .i64 b))).map (fun v => Cmd.val (.sc v)) = some (.val (bA v)) := by
  subst h; rfl
theorem hEql (t : TypeId) (x y : Operand) (a b : Int) (v : Bool) (h : (a == b) = v) : (peek Tryd.prog (do eqGuard .eql t x y (.int .i64 a) (.int .i64 b); binOp .eql t (.int .i64 a) (.int .i64 b))).map (fun v => Cmd.val (.sc v)) = some (.val (bA v)) := by
  subst h; rfl
theorem hNeq (t : TypeId) (x y : Operand) (a b : Int) (v : Bool) (h : (a != b) = v) : (peek Tryd.prog (do eqGuard .neq t x y (.int .i64 a) (.int .i64 b); binOp .neq t (.int .i64 a) (.int .i64 b))).map (fun v => Cmd.val (.sc v)) = some (.val (bA v)) := by
  subst h; rfl
theorem wrap_id {n : Int} (h : I64 n) : IntKind.i64.wrap n = n := by rw [IntKind.wrap_i64]; obtain ⟨h1, h2⟩ := h; omega
theorem hAdd (t : TypeId) (x y : Operand) (a b c : Int) (h : a + b = c) (hc : I64 c) : (peek Tryd.prog (do eqGuard .add t x y (.int .i64 a) (.int .i64 b); binOp .add t (.int .i64 a) (.int .i64 b))).map (fun v => Cmd.val (.sc v)) = some (.val (iA c)) := by
  subst h
  have e : (peek Tryd.prog (do eqGuard .add t x y (.int .i64 a) (.int .i64 b); binOp .add t (.int .i64 a) (.int .i64 b))).map (fun v => Cmd.val (.sc v)) = some (.val (iA (IntKind.i64.wrap (a + b)))) := rfl
  rw [e, wrap_id hc]
theorem hSub (t : TypeId) (x y : Operand) (a b c : Int) (h : a - b = c) (hc : I64 c) : (peek Tryd.prog (do eqGuard .sub t x y (.int .i64 a) (.int .i64 b); binOp .sub t (.int .i64 a) (.int .i64 b))).map (fun v => Cmd.val (.sc v)) = some (.val (iA c)) := by
  subst h
  have e : (peek Tryd.prog (do eqGuard .sub t x y (.int .i64 a) (.int .i64 b); binOp .sub t (.int .i64 a) (.int .i64 b))).map (fun v => Cmd.val (.sc v)) = some (.val (iA (IntKind.i64.wrap (a - b)))) := rfl
  rw [e, wrap_id hc]
theorem elem22 : elemT Tryd.prog 22 = some 3 := by kernel_rfl
theorem elem23 : elemT Tryd.prog 23 = some 33 := by kernel_rfl
theorem elem34 : elemT Tryd.prog 42 = some 5 := by kernel_rfl
theorem sz3 : szT Tryd.prog 3 = some 1 := by kernel_rfl
theorem sz5 : szT Tryd.prog 5 = some 1 := by kernel_rfl
theorem sz71 : szT Tryd.prog 33 = some 3 := by kernel_rfl
theorem drop_at {α : Type} {l : List α} {k : Nat} {x : α} (h : l[k]? = some x) : l.drop k = x :: l.drop (k + 1) := by
  obtain ⟨hk, hx⟩ := List.getElem?_eq_some_iff.1 h
  rw [List.drop_eq_getElem_cons hk, hx]
theorem hIdxI {tok : Option (Nat × Nat)} {l : List Int} {k : Nat} {x : Int} (h : l[k]? = some x) : cmdIndexAddr Tryd.prog 22 (.row tok 1 l.length (l.map iA)) (iA k) = some (.val (.rptr (iA x :: (l.drop (k + 1)).map iA))) := by
  have hk : k < l.length := (List.getElem?_eq_some_iff.1 h).1
  simp only [cmdIndexAddr, iA, elem22, Option.bind_some, sz3]
  rw [if_pos ⟨by trivial, by omega, by omega⟩]
  have e : ((k : Int)).toNat * 1 = k := by simp
  rw [e, ← List.map_drop, drop_at h]
  rfl
theorem hIdxU {tok : Option (Nat × Nat)} {l : List Int} {k : Nat} {x : Int} (h : l[k]? = some x) : cmdIndexAddr Tryd.prog 42 (.row tok 1 l.length (l.map uA)) (iA k) = some (.val (.rptr (uA x :: (l.drop (k + 1)).map uA))) := by
  have hk : k < l.length := (List.getElem?_eq_some_iff.1 h).1
  simp only [cmdIndexAddr, iA, elem34, Option.bind_some, sz5]
  rw [if_pos ⟨by trivial, by omega, by omega⟩]
  have e : ((k : Int)).toNat * 1 = k := by simp
  rw [e, ← List.map_drop, drop_at h]
  rfl
theorem evA_cons (e : Ev) (l : List Ev) : evA (e :: l) = iA e.p :: iA e.k :: iA e.n :: evA l := by simp [evA]
theorem evA_length (l : List Ev) : (evA l).length = l.length * 3 := by
  induction l with
  | nil => rfl
  | cons e l ih => rw [evA_cons]; simp only [List.length_cons, ih]; omega
theorem evA_append (a b : List Ev) : evA (a ++ b) = evA a ++ evA b := by simp [evA]
theorem evA_drop (l : List Ev) (k : Nat) : (evA l).drop (k * 3) = evA (l.drop k) := by
  induction k generalizing l with
  | zero => simp
  | succ k ih =>
    cases l with
    | nil => simp [evA]
    | cons e l => rw [evA_cons, show (k + 1) * 3 = k * 3 + 1 + 1 + 1 by omega]; simp [ih]
theorem evA_take (l : List Ev) (k : Nat) : (evA l).take (k * 3) = evA (l.take k) := by
  induction k generalizing l with
  | zero => simp [evA]
  | succ k ih =>
    cases l with
    | nil => simp [evA]
    | cons e l => rw [evA_cons, show (k + 1) * 3 = k * 3 + 1 + 1 + 1 by omega, List.take_succ_cons, List.take_succ_cons, List.take_succ_cons, List.take_succ_cons, evA_cons, ih]
theorem hIdxE {tok : Option (Nat × Nat)} {l : List Ev} {k : Nat} {x : Ev} (h : l[k]? = some x) : cmdIndexAddr Tryd.prog 23 (.row tok 3 l.length (evA l)) (iA k) = some (.val (.rptr (iA x.p :: iA x.k :: iA x.n :: evA (l.drop (k + 1))))) := by
  have hk : k < l.length := (List.getElem?_eq_some_iff.1 h).1
  simp only [cmdIndexAddr, iA, elem23, Option.bind_some, sz71]
  rw [if_pos ⟨by trivial, by omega, by omega⟩]
  have e : ((k : Int)).toNat * 3 = k * 3 := by simp
  rw [e, evA_drop, drop_at h, evA_cons]
  rfl
end Go.Proofs.YtmhoefpienagkaaDoor

/- Hints, and what they claim. -/
namespace Go.Proofs.YtmhoefpienagkaaDoor
open Go.RowKit
/-- hints: the answers of some operations -/
def hints : List (Nat × Cmd) → Option Nat → Option Cmd
  | [], _ => none
  | (d, c) :: l, some t => match Nat.beq t d with | true => some c | false => hints l (some t)
  | _, none => none
def calls : List (Nat × Res) → Option Nat → Option Res
  | [], _ => none
  | (d, r) :: l, some t => match Nat.beq t d with | true => some r | false => calls l (some t)
  | _, none => none
def orc (l : List (Nat × Cmd)) : Orc := { call := fun _ _ _ => none, hint := hints l }
/-- with answers of calls, by the place where the answer goes -/
def orcC (c : List (Nat × Res)) (l : List (Nat × Cmd)) : Orc := { call := fun d _ _ => calls c d, hint := hints l }
abbrev pB (op : BinOp) (t : TypeId) (x y : Operand) (a b : Value) (v : AV) : Prop := (peek Tryd.prog (do eqGuard op t x y a b; binOp op t a b)).map (fun v => Cmd.val (.sc v)) = some (.val v)
def evV (e : Ev) : Value := .agg #[.int .i64 e.p, .int .i64 e.k, .int .i64 e.n]

section
variable {P : Program} {α β : Type}
theorem peek_bind' (f : α → Sem β) : ∀ (m : Sem α), peek P (Sem.bind m f) = (peek P m).bind fun a => peek P (f a)
  | .pure a => rfl
  | .program k => by simp only [Sem.bind, peek]; exact peek_bind' f (k P)
  | .load .. | .store .. | .new .. | .shape .. | .freeze .. | .frozen .. | .getObj .. | .setObj .. | .choose .. | .sys .. | .mark .. | .halt .. => by simp [Sem.bind, peek]
theorem peek_bind (m : Sem α) (f : α → Sem β) : peek P (m >>= f) = (peek P m).bind fun a => peek P (f a) := peek_bind' f m
theorem peek_pure (a : α) : peek P (pure a : Sem α) = some a := rfl
theorem peek_program : peek P program = some P := rfl
theorem peek_ite (c : Prop) [Decidable c] (a b : Sem α) : peek P (if c then a else b) = if c then peek P a else peek P b := by split <;> rfl
theorem peek_underlying {t : TypeId} {d : TypeDesc} (h : P.underlying t = some d) : peek P (underlying t) = some d := by
  simp only [underlying, peek_bind, peek_program, Option.bind_some, h, peek_pure]
end
theorem peek_eqInt {P : Program} (h3 : P.underlying 3 = some (.int .i64)) (d : Nat) (a b : Int) : peek P (Op.equalIn (d + 1) 3 (.int .i64 a) (.int .i64 b)) = some (a == b) := by
  rw [Op.equalIn, peek_bind, peek_underlying h3]
  rfl
theorem peek_part3 {P : Program} (h3 : P.underlying 3 = some (.int .i64)) (cs : Array Value) (i : Nat) (v : Value) (h : cs[i]? = some v) : peek P (part 3 cs i) = some v := by
  unfold part isAgg
  rw [peek_bind, peek_bind, peek_underlying h3, Option.bind_some]
  simp only [peek_pure, Option.bind_some, Bool.false_eq_true, if_false, h]
theorem peek_eqEv {P : Program} (h3 : P.underlying 3 = some (.int .i64)) {f1 f2 f3 : Field} (h71 : P.underlying 33 = some (.struct #[f1, f2, f3])) (t1 : f1.type = 3) (t2 : f2.type = 3) (t3 : f3.type = 3) (o1 : f1.offset = 0) (o2 : f2.offset = 1) (o3 : f3.offset = 2)
    (n1 : f1.name ≠ "_") (n2 : f2.name ≠ "_") (n3 : f3.name ≠ "_") (hs : P.stoodInHeld 33 = false) (d : Nat) (a b : Ev) : peek P (Op.equalIn (d + 2) 33 (evV a) (evV b)) = some (decide (a = b)) := by
  obtain ⟨p, k, n⟩ := a
  obtain ⟨p', k', n'⟩ := b
  simp only [evV]
  rw [Op.equalIn]
  simp only [peek_bind, peek_underlying h71, Option.bind_some, peek_program, hs]
  simp only [Bool.false_eq_true, if_false]
  have q : ∀ (x y z : Value), peek P (part 3 #[x, y, z] 0) = some x ∧ peek P (part 3 #[x, y, z] 1) = some y ∧ peek P (part 3 #[x, y, z] 2) = some z := fun x y z => ⟨peek_part3 h3 _ _ _ rfl, peek_part3 h3 _ _ _ rfl, peek_part3 h3 _ _ _ rfl⟩
  simp only [List.forIn_cons, List.forIn_nil, Array.forIn_toList, List.forIn_toArray, peek_bind, peek_ite, t1, t2, t3, o1, o2, o3, n1, n2, n3, q, peek_eqInt h3, peek_pure, Option.bind_some, ne_eq, not_false_eq_true, if_true]
  by_cases e1 : p = p' <;> by_cases e2 : k = k' <;> by_cases e3 : n = n' <;> simp [e1, e2, e3, peek_bind, peek_pure, peek_ite, q, peek_eqInt h3, t1, t2, t3, o1, o2, o3, n1, n2, n3, pure, peek]
theorem stood71 : Tryd.prog.stoodInHeld 33 = false := by kernel_rfl
theorem guard71 (op : BinOp) (x y : Operand) (a b : Ev) : peek Tryd.prog (eqGuard op 33 x y (evV a) (evV b)) = some () := by
  cases op <;> kernel_rfl
theorem equal71 (a b : Ev) : peek Tryd.prog (Op.equal 33 (evV a) (evV b)) = some (decide (a = b)) :=
  peek_eqEv Tryd.underlying3 Tryd.underlying33 rfl rfl rfl rfl rfl rfl (by decide) (by decide) (by decide) stood71 9998 a b
theorem hNeqE (x y : Operand) (a b : Ev) (v : Bool) (h : decide (a ≠ b) = v) : pB .neq 33 x y (evV a) (evV b) (bA v) := by
  subst h
  have e : peek Tryd.prog (binOp .neq 33 (evV a) (evV b)) = some (.bool (!decide (a = b))) := by
    show peek Tryd.prog (do pure (Value.bool (!(← Op.equal 33 (evV a) (evV b)))) : Sem Value) = _
    rw [peek_bind, equal71]; rfl
  unfold pB
  rw [peek_bind, guard71, Option.bind_some, e]
  simp [bA]
theorem hEqlE (x y : Operand) (a b : Ev) (v : Bool) (h : decide (a = b) = v) : pB .eql 33 x y (evV a) (evV b) (bA v) := by
  subst h
  have e : peek Tryd.prog (binOp .eql 33 (evV a) (evV b)) = some (.bool (decide (a = b))) := by
    show peek Tryd.prog (do pure (Value.bool (← Op.equal 33 (evV a) (evV b))) : Sem Value) = _
    rw [peek_bind, equal71]; rfl
  unfold pB
  rw [peek_bind, guard71, Option.bind_some, e]
  simp [bA]
theorem Judg.pre' (f : Nat) (H : Orc) (n : Nat) {c : Code} {s : St} {Q : Out → Prop} (s' : St) (log : List Prop) (h : runCode Tryd.prog H (liveOf f) 0 (YtmhoefpienagkaaDoor.pre n c) s = some (.go s')) (hl : s'.log = log) (hp : ∀ p ∈ log, p)
    (k : Judg (post n c) s' Q) : Judg c s Q := Judg.pre H (liveOf f) 0 n h (by rw [hl]; exact hp) k
theorem Judg.run' (f : Nat) (H : Orc) {c : Code} {s : St} {Q : Out → Prop} (o : Out) (log : List Prop) (h : runCode Tryd.prog H (liveOf f) 0 c s = some o) (hl : o.st.log = log) (hp : ∀ p ∈ log, p) (q : Q o) : Judg c s Q :=
  Judg.run H (liveOf f) 0 h (by rw [hl]; exact hp) q
theorem Ok.run' (f : Nat) (H : Orc) {fn : Func} {args : List AV} {r : Res} (hf : Tryd.prog.funcs[f]? = some fn) (log : List Prop) (h : runBody Tryd.prog H (liveOf f) 0 fn args = some (r, log)) (hp : ∀ p ∈ log, p) : Ok Tryd.prog f args r := Ok.run H 0 hf h hp
/-- the results, at the end of a judgement -/
theorem fin_ret {fn : Func} {r : Res} {l : List Prop} (s1 : St) (h : (resVals Tryd.prog s1 fn.results.toList).bind (resOf s1) = some (r, l)) (hl : ∀ p ∈ l, p) :
    ∃ s2 l, (Out.ret s1 = .go s2 ∨ Out.ret s1 = .ret s2) ∧ (resVals Tryd.prog s2 fn.results.toList).bind (resOf s2) = some (r, l) ∧ ∀ p ∈ l, p := ⟨s1, l, .inr rfl, h, hl⟩
end Go.Proofs.YtmhoefpienagkaaDoor

/- Regions whose last operations are looked at by hand. -/
namespace Go.Proofs.YtmhoefpienagkaaDoor
open Go.RowKit

section
variable {P : Program} {call : Orc} {ops : Array Oper} {w0 : World} {Q : Exit → Act → World → Prop}
/-- the first operations of a list are run -/
theorem ops_part {l2 : List Nat} : ∀ (l : List Nat) (ps : List Oper) {γ : Gh} {s t : St} {a : Act} {w : World}, l.map (ops[·]?) = ps.map some → runS P call ops ps s = some t → (∀ p ∈ t.log, p) → Rel γ w0 s a w →
    (∀ γ' a' w', GExt γ γ' → Rel γ' w0 t a' w' → wpOps P ops Q l2 a' w') → wpOps P ops Q (l ++ l2) a w
  | [], [], γ, s, t, a, w, _, h, _, hrel, hQ => by
    simp only [runS, Option.some.injEq] at h; subst h
    exact hQ γ a w (GExt.refl γ) hrel
  | [], _ :: _, _, _, _, _, _, hl, _, _, _, _ => by simp at hl
  | _ :: _, [], _, _, _, _, _, hl, _, _, _, _ => by simp at hl
  | i :: l, o :: ps, γ, s, t, a, w, hl, h, hlog, hrel, hQ => by
    simp only [List.map_cons, List.cons.injEq] at hl
    simp only [runS, Option.bind_eq_some_iff] at h
    obtain ⟨s1, h1, h2⟩ := h
    rw [List.cons_append, wpOps_cons]
    have fin : ∀ {γ0 : Gh} {s0 : St}, GExt γ γ0 → Rel γ0 w0 s0 a w → stepOp P call ops [] o s0 = some s1 → wpOp P ops Q i (wpOps P ops Q (l ++ l2)) a w := fun {γ0 s0} hg hr hs =>
      step_sound hl.1 hr hs (fun p hp => hlog p (runS_log ps h2 p hp)) fun γ' a' w' e hr => ops_part l ps hl.2 h2 hlog hr fun γ'' a'' w'' e' hr' => hQ γ'' a'' w'' ((hg.trans e).trans e') hr'
    unfold stepS at h1
    split at h1
    · rename_i hs
      cases h1
      exact fin (GExt.refl γ) hrel hs
    · split at h1
      · exact fin (GExt.refl γ) (hrel.scrub _) h1
      · cases h1

/-- from L on each operation waits for all in front of it -/
def tailOk (ops : Array Oper) (L : Nat) : Bool := (List.range ops.size).all fun j => Nat.blt j L || (List.range j).all fun k => has ((waitsOf ops).getD j []) k
theorem tailOk_spec {L j k : Nat} (h : tailOk ops L = true) (hj : L ≤ j) (hs : j < ops.size) (hk : k < j) : k ∈ W ops j := by
  simp only [tailOk, List.all_eq_true, List.mem_range, Bool.or_eq_true, Nat.blt_eq, has_iff] at h
  rcases h j hs with h | h
  · omega
  · exact h k hk
theorem ready_waits (hok : drawOk ops = true) {listed : Array Bool} (hcl : ∀ j, listed.getD j false = true → ∀ k ∈ W ops j, listed.getD k false = true) {i : Nat} (hi : i ∈ Region.ready .any ops listed) :
    ∀ k ∈ W ops i, listed.getD k false = true := fun k hk => by
  obtain ⟨h1, o, h2, h3⟩ := mem_ready.1 hi
  obtain ⟨_, e, he, hb, hk'⟩ := (drawOk_spec hok h2).2.1 k hk
  have := h3 e he hb
  rcases hk' with rfl | hk'
  · exact this
  · exact hcl _ this k hk'
theorem ready_some (hok : drawOk ops = true) {listed : Array Bool} (hs : listed.size = ops.size) {j : Nat} {r : List Nat} (hl : left ops listed = j :: r) : j ∈ Region.ready .any ops listed := by
  obtain ⟨h1, h2⟩ := mem_left.1 (by rw [hl]; simp : j ∈ left ops listed)
  refine mem_ready.2 ⟨h2, ops[j], Array.getElem?_eq_getElem h1, fun e he hb => ?_⟩
  have hlt := (drawOk_spec hok (Array.getElem?_eq_getElem h1)).1 e he hb
  cases hh : listed.getD e.on false with
  | true => rfl
  | false =>
    exfalso
    have hlt' : e.on < listed.size := by omega
    have hm : e.on ∈ left ops listed := mem_left.2 ⟨by omega, by simpa [Array.getD, hlt'] using hh⟩
    have hs' : (left ops listed).Pairwise (· < ·) := List.Pairwise.sublist List.filter_sublist List.pairwise_lt_range
    rw [hl] at hm hs'
    rcases List.mem_cons.1 hm with hm | hm
    · omega
    · have := (List.pairwise_cons.1 hs').1 _ hm; omega
theorem listed_of_left {listed : Array Bool} (hs : listed.size = ops.size) {k : Nat} (hk : k < ops.size) (h : k ∉ left ops listed) : listed.getD k false = true := by
  have hk' : k < listed.size := by omega
  cases hh : listed.getD k false with
  | true => rfl
  | false => exact absurd (mem_left.2 ⟨hk, by simpa [Array.getD, hk'] using hh⟩) h
theorem not_left_of_listed {listed : Array Bool} {k : Nat} (h : listed.getD k false = true) : k ∉ left ops listed := fun hm => by
  obtain ⟨_, h2⟩ := mem_left.1 hm
  by_cases hk : k < listed.size
  · simp [Array.getD, hk] at h h2; rw [h] at h2; cases h2
  · simp [Array.getD, hk] at h

theorem tail_any (hok : drawOk ops = true) {L : Nat} (hT : tailOk ops L = true) : ∀ (tail : List Nat) (listed : Array Bool) {a : Act} {w : World}, listed.size = ops.size → left ops listed = tail → (∀ j ∈ tail, L ≤ j) →
    (∀ j, listed.getD j false = true → ∀ k ∈ W ops j, listed.getD k false = true) → wpOps P ops Q tail a w → wpAny P .any ops Q tail.length listed a w
  | [], listed, a, w, hs, hl, _, _, h => by
    refine ⟨?_, h⟩
    rw [List.eq_nil_iff_forall_not_mem]
    intro j hj
    obtain ⟨h1, o, h2, _⟩ := mem_ready.1 hj
    have : j ∈ left ops listed := mem_left.2 ⟨(Array.getElem?_eq_some_iff.1 h2).1, h1⟩
    rw [hl] at this; cases this
  | j :: tail, listed, a, w, hs, hl, hL, hcl, h => by
    refine ⟨fun hr => ?_, fun i hi => ?_⟩
    · have := ready_some hok hs hl
      rw [hr] at this; cases this
    · obtain ⟨h1, o, h2, h3⟩ := mem_ready.1 hi
      have hlt : i < ops.size := (Array.getElem?_eq_some_iff.1 h2).1
      have hm : i ∈ left ops listed := mem_left.2 ⟨hlt, h1⟩
      have hjm : j ∈ left ops listed := by rw [hl]; simp
      have hij : i = j := by
        rw [hl] at hm
        rcases List.mem_cons.1 hm with h | h
        · exact h
        · exfalso
          have hs' : (left ops listed).Pairwise (· < ·) := List.Pairwise.sublist List.filter_sublist List.pairwise_lt_range
          rw [hl] at hs'
          have hji := (List.pairwise_cons.1 hs').1 _ h
          exact not_left_of_listed (ready_waits hok hcl hi j (tailOk_spec hT (hL i (List.mem_cons_of_mem _ h)) hlt hji)) hjm
      subst hij
      rw [wpOps_cons] at h
      have hl' : left ops (listed.setIfInBounds i true) = tail := by
        have := left_set (r1 := []) (r2 := tail) hs hl
        simpa using this
      refine wpOp_mono (fun a' w' h' => tail_any hok hT tail (listed.setIfInBounds i true) (by simp [hs]) hl' (fun j hj => hL j (List.mem_cons_of_mem _ hj)) ?_ h') h
      intro j hj k hk
      by_cases hji : j = i
      · subst hji; exact getD_set_true (ready_waits hok hcl hi k hk)
      · rw [getD_set_ne false (Ne.symm hji)] at hj
        exact getD_set_true (hcl j hj k hk)

theorem any_tail (hok : drawOk ops = true) {L : Nat} (hT : tailOk ops L = true) {tail : List Nat} (htl : ∀ j ∈ tail, L ≤ j ∧ j < ops.size) : ∀ (lf : List Nat) (listed : Array Bool) {γ : Gh} {s t : St} {a : Act} {w : World}, listed.size = ops.size → left ops listed = lf ++ tail → (∀ j ∈ lf, j < L) →
    (∀ j, listed.getD j false = true → ∀ k ∈ W ops j, listed.getD k false = true) → runOps P call ops (itemsOf ops lf) s = some t → (∀ p ∈ t.log, p) → Rel γ w0 s a w →
    (∀ γ' a' w' t', GExt γ γ' → Eqv t' t → Rel γ' w0 t' a' w' → wpOps P ops Q tail a' w') → ∀ n, n = (lf ++ tail).length → wpAny P .any ops Q n listed a w := by
  intro lf
  induction hn : lf.length generalizing lf with
  | zero =>
    intro listed γ s t a w hs hl hL hcl h hlog hrel hQ n hnn
    have : lf = [] := List.eq_nil_of_length_eq_zero hn
    subst this
    simp only [itemsOf, List.filterMap_nil, runOps, Option.some.injEq] at h
    subst h
    subst hnn
    exact tail_any hok hT tail listed hs hl (fun j hj => (htl j hj).1) hcl (hQ γ a w s (GExt.refl γ) (Eqv.refl s) hrel)
  | succ m ih =>
    intro listed γ s t a w hs hl hL hcl h hlog hrel hQ n hnn
    subst hnn
    have hlen : (lf ++ tail).length = (m + tail.length) + 1 := by simp [hn]; omega
    rw [hlen]
    refine ⟨fun hr => ?_, fun i hi => ?_⟩
    · obtain ⟨j, r, hjr⟩ : ∃ j r, left ops listed = j :: r := by
        cases hl' : left ops listed with
        | nil => rw [hl'] at hl; have := congrArg List.length hl; simp at this; omega
        | cons j r => exact ⟨j, r, rfl⟩
      have := ready_some hok hs hjr
      rw [hr] at this; cases this
    · obtain ⟨h1, o, h2, h3⟩ := mem_ready.1 hi
      have hlt : i < ops.size := (Array.getElem?_eq_some_iff.1 h2).1
      have hm : i ∈ left ops listed := mem_left.2 ⟨hlt, h1⟩
      have hW := ready_waits hok hcl hi
      have hmf : i ∈ lf := by
        rw [hl] at hm
        rcases List.mem_append.1 hm with hm | hm2
        · exact hm
        · exfalso
          have hi2 := htl i hm2
          obtain ⟨j, r, hjr⟩ : ∃ j r, lf = j :: r := by
            cases lf with
            | nil => simp at hn
            | cons j r => exact ⟨j, r, rfl⟩
          have hjL := hL j (by rw [hjr]; simp)
          have := tailOk_spec hT hi2.1 hlt (Nat.lt_of_lt_of_le hjL hi2.1)
          exact not_left_of_listed (hW j this) (by rw [hl, hjr]; simp)
      obtain ⟨r1, r2, hlf⟩ := List.append_of_mem hmf
      have hl2 : left ops listed = r1 ++ i :: (r2 ++ tail) := by rw [hl, hlf]; simp
      have hit : itemsOf ops lf = itemsOf ops r1 ++ (banned ops i, o) :: itemsOf ops r2 := by
        rw [hlf]; simp [itemsOf, h2]
      rw [hit] at h
      obtain ⟨s1, t', k1, k2, k3⟩ := move_front (F := banned ops i) (itemsOf ops r1) (fun p hp => by
        obtain ⟨j, hj, hp⟩ := List.mem_filterMap.1 hp
        have hji := left_lt hl2 hj
        have hjl : j ∈ left ops listed := by rw [hl2]; simp [hj]
        have hjs : j < ops.size := by omega
        have hnW : j ∉ W ops i := fun hh => not_left_of_listed (hW j hh) hjl
        have hnW2 : i ∉ W ops j := fun hh => by
          have := ((drawOk_spec hok (Array.getElem?_eq_getElem hjs)).2.1 i hh).1
          omega
        rw [Array.getElem?_eq_getElem hjs] at hp
        simp only [Option.map_some, Option.some.injEq] at hp
        subst hp
        refine ⟨?_, fun d hd => banned_spec (Array.getElem?_eq_getElem hjs) (by omega) hnW hnW2 hd, fun d hd => banned_spec h2 (by omega) hnW2 hnW hd⟩
        rcases (drawOk_spec hok h2).2.2 j hji with hh | ⟨x, hx, hb⟩
        · exact absurd hh hnW
        · rw [Array.getElem?_eq_getElem hjs] at hx; cases hx; exact hb) h hlog
      have hl' := left_set hs hl2
      have hlog' : ∀ p ∈ t'.log, p := fun p hp => hlog p ((k3.log p).1 hp)
      refine step_sound h2 hrel k1 (fun p hp => hlog' p (runOps_log _ k2 p hp)) fun γ' a' w' e hr => ih (r1 ++ r2) (by rw [hlf] at hn; simp at hn ⊢; omega) (listed.setIfInBounds i true) (t := t') (by simp [hs]) (by rw [hl']; simp) (fun j hj => hL j (by rw [hlf]; rcases List.mem_append.1 hj with h | h <;> simp [h])) ?_ ?_ hlog' hr (fun γ'' a'' w'' t'' e' ht hr' => hQ γ'' a'' w'' t'' (e.trans e') (ht.trans k3) hr') _ (by rw [hlf] at hn; simp at hn ⊢; omega)
      · intro j hj k hk
        by_cases hji : j = i
        · subst hji; exact getD_set_true (hW k hk)
        · rw [getD_set_ne false (Ne.symm hji)] at hj
          exact getD_set_true (hcl j hj k hk)
      · have : itemsOf ops (r1 ++ r2) = itemsOf ops r1 ++ itemsOf ops r2 := by simp [itemsOf]
        rw [this]; exact k2

/-- a region that draws, its end by hand -/
theorem region_tail (hmix : P.follows .mixedOrders = true) {id : Nat} {γ : Gh} {s t : St} {a : Act} {w : World} (L : Nat) (hL : L ≤ ops.size) (hok : drawOk ops = true) (hT : tailOk ops L = true) (hrel : Rel γ w0 s a w)
    (h : runOps P call ops (itemsOf ops (List.range L)) s = some t) (hlog : ∀ p ∈ t.log, p)
    (hQ : ∀ γ' a' w', GExt γ γ' → Rel γ' w0 t a' w' → wpOps P ops Q (List.range' L (ops.size - L)) a' w') : (Code.region id ops true).wp P Q a w := by
  have hl : left ops (Array.replicate ops.size false) = List.range L ++ List.range' L (ops.size - L) := by
    have e : left ops (Array.replicate ops.size false) = List.range ops.size := by
      simp only [left]
      refine List.filter_eq_self.2 fun j hj => ?_
      have := List.mem_range.1 hj
      simp [this]
    rw [e, List.range_eq_range', List.range_eq_range']
    have := List.range'_append_1 (s := 0) (m := L) (n := ops.size - L)
    rw [Nat.zero_add] at this
    rw [this]; congr 1; omega
  have key : ∀ w', Rel γ w0 s a w' → wpAny P .any ops Q ops.size (Array.replicate ops.size false) a w' := fun w' hr =>
    any_tail hok hT (tail := List.range' L (ops.size - L)) (fun j hj => by have := List.mem_range'_1.1 hj; omega) (List.range L) (Array.replicate ops.size false) (t := t) (γ := γ) (s := s) (by simp) hl (fun j hj => List.mem_range.1 hj)
      (fun j hj => by
        exfalso
        by_cases hlt : j < ops.size <;> simp [hlt] at hj) h hlog hr (fun γ' a' w' t' e ht hr => hQ γ' a' w' e (hr.eqv ht)) ops.size (by simp; omega)
  exact wp_region_any hmix (key _ (hrel.drew rfl rfl rfl rfl))
end
end Go.Proofs.YtmhoefpienagkaaDoor

/- Judgements: down the else branches; a loop at the end. -/
namespace Go.Proofs.YtmhoefpienagkaaDoor
open Go.RowKit

/-- down n 'region; if' pairs, by the else branches -/
noncomputable def down (H : Orc) (f : Nat) : Nat → Code → St → Option (Code × St)
  | 0, c, s => some (c, s)
  | n + 1, .seq r (.cond c _ b), s => match runCode Tryd.prog H (liveOf f) 0 r s with
    | some (.go s') => match s'.eval c with
      | .sc (.bool false) => down H f n b s'
      | _ => none
    | _ => none
  | _ + 1, _, _ => none
theorem down_log {H : Orc} {f : Nat} : ∀ (n : Nat) {c c' : Code} {s s' : St}, down H f n c s = some (c', s') → ∀ p ∈ s.log, p ∈ s'.log
  | 0, c, c', s, s', h, p, hp => by simp only [down, Option.some.injEq, Prod.mk.injEq] at h; obtain ⟨rfl, rfl⟩ := h; exact hp
  | n + 1, c, c', s, s', h, p, hp => by
    unfold down at h
    split at h
    · rename_i h1; cases h1
    · rename_i k r cc a b s0 h1
      cases h1
      split at h
      · rename_i s1 hr
        split at h
        · exact down_log n h p (code_log _ hr p hp)
        · cases h
      · cases h
    · cases h
theorem Judg.down {H : Orc} {f : Nat} {Q : Out → Prop} : ∀ (n : Nat) {c c' : Code} {s s' : St}, YtmhoefpienagkaaDoor.down H f n c s = some (c', s') → (∀ p ∈ s'.log, p) → Judg c' s' Q → Judg c s Q
  | 0, c, c', s, s', h, _, k => by simp only [YtmhoefpienagkaaDoor.down, Option.some.injEq, Prod.mk.injEq] at h; obtain ⟨rfl, rfl⟩ := h; exact k
  | n + 1, c, c', s, s', h, hl, k => by
    unfold YtmhoefpienagkaaDoor.down at h
    split at h
    · rename_i h1; cases h1
    · rename_i k' r cc a b s0 h1
      cases h1
      split at h
      · rename_i s1 hr
        split at h
        · rename_i hc
          exact Judg.seq (Judg.run H (liveOf f) 0 hr (fun p hp => hl p (down_log n h p hp)) (Judg.cond_false hc (Judg.down n h hl k)))
        · cases h
      · cases h
    · cases h
def eR : Code → Code | .seq r _ => r | _ => .skip
def eI : Code → Nat | .seq _ (.block id _) => id | _ => 0
def eB : Code → Code | .seq _ (.block _ (.loop b)) => b | _ => .skip
/-- a loop with nothing behind it -/
theorem Judg.forEnd {ι : Type} (L N : List Nat) (st : ι → St) (μ : ι → Nat) (Pi : ι → Prop) {c : Code} (hc : c = .seq (eR c) (.block (eI c) (.loop (eB c)))) {s s1 : St} {Q : Out → Prop}
    (call : Orc) (live : Nat → Option (List Nat × List Nat)) (hr : runCode Tryd.prog call live 0 (eR c) s = some (.go s1)) (hl : ∀ p ∈ s1.log, p) (i0 : ι) (h0 : Pi i0) (hs0 : YtmhoefpienagkaaDoor.clean L N s1 = st i0)
    (step : ∀ i, Pi i → Judg (eB c) (st i) (fun o => match o with
      | .go s' => ∃ j, Pi j ∧ μ j < μ i ∧ YtmhoefpienagkaaDoor.clean L N s' = st j
      | .exit id' s' => if id' = eI c then Q (.go s') else Q (.exit id' s')
      | .ret s' => Q (.ret s'))) : Judg c s Q := by
  rw [hc]
  refine Judg.seq (Judg.run call live 0 hr hl (Judg.block (Judg.loop (fun n s => ∃ i, Pi i ∧ n = μ i ∧ YtmhoefpienagkaaDoor.clean L N s = st i) ⟨i0, h0, rfl, hs0⟩ ?_)))
  rintro n s' ⟨i, hi, rfl, hs⟩
  refine (Judg.clean hs (step i hi)).mono fun o ho => ?_
  cases o with
  | go s2 =>
    obtain ⟨j, h1, h2, h3⟩ := ho
    exact ⟨μ j, h2, j, h1, rfl, h3⟩
  | exit id' s2 => exact ho
  | ret s2 => exact ho
theorem Judg.then_ {H : Orc} {f : Nat} {r a b : Code} {c : Operand} {s : St} {Q : Out → Prop} (s' : St) (log : List Prop) (h : runCode Tryd.prog H (liveOf f) 0 r s = some (.go s')) (hl : s'.log = log) (hp : ∀ p ∈ log, p) (hc : s'.eval c = .sc (.bool true)) (k : Judg a s' Q) : Judg (.seq r (.cond c a b)) s Q :=
  Judg.seq (Judg.run H (liveOf f) 0 h (by show ∀ p ∈ s'.log, p; rw [hl]; exact hp) (Judg.cond_true hc k))
theorem Judg.seq' {H : Orc} {f : Nat} {r b : Code} {s : St} {Q : Out → Prop} (s' : St) (log : List Prop) (h : runCode Tryd.prog H (liveOf f) 0 r s = some (.go s')) (hl : s'.log = log) (hp : ∀ p ∈ log, p) (k : Judg b s' Q) : Judg (.seq r b) s Q :=
  Judg.seq (Judg.run H (liveOf f) 0 h (by show ∀ p ∈ s'.log, p; rw [hl]; exact hp) k)
/-- parts of code -/
def sX : Code → Code | .seq x _ => x | _ => .skip
def sY : Code → Code | .seq _ y => y | _ => .skip
def bI : Code → Nat | .block id _ => id | _ => 0
def bX : Code → Code | .block _ x => x | _ => .skip
def cO : Code → Operand | .cond o _ _ => o | _ => .tmp 0
def cA : Code → Code | .cond _ a _ => a | _ => .skip
def cB : Code → Code | .cond _ _ b => b | _ => .skip
def elseOf : Nat → Code → Code
  | n + 1, .seq _ (.cond _ _ b) => elseOf n b
  | _, c => c
noncomputable def downSt (H : Orc) (f n : Nat) (c : Code) (s : St) : St := match down H f n c s with | some p => p.2 | none => s
theorem Judg.seqE {c : Code} {s : St} {Q : Out → Prop} (hc : c = .seq (sX c) (sY c)) (h : Judg (sX c) s fun o => match o with | .go s' => Judg (sY c) s' Q | o => Q o) : Judg c s Q := by
  rw [hc]; exact Judg.seq h
theorem Judg.blockE {c : Code} {s : St} {Q : Out → Prop} (hc : c = .block (bI c) (bX c)) (h : Judg (bX c) s fun o => match o with | .exit id' s' => if id' = bI c then Q (.go s') else Q o | o => Q o) : Judg c s Q := by
  rw [hc]; exact Judg.block h
theorem Judg.thenE {c : Code} {s : St} {Q : Out → Prop} (hc : c = .seq (sX c) (.cond (cO (sY c)) (cA (sY c)) (cB (sY c)))) (f : Nat) (H : Orc) (s' : St) (log : List Prop) (h : runCode Tryd.prog H (liveOf f) 0 (sX c) s = some (.go s')) (hl : s'.log = log) (hp : ∀ p ∈ log, p)
    (ho : s'.eval (cO (sY c)) = .sc (.bool true)) (k : Judg (cA (sY c)) s' Q) : Judg c s Q := by
  rw [hc]; exact Judg.then_ s' log h hl hp ho k
end Go.Proofs.YtmhoefpienagkaaDoor

/- A store into a row of one's own; a region whose last operations are looked at by hand. -/
namespace Go.Proofs.YtmhoefpienagkaaDoor
open Go.RowKit

section
variable {P : Program} {ops : Array Oper} {Q : Exit → Act → World → Prop}
theorem wpOps_val {i : Nat} {rest : List Nat} {o : Oper} {a : Act} {w w' : World} {c : Value} (ho : ops[i]? = some o) (hg : o.guard = none) (h : (execOp a.eval o).run P w = .ok (.value c) w') (hk : wpOps P ops Q rest (a.put o.dst c) w') : wpOps P ops Q (i :: rest) a w := by
  rw [wpOps_cons]; unfold wpOp; rw [ho]
  have : Region.wanted o (yielded ops a.tmps) = true := by unfold Region.wanted; rw [hg]
  simp only [this, if_true]; exact .inl (wp_value h hk)
theorem wpOps_skip {i : Nat} {rest : List Nat} {o : Oper} {a : Act} {w w' : World} (ho : ops[i]? = some o) (hg : o.guard = none) (h : (execOp a.eval o).run P w = .ok .skip w') (hk : wpOps P ops Q rest (a.put o.dst undef) w') : wpOps P ops Q (i :: rest) a w := by
  rw [wpOps_cons]; unfold wpOp; rw [ho]
  have : Region.wanted o (yielded ops a.tmps) = true := by unfold Region.wanted; rw [hg]
  simp only [this, if_true]; exact .inl (wp_skip_ h hk)
end
def rId : Code → Nat | .region id _ _ => id | _ => 0
def rOps : Code → Array Oper | .region _ ops _ => ops | _ => #[]
theorem Judg.regionTail {c : Code} {s : St} {Q : Out → Prop} (hc : c = .region (rId c) (rOps c) true) (H : Orc) (f L : Nat) (t : St) (hL : L ≤ (rOps c).size) (hok : drawOk (rOps c) = true) (hT : tailOk (rOps c) L = true)
    (h : runOps Tryd.prog H (rOps c) (itemsOf (rOps c) (List.range L)) s = some t) (hlog : ∀ p ∈ t.log, p)
    (hQ : ∀ γ0 γ w0 a w, GExt γ0 γ → Rel γ w0 t a w → wpOps Tryd.prog (rOps c) (fun e a' w' => ∃ out, Q out ∧ PostOf γ0 w0 out e a' w') (List.range' L ((rOps c).size - L)) a w) : Judg c s Q := fun γ w0 a w hr => by
  rw [hc]
  exact region_tail (call := H) mixed_ok L hL hok hT hr h hlog fun γ' a' w' hg hr' => hQ γ γ' w0 a' w' hg hr'

/-- nothing in it hangs on the block d, if the block is another -/
def calm (L : List (Nat × Nat)) (d : Nat) : AV → Prop
  | .undef => True
  | .sc _ => True
  | .ptr _ _ => True
  | .row (some (d', _)) size n xs => d' ≠ d ∧ look L d' = some (n * size) ∧ ∃ vs : List Value, xs = vs.map .sc
  | _ => False
theorem calm_keeps {γ : Gh} {L : List (Nat × Nat)} {w : World} {g : Nat} {d : Nat} {cs : Array Value} (hinj : ∀ d d' b, γ.blk d = some b → γ.blk d' = some b → d = d') (hg : γ.blk d = some g) {c : Value} {x : AV} (hx : calm L d x) (h : AVR1 γ L w c x) : AVR1 γ L (w.setRow g cs) c x := by
  cases x with
  | undef => exact trivial
  | sc v => exact h
  | ptr d' o => exact h
  | row tok size n xs =>
    cases tok with
    | none => exact hx.elim
    | some p =>
      obtain ⟨d', e⟩ := p
      obtain ⟨hne, hlen, vs, rfl⟩ := hx
      obtain ⟨hV, hL⟩ := h
      obtain ⟨h1, h2⟩ := hL _ hlen
      have hown := h2 rfl
      have hown' : Own γ (w.setRow g cs) c d' e size n := by
        rcases hown with hn | ⟨us, ho, hb⟩
        · exact .inl hn
        · refine .inr ⟨us, ⟨ho.1, ?_⟩, hb⟩
          rcases ho.2 with hn | ⟨g', cap, cur, rfl, a1, a2, a3⟩
          · exact .inl hn
          · refine .inr ⟨g', cap, cur, rfl, a1, ?_, a3⟩
            rw [setRow_other w g g' cs (fun e => by subst e; exact hne (hinj _ _ _ (hb g' rfl) hg))]; exact a2
      refine ⟨?_, fun len hl => ⟨(hL len hl).1, fun he => hown'⟩⟩
      obtain ⟨A, cap, rfl, k1, k2, k3, k4⟩ := hV
      refine ⟨A, cap, rfl, k1, k2, k3, fun hn => ?_⟩
      obtain ⟨b, o, rfl, hc⟩ := k4 hn
      have hbne : b ≠ g := by
        rcases hown with ⟨A, e1, e2⟩ | ⟨us, ho, hb⟩
        · omega
        · intro e; subst e
          exact hne (hinj _ _ _ (hb b rfl) hg)
      refine ⟨b, o, rfl, VC.of_at fun i x hx => ?_⟩
      obtain ⟨u, q1, q2, q3, q4⟩ := hc.at_ hx
      refine ⟨u, by rw [setRow_cell_other w g cs hbne]; exact q1, q2, q3, ?_⟩
      rw [List.getElem?_map] at hx
      cases hv : vs[i]? with
      | none => rw [hv] at hx; cases hx
      | some v => rw [hv] at hx; cases hx; exact q4
  | mt => exact hx.elim
  | agg _ => exact hx.elim
  | tup _ => exact hx.elim
  | rptr _ => exact hx.elim

/-- the row d with other cells -/
def repl1 (d : Nat) (ys : List AV) : AV → AV
  | .row (some (d', e)) size n xs => match Nat.beq d' d with | true => .row (some (d', e)) size n ys | false => .row (some (d', e)) size n xs
  | x => x
theorem AVRL.map_ {γ γ' : Gh} {L L' : List (Nat × Nat)} {w w' : World} (f : AV → AV) : ∀ {xs : List AV} {cs : List Value}, (∀ x ∈ xs, ∀ c, AVR1 γ L w c x → AVR1 γ' L' w' c (f x)) → AVRL γ L w cs xs → AVRL γ' L' w' cs (xs.map f)
  | [], _, _, h => h
  | x :: xs, _, hf, ⟨c, cs', e, h1, h2⟩ => ⟨c, cs', e, hf x (by simp) c h1, AVRL.map_ f (fun y hy => hf y (by simp [hy])) h2⟩
/-- A store into the row d of one's own: nobody else may look at it. -/
theorem Rel.setOwn {γ : Gh} {w0 w : World} {s : St} {a : Act} (h : Rel γ w0 s a w) {d e size n : Nat} {vs : List Value} {c : Value} (hc : AVR1 γ s.lens w c (.row (some (d, e)) size n (vs.map .sc))) (hlen : look s.lens d = some (n * size)) {off : Nat} (hoff : off < n * size) {v : Value} (hv : v.oneCell' = true)
    (hs : ∀ t x, look s.slots t = some x → calm s.lens d x)
    (ho : ∀ d' ty xs, look s.objs d' = some (ty, xs) → ∀ x ∈ xs, calm s.lens d x ∨ x = .row (some (d, e)) size n (vs.map .sc)) :
    ∃ g cap w', c = .slice (some ⟨g, 0, none⟩) n cap ∧ (storeCells ⟨g, off, none⟩ [v] 0).run Tryd.prog w = .ok () w' ∧
      Rel γ w0 { s with objs := s.objs.map fun p => (p.1, (p.2.1, p.2.2.map (repl1 d ((vs.set off v).map .sc)))) } a w' := by
  obtain ⟨hV, hL⟩ := hc
  have hown := (hL _ hlen).2 rfl
  have hn0 : 0 < n := by
    rcases Nat.eq_zero_or_pos n with h0 | h0
    · subst h0; omega
    · exact h0
  rcases hown with ⟨A, e1, e2⟩ | ⟨us, ho', hb⟩
  · omega
  have hus := own_VL ho' hV
  rw [VL_sc] at hus
  obtain ⟨hus, hone⟩ := hus
  obtain rfl : vs = us := hus.symm
  rcases ho'.2 with ⟨_, e2⟩ | ⟨g, cap, cur, rfl, b1, b2, b3, b4, b5, b6⟩
  · omega
  have hblk := hb g rfl
  have hcs : off + 0 + [v].length ≤ cur.size := by
    rw [b5]; simp only [List.length_cons, List.length_nil]
    have : n * size ≤ cap * size := Nat.mul_le_mul_right _ b3
    omega
  have hrun := run_storeCells_at (P := Tryd.prog) g off e [v] 0 cur w b2 hcs (fun u hu => by rw [List.mem_singleton.1 hu]; exact hv)
  refine ⟨g, cap, _, rfl, hrun, ?_⟩
  generalize hcs' : (cur.toList.take (off + 0) ++ [v] ++ cur.toList.drop (off + 0 + [v].length)) = ls at hrun ⊢
  have hls : ls = cur.toList.set off v := by
    rw [← hcs', List.set_eq_take_append_cons_drop, if_pos (by simp at hcs ⊢; omega)]; simp
  have hsz : (w.setRow g ls.toArray).heap.size = w.heap.size := by simp [World.setRow]
  have hvlen : vs.length = n * size := ho'.1
  -- the row, in the new world
  have hrow : ∀ c', AVR1 γ s.lens w c' (.row (some (d, e)) size n (vs.map .sc)) → AVR1 γ s.lens (w.setRow g ls.toArray) c' (.row (some (d, e)) size n ((vs.set off v).map .sc)) := fun c' hc' => by
    obtain ⟨hV', hL'⟩ := hc'
    have hown' := (hL' _ hlen).2 rfl
    rcases hown' with ⟨A, e1, e2⟩ | ⟨us', ho2, hb2⟩
    · omega
    rcases ho2.2 with ⟨_, e2⟩ | ⟨g', cap', cur', rfl, d1, d2, d3, d4, d5, d6⟩
    · omega
    have : g' = g := by have := hb2 g' rfl; rw [hblk] at this; exact (Option.some.inj this).symm
    subst this
    rw [b2] at d2; cases d2
    have hown3 : (w.setRow g' ls.toArray).ownsRow γ.base e size (.slice (some ⟨g', 0, none⟩) n cap') n (vs.set off v) := by
      refine ⟨by simp [hvlen], .inr ⟨g', cap', ls.toArray, rfl, d1, setRow_heap w g' cur ls.toArray e (0, 0) b2, d3, d4, by rw [hls]; simpa using d5, ?_⟩⟩
      rw [hls]
      simp only
      rw [List.take_set, b6]
    obtain ⟨A, cap2, e3, k1, k2, k3, k4⟩ := hV'
    cases e3
    obtain ⟨b, o, e4, hcell⟩ := k4 hn0
    cases e4
    refine ⟨V_own hown3 k1 k2 (VL_sc.2 rfl) ?_ ?_ _, fun len hl => ⟨(hL' len hl).1, fun _ => .inr ⟨_, hown3, hb2⟩⟩⟩
    · intro u hu
      rcases List.mem_or_eq_of_mem_set hu with hu | rfl
      · exact hone u hu
      · exact hv
    · intro i hi
      obtain ⟨u, q1, q2, q3, q4⟩ := hcell.at_ (i := i) (x := .sc (vs[i]'(by omega))) (by simp [List.getElem?_eq_getElem (show i < vs.length by omega)])
      simpa using q2
  refine ⟨h.size, h.defers, h.below.trans (setRow_below _ b1), by rw [hsz]; exact h.base, fun t x hx => ?_, fun d' ty xs hx => ?_, h.len, h.inj, by rw [hsz]; exact h.blt, by rw [hsz]; exact h.plt, fun k o hk => ⟨by rw [setRow_other w g k _ (fun e => by subst e; exact (h.frm _ o hk).2 d hblk)]; exact (h.frm k o hk).1, (h.frm k o hk).2⟩, h.gl⟩
  · have hcx := hs t x hx
    have := h.slot t x hx
    refine AVR.of_AVR1 (fun zs hz => by subst hz; exact hcx) (calm_keeps h.inj hblk hcx (this.plain1 (fun zs hz => by subst hz; exact hcx)))
  · have hl : look (s.objs.map fun p => (p.1, (p.2.1, p.2.2.map (repl1 d ((vs.set off v).map .sc))))) d' = (look s.objs d').map fun p => (p.1, p.2.map (repl1 d ((vs.set off v).map .sc))) := look_map' (fun p : Nat × List AV => (p.1, p.2.map (repl1 d ((vs.set off v).map .sc)))) s.objs d'
    rw [hl] at hx
    cases hq : look s.objs d' with
    | none => rw [hq] at hx; cases hx
    | some p =>
      obtain ⟨ty', ys⟩ := p
      rw [hq] at hx
      cases hx
      obtain ⟨k1, b, cs, k2, k3, k4, k5, k6, k7⟩ := h.obj d' ty' ys hq
      have hbg : b ≠ g := fun e => by
        subst e
        have := h.inj d' d b k2 hblk
        subst this
        rw [k1] at hlen; cases hlen
      refine ⟨k1, b, cs, k2, k3, by rw [setRow_other w g b _ hbg]; exact k4, AVRL.map_ _ (fun x hx c hcx => ?_) k5, k6, k7⟩
      rcases ho d' ty' ys hq x hx with hcalm | rfl
      · have : repl1 d ((vs.set off v).map .sc) x = x := by
          cases x with
          | row tok size n xs =>
            cases tok with
            | none => rfl
            | some p =>
              have hne := hcalm.1
              simp only [repl1]
              have : Nat.beq p.1 d = false := by rw [← Bool.not_eq_true, Nat.beq_eq]; exact hne
              rw [this]
          | _ => rfl
        rw [this]
        exact calm_keeps h.inj hblk hcalm hcx
      · simp only [repl1]
        have : Nat.beq d d = true := by simp
        rw [this]
        exact hrow c hcx
end Go.Proofs.YtmhoefpienagkaaDoor

/- nil as an empty row of one's own. -/
namespace Go.Proofs.YtmhoefpienagkaaDoor
open Go.RowKit

theorem Rel.nilName {γ : Gh} {w0 w : World} {s : St} {a : Act} (h : Rel γ w0 s a w) {d : Nat} (hd : s.absent d = true) :
    ∃ γ', GExt γ γ' ∧ Rel γ' w0 { s with lens := (d, 0) :: s.lens } a w := by
  have ha := Absent.of hd
  have h1 := h.name ha none (fun b hb => by cases hb) (fun b hb => by cases hb)
  have h2 := h1.setLen (len := 0) ha (fun g hg => by simp at hg)
  exact ⟨{ γ with blk := fun d' => if d' = d then none else γ.blk d' }, ⟨rfl, fun _ _ _ hp => hp, rfl⟩, h2⟩
theorem nil_row {γ : Gh} {L : List (Nat × Nat)} {w : World} {d e size : Nat} (hL : look L d = some 0) : AVR1 γ L w (.slice none 0 0) (.row (some (d, e)) size 0 []) := by
  refine ⟨⟨none, 0, rfl, Nat.le_refl _, by simp [maxLen], by simp, fun hn => absurd hn (by omega)⟩, fun len hl => ?_⟩
  rw [hL] at hl; cases hl
  exact ⟨by simp, fun _ => .inl ⟨none, rfl, rfl⟩⟩
/-- a slot that holds nil -/
theorem Judg.nilSlot (t d e size : Nat) {c : Code} {s : St} {Q : Out → Prop} (ht : look s.slots t = some (.sc (.slice none 0 0))) (hd : s.absent d = true)
    (k : Judg c { s with slots := (t, .row (some (d, e)) size 0 []) :: s.slots, lens := (d, 0) :: s.lens } Q) : Judg c s Q := fun γ w0 a w hr => by
  obtain ⟨γ', hg, hr'⟩ := hr.nilName hd
  have hv : a.tmps.getD t undef = .slice none 0 0 := hr.slot t _ ht
  have hr2 : Rel γ' w0 { s with slots := (t, .row (some (d, e)) size 0 []) :: s.slots, lens := (d, 0) :: s.lens } a w := by
    refine ⟨hr'.size, hr'.defers, hr'.below, hr'.base, fun t' x hx => ?_, hr'.obj, hr'.len, hr'.inj, hr'.blt, hr'.plt, hr'.frm, hr'.gl⟩
    simp only [look_cons] at hx
    split at hx
    · rename_i e; subst e; cases hx
      rw [hv]
      exact AVR.of_AVR1 (by simp) (nil_row (by simp [look_cons]))
    · exact hr'.slot t' x hx
  exact wp_mono (k γ' w0 a w hr2) fun e a w ⟨o, q, p⟩ => ⟨o, q, p.trans hg⟩
/-- a cell of a box that holds nil -/
theorem Judg.nilCell (b i d e size : Nat) {c : Code} {s : St} {Q : Out → Prop} {ty : Nat} {xs : List AV} (ht : look s.objs b = some (ty, xs)) (hi : xs[i]? = some (.sc (.slice none 0 0))) (hd : s.absent d = true)
    (k : Judg c { s with objs := (b, (ty, xs.set i (.row (some (d, e)) size 0 []))) :: s.objs, lens := (d, 0) :: s.lens } Q) : Judg c s Q := fun γ w0 a w hr => by
  obtain ⟨γ', hg, hr'⟩ := hr.nilName hd
  have hr2 : Rel γ' w0 { s with objs := (b, (ty, xs.set i (.row (some (d, e)) size 0 []))) :: s.objs, lens := (d, 0) :: s.lens } a w := by
    refine ⟨hr'.size, hr'.defers, hr'.below, hr'.base, hr'.slot, fun d' ty' ys hx => ?_, hr'.len, hr'.inj, hr'.blt, hr'.plt, hr'.frm, hr'.gl⟩
    simp only [look_cons] at hx
    split at hx
    · rename_i e1; subst e1
      simp only [Option.some.injEq, Prod.mk.injEq] at hx
      obtain ⟨rfl, rfl⟩ := hx
      obtain ⟨k1, b', cs, k2, k3, k4, k5, k6, k7⟩ := hr'.obj b ty xs ht
      refine ⟨k1, b', cs, k2, k3, k4, AVRL.of_at (by simp [k5.length]) fun j x c hx hc => ?_, k6, k7⟩
      rw [List.getElem?_set] at hx
      split at hx
      · rename_i e2; subst e2
        split at hx
        · cases hx
          obtain ⟨c', q1, q2⟩ := k5.at_ hi
          rw [hc] at q1; cases q1
          have : c = .slice none 0 0 := q2
          rw [this]
          exact nil_row (by simp [look_cons])
        · cases hx
      · obtain ⟨c', q1, q2⟩ := k5.at_ hx
        rw [hc] at q1; cases q1; exact q2
    · exact hr'.obj d' ty' ys hx
  exact wp_mono (k γ' w0 a w hr2) fun e a w ⟨o, q, p⟩ => ⟨o, q, p.trans hg⟩
end Go.Proofs.YtmhoefpienagkaaDoor

/- The function's answer, weakened on each way. -/
namespace Go.Proofs.YtmhoefpienagkaaDoor
open Go.RowKit
/-- what reads as r' reads as r -/
def ResImp (r' r : Res) : Prop := ∀ (B : Nat) (pr : Nat → Nat → Prop) (w : World) (c : Value), V pr w c r'.v → (∀ e, r'.own = some e → OwnRes B pr w e c r'.v) → V pr w c r.v ∧ ∀ e, r.own = some e → OwnRes B pr w e c r.v
theorem ResImp.refl (r : Res) : ResImp r r := fun _ _ _ _ h k => ⟨h, k⟩
theorem ResImp.nil {size e : Nat} : ResImp (plainR (.sc (.slice none 0 0))) { v := .row none size 0 [], own := some e } := fun B pr w c h _ => by
  have hc : c = .slice none 0 0 := h
  subst hc
  exact ⟨⟨none, 0, rfl, Nat.le_refl _, by simp [maxLen], by simp, fun h => absurd h (by omega)⟩, fun e he => .inl ⟨none, rfl, rfl⟩⟩
/-- several results, the first of them nil -/
theorem ResImp.nilTup {size e : Nat} {xs : List AV} : ResImp (plainR (.tup (.sc (.slice none 0 0) :: xs))) { v := .tup (.row none size 0 [] :: xs), own := some e } := fun B pr w c h _ => by
  obtain ⟨cs, rfl, h⟩ := h
  obtain ⟨c0, cs', rfl, h0, h1⟩ := h
  have hc : c0 = .slice none 0 0 := h0
  subst hc
  refine ⟨⟨_, rfl, _, _, rfl, ⟨none, 0, rfl, Nat.le_refl _, by simp [maxLen], by simp, fun h => absurd h (by omega)⟩, h1⟩, fun e he c0 cs0 hc => ?_⟩
  have hc' : Value.slice none 0 0 = c0 := by
    injection hc with hc
    have := congrArg Array.toList hc
    simp at this; exact this.1
  subst hc'
  exact .inl ⟨none, rfl, rfl⟩
theorem ResImp.noOwn {v : AV} {o : Option Nat} : ResImp { v, own := o } (plainR v) := fun _ _ _ _ h _ => ⟨h, fun e he => by cases he⟩
section
variable {P : Program}
theorem body_judgW {f : Nat} {fn : Func} {c : Code} {args : List AV} {r : Res} {Q : Out → Prop} (hf : P.funcs[f]? = some fn) (hname : (fn.name == "runtime.NumGoroutine") = false) (hb : fn.body = some c) (hle : args.length ≤ fn.ntmps)
    (J : ∀ {γ : Gh} {a : Act} {w : World}, Rel γ w (start args fn.ntmps) a w → c.wp P (fun e a' w' => ∃ out, Q out ∧ PostOf γ w out e a' w') a w)
    (hQ : ∀ out, Q out → ∃ s1 l r', ResImp r' r ∧ (out = .go s1 ∨ out = .ret s1) ∧ (resVals P s1 fn.results.toList).bind (resOf s1) = some (r', l) ∧ ∀ p ∈ l, p) : Ok P f args r := by
  refine ⟨⟨fn, hf, hname, by rw [hb]; rfl⟩, fun w pr cs hgl hpr hargs => ?_⟩
  refine calls_of_wp hf hb ?_
  have hlen := hargs.length
  have hrel : Rel { base := w.heap.size, pr := pr, blk := fun _ => none } w (start args fn.ntmps) { tmps := cs.toArray ++ Array.replicate (fn.ntmps - cs.toArray.size) undef, defers := [] } w := by
    refine ⟨?_, rfl, Below.refl _ _, Nat.le_refl _, fun t x hx => ?_, fun d ty xs hx => by simp [start, look] at hx, fun d len g hl => by simp [start, look] at hl, fun d d' b hd => by simp at hd, fun d b hd => by simp at hd, hpr, (fun k o h => by cases h), hgl⟩
    · simp [start]; omega
    · have hx' := look_zip args 0 t (x := x) (by simpa [start] using hx)
      obtain ⟨u, k1, k2⟩ := hargs.at_ (i := t) (by simpa using hx'.2)
      have : (cs.toArray ++ Array.replicate (fn.ntmps - cs.toArray.size) undef).getD t undef = u := by
        have hlt : t < cs.length := (List.getElem?_eq_some_iff.1 k1).1
        have hg : cs[t] = u := (List.getElem?_eq_some_iff.1 k1).2
        have h2 : t < (cs.toArray ++ Array.replicate (fn.ntmps - cs.toArray.size) undef).size := by simp; omega
        rw [Array.getD, dif_pos h2]
        simp [Array.getElem_append, hlt, hg]
      simp only [start]
      rw [this]
      exact AVR.nil_of_V k2
  -- behind the body
  have fin : ∀ (r : Res) (s1 : St) (l' : List Prop) (γ' : Gh) (a' : Act) (w' : World), (resVals P s1 fn.results.toList).bind (resOf s1) = some (r, l') → (∀ p ∈ l', p) → GExt { base := w.heap.size, pr := pr, blk := fun _ => none } γ' → Rel γ' w s1 a' w' →
      a'.defers = [] ∧ ∃ v, (results fn a'.tmps).run P w' = .ok v w' ∧ ∃ c pr', Ending.returned v = .returned c ∧ Below w.heap.size w w' ∧ (∀ b i, pr' b i → b < w'.heap.size) ∧ (∀ b i, b < w.heap.size → pr' b i → pr b i) ∧ V pr' w' c r.v ∧ ∀ e, r.own = some e → OwnRes w.heap.size pr' w' e c r.v := by
    intro r s1 l' γ' a' w' hres hown hg hr
    refine ⟨hr.defers, ?_⟩
    simp only [Option.bind_eq_some_iff] at hres
    obtain ⟨xs, hxs, hres⟩ := hres
    obtain ⟨vs, k1, k2⟩ := results_run (P := P) hr fn.results.toList hxs
    have hbase : γ'.base = w.heap.size := hg.base
    have hrun2 : (results fn a'.tmps).run P w' = .ok (if h : vs.toArray.size = 1 then vs.toArray[0] else .tuple vs.toArray) w' := by
      have hm : fn.results.mapM (fun r : ResultVar => match r with | .tmp t => (pure (a'.tmps.getD t undef) : Sem Value) | .cell b t => do loadVar t (← asAddr (a'.tmps.getD b undef))) =
          List.toArray <$> fn.results.toList.mapM (fun r : ResultVar => match r with | .tmp t => (pure (a'.tmps.getD t undef) : Sem Value) | .cell b t => do loadVar t (← asAddr (a'.tmps.getD b undef))) := Array.mapM_eq_mapM_toList ..
      have hm2 : (fn.results.mapM (fun r : ResultVar => match r with | .tmp t => (pure (a'.tmps.getD t undef) : Sem Value) | .cell b t => do loadVar t (← asAddr (a'.tmps.getD b undef)))).run P w' = .ok vs.toArray w' := by
        rw [hm, map_eq_pure_bind, Sem.run_bind]
        exact (congrArg (fun r => Result.andThen r _) k2).trans (by simp only [Result.andThen_ok, Sem.run_pure])
      unfold results
      simp only [Sem.run_bind]
      refine Eq.trans (congrArg (fun r => Result.andThen r _) hm2) ?_
      simp only [Result.andThen_ok, Sem.run_pure]
    rw [hrun2]
    refine ⟨_, rfl, _, γ'.pr, rfl, by rw [← hbase]; exact hr.below, hr.plt, fun b i hb hp => hg.old b i hb hp, ?_⟩
    have one : ∀ (x : AV) (v : Value), AVR γ' s1.lens w' v x → ∀ e p, ownOf s1 x = some (e, p) → p → OwnRow w.heap.size γ'.pr w' e v (plain1 x) := fun x v h1 e p he hp => by
      have := own_row hr h1 he hp
      rw [hbase] at this; exact this
    unfold resOf at hres
    split at hres
    · rename_i x
      simp only [AVRs] at k1
      obtain ⟨v, vs', rfl, h1, rfl⟩ := k1
      have e2 : ∀ e, OwnRow w.heap.size γ'.pr w' e v (plain1 x) → OwnRes w.heap.size γ'.pr w' e v (plain1 x) := fun e => by
        cases x <;> exact fun h => h
      split at hres
      · rename_i e p ho
        cases hres
        refine ⟨by simpa using h1.plain1', fun e he => ?_⟩
        cases he
        simpa using e2 _ (one x v h1 e p ho (hown p (by simp)))
      · cases hres
        exact ⟨by simpa using h1.plain1', fun e he => by cases he⟩
    · cases hres
      simp only [AVRs] at k1
      subst k1
      exact ⟨by simp [V, VL], fun e he => by cases he⟩
    · rename_i x y l
      have hpl := k1.plain
      have hsz : vs.length = l.length + 2 := by rw [hpl.length]; simp
      have hne : ¬ vs.toArray.size = 1 := by simp; omega
      rw [dif_neg hne]
      split at hres
      · rename_i e p ho
        cases hres
        refine ⟨⟨vs, rfl, hpl⟩, fun e he c0 cs0 hc => ?_⟩
        cases he
        simp only [AVRs] at k1
        obtain ⟨v, vs', rfl, h1, _⟩ := k1
        have hc' : v = c0 := by
          injection hc with hc
          have := congrArg Array.toList hc
          simp at this; exact this.1
        subst hc'
        exact one x v h1 e p ho (hown p (by simp))
      · cases hres
        exact ⟨⟨vs, rfl, hpl⟩, fun e he => by cases he⟩
  refine wp_mono (J hrel) fun e a' w' hp => ?_
  obtain ⟨out, hq, hp⟩ := hp
  obtain ⟨s1, l', r', himp, hout, hres, hown⟩ := hQ out hq
  have fin : ∀ (s1 : St) (l' : List Prop) (γ' : Gh) (a' : Act) (w' : World), (resVals P s1 fn.results.toList).bind (resOf s1) = some (r', l') → (∀ p ∈ l', p) → GExt { base := w.heap.size, pr := pr, blk := fun _ => none } γ' → Rel γ' w s1 a' w' →
      a'.defers = [] ∧ ∃ v, (results fn a'.tmps).run P w' = .ok v w' ∧ ∃ c pr', Ending.returned v = .returned c ∧ Below w.heap.size w w' ∧ (∀ b i, pr' b i → b < w'.heap.size) ∧ (∀ b i, b < w.heap.size → pr' b i → pr b i) ∧ V pr' w' c r.v ∧ ∀ e, r.own = some e → OwnRes w.heap.size pr' w' e c r.v := by
    intro s1 l' γ' a' w' h1 h2 h3 h4
    obtain ⟨q1, v, q2, c, pr', q3, q4, q5, q6, q7, q8⟩ := fin r' s1 l' γ' a' w' h1 h2 h3 h4
    obtain ⟨q9, q10⟩ := himp _ _ _ _ q7 q8
    exact ⟨q1, v, q2, c, pr', q3, q4, q5, q6, q9, q10⟩
  cases e with
  | normal =>
    obtain ⟨s2, γ2, e2, hg, hr⟩ := hp
    have : s2 = s1 := by rcases hout with h | h <;> rw [h] at e2 <;> cases e2; rfl
    subst this
    exact fin s2 l' γ2 a' w' hres hown hg hr
  | ret =>
    obtain ⟨s2, γ2, e2, hg, hr⟩ := hp
    have : s2 = s1 := by rcases hout with h | h <;> rw [h] at e2 <;> cases e2; rfl
    subst this
    exact fin s2 l' γ2 a' w' hres hown hg hr
  | exit id => obtain ⟨s2, γ2, e2, hg, hr⟩ := hp; rcases hout with h | h <;> rw [h] at e2 <;> cases e2
  | _ => exact hp.elim

end
/-- the function's answer, weakened on each way -/
def Fin (fn : Func) (r : Res) (out : Out) : Prop := ∃ s1 l r', ResImp r' r ∧ (out = .go s1 ∨ out = .ret s1) ∧ (resVals Tryd.prog s1 fn.results.toList).bind (resOf s1) = some (r', l) ∧ ∀ p ∈ l, p
theorem Ok.judgW {f : Nat} {fn : Func} {c : Code} {args : List AV} {r : Res} (hf : Tryd.prog.funcs[f]? = some fn) (hb : fn.body = some c) (hle : args.length ≤ fn.ntmps)
    (J : Judg c (start args fn.ntmps) (Fin fn r)) : Ok Tryd.prog f args r :=
  body_judgW (Q := Fin fn r) hf (names_ok f fn hf) hb hle (fun hr => J _ _ _ _ hr) fun _ h => h
theorem fin_retW {fn : Func} {r r' : Res} {l : List Prop} (s1 : St) (h : (resVals Tryd.prog s1 fn.results.toList).bind (resOf s1) = some (r', l)) (hl : ∀ p ∈ l, p) (hi : ResImp r' r) : Fin fn r (.ret s1) := ⟨s1, l, r', hi, .inr rfl, h, hl⟩
theorem Ok.imp {f : Nat} {args : List AV} {r' r : Res} (h : Ok Tryd.prog f args r') (hi : ResImp r' r) : Ok Tryd.prog f args r :=
  ⟨h.1, fun w pr cs hg hp hv => (h.2 w pr cs hg hp hv).mono fun x w' ⟨c, pr', a1, a2, a3, a4, a5, a6⟩ => by
    obtain ⟨q1, q2⟩ := hi _ _ _ _ a5 a6
    exact ⟨c, pr', a1, a2, a3, a4, q1, q2⟩⟩
end Go.Proofs.YtmhoefpienagkaaDoor

/- Regions within a round of a range over a function; what nobody touches. -/
namespace Go.Proofs.YtmhoefpienagkaaDoor
open Go.RowKit

section
variable {P : Program} {ops : Array Oper} {Q : Exit → Act → World → Prop} {l n : Nat}
abbrev RF (l : Nat) : Fence := Fence.wide.inRound l
theorem oper_in {o : Oper} {a : Act} {w : World} {K : Act → World → Prop} (hd : ∀ c, o.op ≠ .defer c) (hr : ∀ row args w', (execOp a.eval o).run P w ≠ .ok (.row row args) w') (h : o.wp P a w K Q) : o.wpIn (RF l) n P a w K Q := by
  refine ⟨fun _ _ => trivial, ?_⟩
  show o.uponIn (RF l) n P a K Q ((o.semAt (some l) a.eval).run P w)
  rw [Oper.semAt_some l a.eval o hd]
  unfold Oper.wp at h
  generalize hres : (execOp a.eval o).run P w = r at h hr
  cases r with
  | ok x w' =>
    cases x <;> simp only [Oper.upon, Oper.uponIn] at h ⊢ <;> try exact h
    case enter f args =>
      refine ⟨fun h => Bool.noConfusion h, CallsIn.inRound l (callsIn_wide.2 ?_)⟩
      exact h.mono fun e w'' he => by cases e <;> exact he
    case row row args => exact absurd rfl (hr row args w')
  | halt x w' => cases x <;> simp only [Oper.upon, Oper.uponIn] at h ⊢ <;> exact h
/-- an operation that gives no row of the library's -/
def noRow (o : Oper) : Bool := match o.op with
  | .defer _ => false
  | .call c => match c.callee with | .builtin .append => true | .builtin .len => true | _ => false
  | .load .. | .store .. | .move _ | .assign _ | .fieldAddr .. | .indexAddr .. | .build .. | .buildSlice .. => true
  | _ => false
theorem value_only {α : Type} {m : Sem α} {f : α → Value} {w w' : World} {x : Next} (h : (do pure (Next.value (f (← m))) : Sem Next).run P w = .ok x w') : ∃ v, x = .value v := by
  rw [Sem.run_bind] at h
  cases hm : m.run P w with
  | ok a w2 => rw [hm] at h; simp only [Result.andThen_ok, Sem.run_pure] at h; cases h; exact ⟨_, rfl⟩
  | halt a w2 => rw [hm] at h; cases h
theorem unit_only {m : Sem Unit} {w w' : World} {x : Next} (h : (do m; pure Next.skip : Sem Next).run P w = .ok x w') : x = .skip := by
  rw [Sem.run_bind] at h
  cases hm : m.run P w with
  | ok a w2 => rw [hm] at h; simp only [Result.andThen_ok, Sem.run_pure] at h; cases h; rfl
  | halt a w2 => rw [hm] at h; cases h
theorem noRow_spec {o : Oper} (h : noRow o = true) : (∀ c, o.op ≠ .defer c) ∧ ∀ (ρ : Operand → Value) w row args w', (execOp ρ o).run P w ≠ .ok (.row row args) w' := by
  refine ⟨fun c hc => (by unfold noRow at h; rw [hc] at h; cases h), fun ρ w row args w' he => ?_⟩
  unfold noRow at h
  split at h
  · cases h
  · rename_i c hc
    split at h
    · rename_i hcal
      have : (execOp ρ o).run P w = (do pure (Next.value (← Builtin.append_ c.argTypes o.type (c.args.map ρ))) : Sem Next).run P w := by
        simp only [execOp, hc, resolve, hcal, Sem.run_bind, Sem.run_pure, Result.andThen_ok, invoke]; simp only [builtin, Sem.run_bind, Sem.run_pure]
      rw [this] at he
      obtain ⟨v, hv⟩ := value_only (f := id) he
      cases hv
    · rename_i hcal
      have : (execOp ρ o).run P w = (do pure (Next.value (← Builtin.len_ c.argTypes o.type (c.args.map ρ))) : Sem Next).run P w := by
        simp only [execOp, hc, resolve, hcal, Sem.run_bind, Sem.run_pure, Result.andThen_ok, invoke]; simp only [builtin, Sem.run_bind, Sem.run_pure]
      rw [this] at he
      obtain ⟨v, hv⟩ := value_only (f := id) he
      cases hv
    · cases h
  all_goals first
    | (rename_i hop; simp only [execOp, hop] at he; obtain ⟨v, hv⟩ := value_only (f := id) he; cases hv)
    | (rename_i hop; simp only [execOp, hop] at he; have hv := unit_only he; cases hv)
    | (rename_i hop; simp only [execOp, hop, Sem.run_pure] at he; cases he)
    | cases h
theorem anyIn_of_any (hQ : ∀ a w, ¬ Q .outgrown a w) (hops : ∀ (i : Nat) (o : Oper), ops[i]? = some o → noRow o = true) : ∀ (fuel : Nat) (listed : Array Bool) (a : Act) (w : World), wpAny P .any ops Q fuel listed a w → wpAnyIn (RF l) n P .any ops Q fuel listed a w
  | 0, _, _, _, h => h
  | fuel + 1, listed, a, w, h => by
    refine ⟨h.1, fun i hi => ?_⟩
    have h1 := h.2 i hi
    unfold wpOp at h1
    unfold wpOpIn
    cases ho : ops[i]? with
    | none => rw [ho] at h1; exact anyIn_of_any hQ hops fuel _ _ _ h1
    | some o =>
      rw [ho] at h1
      simp only at h1 ⊢
      split
      · rename_i hw
        rw [if_pos hw] at h1
        obtain ⟨k1, k2⟩ := noRow_spec (P := P) (hops i o ho)
        rcases h1 with h1 | ⟨_, b, w2, hb⟩
        · exact Oper.wpIn_mono (fun a' w' hh => anyIn_of_any hQ hops fuel _ _ _ hh) (oper_in k1 (k2 a.eval w) h1)
        · exact absurd hb (hQ _ _)
      · rename_i hw
        rw [if_neg hw] at h1
        exact ⟨fun _ _ => trivial, anyIn_of_any hQ hops fuel _ _ _ h1⟩
end
/-- a region that draws, within a round -/
theorem region_round {P : Program} {call : Orc} {ops : Array Oper} {w0 w : World} {γ : Gh} {s t : St} {a : Act} {Q : Exit → Act → World → Prop} {l n id : Nat} (hmix : P.follows .mixedOrders = true) (hrel : Rel γ w0 s a w) (h : runRegion P call ops true s = some t) (hlog : ∀ p ∈ t.log, p)
    (hQ0 : ∀ a w, ¬ Q .outgrown a w) (hops : ops.toList.all noRow = true) (hQ : ∀ γ' a' w', GExt γ γ' → Rel γ' w0 t a' w' → Q .normal a' w') : (Code.region id ops true).wpIn (RF l) n P Q a w := by
  simp only [runRegion] at h
  split at h
  case h_2 => cases h
  rename_i hok
  have hl : left ops (Array.replicate ops.size false) = List.range ops.size := by
    simp only [left]
    refine List.filter_eq_self.2 fun j hj => ?_
    have := List.mem_range.1 hj
    simp [this]
  refine wpIn_region_any hmix (anyIn_of_any hQ0 (fun i o ho => List.all_eq_true.1 hops o (by rw [Array.mem_toList_iff]; exact Array.mem_of_getElem? ho)) _ _ _ _ (any_sound hok ops.size (Array.replicate ops.size false) (t := t) (γ := γ) (s := s) (by simp) (by rw [hl]; simp) ?_ (by rw [hl]; exact h) hlog (hrel.drew rfl rfl rfl rfl) ?_))
  · intro j hj
    exfalso
    by_cases hlt : j < ops.size <;> simp [hlt] at hj
  · exact fun γ' a' w' t' e ht hr => hQ γ' a' w' e (hr.eqv ht)

section
variable {γ : Gh} {w0 w w' : World} {s : St} {a : Act}
/-- from here on the blocks of f are not touched -/
theorem Rel.freeze (h : Rel γ w0 s a w) (f : Nat → Option Obj) (hf : ∀ k o, f k = some o → w.heap[k]? = some o ∧ ∀ d, γ.blk d ≠ some k) : Rel { γ with fr := f } w0 s a w := by
  refine ⟨h.size, h.defers, h.below, h.base, fun t x hx => ?_, fun d ty xs hx => ?_, h.len, h.inj, h.blt, h.plt, hf, h.gl⟩
  · exact (h.slot t x hx).frame (γ := γ) (γ' := { γ with fr := f }) (L' := s.lens) (w' := w) rfl (fun b i u hp hc => ⟨hp, hc⟩) fun d _ => .inl ⟨rfl, rfl, fun _ _ _ => rfl⟩
  · obtain ⟨k1, b, cs, k2, k3, k4, k5, k6, k7⟩ := h.obj d ty xs hx
    exact ⟨k1, b, cs, k2, k3, k4, k5.frame (γ := γ) (γ' := { γ with fr := f }) (L' := s.lens) (w' := w) rfl (fun b i u hp hc => ⟨hp, hc⟩) fun d _ => .inl ⟨rfl, rfl, fun _ _ _ => rfl⟩, k6, k7⟩
/-- names that the state does not bear are forgotten -/
theorem Rel.forget (h : Rel γ w0 s a w) (N : List Nat) (hs : ∀ t x, look s.slots t = some x → ∀ d, ment d x = true → d ∈ N) (ho : ∀ d ty xs, look s.objs d = some (ty, xs) → d ∈ N ∧ ∀ d', xs.any (ment1 d') = true → d' ∈ N) :
    Rel { γ with blk := fun d => if d ∈ N then γ.blk d else none } w0 s a w := by
  have hk : ∀ d, d ∈ N → Kept γ { γ with blk := fun d => if d ∈ N then γ.blk d else none } s.lens s.lens w w d := fun d hd => .inl ⟨by simp [hd], rfl, fun _ _ _ => rfl⟩
  have hsub : ∀ d b, (if d ∈ N then γ.blk d else none) = some b → γ.blk d = some b := fun d b hb => by split at hb <;> first | exact hb | cases hb
  refine h.frame (γ' := { γ with blk := fun d => if d ∈ N then γ.blk d else none }) s.lens rfl (fun b i u hp hc => ⟨hp, hc⟩) (fun d t x hx hm => hk d (hs t x hx d hm)) (fun d d' ty xs hx hm => hk d ((ho d' ty xs hx).2 d hm)) ?_
    (fun d len g hl hb => h.len d len g hl (hsub d g hb)) (fun d d' b h1 h2 => h.inj d d' b (hsub d b h1) (hsub d' b h2)) (fun d b hb => h.blt d b (hsub d b hb)) h.plt (Below.refl _ _) rfl (fun k o hk => ⟨(h.frm k o hk).1, fun d hd => (h.frm k o hk).2 d (hsub d k hd)⟩)
  intro d ty xs b hx hb
  obtain ⟨k1, b', cs, k2, k3, k4, k5, k6, k7⟩ := h.obj d ty xs hx
  have : b' = b := by rw [hb] at k2; exact (Option.some.inj k2).symm
  subst this
  exact ⟨k1, by simp [(ho d ty xs hx).1, hb], rfl, k7⟩
/-- a block that is no cells may turn, if nobody counts on it -/
theorem Rel.turned (h : Rel γ w0 s a w) {row : Option Nat} (hg : w.grownBy w' row) (hr : ∀ r, row = some r → γ.base ≤ r ∧ ∃ o : Obj, w.heap[r]? = some o ∧ o.isCells = false) (hn : ∀ d ty xs b, look s.objs d = some (ty, xs) → γ.blk d = some b → row ≠ some b)
    (hl : ∀ d b, γ.blk d = some b → row ≠ some b) (hf : ∀ k o, γ.fr k = some o → row ≠ some k) : Rel γ w0 s a w' := by
  have hblk : ∀ k, k < w.heap.size → row ≠ some k → w'.heap[k]? = w.heap[k]? := fun k hk hne => hg.block k hk (fun e => hne e.symm)
  have hbel : Below γ.base w w' := (Below.refl _ _).grown hg h.base (fun k hk => (hr k hk).1)
  have hcell : ∀ b i u, γ.pr b i → w.cell? ⟨b, i, none⟩ = some u → w'.cell? ⟨b, i, none⟩ = some u := fun b i u hp hc => by
    refine (World.cell?_of_block (w := w) (hblk b (h.plt b i hp) fun e => ?_)).trans hc
    obtain ⟨_, o, ho, hcells⟩ := hr b e
    obtain ⟨o', ho', hc'⟩ := cells_of_cell hc
    rw [ho] at ho'; cases ho'; rw [hcells] at hc'; cases hc'
  have hk : ∀ d, Kept γ γ s.lens s.lens w w' d := fun d => .inl ⟨rfl, rfl, fun _ g hgd => hblk g (h.blt d g hgd) (hl d g hgd)⟩
  refine h.frame (γ' := γ) s.lens rfl (fun b i u hp hc => ⟨hp, hcell b i u hp hc⟩) (fun d _ _ _ _ => hk d) (fun d _ _ _ _ _ => hk d) ?_ h.len h.inj (fun d b hb => Nat.lt_of_lt_of_le (h.blt d b hb) hg.size) (fun b i hp => Nat.lt_of_lt_of_le (h.plt b i hp) hg.size) hbel rfl
    (fun k o hk => ⟨(hblk k (Array.getElem?_eq_some_iff.1 (h.frm k o hk).1).1 (hf k o hk)).trans (h.frm k o hk).1, (h.frm k o hk).2⟩)
  intro d ty xs b hx hb
  obtain ⟨k1, b', cs, k2, k3, k4, k5, k6, k7⟩ := h.obj d ty xs hx
  have : b' = b := by rw [hb] at k2; exact (Option.some.inj k2).symm
  subst this
  exact ⟨k1, hb, hblk b' (h.blt d b' hb) (hl d b' hb), k7⟩
end
end Go.Proofs.YtmhoefpienagkaaDoor

/- Pieces of a function's law: its start, its results; code in two parts; a round leaves what it does not name. -/
namespace Go.Proofs.YtmhoefpienagkaaDoor
open Go.RowKit
section
variable {P : Program}
/-- the function's start -/
theorem rel_start {fn : Func} {args : List AV} {cs : List Value} {pr : Nat → Nat → Prop} {w : World} (hle : args.length ≤ fn.ntmps) (hgl : Glob w) (hpr : ∀ b i, pr b i → b < w.heap.size) (hargs : VL pr w cs args) :
    Rel { base := w.heap.size, pr := pr, blk := fun _ => none } w (start args fn.ntmps) { tmps := cs.toArray ++ Array.replicate (fn.ntmps - cs.toArray.size) undef, defers := [] } w := by
  have hlen := hargs.length
  refine ⟨?_, rfl, Below.refl _ _, Nat.le_refl _, fun t x hx => ?_, fun d ty xs hx => by simp [start, look] at hx, fun d len g hl => by simp [start, look] at hl, fun d d' b hd => by simp at hd, fun d b hd => by simp at hd, hpr, (fun k o h => by cases h), hgl⟩
  · simp [start]; omega
  · have hx' := look_zip args 0 t (x := x) (by simpa [start] using hx)
    obtain ⟨u, k1, k2⟩ := hargs.at_ (i := t) (by simpa using hx'.2)
    have : (cs.toArray ++ Array.replicate (fn.ntmps - cs.toArray.size) undef).getD t undef = u := by
      have hlt : t < cs.length := (List.getElem?_eq_some_iff.1 k1).1
      have hg : cs[t] = u := (List.getElem?_eq_some_iff.1 k1).2
      have h2 : t < (cs.toArray ++ Array.replicate (fn.ntmps - cs.toArray.size) undef).size := by simp; omega
      rw [Array.getD, dif_pos h2]
      simp [Array.getElem_append, hlt, hg]
    simp only [start]
    rw [this]
    exact AVR.nil_of_V k2
/-- the function's results -/
theorem results_fin {fn : Func} {r : Res} {s1 : St} {l' : List Prop} {γ' : Gh} {a' : Act} {w w' : World} {pr : Nat → Nat → Prop} (hres : (resVals P s1 fn.results.toList).bind (resOf s1) = some (r, l')) (hown : ∀ p ∈ l', p) (hg : GExt { base := w.heap.size, pr := pr, blk := fun _ => none } γ') (hr : Rel γ' w s1 a' w') :
    a'.defers = [] ∧ ∃ v, (results fn a'.tmps).run P w' = .ok v w' ∧ ∃ c pr', Ending.returned v = .returned c ∧ Below w.heap.size w w' ∧ (∀ b i, pr' b i → b < w'.heap.size) ∧ (∀ b i, b < w.heap.size → pr' b i → pr b i) ∧ V pr' w' c r.v ∧ ∀ e, r.own = some e → OwnRes w.heap.size pr' w' e c r.v := by
  refine ⟨hr.defers, ?_⟩
  simp only [Option.bind_eq_some_iff] at hres
  obtain ⟨xs, hxs, hres⟩ := hres
  obtain ⟨vs, k1, k2⟩ := results_run (P := P) hr fn.results.toList hxs
  have hbase : γ'.base = w.heap.size := hg.base
  have hrun2 : (results fn a'.tmps).run P w' = .ok (if h : vs.toArray.size = 1 then vs.toArray[0] else .tuple vs.toArray) w' := by
    have hm : fn.results.mapM (fun r : ResultVar => match r with | .tmp t => (pure (a'.tmps.getD t undef) : Sem Value) | .cell b t => do loadVar t (← asAddr (a'.tmps.getD b undef))) =
        List.toArray <$> fn.results.toList.mapM (fun r : ResultVar => match r with | .tmp t => (pure (a'.tmps.getD t undef) : Sem Value) | .cell b t => do loadVar t (← asAddr (a'.tmps.getD b undef))) := Array.mapM_eq_mapM_toList ..
    have hm2 : (fn.results.mapM (fun r : ResultVar => match r with | .tmp t => (pure (a'.tmps.getD t undef) : Sem Value) | .cell b t => do loadVar t (← asAddr (a'.tmps.getD b undef)))).run P w' = .ok vs.toArray w' := by
      rw [hm, map_eq_pure_bind, Sem.run_bind]
      exact (congrArg (fun r => Result.andThen r _) k2).trans (by simp only [Result.andThen_ok, Sem.run_pure])
    unfold results
    simp only [Sem.run_bind]
    refine Eq.trans (congrArg (fun r => Result.andThen r _) hm2) ?_
    simp only [Result.andThen_ok, Sem.run_pure]
  rw [hrun2]
  refine ⟨_, rfl, _, γ'.pr, rfl, by rw [← hbase]; exact hr.below, hr.plt, fun b i hb hp => hg.old b i hb hp, ?_⟩
  have one : ∀ (x : AV) (v : Value), AVR γ' s1.lens w' v x → ∀ e p, ownOf s1 x = some (e, p) → p → OwnRow w.heap.size γ'.pr w' e v (plain1 x) := fun x v h1 e p he hp => by
    have := own_row hr h1 he hp
    rw [hbase] at this; exact this
  unfold resOf at hres
  split at hres
  · rename_i x
    simp only [AVRs] at k1
    obtain ⟨v, vs', rfl, h1, rfl⟩ := k1
    have e2 : ∀ e, OwnRow w.heap.size γ'.pr w' e v (plain1 x) → OwnRes w.heap.size γ'.pr w' e v (plain1 x) := fun e => by
      cases x <;> exact fun h => h
    split at hres
    · rename_i e p ho
      cases hres
      refine ⟨by simpa using h1.plain1', fun e he => ?_⟩
      cases he
      simpa using e2 _ (one x v h1 e p ho (hown p (by simp)))
    · cases hres
      exact ⟨by simpa using h1.plain1', fun e he => by cases he⟩
  · cases hres
    simp only [AVRs] at k1
    subst k1
    exact ⟨by simp [V, VL], fun e he => by cases he⟩
  · rename_i x y l
    have hpl := k1.plain
    have hsz : vs.length = l.length + 2 := by rw [hpl.length]; simp
    have hne : ¬ vs.toArray.size = 1 := by simp; omega
    rw [dif_neg hne]
    split at hres
    · rename_i e p ho
      cases hres
      refine ⟨⟨vs, rfl, hpl⟩, fun e he c0 cs0 hc => ?_⟩
      cases he
      simp only [AVRs] at k1
      obtain ⟨v, vs', rfl, h1, _⟩ := k1
      have hc' : v = c0 := by
        injection hc with hc
        have := congrArg Array.toList hc
        simp at this; exact this.1
      subst hc'
      exact one x v h1 e p ho (hown p (by simp))
    · cases hres
      exact ⟨⟨vs, rfl, hpl⟩, fun e he => by cases he⟩
end

/-- what lies in the slots that no operation names stays -/
def dsts (ops : Array Oper) : List Nat := ops.toList.filterMap (·.dst)
theorem put_same {a : Act} {d : Option Nat} {c : Value} {t : Nat} (h : ∀ e, d = some e → e ≠ t) : (a.put d c).tmps.getD t undef = a.tmps.getD t undef := by
  cases d with
  | none => rfl
  | some e => simp [Act.put, Array.getElem?_setIfInBounds_ne (h e rfl)]
theorem oper_same {P : Program} {o : Oper} {a : Act} {w : World} {K : Act → World → Prop} {Q : Exit → Act → World → Prop} {T : Act → Prop} (hT : T a) (hput : ∀ a c, T a → T (a.put o.dst c)) (hdef : ∀ (a : Act) d, T a → T { a with defers := d :: a.defers }) (h : o.wp P a w K Q) :
    o.wp P a w (fun a' w' => K a' w' ∧ T a') (fun e a' w' => Q e a' w' ∧ (e = .outgrown ∨ T a')) := by
  unfold Oper.wp at *
  generalize (execOp a.eval o).run P w = r at h
  cases r with
  | ok x w' =>
    cases x <;> simp only [Oper.upon] at h ⊢ <;> try exact h
    case value v => exact ⟨h, hput _ _ hT⟩
    case skip => exact ⟨h, hput _ _ hT⟩
    case defer d => exact ⟨h, hput _ _ (hdef _ _ hT)⟩
    case enter f args =>
      refine h.mono fun e w'' he => ?_
      cases e with
      | returned v => exact ⟨he, hput _ _ hT⟩
      | panicked c => exact ⟨he, .inr hT⟩
      | outgrown => obtain ⟨b, w3, hb⟩ := he; exact ⟨b, w3, hb, .inl rfl⟩
    case row row args => exact h.mono fun v w'' he => ⟨he, hput _ _ hT⟩
  | halt x w' =>
    cases x <;> simp only [Oper.upon] at h ⊢ <;> try exact h
    exact ⟨h, .inr hT⟩
theorem any_same {P : Program} {ops : Array Oper} {Q : Exit → Act → World → Prop} {T : Act → Prop} (hput : ∀ (o : Oper) (i : Nat), ops[i]? = some o → ∀ a c, T a → T (a.put o.dst c)) (hdef : ∀ (a : Act) d, T a → T { a with defers := d :: a.defers }) :
    ∀ (fuel : Nat) (listed : Array Bool) (a : Act) (w : World), T a → wpAny P .any ops Q fuel listed a w → wpAny P .any ops (fun e a' w' => Q e a' w' ∧ (e = .outgrown ∨ T a')) fuel listed a w
  | 0, _, _, _, hT, h => ⟨h.1, h.2, .inr hT⟩
  | fuel + 1, listed, a, w, hT, h => by
    refine ⟨fun hr => ⟨h.1 hr, .inr hT⟩, fun i hi => ?_⟩
    have h1 := h.2 i hi
    unfold wpOp at h1 ⊢
    cases ho : ops[i]? with
    | none => rw [ho] at h1; exact any_same hput hdef fuel _ _ _ hT h1
    | some o =>
      rw [ho] at h1
      simp only at h1 ⊢
      split
      · rename_i hw
        rw [if_pos hw] at h1
        rcases h1 with h1 | ⟨h1, b, w2, hb⟩
        · exact .inl (Oper.wp_mono (fun a' w' hh => any_same hput hdef fuel _ _ _ hh.2 hh.1) (oper_same hT (hput o i ho) hdef h1))
        · exact .inr ⟨h1, b, w2, hb, .inl rfl⟩
      · rename_i hw
        rw [if_neg hw] at h1
        exact any_same hput hdef fuel _ _ _ (hput o i ho _ _ hT) h1
/-- a region that draws, within a round; the slots that it does not name stay -/
theorem region_round2 {P : Program} {call : Orc} {ops : Array Oper} {w0 w : World} {γ : Gh} {s t : St} {a : Act} {Q : Exit → Act → World → Prop} {l n id : Nat} (hmix : P.follows .mixedOrders = true) (hrel : Rel γ w0 s a w) (h : runRegion P call ops true s = some t) (hlog : ∀ p ∈ t.log, p)
    (hQ0 : ∀ a w, ¬ Q .outgrown a w) (hops : ops.toList.all noRow = true) (hQ : ∀ γ' a' w', GExt γ γ' → Rel γ' w0 t a' w' → (∀ t, t ∉ dsts ops → a'.tmps.getD t undef = a.tmps.getD t undef) → Q .normal a' w') : (Code.region id ops true).wpIn (RF l) n P Q a w := by
  simp only [runRegion] at h
  split at h
  case h_2 => cases h
  rename_i hok
  have hl : left ops (Array.replicate ops.size false) = List.range ops.size := by
    simp only [left]
    refine List.filter_eq_self.2 fun j hj => ?_
    have := List.mem_range.1 hj
    simp [this]
  let Q1 : Exit → Act → World → Prop := fun e a' w' => e = .normal ∧ ∃ γ', GExt γ γ' ∧ Rel γ' w0 t a' w'
  let T : Act → Prop := fun a' => ∀ t, t ∉ dsts ops → a'.tmps.getD t undef = a.tmps.getD t undef
  have h1 : wpAny P .any ops Q1 ops.size (Array.replicate ops.size false) a { w with drawn := w.drawn + 1 } :=
    any_sound hok ops.size (Array.replicate ops.size false) (t := t) (γ := γ) (s := s) (by simp) (by rw [hl]; simp) (fun j hj => by
      exfalso
      by_cases hlt : j < ops.size <;> simp [hlt] at hj) (by rw [hl]; exact h) hlog (hrel.drew rfl rfl rfl rfl) (fun γ' a' w' t' e ht hr => ⟨rfl, γ', e, hr.eqv ht⟩)
  have h2 := any_same (T := T) (fun o i ho a' c hT t ht => by
    rw [put_same (fun e he => ?_)]
    · exact hT t ht
    · rintro rfl
      exact ht (List.mem_filterMap.2 ⟨o, by rw [Array.mem_toList_iff]; exact Array.mem_of_getElem? ho, he⟩)) (fun a' d hT => hT) _ _ _ _ (fun _ _ => rfl) h1
  refine wpIn_mono (wpIn_region_any hmix (anyIn_of_any (Q := fun e a' w' => Q1 e a' w' ∧ (e = .outgrown ∨ T a')) (fun a w hh => by cases hh.1.1) (fun i o ho => List.all_eq_true.1 hops o (by rw [Array.mem_toList_iff]; exact Array.mem_of_getElem? ho)) _ _ _ _ h2)) ?_
  rintro e a' w' ⟨⟨rfl, γ', hg, hr⟩, hT⟩
  rcases hT with hT | hT
  · cases hT
  · exact hQ γ' a' w' hg hr hT

/-- operations that neither call nor defer -/
theorem noRow_val {P : Program} {o : Oper} (h : noRow o = true) (ρ : Operand → Value) {w w' : World} {x : Next} (he : (execOp ρ o).run P w = .ok x w') : (∃ v, x = .value v) ∨ x = .skip := by
  unfold noRow at h
  split at h
  · cases h
  · rename_i c hc
    split at h
    · rename_i hcal
      have : (execOp ρ o).run P w = (do pure (Next.value (← Builtin.append_ c.argTypes o.type (c.args.map ρ))) : Sem Next).run P w := by
        simp only [execOp, hc, resolve, hcal, Sem.run_bind, Sem.run_pure, Result.andThen_ok, invoke]; simp only [builtin, Sem.run_bind, Sem.run_pure]
      rw [this] at he
      exact .inl (value_only (f := id) he)
    · rename_i hcal
      have : (execOp ρ o).run P w = (do pure (Next.value (← Builtin.len_ c.argTypes o.type (c.args.map ρ))) : Sem Next).run P w := by
        simp only [execOp, hc, resolve, hcal, Sem.run_bind, Sem.run_pure, Result.andThen_ok, invoke]; simp only [builtin, Sem.run_bind, Sem.run_pure]
      rw [this] at he
      exact .inl (value_only (f := id) he)
    · cases h
  all_goals first
    | (rename_i hop; simp only [execOp, hop] at he; exact .inl (value_only (f := id) he))
    | (rename_i hop; simp only [execOp, hop] at he; exact .inr (unit_only he))
    | (rename_i hop; simp only [execOp, hop, Sem.run_pure] at he; cases he; exact .inl ⟨_, rfl⟩)
    | cases h
theorem ops_defers {P : Program} {ops : Array Oper} {Q : Exit → Act → World → Prop} (ds : List Deferred) (hops : ∀ (i : Nat) (o : Oper), ops[i]? = some o → noRow o = true) (hQ : ∀ a w, ¬ Q .outgrown a w) :
    ∀ (l : List Nat) (a : Act) (w : World), wpOps P ops Q l a w → wpOps P ops (fun e a' w' => ∃ b, a' = { b with defers := ds } ∧ Q e b w') l { a with defers := ds } w
  | [], a, w, h => ⟨a, rfl, h⟩
  | i :: l, a, w, h => by
    rw [wpOps_cons] at h ⊢
    unfold wpOp at h ⊢
    cases ho : ops[i]? with
    | none => rw [ho] at h; exact ops_defers ds hops hQ l a w h
    | some o =>
      rw [ho] at h
      simp only at h ⊢
      have hp : ∀ c, ({ a with defers := ds } : Act).put o.dst c = { a.put o.dst c with defers := ds } := fun c => by cases o.dst <;> rfl
      split
      · rename_i hw
        rw [if_pos hw] at h
        rcases h with h | ⟨_, b, w2, hb⟩
        · left
          unfold Oper.wp at h ⊢
          have he : ({ a with defers := ds } : Act).eval = a.eval := rfl
          rw [he]
          generalize hres : (execOp a.eval o).run P w = r at h ⊢
          cases r with
          | ok x w' =>
            rcases noRow_val (hops i o ho) a.eval hres with ⟨v, rfl⟩ | rfl
            · simp only [Oper.upon] at h ⊢
              rw [hp]; exact ops_defers ds hops hQ l _ _ h
            · simp only [Oper.upon] at h ⊢
              rw [hp]; exact ops_defers ds hops hQ l _ _ h
          | halt x w' =>
            cases x <;> simp only [Oper.upon] at h ⊢
            exact ⟨a, rfl, h⟩
        · exact absurd hb (hQ _ _)
      · rename_i hw
        rw [if_neg hw] at h
        rw [hp]; exact ops_defers ds hops hQ l _ _ h
/-- nil in a cell of a box -/
theorem Rel.nilCell {γ : Gh} {w0 w : World} {s : St} {a : Act} (hr : Rel γ w0 s a w) (b i d e size : Nat) {ty : Nat} {xs : List AV} (ht : look s.objs b = some (ty, xs)) (hi : xs[i]? = some (.sc (.slice none 0 0))) (hd : s.absent d = true) :
    Rel { γ with blk := fun d' => if d' = d then none else γ.blk d' } w0 { s with objs := (b, (ty, xs.set i (.row (some (d, e)) size 0 []))) :: s.objs, lens := (d, 0) :: s.lens } a w := by
  have ha := Absent.of hd
  have hr' := (hr.name ha none (fun b hb => by cases hb) (fun b hb => by cases hb)).setLen (len := 0) ha (fun g hg => by simp at hg)
  refine ⟨hr'.size, hr'.defers, hr'.below, hr'.base, hr'.slot, fun d' ty' ys hx => ?_, hr'.len, hr'.inj, hr'.blt, hr'.plt, hr'.frm, hr'.gl⟩
  simp only [look_cons] at hx
  split at hx
  · rename_i e1; subst e1
    simp only [Option.some.injEq, Prod.mk.injEq] at hx
    obtain ⟨rfl, rfl⟩ := hx
    obtain ⟨k1, b', cs, k2, k3, k4, k5, k6, k7⟩ := hr'.obj b ty xs ht
    refine ⟨k1, b', cs, k2, k3, k4, AVRL.of_at (by simp [k5.length]) fun j x c hx hc => ?_, k6, k7⟩
    rw [List.getElem?_set] at hx
    split at hx
    · rename_i e2; subst e2
      split at hx
      · cases hx
        obtain ⟨c', q1, q2⟩ := k5.at_ hi
        rw [hc] at q1; cases q1
        have : c = .slice none 0 0 := q2
        rw [this]
        exact nil_row (by simp [look_cons])
      · cases hx
    · obtain ⟨c', q1, q2⟩ := k5.at_ hx
      rw [hc] at q1; cases q1; exact q2
  · exact hr'.obj d' ty' ys hx
end Go.Proofs.YtmhoefpienagkaaDoor

/- Judgements in which what nobody touches may grow. -/
namespace Go.Proofs.YtmhoefpienagkaaDoor
open Go.RowKit

abbrev Frz := Nat → Option Obj
def GB (γ γ1 : Gh) : Prop := γ1.base = γ.base ∧ ∀ b i, b < γ.base → γ1.pr b i → γ.pr b i
theorem GB.refl (γ : Gh) : GB γ γ := ⟨rfl, fun _ _ _ h => h⟩
theorem GB.trans {a b c : Gh} (h : GB a b) (k : GB b c) : GB a c := ⟨k.1.trans h.1, fun x i hx hp => h.2 x i hx (k.2 x i (by rw [h.1]; exact hx) hp)⟩
theorem GB.of {a b : Gh} (h : GExt a b) : GB a b := ⟨h.base, h.old⟩
def JudgF (B : Nat) (F : Frz) (c : Code) (s : St) (Q : Out → Frz → Prop) : Prop :=
  ∀ (γ : Gh) (w0 : World) (a : Act) (w : World), Rel γ w0 s a w → γ.base = B → γ.fr = F → c.wp Tryd.prog (fun e a' w' => ∃ out F' γ1, Q out F' ∧ GB γ γ1 ∧ γ1.fr = F' ∧ PostOf γ1 w0 out e a' w') a w
section
variable {B : Nat} {F : Frz} {c x y : Code} {s : St} {Q : Out → Frz → Prop}
theorem JudgF.of {Qo : Out → Prop} (J : Judg c s Qo) (h : ∀ o, Qo o → Q o F) : JudgF B F c s Q := fun γ w0 a w hr hb hf =>
  wp_mono (J _ _ _ _ hr) fun e a w ⟨o, q, p⟩ => ⟨o, F, γ, h o q, GB.refl γ, hf, p⟩
theorem JudgF.mono {Q' : Out → Frz → Prop} (h : JudgF B F c s Q) (hq : ∀ o F, Q o F → Q' o F) : JudgF B F c s Q' := fun γ w0 a w hr hb hf =>
  wp_mono (h _ _ _ _ hr hb hf) fun e a w ⟨o, F', γ1, q, p⟩ => ⟨o, F', γ1, hq o F' q, p⟩
theorem JudgF.seq (h : JudgF B F x s fun o F' => match o with | .go s' => JudgF B F' y s' Q | o => Q o F') : JudgF B F (.seq x y) s Q := fun γ w0 a w hr hb hf =>
  wp_seq (wp_mono (h _ _ _ _ hr hb hf) fun e a' w' ⟨o, F', γ1, q, hg, hf1, p⟩ => by
    cases e with
    | normal =>
      obtain ⟨s', γ', e', hg', hr'⟩ := p
      subst e'
      exact wp_mono (q _ _ _ _ hr' (hg'.base.trans (hg.1.trans hb)) (hg'.fr.trans hf1)) fun e a w ⟨o, F2, γ2, q2, hg2, p2⟩ => ⟨o, F2, γ2, q2, (hg.trans (GB.of hg')).trans hg2, p2⟩
    | exit i => obtain ⟨s', γ', e', hg', hr'⟩ := id p; subst e'; exact ⟨_, F', γ1, q, hg, hf1, p⟩
    | ret => obtain ⟨s', γ', e', hg', hr'⟩ := id p; subst e'; exact ⟨_, F', γ1, q, hg, hf1, p⟩
    | _ => exact p.elim)
theorem JudgF.block {id : Nat} (h : JudgF B F c s fun o F' => match o with | .exit id' s' => if id' = id then Q (.go s') F' else Q o F' | o => Q o F') : JudgF B F (.block id c) s Q := fun γ w0 a w hr hb hf =>
  wp_block (wp_mono (h _ _ _ _ hr hb hf) fun e a' w' ⟨o, F', γ1, q, hg1, hf1, p⟩ => by
    cases e with
    | normal => obtain ⟨s', γ', e', hg, hr'⟩ := (show PostOf γ1 w0 o .normal a' w' from p); subst e'; exact ⟨_, F', γ1, q, hg1, hf1, p⟩
    | ret => obtain ⟨s', γ', e', hg, hr'⟩ := (show PostOf γ1 w0 o .ret a' w' from p); subst e'; exact ⟨_, F', γ1, q, hg1, hf1, p⟩
    | exit id' =>
      obtain ⟨s', γ', e', hg, hr'⟩ := (show PostOf γ1 w0 o (.exit id') a' w' from p)
      subst e'
      simp only [Exit.inBlock]
      by_cases hid : id' = id
      · rw [if_pos hid]
        simp only [hid, if_true] at q
        exact ⟨_, F', γ1, q, hg1, hf1, s', γ', rfl, hg, hr'⟩
      · rw [if_neg hid]
        simp only [hid, if_false] at q
        exact ⟨_, F', γ1, q, hg1, hf1, p⟩
    | _ => exact p.elim)
theorem JudgF.cond_true {v : Operand} (hc : s.eval v = .sc (.bool true)) (h : JudgF B F x s Q) : JudgF B F (.cond v x y) s Q := fun _ _ _ _ hr hb hf => wp_cond_true (ev_sc hr.eval hc) (h _ _ _ _ hr hb hf)
theorem JudgF.cond_false {v : Operand} (hc : s.eval v = .sc (.bool false)) (h : JudgF B F y s Q) : JudgF B F (.cond v x y) s Q := fun _ _ _ _ hr hb hf => wp_cond_false (ev_sc hr.eval hc) (h _ _ _ _ hr hb hf)
open Classical in
theorem JudgF.loop (Inv : Nat → St → Frz → Prop) {n : Nat} (h0 : Inv n s F)
    (step : ∀ n s F, Inv n s F → JudgF B F c s fun o F' => match o with | .go s' => ∃ m, m < n ∧ Inv m s' F' | o => Q o F') : JudgF B F (.loop c) s Q := fun γ w0 a w hr hb hf => by
  let Pr : Nat → Act → World → Prop := fun k a w => ∃ γ' s', GB γ γ' ∧ Rel γ' w0 s' a w ∧ Inv k s' γ'.fr
  refine wp_loop (fun a w => ∃ k, Pr k a w) (fun a w => if h : ∃ k, Pr k a w then (least h).choose else 0) ⟨n, γ, s, GB.refl γ, hr, by rw [hf]; exact h0⟩ ?_
  intro a w hI
  have hk := (least hI).choose_spec.1
  generalize hke : (least hI).choose = k at hk
  have hμ : (if h : ∃ k, Pr k a w then (least h).choose else 0) = k := by rw [dif_pos hI]; exact hke
  rw [hμ]
  obtain ⟨γ', s', hg, hr', hi⟩ := hk
  refine wp_mono (step k s' γ'.fr hi _ _ _ _ hr' (hg.1.trans hb) rfl) fun e a' w' ⟨o, F', γ1, q, hg1, hf1, p⟩ => ?_
  cases e with
  | normal =>
    obtain ⟨s2, γ2, e2, hg2, hr2⟩ := p
    subst e2
    obtain ⟨m, hm, hi2⟩ := q
    have hP : Pr m a' w' := ⟨γ2, s2, (hg.trans hg1).trans (GB.of hg2), hr2, by rw [hg2.fr, hf1]; exact hi2⟩
    refine ⟨⟨m, hP⟩, ?_⟩
    have hex : ∃ k, Pr k a' w' := ⟨m, hP⟩
    show (if h : ∃ k, Pr k a' w' then (least h).choose else 0) < k
    rw [dif_pos hex]
    exact Nat.lt_of_le_of_lt ((least hex).choose_spec.2 m hP) hm
  | exit i => obtain ⟨s3, γ3, e3, hg3, hr3⟩ := id p; subst e3; exact ⟨_, F', γ1, q, hg.trans hg1, hf1, p⟩
  | ret => obtain ⟨s3, γ3, e3, hg3, hr3⟩ := id p; subst e3; exact ⟨_, F', γ1, q, hg.trans hg1, hf1, p⟩
  | _ => exact p.elim
/-- the ghosts are seen anew -/
theorem JudgF.ghost (h : ∀ (γ : Gh) (w0 : World) (a : Act) (w : World), Rel γ w0 s a w → γ.base = B → γ.fr = F → ∃ γ' s', GB γ γ' ∧ Rel γ' w0 s' a w ∧ JudgF B γ'.fr c s' Q) : JudgF B F c s Q := fun γ w0 a w hr hb hf => by
  obtain ⟨γ', s', hg, hr', J⟩ := h γ w0 a w hr hb hf
  exact wp_mono (J γ' w0 a w hr' (hg.1.trans hb) rfl) fun e a w ⟨o, F', γ1, q, hg1, p⟩ => ⟨o, F', γ1, q, hg.trans hg1, p⟩
theorem JudgF.clean {L N : List Nat} {t : St} (h : YtmhoefpienagkaaDoor.clean L N s = t) (k : JudgF B F c t Q) : JudgF B F c s Q := fun _ _ _ _ hr hb hf => by
  subst h
  exact k _ _ _ _ ((hr.mask L N).withLog []) hb hf
theorem JudgF.seqE (hc : c = .seq (sX c) (sY c)) (h : JudgF B F (sX c) s fun o F' => match o with | .go s' => JudgF B F' (sY c) s' Q | o => Q o F') : JudgF B F c s Q := by
  rw [hc]; exact JudgF.seq h
theorem JudgF.blockE (hc : c = .block (bI c) (bX c)) (h : JudgF B F (bX c) s fun o F' => match o with | .exit id' s' => if id' = bI c then Q (.go s') F' else Q o F' | o => Q o F') : JudgF B F c s Q := by
  rw [hc]; exact JudgF.block h
theorem JudgF.condT (hc : c = .cond (cO c) (cA c) (cB c)) (hv : s.eval (cO c) = .sc (.bool true)) (h : JudgF B F (cA c) s Q) : JudgF B F c s Q := by
  rw [hc]; exact JudgF.cond_true hv h
theorem JudgF.condF (hc : c = .cond (cO c) (cA c) (cB c)) (hv : s.eval (cO c) = .sc (.bool false)) (h : JudgF B F (cB c) s Q) : JudgF B F c s Q := by
  rw [hc]; exact JudgF.cond_false hv h
/-- a region whose last operations are looked at by hand -/
theorem JudgF.regionTail (hc : c = .region (rId c) (rOps c) true) (H : Orc) (L : Nat) (t : St) (hL : L ≤ (rOps c).size) (hok : drawOk (rOps c) = true) (hT : tailOk (rOps c) L = true)
    (h : runOps Tryd.prog H (rOps c) (itemsOf (rOps c) (List.range L)) s = some t) (hlog : ∀ p ∈ t.log, p)
    (hQ : ∀ γ0 γ w0 a w, GB γ0 γ → Rel γ w0 t a w → γ.base = B → γ.fr = F → wpOps Tryd.prog (rOps c) (fun e a' w' => ∃ out F' γ1, Q out F' ∧ GB γ0 γ1 ∧ γ1.fr = F' ∧ PostOf γ1 w0 out e a' w') (List.range' L ((rOps c).size - L)) a w) : JudgF B F c s Q := fun γ w0 a w hr hb hf => by
  rw [hc]
  exact region_tail (call := H) mixed_ok L hL hok hT hr h hlog fun γ' a' w' hg hr' => hQ γ γ' w0 a' w' (GB.of hg) hr' (hg.base.trans hb) (hg.fr.trans hf)
/-- at the end the ghosts of the start stand again -/
theorem Judg.ofF {Qo : Out → Prop} (h : ∀ B F, JudgF B F c s fun o F' => Qo o ∧ ∀ k o, F k = some o → F' k = some o) : Judg c s Qo := fun γ w0 a w hr =>
  wp_mono (h γ.base γ.fr γ w0 a w hr rfl rfl) fun e a' w' ⟨o, F', γ1, ⟨q, hs⟩, hg, hf, p⟩ => by
    refine ⟨o, q, ?_⟩
    have key : ∀ {s' : St} {γ' : Gh}, GExt γ1 γ' → Rel γ' w0 s' a' w' → ∃ γ'', GExt γ γ'' ∧ Rel γ'' w0 s' a' w' := fun {s' γ'} hg' hr' =>
      ⟨{ γ' with fr := γ.fr }, ⟨hg'.base.trans hg.1, fun b i hb hp => hg.2 b i hb (hg'.old b i (by rw [hg.1]; exact hb) hp), rfl⟩, hr'.freeze γ.fr fun k o hk => hr'.frm k o (by rw [hg'.fr, hf]; exact hs k o hk)⟩
    cases e with
    | normal => obtain ⟨s', γ', e', hg', hr'⟩ := p; obtain ⟨γ'', h1, h2⟩ := key hg' hr'; exact ⟨s', γ'', e', h1, h2⟩
    | exit i => obtain ⟨s', γ', e', hg', hr'⟩ := p; obtain ⟨γ'', h1, h2⟩ := key hg' hr'; exact ⟨s', γ'', e', h1, h2⟩
    | ret => obtain ⟨s', γ', e', hg', hr'⟩ := p; obtain ⟨γ'', h1, h2⟩ := key hg' hr'; exact ⟨s', γ'', e', h1, h2⟩
    | _ => exact p.elim
end
/-- reads as x, whatever happens outside of F -/
def FrV (B : Nat) (F : Frz) (c : Value) (x : AV) : Prop := ∃ q : Nat → Nat → Prop, (∀ b i, q b i → B ≤ b ∧ ∃ o, F b = some o) ∧ ∀ w : World, (∀ k o, F k = some o → w.heap[k]? = some o) → V q w c x
theorem FrV.mono {B : Nat} {F F' : Frz} {c : Value} {x : AV} (h : FrV B F c x) (hs : ∀ k o, F k = some o → F' k = some o) : FrV B F' c x := by
  obtain ⟨q, h1, h2⟩ := h
  exact ⟨q, fun b i hq => ⟨(h1 b i hq).1, by obtain ⟨o, ho⟩ := (h1 b i hq).2; exact ⟨o, hs b o ho⟩⟩, fun w hw => h2 w fun k o hk => hw k o (hs k o hk)⟩
/-- a cell of a box is seen as the very value -/
theorem Rel.cellSc {γ : Gh} {w0 w : World} {s : St} {a : Act} (hr : Rel γ w0 s a w) (b i : Nat) {ty : Nat} {xs : List AV} (ht : look s.objs b = some (ty, xs)) (hi : i < xs.length) :
    ∃ c, AVR1 γ s.lens w c xs[i] ∧ Rel γ w0 { s with objs := (b, (ty, xs.set i (.sc c))) :: s.objs } a w := by
  obtain ⟨k1, b', cs, k2, k3, k4, k5, k6, k7⟩ := hr.obj b ty xs ht
  obtain ⟨c, q1, q2⟩ := k5.at_ (List.getElem?_eq_getElem hi)
  refine ⟨c, q2, hr.size, hr.defers, hr.below, hr.base, hr.slot, fun d' ty' ys hx => ?_, hr.len, hr.inj, hr.blt, hr.plt, hr.frm, hr.gl⟩
  simp only [look_cons] at hx
  split at hx
  · rename_i e1; subst e1
    simp only [Option.some.injEq, Prod.mk.injEq] at hx
    obtain ⟨rfl, rfl⟩ := hx
    refine ⟨k1, b', cs, k2, k3, k4, AVRL.of_at (by simp [k5.length]) fun j x c' hx hc => ?_, k6, k7⟩
    rw [List.getElem?_set, if_pos hi] at hx
    split at hx
    · rename_i e2; subst e2
      cases hx
      rw [hc] at q1; cases q1; exact rfl
    · obtain ⟨c'', q1', q2'⟩ := k5.at_ hx
      rw [hc] at q1'; cases q1'; exact q2'
  · exact hr.obj d' ty' ys hx
/-- a row of one's own, once nobody touches its block -/
theorem frV_own {γ : Gh} {L : List (Nat × Nat)} {w : World} {c : Value} {d e size n : Nat} {vs : List Value} (h : AVR1 γ L w c (.row (some (d, e)) size n (vs.map .sc))) (hl : look L d = some (n * size)) :
    ∃ A k, c = .slice A n k ∧ ((n = 0 ∧ ∀ B F, FrV B F c (.row none size n (vs.map .sc))) ∨ ∃ g o, γ.blk d = some g ∧ γ.base ≤ g ∧ w.heap[g]? = some o ∧ ∀ F : Frz, F g = some o → FrV γ.base F c (.row none size n (vs.map .sc))) := by
  obtain ⟨hV, hL⟩ := h
  have hown := (hL _ hl).2 rfl
  obtain ⟨A, cap, rfl, a1, a2, a3, a4⟩ := hV
  refine ⟨A, cap, rfl, ?_⟩
  rcases Nat.eq_zero_or_pos n with h0 | h0
  · refine .inl ⟨h0, fun B F => ⟨fun _ _ => False, fun _ _ h => h.elim, fun w _ => ⟨A, cap, rfl, a1, a2, a3, fun hn => by omega⟩⟩⟩
  · rcases hown with ⟨A', e1, e2⟩ | ⟨us, ho, hb⟩
    · omega
    have hus := own_VL (tok := none) ho ⟨A, cap, rfl, a1, a2, a3, a4⟩
    rw [VL_sc] at hus
    obtain ⟨hus, hone⟩ := hus
    subst hus
    rcases ho.2 with ⟨_, e2⟩ | ⟨g, cap', cur, e3, b1, b2, b3, b4, b5, b6⟩
    · omega
    cases e3
    refine .inr ⟨g, _, hb g rfl, b1, b2, fun F hF => ⟨fun b i => b = g, fun b i (hq : b = g) => by subst hq; exact ⟨b1, _, hF⟩, fun w' hw' => ?_⟩⟩
    have ho' : w'.ownsRow γ.base e size (.slice (some ⟨g, 0, none⟩) n cap) n us := ⟨ho.1, .inr ⟨g, cap, cur, rfl, b1, hw' g _ hF, b3, b4, b5, b6⟩⟩
    exact V_own ho' a1 a2 (VL_sc.2 rfl) hone (fun i hi => rfl) none
end Go.Proofs.YtmhoefpienagkaaDoor

/- Loops in which what nobody touches grows; a map of one's own. -/
namespace Go.Proofs.YtmhoefpienagkaaDoor
open Go.RowKit

section
variable {B : Nat} {F : Frz}
theorem JudgF.pre (call : Orc) (live : Nat → Option (List Nat × List Nat)) (fuel : Nat) {Q : Out → Frz → Prop} : ∀ (n : Nat) {c : Code} {s s' : St}, runCode Tryd.prog call live fuel (YtmhoefpienagkaaDoor.pre n c) s = some (.go s') → (∀ p ∈ s'.log, p) → JudgF B F (YtmhoefpienagkaaDoor.post n c) s' Q → JudgF B F c s Q
  | 0, c, s, s', h, _, k => by
    have e : YtmhoefpienagkaaDoor.pre 0 c = .skip := by cases c <;> rfl
    have e2 : YtmhoefpienagkaaDoor.post 0 c = c := by cases c <;> rfl
    rw [e] at h
    simp only [runCode, Option.some.injEq, Out.go.injEq] at h
    subst h; rw [e2] at k; exact k
  | n + 1, c, s, s', h, hl, k => by
    cases c with
    | seq a b =>
      simp only [YtmhoefpienagkaaDoor.pre, runCode] at h
      simp only [YtmhoefpienagkaaDoor.post] at k
      cases ha : runCode Tryd.prog call live fuel a s with
      | none => rw [ha] at h; simp at h
      | some o =>
        rw [ha] at h
        cases o with
        | go s1 =>
          simp only at h
          exact JudgF.seq (JudgF.of (Judg.run (Q := fun o => o = .go s1) call live fuel ha (fun p hp => hl p (code_log _ h p hp)) rfl) fun o ho => by
            subst ho; exact JudgF.pre call live fuel n h hl k)
        | exit id s1 => simp at h
        | ret s1 => simp at h
    | _ =>
      simp only [YtmhoefpienagkaaDoor.pre, runCode, Option.some.injEq, Out.go.injEq] at h
      subst h; simp only [YtmhoefpienagkaaDoor.post] at k; exact k
theorem JudgF.pre' (f : Nat) (H : Orc) (n : Nat) {c : Code} {s : St} {Q : Out → Frz → Prop} (s' : St) (log : List Prop) (h : runCode Tryd.prog H (liveOf f) 0 (YtmhoefpienagkaaDoor.pre n c) s = some (.go s')) (hl : s'.log = log) (hp : ∀ p ∈ log, p)
    (k : JudgF B F (YtmhoefpienagkaaDoor.post n c) s' Q) : JudgF B F c s Q := JudgF.pre H (liveOf f) 0 n h (by rw [hl]; exact hp) k
theorem JudgF.run' (f : Nat) (H : Orc) {c : Code} {s : St} {Q : Out → Frz → Prop} (o : Out) (log : List Prop) (h : runCode Tryd.prog H (liveOf f) 0 c s = some o) (hl : o.st.log = log) (hp : ∀ p ∈ log, p) (q : Q o F) : JudgF B F c s Q :=
  JudgF.of (Judg.run' (Q := fun o' => o' = o) f H o log h hl hp rfl) fun o' ho => by subst ho; exact q
theorem JudgF.for_ {ι : Type} (L N : List Nat) (st : ι → St) (μ : ι → Nat) (Pi : ι → Frz → Prop) {c : Code} (hc : c = .seq (.seq (fR c) (.block (fI c) (.loop (fB c)))) (fK c)) {s s1 : St} {Q : Out → Frz → Prop}
    (call : Orc) (live : Nat → Option (List Nat × List Nat)) (hr : runCode Tryd.prog call live 0 (fR c) s = some (.go s1)) (hl : ∀ p ∈ s1.log, p) (i0 : ι) (h0 : Pi i0 F) (hs0 : YtmhoefpienagkaaDoor.clean L N s1 = st i0)
    (step : ∀ i F, Pi i F → JudgF B F (fB c) (st i) (fun o F' => match o with
      | .go s' => ∃ j, Pi j F' ∧ μ j < μ i ∧ YtmhoefpienagkaaDoor.clean L N s' = st j
      | .exit id' s' => if id' = fI c then JudgF B F' (fK c) s' Q else Q (.exit id' s') F'
      | .ret s' => Q (.ret s') F')) : JudgF B F c s Q := by
  rw [hc]
  refine JudgF.seq (JudgF.seq (JudgF.of (Judg.run (Q := fun o => o = .go s1) call live 0 hr hl rfl) fun o ho => ?_))
  subst ho
  refine JudgF.block (JudgF.loop (fun n s F => ∃ i, Pi i F ∧ n = μ i ∧ YtmhoefpienagkaaDoor.clean L N s = st i) ⟨i0, h0, rfl, hs0⟩ ?_)
  rintro n s' F ⟨i, hi, rfl, hs⟩
  refine (JudgF.clean hs (step i F hi)).mono fun o F' ho => ?_
  cases o with
  | go s2 =>
    obtain ⟨j, h1, h2, h3⟩ := ho
    exact ⟨μ j, h2, j, h1, rfl, h3⟩
  | exit id' s2 =>
    simp only at ho ⊢
    split
    · rename_i e; rw [if_pos e] at ho; exact ho
    · rename_i e; rw [if_neg e] at ho; exact ho
  | ret s2 => exact ho
end
section
variable {P : Program} {ops : Array Oper} {Q : Exit → Act → World → Prop}
theorem wpOps_valG {i : Nat} {rest : List Nat} {o : Oper} {a : Act} {w w' : World} {c : Value} (ho : ops[i]? = some o) (hg : Region.wanted o (yielded ops a.tmps) = true) (h : (execOp a.eval o).run P w = .ok (.value c) w') (hk : wpOps P ops Q rest (a.put o.dst c) w') : wpOps P ops Q (i :: rest) a w := by
  rw [wpOps_cons]; unfold wpOp; rw [ho]
  simp only [hg, if_true]; exact .inl (wp_value h hk)
end
/-- the first operations of a region are run, the rest is looked at by hand -/
theorem JudgF.regionPart {B : Nat} {F : Frz} {c : Code} {s : St} {Q : Out → Frz → Prop} (hc : c = .region (rId c) (rOps c) false) (H : Orc) (L : Nat) (t : St) (hL : L ≤ (rOps c).size)
    (h : runS Tryd.prog H (rOps c) ((rOps c).toList.take L) s = some t) (hlog : ∀ p ∈ t.log, p)
    (hQ : ∀ γ0 γ w0 a w, GB γ0 γ → Rel γ w0 t a w → γ.base = B → γ.fr = F → wpOps Tryd.prog (rOps c) (fun e a' w' => ∃ out F' γ1, Q out F' ∧ GB γ0 γ1 ∧ γ1.fr = F' ∧ PostOf γ1 w0 out e a' w') (List.range' L ((rOps c).size - L)) a w) : JudgF B F c s Q := fun γ w0 a w hr hb hf => by
  rw [hc]
  have e : List.range (rOps c).size = List.range L ++ List.range' L ((rOps c).size - L) := by
    rw [List.range_eq_range', List.range_eq_range']
    have := List.range'_append_1 (s := 0) (m := L) (n := (rOps c).size - L)
    rw [Nat.zero_add] at this
    rw [this]; congr 1; omega
  refine wp_region ?_
  show wpOps Tryd.prog (rOps c) _ (List.range (rOps c).size) a w
  rw [e]
  refine ops_part (call := H) (List.range L) ((rOps c).toList.take L) ?_ h hlog hr fun γ' a' w' hg hr' => hQ γ γ' w0 a' w' (GB.of hg) hr' (hg.base.trans hb) (hg.fr.trans hf)
  refine List.ext_getElem? fun i => ?_
  simp only [List.getElem?_map]
  by_cases hi : i < L
  · have h2 : i < (rOps c).size := by omega
    simp [List.getElem?_range hi, List.getElem?_take, hi, h2]
  · have h1 : (List.range L)[i]? = none := List.getElem?_eq_none (by simp; omega)
    have h2 : ((rOps c).toList.take L)[i]? = none := List.getElem?_eq_none (by simp; omega)
    simp [h1, h2]
/-- a map whose keys are these numbers -/
abbrev DN := DataW Nat
def Dm (ids : List Int) : DN := ids.foldl (fun D k => D.put (.int .i64 k) (.lit (.bool true))) (.map [])
theorem Dm_snoc (ids : List Int) (k : Int) : Dm (ids ++ [k]) = (Dm ids).put (.int .i64 k) (.lit (.bool true)) := by unfold Dm; rw [List.foldl_append]; rfl
theorem put_map (D : DN) (h : ∃ es, D = .map es) (k : Lit) (d : DN) : ∃ es, D.put k d = .map es := by
  obtain ⟨es, rfl⟩ := h; exact ⟨_, rfl⟩
theorem Dm_map (ids : List Int) : ∃ es, Dm ids = .map es := by
  unfold Dm
  suffices ∀ (D : DN), (∃ es, D = .map es) → ∃ es, ids.foldl (fun D k => D.put (.int .i64 k) (.lit (.bool true))) D = .map es from this _ ⟨_, rfl⟩
  induction ids with
  | nil => intro D h; exact h
  | cons k ids ih => intro D h; exact ih _ (put_map D h _ _)
end Go.Proofs.YtmhoefpienagkaaDoor

/- A call looked at by hand;  -/
namespace Go.Proofs.YtmhoefpienagkaaDoor
open Go.RowKit

section
variable {P : Program} {ops : Array Oper} {Q : Exit → Act → World → Prop}
theorem wpOps_call {i g : Nat} {rest : List Nat} {o : Oper} {a : Act} {w : World} {cs : Array Value} {R : Ending → World → Prop} (ho : ops[i]? = some o) (hg : o.guard = none) (h : (execOp a.eval o).run P w = .ok (.enter g cs) w) (hc : Calls P g cs w R)
    (hk : ∀ e w', R e w' → ∃ c, e = .returned c ∧ wpOps P ops Q rest (a.put o.dst c) w') : wpOps P ops Q (i :: rest) a w := by
  rw [wpOps_cons]; unfold wpOp; rw [ho]
  have : Region.wanted o (yielded ops a.tmps) = true := by unfold Region.wanted; rw [hg]
  simp only [this, if_true]
  left
  unfold Oper.wp
  rw [h, Oper.upon_enter]
  refine hc.mono ?_
  intro e w' hR
  obtain ⟨c, rfl, hk⟩ := hk e w' hR
  exact hk
theorem exec_call {o : Oper} {a : Act} {w : World} {c : Call} {x : Operand} {g : Nat} {cb : Array Value} {args : Array Value} (ho : o.op = .call c) (hcal : c.callee = .value x) (hx : a.eval x = .func (.func g) #[] cb) (hargs : c.args.map a.eval = args) (he : Enters P g) : (execOp a.eval o).run P w = .ok (.enter g (args ++ cb)) w := by
  have := run_callFunc (w := w) he (args ++ cb)
  simp only [execOp, ho, resolve, hcal, hx, Deferred.ofValue, Sem.run_bind, Sem.run_pure, Result.andThen_ok, invoke, hargs]
  simpa using this
end
/-- a call that leaves the older memory as it is -/
theorem Rel.called {γ : Gh} {w0 w w' : World} {s : St} {a : Act} (h : Rel γ w0 s a w) (hb : Below w.heap.size w w') : Rel γ w0 s a w' :=
  h.grow_world (γ := γ) γ.pr hb (fun _ _ hp => hp) (fun _ _ hp => .inl hp)
theorem JudgF.nilSlot {B : Nat} {F : Frz} (t d e size : Nat) {c : Code} {s : St} {Q : Out → Frz → Prop} (ht : look s.slots t = some (.sc (.slice none 0 0))) (hd : s.absent d = true)
    (k : JudgF B F c { s with slots := (t, .row (some (d, e)) size 0 []) :: s.slots, lens := (d, 0) :: s.lens } Q) : JudgF B F c s Q := JudgF.ghost fun γ w0 a w hr hb hF => by
  obtain ⟨γ', hg, hr'⟩ := hr.nilName hd
  have hv : a.tmps.getD t undef = .slice none 0 0 := hr.slot t _ ht
  have hr2 : Rel γ' w0 { s with slots := (t, .row (some (d, e)) size 0 []) :: s.slots, lens := (d, 0) :: s.lens } a w := by
    refine ⟨hr'.size, hr'.defers, hr'.below, hr'.base, fun t' x hx => ?_, hr'.obj, hr'.len, hr'.inj, hr'.blt, hr'.plt, hr'.frm, hr'.gl⟩
    simp only [look_cons] at hx
    split at hx
    · rename_i e; subst e; cases hx
      rw [hv]
      exact AVR.of_AVR1 (by simp) (nil_row (by simp [look_cons]))
    · exact hr'.slot t' x hx
  exact ⟨γ', _, GB.of hg, hr2, by rw [hg.fr, hF]; exact k⟩
end Go.Proofs.YtmhoefpienagkaaDoor

/- What hints claim: slices, append. -/
namespace Go.Proofs.YtmhoefpienagkaaDoor
open Go.RowKit

structure El (t e size bytes : Nat) : Prop where
  el : elemT Tryd.prog t = some e
  info : ∃ i, Tryd.prog.info? e = some i ∧ i.size = size ∧ i.bytes = bytes
  zero : ∃ z, zeroT Tryd.prog e = some z ∧ z.length = size
  pos : 0 < size
theorem infoOf {e size bytes : Nat} (h : (Tryd.prog.info? e).map (fun i => (i.size, i.bytes)) = some (size, bytes)) : ∃ i, Tryd.prog.info? e = some i ∧ i.size = size ∧ i.bytes = bytes := by
  cases hi : Tryd.prog.info? e with
  | none => rw [hi] at h; cases h
  | some i => rw [hi] at h; simp only [Option.map_some, Option.some.injEq, Prod.mk.injEq] at h; exact ⟨i, rfl, h.1, h.2⟩
theorem zeroOf {e size : Nat} (h : (zeroT Tryd.prog e).map List.length = some size) : ∃ z, zeroT Tryd.prog e = some z ∧ z.length = size := by
  cases hz : zeroT Tryd.prog e with
  | none => rw [hz] at h; cases h
  | some z => rw [hz] at h; simp only [Option.map_some, Option.some.injEq] at h; exact ⟨z, rfl, h⟩
theorem el22 : El 22 3 1 8 := ⟨by kernel_rfl, infoOf (by kernel_rfl), zeroOf (by kernel_rfl), by omega⟩
theorem el34 : El 42 5 1 1 := ⟨by kernel_rfl, infoOf (by kernel_rfl), zeroOf (by kernel_rfl), by omega⟩
theorem el23 : El 23 33 3 24 := ⟨by kernel_rfl, infoOf (by kernel_rfl), zeroOf (by kernel_rfl), by omega⟩
section
variable {t e size bytes : Nat} (h : El t e size bytes)
include h
theorem El.sz : (elemT Tryd.prog t).bind (szT Tryd.prog) = some size := by
  obtain ⟨i, h1, h2, h3⟩ := h.info
  simp only [h.el, Option.bind_some, szT, h1, Option.map_some, h2]
theorem El.idx {tok : Option (Nat × Nat)} {n k : Nat} {xs : List AV} (hk : k < n) : cmdIndexAddr Tryd.prog t (.row tok size n xs) (iA k) = some (.val (.rptr (xs.drop (k * size)))) := by
  simp only [cmdIndexAddr, iA, h.sz]
  rw [if_pos ⟨by trivial, by omega, by omega⟩]
  simp
theorem El.sl {x : AV} {n a b : Nat} {xs : List AV} (hx : rowOf size x = some (n, xs)) (h1 : a ≤ b) (h2 : b ≤ n) : cmdSlice Tryd.prog t x (some (iA a)) (some (iA b)) none = some (.val (.row none size (b - a) ((xs.drop (a * size)).take ((b - a) * size)))) := by
  have e1 : boundOf (some (iA a)) 0 = some a := by simp [boundOf, iA]
  have e2 : boundOf (some (iA b)) n = some b := by simp [boundOf, iA]
  simp only [cmdSlice, h.sz, hx, e1, e2]
  rw [if_pos ⟨h1, h2⟩]
theorem El.slLo {x : AV} {n a : Nat} {xs : List AV} (hx : rowOf size x = some (n, xs)) (h1 : a ≤ n) : cmdSlice Tryd.prog t x (some (iA a)) none none = some (.val (.row none size (n - a) ((xs.drop (a * size)).take ((n - a) * size)))) := by
  have e1 : boundOf (some (iA a)) 0 = some a := by simp [boundOf, iA]
  have e3 : boundOf none n = some n := rfl
  simp only [cmdSlice, h.sz, hx, e1, e3]
  rw [if_pos ⟨h1, Nat.le_refl _⟩]
theorem El.slHi {x : AV} {n b : Nat} {xs : List AV} (hx : rowOf size x = some (n, xs)) (h2 : b ≤ n) : cmdSlice Tryd.prog t x none (some (iA b)) none = some (.val (.row none size b (xs.take (b * size)))) := by
  have e2 : boundOf (some (iA b)) n = some b := by simp [boundOf, iA]
  have e3 : boundOf none 0 = some 0 := rfl
  simp only [cmdSlice, h.sz, hx, e2, e3]
  rw [if_pos ⟨Nat.zero_le _, h2⟩]
  simp
theorem El.nil {x : AV} {m : Nat} {ys : List AV} (hx : rowOf size x = some (m, ys)) (hf : fits 0 m bytes = true) : cmdAppend Tryd.prog t t (.sc (.slice none 0 0)) x = some (.fresh e size m ys) := by
  obtain ⟨i, i1, i2, i3⟩ := h.info
  obtain ⟨z, z1, z2⟩ := h.zero
  subst i2; subst i3
  simp only [cmdAppend, Nat.beq_refl, h.el, i1, z1, hx]
  rw [if_pos ⟨h.pos, z2, hf⟩]
theorem El.grow {x : AV} {d n m : Nat} {xs ys : List AV} (hx : rowOf size x = some (m, ys)) (hf : fits n m bytes = true) : cmdAppend Tryd.prog t t (.row (some (d, e)) size n xs) x = some (.grow d e size n xs m ys) := by
  obtain ⟨i, i1, i2, i3⟩ := h.info
  obtain ⟨z, z1, z2⟩ := h.zero
  subst i2; subst i3
  simp only [cmdAppend, Nat.beq_refl, h.el, i1, z1, hx]
  rw [if_pos ⟨by trivial, by trivial, h.pos, z2, hf⟩]
end
theorem fits_of {n m bytes : Nat} (h1 : n + m ≤ 100000000) (h2 : bytes ≤ 100000) : fits n m bytes = true := by
  simp only [fits, Bool.and_eq_true, Nat.ble_eq, maxLen]
  refine ⟨by omega, ?_⟩
  calc (n + m) * bytes ≤ 100000000 * 100000 := Nat.mul_le_mul h1 h2
    _ ≤ 140737488355328 := by omega
theorem rowOf_row (size n : Nat) (tok : Option (Nat × Nat)) (xs : List AV) : rowOf size (.row tok size n xs) = some (n, xs) := by simp [rowOf]
theorem rowOf_nil (size : Nat) : rowOf size (.sc (.slice none 0 0)) = some (0, []) := rfl
end Go.Proofs.YtmhoefpienagkaaDoor

section
/- What single operations do to rows of one's own. -/
set_option linter.unusedSectionVars false
namespace Go.Proofs.YtmhoefpienagkaaDoor
open Go.RowKit

section
variable {w w' : World} {B : Nat} {ρ : Env} {d : Nm}
theorem MM.shape (h : MM w B ρ) (d : Nm) : ∃ A cap, (ρ d).v = .slice A (ρ d).n cap ∧ (ρ d).n ≤ cap ∧ cap ≤ maxLen := by
  obtain ⟨_, _, ⟨A, hv, hn⟩ | ⟨g, o, cap, cur, hv, _, _, hn, hm, _⟩⟩ := h.row d
  · exact ⟨A, 0, by rw [hn]; exact hv, by omega, Nat.zero_le _⟩
  · exact ⟨_, _, hv, hn, hm⟩
theorem MM.addr (h : MM w B ρ) (d : Nm) (h0 : 0 < (ρ d).n) : ∃ g o cap, (ρ d).v = .slice (some ⟨g, o, none⟩) (ρ d).n (cap + 1) := by
  obtain ⟨_, _, ⟨A, hv, hn⟩ | ⟨g, o, cap, cur, hv, _⟩⟩ := h.row d
  · omega
  · exact ⟨g, o, cap, hv⟩
theorem MM.len (h : MM w B ρ) (d : Nm) : (ρ d).xs.length = (ρ d).n * szN d := (h.row d).1
theorem MM.one (h : MM w B ρ) (d : Nm) : ∀ u ∈ (ρ d).xs, u.oneCell' = true := (h.row d).2.1
theorem MM.le (h : MM w B ρ) (d : Nm) : (ρ d).n ≤ maxLen := by obtain ⟨A, cap, _, h1, h2⟩ := h.shape d; omega
theorem MM.cells1 (h : MM w B ρ) (d : Nm) : (ρ d).v.cells = #[(ρ d).v] := by obtain ⟨A, cap, hv, _⟩ := h.shape d; rw [hv]; rfl
theorem MM.one1 (h : MM w B ρ) (d : Nm) : (ρ d).v.oneCell' = true := by obtain ⟨A, cap, hv, _⟩ := h.shape d; rw [hv]; rfl
theorem ptrAt_add (h : MM w B ρ) (d : Nm) (h0 : 0 < (ρ d).n) (i j : Nat) : (ptrAt (ρ d).v i).add j = ptrAt (ρ d).v (i + j) := by
  obtain ⟨g, o, cap, hv⟩ := h.addr d h0
  rw [hv]; simp only [ptrAt, Addr.add_k, Nat.add_assoc]
theorem MM.pos (h : MM w B ρ) {i : Nat} {u : Value} (hu : (ρ d).xs[i]? = some u) : 0 < (ρ d).n := by
  have hi : i < (ρ d).xs.length := (List.getElem?_eq_some_iff.1 hu).1
  rw [h.len] at hi
  rcases Nat.eq_zero_or_pos (ρ d).n with e | e
  · rw [e] at hi; omega
  · exact e
/-- a cell at a field of an element -/
theorem MM.at_ (h : MM w B ρ) (d : Nm) (i j : Nat) {u : Value} (hu : (ρ d).xs[i + j]? = some u) : w.cell? ((ptrAt (ρ d).v i).add j) = some u := by
  rw [ptrAt_add h d (h.pos hu)]; exact h.cell d hu

variable {e : Operand → Value} {o : Oper}
theorem x_load1 {t : TypeId} {x : Operand} {A : Addr} {v : Value} (ho : o.op = .load t x) (h1 : isAggT Tryd.prog t = some false) (hx : e x = .pointer (some A)) (hc : w.cell? A = some v) : (execOp e o).run Tryd.prog w = .ok (.value v) w := by
  simp only [execOp, ho]
  refine v_run ?_
  rw [hx]
  simp [Instr.loadAt, Instr.sureAddr, loadVar, run_isAgg' h1, load, Sem.run, hc]
theorem x_loadN {t : TypeId} {x : Operand} {A : Addr} {n : Nat} (cs : List Value) (ho : o.op = .load t x) (h1 : isAggT Tryd.prog t = some true) (h2 : szT Tryd.prog t = some n) (hx : e x = .pointer (some A)) (hl : cs.length = n) (hc : ∀ j u, cs[j]? = some u → w.cell? (A.add j) = some u) :
    (execOp e o).run Tryd.prog w = .ok (.value (.agg cs.toArray)) w := by
  subst hl
  simp only [execOp, ho]
  refine v_run ?_
  rw [hx]
  have := run_loadCells_list (P := Tryd.prog) w A cs hc
  simp [Instr.loadAt, Instr.sureAddr, loadVar, run_isAgg' h1, run_size' h2, this]
theorem x_store {t : TypeId} {x y : Operand} {A : Addr} (vs : List Value) (ho : o.op = .store t x y) (h2 : szT Tryd.prog t = some vs.length) (hx : e x = .pointer (some A)) (hy : (e y).cells = vs.toArray) (hst : (storeCells A vs).run Tryd.prog w = .ok () w') :
    (execOp e o).run Tryd.prog w = .ok .skip w' := by
  simp only [execOp, ho]
  rw [hx]
  simp [Instr.storeAt, Instr.sureAddr, storeVar, run_size' h2, hy, hst]
/-- a load out of a row -/
theorem ld1 (h : MM w B ρ) (d : Nm) (i j : Nat) {t : TypeId} {x : Operand} {v : Value} (ho : o.op = .load t x) (h1 : isAggT Tryd.prog t = some false) (hx : e x = .pointer (some ((ptrAt (ρ d).v i).add j))) (hu : (ρ d).xs[i + j]? = some v) : (execOp e o).run Tryd.prog w = .ok (.value v) w :=
  x_load1 ho h1 hx (h.at_ d i j hu)
theorem ldN (h : MM w B ρ) (d : Nm) (i j : Nat) {t : TypeId} {x : Operand} {n : Nat} (cs : List Value) (ho : o.op = .load t x) (h1 : isAggT Tryd.prog t = some true) (h2 : szT Tryd.prog t = some n) (hx : e x = .pointer (some ((ptrAt (ρ d).v i).add j))) (hl : cs.length = n)
    (hp : 0 < (ρ d).n) (hu : ∀ k u, cs[k]? = some u → (ρ d).xs[i + j + k]? = some u) : (execOp e o).run Tryd.prog w = .ok (.value (.agg cs.toArray)) w :=
  x_loadN cs ho h1 h2 hx hl fun k u hk => by
    rw [ptrAt_add h d hp, ptrAt_add h d hp]; exact h.cell d (hu k u hk)
/-- a store into a row -/
theorem stM (h : MM w B ρ) (d : Nm) (i j : Nat) (vs : List Value) {t : TypeId} {x y : Operand} (ho : o.op = .store t x y) (h2 : szT Tryd.prog t = some vs.length) (hx : e x = .pointer (some ((ptrAt (ρ d).v i).add j))) (hy : (e y).cells = vs.toArray)
    (hi : i + j + vs.length ≤ (ρ d).xs.length) (h0 : 0 < vs.length) (h1 : ∀ u ∈ vs, u.oneCell' = true) :
    ∃ w', (execOp e o).run Tryd.prog w = .ok .skip w' ∧ MM w' B (upd ρ d ⟨(ρ d).v, (ρ d).n, puts (ρ d).xs (i + j) vs⟩) ∧ Below B w w' ∧ w'.heap.size = w.heap.size := by
  obtain ⟨w', r1, r2, r3, r4⟩ := h.store (P := Tryd.prog) d hi h0 h1
  have hp : 0 < (ρ d).n := by
    have := h.len d
    rcases Nat.eq_zero_or_pos (ρ d).n with e | e
    · rw [e] at this; omega
    · exact e
  exact ⟨w', x_store vs ho h2 hx hy (by rw [ptrAt_add h d hp]; exact r1), r2, r3, r4⟩
/-- an element's address -/
theorem ixM (h : MM w B ρ) (d : Nm) (k : Nat) {t : TypeId} {x i : Operand} (ho : o.op = .indexAddr t x i) (ht : elemT Tryd.prog t = some (tyN d)) (hs : szT Tryd.prog (tyN d) = some (szN d)) (hx : e x = (ρ d).v) (hi : e i = .int .i64 (k : Int)) (hk : k < (ρ d).n) (W : World) :
    (execOp e o).run Tryd.prog W = .ok (.value (.pointer (some (ptrAt (ρ d).v (k * szN d))))) W := by
  obtain ⟨g, q, cap, hv⟩ := h.addr d (by omega)
  simp only [execOp, ho]
  refine v_run ?_
  rw [hx, hi, hv]
  have hk' : (k : Int) < ((ρ d).n : Int) := by omega
  simp [Instr.indexAt, asIntOf, run_underlying (elem_sound ht), run_size' hs, ptrAt]
  omega
/-- the length of a row -/
theorem lenM (h : MM w B ρ) (d : Nm) {c : Call} {x : Operand} {t el : TypeId} (ho : o.op = .call c) (hc : c.callee = .builtin .len) (ha : c.args = #[x]) (hts : c.argTypes = #[t]) (ht : elemT Tryd.prog t = some el) (hx : e x = (ρ d).v) (W : World) :
    (execOp e o).run Tryd.prog W = .ok (.value (.int .i64 (ρ d).n)) W := by
  obtain ⟨A, cap, hv, _⟩ := h.shape d
  simp only [execOp, ho, resolve, invoke, builtin, Sem.run_bind, Sem.run_pure, Result.andThen_ok, hc, ha, hts, List.map_toArray, List.map_cons, List.map_nil, hx]
  rw [hv]
  simp [Builtin.len_, run_underlying (elem_sound ht), goInt]
/-- a row cut behind an element -/
theorem cutM (h : MM w B ρ) (d : Nm) (k : Nat) {t el : TypeId} {x y : Operand} {size : Nat} (ho : o.op = .slice t x none (some y) none) (ht : elemT Tryd.prog t = some el) (hs : szT Tryd.prog el = some size) (hx : e x = (ρ d).v) (hy : e y = .int .i64 (k : Int)) (hk : k ≤ (ρ d).n) :
    ∃ A cap, (ρ d).v = .slice A (ρ d).n cap ∧ (∀ W, (execOp e o).run Tryd.prog W = .ok (.value (.slice A k cap)) W) ∧ MM w B (upd ρ d ⟨.slice A k cap, k, (ρ d).xs.take (k * szN d)⟩) := by
  obtain ⟨A, cap, hv, hn, _⟩ := h.shape d
  refine ⟨A, cap, hv, fun W => ?_, Mem.take h d hk hv⟩
  simp only [execOp, ho]
  refine v_run ?_
  rw [hx, hv, Option.map_some, hy]
  have hk' : (k : Int) ≤ (cap : Int) := by omega
  have h0 : (if cap = 0 then A else Option.map (fun a : Addr => a.add (0 * size)) A) = A := by
    split
    · rfl
    · cases A <;> simp [Addr.add]
  simp [Instr.sliceAt, Instr.slice, Instr.sliceBounds, Instr.sliceBound, asIntOf, run_underlying (elem_sound ht), run_size' hs, hk']
  cases A <;> simp [Addr.add] <;> (intro; omega)
/-- a row without its first elements -/
theorem cutLoM (h : MM w B ρ) (d : Nm) (k : Nat) {t : TypeId} {x y : Operand} (ho : o.op = .slice t x (some y) none none) (ht : elemT Tryd.prog t = some (tyN d)) (hs : szT Tryd.prog (tyN d) = some (szN d)) (hx : e x = (ρ d).v) (hy : e y = .int .i64 (k : Int)) (hk : k ≤ (ρ d).n) :
    ∃ v', (∀ W, (execOp e o).run Tryd.prog W = .ok (.value v') W) ∧ MM w B (upd ρ d ⟨v', (ρ d).n - k, (ρ d).xs.drop (k * szN d)⟩) := by
  obtain ⟨A, cap, hv, hn, _⟩ := h.shape d
  refine ⟨_, fun W => ?_, Mem.drop h d hk hv⟩
  simp only [execOp, ho]
  refine v_run ?_
  rw [hx, hv, Option.map_some, hy]
  simp [Instr.sliceAt, Instr.slice, Instr.sliceBounds, Instr.sliceBound, asIntOf, run_underlying (elem_sound ht), run_size' hs]
  intro; omega
/-- more elements behind a row -/
theorem appM (h : MM w B ρ) (hB : B ≤ w.heap.size) (d : Nm) {bytes : Nat} {t : TypeId} {c : Call} {x y : Operand} (hE : El t (tyN d) (szN d) bytes) (ho : o.op = .call c) (hc : c.callee = .builtin .append) (ha : c.args = #[x, y]) (hts : c.argTypes = #[t, t]) (hx : e x = (ρ d).v)
    (ad : Addr) (m cp : Nat) (news : List Value) (hy : e y = .slice (some ad) m cp) (hl : news.length = m * szN d) (hnews : ∀ j u, news[j]? = some u → w.cell? (ad.add j) = some u) (hm : 0 < m) (h1 : ∀ u ∈ news, u.oneCell' = true) (hn : (ρ d).n + m ≤ 1000000000) (hby : bytes ≤ 100000) :
    ∃ v' w', (execOp e o).run Tryd.prog w = .ok (.value v') w' ∧ MM w' B (upd ρ d ⟨v', (ρ d).n + m, (ρ d).xs ++ news⟩) ∧ Below B w w' := by
  obtain ⟨i, i1, i2, i3⟩ := hE.info
  obtain ⟨z, z1, z2⟩ := hE.zero
  obtain ⟨i', zv, z3, z4, z5⟩ := zero_sound z1
  have hii : i' = i := by rw [i1] at z3; exact (Option.some.inj z3).symm
  subst hii
  have hcells : zv.cells.toList.all (·.oneCell') = true ∧ zv.cells.size = szN d := by
    simp only [cells?] at z5
    split at z5
    · rename_i hq; cases z5; exact ⟨hq, by simpa using z2⟩
    · cases z5
  have hbb : ((ρ d).n + m) * bytes ≤ 140737488355328 := by
    calc ((ρ d).n + m) * bytes ≤ 1000000000 * 100000 := Nat.mul_le_mul hn hby
      _ ≤ 140737488355328 := by omega
  obtain ⟨v', w', r1, r2, r3⟩ := Mem.append (P := Tryd.prog) t o.type d i' zv bytes (elem_sound hE.el) i1 z4 i2 i3 hcells.2 hcells.1 h hB ad m cp news hl hnews hm h1 (by simp only [maxLen]; omega) hbb
  refine ⟨v', w', ?_, r2, r3⟩
  simp only [execOp, ho, resolve, invoke, builtin, Sem.run_bind, Sem.run_pure, Result.andThen_ok, hc, ha, hts, List.map_toArray, List.map_cons, List.map_nil, hx, hy, r1]
theorem x_call {c : Call} {x : Operand} {g : Nat} {cb : Array Value} {args : Array Value} (ho : o.op = .call c) (hcal : c.callee = .value x) (hx : e x = .func (.func g) #[] cb) (hargs : c.args.map e = args) (he : Enters Tryd.prog g) : (execOp e o).run Tryd.prog w = .ok (.enter g (args ++ cb)) w := by
  have := run_callFunc (w := w) he (args ++ cb)
  simp only [execOp, ho, resolve, hcal, hx, Deferred.ofValue, Sem.run_bind, Sem.run_pure, Result.andThen_ok, invoke, hargs]
  simpa using this
/-- only draws lie between two worlds -/
structure Same (w w' : World) : Prop where
  heap : w'.heap = w.heap
  os : w'.os = w.os
  tape : w'.tape = w.tape
  output : w'.output = w.output
theorem Same.refl (w : World) : Same w w := ⟨rfl, rfl, rfl, rfl⟩
theorem Same.drawn (w : World) (k : Nat) : Same w { w with drawn := k } := ⟨rfl, rfl, rfl, rfl⟩
theorem Same.trans {a b c : World} (h : Same a b) (k : Same b c) : Same a c := ⟨k.heap.trans h.heap, k.os.trans h.os, k.tape.trans h.tape, k.output.trans h.output⟩
theorem Same.below {w w' : World} (h : Same w w') (B : Nat) : Below B w w' := ⟨h.os, h.tape, h.output, by rw [h.heap]; exact Nat.le_refl _, fun _ _ => by rw [h.heap]⟩
theorem MM.same (h : MM w B ρ) (k : Same w w') : MM w' B ρ := Mem.kept h fun _ _ _ => by rw [k.heap]
theorem MM.drawn (h : MM w B ρ) (k : Nat) : MM { w with drawn := k } B ρ := h.same (Same.drawn w k)

section
variable {ops : Array Oper} {S : World → Prop} {R : RX → World → Prop} {n : Nat} {ds : List Deferred} {T T' : Todo} {L L' : Sls} {i : Nat}
/-- a store into a row -/
theorem JO.st (h : MM w B ρ) (d : Nm) (a b : Nat) (vs : List Value) (o : Oper) {t : TypeId} {x y : Operand} (ho : ops[i]? = some o) (hw : wantL ops L o = some true) (hn : inN n o = true) (hk : knownO L o = true) (hop : o.op = .store t x y) (h2 : szT Tryd.prog t = some vs.length)
    (hx : evalD L x = .pointer (some ((ptrAt (ρ d).v a).add b))) (hy : (evalD L y).cells = vs.toArray) (hi : a + b + vs.length ≤ (ρ d).xs.length) (h0 : 0 < vs.length) (h1 : ∀ u ∈ vs, u.oneCell' = true)
    (k : ∀ w', MM w' B (upd ρ d ⟨(ρ d).v, (ρ d).n, puts (ρ d).xs (a + b) vs⟩) → Below B w w' → w'.heap.size = w.heap.size → (T'.left ops = true → S w') ∧ JT Tryd.prog ops S R n ds T' (putL o.dst undef L) w') : JO Tryd.prog ops S R n ds i T' L w := by
  obtain ⟨w', r1, r2, r3, r4⟩ := stM (e := evalD L) h d a b vs hop h2 hx hy hi h0 h1
  exact JO.skip o w' ho hw hn hk r1 (k w' r2 r3 r4).1 (k w' r2 r3 r4).2
/-- more elements behind a row -/
theorem JO.app (h : MM w B ρ) (hB : B ≤ w.heap.size) (d : Nm) {bytes : Nat} {t : TypeId} {c : Call} {x y : Operand} (o : Oper) (ho : ops[i]? = some o) (hw : wantL ops L o = some true) (hn : inN n o = true) (hk : knownO L o = true) (hE : El t (tyN d) (szN d) bytes) (hop : o.op = .call c) (hc : c.callee = .builtin .append) (ha : c.args = #[x, y]) (hts : c.argTypes = #[t, t]) (hx : evalD L x = (ρ d).v)
    (ad : Addr) (m cp : Nat) (news : List Value) (hy : evalD L y = .slice (some ad) m cp) (hl : news.length = m * szN d) (hnews : ∀ j u, news[j]? = some u → w.cell? (ad.add j) = some u) (hm : 0 < m) (h1 : ∀ u ∈ news, u.oneCell' = true) (hnn : (ρ d).n + m ≤ 1000000000) (hby : bytes ≤ 100000)
    (k : ∀ v' w', MM w' B (upd ρ d ⟨v', (ρ d).n + m, (ρ d).xs ++ news⟩) → Below B w w' → (T'.left ops = true → S w') ∧ JT Tryd.prog ops S R n ds T' (putL o.dst v' L) w') : JO Tryd.prog ops S R n ds i T' L w := by
  obtain ⟨v', w', r1, r2, r3⟩ := appM (e := evalD L) h hB d hE hop hc ha hts hx ad m cp news hy hl hnews hm h1 hnn hby
  exact JO.val o v' w' ho hw hn hk r1 (k v' w' r2 r3).1 (k v' w' r2 r3).2
end
/-- arithmetic that does not overflow -/
theorem x_sub {x y : Operand} {t t' : TypeId} (a b : Int) (ho : o.op = .binOp .sub t x y t') (hx : e x = .int .i64 a) (hy : e y = .int .i64 b) (ht : Tryd.prog.underlying t = some (.int .i64)) (hb : I64 (a - b)) (W : World) : (execOp e o).run Tryd.prog W = .ok (.value (.int .i64 (a - b))) W := by
  simp only [execOp, ho, hx, hy]
  refine v_run ?_
  have := wrap_id hb
  simp [eqGuard, binOp, run_underlying ht, Op.intArith, this]
theorem x_add {x y : Operand} {t t' : TypeId} (a b : Int) (ho : o.op = .binOp .add t x y t') (hx : e x = .int .i64 a) (hy : e y = .int .i64 b) (ht : Tryd.prog.underlying t = some (.int .i64)) (hb : I64 (a + b)) (W : World) : (execOp e o).run Tryd.prog W = .ok (.value (.int .i64 (a + b))) W := by
  simp only [execOp, ho, hx, hy]
  refine v_run ?_
  have := wrap_id hb
  simp [eqGuard, binOp, run_underlying ht, Op.intArith, this]
end
end Go.Proofs.YtmhoefpienagkaaDoor
end

section
/- The steps of a walk, as a program prints them. -/
set_option linter.unusedSectionVars false
namespace Go.Proofs.YtmhoefpienagkaaDoor
open Go.RowKit

def CellsAt : List (Addr × List Value) → World → Prop
  | [], _ => True
  | (A, vs) :: cs, w => (∀ j u, vs[j]? = some u → w.cell? (A.add j) = some u) ∧ CellsAt cs w
theorem CellsAt.get : ∀ {cs : List (Addr × List Value)} {w : World} {k : Nat} {A : Addr} {vs : List Value}, CellsAt cs w → cs[k]? = some (A, vs) → ∀ j u, vs[j]? = some u → w.cell? (A.add j) = some u
  | [], _, _, _, _, _, h => by simp at h
  | (A, vs) :: cs, w, 0, _, _, hc, h => by simp at h; obtain ⟨rfl, rfl⟩ := h; exact hc.1
  | (A, vs) :: cs, w, k + 1, _, _, hc, h => CellsAt.get hc.2 (by simpa using h)
theorem CellsAt.drawn : ∀ {cs : List (Addr × List Value)} {w : World} {k : Nat}, CellsAt cs w → CellsAt cs { w with drawn := k }
  | [], _, _, _ => trivial
  | (_, _) :: _, _, _, h => ⟨h.1, CellsAt.drawn h.2⟩
theorem cells1 {w : World} {A : Addr} {v : Value} (h : w.cell? A = some v) : ∀ j u, [v][j]? = some u → w.cell? (A.add j) = some u := fun j u hu => by
  cases j with
  | zero => simp at hu; subst hu; simpa [Addr.add] using h
  | succ j => simp at hu
theorem cellM {w : World} {B : Nat} {ρ : Env} (h : MM w B ρ) (d : Nm) (i j : Nat) {v : Value} (hu : (ρ d).xs[i + j]? = some v) : ∀ k u, [v][k]? = some u → w.cell? (((ptrAt (ρ d).v i).add j).add k) = some u := cells1 (h.at_ d i j hu)
theorem cellsM {w : World} {B : Nat} {ρ : Env} (h : MM w B ρ) (d : Nm) (i j : Nat) {vs : List Value} (hp : 0 < (ρ d).n) (hu : ∀ k u, vs[k]? = some u → (ρ d).xs[i + j + k]? = some u) : ∀ k u, vs[k]? = some u → w.cell? (((ptrAt (ρ d).v i).add j).add k) = some u := fun k u hk => by
  rw [ptrAt_add h d hp, ptrAt_add h d hp]; exact h.cell d (hu k u hk)

theorem noLeft {ops : Array Oper} {T : Todo} {p : Prop} (h : T.left ops = false) : T.left ops = true → p := fun e => by rw [h] at e; cases e
def callOf (o : Oper) : Call := match o.op with | .call c => c | _ => default
theorem enters {f : Nat} {fn : Func} (hf : Tryd.prog.funcs[f]? = some fn) (hb : fn.body.isNone = false) : Enters Tryd.prog f := ⟨fn, hf, names_ok f fn hf, hb⟩
section
variable (ops : Array Oper) (n : Nat)
/-- what a walk asks of an operation that it takes up -/
def stat (T : Todo) (L : Sls) (i : Nat) : Option (Todo × Option Nat × Op) := match ops[i]? with
  | some o => match wantL ops L o, inN n o && knownO L o, takes ops T i with
    | some true, true, some T' => some (T', o.dst, o.op)
    | _, _, _ => none
  | none => none
def statO (L : Sls) (i : Nat) : Option (Option Nat × Op) := match ops[i]? with
  | some o => match wantL ops L o, inN n o && knownO L o with
    | some true, true => some (o.dst, o.op)
    | _, _ => none
  | none => none
end
section
variable {P : Program} {ops : Array Oper} {R : RX → World → Prop} {n : Nat} {ds : List Deferred} {T T' : Todo} {L L' : Sls} {w w' : World} {i : Nat} {d : Option Nat} {S : World → Prop}
theorem stat_spec {op : Op} (h : stat ops n T L i = some (T', d, op)) : ∃ o, ops[i]? = some o ∧ wantL ops L o = some true ∧ inN n o = true ∧ knownO L o = true ∧ takes ops T i = some T' ∧ o.dst = d ∧ o.op = op := by
  unfold stat at h
  split at h
  · rename_i o ho
    split at h
    · rename_i hw hb ht
      cases h
      simp only [Bool.and_eq_true] at hb
      exact ⟨o, ho, hw, hb.1, hb.2, ht, rfl, rfl⟩
    · cases h
  · cases h
theorem statO_spec {op : Op} (h : statO ops n L i = some (d, op)) : ∃ o, ops[i]? = some o ∧ wantL ops L o = some true ∧ inN n o = true ∧ knownO L o = true ∧ o.dst = d ∧ o.op = op := by
  unfold statO at h
  split at h
  · rename_i o ho
    split at h
    · rename_i hw hb
      cases h
      simp only [Bool.and_eq_true] at hb
      exact ⟨o, ho, hw, hb.1, hb.2, rfl, rfl⟩
    · cases h
  · cases h
theorem JT.hint' (i : Nat) (T' : Todo) (d : Option Nat) (op : Op) (v : Value) (hq : stat ops n T L i = some (T', d, op)) (hS : S w) (h : ∀ (o : Oper), o.op = op → ∀ w, S w → (execOp (evalD L) o).run P w = .ok (.value v) w) (k : JT P ops S R n ds T' (putL d v L) w) : JT P ops S R n ds T L w := by
  obtain ⟨o, q1, q2, q3, q4, q5, rfl, q7⟩ := stat_spec hq
  exact JT.hint i o v T' q1 q2 q3 q4 q5 hS (h o q7) k
end
section
variable {ops : Array Oper} {R : RX → World → Prop} {n : Nat} {ds : List Deferred} {T T' : Todo} {L L' : Sls} {w w' : World} {i : Nat} {d : Option Nat} {S : World → Prop} {B : Nat} {ρ : Env}
theorem JT.ld (i : Nat) (T' : Todo) (d : Option Nat) (t : TypeId) (x : Operand) {cs : List (Addr × List Value)} (k : Nat) (A : Addr) (v : Value) {vs : List Value} (hq : stat ops n T L i = some (T', d, .load t x)) (h1 : isAggT Tryd.prog t = some false) (hx : evalD L x = .pointer (some A)) (hc : cs[k]? = some (A, v :: vs)) (hS : CellsAt cs w)
    (h : JT Tryd.prog ops (CellsAt cs) R n ds T' (putL d v L) w) : JT Tryd.prog ops (CellsAt cs) R n ds T L w :=
  JT.hint' i T' d _ v hq hS (fun o ho W hW => x_load1 ho h1 hx (by have := hW.get hc 0 v rfl; simpa [Addr.add] using this)) h
theorem JT.ldN (i : Nat) (T' : Todo) (d : Option Nat) (t : TypeId) (x : Operand) {cs : List (Addr × List Value)} (k : Nat) (A : Addr) (vs : List Value) (hq : stat ops n T L i = some (T', d, .load t x)) (h1 : isAggT Tryd.prog t = some true) (h2 : szT Tryd.prog t = some vs.length) (hx : evalD L x = .pointer (some A)) (hc : cs[k]? = some (A, vs)) (hS : CellsAt cs w)
    (h : JT Tryd.prog ops (CellsAt cs) R n ds T' (putL d (.agg vs.toArray) L) w) : JT Tryd.prog ops (CellsAt cs) R n ds T L w :=
  JT.hint' i T' d _ _ hq hS (fun o ho W hW => x_loadN vs ho h1 h2 hx rfl (hW.get hc)) h
theorem JT.ix (hm : MM w' B ρ) (nm : Nm) (k : Nat) (i : Nat) (T' : Todo) (d : Option Nat) (t : TypeId) (x y : Operand) (hq : stat ops n T L i = some (T', d, .indexAddr t x y)) (ht : elemT Tryd.prog t = some (tyN nm)) (hs : szT Tryd.prog (tyN nm) = some (szN nm)) (hx : evalD L x = (ρ nm).v) (hy : evalD L y = .int .i64 (k : Int)) (hk : k < (ρ nm).n) (hS : S w)
    (h : JT Tryd.prog ops S R n ds T' (putL d (.pointer (some (ptrAt (ρ nm).v (k * szN nm)))) L) w) : JT Tryd.prog ops S R n ds T L w :=
  JT.hint' i T' d _ _ hq hS (fun o ho W _ => ixM hm nm k ho ht hs hx hy hk W) h
theorem JT.len (hm : MM w' B ρ) (nm : Nm) (i : Nat) (T' : Todo) (d : Option Nat) {c : Call} {x : Operand} {t el : TypeId} (hq : stat ops n T L i = some (T', d, .call c)) (hc : c.callee = .builtin .len) (ha : c.args = #[x]) (hts : c.argTypes = #[t]) (ht : elemT Tryd.prog t = some el) (hx : evalD L x = (ρ nm).v) (hS : S w)
    (h : JT Tryd.prog ops S R n ds T' (putL d (.int .i64 (ρ nm).n) L) w) : JT Tryd.prog ops S R n ds T L w :=
  JT.hint' i T' d _ _ hq hS (fun o ho W _ => lenM hm nm ho hc ha hts ht hx W) h
theorem JT.sub (a b c : Int) (i : Nat) (T' : Todo) (d : Option Nat) (t t' : TypeId) (x y : Operand) (hq : stat ops n T L i = some (T', d, .binOp .sub t x y t')) (ht : Tryd.prog.underlying t = some (.int .i64)) (hx : evalD L x = .int .i64 a) (hy : evalD L y = .int .i64 b) (he : a - b = c) (hb : I64 c) (hS : S w)
    (h : JT Tryd.prog ops S R n ds T' (putL d (.int .i64 c) L) w) : JT Tryd.prog ops S R n ds T L w := by
  subst he
  exact JT.hint' i T' d _ _ hq hS (fun o ho W _ => x_sub a b ho hx hy ht hb W) h
theorem JT.add (a b c : Int) (i : Nat) (T' : Todo) (d : Option Nat) (t t' : TypeId) (x y : Operand) (hq : stat ops n T L i = some (T', d, .binOp .add t x y t')) (ht : Tryd.prog.underlying t = some (.int .i64)) (hx : evalD L x = .int .i64 a) (hy : evalD L y = .int .i64 b) (he : a + b = c) (hb : I64 c) (hS : S w)
    (h : JT Tryd.prog ops S R n ds T' (putL d (.int .i64 c) L) w) : JT Tryd.prog ops S R n ds T L w := by
  subst he
  exact JT.hint' i T' d _ _ hq hS (fun o ho W _ => x_add a b ho hx hy ht hb W) h
/-- a row cut behind an element; the row has become shorter -/
theorem JT.cut (hm : MM w B ρ) (nm : Nm) (k : Nat) (i : Nat) (T' : Todo) (d : Option Nat) (t : TypeId) (x y : Operand) {el : TypeId} {size : Nat} (hq : stat ops n T L i = some (T', d, .slice t x none (some y) none)) (ht : elemT Tryd.prog t = some el) (hs : szT Tryd.prog el = some size) (hx : evalD L x = (ρ nm).v) (hy : evalD L y = .int .i64 (k : Int)) (hk : k ≤ (ρ nm).n) (hS : S w)
    (h : ∀ v', MM w B (upd ρ nm ⟨v', k, (ρ nm).xs.take (k * szN nm)⟩) → JT Tryd.prog ops S R n ds T' (putL d v' L) w) : JT Tryd.prog ops S R n ds T L w := by
  obtain ⟨o, q1, q2, q3, q4, q5, rfl, q7⟩ := stat_spec hq
  obtain ⟨A, cap, _, r2, r3⟩ := cutM hm nm k (e := evalD L) q7 ht hs hx hy hk
  exact JT.hint i o _ T' q1 q2 q3 q4 q5 hS (fun W _ => r2 W) (h _ r3)
theorem JT.cutLo (hm : MM w B ρ) (nm : Nm) (k : Nat) (i : Nat) (T' : Todo) (d : Option Nat) (t : TypeId) (x y : Operand) (hq : stat ops n T L i = some (T', d, .slice t x (some y) none none)) (ht : elemT Tryd.prog t = some (tyN nm)) (hs : szT Tryd.prog (tyN nm) = some (szN nm)) (hx : evalD L x = (ρ nm).v) (hy : evalD L y = .int .i64 (k : Int)) (hk : k ≤ (ρ nm).n) (hS : S w)
    (h : ∀ v', MM w B (upd ρ nm ⟨v', (ρ nm).n - k, (ρ nm).xs.drop (k * szN nm)⟩) → JT Tryd.prog ops S R n ds T' (putL d v' L) w) : JT Tryd.prog ops S R n ds T L w := by
  obtain ⟨o, q1, q2, q3, q4, q5, rfl, q7⟩ := stat_spec hq
  obtain ⟨v', r2, r3⟩ := cutLoM hm nm k (e := evalD L) q7 ht hs hx hy hk
  exact JT.hint i o _ T' q1 q2 q3 q4 q5 hS (fun W _ => r2 W) (h _ r3)
theorem JO.val' (i : Nat) (T' : Todo) (d : Option Nat) (op : Op) (v : Value) (w' : World) (hq : statO ops n L i = some (d, op)) (h : ∀ (o : Oper), o.op = op → (execOp (evalD L) o).run Tryd.prog w = .ok (.value v) w') (hS : T'.left ops = true → S w') (k : JT Tryd.prog ops S R n ds T' (putL d v L) w') : JO Tryd.prog ops S R n ds i T' L w := by
  obtain ⟨o, q1, q2, q3, q4, rfl, q7⟩ := statO_spec hq
  exact JO.val o v w' q1 q2 q3 q4 (h o q7) hS k
theorem JO.call' (i : Nat) (T' : Todo) (d : Option Nat) (g : Nat) (cs : List Value) {c : Call} {C : Ending → World → Prop} (hq : statO ops n L i = some (d, .call c)) (hcal : c.callee = .value (.func g)) (hargs : c.args.map (evalD L) = cs.toArray) (he : Enters Tryd.prog g) (hc : Calls Tryd.prog g cs.toArray w C)
    (k : ∀ e w', C e w' → AfterCall Tryd.prog ops S R n ds T' L d e w') : JO Tryd.prog ops S R n ds i T' L w := by
  obtain ⟨o, q1, q2, q3, q4, rfl, q7⟩ := statO_spec hq
  exact JO.call o g cs.toArray q1 q2 q3 q4 (by have := x_call (e := evalD L) (w := w) (x := .func g) (g := g) (cb := #[]) q7 hcal rfl hargs he; simpa using this) hc k
theorem JO.st' (h : MM w B ρ) (nm : Nm) (a b : Nat) (vs : List Value) (i : Nat) (T' : Todo) (d : Option Nat) (t : TypeId) (x y : Operand) (hq : statO ops n L i = some (d, .store t x y)) (h2 : szT Tryd.prog t = some vs.length)
    (hx : evalD L x = .pointer (some ((ptrAt (ρ nm).v a).add b))) (hy : (evalD L y).cells = vs.toArray) (hi : a + b + vs.length ≤ (ρ nm).xs.length) (h0 : 0 < vs.length) (h1 : ∀ u ∈ vs, u.oneCell' = true)
    (k : ∀ w', MM w' B (upd ρ nm ⟨(ρ nm).v, (ρ nm).n, puts (ρ nm).xs (a + b) vs⟩) → Below B w w' → w'.heap.size = w.heap.size → (T'.left ops = true → S w') ∧ JT Tryd.prog ops S R n ds T' (putL d undef L) w') : JO Tryd.prog ops S R n ds i T' L w := by
  obtain ⟨o, q1, q2, q3, q4, rfl, q7⟩ := statO_spec hq
  exact JO.st h nm a b vs o q1 q2 q3 q4 q7 h2 hx hy hi h0 h1 k
theorem JO.app' (h : MM w B ρ) (hB : B ≤ w.heap.size) (nm : Nm) {bytes : Nat} {t : TypeId} {c : Call} {x y : Operand} (i : Nat) (T' : Todo) (d : Option Nat) (hE : El t (tyN nm) (szN nm) bytes) (hq : statO ops n L i = some (d, .call c)) (hc : c.callee = .builtin .append) (ha : c.args = #[x, y]) (hts : c.argTypes = #[t, t]) (hx : evalD L x = (ρ nm).v)
    (ad : Addr) (m cp : Nat) (news : List Value) (hy : evalD L y = .slice (some ad) m cp) (hl : news.length = m * szN nm) (hnews : ∀ j u, news[j]? = some u → w.cell? (ad.add j) = some u) (hm : 0 < m) (h1 : ∀ u ∈ news, u.oneCell' = true) (hnn : (ρ nm).n + m ≤ 1000000000) (hby : bytes ≤ 100000)
    (k : ∀ v' w', MM w' B (upd ρ nm ⟨v', (ρ nm).n + m, (ρ nm).xs ++ news⟩) → Below B w w' → (T'.left ops = true → S w') ∧ JT Tryd.prog ops S R n ds T' (putL d v' L) w') : JO Tryd.prog ops S R n ds i T' L w := by
  obtain ⟨o, q1, q2, q3, q4, rfl, q7⟩ := statO_spec hq
  exact JO.app h hB nm o q1 q2 q3 q4 hE q7 hc ha hts hx ad m cp news hy hl hnews hm h1 hnn hby k
end
section
variable {P : Program} {R : Ending → World → Prop} {n : Nat} {ds : List Deferred} {L : Sls} {w : World} {fn : Func}
theorem fin_tmp (t : Nat) (v : Value) (hr : fn.results = #[.tmp t]) (hv : lookS L t = some v) (h : R (.returned v) w) : ∀ a, SL n L [] a → FnEnd P fn R (.ret a) w := fun a ha =>
  ⟨ha.defs, v, by rw [results_tmp hr, ha.slot t v hv], h⟩
theorem fin_tmpG (t : Nat) (v : Value) (hr : fn.results = #[.tmp t]) (hv : lookS L t = some v) (h : R (.returned v) w) : ∀ a, SL n L [] a → FnEnd P fn R (.go a) w := fin_tmp t v hr hv h
theorem fin_none (hr : fn.results = #[]) (h : R (.returned (.tuple #[])) w) : ∀ a, SL n L [] a → FnEnd P fn R (.ret a) w := fun a ha =>
  ⟨ha.defs, _, results_none hr _ _ _, h⟩
theorem fin_noneG (hr : fn.results = #[]) (h : R (.returned (.tuple #[])) w) : ∀ a, SL n L [] a → FnEnd P fn R (.go a) w := fin_none hr h
theorem fin_cell (b t : Nat) (v : Value) (A : Addr) (hr : fn.results = #[.cell b t]) (hv : lookS L b = some (.pointer (some A))) (hl : (loadVar t A).run P w = .ok v w) (h : R (.returned v) w) : ∀ a, SL n L [] a → FnEnd P fn R (.ret a) w := fun a ha =>
  ⟨ha.defs, v, by
    have := ha.slot b _ hv
    simp only [Array.getD_eq_getD_getElem?] at this
    simp [results, hr, this, asAddr, hl], h⟩
end
/-- the rows' element types -/
theorem elI : El 22 3 1 8 := ⟨by kernel_rfl, infoOf (by kernel_rfl), zeroOf (by kernel_rfl), by omega⟩
theorem elEv : El 23 33 3 24 := ⟨by kernel_rfl, infoOf (by kernel_rfl), zeroOf (by kernel_rfl), by omega⟩
theorem elFr : El 113 111 5 88 := ⟨by kernel_rfl, infoOf (by kernel_rfl), zeroOf (by kernel_rfl), by omega⟩
theorem elTr : El 109 135 3 24 := ⟨by kernel_rfl, infoOf (by kernel_rfl), zeroOf (by kernel_rfl), by omega⟩
theorem elPr : El 88 115 1 24 := ⟨by kernel_rfl, infoOf (by kernel_rfl), zeroOf (by kernel_rfl), by omega⟩
theorem elCh : El 79 22 1 24 := ⟨by kernel_rfl, infoOf (by kernel_rfl), zeroOf (by kernel_rfl), by omega⟩
section
variable {w w' : World} {B : Nat} {ρ : Env}
theorem MM.alloc_ (h : MM w B ρ) (o : Obj) : MM (w.alloc o) B ρ := Mem.called h ((Below.refl _ w).alloc (Nat.le_refl _) o)
theorem MM.called_ (h : MM w B ρ) (hb : Below w.heap.size w w') : MM w' B ρ := Mem.called h hb
theorem cell_new (w : World) (xs : List Value) (t : TypeId) : ∀ j u, xs[j]? = some u → (w.alloc (.cells xs.toArray t)).cell? ((⟨w.heap.size, 0, none⟩ : Addr).add j) = some u := fun j u hu => by
  simp only [Addr.add_k, World.cell?, heap_alloc_new]
  simpa using hu
theorem CellsAt.below : ∀ {cs : List (Addr × List Value)} {w w' : World}, CellsAt cs w → Below w.heap.size w w' → CellsAt cs w'
  | [], _, _, _, _ => trivial
  | (A, vs) :: cs, w, w', h, hb => ⟨fun j u hu => by
      have := h.1 j u hu
      rw [hb.cell (World.block_lt_of_cell? w _ this)]; exact this, CellsAt.below h.2 hb⟩
theorem CellsAt.alloc {cs : List (Addr × List Value)} {w : World} (h : CellsAt cs w) (o : Obj) : CellsAt cs (w.alloc o) := h.below ((Below.refl _ w).alloc (Nat.le_refl _) o)
end
section
variable {ops : Array Oper} {R : RX → World → Prop} {n : Nat} {ds : List Deferred} {T' : Todo} {L : Sls} {w : World} {i : Nat} {S : World → Prop}
theorem JO.valK (i : Nat) (T' : Todo) (d : Option Nat) (op : Op) (v : Value) (w' : World) (hq : statO ops n L i = some (d, op)) (h : (execOp (evalD L) ops[i]!).run Tryd.prog w = .ok (.value v) w') (hS : T'.left ops = true → S w') (k : JT Tryd.prog ops S R n ds T' (putL d v L) w') : JO Tryd.prog ops S R n ds i T' L w := by
  obtain ⟨o, q1, q2, q3, q4, rfl, q7⟩ := statO_spec hq
  have e : ops[i]! = o := by simp [getElem!_def, q1]
  rw [e] at h
  exact JO.val o v w' q1 q2 q3 q4 h hS k
end
end Go.Proofs.YtmhoefpienagkaaDoor
end

section
/- A closed run of code on memory of its own: the interpreter. -/
set_option linter.unusedVariables false
namespace Go.Proofs.YtmhoefpienagkaaDoor.Cl
open Go.RowKit

/-- a row of the run's own: the type of its elements, their cells, a number -/
structure Cid where
  t : Nat
  s : Nat
  i : Nat
  deriving DecidableEq
@[reducible] def Cid.nm (d : Cid) : Nm := .loc d.t d.s d.i
def Cid.beq (a b : Cid) : Bool := match Nat.beq a.i b.i with | true => Nat.beq a.t b.t && Nat.beq a.s b.s | false => false

/-- v: this very value; sl: elements of a row; em: some slice of length 0; mt: of capacity 0; pt: the address of a cell; fn: a closure -/
inductive CV where
  | v (x : Value)
  | sl (d : Cid) (off len : Nat)
  | em
  | mt
  | pt (d : Cid) (off : Nat)
  | fn (f : Fn) (caps : List CV)
  | agg (l : List CV)
  | tup (l : List CV)
  deriving Inhabited

def subS (v : Value) (s off len : Nat) : Value := match v with
  | .slice A _ cap => .slice (if cap = off then A else A.map (·.add (off * s))) len (cap - off)
  | v => v
mutual
def RV (ρ : Env) : CV → Value → Prop
  | .v x, u => u = x
  | .sl d off len, u => u = subS (ρ d.nm).v d.s off len
  | .em, u => ∃ A c, u = .slice (some A) 0 c
  | .mt, u => ∃ A, u = .slice (some A) 0 0
  | .pt d off, u => u = .pointer (some (ptrAt (ρ d.nm).v off))
  | .fn f caps, u => ∃ us : List Value, u = .func f #[] us.toArray ∧ RVL ρ caps us
  | .agg l, u => ∃ us : List Value, u = .agg us.toArray ∧ (∀ x ∈ us, x.oneCell' = true) ∧ RVL ρ l us
  | .tup l, u => ∃ us : List Value, u = .tuple us.toArray ∧ RVL ρ l us
def RVL (ρ : Env) : List CV → List Value → Prop
  | [], us => us = []
  | c :: l, us => ∃ u us', us = u :: us' ∧ RV ρ c u ∧ RVL ρ l us'
end
mutual
def refs : CV → List Cid
  | .sl d _ _ => [d]
  | .pt d _ => [d]
  | .fn _ l => refsL l
  | .agg l => refsL l
  | .tup l => refsL l
  | .v _ => []
  | .em => []
  | .mt => []
def refsL : List CV → List Cid
  | [] => []
  | c :: l => refs c ++ refsL l
end

structure CRow where
  n : Nat
  cells : List CV
/-- the rows, by the digits of their numbers -/
inductive Tr where
  | leaf
  | node (v : List (Cid × Option CRow)) (l r : Tr)
abbrev Hp := Tr
def getL : List (Cid × Option CRow) → Cid → Option (Option CRow)
  | [], _ => none
  | (e, r) :: l, d => match Cid.beq e d with | true => some r | false => getL l d
def putL (d : Cid) (r : Option CRow) : List (Cid × Option CRow) → List (Cid × Option CRow)
  | [] => [(d, r)]
  | (e, q) :: l => match Cid.beq e d with
    | true => (d, r) :: l
    | false => (e, q) :: putL d r l
def digits : Nat → Nat → List Bool
  | 0, _ => []
  | k + 1, n => match Nat.beq n 0 with
    | true => []
    | false => Nat.beq (n % 2) 1 :: digits k (n / 2)
def getT : List Bool → Tr → List (Cid × Option CRow)
  | _, .leaf => []
  | [], .node v _ _ => v
  | true :: p, .node _ _ r => getT p r
  | false :: p, .node _ l _ => getT p l
def putT (d : Cid) (x : Option CRow) : List Bool → Tr → Tr
  | [], .leaf => .node [(d, x)] .leaf .leaf
  | [], .node v l r => .node (putL d x v) l r
  | true :: p, .leaf => .node [] .leaf (putT d x p .leaf)
  | false :: p, .leaf => .node [] (putT d x p .leaf) .leaf
  | true :: p, .node v l r => .node v l (putT d x p r)
  | false :: p, .node v l r => .node v (putT d x p l) r
def getH (hp : Hp) (d : Cid) : Option (Option CRow) := getL (getT (digits 60 d.i) hp) d
def putH (d : Cid) (r : Option CRow) (hp : Hp) : Hp := putT d r (digits 60 d.i) hp
def rowH (hp : Hp) (d : Cid) : Option CRow := match getH hp d with | some (some r) => some r | _ => none
def known (hp : Hp) (d : Cid) : Bool := match getH hp d with | some _ => true | none => false
def alive (hp : Hp) (d : Cid) : Bool := match getH hp d with | some (some _) => true | _ => false
def live (hp : Hp) (c : CV) : Bool := match c with
  | .v _ => true
  | .em => true
  | .mt => true
  | .sl d _ _ => alive hp d
  | .pt d _ => alive hp d
  | c => (refs c).all (alive hp)
def knownC (hp : Hp) (c : CV) : Bool := match c with
  | .v _ => true
  | .em => true
  | .mt => true
  | .sl d _ _ => known hp d
  | .pt d _ => known hp d
  | c => (refs c).all (known hp)

structure CSt where
  slots : List (Nat × CV)
  hp : Hp
  ds : List (Nat × List CV)
  wr : List Cid
  cnt : Nat
def putS (d : Nat) (c : CV) : List (Nat × CV) → List (Nat × CV)
  | [] => [(d, c)]
  | (e, q) :: l => match Nat.beq e d with
    | true => (d, c) :: l
    | false => match Nat.blt e d with
      | true => (d, c) :: (e, q) :: l
      | false => (e, q) :: putS d c l
def CSt.put (s : CSt) (d : Option Nat) (c : CV) : CSt := match d with
  | some d => { s with slots := putS d c s.slots }
  | none => s
def CSt.ev (s : CSt) : Operand → Option CV
  | .tmp t => lookS s.slots t
  | .const x => some (.v x)
  | .global g => some (.v (.pointer (some ⟨g, 0, none⟩)))
  | .func f => some (.v (.func (.func f) #[] #[]))
def CSt.evL (s : CSt) (x : Operand) : Option CV := match s.ev x with
  | some c => match live s.hp c with | true => some c | false => none
  | none => none
def allV : List CV → Option (List Value)
  | [] => some []
  | .v x :: l => (allV l).map (x :: ·)
  | _ :: _ => none
/-- a value that knows no row of the run's own -/
def toV : CV → Option Value
  | .v x => some x
  | .agg l => (allV l).map fun us => .agg us.toArray
  | _ => none
def ofV : Value → CV
  | .agg cs => match cs.toList.all (·.oneCell') with | true => .agg (cs.toList.map .v) | false => .v (.agg cs)
  | .tuple cs => match cs.toList with | [] => .v (.tuple #[]) | l => .tup (l.map .v)
  | x => .v x
def CSt.evV (s : CSt) (x : Operand) : Value := match s.ev x with
  | some c => match toV c with | some u => u | none => undef
  | none => undef
def isPlain : Option CV → Bool
  | some c => (toV c).isSome
  | none => false
def CSt.plain (s : CSt) (o : Oper) : Bool := o.op.operands.toList.all (fun x => isPlain (s.ev x)) && (match o.op with | .select .. => false | _ => true)
/-- the cells of a value that may be laid into memory -/
def cellsC : CV → Option (List CV)
  | .v u => match u.cells.toList.all (·.oneCell') with | true => some (u.cells.toList.map .v) | false => none
  | .agg l => some l
  | .tup _ => none
  | c => some [c]
def takeC : Nat → List CV → Option (List CV)
  | 0, _ => some []
  | n + 1, c :: l => (takeC n l).map (c :: ·)
  | _ + 1, [] => none
def setAtC (xs : List CV) (off : Nat) : List CV → List CV
  | [] => xs
  | y :: ys => setAtC (xs.set off y) (off + 1) ys
def putsC (xs : List CV) (i : Nat) (vs : List CV) : List CV := xs.take i ++ vs ++ xs.drop (i + vs.length)
def fillC (place : Nat → Option (Nat × Nat)) (xs : List CV) : List (Nat × CV) → Option (List CV)
  | [] => some xs
  | (i, c) :: rest =>
    match place i, cellsC c with
    | some (off, size), some ys => match Nat.beq ys.length size && Nat.ble (off + size) xs.length with
      | true => fillC place (setAtC xs off ys) rest
      | false => none
    | _, _ => none
def allSome {α : Type} : List (Option α) → Option (List α)
  | [] => some []
  | some x :: l => (allSome l).map (x :: ·)
  | none :: _ => none

section
variable (P : Program)
def zeroC (t : TypeId) : Option (List CV) := ((P.info? t).bind (·.zero)).bind fun z => cellsC (.v z)
def zerosC (z : List CV) (n : Nat) : List CV := (List.range n).map fun j => z.getD (j % z.length) .em
def natOf : Option CV → Option Nat
  | some (.v (.int _ i)) => match decide (0 ≤ i) with | true => some i.toNat | false => none
  | _ => none
/-- the elements of a slice: the row, from where, how many -/
def cSlice (s : CSt) (t : TypeId) (c : CV) (lo hi mx : Option Operand) : Option CV :=
  match (elemT P t).bind (szT P), c with
  | some size, .sl d off len => match rowH s.hp d, Nat.beq size d.s, (match lo with | none => some 0 | some x => natOf (s.ev x)), (match hi with | none => some len | some x => natOf (s.ev x)) with
    | some r, true, some l, some h => match Nat.ble l h && Nat.ble h len && Nat.ble (off + len) r.n && Nat.blt 0 r.n, mx with
      | true, none => match Nat.blt l h || Nat.beq l 0 with
        | true => some (.sl d (off + l) (h - l))
        | false => some .em
      | true, some x => match natOf (s.ev x), hi with
        | some m, some _ => match Nat.beq m l && Nat.beq h l with | true => some .mt | false => none
        | _, _ => none
      | false, _ => none
    | _, _, _, _ => none
  | some size, .mt => match (match lo with | none => some 0 | some x => natOf (s.ev x)), (match hi with | none => some 0 | some x => natOf (s.ev x)) with
    | some 0, some 0 => match mx with
      | none => some .mt
      | some x => match natOf (s.ev x), hi with
        | some 0, some _ => some .mt
        | _, _ => none
    | _, _ => none
  | some size, .em => match (match lo with | none => some 0 | some x => natOf (s.ev x)), (match hi with | none => some 0 | some x => natOf (s.ev x)) with
    | some 0, some 0 => match mx with
      | none => some .em
      | some x => match natOf (s.ev x), hi with
        | some 0, some _ => some .mt
        | _, _ => none
    | _, _ => none
  | _, _ => none
def cLen (t : TypeId) (c : CV) : Option CV := match elemT P t, c with
  | some _, .sl _ _ len => some (.v (.int .i64 len))
  | some _, .em => some (.v (.int .i64 (0 : Nat)))
  | some _, .mt => some (.v (.int .i64 (0 : Nat)))
  | _, _ => none
def isNilC : Option CV → Bool
  | some (.v (.slice none 0 0)) => true
  | some (.v (.pointer none)) => true
  | _ => false
/-- surely not nil -/
def notNil (s : CSt) (t : TypeId) : Option CV → Bool
  | some (.sl d _ _) => match elemT P t, rowH s.hp d with | some _, some r => Nat.blt 0 r.n | _, _ => false
  | some .em => (elemT P t).isSome
  | some .mt => (elemT P t).isSome
  | some (.pt _ _) => match P.underlying t with | some (.pointer _) => true | _ => false
  | _ => false
/-- quiet operations on values that know the run's rows -/
def refOp (s : CSt) (o : Oper) : Option CV := match o.op with
  | .move x => s.evL x
  | .assign x => s.evL x
  | .nilCheck x => match s.evL x with
    | some (.pt d off) => some (.pt d off)
    | some (.fn (.func g) l) => some (.fn (.func g) l)
    | _ => none
  | .pick c a b => match s.ev c with
    | some (.v (.bool true)) => s.evL a
    | some (.v (.bool false)) => s.evL b
    | _ => none
  | .fieldAddr t x k => match s.evL x, fieldT P t k with
    | some (.pt d off), some f => match (szT P f.type).any (0 < ·), rowH s.hp d with
      | true, some r => match Nat.blt 0 r.n with | true => some (.pt d (off + f.offset)) | false => none
      | _, _ => none
    | _, _ => none
  | .field t x k => match s.evL x, fieldT P t k with
    | some (.agg l), some f => match isAggT P f.type, szT P f.type, l.drop f.offset with
      | some true, some n, ys => (takeC n ys).map .agg
      | some false, _, y :: _ => some y
      | _, _, _ => none
    | _, _ => none
  | .indexAddr t x i => match s.evL x, natOf (s.ev i) with
    | some (.sl d off len), some k => match elemT P t, szT P d.t, rowH s.hp d with
      | some e, some size, some r => match Nat.beq e d.t && Nat.beq size d.s && Nat.blt k len && Nat.ble (off + len) r.n with
        | true => some (.pt d ((off + k) * d.s))
        | false => none
      | _, _, _ => none
    | some (.pt d off), some k => match arrT P t, rowH s.hp d with
      | some (len, size), some r => match Nat.blt k len && Nat.blt 0 r.n with
        | true => some (.pt d (off + k * size))
        | false => none
      | _, _ => none
    | _, _ => none
  | .extract x i => match s.evL x with
    | some (.tup l) => l[i]?
    | _ => none
  | .build t ps => match allSome (ps.toList.map fun p => (s.evL p.2).map fun c => (p.1, c)), zeroC P t, P.underlying t with
    | some parts, some z, some (.struct fs) => match knownT P fs.toList with
      | true => (fillC (fun i => (placesT P fs.toList)[i]?) z parts).map .agg
      | false => none
    | _, _, _ => none
  | .makeFunc (.func g) first captured => match first.toList, allSome (captured.toList.map s.evL) with
    | [], some l => some (.fn (.func g) l)
    | _, _ => none
  | .slice t x lo hi mx => match s.evL x with
    | some c => cSlice P s t c lo hi mx
    | none => none
  | .call c => match c.callee, c.args.toList, c.argTypes.toList with
    | .builtin .len, [x], [t] => match s.evL x with
      | some v => cLen P t v
      | none => none
    | _, _, _ => none
  | .binOp op t x y _ => match notNil P s t (s.evL x) && isNilC (s.ev y) && (match elemT P t, s.ev y with | some _, some (.v (.slice ..)) => true | none, some (.v (.pointer _)) => true | _, _ => false) with
    | true => match op with
      | .eql => some (.v (.bool false))
      | .neq => some (.v (.bool true))
      | _ => none
    | false => none
  | _ => none
def wantC (ops : Array Oper) (s : CSt) (o : Oper) : Option Bool := match o.guard with
  | none => some true
  | some (j, want) => match (ops[j]?).bind (·.dst) with
    | some t => match lookS s.slots t with
      | some (.v (.bool b)) => some (b == want)
      | some (.v (.tuple _)) => some false
      | _ => none
    | none => none
def quietC (ops : Array Oper) (s : CSt) (o : Oper) : Option CV := match wantC ops s o with
  | some false => some (.v undef)
  | some true => match s.plain o with
    | true => match peekS P (execOp s.evV o) with
      | some (.value v) => some (ofV v)
      | _ => refOp P s o
    | false => refOp P s o
  | none => none
def globAt (A : Addr) : Option Value := (globs.find? fun p => decide (p.1 = A)).map (·.2)
/-- a load: out of which row, and what -/
def cLoad (s : CSt) (t : TypeId) (x : Operand) : Option (Option Cid × CV) := match s.evL x with
  | some (.pt d off) => match rowH s.hp d, isAggT P t, szT P t with
    | some r, some true, some n => match Nat.blt 0 r.n with
      | true => (takeC n (r.cells.drop off)).map fun l => (some d, .agg l)
      | false => none
    | some r, some false, _ => match r.cells.drop off with
      | c :: _ => some (some d, c)
      | [] => none
    | _, _, _ => none
  | some (.v (.pointer (some A))) => match isAggT P t, globAt A with
    | some false, some v => some (none, .v v)
    | _, _ => none
  | _ => none
def keptC (K : List Cid) (ops : Array Oper) (s : CSt) (o : Oper) : Option CV := match wantC ops s o, o.op with
  | some true, .load t x => match cLoad P s t x with
    | some (some d, c) => match K.any (Cid.beq d) && live s.hp c with | true => some c | false => none
    | some (none, c) => some c
    | none => none
  | _, _ => none

/-- a new row -/
def newC (s : CSt) (t sz n : Nat) (cells : List CV) : Option (Cid × CSt) :=
  match known s.hp ⟨t, sz, s.cnt⟩ || !(Nat.blt 0 sz && Nat.blt 0 n && Nat.ble n 1000000000 && Nat.beq cells.length (n * sz)) with
  | true => none
  | false => some (⟨t, sz, s.cnt⟩, { s with hp := putH ⟨t, sz, s.cnt⟩ (some ⟨n, cells⟩) s.hp, cnt := s.cnt + 1 })
/-- the elements of a slice that is appended -/
def elemsC (s : CSt) (e sz : Nat) : CV → Option (Nat × List CV)
  | .sl d off len => match rowH s.hp d with
    | some r => match Nat.beq d.t e && Nat.beq d.s sz && Nat.ble (off + len) r.n with
      | true => (takeC (len * sz) (r.cells.drop (off * sz))).map fun l => (len, l)
      | false => none
    | none => none
  | .em => some (0, [])
  | .mt => some (0, [])
  | .v (.slice none 0 0) => some (0, [])
  | _ => none
def cAppend (s : CSt) (t t' : TypeId) (c y : CV) : Option (CV × CSt) :=
  match Nat.beq t t', elemT P t with
  | true, some e => match P.info? e, zeroC P e with
    | some inf, some z => match elemsC s e inf.size y with
      | some (m, ys) => match Nat.ble inf.bytes 100000 && Nat.beq z.length inf.size && Nat.blt 0 inf.size with
        | true => match c with
          | .sl d off len => match rowH s.hp d with
            | some r => match Nat.beq d.t e && Nat.beq d.s inf.size && Nat.ble (off + len) r.n with
              | true => match m with
                | 0 => some (.sl d off len, s)
                | m + 1 => match Nat.ble (len + (m + 1)) 1000000000 && !known s.hp ⟨e, inf.size, s.cnt⟩ with
                  | true => (takeC (len * inf.size) (r.cells.drop (off * inf.size))).map fun l =>
                    (.sl ⟨e, inf.size, s.cnt⟩ 0 (len + (m + 1)), { s with hp := putH ⟨e, inf.size, s.cnt⟩ (some ⟨len + (m + 1), l ++ ys⟩) (putH d none s.hp), wr := d :: s.wr, cnt := s.cnt + 1 })
                  | false => none
              | false => none
            | none => none
          | .mt | .v (.slice none 0 0) => match m with
            | 0 => some (c, s)
            | m + 1 => match newC s e inf.size (m + 1) ys with
              | some (d, s') => some (.sl d 0 (m + 1), s')
              | none => none
          | _ => none
        | false => none
      | none => none
    | _, _ => none
  | _, _ => none
/-- append(c, make(.., n)...) for n = 0 -/
def cAppendZ (s : CSt) (t t' : TypeId) (c y : CV) : Option CV := match elemT P t, P.underlying t', y with
  | some e, some (.int _), .v (.int _ 0) => match szT P e with
    | some _ => match c with
      | .sl d off len => match rowH s.hp d with
        | some r => match Nat.ble (off + len) r.n with | true => some c | false => none
        | none => none
      | .em => some c
      | .mt => some c
      | .v (.slice none 0 0) => some c
      | _ => none
    | none => none
  | _, _, _ => none
def cStore (s : CSt) (t : TypeId) (x y : Operand) : Option CSt := match s.evL x, s.evL y, szT P t with
  | some (.pt d off), some c, some n => match rowH s.hp d, cellsC c with
    | some r, some ys => match Nat.beq n ys.length && Nat.blt 0 n && Nat.ble (off + ys.length) r.cells.length with
      | true => some { s with hp := putH d (some ⟨r.n, putsC r.cells off ys⟩) s.hp, wr := d :: s.wr }
      | false => none
    | _, _ => none
  | _, _, _ => none
def calleeC (f : CV) : Option (Nat × List CV) := match f with
  | .v (.func (.func g) fst cap) => match fst.toList with
    | [] => some (g, cap.toList.map .v)
    | _ => none
  | .fn (.func g) caps => some (g, caps)
  | _ => none
abbrev CallC := Nat → List CV → Hp → Nat → Option (CV × Hp × List Cid × Nat)
def okFn (g : Nat) : Bool := match P.funcs[g]? with
  | some fn => !(fn.name == "runtime.NumGoroutine") && !fn.body.isNone
  | none => false
/-- operations that look at memory or change it -/
def loudC (call : CallC) (o : Oper) (s : CSt) : Option CSt := match o.op with
  | .load t x => match cLoad P s t x with
    | some (_, c) => some (s.put o.dst c)
    | none => none
  | .store t x y => (cStore P s t x y).map (·.put o.dst (.v undef))
  | .alloc e => match zeroC P e with
    | some z => (newC s e z.length 1 z).map fun p => p.2.put o.dst (.pt p.1 0)
    | none => none
  | .box e x => match (s.evL x).bind cellsC with
    | some z => (newC s e z.length 1 z).map fun p => p.2.put o.dst (.pt p.1 0)
    | none => none
  | .buildSlice t len ps => match elemT P t with
    | some e => match szT P e, zeroC P e, allSome (ps.toList.map fun p => (s.evL p.2).map fun c => (p.1, c)) with
      | some size, some z, some parts => match Nat.beq z.length size && Nat.blt 0 size && Nat.ble (len * size) 16777216, len with
        | true, 0 => match parts with
          | [] => some (s.put o.dst .mt)
          | _ :: _ => none
        | true, n + 1 => match fillC (fun i => some (i * size, size)) (zerosC z ((n + 1) * size)) parts with
          | some l => (newC s e size (n + 1) l).map fun p => p.2.put o.dst (.sl p.1 0 (n + 1))
          | none => none
        | false, _ => none
      | _, _, _ => none
    | none => none
  | .makeSlice t l c => match elemT P t, natOf (s.ev l), natOf (s.ev c) with
    | some e, some n, some m => match szT P e, zeroC P e, Nat.beq n m, P.info? e with
      | some size, some z, true, some inf => match Nat.beq z.length size && Nat.blt 0 size && Nat.ble n 1000000 && Nat.ble inf.bytes 100000, n with
        | true, 0 => some (s.put o.dst .mt)
        | true, m + 1 => (newC s e size (m + 1) (zerosC z ((m + 1) * size))).map fun p => p.2.put o.dst (.sl p.1 0 (m + 1))
        | false, _ => none
      | _, _, _, _ => none
    | _, _, _ => none
  | .call c => match c.callee with
    | .builtin .append => match c.args.toList, c.argTypes.toList with
      | [x, y], [t, t'] => match s.evL x, s.evL y with
        | some a, some b => match cAppend P s t t' a b with
          | some p => some (p.2.put o.dst p.1)
          | none => (cAppendZ P s t t' a b).map fun c => s.put o.dst c
        | _, _ => none
      | _, _ => none
    | .value f => match (s.evL f).bind calleeC, allSome (c.args.toList.map s.evL) with
      | some (g, caps), some args => match okFn P g with
        | true => match call g (args ++ caps) s.hp (s.cnt) with
          | some (c, hp, wr, cnt) => match knownC hp c with
            | true => some (CSt.put { s with hp := hp, wr := wr ++ s.wr, cnt := cnt } o.dst c)
            | false => none
          | none => none
        | false => none
      | _, _ => none
    | _ => none
  | .defer c => match c.callee with
    | .value f => match (s.evL f).bind calleeC, allSome (c.args.toList.map s.evL) with
      | some (g, caps), some [] => match okFn P g with
        | true => some (CSt.put { s with ds := (g, caps) :: s.ds } o.dst (.v undef))
        | false => none
      | _, _ => none
    | _ => none
  | _ => none

def beqVal : Value → Value → Bool
  | .bool a, .bool b => a == b
  | .int k a, .int k' b => decide (k = k') && decide (a = b)
  | .string a, .string b => decide (a = b)
  | .pointer none, .pointer none => true
  | .pointer (some A), .pointer (some B) => decide (A = B)
  | .slice none 0 0, .slice none 0 0 => true
  | .func (.func f) a b, .func (.func g) c d => Nat.beq f g && a.isEmpty && b.isEmpty && c.isEmpty && d.isEmpty
  | .nilFunc, .nilFunc => true
  | .nilIface, .nilIface => true
  | .tuple a, .tuple b => a.isEmpty && b.isEmpty
  | _, _ => false
mutual
def beqCV : CV → CV → Bool
  | .v x, .v y => beqVal x y
  | .sl d a b, .sl e c f => Cid.beq d e && Nat.beq a c && Nat.beq b f
  | .em, .em => true
  | .mt, .mt => true
  | .pt d a, .pt e b => Cid.beq d e && Nat.beq a b
  | .fn (.func f) l, .fn (.func g) k => Nat.beq f g && beqCVL l k
  | .agg l, .agg k => beqCVL l k
  | .tup l, .tup k => beqCVL l k
  | _, _ => false
def beqCVL : List CV → List CV → Bool
  | [], [] => true
  | x :: l, y :: k => beqCV x y && beqCVL l k
  | _, _ => false
end
def beqRow : Option CRow → Option CRow → Bool
  | some r, some q => Nat.beq r.n q.n && beqCVL r.cells q.cells
  | none, none => true
  | _, _ => false
def beqHL : List (Cid × Option CRow) → List (Cid × Option CRow) → Bool
  | [], [] => true
  | (d, r) :: l, (e, q) :: k => Cid.beq d e && beqRow r q && beqHL l k
  | _, _ => false
def beqHp : Hp → Hp → Bool
  | .leaf, .leaf => true
  | .node v l r, .node v' l' r' => beqHL v v' && beqHp l l' && beqHp r r'
  | _, _ => false
def beqSl : List (Nat × CV) → List (Nat × CV) → Bool
  | [], [] => true
  | (d, r) :: l, (e, q) :: k => Nat.beq d e && beqCV r q && beqSl l k
  | _, _ => false
def beqDs : List (Nat × List CV) → List (Nat × List CV) → Bool
  | [], [] => true
  | (d, r) :: l, (e, q) :: k => Nat.beq d e && beqCVL r q && beqDs l k
  | _, _ => false
/-- the same but for what has been written -/
def beqSt (s t : CSt) : Bool := beqSl s.slots t.slots && beqHp s.hp t.hp && beqDs s.ds t.ds
def nthL {α : Type} : List α → Nat → Option α
  | [], _ => none
  | x :: _, 0 => some x
  | _ :: l, i + 1 => nthL l i
/-- the order in which a region is walked: 2 i: operation i, ahead of its turn; 2 i + 1: operation i, when it alone is ready; ways: where two or three are ready -/
inductive Sch where
  | row (l : List Nat)
  | two (l : List Nat) (i j : Nat) (a b : Sch)
  | three (l : List Nat) (i j k : Nat) (a b c : Sch)
def bitsOf : List Nat → Nat
  | [] => 0
  | t :: l => Nat.lor (Nat.shiftLeft 1 t) (bitsOf l)
def depL : List Edge → List Nat
  | [] => []
  | e :: l => match Region.binds .any e with | true => e.on :: depL l | false => depL l
/-- of an operation: what it waits for, what it looks at, where its value goes (numbers as sets) -/
structure Inf where
  dep : Nat
  look : Nat
  dst : Option Nat
def infOf (ops : Array Oper) (o : Oper) : Inf := ⟨bitsOf (depL o.after.toList), bitsOf (o.looksAt ops), o.dst⟩
def apM (x y : Inf) : Bool :=
  (match x.dst with | some d => !Nat.testBit y.look d && (match y.dst with | some e => !Nat.beq e d | none => true) | none => true) &&
  (match y.dst with | some d => !Nat.testBit x.look d | none => true)
def apA (i : Nat) (x : Inf) : Nat → List Inf → Bool
  | _, [] => true
  | j, y :: l => (Nat.beq i j || Nat.testBit x.dep j || Nat.testBit y.dep i || apM x y) && apA i x (j + 1) l
def apAll (all : List Inf) : Nat → List Inf → Bool
  | _, [] => true
  | i, x :: l => apA i x 0 all && apAll all (i + 1) l
def readyM (L m : Nat) (y : Inf) : Bool := !Nat.testBit L m && Nat.beq (Nat.land y.dep L) y.dep
def waitsM (i L : Nat) : Nat → List Inf → Bool
  | _, [] => false
  | m, y :: l => (!Nat.beq m i && !Nat.testBit L m && Nat.testBit y.dep i) || waitsM i L (m + 1) l
def onlyM (i L : Nat) : Nat → List Inf → Bool
  | _, [] => true
  | m, _ :: l => (Nat.beq m i || Nat.testBit L m) && onlyM i L (m + 1) l
def allM (L : Nat) : Nat → List Inf → Bool
  | _, [] => true
  | m, _ :: l => Nat.testBit L m && allM L (m + 1) l
def noneM (is : List Nat) (L : Nat) : Nat → List Inf → Bool
  | _, [] => true
  | m, y :: l => (is.any (Nat.beq m) || !readyM L m y) && noneM is L (m + 1) l
def isReady (I : List Inf) (L i : Nat) : Bool := match nthL I i with | some x => readyM L i x | none => false
def addM (L i : Nat) : Nat := Nat.lor L (Nat.shiftLeft 1 i)
section
variable (I : List Inf)
/-- is the order one that may be walked? -/
def okRow : List Nat → Nat → Nat → Option (Nat × Nat)
  | [], f, L => some (f, L)
  | c :: l, f, L => match f, isReady I L (c / 2) with
    | f + 1, true => match Nat.beq (c % 2) 0 with
      | true => match waitsM (c / 2) L 0 I || onlyM (c / 2) L 0 I with
        | true => okRow l f (addM L (c / 2))
        | false => none
      | false => match noneM [c / 2] L 0 I with
        | true => okRow l f (addM L (c / 2))
        | false => none
    | _, _ => none
def okSch : Sch → Nat → Nat → Bool
  | .row l, f, L => match okRow I l f L with
    | some (_, L') => allM L' 0 I
    | none => false
  | .two l i j a b, f, L => match okRow I l f L with
    | some (f' + 1, L') => isReady I L' i && isReady I L' j && noneM [i, j] L' 0 I && okSch a f' (addM L' i) && okSch b f' (addM L' j)
    | _ => false
  | .three l i j k a b c, f, L => match okRow I l f L with
    | some (f' + 1, L') => isReady I L' i && isReady I L' j && isReady I L' k && noneM [i, j, k] L' 0 I && okSch a f' (addM L' i) && okSch b f' (addM L' j) && okSch c f' (addM L' k)
    | _ => false
end
def okReg (ops : Array Oper) (n : Nat) (cs : List Sch) : Bool :=
  let I := ops.toList.map (infOf ops)
  Region.noSelect ops && ops.toList.all (inN n) && apAll I 0 I && cs.all fun c => okSch I c ops.size 0
/-- what a walk finds: the state, the rows it loaded from ahead of their turn, the rows written while something was left -/
structure Fnd where
  s : CSt
  ld : List Cid
  wn : List Cid
  st : List (Nat × Nat) := []
section
variable (call : CallC) (ops : List Oper) (opsA : Array Oper)
def quickC (i : Nat) (f : Fnd) : Option Fnd := match nthL ops i with
  | some o => match quietC P opsA f.s o with
    | some c => some { f with s := f.s.put o.dst c }
    | none => match wantC opsA f.s o, o.op with
      | some true, .load t x => match cLoad P f.s t x with
        | some (some d, c) => match live f.s.hp c with | true => some { f with s := f.s.put o.dst c, ld := d :: f.ld } | false => none
        | some (none, c) => some { f with s := f.s.put o.dst c }
        | none => none
      | _, _ => none
  | none => none
def slowC (last : Bool) (i : Nat) (f : Fnd) : Option Fnd := match nthL ops i with
  | some o => match wantC opsA f.s o with
    | some true => match lookS f.st i with
      | some k => match loudC P call o { f.s with wr := [], cnt := k } with
        | some s' => some { s := { s' with wr := s'.wr ++ f.s.wr, cnt := f.s.cnt }, ld := f.ld, wn := match last with | true => f.wn | false => s'.wr ++ f.wn, st := f.st }
        | none => none
      | none => match loudC P call o { f.s with wr := [] } with
        | some s' => some { s := { s' with wr := s'.wr ++ f.s.wr }, ld := f.ld, wn := match last with | true => f.wn | false => s'.wr ++ f.wn, st := (i, f.s.cnt) :: f.st }
        | none => none
    | some false => some { f with s := f.s.put o.dst (.v undef) }
    | none => none
  | none => none
def runRow (more : Bool) : List Nat → Fnd → Option Fnd
  | [], f => some f
  | c :: l, f => match Nat.beq (c % 2) 0 with
    | true => match quickC P ops opsA (c / 2) f with
      | some f' => runRow more l f'
      | none => none
    | false => match slowC P call ops opsA (l.isEmpty && !more) (c / 2) f with
      | some f' => runRow more l f'
      | none => none
def lastS : Sch → Bool
  | .row [] => true
  | _ => false
def runSch : Sch → Fnd → Option Fnd
  | .row l, f => runRow P call ops opsA false l f
  | .two l i j a b, f => match runRow P call ops opsA true l f with
    | some f => match (slowC P call ops opsA (lastS a) i f).bind (runSch a) with
      | some f1 => match (slowC P call ops opsA (lastS b) j { f with st := f1.st }).bind (runSch b) with
       | some f2 => match beqSt f1.s f2.s && f2.s.wr.all fun d => f1.s.wr.any (Cid.beq d) with
        | true => some { s := f1.s, ld := f1.ld ++ f2.ld, wn := f1.wn ++ f2.wn, st := f1.st }
        | false => none
       | none => none
      | none => none
    | none => none
  | .three l i j k a b c, f => match runRow P call ops opsA true l f with
    | some f => match (slowC P call ops opsA (lastS a) i f).bind (runSch a) with
      | some f1 => match (slowC P call ops opsA (lastS b) j { f with st := f1.st }).bind (runSch b), (slowC P call ops opsA (lastS c) k { f with st := f1.st }).bind (runSch c) with
       | some f2, some f3 => match (beqSt f1.s f2.s && f2.s.wr.all fun d => f1.s.wr.any (Cid.beq d)) && (beqSt f1.s f3.s && f3.s.wr.all fun d => f1.s.wr.any (Cid.beq d)) with
        | true => some { s := f1.s, ld := f1.ld ++ (f2.ld ++ f3.ld), wn := f1.wn ++ (f2.wn ++ f3.wn), st := f1.st }
        | false => none
       | _, _ => none
      | none => none
    | none => none
/-- operations in a row -/
def seqC : List Oper → CSt → Option CSt
  | [], s => some s
  | o :: l, s => match quietC P opsA s o with
    | some c => seqC l (s.put o.dst c)
    | none => match wantC opsA s o with
      | some true => match loudC P call o s with
        | some s' => seqC l s'
        | none => none
      | _ => none
def walkC (sch : Sch) (s : CSt) : Option CSt := match runSch P call ops opsA sch { s := s, ld := [], wn := [] } with
  | some f => match f.ld.all fun d => known s.hp d && !f.wn.any (Cid.beq d) with
    | true => some f.s
    | false => none
  | none => none
end
/-- schedules: for a region, some to be tried one after the other -/
abbrev Tab := List (Nat × List Sch)
def lookT : Tab → Nat → List Sch
  | [], _ => []
  | (k, v) :: l, t => match Nat.beq k t with | true => v | false => lookT l t
def tryC (f : Sch → CSt → Option CSt) : List Sch → CSt → Option CSt
  | [], _ => none
  | c :: l, s => match f c s with
    | some s' => some s'
    | none => tryC f l s
def regC (call : CallC) (tab : Tab) (id : Nat) (ops : Array Oper) (draw : Bool) (s : CSt) : Option CSt := match draw with
  | false => seqC P call ops ops.toList s
  | true => tryC (walkC P call ops.toList ops) (lookT tab id) s
/-- are a function's schedules in order? -/
def okCode (n : Nat) (tab : Tab) : Code → Bool
  | .region id ops true => okReg ops n (lookT tab id)
  | .region _ ops false => ops.toList.all (inN n)
  | .seq a b => okCode n tab a && okCode n tab b
  | .cond _ a b => okCode n tab a && okCode n tab b
  | .block _ a => okCode n tab a
  | .loop a => okCode n tab a
  | _ => true
abbrev Tabs := List (Nat × Tab)
def lookTT : Tabs → Nat → Tab
  | [], _ => []
  | (k, v) :: l, t => match Nat.beq k t with | true => v | false => lookTT l t
def okFunT (tabs : Tabs) (f : Nat) : Bool := match P.funcs[f]? with
  | some fn => match fn.body with
    | some c => okCode fn.ntmps (lookTT tabs f) c
    | none => true
  | none => true
def okTabs (tabs : Tabs) : List Nat → Bool
  | [] => true
  | f :: l => okFunT P tabs f && okTabs tabs l
inductive COut where
  | go (s : CSt)
  | exit (id : Nat) (s : CSt)
  | ret (s : CSt)
def iterC (f : CSt → Option COut) : Nat → CSt → Option COut
  | 0, _ => none
  | k + 1, s => match f s with
    | some (.go s') => iterC f k s'
    | o => o
section
variable (call : CallC) (tab : Tab) (lf : Nat)
def runC : Code → CSt → Option COut
  | .skip, s => some (.go s)
  | .region id ops draw, s => (regC P call tab id ops draw s).map .go
  | .seq a b, s => match runC a s with
    | some (.go s') => runC b s'
    | o => o
  | .cond c a b, s => match s.ev c with
    | some (.v (.bool true)) => runC a s
    | some (.v (.bool false)) => runC b s
    | _ => none
  | .block id c, s => match runC c s with
    | some (.exit id' s') => match Nat.beq id' id with | true => some (.go s') | false => some (.exit id' s')
    | o => o
  | .loop c, s => iterC (runC c) lf s
  | .exit id, s => some (.exit id s)
  | .ret, s => some (.ret s)
  | _, _ => none
def resC (s : CSt) : List ResultVar → Option (List CV)
  | [] => some []
  | .tmp t :: l => match s.evL (.tmp t), resC s l with
    | some c, some cs => some (c :: cs)
    | _, _ => none
  | .cell b t :: l => match cLoad P s t (.tmp b), resC s l with
    | some (_, c), some cs => match live s.hp c with | true => some (c :: cs) | false => none
    | _, _ => none
def oneRes : List CV → CV
  | [] => .v (.tuple #[])
  | [c] => c
  | l => .tup l
/-- a deferred function: it begins with recover, and nothing is thrown -/
def defC (tabs : Tabs) (fs : List Nat) (g : Nat) (args : List CV) (hp : Hp) (cnt : Nat) : Option (Hp × List Cid × Nat) := match P.funcs[g]? with
  | some fn => match fn.body with
    | some (.seq (.region id ops false) y) => match ops.toList with
      | [o] => match o.op, o.guard, o.dst with
        | .call c, none, some d => match c.callee with
          | .builtin .recover => match Nat.ble args.length fn.ntmps && Nat.blt d fn.ntmps && fn.name != "runtime.NumGoroutine" && fs.any (Nat.beq g) with
            | true => match runC P call (lookTT tabs g) lf y { slots := putS d (.v .nilIface) ((List.range args.length).zip args), hp := hp, ds := [], wr := [], cnt := cnt } with
              | some (.go s) => match s.ds, resC P s fn.results.toList with | [], some _ => some (s.hp, s.wr, s.cnt) | _, _ => none
              | some (.ret s) => match s.ds, resC P s fn.results.toList with | [], some _ => some (s.hp, s.wr, s.cnt) | _, _ => none
              | _ => none
            | false => none
          | _ => none
        | _, _, _ => none
      | _ => none
    | _ => none
  | none => none
def defsC (tabs : Tabs) (fs : List Nat) (s : CSt) : List (Nat × List CV) → Option CSt
  | [] => some s
  | (g, args) :: l => match args.all (live s.hp), defC P call lf tabs fs g args s.hp s.cnt with
    | true, some (hp, wr, cnt) => defsC tabs fs { s with hp := hp, wr := wr ++ s.wr, cnt := cnt } l
    | _, _ => none
end
/-- a function, from its arguments on; fs: the functions whose schedules are known to be in order -/
def funC (tabs : Tabs) (fs : List Nat) (lf : Nat) : Nat → CallC
  | 0, _, _, _, _ => none
  | k + 1, f, args, hp, cnt => match P.funcs[f]? with
    | some fn => match fn.body, Nat.ble args.length fn.ntmps && fs.any (Nat.beq f) with
      | some c, true => match runC P (funC tabs fs lf k) (lookTT tabs f) lf c { slots := (List.range args.length).zip args, hp := hp, ds := [], wr := [], cnt := cnt } with
        | some (.go s) => match defsC P (funC tabs fs lf k) lf tabs fs s s.ds with
          | some s' => (resC P s' fn.results.toList).map fun l => (oneRes l, s'.hp, s'.wr, s'.cnt)
          | none => none
        | some (.ret s) => match defsC P (funC tabs fs lf k) lf tabs fs s s.ds with
          | some s' => (resC P s' fn.results.toList).map fun l => (oneRes l, s'.hp, s'.wr, s'.cnt)
          | none => none
        | _ => none
      | _, _ => none
    | none => none
end
end Go.Proofs.YtmhoefpienagkaaDoor.Cl
end
