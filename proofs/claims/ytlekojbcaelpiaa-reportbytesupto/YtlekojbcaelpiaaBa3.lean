/- Contracts of the functions that the laws of scorialaw38 reach, part 3. -/
import Derived.RangeFuncWrites
import Derived.RangeFuncCalls
import Derived.OrdersIn
import Derived.TacticsIn
import Derived.Maps.Own
import Derived.Maps.Views
import Derived.WideMake
import Derived.Shelf.SlSortCmp.NoneTotal
import Derived.Test.YtlekojbcaelpiaaProg
import Derived.Test.YtlekojbcaelpiaaBa2
set_option linter.unusedVariables false
set_option linter.unusedSimpArgs false

/- Code, functions: what the interpreter answers, the machine answers. -/
namespace Go.Proofs.Ytlekojbcaelpiaa
open Go.RowKit

section
variable {γ : Gh} {w0 w : World} {s : St} {a : Act}
theorem look_filterMap {α β : Type} (l : List (Nat × α)) (f : α → β) : ∀ (live : List Nat) {t : Nat} {v : β}, look (live.filterMap fun t => (look l t).map fun x => (t, f x)) t = some v → ∃ u, look l t = some u ∧ f u = v
  | [], t, v, h => by simp [look] at h
  | k :: live, t, v, h => by
    rw [List.filterMap_cons] at h
    cases hk : look l k with
    | none => simp only [hk, Option.map_none] at h; exact look_filterMap l f live h
    | some u =>
      simp only [hk, Option.map_some, look_cons] at h
      split at h
      · rename_i e; subst e; exact ⟨u, hk, Option.some.inj h⟩
      · exact look_filterMap l f live h
theorem look_filter {α : Type} (l : List (Nat × α)) (live : List Nat) {t : Nat} {v : α} (h : look (live.filterMap fun t => (look l t).map fun x => (t, x)) t = some v) : look l t = some v := by
  obtain ⟨u, h1, h2⟩ := look_filterMap l id live h
  cases h2; exact h1
theorem look_map (f : AV → AV) (l : List (Nat × AV)) : ∀ (live : List Nat) {t : Nat} {v : AV}, look (live.map fun t => (t, f ((look l t).getD .undef))) t = some v → v = f ((look l t).getD .undef)
  | [], t, v, h => by simp [look] at h
  | k :: live, t, v, h => by
    rw [List.map_cons, look_cons] at h
    split at h
    · rename_i e; subst e; simpa using h.symm
    · exact look_map f l live h
theorem AVR1.keep1 {L : List (Nat × Nat)} {c : Value} {names : List Nat} : ∀ {x : AV}, AVR1 γ L w c x → AVR1 γ L w c (keep1 names x)
  | .undef, h => h
  | .sc _, h => h
  | .row none .., h => h
  | .row (some (d, e)) s n xs, h => by
    simp only [Ytlekojbcaelpiaa.keep1]
    split
    · exact h
    · have := h.1; simpa only [AVR1, V] using this
  | .mt, h => h
  | .agg _, h => h
  | .tup _, _ => trivial
  | .rptr _, h => h
  | .ptr d off, h => by
    simp only [Ytlekojbcaelpiaa.keep1]
    split
    · exact h
    · exact trivial
theorem AVR.keep1 {L : List (Nat × Nat)} {c : Value} {names : List Nat} {x : AV} (h : AVR γ L w c x) : AVR γ L w c (Ytlekojbcaelpiaa.keep1 names x) := by
  cases x with
  | tup xs => exact trivial
  | undef => exact h
  | sc v => exact h
  | row t s n xs =>
    refine AVR.of_AVR1 (fun zs => ?_) (AVR1.keep1 (x := .row t s n xs) h)
    cases t with
    | none => simp [Ytlekojbcaelpiaa.keep1]
    | some p => simp only [Ytlekojbcaelpiaa.keep1]; split <;> simp
  | mt => exact h
  | agg xs => exact h
  | ptr d o =>
    refine AVR.of_AVR1 (fun zs => ?_) (AVR1.keep1 (x := .ptr d o) h)
    simp only [Ytlekojbcaelpiaa.keep1]; split <;> simp
  | rptr xs => exact h
theorem Rel.mask (h : Rel γ w0 s a w) (live names : List Nat) : Rel γ w0 (s.mask live names) a w := by
  have hL : ∀ d len, look (s.mask live names).lens d = some len → look s.lens d = some len := fun d len hl => look_filter s.lens names hl
  refine ⟨h.size, h.defers, h.below, h.base, fun t x hx => ?_, fun d ty xs hx => ?_, fun d len g hl hb => h.len d len g (hL d len hl) hb, h.inj, h.blt, h.plt, h.frm⟩
  · have := look_map (Ytlekojbcaelpiaa.keep1 names) s.slots live hx
    subst this
    cases hs : look s.slots t with
    | none => exact trivial
    | some y => exact ((h.slot t y hs).keep1).weaken hL
  · obtain ⟨⟨ty', ys⟩, hy, e⟩ := look_filterMap s.objs (fun x : Nat × List AV => (x.1, x.2.map (Ytlekojbcaelpiaa.keep1 names))) names hx
    simp only [Prod.mk.injEq] at e
    obtain ⟨rfl, rfl⟩ := e
    obtain ⟨k1, b, cs, k2, k3, k4, k5, k6⟩ := h.obj d ty' ys hy
    refine ⟨?_, b, cs, k2, k3, k4, AVRL.of_at (by simp [k5.length]) fun i y u hy hu => ?_, k6⟩
    · cases hl : look (s.mask live names).lens d with
      | none => rfl
      | some len => have := hL d len hl; rw [k1] at this; cases this
    · simp only [List.getElem?_map, Option.map_eq_some_iff] at hy
      obtain ⟨y', hy', rfl⟩ := hy
      obtain ⟨u', q1, q2⟩ := k5.at_ hy'
      rw [hu] at q1; cases q1
      exact (q2.keep1).weaken hL
theorem Rel.maskIf (h : Rel γ w0 s a w) (live : Option (List Nat × List Nat)) : Rel γ w0 (maskIf live s) a w := by
  cases live with
  | none => exact h
  | some l => exact h.mask l.1 l.2
end

theorem least {p : Nat → Prop} (h : ∃ k, p k) : ∃ k, p k ∧ ∀ m, p m → k ≤ m := by
  obtain ⟨k, hk⟩ := h
  induction k using Nat.strongRecOn with
  | _ k ih =>
    by_cases hm : ∃ m, m < k ∧ p m
    · obtain ⟨m, h1, h2⟩ := hm; exact ih m h1 h2
    · exact ⟨k, hk, fun m hp => Nat.le_of_not_lt fun hlt => hm ⟨m, hlt, hp⟩⟩

def Out.st : Out → St
  | .go s => s
  | .exit _ s => s
  | .ret s => s
theorem iter_log {f : St → Option Out} (hf : ∀ s o, f s = some o → ∀ p ∈ s.log, p ∈ o.st.log) : ∀ (n : Nat) {s : St} {o : Out}, iter f n s = some o → ∀ p ∈ s.log, p ∈ o.st.log
  | 0, s, o, h => by simp [iter] at h
  | n + 1, s, o, h => by
    simp only [iter] at h
    cases hx : f s with
    | none => rw [hx] at h; simp at h
    | some o1 =>
      rw [hx] at h
      have h1 := hf s o1 hx
      cases o1 with
      | go s1 => exact fun p hp => iter_log hf n h p (h1 p hp)
      | exit id s1 => simp only [Option.some.injEq] at h; subst h; exact h1
      | ret s1 => simp only [Option.some.injEq] at h; subst h; exact h1
theorem maskIf_log (live : Option (List Nat × List Nat)) (s : St) : (maskIf live s).log = s.log := by cases live <;> rfl
theorem code_log {P : Program} {call : Orc} {live : Nat → Option (List Nat × List Nat)} {fuel : Nat} : ∀ (c : Code) {s : St} {out : Out}, runCode P call live fuel c s = some out → ∀ p ∈ s.log, p ∈ out.st.log := by
  intro c
  induction c with
  | skip => intro s out h; simp only [runCode, Option.some.injEq] at h; subst h; exact fun p hp => hp
  | region id ops draw =>
    intro s out h
    simp only [runCode, Option.map_eq_some_iff] at h
    obtain ⟨t, h, rfl⟩ := h
    exact fun p hp => region_log h p (by rw [maskIf_log]; exact hp)
  | seq x y ihx ihy =>
    intro s out h
    simp only [runCode] at h
    cases hx : runCode P call live fuel x s with
    | none => rw [hx] at h; simp at h
    | some o =>
      rw [hx] at h
      have h1 := ihx hx
      cases o with
      | go s1 => exact fun p hp => ihy h p (h1 p hp)
      | exit id s1 => simp only [Option.some.injEq] at h; subst h; exact h1
      | ret s1 => simp only [Option.some.injEq] at h; subst h; exact h1
  | cond c x y ihx ihy =>
    intro s out h
    simp only [runCode] at h
    split at h
    · exact ihx h
    · exact ihy h
    · cases h
  | block id x ih =>
    intro s out h
    simp only [runCode] at h
    cases hx : runCode P call live fuel x s with
    | none => rw [hx] at h; simp at h
    | some o =>
      rw [hx] at h
      have h1 := ih hx
      cases o with
      | go s1 => simp only [Option.some.injEq] at h; subst h; exact h1
      | ret s1 => simp only [Option.some.injEq] at h; subst h; exact h1
      | exit id1 s1 =>
        simp only at h
        split at h <;> (cases h; exact h1)
  | loop x ih =>
    intro s out h
    simp only [runCode] at h
    exact iter_log (fun s o h => ih h) _ h
  | exit id => intro s out h; simp only [runCode, Option.some.injEq] at h; subst h; exact fun p hp => hp
  | ret => intro s out h; simp only [runCode, Option.some.injEq] at h; subst h; exact fun p hp => hp
  | label l => intro s out h; simp only [runCode, Option.some.injEq] at h; subst h; exact fun p hp => hp
  | rangeFunc => intro s out h; simp [runCode] at h
  | scope => intro s out h; simp [runCode] at h
  | goto => intro s out h; simp [runCode] at h
  | refuse => intro s out h; simp [runCode] at h

def PostOf (γ0 : Gh) (w0 : World) (out : Out) : Exit → Act → World → Prop
  | .normal, a, w => ∃ s γ, out = .go s ∧ GExt γ0 γ ∧ Rel γ w0 s a w
  | .exit id, a, w => ∃ s γ, out = .exit id s ∧ GExt γ0 γ ∧ Rel γ w0 s a w
  | .ret, a, w => ∃ s γ, out = .ret s ∧ GExt γ0 γ ∧ Rel γ w0 s a w
  | _, _, _ => False

section
variable {P : Program} {call : Orc} {live : Nat → Option (List Nat × List Nat)} {fuel : Nat} (hmix : P.follows .mixedOrders = true)
include hmix
open Classical in
theorem code_sound {w0 : World} : ∀ (c : Code) {s : St} {out : Out} {γ : Gh} {a : Act} {w : World}, runCode P call live fuel c s = some out → (∀ p ∈ out.st.log, p) → Rel γ w0 s a w → c.wp P (PostOf γ w0 out) a w := by
  intro c
  induction c with
  | skip =>
    intro s out γ a w h hlog hrel
    simp only [runCode, Option.some.injEq] at h; subst h
    exact wp_skip ⟨s, γ, rfl, GExt.refl γ, hrel⟩
  | region id ops draw =>
    intro s out γ a w h hlog hrel
    simp only [runCode, Option.map_eq_some_iff] at h
    obtain ⟨t, h, rfl⟩ := h
    exact region_sound hmix (hrel.maskIf (live id)) h hlog fun γ' a' w' e hr => ⟨t, γ', rfl, e, hr⟩
  | seq x y ihx ihy =>
    intro s out γ a w h hlog hrel
    simp only [runCode] at h
    cases hx : runCode P call live fuel x s with
    | none => rw [hx] at h; simp at h
    | some o =>
      rw [hx] at h
      cases o with
      | go s1 =>
        simp only at h
        refine wp_seq (wp_mono (ihx hx (fun p hp => hlog p (code_log y h p hp)) hrel) fun e a' w' hp => ?_)
        cases e with
        | normal =>
          obtain ⟨s2, γ2, e2, hg, hr⟩ := hp
          cases e2
          exact wp_mono (ihy h hlog hr) fun e a'' w'' hp => by
            cases e with
            | normal => obtain ⟨s3, γ3, q1, q2, q3⟩ := hp; exact ⟨s3, γ3, q1, hg.trans q2, q3⟩
            | exit id => obtain ⟨s3, γ3, q1, q2, q3⟩ := hp; exact ⟨s3, γ3, q1, hg.trans q2, q3⟩
            | ret => obtain ⟨s3, γ3, q1, q2, q3⟩ := hp; exact ⟨s3, γ3, q1, hg.trans q2, q3⟩
            | _ => exact hp
        | exit id => obtain ⟨s2, γ2, e2, _⟩ := hp; cases e2
        | ret => obtain ⟨s2, γ2, e2, _⟩ := hp; cases e2
        | _ => exact hp.elim
      | exit id s1 =>
        simp only [Option.some.injEq] at h; subst h
        refine wp_seq (wp_mono (ihx hx hlog hrel) fun e a' w' hp => ?_)
        cases e with
        | normal => obtain ⟨s2, γ2, e2, _⟩ := hp; cases e2
        | _ => exact hp
      | ret s1 =>
        simp only [Option.some.injEq] at h; subst h
        refine wp_seq (wp_mono (ihx hx hlog hrel) fun e a' w' hp => ?_)
        cases e with
        | normal => obtain ⟨s2, γ2, e2, _⟩ := hp; cases e2
        | _ => exact hp
  | cond c x y ihx ihy =>
    intro s out γ a w h hlog hrel
    simp only [runCode] at h
    split at h
    · rename_i hc
      exact wp_cond_true (ev_sc hrel.eval hc) (ihx h hlog hrel)
    · rename_i hc
      exact wp_cond_false (ev_sc hrel.eval hc) (ihy h hlog hrel)
    · cases h
  | block id x ih =>
    intro s out γ a w h hlog hrel
    simp only [runCode] at h
    cases hx : runCode P call live fuel x s with
    | none => rw [hx] at h; simp at h
    | some o =>
      rw [hx] at h
      have hlog' : ∀ p ∈ o.st.log, p := by
        cases o with
        | go s1 => simp only [Option.some.injEq] at h; subst h; exact hlog
        | ret s1 => simp only [Option.some.injEq] at h; subst h; exact hlog
        | exit id1 s1 =>
          simp only at h
          split at h <;> (cases h; exact hlog)
      refine wp_block (wp_mono (ih hx hlog' hrel) fun e a' w' hp => ?_)
      cases o with
      | go s1 =>
        simp only [Option.some.injEq] at h; subst h
        cases e with
        | exit id' => obtain ⟨s2, γ2, e2, _⟩ := hp; cases e2
        | _ => exact hp
      | ret s1 =>
        simp only [Option.some.injEq] at h; subst h
        cases e with
        | exit id' => obtain ⟨s2, γ2, e2, _⟩ := hp; cases e2
        | _ => exact hp
      | exit id1 s1 =>
        simp only at h
        cases e with
        | exit id' =>
          obtain ⟨s2, γ2, e2, hg, hr⟩ := hp
          cases e2
          by_cases hid : id1 = id
          · subst hid
            simp only [Nat.beq_refl, Option.some.injEq] at h; subst h
            simp only [Exit.inBlock, if_true]
            exact ⟨s1, γ2, rfl, hg, hr⟩
          · simp only [beq_false' hid, Option.some.injEq] at h; subst h
            simp only [Exit.inBlock, hid, if_false]
            exact ⟨s1, γ2, rfl, hg, hr⟩
        | normal => obtain ⟨s2, γ2, e2, _⟩ := hp; cases e2
        | ret => obtain ⟨s2, γ2, e2, _⟩ := hp; cases e2
        | _ => exact hp.elim
  | loop x ih =>
    intro s out γ a w h hlog hrel
    simp only [runCode] at h
    let Pr : Nat → Act → World → Prop := fun k a w => ∃ γ' s', GExt γ γ' ∧ Rel γ' w0 s' a w ∧ iter (runCode P call live fuel x) k s' = some out
    refine wp_loop (fun a w => ∃ k, Pr k a w) (fun a w => if h : ∃ k, Pr k a w then (least h).choose else 0) ⟨fuel, γ, s, GExt.refl γ, hrel, h⟩ ?_
    intro a w hI
    have hk := (least hI).choose_spec.1
    generalize hke : (least hI).choose = k at hk
    have hμ : (if h : ∃ k, Pr k a w then (least h).choose else 0) = k := by rw [dif_pos hI]; exact hke
    rw [hμ]
    obtain ⟨γ', s', hg, hr, hit⟩ := hk
    cases k with
    | zero => simp [iter] at hit
    | succ k =>
      simp only [iter] at hit
      cases hx : runCode P call live fuel x s' with
      | none => rw [hx] at hit; simp at hit
      | some o =>
        rw [hx] at hit
        have hlog' : ∀ p ∈ o.st.log, p := by
          cases o with
          | go s1 => exact fun p hp => hlog p (iter_log (fun s o => code_log x) k hit p hp)
          | exit id1 s1 => simp only [Option.some.injEq] at hit; subst hit; exact hlog
          | ret s1 => simp only [Option.some.injEq] at hit; subst hit; exact hlog
        refine wp_mono (ih hx hlog' hr) fun e a' w' hp => ?_
        cases o with
        | go s1 =>
          simp only at hit
          cases e with
          | normal =>
            obtain ⟨s2, γ2, e2, hg2, hr2⟩ := hp
            cases e2
            have hP : Pr k a' w' := ⟨γ2, s1, hg.trans hg2, hr2, hit⟩
            refine ⟨⟨k, hP⟩, ?_⟩
            have hex : ∃ k, Pr k a' w' := ⟨k, hP⟩
            show (if h : ∃ k, Pr k a' w' then (least h).choose else 0) < k + 1
            rw [dif_pos hex]
            exact Nat.lt_succ_of_le ((least hex).choose_spec.2 k hP)
          | exit id => obtain ⟨s2, γ2, e2, _⟩ := hp; cases e2
          | ret => obtain ⟨s2, γ2, e2, _⟩ := hp; cases e2
          | _ => exact hp.elim
        | exit id s1 =>
          simp only [Option.some.injEq] at hit; subst hit
          cases e with
          | normal => obtain ⟨s2, γ2, e2, _⟩ := hp; cases e2
          | exit id' => obtain ⟨s3, γ3, q1, q2, q3⟩ := hp; exact ⟨s3, γ3, q1, hg.trans q2, q3⟩
          | ret => obtain ⟨s2, γ2, e2, _⟩ := hp; cases e2
          | _ => exact hp.elim
        | ret s1 =>
          simp only [Option.some.injEq] at hit; subst hit
          cases e with
          | normal => obtain ⟨s2, γ2, e2, _⟩ := hp; cases e2
          | exit id' => obtain ⟨s2, γ2, e2, _⟩ := hp; cases e2
          | ret => obtain ⟨s3, γ3, q1, q2, q3⟩ := hp; exact ⟨s3, γ3, q1, hg.trans q2, q3⟩
          | _ => exact hp.elim
  | exit id =>
    intro s out γ a w h hlog hrel
    simp only [runCode, Option.some.injEq] at h; subst h
    exact wp_exit ⟨s, γ, rfl, GExt.refl γ, hrel⟩
  | ret =>
    intro s out γ a w h hlog hrel
    simp only [runCode, Option.some.injEq] at h; subst h
    exact wp_ret ⟨s, γ, rfl, GExt.refl γ, hrel⟩
  | label l =>
    intro s out γ a w h hlog hrel
    simp only [runCode, Option.some.injEq] at h; subst h
    exact wp_label ⟨s, γ, rfl, GExt.refl γ, hrel⟩
  | rangeFunc => intro s out γ a w h; simp [runCode] at h
  | scope => intro s out γ a w h; simp [runCode] at h
  | goto => intro s out γ a w h; simp [runCode] at h
  | refuse => intro s out γ a w h; simp [runCode] at h

omit hmix
theorem look_zip : ∀ (args : List AV) (k t : Nat) {x : AV}, look (((List.range args.length).map (· + k)).zip args) t = some x → k ≤ t ∧ args[t - k]? = some x
  | [], k, t, x, h => by simp [look] at h
  | y :: ys, k, t, x, h => by
    rw [List.length_cons, List.range_succ_eq_map, List.map_cons, List.zip_cons_cons, look_cons] at h
    split at h
    · rename_i e
      cases h
      exact ⟨by omega, by rw [show t - k = 0 by omega]; rfl⟩
    · rename_i hne
      have := look_zip ys (k + 1) t (x := x) (by
        rw [← h]; congr 2
        simp only [List.map_map]
        refine List.map_congr_left fun j _ => ?_
        simp only [Function.comp]; omega)
      refine ⟨by omega, ?_⟩
      rw [show t - k = (t - (k + 1)) + 1 by omega]
      simpa using this.2
theorem AVR1.nil_of_V {γ : Gh} {w : World} {c : Value} : ∀ {x : AV}, V γ.pr w c x → AVR1 γ [] w c x
  | .undef, h => h
  | .sc _, h => h
  | .row none .., h => h
  | .row (some (d, e)) .., h => ⟨h, fun len hl => by simp [look] at hl⟩
  | .mt, h => h
  | .agg _, h => h
  | .tup _, h => h
  | .rptr _, h => h
  | .ptr d off, h => by simp only [V] at h
theorem AVR.nil_of_V {γ : Gh} {w : World} {c : Value} : ∀ {x : AV}, V γ.pr w c x → AVR γ [] w c x
  | .tup xs, ⟨cs, e, h⟩ => ⟨cs, e, AVRL.of_at h.length fun i x u hx hu => by
      obtain ⟨u', k1, k2⟩ := h.at_ hx
      rw [hu] at k1; cases k1
      exact AVR1.nil_of_V k2⟩
  | .undef, h => AVR1.nil_of_V (x := .undef) h
  | .sc v, h => AVR1.nil_of_V (x := .sc v) h
  | .row t s n xs, h => AVR1.nil_of_V (x := .row t s n xs) h
  | .mt, h => AVR1.nil_of_V (x := .mt) h
  | .agg xs, h => AVR1.nil_of_V (x := .agg xs) h
  | .ptr d off, h => AVR1.nil_of_V (x := .ptr d off) h
  | .rptr xs, h => AVR1.nil_of_V (x := .rptr xs) h

/-- the results' values -/
def AVRs (γ : Gh) (L : List (Nat × Nat)) (w : World) (cs : List Value) : List AV → Prop
  | [] => cs = []
  | x :: xs => ∃ c cs', cs = c :: cs' ∧ AVR γ L w c x ∧ AVRs γ L w cs' xs
theorem cell_run {γ : Gh} {w0 w : World} {s : St} {a : Act} (hrel : Rel γ w0 s a w) {t : TypeId} {b : Operand} {x : AV} (h : cellVal P s t (s.eval b) = some x) :
    ∃ c, (do loadVar t (← asAddr (a.eval b)) : Sem Value).run P w = .ok c w ∧ AVR γ s.lens w c x := by
  unfold cellVal at h
  split at h
  case h_2 => cases h
  rename_i d off hb
  have hE := hrel.eval b
  rw [hb] at hE
  obtain ⟨⟨b', e, hb'⟩, _⟩ := hE
  split at h
  case h_3 => cases h
  · rename_i ty xs n hobj h1 h2
    obtain ⟨_, b2, cs, k2, k3, k4, k5, k6, k7⟩ := hrel.obj d ty xs hobj
    have : b2 = b' := by rw [hb'] at k2; exact (Option.some.inj k2).symm
    subst this
    simp only [Option.map_eq_some_iff] at h
    obtain ⟨ys, ht, rfl⟩ := h
    obtain ⟨rfl, hl⟩ := takeN_spec ht
    have hsub := (k5.drop off).take n
    have hV := hsub.plain
    have hone : ∀ u ∈ (cs.drop off).take n, u.oneCell' = true := fun u hu => k6 u (List.mem_of_mem_drop (List.mem_of_mem_take hu))
    have hrun := run_load_agg (P := P) (w := w) (b := b2) (o := off) (cs := (cs.drop off).take n) h1 h2 (by rw [hsub.length, hl]) (fun j v hj => by
      rw [List.getElem?_take] at hj
      split at hj
      · rw [List.getElem?_drop] at hj
        rw [cell_of_row w b2 _ cs.toArray ty (0, 0) k4]; simpa using hj
      · cases hj)
    refine ⟨_, by simp [e, asAddr, hrun]; rfl, AVR.of_AVR1 (by unfold mkAgg; split <;> simp) (by
      have := V_mkAgg hone hV
      unfold mkAgg at this ⊢
      split at this <;> exact this)⟩
  · rename_i ty xs hobj h1
    obtain ⟨_, b2, cs, k2, k3, k4, k5, k6, k7⟩ := hrel.obj d ty xs hobj
    have : b2 = b' := by rw [hb'] at k2; exact (Option.some.inj k2).symm
    subst this
    have hy : xs[off]? = some x := by
      rw [List.head?_eq_getElem?, List.getElem?_drop] at h
      simpa using h
    obtain ⟨c, q1, q2⟩ := k5.at_ hy
    have hone := k6 c (List.mem_of_getElem? q1)
    have hrun := run_load_one (P := P) h1 (show w.cell? ⟨b2, off, none⟩ = some c by rw [cell_of_row w b2 _ cs.toArray ty (0, 0) k4]; simpa using q1)
    refine ⟨c, by simp [e, asAddr, hrun], AVR.of_AVR1 (fun zs hz => ?_) q2⟩
    subst hz
    obtain ⟨cs', e', _⟩ := q2
    subst e'; simp [Value.oneCell'] at hone
theorem results_run {γ : Gh} {w0 w : World} {s : St} {a : Act} (hrel : Rel γ w0 s a w) : ∀ (l : List ResultVar) {xs : List AV}, resVals P s l = some xs → ∃ vs : List Value, AVRs γ s.lens w vs xs ∧
    (l.mapM (fun r : ResultVar => match r with | .tmp t => (pure (a.tmps.getD t undef) : Sem Value) | .cell b t => do loadVar t (← asAddr (a.tmps.getD b undef)))).run P w = .ok vs w
  | [], xs, h => by simp only [resVals, Option.some.injEq] at h; subst h; exact ⟨[], rfl, rfl⟩
  | .tmp t :: l, xs, h => by
    simp only [resVals, Option.map_eq_some_iff] at h
    obtain ⟨ys, h, rfl⟩ := h
    obtain ⟨vs, k1, k2⟩ := results_run hrel l h
    refine ⟨a.tmps.getD t undef :: vs, ⟨_, _, rfl, hrel.eval (.tmp t), k1⟩, ?_⟩
    rw [List.mapM_cons]
    simp only [Sem.run_bind, Sem.run_pure, Result.andThen_ok, k2]
  | .cell b t :: l, xs, h => by
    simp only [resVals] at h
    split at h
    case h_2 => cases h
    rename_i x ys hx hys
    simp only [Option.some.injEq] at h; subst h
    obtain ⟨vs, k1, k2⟩ := results_run hrel l hys
    obtain ⟨c, q1, q2⟩ := cell_run hrel (b := .tmp b) hx
    refine ⟨c :: vs, ⟨_, _, rfl, q2, k1⟩, ?_⟩
    rw [List.mapM_cons]
    have q1' : (do loadVar t (← asAddr (a.tmps.getD b undef)) : Sem Value).run P w = .ok c w := q1
    simp only [Sem.run_bind] at q1'
    simp only [Sem.run_bind, q1', Result.andThen_ok, k2, Sem.run_pure]
theorem AVR.plain1' {γ : Gh} {L : List (Nat × Nat)} {w : World} {c : Value} {x : AV} (h : AVR γ L w c x) : V γ.pr w c (Ytlekojbcaelpiaa.plain1 x) := by
  cases x with
  | tup xs => exact trivial
  | undef => exact trivial
  | sc v => exact h
  | row t s n xs => exact AVR1.plain (x := .row t s n xs) (L := L) h
  | mt => exact h
  | agg xs => exact h
  | ptr d o => exact trivial
  | rptr xs => exact h
theorem AVRs.plain {γ : Gh} {L : List (Nat × Nat)} {w : World} : ∀ {xs : List AV} {cs : List Value}, AVRs γ L w cs xs → VL γ.pr w cs (xs.map Ytlekojbcaelpiaa.plain1)
  | [], _, h => h
  | x :: xs, _, ⟨c, cs, e, h1, h2⟩ => ⟨c, cs, e, h1.plain1', AVRs.plain h2⟩
theorem own_row {γ : Gh} {w0 w : World} {s : St} {a : Act} (hrel : Rel γ w0 s a w) {x : AV} {c : Value} (hx : AVR γ s.lens w c x) {e : Nat} {p : Prop} (h : ownOf s x = some (e, p)) (hp : p) : OwnRow γ.base γ.pr w e c (plain1 x) := by
  unfold ownOf at h
  split at h
  case h_2 => cases h
  rename_i d e' size n xs
  simp only [Option.map_eq_some_iff, Prod.mk.injEq] at h
  obtain ⟨len, hlen, rfl, rfl⟩ := h
  have hl : len = n * size := hp
  subst hl
  rcases ((hx.2 _ hlen).2 rfl) with h | ⟨us, ho, hb⟩
  · exact .inl h
  · exact .inr ⟨us, ho, fun g hg => (hrel.len d _ g hlen (hb g hg)).2⟩

include hmix
omit hmix in
/-- THE LAW OF A FUNCTION. -/
theorem body_judg {f : Nat} {fn : Func} {c : Code} {args : List AV} {r : Res} {Q : Out → Prop} (hf : P.funcs[f]? = some fn) (hname : (fn.name == "runtime.NumGoroutine") = false) (hb : fn.body = some c) (hle : args.length ≤ fn.ntmps)
    (J : ∀ {γ : Gh} {a : Act} {w : World}, Rel γ w (start args fn.ntmps) a w → c.wp P (fun e a' w' => ∃ out, Q out ∧ PostOf γ w out e a' w') a w)
    (hQ : ∀ out, Q out → ∃ s1 l, (out = .go s1 ∨ out = .ret s1) ∧ (resVals P s1 fn.results.toList).bind (resOf s1) = some (r, l) ∧ ∀ p ∈ l, p) : Ok P f args r := by
  refine ⟨⟨fn, hf, hname, by rw [hb]; rfl⟩, fun w pr cs hpr hargs => ?_⟩
  refine calls_of_wp hf hb ?_
  have hlen := hargs.length
  have hrel : Rel { base := w.heap.size, pr := pr, blk := fun _ => none } w (start args fn.ntmps) { tmps := cs.toArray ++ Array.replicate (fn.ntmps - cs.toArray.size) undef, defers := [] } w := by
    refine ⟨?_, rfl, Below.refl _ _, Nat.le_refl _, fun t x hx => ?_, fun d ty xs hx => by simp [start, look] at hx, fun d len g hl => by simp [start, look] at hl, fun d d' b hd => by simp at hd, fun d b hd => by simp at hd, hpr, fun k o h => by cases h⟩
    · simp [start]; omega
    · have hx' := look_zip args 0 t (x := x) (by simpa [start] using hx)
      obtain ⟨u, k1, k2⟩ := hargs.at_ (i := t) (by simpa using hx'.2)
      have : (cs.toArray ++ Array.replicate (fn.ntmps - cs.toArray.size) undef).getD t undef = u := by
        have hlt : t < cs.length := (List.getElem?_eq_some_iff.1 k1).1
        have hg : cs[t] = u := (List.getElem?_eq_some_iff.1 k1).2
        have h2 : t < (cs.toArray ++ Array.replicate (fn.ntmps - cs.toArray.size) undef).size := by simp; omega
        rw [Array.getD, dif_pos h2]
        simp [Array.getElem_append, hlt, hg]
      simp only [start]
      rw [this]
      exact AVR.nil_of_V k2
  -- behind the body
  have fin : ∀ (s1 : St) (l' : List Prop) (γ' : Gh) (a' : Act) (w' : World), (resVals P s1 fn.results.toList).bind (resOf s1) = some (r, l') → (∀ p ∈ l', p) → GExt { base := w.heap.size, pr := pr, blk := fun _ => none } γ' → Rel γ' w s1 a' w' →
      a'.defers = [] ∧ ∃ v, (results fn a'.tmps).run P w' = .ok v w' ∧ ∃ c pr', Ending.returned v = .returned c ∧ Below w.heap.size w w' ∧ (∀ b i, pr' b i → b < w'.heap.size) ∧ (∀ b i, b < w.heap.size → pr' b i → pr b i) ∧ V pr' w' c r.v ∧ ∀ e, r.own = some e → OwnRes w.heap.size pr' w' e c r.v := by
    intro s1 l' γ' a' w' hres hown hg hr
    refine ⟨hr.defers, ?_⟩
    simp only [Option.bind_eq_some_iff] at hres
    obtain ⟨xs, hxs, hres⟩ := hres
    obtain ⟨vs, k1, k2⟩ := results_run (P := P) hr fn.results.toList hxs
    have hbase : γ'.base = w.heap.size := hg.base
    have hrun2 : (results fn a'.tmps).run P w' = .ok (if h : vs.toArray.size = 1 then vs.toArray[0] else .tuple vs.toArray) w' := by
      have hm : fn.results.mapM (fun r : ResultVar => match r with | .tmp t => (pure (a'.tmps.getD t undef) : Sem Value) | .cell b t => do loadVar t (← asAddr (a'.tmps.getD b undef))) =
          Functor.map List.toArray (fn.results.toList.mapM (fun r : ResultVar => match r with | .tmp t => (pure (a'.tmps.getD t undef) : Sem Value) | .cell b t => do loadVar t (← asAddr (a'.tmps.getD b undef)))) := Array.mapM_eq_mapM_toList ..
      have hm2 : (fn.results.mapM (fun r : ResultVar => match r with | .tmp t => (pure (a'.tmps.getD t undef) : Sem Value) | .cell b t => do loadVar t (← asAddr (a'.tmps.getD b undef)))).run P w' = .ok vs.toArray w' := by
        rw [hm, map_eq_pure_bind]
        simp only [Sem.run_bind, k2, Result.andThen_ok, Sem.run_pure]
      unfold results
      simp only [Sem.run_bind]
      refine Eq.trans (congrArg (fun r => Result.andThen r _) hm2) ?_
      simp only [Result.andThen_ok, Sem.run_pure]
    rw [hrun2]
    refine ⟨_, rfl, _, γ'.pr, rfl, by rw [← hbase]; exact hr.below, hr.plt, fun b i hb hp => hg.old b i hb hp, ?_⟩
    have one : ∀ (x : AV) (v : Value), AVR γ' s1.lens w' v x → ∀ e p, ownOf s1 x = some (e, p) → p → OwnRow w.heap.size γ'.pr w' e v (plain1 x) := fun x v h1 e p he hp => by
      have := own_row hr h1 he hp
      rw [hbase] at this; exact this
    unfold resOf at hres
    split at hres
    · rename_i x
      simp only [AVRs] at k1
      obtain ⟨v, vs', rfl, h1, rfl⟩ := k1
      have e2 : ∀ e, OwnRow w.heap.size γ'.pr w' e v (plain1 x) → OwnRes w.heap.size γ'.pr w' e v (plain1 x) := fun e => by
        cases x <;> exact fun h => h
      split at hres
      · rename_i e p ho
        cases hres
        refine ⟨by simpa using h1.plain1', fun e he => ?_⟩
        cases he
        simpa using e2 _ (one x v h1 e p ho (hown p (by simp)))
      · cases hres
        exact ⟨by simpa using h1.plain1', fun e he => by cases he⟩
    · cases hres
      simp only [AVRs] at k1
      subst k1
      exact ⟨by simp [V, VL], fun e he => by cases he⟩
    · rename_i x y l
      have hpl := k1.plain
      have hsz : vs.length = l.length + 2 := by rw [hpl.length]; simp
      have hne : ¬ vs.toArray.size = 1 := by simp; omega
      rw [dif_neg hne]
      split at hres
      · rename_i e p ho
        cases hres
        refine ⟨⟨vs, rfl, hpl⟩, fun e he c0 cs0 hc => ?_⟩
        cases he
        simp only [AVRs] at k1
        obtain ⟨v, vs', rfl, h1, _⟩ := k1
        have hc' : v = c0 := by
          injection hc with hc
          have := congrArg Array.toList hc
          simp at this; exact this.1
        subst hc'
        exact one x v h1 e p ho (hown p (by simp))
      · cases hres
        exact ⟨⟨vs, rfl, hpl⟩, fun e he => by cases he⟩
  refine wp_mono (J hrel) fun e a' w' hp => ?_
  obtain ⟨out, hq, hp⟩ := hp
  obtain ⟨s1, l', hout, hres, hown⟩ := hQ out hq
  cases e with
  | normal =>
    obtain ⟨s2, γ2, e2, hg, hr⟩ := hp
    have : s2 = s1 := by rcases hout with h | h <;> rw [h] at e2 <;> cases e2; rfl
    subst this
    exact fin s2 l' γ2 a' w' hres hown hg hr
  | ret =>
    obtain ⟨s2, γ2, e2, hg, hr⟩ := hp
    have : s2 = s1 := by rcases hout with h | h <;> rw [h] at e2 <;> cases e2; rfl
    subst this
    exact fin s2 l' γ2 a' w' hres hown hg hr
  | exit id => obtain ⟨s2, γ2, e2, hg, hr⟩ := hp; rcases hout with h | h <;> rw [h] at e2 <;> cases e2
  | _ => exact hp.elim

theorem body_sound {f : Nat} {fn : Func} {args : List AV} {r : Res} {log : List Prop} (hf : P.funcs[f]? = some fn) (hname : (fn.name == "runtime.NumGoroutine") = false) (h : runBody P call live fuel fn args = some (r, log)) (hlog : ∀ p ∈ log, p) : Ok P f args r := by
  unfold runBody at h
  split at h
  case h_2 => cases h
  rename_i c hb
  have main : ∀ (out : Out) (s1 : St), runCode P call live fuel c (start args fn.ntmps) = some out → (out = .go s1 ∨ out = .ret s1) → args.length ≤ fn.ntmps → ((resVals P s1 fn.results.toList).bind (resOf s1)).map (fun r => (r.1, r.2 ++ s1.log)) = some (r, log) → Ok P f args r := by
    intro out s1 hrun hout hle hres
    simp only [Option.map_eq_some_iff, Prod.mk.injEq] at hres
    obtain ⟨⟨r', l'⟩, hres, er, el⟩ := hres
    simp only at er el
    rw [er] at hres
    have hown : ∀ p ∈ l', p := fun p hp => hlog p (by rw [← el]; simp [hp])
    have hlog2 : ∀ p ∈ s1.log, p := fun p hp => hlog p (by rw [← el]; simp [hp])
    have hlog' : ∀ p ∈ out.st.log, p := by rcases hout with h | h <;> (subst h; exact hlog2)
    exact body_judg (Q := (· = out)) hf hname hb hle (fun hrel => wp_mono (code_sound hmix c hrun hlog' hrel) fun e a' w' hp => ⟨out, rfl, hp⟩) fun o ho => ⟨s1, l', by rw [ho]; exact hout, hres, hown⟩
  split at h
  · rename_i s1 hle hrun
    exact main _ s1 hrun (.inl rfl) (by simpa [Nat.ble_eq] using hle) h
  · rename_i s1 hle hrun
    exact main _ s1 hrun (.inr rfl) (by simpa [Nat.ble_eq] using hle) h
  · cases h
end

end Go.Proofs.Ytlekojbcaelpiaa

/- Which temporaries are alive at the heads of the loops (printed by live.py). -/
namespace Go.Proofs.Ytlekojbcaelpiaa
def liveOf (f r : Nat) : Option (List Nat × List Nat) := match f, r with
  | 3, 5 => some ([9, 11, 12], [9, 14, 26])
  | 4, 14 => some ([19, 20], [117])
  | 5, 3 => some ([1, 2, 3, 9, 10], [23])
  | 5, 14 => some ([12, 13, 14, 15, 16, 17, 18, 19], [73, 78, 83, 110])
  | 6, 7 => some ([2, 3, 4, 11, 12, 13, 14, 15, 16], [11, 13, 14, 15, 21, 27, 29])
  | 6, 14 => some ([2, 3, 11, 13, 18, 19], [11, 13, 21, 29, 92])
  | 7, 14 => some ([9, 19, 20, 21], [9, 25, 91, 119])
  | 9, 21 => some ([2, 3, 6, 8], [3, 6, 9, 14])
  | 12, 4 => some ([1, 3], [1])
  | 12, 9 => some ([1, 4], [1])
  | 13, 4 => some ([0, 1, 5], [])
  | 14, 8 => some ([1, 3, 4, 14, 15, 16], [1, 28])
  | 21, 6 => some ([1, 3, 4, 5], [1, 13, 45])
  | 22, 13 => some ([2, 6, 11, 12, 14, 15], [2, 14, 18, 48, 113])
  | 25, 3 => some ([0, 3, 4], [29])
  | 26, 4 => some ([4, 5, 12, 13, 14], [41])
  | 26, 14 => some ([5, 8, 45, 46, 47], [41, 59])
  | 27, 3 => some ([0, 3, 4], [18])
  | 28, 3 => some ([0, 4, 5], [])
  | 28, 7 => some ([0, 4, 5, 6], [64, 75])
  | 28, 15 => some ([4, 8, 9], [64, 75, 108])
  | 28, 19 => some ([4, 8, 9, 10, 11], [64, 75, 108])
  | 29, 4 => some ([0, 1, 5], [])
  | 30, 4 => some ([0, 1, 5], [])
  | 31, 3 => some ([0, 2, 3, 4], [2, 3, 40])
  | 40, 2 => some ([1, 7, 8, 9], [])
  | 41, 2 => some ([1, 7, 8, 9], [])
  | 43, 3 => some ([3, 9, 10, 11], [8])
  | 44, 3 => some ([0, 2, 4, 11], [2, 4, 79])
  | 46, 3 => some ([0, 3, 4], [7])
  | 47, 6 => some ([0, 5, 6, 8, 9], [15, 41])
  | 53, 2 => some ([1, 7, 8, 9], [])
  | 57, 4 => some ([0, 1, 12, 13], [])
  | 59, 4 => some ([0, 1, 5], [])
  | 60, 5 => some ([3, 4, 5], [])
  | 60, 10 => some ([3, 4, 6, 7], [29])
  | 61, 7 => some ([6, 8, 9, 25, 26], [15, 24, 40])
  | 64, 5 => some ([0, 3, 4], [21])
  | 64, 14 => some ([0, 4, 6, 7], [21, 33, 39, 57])
  | 66, 13 => some ([0, 5, 6, 7, 8], [])
  | 67, 2 => some ([0, 1, 2, 3, 4, 10, 11], [])
  | 70, 4 => some ([0, 1, 12, 13], [])
  | 75, 1 => some ([0, 1, 2, 4], [])
  | 76, 1 => some ([0, 1, 2, 3, 8], [])
  | 76, 4 => some ([0, 1, 2, 3, 8, 9], [])
  | 77, 4 => some ([0, 3, 8, 9, 10, 11], [])
  | 77, 8 => some ([0, 3, 8, 9, 12], [])
  | 78, 5 => some ([0, 1, 8, 9, 10, 11], [9, 21])
  | 80, 2 => some ([0, 8, 9], [])
  | 81, 3 => some ([0, 1, 2, 3, 9, 10], [])
  | 81, 5 => some ([0, 1, 2, 3, 9, 10], [])
  | 81, 14 => some ([0, 1, 2, 3, 9, 10, 11], [])
  | 81, 20 => some ([0, 1, 2, 3, 9, 10, 12], [])
  | 82, 3 => some ([0, 1, 4, 11, 12], [])
  | 82, 5 => some ([0, 1, 4, 11, 12], [])
  | 83, 3 => some ([0, 1, 4, 12, 13], [])
  | 83, 5 => some ([0, 1, 4, 12, 13], [])
  | 83, 13 => some ([0, 1, 4, 12, 13], [])
  | 83, 15 => some ([0, 1, 4, 12, 13], [])
  | 87, 3 => some ([3, 6, 7, 8], [])
  | 88, 15 => some ([5, 6, 7, 46, 47, 48], [])
  | 90, 1 => some ([0, 2, 3, 4, 10], [])
  | 95, 2 => some ([0, 1, 2, 3, 16, 17], [])
  | _, _ => none
end Go.Proofs.Ytlekojbcaelpiaa

/- Tables of contracts; plain data as abstract values; words for the interpreter's runs. -/
namespace Go.Proofs.Ytlekojbcaelpiaa
open Go.RowKit

theorem names_all : Try.prog.funcs.all (fun fn => !(fn.name == "runtime.NumGoroutine")) = true := by kernel_rfl
theorem names_ok (f : Nat) (fn : Func) (h : Try.prog.funcs[f]? = some fn) : (fn.name == "runtime.NumGoroutine") = false := by
  have := Array.all_eq_true_iff_forall_mem.1 names_all fn (Array.mem_of_getElem? h)
  simpa using this
theorem mixed_ok : Try.prog.follows .mixedOrders = true := by kernel_rfl

theorem Ok.run {f : Nat} {fn : Func} (call : Orc) (fuel : Nat) {args : List AV} {r : Res} {log : List Prop} (hf : Try.prog.funcs[f]? = some fn)
    (h : runBody Try.prog call (liveOf f) fuel fn args = some (r, log)) (hlog : ∀ p ∈ log, p) : Ok Try.prog f args r :=
  body_sound mixed_ok hf (names_ok f fn hf) h hlog
theorem all1 {p : Prop} (h : p) : ∀ q ∈ [p], q := fun q hq => by rw [List.mem_singleton.1 hq]; exact h
theorem allnil : ∀ q ∈ ([] : List Prop), q := fun q hq => by cases hq
theorem allc {p : Prop} {l : List Prop} (h : p) (k : ∀ q ∈ l, q) : ∀ q ∈ p :: l, q := fun q hq => by
  rcases List.mem_cons.1 hq with e | hq
  · rw [e]; exact h
  · exact k q hq
theorem Ok.weaken {f : Nat} {args args' : List AV} {r : Res} (h : Ok Try.prog f args' r) (hw : ∀ pr w cs, VL pr w cs args → VL pr w cs args') : Ok Try.prog f args r :=
  ⟨h.1, fun w pr cs hp hv => h.2 w pr cs hp (hw pr w cs hv)⟩

/-- plain data as abstract values -/
def iA (n : Int) : AV := .sc (.int .i64 n)
def uA (n : Int) : AV := .sc (.int .u8 n)
def bA (b : Bool) : AV := .sc (.bool b)
def evA (l : List Ev) : List AV := l.flatMap fun e => [iA e.p, iA e.k, iA e.n]
def rowI (l : List Int) : AV := .row none 1 l.length (l.map iA)
def rowU (l : List Int) : AV := .row none 1 l.length (l.map uA)
def rowE (l : List Ev) : AV := .row none 3 l.length (evA l)
def rpA (r : Rp) : AV := .agg [iA r.id, iA r.ver, rowI r.args, rowE r.events, bA r.cut, iA r.en]
def outA (es : List Ev) (en : Int) : AV := .agg [rowE es, iA en]
abbrev plainR (x : AV) : Res := { v := x, own := none }

/-- decoders -/
def deI : List AV → Option (List Int)
  | [] => some []
  | .sc (.int .i64 n) :: xs => (deI xs).map (n :: ·)
  | _ => none
def deU : List AV → Option (List Int)
  | [] => some []
  | .sc (.int .u8 n) :: xs => (deU xs).map (n :: ·)
  | _ => none
def deE : List AV → Option (List Ev)
  | [] => some []
  | .sc (.int .i64 p) :: .sc (.int .i64 k) :: .sc (.int .i64 n) :: xs => (deE xs).map (⟨p, k, n⟩ :: ·)
  | _ => none
def dRow {α : Type} (size : Nat) (de : List AV → Option (List α)) (x : AV) : Option (List α) := match rowOf size x with
  | some (n, xs) => (de xs).bind fun l => match Nat.beq l.length n with | true => some l | false => none
  | none => none
def dI := dRow 1 deI
def dU := dRow 1 deU
def dE := dRow 3 deE
def scOf : Value → AV := .sc
def dAgg : AV → Option (List AV)
  | .sc (.agg cs) => some (cs.toList.map .sc)
  | .agg xs => some xs
  | _ => none
def dInt : AV → Option Int
  | .sc (.int .i64 n) => some n
  | _ => none
def dBool : AV → Option Bool
  | .sc (.bool b) => some b
  | _ => none
def dRp (x : AV) : Option Rp := match dAgg x with
  | some [a, b, c, d, e, f] => match dInt a, dInt b, dI c, dE d, dBool e, dInt f with
    | some id, some ver, some args, some events, some cut, some en => some { id, ver, args, events, cut, en }
    | _, _, _, _, _, _ => none
  | _ => none
def dOut (x : AV) : Option (List Ev × Int) := match dAgg x with
  | some [a, b] => match dE a, dInt b with
    | some es, some en => some (es, en)
    | _, _ => none
  | _ => none

theorem deI_spec : ∀ {xs : List AV} {l : List Int}, deI xs = some l → xs = l.map iA
  | [], l, h => by simp [deI] at h; subst h; rfl
  | x :: xs, l, h => by
    unfold deI at h
    split at h
    · rename_i h'; cases h'
    · rename_i n ys h'
      cases h'
      simp only [Option.map_eq_some_iff] at h
      obtain ⟨l', h, rfl⟩ := h
      rw [deI_spec h]; rfl
    · cases h
theorem deU_spec : ∀ {xs : List AV} {l : List Int}, deU xs = some l → xs = l.map uA
  | [], l, h => by simp [deU] at h; subst h; rfl
  | x :: xs, l, h => by
    unfold deU at h
    split at h
    · rename_i h'; cases h'
    · rename_i n ys h'
      cases h'
      simp only [Option.map_eq_some_iff] at h
      obtain ⟨l', h, rfl⟩ := h
      rw [deU_spec h]; rfl
    · cases h
theorem deE_spec {xs : List AV} {l : List Ev} (h : deE xs = some l) : xs = evA l := by
  induction xs using deE.induct generalizing l with
  | case1 => simp [deE] at h; subst h; rfl
  | case2 p k n xs ih =>
    simp only [deE, Option.map_eq_some_iff] at h
    obtain ⟨l', h, rfl⟩ := h
    rw [ih h]; rfl
  | case3 => simp_all [deE]
theorem deI_map (l : List Int) : deI (l.map iA) = some l := by
  induction l with
  | nil => rfl
  | cons a l ih => simp only [List.map_cons]; rw [show iA a = .sc (.int .i64 a) from rfl]; simp [deI, ih]
theorem deU_map (l : List Int) : deU (l.map uA) = some l := by
  induction l with
  | nil => rfl
  | cons a l ih => simp only [List.map_cons]; rw [show uA a = .sc (.int .u8 a) from rfl]; simp [deU, ih]
theorem deE_evA (l : List Ev) : deE (evA l) = some l := by
  induction l with
  | nil => rfl
  | cons a l ih =>
    have : evA (a :: l) = iA a.p :: iA a.k :: iA a.n :: evA l := by simp [evA]
    rw [this]; simp [iA, deE, ih]
theorem dI_row (t : Option (Nat × Nat)) (l : List Int) : dI (.row t 1 l.length (l.map iA)) = some l := by simp [dI, dRow, rowOf, deI_map]
theorem dU_row (t : Option (Nat × Nat)) (l : List Int) : dU (.row t 1 l.length (l.map uA)) = some l := by simp [dU, dRow, rowOf, deU_map]
theorem dE_row (t : Option (Nat × Nat)) (l : List Ev) : dE (.row t 3 l.length (evA l)) = some l := by simp [dE, dRow, rowOf, deE_evA]
theorem dI_nil : dI (.sc (.slice none 0 0)) = some [] := rfl
theorem dE_nil : dE (.sc (.slice none 0 0)) = some [] := rfl
theorem dU_nil : dU (.sc (.slice none 0 0)) = some [] := rfl
theorem dI_rowI (l : List Int) : dI (rowI l) = some l := dI_row none l
theorem dU_rowU (l : List Int) : dU (rowU l) = some l := dU_row none l
theorem dE_rowE (l : List Ev) : dE (rowE l) = some l := dE_row none l

section
variable {pr : Nat → Nat → Prop} {w : World} {c : Value}
theorem rowOf_V' {size n : Nat} {xs : List AV} : ∀ {x : AV}, rowOf size x = some (n, xs) → V pr w c x → V pr w c (.row none size n xs)
  | .tup _, h, _ => by simp [rowOf] at h
  | .ptr _ _, h, _ => by simp [rowOf] at h
  | .undef, h, v => rowOf_V h v
  | .sc _, h, v => rowOf_V h v
  | .row .., h, v => rowOf_V h (V_plain v)
  | .mt, h, v => rowOf_V h v
  | .agg _, h, v => rowOf_V h v
  | .rptr _, h, v => rowOf_V h v
theorem dRow_V {α : Type} {size : Nat} {de : List AV → Option (List α)} {x : AV} {l : List α} {g : List α → List AV} (hg : ∀ xs l, de xs = some l → xs = g l) (h : dRow size de x = some l) (hv : V pr w c x) : V pr w c (.row none size l.length (g l)) := by
  unfold dRow at h
  split at h
  case h_2 => cases h
  rename_i n xs hr
  simp only [Option.bind_eq_some_iff] at h
  obtain ⟨l', h1, h2⟩ := h
  split at h2
  · rename_i hb
    cases h2
    have := Nat.eq_of_beq_eq_true hb
    subst this
    rw [← hg xs l h1]; exact rowOf_V' hr hv
  · cases h2
theorem dI_V {x : AV} {l : List Int} (h : dI x = some l) (hv : V pr w c x) : V pr w c (rowI l) := dRow_V (fun xs l h => deI_spec h) h hv
theorem dU_V {x : AV} {l : List Int} (h : dU x = some l) (hv : V pr w c x) : V pr w c (rowU l) := dRow_V (fun xs l h => deU_spec h) h hv
theorem dE_V {x : AV} {l : List Ev} (h : dE x = some l) (hv : V pr w c x) : V pr w c (rowE l) := dRow_V (fun xs l h => deE_spec h) h hv
theorem dInt_V {x : AV} {n : Int} (h : dInt x = some n) (hv : V pr w c x) : V pr w c (iA n) := by
  unfold dInt at h; split at h <;> cases h; exact hv
theorem dBool_V {x : AV} {n : Bool} (h : dBool x = some n) (hv : V pr w c x) : V pr w c (bA n) := by
  unfold dBool at h; split at h <;> cases h; exact hv
end
end Go.Proofs.Ytlekojbcaelpiaa

/- Judgements: pieces of code one after the other, loops. -/
namespace Go.Proofs.Ytlekojbcaelpiaa
open Go.RowKit

def Judg (c : Code) (s : St) (Q : Out → Prop) : Prop := ∀ (γ : Gh) (w0 : World) (a : Act) (w : World), Rel γ w0 s a w → c.wp Try.prog (fun e a' w' => ∃ out, Q out ∧ PostOf γ w0 out e a' w') a w
def stOf : Option Out → St
  | some (.go s) => s
  | some (.exit _ s) => s
  | some (.ret s) => s
  | none => { n := 0, slots := [], objs := [], lens := [] }
def clean (L N : List Nat) (s : St) : St := { s.mask L N with log := [] }

theorem PostOf.trans {γ γ' : Gh} {w0 : World} {out : Out} {e : Exit} {a : Act} {w : World} (h : GExt γ γ') (k : PostOf γ' w0 out e a w) : PostOf γ w0 out e a w := by
  cases e with
  | normal => obtain ⟨s, γ2, q1, q2, q3⟩ := k; exact ⟨s, γ2, q1, h.trans q2, q3⟩
  | exit id => obtain ⟨s, γ2, q1, q2, q3⟩ := k; exact ⟨s, γ2, q1, h.trans q2, q3⟩
  | ret => obtain ⟨s, γ2, q1, q2, q3⟩ := k; exact ⟨s, γ2, q1, h.trans q2, q3⟩
  | _ => exact k
theorem Judg.mono {c : Code} {s : St} {Q Q' : Out → Prop} (h : Judg c s Q) (hq : ∀ o, Q o → Q' o) : Judg c s Q' := fun _ _ _ _ hr => wp_mono (h _ _ _ _ hr) fun _ _ _ ⟨o, q, p⟩ => ⟨o, hq o q, p⟩
/-- a piece of code is run -/
theorem Judg.run (call : Orc) (live : Nat → Option (List Nat × List Nat)) (fuel : Nat) {c : Code} {s : St} {Q : Out → Prop} {o : Out} (h : runCode Try.prog call live fuel c s = some o) (hl : ∀ p ∈ o.st.log, p) (hq : Q o) : Judg c s Q := fun _ _ _ _ hr =>
  wp_mono (code_sound mixed_ok c h hl hr) fun _ _ _ hp => ⟨o, hq, hp⟩
/-- only what is alive counts -/
theorem Judg.clean {L N : List Nat} {c : Code} {s t : St} {Q : Out → Prop} (h : clean L N s = t) (k : Judg c t Q) : Judg c s Q := fun _ _ _ _ hr => by
  subst h
  exact k _ _ _ _ ((hr.mask L N).withLog [])
theorem Judg.seq {x y : Code} {s : St} {Q : Out → Prop} (h : Judg x s fun o => match o with | .go s' => Judg y s' Q | o => Q o) : Judg (.seq x y) s Q := fun γ w0 a w hr =>
  wp_seq (wp_mono (h _ _ _ _ hr) fun e a' w' ⟨o, q, p⟩ => by
    cases e with
    | normal =>
      obtain ⟨s', γ', e', hg, hr'⟩ := p
      subst e'
      exact wp_mono (q _ _ _ _ hr') fun e a w ⟨o, q, p⟩ => ⟨o, q, p.trans hg⟩
    | exit i => obtain ⟨s', γ', e', hg, hr'⟩ := id p; subst e'; exact ⟨_, q, p⟩
    | ret => obtain ⟨s', γ', e', hg, hr'⟩ := id p; subst e'; exact ⟨_, q, p⟩
    | _ => exact p.elim)
theorem Judg.block {id : Nat} {c : Code} {s : St} {Q : Out → Prop} (h : Judg c s fun o => match o with | .exit id' s' => if id' = id then Q (.go s') else Q o | o => Q o) : Judg (.block id c) s Q := fun γ w0 a w hr =>
  wp_block (wp_mono (h _ _ _ _ hr) fun e a' w' ⟨o, q, p⟩ => by
    cases e with
    | normal => obtain ⟨s', γ', e', hg, hr'⟩ := (show PostOf γ w0 o .normal a' w' from p); subst e'; exact ⟨_, q, p⟩
    | ret => obtain ⟨s', γ', e', hg, hr'⟩ := (show PostOf γ w0 o .ret a' w' from p); subst e'; exact ⟨_, q, p⟩
    | exit id' =>
      obtain ⟨s', γ', e', hg, hr'⟩ := (show PostOf γ w0 o (.exit id') a' w' from p)
      subst e'
      simp only [Exit.inBlock]
      by_cases hid : id' = id
      · rw [if_pos hid]
        simp only [hid, if_true] at q
        exact ⟨_, q, s', γ', rfl, hg, hr'⟩
      · rw [if_neg hid]
        simp only [hid, if_false] at q
        exact ⟨_, q, p⟩
    | _ => exact p.elim)
theorem Judg.cond_true {c : Operand} {x y : Code} {s : St} {Q : Out → Prop} (hc : s.eval c = .sc (.bool true)) (h : Judg x s Q) : Judg (.cond c x y) s Q := fun _ _ _ _ hr => wp_cond_true (ev_sc hr.eval hc) (h _ _ _ _ hr)
theorem Judg.cond_false {c : Operand} {x y : Code} {s : St} {Q : Out → Prop} (hc : s.eval c = .sc (.bool false)) (h : Judg y s Q) : Judg (.cond c x y) s Q := fun _ _ _ _ hr => wp_cond_false (ev_sc hr.eval hc) (h _ _ _ _ hr)
open Classical in
theorem Judg.loop {c : Code} {s : St} {Q : Out → Prop} (Inv : Nat → St → Prop) {n : Nat} (h0 : Inv n s)
    (step : ∀ n s, Inv n s → Judg c s fun o => match o with | .go s' => ∃ m, m < n ∧ Inv m s' | o => Q o) : Judg (.loop c) s Q := fun γ w0 a w hr => by
  let Pr : Nat → Act → World → Prop := fun k a w => ∃ γ' s', GExt γ γ' ∧ Rel γ' w0 s' a w ∧ Inv k s'
  refine wp_loop (fun a w => ∃ k, Pr k a w) (fun a w => if h : ∃ k, Pr k a w then (least h).choose else 0) ⟨n, γ, s, GExt.refl γ, hr, h0⟩ ?_
  intro a w hI
  have hk := (least hI).choose_spec.1
  generalize hke : (least hI).choose = k at hk
  have hμ : (if h : ∃ k, Pr k a w then (least h).choose else 0) = k := by rw [dif_pos hI]; exact hke
  rw [hμ]
  obtain ⟨γ', s', hg, hr', hi⟩ := hk
  refine wp_mono (step k s' hi _ _ _ _ hr') fun e a' w' ⟨o, q, p⟩ => ?_
  cases e with
  | normal =>
    obtain ⟨s2, γ2, e2, hg2, hr2⟩ := p
    subst e2
    obtain ⟨m, hm, hi2⟩ := q
    have hP : Pr m a' w' := ⟨γ2, s2, hg.trans hg2, hr2, hi2⟩
    refine ⟨⟨m, hP⟩, ?_⟩
    have hex : ∃ k, Pr k a' w' := ⟨m, hP⟩
    show (if h : ∃ k, Pr k a' w' then (least h).choose else 0) < k
    rw [dif_pos hex]
    exact Nat.lt_of_le_of_lt ((least hex).choose_spec.2 m hP) hm
  | exit i => obtain ⟨s3, γ3, e3, hg3, hr3⟩ := id p; subst e3; exact ⟨_, q, p.trans hg⟩
  | ret => obtain ⟨s3, γ3, e3, hg3, hr3⟩ := id p; subst e3; exact ⟨_, q, p.trans hg⟩
  | _ => exact p.elim

def pre : Nat → Code → Code
  | n + 1, .seq a b => .seq a (pre n b)
  | _, _ => .skip
def post : Nat → Code → Code
  | n + 1, .seq _ b => post n b
  | _, c => c
/-- the first n pieces are run -/
theorem Judg.pre (call : Orc) (live : Nat → Option (List Nat × List Nat)) (fuel : Nat) {Q : Out → Prop} : ∀ (n : Nat) {c : Code} {s s' : St}, runCode Try.prog call live fuel (pre n c) s = some (.go s') → (∀ p ∈ s'.log, p) → Judg (post n c) s' Q → Judg c s Q
  | 0, c, s, s', h, _, k => by
    have e : Ytlekojbcaelpiaa.pre 0 c = .skip := by cases c <;> rfl
    have e2 : Ytlekojbcaelpiaa.post 0 c = c := by cases c <;> rfl
    rw [e] at h
    simp only [runCode, Option.some.injEq, Out.go.injEq] at h
    subst h; rw [e2] at k; exact k
  | n + 1, c, s, s', h, hl, k => by
    cases c with
    | seq a b =>
      simp only [Ytlekojbcaelpiaa.pre, runCode] at h
      simp only [Ytlekojbcaelpiaa.post] at k
      cases ha : runCode Try.prog call live fuel a s with
      | none => rw [ha] at h; simp at h
      | some o =>
        rw [ha] at h
        cases o with
        | go s1 =>
          simp only at h
          exact Judg.seq (Judg.run call live fuel ha (fun p hp => hl p (code_log _ h p hp)) (Judg.pre call live fuel n h hl k))
        | exit id s1 => simp at h
        | ret s1 => simp at h
    | _ =>
      simp only [Ytlekojbcaelpiaa.pre, runCode, Option.some.injEq, Out.go.injEq] at h
      subst h; simp only [Ytlekojbcaelpiaa.post] at k; exact k
/-- the parts of '(start ; loop in a block) ; rest' -/
def fR : Code → Code | .seq (.seq r _) _ => r | _ => .skip
def fI : Code → Nat | .seq (.seq _ (.block id _)) _ => id | _ => 0
def fB : Code → Code | .seq (.seq _ (.block _ (.loop b))) _ => b | _ => .skip
def fK : Code → Code | .seq _ k => k | _ => .skip
def endOf (id : Nat) (rest : Code) (Q : Out → Prop) (again : St → Prop) : Out → Prop
  | .go s' => again s'
  | .exit id' s' => if id' = id then Judg rest s' Q else Q (.exit id' s')
  | .ret s' => Q (.ret s')
/-- A loop: its states at the head are named by indices. -/
theorem Judg.for_ {ι : Type} (L N : List Nat) (st : ι → St) (μ : ι → Nat) (Pi : ι → Prop) {c : Code} (hc : c = .seq (.seq (fR c) (.block (fI c) (.loop (fB c)))) (fK c)) {s s1 : St} {Q : Out → Prop}
    (call : Orc) (live : Nat → Option (List Nat × List Nat)) (hr : runCode Try.prog call live 0 (fR c) s = some (.go s1)) (hl : ∀ p ∈ s1.log, p) (i0 : ι) (h0 : Pi i0) (hs0 : Ytlekojbcaelpiaa.clean L N s1 = st i0)
    (step : ∀ i, Pi i → Judg (fB c) (st i) (endOf (fI c) (fK c) Q fun s' => ∃ j, Pi j ∧ μ j < μ i ∧ Ytlekojbcaelpiaa.clean L N s' = st j)) : Judg c s Q := by
  rw [hc]
  refine Judg.seq (Judg.seq (Judg.run call live 0 hr hl (Judg.block (Judg.loop (fun n s => ∃ i, Pi i ∧ n = μ i ∧ Ytlekojbcaelpiaa.clean L N s = st i) ⟨i0, h0, rfl, hs0⟩ ?_))))
  rintro n s' ⟨i, hi, rfl, hs⟩
  refine (Judg.clean hs (step i hi)).mono fun o ho => ?_
  cases o with
  | go s2 =>
    obtain ⟨j, h1, h2, h3⟩ := ho
    exact ⟨μ j, h2, j, h1, rfl, h3⟩
  | exit id' s2 =>
    simp only [endOf] at ho ⊢
    split
    · rename_i e; rw [if_pos e] at ho; exact ho
    · rename_i e; rw [if_neg e] at ho; exact ho
  | ret s2 => exact ho
/-- the loop that stands in a block, and what comes behind it -/
def blk1 : Code → Code
  | .seq (.block _ c) _ => c
  | .block _ c => c
  | _ => .skip
def loop1 : Code → Code
  | .loop c => c
  | _ => .skip
theorem Judg.blockSeq {id : Nat} {c d : Code} {s : St} {Q : Out → Prop} (h : Judg c s fun o => match o with | .exit id' s' => if id' = id then Judg d s' Q else Q o | .go s' => Judg d s' Q | o => Q o) : Judg (.seq (.block id c) d) s Q :=
  Judg.seq (Judg.block (h.mono fun o ho => by
    cases o with
    | exit id' s' =>
      simp only at ho ⊢
      split
      · rename_i e; rw [if_pos e] at ho; exact ho
      · rename_i e; rw [if_neg e] at ho; exact ho
    | go s' => exact ho
    | ret s' => exact ho))

/-- the function's answer, from a judgement on its body -/
theorem Ok.judg {f : Nat} {fn : Func} {c : Code} {args : List AV} {r : Res} (hf : Try.prog.funcs[f]? = some fn) (hb : fn.body = some c) (hle : args.length ≤ fn.ntmps)
    (J : Judg c (start args fn.ntmps) fun out => ∃ s1 l, (out = .go s1 ∨ out = .ret s1) ∧ (resVals Try.prog s1 fn.results.toList).bind (resOf s1) = some (r, l) ∧ ∀ p ∈ l, p) : Ok Try.prog f args r :=
  body_judg (Q := fun out => ∃ s1 l, (out = .go s1 ∨ out = .ret s1) ∧ (resVals Try.prog s1 fn.results.toList).bind (resOf s1) = some (r, l) ∧ ∀ p ∈ l, p) hf (names_ok f fn hf) hb hle (fun hr => J _ _ _ _ hr) fun _ h => h
def bodyOf (fn : Func) : Code := match fn.body with | some c => c | none => .skip

/-- what hints claim -/
theorem hLss (t : TypeId) (x y : Operand) (a b : Int) (v : Bool) (h : decide (a < b) = v) : (peek Try.prog (do eqGuard .lss t x y (.int .i64 a) (.int .i64 b); binOp .lss t (.int .i64 a) (.int .i64 b))).map (fun v => Cmd.val (.sc v)) = some (.val (bA v)) := by
  subst h; rfl
theorem hLeq (t : TypeId) (x y : Operand) (a b : Int) (v : Bool) (h : decide (a ≤ b) = v) : (peek Try.prog (do eqGuard .leq t x y (.int .i64 a) (.int .i64 b); binOp .leq t (.int .i64 a) (.int .i64 b))).map (fun v => Cmd.val (.sc v)) = some (.val (bA v)) := by
  subst h; rfl
theorem hGtr (t : TypeId) (x y : Operand) (a b : Int) (v : Bool) (h : decide (a > b) = v) : (peek Try.prog (do eqGuard .gtr t x y (.int .i64 a) (.int .i64 b); binOp .gtr t (.int .i64 a) (.int .i64 b))).map (fun v => Cmd.val (.sc v)) = some (.val (bA v)) := by
  subst h; rfl
theorem hGeq (t : TypeId) (x y : Operand) (a b : Int) (v : Bool) (h : decide (a ≥ b) = v) : (peek Try.prog (do eqGuard .geq t x y (.int .i64 a) (.int .i64 b); binOp .geq t (.int .i64 a) (.int .i64 b))).map (fun v => Cmd.val (.sc v)) = some (.val (bA v)) := by
  subst h; rfl
theorem hEql (t : TypeId) (x y : Operand) (a b : Int) (v : Bool) (h : (a == b) = v) : (peek Try.prog (do eqGuard .eql t x y (.int .i64 a) (.int .i64 b); binOp .eql t (.int .i64 a) (.int .i64 b))).map (fun v => Cmd.val (.sc v)) = some (.val (bA v)) := by
  subst h; rfl
theorem hNeq (t : TypeId) (x y : Operand) (a b : Int) (v : Bool) (h : (a != b) = v) : (peek Try.prog (do eqGuard .neq t x y (.int .i64 a) (.int .i64 b); binOp .neq t (.int .i64 a) (.int .i64 b))).map (fun v => Cmd.val (.sc v)) = some (.val (bA v)) := by
  subst h; rfl
theorem wrap_id {n : Int} (h : I64 n) : IntKind.i64.wrap n = n := by rw [IntKind.wrap_i64]; obtain ⟨h1, h2⟩ := h; omega
theorem hAdd (t : TypeId) (x y : Operand) (a b c : Int) (h : a + b = c) (hc : I64 c) : (peek Try.prog (do eqGuard .add t x y (.int .i64 a) (.int .i64 b); binOp .add t (.int .i64 a) (.int .i64 b))).map (fun v => Cmd.val (.sc v)) = some (.val (iA c)) := by
  subst h
  have e : (peek Try.prog (do eqGuard .add t x y (.int .i64 a) (.int .i64 b); binOp .add t (.int .i64 a) (.int .i64 b))).map (fun v => Cmd.val (.sc v)) = some (.val (iA (IntKind.i64.wrap (a + b)))) := rfl
  rw [e, wrap_id hc]
theorem hSub (t : TypeId) (x y : Operand) (a b c : Int) (h : a - b = c) (hc : I64 c) : (peek Try.prog (do eqGuard .sub t x y (.int .i64 a) (.int .i64 b); binOp .sub t (.int .i64 a) (.int .i64 b))).map (fun v => Cmd.val (.sc v)) = some (.val (iA c)) := by
  subst h
  have e : (peek Try.prog (do eqGuard .sub t x y (.int .i64 a) (.int .i64 b); binOp .sub t (.int .i64 a) (.int .i64 b))).map (fun v => Cmd.val (.sc v)) = some (.val (iA (IntKind.i64.wrap (a - b)))) := rfl
  rw [e, wrap_id hc]
theorem elem22 : elemT Try.prog 22 = some 3 := by kernel_rfl
theorem elem23 : elemT Try.prog 23 = some 71 := by kernel_rfl
theorem elem34 : elemT Try.prog 34 = some 5 := by kernel_rfl
theorem sz3 : szT Try.prog 3 = some 1 := by kernel_rfl
theorem sz5 : szT Try.prog 5 = some 1 := by kernel_rfl
theorem sz71 : szT Try.prog 71 = some 3 := by kernel_rfl
theorem drop_at {α : Type} {l : List α} {k : Nat} {x : α} (h : l[k]? = some x) : l.drop k = x :: l.drop (k + 1) := by
  obtain ⟨hk, hx⟩ := List.getElem?_eq_some_iff.1 h
  rw [List.drop_eq_getElem_cons hk, hx]
theorem hIdxI {tok : Option (Nat × Nat)} {l : List Int} {k : Nat} {x : Int} (h : l[k]? = some x) : cmdIndexAddr Try.prog 22 (.row tok 1 l.length (l.map iA)) (iA k) = some (.val (.rptr (iA x :: (l.drop (k + 1)).map iA))) := by
  have hk : k < l.length := (List.getElem?_eq_some_iff.1 h).1
  simp only [cmdIndexAddr, iA, elem22, Option.bind_some, sz3]
  rw [if_pos ⟨by trivial, by omega, by omega⟩]
  have e : ((k : Int)).toNat * 1 = k := by simp
  rw [e, ← List.map_drop, drop_at h]
  rfl
theorem hIdxU {tok : Option (Nat × Nat)} {l : List Int} {k : Nat} {x : Int} (h : l[k]? = some x) : cmdIndexAddr Try.prog 34 (.row tok 1 l.length (l.map uA)) (iA k) = some (.val (.rptr (uA x :: (l.drop (k + 1)).map uA))) := by
  have hk : k < l.length := (List.getElem?_eq_some_iff.1 h).1
  simp only [cmdIndexAddr, iA, elem34, Option.bind_some, sz5]
  rw [if_pos ⟨by trivial, by omega, by omega⟩]
  have e : ((k : Int)).toNat * 1 = k := by simp
  rw [e, ← List.map_drop, drop_at h]
  rfl
theorem evA_cons (e : Ev) (l : List Ev) : evA (e :: l) = iA e.p :: iA e.k :: iA e.n :: evA l := by simp [evA]
theorem evA_length (l : List Ev) : (evA l).length = l.length * 3 := by
  induction l with
  | nil => rfl
  | cons e l ih => rw [evA_cons]; simp only [List.length_cons, ih]; omega
theorem evA_append (a b : List Ev) : evA (a ++ b) = evA a ++ evA b := by simp [evA]
theorem evA_drop (l : List Ev) (k : Nat) : (evA l).drop (k * 3) = evA (l.drop k) := by
  induction k generalizing l with
  | zero => simp
  | succ k ih =>
    cases l with
    | nil => simp [evA]
    | cons e l => rw [evA_cons, show (k + 1) * 3 = k * 3 + 1 + 1 + 1 by omega]; simp [ih]
theorem evA_take (l : List Ev) (k : Nat) : (evA l).take (k * 3) = evA (l.take k) := by
  induction k generalizing l with
  | zero => simp [evA]
  | succ k ih =>
    cases l with
    | nil => simp [evA]
    | cons e l => rw [evA_cons, show (k + 1) * 3 = k * 3 + 1 + 1 + 1 by omega, List.take_succ_cons, List.take_succ_cons, List.take_succ_cons, List.take_succ_cons, evA_cons, ih]
theorem hIdxE {tok : Option (Nat × Nat)} {l : List Ev} {k : Nat} {x : Ev} (h : l[k]? = some x) : cmdIndexAddr Try.prog 23 (.row tok 3 l.length (evA l)) (iA k) = some (.val (.rptr (iA x.p :: iA x.k :: iA x.n :: evA (l.drop (k + 1))))) := by
  have hk : k < l.length := (List.getElem?_eq_some_iff.1 h).1
  simp only [cmdIndexAddr, iA, elem23, Option.bind_some, sz71]
  rw [if_pos ⟨by trivial, by omega, by omega⟩]
  have e : ((k : Int)).toNat * 3 = k * 3 := by simp
  rw [e, evA_drop, drop_at h, evA_cons]
  rfl
end Go.Proofs.Ytlekojbcaelpiaa

/- Hints, and what they claim. -/
namespace Go.Proofs.Ytlekojbcaelpiaa
open Go.RowKit
/-- hints: the answers of some operations -/
def hints : List (Nat × Cmd) → Option Nat → Option Cmd
  | [], _ => none
  | (d, c) :: l, some t => match Nat.beq t d with | true => some c | false => hints l (some t)
  | _, none => none
def calls : List (Nat × Res) → Option Nat → Option Res
  | [], _ => none
  | (d, r) :: l, some t => match Nat.beq t d with | true => some r | false => calls l (some t)
  | _, none => none
def orc (l : List (Nat × Cmd)) : Orc := { call := fun _ _ _ => none, hint := hints l }
/-- with answers of calls, by the place where the answer goes -/
def orcC (c : List (Nat × Res)) (l : List (Nat × Cmd)) : Orc := { call := fun d _ _ => calls c d, hint := hints l }
abbrev pB (op : BinOp) (t : TypeId) (x y : Operand) (a b : Value) (v : AV) : Prop := (peek Try.prog (do eqGuard op t x y a b; binOp op t a b)).map (fun v => Cmd.val (.sc v)) = some (.val v)
def evV (e : Ev) : Value := .agg #[.int .i64 e.p, .int .i64 e.k, .int .i64 e.n]

section
variable {P : Program} {α β : Type}
theorem peek_bind' (f : α → Sem β) : ∀ (m : Sem α), peek P (Sem.bind m f) = (peek P m).bind fun a => peek P (f a)
  | .pure a => rfl
  | .program k => by simp only [Sem.bind, peek]; exact peek_bind' f (k P)
  | .load .. | .store .. | .new .. | .shape .. | .freeze .. | .frozen .. | .getObj .. | .setObj .. | .choose .. | .sys .. | .mark .. | .halt .. => by simp [Sem.bind, peek]
theorem peek_bind (m : Sem α) (f : α → Sem β) : peek P (m >>= f) = (peek P m).bind fun a => peek P (f a) := peek_bind' f m
theorem peek_pure (a : α) : peek P (pure a : Sem α) = some a := rfl
theorem peek_program : peek P program = some P := rfl
theorem peek_ite (c : Prop) [Decidable c] (a b : Sem α) : peek P (if c then a else b) = if c then peek P a else peek P b := by split <;> rfl
theorem peek_underlying {t : TypeId} {d : TypeDesc} (h : P.underlying t = some d) : peek P (underlying t) = some d := by
  simp only [underlying, peek_bind, peek_program, Option.bind_some, h, peek_pure]
end
theorem peek_eqInt {P : Program} (h3 : P.underlying 3 = some (.int .i64)) (d : Nat) (a b : Int) : peek P (Op.equalIn (d + 1) 3 (.int .i64 a) (.int .i64 b)) = some (a == b) := by
  rw [Op.equalIn, peek_bind, peek_underlying h3]
  rfl
theorem peek_part3 {P : Program} (h3 : P.underlying 3 = some (.int .i64)) (cs : Array Value) (i : Nat) (v : Value) (h : cs[i]? = some v) : peek P (part 3 cs i) = some v := by
  unfold part isAgg
  rw [peek_bind, peek_bind, peek_underlying h3, Option.bind_some]
  simp only [peek_pure, Option.bind_some, Bool.false_eq_true, if_false, h]
theorem peek_eqEv {P : Program} (h3 : P.underlying 3 = some (.int .i64)) {f1 f2 f3 : Field} (h71 : P.underlying 71 = some (.struct #[f1, f2, f3])) (t1 : f1.type = 3) (t2 : f2.type = 3) (t3 : f3.type = 3) (o1 : f1.offset = 0) (o2 : f2.offset = 1) (o3 : f3.offset = 2)
    (n1 : f1.name ≠ "_") (n2 : f2.name ≠ "_") (n3 : f3.name ≠ "_") (hs : P.stoodInHeld 71 = false) (d : Nat) (a b : Ev) : peek P (Op.equalIn (d + 2) 71 (evV a) (evV b)) = some (decide (a = b)) := by
  obtain ⟨p, k, n⟩ := a
  obtain ⟨p', k', n'⟩ := b
  simp only [evV]
  rw [Op.equalIn]
  simp only [peek_bind, peek_underlying h71, Option.bind_some, peek_program, hs]
  simp only [Bool.false_eq_true, if_false]
  have q : ∀ (x y z : Value), peek P (part 3 #[x, y, z] 0) = some x ∧ peek P (part 3 #[x, y, z] 1) = some y ∧ peek P (part 3 #[x, y, z] 2) = some z := fun x y z => ⟨peek_part3 h3 _ _ _ rfl, peek_part3 h3 _ _ _ rfl, peek_part3 h3 _ _ _ rfl⟩
  simp only [List.forIn_cons, List.forIn_nil, Array.forIn_toList, List.forIn_toArray, peek_bind, peek_ite, t1, t2, t3, o1, o2, o3, n1, n2, n3, q, peek_eqInt h3, peek_pure, Option.bind_some, ne_eq, not_false_eq_true, if_true]
  by_cases e1 : p = p' <;> by_cases e2 : k = k' <;> by_cases e3 : n = n' <;> simp [e1, e2, e3, peek_bind, peek_pure, peek_ite, q, peek_eqInt h3, t1, t2, t3, o1, o2, o3, n1, n2, n3, pure, peek]
theorem stood71 : Try.prog.stoodInHeld 71 = false := by kernel_rfl
theorem guard71 (op : BinOp) (x y : Operand) (a b : Ev) : peek Try.prog (eqGuard op 71 x y (evV a) (evV b)) = some () := by
  cases op <;> kernel_rfl
theorem equal71 (a b : Ev) : peek Try.prog (Op.equal 71 (evV a) (evV b)) = some (decide (a = b)) :=
  peek_eqEv Try.underlying3 Try.underlying71 rfl rfl rfl rfl rfl rfl (by decide) (by decide) (by decide) stood71 9998 a b
theorem hNeqE (x y : Operand) (a b : Ev) (v : Bool) (h : decide (a ≠ b) = v) : pB .neq 71 x y (evV a) (evV b) (bA v) := by
  subst h
  have e : peek Try.prog (binOp .neq 71 (evV a) (evV b)) = some (.bool (!decide (a = b))) := by
    show peek Try.prog (do pure (Value.bool (!(← Op.equal 71 (evV a) (evV b)))) : Sem Value) = _
    rw [peek_bind, equal71]; rfl
  unfold pB
  rw [peek_bind, guard71, Option.bind_some, e]
  simp [bA]
theorem hEqlE (x y : Operand) (a b : Ev) (v : Bool) (h : decide (a = b) = v) : pB .eql 71 x y (evV a) (evV b) (bA v) := by
  subst h
  have e : peek Try.prog (binOp .eql 71 (evV a) (evV b)) = some (.bool (decide (a = b))) := by
    show peek Try.prog (do pure (Value.bool (← Op.equal 71 (evV a) (evV b))) : Sem Value) = _
    rw [peek_bind, equal71]; rfl
  unfold pB
  rw [peek_bind, guard71, Option.bind_some, e]
  simp [bA]
theorem Judg.pre' (f : Nat) (H : Orc) (n : Nat) {c : Code} {s : St} {Q : Out → Prop} (s' : St) (log : List Prop) (h : runCode Try.prog H (liveOf f) 0 (Ytlekojbcaelpiaa.pre n c) s = some (.go s')) (hl : s'.log = log) (hp : ∀ p ∈ log, p)
    (k : Judg (post n c) s' Q) : Judg c s Q := Judg.pre H (liveOf f) 0 n h (by rw [hl]; exact hp) k
theorem Judg.run' (f : Nat) (H : Orc) {c : Code} {s : St} {Q : Out → Prop} (o : Out) (log : List Prop) (h : runCode Try.prog H (liveOf f) 0 c s = some o) (hl : o.st.log = log) (hp : ∀ p ∈ log, p) (q : Q o) : Judg c s Q :=
  Judg.run H (liveOf f) 0 h (by rw [hl]; exact hp) q
theorem Ok.run' (f : Nat) (H : Orc) {fn : Func} {args : List AV} {r : Res} (hf : Try.prog.funcs[f]? = some fn) (log : List Prop) (h : runBody Try.prog H (liveOf f) 0 fn args = some (r, log)) (hp : ∀ p ∈ log, p) : Ok Try.prog f args r := Ok.run H 0 hf h hp
/-- the results, at the end of a judgement -/
theorem fin_ret {fn : Func} {r : Res} {l : List Prop} (s1 : St) (h : (resVals Try.prog s1 fn.results.toList).bind (resOf s1) = some (r, l)) (hl : ∀ p ∈ l, p) :
    ∃ s2 l, (Out.ret s1 = .go s2 ∨ Out.ret s1 = .ret s2) ∧ (resVals Try.prog s2 fn.results.toList).bind (resOf s2) = some (r, l) ∧ ∀ p ∈ l, p := ⟨s1, l, .inr rfl, h, hl⟩
end Go.Proofs.Ytlekojbcaelpiaa

/- The walked functions' laws as contracts. -/
namespace Go.Proofs.Ytlekojbcaelpiaa
open Go.RowKit

theorem iA_map (l : List Int) : l.map iA = (ints l).map .sc := by simp only [ints, List.map_map]; rfl
theorem uA_map (l : List Int) : l.map uA = (byts l).map .sc := by simp only [byts, List.map_map]; rfl
theorem evA_map (l : List Ev) : evA l = (evs l).map .sc := by
  induction l with
  | nil => rfl
  | cons e l ih => rw [evA_cons, ih]; simp [evs, Ev.cells, iA]
section
variable {pr : Nat → Nat → Prop} {w w' : World} {c : Value}
theorem row_reads {tok : Option (Nat × Nat)} {size n : Nat} {vs : List Value} (hs : 0 < size) (h : V pr w c (.row tok size n (vs.map .sc))) : ∃ A cap, c = .slice A n cap ∧ n ≤ cap ∧ cap ≤ maxLen ∧ Reads w w.heap.size size A n vs := by
  obtain ⟨A, cap, e, h1, h2, h3, h4⟩ := h
  have h3' : vs.length = n * size := by simpa using h3
  refine ⟨A, cap, e, h1, h2, h3', fun hn => ?_⟩
  obtain ⟨b, o, e2, hc⟩ := h4 hn
  have key : ∀ j u, vs[j]? = some u → w.cell? ⟨b, o + j, none⟩ = some u := fun j u hu => by
    obtain ⟨u', k1, _, _, k4⟩ := hc.at_ (i := j) (x := .sc u) (by simp [hu])
    have : u' = u := k4
    rw [← this]; exact k1
  have h0 : 0 < vs.length := by rw [h3']; exact Nat.mul_pos hn hs
  have hlt : b < w.heap.size := World.block_lt_of_cell? w ⟨b, o + 0, none⟩ (key 0 vs[0] (List.getElem?_eq_getElem h0))
  exact ⟨_, e2, hlt, fun j u hu => by rw [Addr.add_lit]; exact key j u hu⟩
theorem rowI_reads {l : List Int} (h : V pr w c (rowI l)) : ∃ A cap, c = .slice A l.length cap ∧ l.length ≤ cap ∧ cap ≤ maxLen ∧ Reads w w.heap.size 1 A l.length (ints l) := by
  unfold rowI at h; rw [iA_map] at h; exact row_reads (by omega) h
theorem rowU_reads {l : List Int} (h : V pr w c (rowU l)) : ∃ A cap, c = .slice A l.length cap ∧ l.length ≤ cap ∧ cap ≤ maxLen ∧ Reads w w.heap.size 1 A l.length (byts l) := by
  unfold rowU at h; rw [uA_map] at h; exact row_reads (by omega) h
theorem rowE_reads {l : List Ev} (h : V pr w c (rowE l)) : ∃ A cap, c = .slice A l.length cap ∧ l.length ≤ cap ∧ cap ≤ maxLen ∧ Reads w w.heap.size 3 A l.length (evs l) := by
  unfold rowE at h; rw [evA_map] at h; exact row_reads (by omega) h
theorem rp_reads {r : Rp} (h : V pr w c (rpA r)) : ∃ A ca E ce, c = rpV r A ca E ce ∧ r.args.length ≤ ca ∧ ca ≤ maxLen ∧ Reads w w.heap.size 1 A r.args.length (ints r.args) ∧ r.events.length ≤ ce ∧ ce ≤ maxLen ∧ Reads w w.heap.size 3 E r.events.length (evs r.events) := by
  obtain ⟨cs, e, _, h⟩ := h
  simp only [VL] at h
  obtain ⟨c0, cs, rfl, h0, c1, cs, rfl, h1, c2, cs, rfl, h2, c3, cs, rfl, h3, c4, cs, rfl, h4, c5, cs, rfl, h5, rfl⟩ := h
  obtain ⟨A, ca, rfl, a1, a2, a3⟩ := rowI_reads h2
  obtain ⟨E, ce, rfl, b1, b2, b3⟩ := rowE_reads h3
  have e0 : c0 = .int .i64 r.id := h0
  have e1 : c1 = .int .i64 r.ver := h1
  have e4 : c4 = .bool r.cut := h4
  have e5 : c5 = .int .i64 r.en := h5
  subst e0; subst e1; subst e4; subst e5
  exact ⟨A, ca, E, ce, e, a1, a2, a3, b1, b2, b3⟩
theorem out_reads {es : List Ev} {en : Int} (h : V pr w c (outA es en)) : ∃ E ce, c = .agg #[.slice E es.length ce, .int .i64 en] ∧ es.length ≤ ce ∧ ce ≤ maxLen ∧ Reads w w.heap.size 3 E es.length (evs es) := by
  obtain ⟨cs, e, _, h⟩ := h
  simp only [VL] at h
  obtain ⟨c0, cs, rfl, h0, c1, cs, rfl, h1, rfl⟩ := h
  obtain ⟨E, ce, rfl, b1, b2, b3⟩ := rowE_reads h0
  have e1 : c1 = .int .i64 en := h1
  subst e1
  exact ⟨E, ce, e, b1, b2, b3⟩

/-- what a contract asks for behind the call -/
def Post (w : World) (pr : Nat → Nat → Prop) (r : Res) (e : Ending) (w' : World) : Prop := ∃ c pr', e = .returned c ∧ Below w.heap.size w w' ∧ (∀ b i, pr' b i → b < w'.heap.size) ∧ (∀ b i, b < w.heap.size → pr' b i → pr b i) ∧ V pr' w' c r.v ∧
      ∀ e, r.own = some e → OwnRes w.heap.size pr' w' e c r.v
theorem post_sc (hp : ∀ b i, pr b i → b < w.heap.size) {v : Value} (hb : Below w.heap.size w w') : Post w pr (plainR (.sc v)) (.returned v) w' :=
  ⟨v, pr, rfl, hb, fun b i h => Nat.lt_of_lt_of_le (hp b i h) hb.size, fun _ _ _ h => h, rfl, fun e he => by cases he⟩
theorem post_row (hp : ∀ b i, pr b i → b < w.heap.size) {v : Value} {e size n : Nat} {vs : List Value} (hb : Below w.heap.size w w') (ho : w'.ownsRow w.heap.size e size v n vs) (h1 : ∀ u ∈ vs, u.oneCell' = true) :
    Post w pr { v := .row none size n (vs.map .sc), own := some e } (.returned v) w' := by
  have hlen := ho.1
  rcases ho.2 with ⟨rfl, rfl⟩ | ⟨g, cap, cur, rfl, hbg, hg, hnc, hcm, hcs, htake⟩
  · have hv : vs = [] := List.eq_nil_of_length_eq_zero (by simpa using hlen)
    subst hv
    exact ⟨_, pr, rfl, hb, fun b i h => Nat.lt_of_lt_of_le (hp b i h) hb.size, fun _ _ _ h => h, ⟨none, 0, rfl, Nat.le_refl _, by simp [maxLen], by simp, fun h => absurd h (by omega)⟩, fun e he => .inl ⟨none, rfl, rfl⟩⟩
  · have hglt : g < w'.heap.size := (Array.getElem?_eq_some_iff.1 hg).1
    refine ⟨_, fun b i => pr b i ∨ (b = g ∧ i < n * size), rfl, hb, ?_, ?_, ?_, fun e he => ?_⟩
    · rintro b i (h | ⟨rfl, _⟩)
      · exact Nat.lt_of_lt_of_le (hp b i h) hb.size
      · exact hglt
    · rintro b i hlt (h | ⟨rfl, _⟩)
      · exact h
      · omega
    · exact V_own ho hnc hcm (VL_sc.2 rfl) h1 (fun i hi => .inr ⟨rfl, hi⟩) none
    · cases he
      refine .inr ⟨vs, ho, fun g' hg' i hi => ?_⟩
      simp only [Value.ownBlock, Option.some.injEq] at hg'
      subst hg'
      rcases hi with h | ⟨_, h⟩
      · exact absurd (hp _ _ h) (by omega)
      · exact h
end
def ownU (l : List Int) : Res := { v := rowU l, own := some 5 }
def ownI (l : List Int) : Res := { v := rowI l, own := some 3 }
def ownE (l : List Ev) : Res := { v := rowE l, own := some 71 }
theorem post_U {pr : Nat → Nat → Prop} {w w' : World} (hp : ∀ b i, pr b i → b < w.heap.size) {v : Value} {l : List Int} (hb : Below w.heap.size w w') (ho : w'.ownsRow w.heap.size 5 1 v l.length (byts l)) : Post w pr (ownU l) (.returned v) w' := by
  have := post_row hp hb ho (byts_oneCell l)
  unfold ownU rowU; rw [uA_map]; exact this
theorem post_I {pr : Nat → Nat → Prop} {w w' : World} (hp : ∀ b i, pr b i → b < w.heap.size) {v : Value} {l : List Int} (hb : Below w.heap.size w w') (ho : w'.ownsRow w.heap.size 3 1 v l.length (ints l)) : Post w pr (ownI l) (.returned v) w' := by
  have := post_row hp hb ho (ints_oneCell' l)
  unfold ownI rowI; rw [iA_map]; exact this
theorem below_of_drew {w w' : World} (h : ∃ n, w' = w.drewN n) : Below w.heap.size w w' := by obtain ⟨n, rfl⟩ := h; exact below_drewN (Below.refl _ _) n

theorem enters {f : Nat} {fn : Func} (hf : Try.prog.funcs[f]? = some fn) (hb : fn.body.isNone = false) : Enters Try.prog f := ⟨fn, hf, names_ok f fn hf, hb⟩
theorem Ok.mk' {f : Nat} {fn : Func} {args : List AV} {r : Res} (hf : Try.prog.funcs[f]? = some fn) (hb : fn.body.isNone = false)
    (h : ∀ (w : World) (pr : Nat → Nat → Prop) (cs : List Value), (∀ b i, pr b i → b < w.heap.size) → VL pr w cs args → Calls Try.prog f cs.toArray w (Post w pr r)) : Ok Try.prog f args r := ⟨enters hf hb, h⟩
theorem vl1 {pr : Nat → Nat → Prop} {w : World} {cs : List Value} {x : AV} (h : VL pr w cs [x]) : ∃ c, cs = [c] ∧ V pr w c x := by
  simp only [VL] at h; obtain ⟨c, _, rfl, h, rfl⟩ := h; exact ⟨c, rfl, h⟩
theorem vl2 {pr : Nat → Nat → Prop} {w : World} {cs : List Value} {x y : AV} (h : VL pr w cs [x, y]) : ∃ c d, cs = [c, d] ∧ V pr w c x ∧ V pr w d y := by
  simp only [VL] at h; obtain ⟨c, _, rfl, h, d, _, rfl, h', rfl⟩ := h; exact ⟨c, d, rfl, h, h'⟩

/-- what is asked of a report: sizes and ranges -/
structure Fit (r : Rp) : Prop where
  la : r.args.length ≤ 1000000
  le : r.events.length ≤ 300000
  wf : WfR r
theorem RpAt.of {w : World} {r : Rp} {A E : Option Addr} {ca ce : Nat} (h : Fit r) (a1 : r.args.length ≤ ca) (a2 : ca ≤ maxLen) (a3 : Reads w w.heap.size 1 A r.args.length (ints r.args)) (b1 : r.events.length ≤ ce) (b2 : ce ≤ maxLen) (b3 : Reads w w.heap.size 3 E r.events.length (evs r.events)) :
    RpAt w w.heap.size r A ca E ce := ⟨a3, b3, h.la, h.le, a1, a2, b1, b2, h.wf⟩

theorem ok13 (xs ys : List Int) (hx : xs.length ≤ 100000000) (hy : ys.length ≤ 100000000) : Ok Try.prog 13 [rowU xs, rowU ys] (plainR (bA (eqI xs ys))) := Ok.mk' Try.func13 rfl fun w pr cs hp h => by
  obtain ⟨c, d, rfl, h1, h2⟩ := vl2 h
  obtain ⟨A, ca, rfl, _, _, r1⟩ := rowU_reads h1
  obtain ⟨A2, ca2, rfl, _, _, r2⟩ := rowU_reads h2
  refine (sameBytes_any A A2 ca ca2 _ _ xs ys w (by omega) (by omega) r1 r2).mono ?_
  rintro e w' ⟨rfl, hb⟩
  exact post_sc hp (below_of_drew hb)
theorem ok30 (xs ys : List Int) (hx : xs.length ≤ 100000000) (hy : ys.length ≤ 100000000) : Ok Try.prog 30 [rowI xs, rowI ys] (plainR (bA (eqI xs ys))) := Ok.mk' Try.func30 rfl fun w pr cs hp h => by
  obtain ⟨c, d, rfl, h1, h2⟩ := vl2 h
  obtain ⟨A, ca, rfl, _, _, r1⟩ := rowI_reads h1
  obtain ⟨A2, ca2, rfl, _, _, r2⟩ := rowI_reads h2
  refine (sameInts_any A A2 ca ca2 _ _ xs ys w (by omega) (by omega) r1 r2).mono ?_
  rintro e w' ⟨rfl, hb⟩
  exact post_sc hp (below_of_drew hb)
theorem ok70 (xs ys : List Int) (hx : xs.length ≤ 100000000) (hy : ys.length ≤ 100000000) : Ok Try.prog 70 [rowI xs, rowI ys] (plainR (bA (eqI xs ys))) := Ok.mk' Try.func70 rfl fun w pr cs hp h => by
  obtain ⟨c, d, rfl, h1, h2⟩ := vl2 h
  obtain ⟨A, ca, rfl, _, _, r1⟩ := rowI_reads h1
  obtain ⟨A2, ca2, rfl, _, _, r2⟩ := rowI_reads h2
  refine (equalInts_any A A2 ca ca2 _ _ xs ys w (by omega) (by omega) r1 r2).mono ?_
  rintro e w' ⟨rfl, hb⟩
  exact post_sc hp (below_of_drew hb)
theorem ok57 (xs ys : List Ev) (hx : xs.length ≤ 100000000) (hy : ys.length ≤ 100000000) : Ok Try.prog 57 [rowE xs, rowE ys] (plainR (bA (eqE xs ys))) := Ok.mk' Try.func57 rfl fun w pr cs hp h => by
  obtain ⟨c, d, rfl, h1, h2⟩ := vl2 h
  obtain ⟨A, ca, rfl, _, _, r1⟩ := rowE_reads h1
  obtain ⟨A2, ca2, rfl, _, _, r2⟩ := rowE_reads h2
  refine (equalEvs_any A A2 ca ca2 _ _ xs ys w (by omega) (by omega) r1 r2).mono ?_
  rintro e w' ⟨rfl, hb⟩
  exact post_sc hp (below_of_drew hb)
theorem ok10 (r : Rp) (hr : Fit r) : Ok Try.prog 10 [rpA r] (plainR (bA (validB r))) := Ok.mk' Try.func10 rfl fun w pr cs hp h => by
  obtain ⟨c, rfl, h1⟩ := vl1 h
  obtain ⟨A, ca, E, ce, rfl, _, _, a3, _, _, b3⟩ := rp_reads h1
  refine (valid_any r A E ca ce _ w (Nat.le_refl _) hr.la (by have := hr.le; omega) a3 b3 hr.wf.en).mono ?_
  rintro e w' ⟨rfl, hb⟩
  exact post_sc hp hb
theorem ok12 (r : Rp) (hr : Fit r) : Ok Try.prog 12 [rpA r] (plainR (bA (validB r))) := Ok.mk' Try.func12 rfl fun w pr cs hp h => by
  obtain ⟨c, rfl, h1⟩ := vl1 h
  obtain ⟨A, ca, E, ce, rfl, _, _, a3, _, _, b3⟩ := rp_reads h1
  refine (refValid_any r A E ca ce _ w (Nat.le_refl _) hr.la (by have := hr.le; omega) a3 b3 hr.wf.en).mono ?_
  rintro e w' ⟨rfl, hb⟩
  exact post_sc hp hb
theorem ok14 (r : Rp) (hr : Fit r) : Ok Try.prog 14 [rpA r] (ownU (encB r)) := Ok.mk' Try.func14 rfl fun w pr cs hp h => by
  obtain ⟨c, rfl, h1⟩ := vl1 h
  obtain ⟨A, ca, E, ce, rfl, _, _, a3, _, _, b3⟩ := rp_reads h1
  refine (encode_any r A E ca ce _ w (Nat.le_refl _) hr.la hr.le a3 b3 hr.wf).mono ?_
  rintro e w' ⟨v, rfl, ho, hb⟩
  exact post_U hp hb ho
theorem ok21 (r : Rp) (hr : Fit r) : Ok Try.prog 21 [rpA r] (ownU (bytesR r)) := Ok.mk' Try.func21 rfl fun w pr cs hp h => by
  obtain ⟨c, rfl, h1⟩ := vl1 h
  obtain ⟨A, ca, E, ce, rfl, _, _, a3, _, _, b3⟩ := rp_reads h1
  refine (refBytes_any r A E ca ce _ w (Nat.le_refl _) hr.la hr.le a3 b3 hr.wf).mono ?_
  rintro e w' ⟨v, rfl, ho, hb⟩
  exact post_U hp hb ho
theorem ok15 (r : Rp) (hr : Fit r) : Ok Try.prog 15 [rpA r] (ownU (encB r)) := Ok.mk' Try.func15 rfl fun w pr cs hp h => by
  obtain ⟨c, rfl, h1⟩ := vl1 h
  obtain ⟨A, ca, E, ce, rfl, a1, a2, a3, b1, b2, b3⟩ := rp_reads h1
  refine (refEncode_any r A E ca ce _ w (Nat.le_refl _) (RpAt.of hr a1 a2 a3 b1 b2 b3)).mono ?_
  rintro e w' ⟨v, rfl, ho, hb⟩
  exact post_U hp hb ho
theorem ok23 (a b : Rp) (ha : Fit a) (hb : Fit b) : Ok Try.prog 23 [rpA a, rpA b] (plainR (bA (sameR a b))) := Ok.mk' Try.func23 rfl fun w pr cs hp h => by
  obtain ⟨c, d, rfl, h1, h2⟩ := vl2 h
  obtain ⟨A, ca, E, ce, rfl, a1, a2, a3, b1, b2, b3⟩ := rp_reads h1
  obtain ⟨A', ca', E', ce', rfl, a1', a2', a3', b1', b2', b3'⟩ := rp_reads h2
  refine (refSame_any a b A E A' E' ca ce ca' ce' _ w (Nat.le_refl _) (RpAt.of ha a1 a2 a3 b1 b2 b3) (RpAt.of hb a1' a2' a3' b1' b2' b3')).mono ?_
  rintro e w' ⟨rfl, hb⟩
  exact post_sc hp hb
theorem ok20 (a b : Rp) (ha : Fit a) (hb : Fit b) : Ok Try.prog 20 [rpA a, rpA b] (plainR (bA (sameR a b))) := Ok.mk' Try.func20 rfl fun w pr cs hp h => by
  obtain ⟨c, d, rfl, h1, h2⟩ := vl2 h
  obtain ⟨A, ca, E, ce, rfl, a1, a2, a3, b1, b2, b3⟩ := rp_reads h1
  obtain ⟨A', ca', E', ce', rfl, a1', a2', a3', b1', b2', b3'⟩ := rp_reads h2
  refine (lawSame_any a b A E A' E' ca ce ca' ce' _ w (Nat.le_refl _) (RpAt.of ha a1 a2 a3 b1 b2 b3) (RpAt.of hb a1' a2' a3' b1' b2' b3')).mono ?_
  rintro e w' ⟨rfl, hb⟩
  exact post_sc hp hb
theorem ok32 (r : Rp) (es : List Ev) (en : Int) (hr : Fit r) (he : es.length ≤ 1000000) : Ok Try.prog 32 [rpA r, outA es en] (plainR (bA (agreesB r es en))) := Ok.mk' Try.func32 rfl fun w pr cs hp h => by
  obtain ⟨c, d, rfl, h1, h2⟩ := vl2 h
  obtain ⟨A, ca, E, ce, rfl, _, _, a3, _, _, b3⟩ := rp_reads h1
  obtain ⟨O, co, rfl, o1, o2, o3⟩ := out_reads h2
  obtain ⟨id, ver, args, events, cut, en'⟩ := r
  have hle := hr.le
  cases cut with
  | true =>
    refine (agrees_cut id ver en' en events es E O ce co w.heap.size A args.length ca w (Nat.le_refl _) (by simp only at hle; omega) he o1 o2 b3 o3).mono ?_
    rintro e w' ⟨rfl, hb⟩
    exact post_sc hp hb
  | false =>
    refine (agrees_full id ver en' en args events es (.slice A args.length ca) E O ce co w.heap.size w (Nat.le_refl _) (by simp only at hle; omega) he b3 o3 ⟨_, _, _, rfl⟩).mono ?_
    rintro e w' ⟨rfl, hb⟩
    exact post_sc hp hb
theorem ok64 (n : Int) (h : I64 n) : Ok Try.prog 64 [iA n] (ownU (encZ n)) := Ok.mk' Try.func64 rfl fun w pr cs hp hv => by
  obtain ⟨c, rfl, h1⟩ := vl1 hv
  have e : c = .int .i64 n := h1
  subst e
  refine (refInt_any n w h).mono ?_
  rintro e w' ⟨v, rfl, ho, hb⟩
  exact post_U hp hb ho
theorem ok60 (n : Int) (h : I64 n) : Ok Try.prog 60 [iA n] (ownU (encZ n)) := Ok.mk' Try.func60 rfl fun w pr cs hp hv => by
  obtain ⟨c, rfl, h1⟩ := vl1 hv
  have e : c = .int .i64 n := h1
  subst e
  refine (wireInt_any n w h).mono ?_
  rintro e w' ⟨v, rfl, ho, hb⟩
  exact post_U hp hb ho
/-- the same report comes back -/
theorem ok11 (r : Rp) : Ok Try.prog 11 [rpA r] (plainR (rpA r)) := Ok.run' 11 (orc []) Try.func11 [] (by kernel_rfl) allnil
theorem ok24 (r : Rp) : Ok Try.prog 24 [rpA r] (plainR (rpA r)) := Ok.run' 24 (orc []) Try.func24 [] (by kernel_rfl) allnil
theorem ok71 (r : Rp) : Ok Try.prog 71 [rpA r] (plainR (outA r.events r.en)) := Ok.run' 71 (orc []) Try.func71 [] (by kernel_rfl) allnil
end Go.Proofs.Ytlekojbcaelpiaa

/- slices.Clone at two types; wire.GetInts as a contract. -/
namespace Go.Proofs.Ytlekojbcaelpiaa
open Go.RowKit

theorem equal_nil {P : Program} {t e : TypeId} (h : P.underlying t = some (.slice e)) (d : Nat) (A : Option Addr) (n c : Nat) (w : World) : (Op.equalIn (d + 1) t (.slice A n c) (.slice none 0 0)).run P w = .ok A.isNone w := by
  rw [Op.equalIn]
  cases A <;> simp [run_underlying h]
theorem binOp_nil {P : Program} {t e : TypeId} (h : P.underlying t = some (.slice e)) (A : Option Addr) (n c : Nat) (w : World) : (binOp .eql t (.slice A n c) (.slice none 0 0)).run P w = .ok (.bool A.isNone) w := by
  show ((do pure (Value.bool (← Op.equalIn (9999 + 1) t (.slice A n c) (.slice none 0 0)))) : Sem Value).run P w = _
  rw [Sem.run_bind, equal_nil h]
  rfl
set_option maxRecDepth 100000 in
set_option maxHeartbeats 1000000 in
theorem clone48 (A : Option Addr) (c B : Nat) (l : List Int) (w : World) (hB : B ≤ w.heap.size) (hl : l.length ≤ 1000000) (hr : Reads w B 1 A l.length (ints l)) :
    Calls Try.prog 48 #[.slice A l.length c] w fun e w' => ∃ v, e = .returned v ∧ w'.ownsRow w.heap.size 3 1 v l.length (ints l) ∧ Below w.heap.size w w' := by
  obtain ⟨i0, hi0, hz0, hz1, hz2⟩ := info_parts info3
  rcases A with _ | ad
  · have hn : l.length = 0 := by
      rcases Nat.eq_zero_or_pos l.length with h | h
      · exact h
      · obtain ⟨_, h, _⟩ := hr.2 h; cases h
    have hl0 : l = [] := List.eq_nil_of_length_eq_zero hn
    subst hl0
    clear hr
    have hq := fun w => binOp_nil (P := Try.prog) Try.underlying22 none 0 c w
    simp only [Option.isNone_none] at hq
    go_enter Try.func48, Try.ntmps48
    go_wp2
    go_ret
    exact ⟨_, rfl, World.ownsRow_nil _ _ _ _, Below.refl _ _⟩
  · have HR := Lib.hid (hr.alloc hB (.cells #[] 3))
    have HO := Lib.hid (World.ownsRow_made w #[] 0 (base := w.heap.size) (e := 3) (size := 1) (Nat.le_refl _) (by simp [maxLen]) rfl)
    clear hr
    have hq := fun n w => binOp_nil (P := Try.prog) Try.underlying22 (some ad) n c w
    simp only [Option.isNone_some] at hq
    go_enter Try.func48, Try.ntmps48
    go_wp2_with (at_builtin; refine wpList_append_any _ rfl _ _ _ rfl w.heap.size 3 i0 _ 1 8 Try.underlying22 hi0 hz0 hz1 hz2 rfl (by omega) _ 0 [] rfl HO.out B (some ad) l.length c (ints l) rfl HR.out (ints_oneCell' l) (by simp only [maxLen]; omega) (by omega) (by simp) ?_; intro v' w' h1 h2 h3)
    go_ret
    refine ⟨_, rfl, by simpa using h1, ?_⟩
    exact ((Below.refl _ _).alloc (Nat.le_refl _) _).grown h2 (by simp) (fun k hk => Nat.le_of_eq (Option.some.inj (show some w.heap.size = some k from hk)))
set_option maxRecDepth 100000 in
set_option maxHeartbeats 1000000 in
theorem clone49 (A : Option Addr) (c B : Nat) (l : List Ev) (w : World) (hB : B ≤ w.heap.size) (hl : l.length ≤ 1000000) (hr : Reads w B 3 A l.length (evs l)) :
    Calls Try.prog 49 #[.slice A l.length c] w fun e w' => ∃ v, e = .returned v ∧ w'.ownsRow w.heap.size 71 3 v l.length (evs l) ∧ Below w.heap.size w w' := by
  obtain ⟨i0, hi0, hz0, hz1, hz2⟩ := info_parts info71
  rcases A with _ | ad
  · have hn : l.length = 0 := by
      rcases Nat.eq_zero_or_pos l.length with h | h
      · exact h
      · obtain ⟨_, h, _⟩ := hr.2 h; cases h
    have hl0 : l = [] := List.eq_nil_of_length_eq_zero hn
    subst hl0
    clear hr
    have hq := fun w => binOp_nil (P := Try.prog) Try.underlying23 none 0 c w
    simp only [Option.isNone_none] at hq
    go_enter Try.func49, Try.ntmps49
    go_wp2
    go_ret
    exact ⟨_, rfl, World.ownsRow_nil _ _ _ _, Below.refl _ _⟩
  · have HR := Lib.hid (hr.alloc hB (.cells #[] 71))
    have HO := Lib.hid (World.ownsRow_made w #[] 0 (base := w.heap.size) (e := 71) (size := 3) (Nat.le_refl _) (by simp [maxLen]) rfl)
    clear hr
    have hq := fun n w => binOp_nil (P := Try.prog) Try.underlying23 (some ad) n c w
    simp only [Option.isNone_some] at hq
    go_enter Try.func49, Try.ntmps49
    go_wp2_with (at_builtin; refine wpList_append_any _ rfl _ _ _ rfl w.heap.size 71 i0 _ 3 24 Try.underlying23 hi0 hz0 hz1 hz2 rfl (by omega) _ 0 [] rfl HO.out B (some ad) l.length c (evs l) rfl HR.out (evs_oneCell l) (by simp only [maxLen]; omega) (by omega) (by simp) ?_; intro v' w' h1 h2 h3)
    go_ret
    refine ⟨_, rfl, by simpa using h1, ?_⟩
    exact ((Below.refl _ _).alloc (Nat.le_refl _) _).grown h2 (by simp) (fun k hk => Nat.le_of_eq (Option.some.inj (show some w.heap.size = some k from hk)))
theorem ok48 (l : List Int) (hl : l.length ≤ 1000000) : Ok Try.prog 48 [rowI l] (ownI l) := Ok.mk' Try.func48 rfl fun w pr cs hp h => by
  obtain ⟨c, rfl, h1⟩ := vl1 h
  obtain ⟨A, ca, rfl, _, _, r1⟩ := rowI_reads h1
  refine (clone48 A ca _ l w (Nat.le_refl _) hl r1).mono ?_
  rintro e w' ⟨v, rfl, ho, hb⟩
  exact post_I hp hb ho
theorem post_E {pr : Nat → Nat → Prop} {w w' : World} (hp : ∀ b i, pr b i → b < w.heap.size) {v : Value} {l : List Ev} (hb : Below w.heap.size w w') (ho : w'.ownsRow w.heap.size 71 3 v l.length (evs l)) : Post w pr (ownE l) (.returned v) w' := by
  have := post_row hp hb ho (evs_oneCell l)
  unfold ownE rowE; rw [evA_map]; exact this
theorem ok49 (l : List Ev) (hl : l.length ≤ 1000000) : Ok Try.prog 49 [rowE l] (ownE l) := Ok.mk' Try.func49 rfl fun w pr cs hp h => by
  obtain ⟨c, rfl, h1⟩ := vl1 h
  obtain ⟨A, ca, rfl, _, _, r1⟩ := rowE_reads h1
  refine (clone49 A ca _ l w (Nat.le_refl _) hl r1).mono ?_
  rintro e w' ⟨v, rfl, ho, hb⟩
  exact post_E hp hb ho
theorem post_I3 {pr : Nat → Nat → Prop} {w w' : World} (hp : ∀ b i, pr b i → b < w.heap.size) {v : Value} {l : List Int} {a b : Int} (hb : Below w.heap.size w w') (ho : w'.ownsRow w.heap.size 3 1 v l.length (ints l)) :
    Post w pr { v := .tup [rowI l, iA a, iA b], own := some 3 } (.returned (.tuple #[v, .int .i64 a, .int .i64 b])) w' := by
  obtain ⟨c, pr', e, a2, a3, a4, a5, a6⟩ := post_I hp hb ho
  cases e
  refine ⟨_, pr', rfl, a2, a3, a4, ⟨[_, _, _], rfl, _, _, rfl, a5, _, _, rfl, rfl, _, _, rfl, rfl, rfl⟩, fun e he c0 cs0 hc => ?_⟩
  cases he
  have hc' : v = c0 := by
    injection hc with hc
    have := congrArg Array.toList hc
    simp at this; exact this.1
  subst hc'
  exact a6 3 rfl
/-- what GetInts answers -/
def getsRes (b : List Int) : Res := { v := .tup [rowI (getsZ b).2.1, iA ((getsZ b).2.2 : Nat), iA (getsZ b).1], own := some 3 }
theorem ok61 (b : List Int) (hl : b.length ≤ 1000000000) (hu : U8s b) : Ok Try.prog 61 [rowU b] (getsRes b) := Ok.mk' Try.func61 rfl fun w pr cs hp h => by
  obtain ⟨c, rfl, h1⟩ := vl1 h
  obtain ⟨A, ca, rfl, h2, h3, r1⟩ := rowU_reads h1
  refine (gets_any A b.length ca _ b w (Nat.le_refl _) hl h2 (by unfold maxLen at h3; omega) r1 rfl hu).mono ?_
  rintro e w' ⟨v, rfl, ho, hb⟩
  exact post_I3 hp hb ho
end Go.Proofs.Ytlekojbcaelpiaa

/- Regions whose last operations are looked at by hand. -/
namespace Go.Proofs.Ytlekojbcaelpiaa
open Go.RowKit

section
variable {P : Program} {call : Orc} {ops : Array Oper} {w0 : World} {Q : Exit → Act → World → Prop}
/-- the first operations of a list are run -/
theorem ops_part {l2 : List Nat} : ∀ (l : List Nat) (ps : List Oper) {γ : Gh} {s t : St} {a : Act} {w : World}, l.map (ops[·]?) = ps.map some → runS P call ops ps s = some t → (∀ p ∈ t.log, p) → Rel γ w0 s a w →
    (∀ γ' a' w', GExt γ γ' → Rel γ' w0 t a' w' → wpOps P ops Q l2 a' w') → wpOps P ops Q (l ++ l2) a w
  | [], [], γ, s, t, a, w, _, h, _, hrel, hQ => by
    simp only [runS, Option.some.injEq] at h; subst h
    exact hQ γ a w (GExt.refl γ) hrel
  | [], _ :: _, _, _, _, _, _, hl, _, _, _, _ => by simp at hl
  | _ :: _, [], _, _, _, _, _, hl, _, _, _, _ => by simp at hl
  | i :: l, o :: ps, γ, s, t, a, w, hl, h, hlog, hrel, hQ => by
    simp only [List.map_cons, List.cons.injEq] at hl
    simp only [runS, Option.bind_eq_some_iff] at h
    obtain ⟨s1, h1, h2⟩ := h
    rw [List.cons_append, wpOps_cons]
    have fin : ∀ {γ0 : Gh} {s0 : St}, GExt γ γ0 → Rel γ0 w0 s0 a w → stepOp P call ops [] o s0 = some s1 → wpOp P ops Q i (wpOps P ops Q (l ++ l2)) a w := fun {γ0 s0} hg hr hs =>
      step_sound hl.1 hr hs (fun p hp => hlog p (runS_log ps h2 p hp)) fun γ' a' w' e hr => ops_part l ps hl.2 h2 hlog hr fun γ'' a'' w'' e' hr' => hQ γ'' a'' w'' ((hg.trans e).trans e') hr'
    unfold stepS at h1
    split at h1
    · rename_i hs
      cases h1
      exact fin (GExt.refl γ) hrel hs
    · split at h1
      · exact fin (GExt.refl γ) (hrel.scrub _) h1
      · cases h1

/-- from L on each operation waits for all in front of it -/
def tailOk (ops : Array Oper) (L : Nat) : Bool := (List.range ops.size).all fun j => Nat.blt j L || (List.range j).all fun k => has ((waitsOf ops).getD j []) k
theorem tailOk_spec {L j k : Nat} (h : tailOk ops L = true) (hj : L ≤ j) (hs : j < ops.size) (hk : k < j) : k ∈ W ops j := by
  simp only [tailOk, List.all_eq_true, List.mem_range, Bool.or_eq_true, Nat.blt_eq, has_iff] at h
  rcases h j hs with h | h
  · omega
  · exact h k hk
theorem ready_waits (hok : drawOk ops = true) {listed : Array Bool} (hcl : ∀ j, listed.getD j false = true → ∀ k ∈ W ops j, listed.getD k false = true) {i : Nat} (hi : i ∈ Region.ready .any ops listed) :
    ∀ k ∈ W ops i, listed.getD k false = true := fun k hk => by
  obtain ⟨h1, o, h2, h3⟩ := mem_ready.1 hi
  obtain ⟨_, e, he, hb, hk'⟩ := (drawOk_spec hok h2).2.1 k hk
  have := h3 e he hb
  rcases hk' with rfl | hk'
  · exact this
  · exact hcl _ this k hk'
theorem ready_some (hok : drawOk ops = true) {listed : Array Bool} (hs : listed.size = ops.size) {j : Nat} {r : List Nat} (hl : left ops listed = j :: r) : j ∈ Region.ready .any ops listed := by
  obtain ⟨h1, h2⟩ := mem_left.1 (by rw [hl]; simp : j ∈ left ops listed)
  refine mem_ready.2 ⟨h2, ops[j], Array.getElem?_eq_getElem h1, fun e he hb => ?_⟩
  have hlt := (drawOk_spec hok (Array.getElem?_eq_getElem h1)).1 e he hb
  cases hh : listed.getD e.on false with
  | true => rfl
  | false =>
    exfalso
    have hlt' : e.on < listed.size := by omega
    have hm : e.on ∈ left ops listed := mem_left.2 ⟨by omega, by simpa [Array.getD, hlt'] using hh⟩
    have hs' : (left ops listed).Pairwise (· < ·) := List.Pairwise.sublist List.filter_sublist List.pairwise_lt_range
    rw [hl] at hm hs'
    rcases List.mem_cons.1 hm with hm | hm
    · omega
    · have := (List.pairwise_cons.1 hs').1 _ hm; omega
theorem listed_of_left {listed : Array Bool} (hs : listed.size = ops.size) {k : Nat} (hk : k < ops.size) (h : k ∉ left ops listed) : listed.getD k false = true := by
  have hk' : k < listed.size := by omega
  cases hh : listed.getD k false with
  | true => rfl
  | false => exact absurd (mem_left.2 ⟨hk, by simpa [Array.getD, hk'] using hh⟩) h
theorem not_left_of_listed {listed : Array Bool} {k : Nat} (h : listed.getD k false = true) : k ∉ left ops listed := fun hm => by
  obtain ⟨_, h2⟩ := mem_left.1 hm
  by_cases hk : k < listed.size
  · simp [Array.getD, hk] at h h2; rw [h] at h2; cases h2
  · simp [Array.getD, hk] at h

theorem tail_any (hok : drawOk ops = true) {L : Nat} (hT : tailOk ops L = true) : ∀ (tail : List Nat) (listed : Array Bool) {a : Act} {w : World}, listed.size = ops.size → left ops listed = tail → (∀ j ∈ tail, L ≤ j) →
    (∀ j, listed.getD j false = true → ∀ k ∈ W ops j, listed.getD k false = true) → wpOps P ops Q tail a w → wpAny P .any ops Q tail.length listed a w
  | [], listed, a, w, hs, hl, _, _, h => by
    refine ⟨?_, h⟩
    rw [List.eq_nil_iff_forall_not_mem]
    intro j hj
    obtain ⟨h1, o, h2, _⟩ := mem_ready.1 hj
    have : j ∈ left ops listed := mem_left.2 ⟨(Array.getElem?_eq_some_iff.1 h2).1, h1⟩
    rw [hl] at this; cases this
  | j :: tail, listed, a, w, hs, hl, hL, hcl, h => by
    refine ⟨fun hr => ?_, fun i hi => ?_⟩
    · have := ready_some hok hs hl
      rw [hr] at this; cases this
    · obtain ⟨h1, o, h2, h3⟩ := mem_ready.1 hi
      have hlt : i < ops.size := (Array.getElem?_eq_some_iff.1 h2).1
      have hm : i ∈ left ops listed := mem_left.2 ⟨hlt, h1⟩
      have hjm : j ∈ left ops listed := by rw [hl]; simp
      have hij : i = j := by
        rw [hl] at hm
        rcases List.mem_cons.1 hm with h | h
        · exact h
        · exfalso
          have hs' : (left ops listed).Pairwise (· < ·) := List.Pairwise.sublist List.filter_sublist List.pairwise_lt_range
          rw [hl] at hs'
          have hji := (List.pairwise_cons.1 hs').1 _ h
          exact not_left_of_listed (ready_waits hok hcl hi j (tailOk_spec hT (hL i (List.mem_cons_of_mem _ h)) hlt hji)) hjm
      subst hij
      rw [wpOps_cons] at h
      have hl' : left ops (listed.setIfInBounds i true) = tail := by
        have := left_set (r1 := []) (r2 := tail) hs hl
        simpa using this
      refine wpOp_mono (fun a' w' h' => tail_any hok hT tail (listed.setIfInBounds i true) (by simp [hs]) hl' (fun j hj => hL j (List.mem_cons_of_mem _ hj)) ?_ h') h
      intro j hj k hk
      by_cases hji : j = i
      · subst hji; exact getD_set_true (ready_waits hok hcl hi k hk)
      · rw [getD_set_ne false (Ne.symm hji)] at hj
        exact getD_set_true (hcl j hj k hk)

theorem any_tail (hok : drawOk ops = true) {L : Nat} (hT : tailOk ops L = true) {tail : List Nat} (htl : ∀ j ∈ tail, L ≤ j ∧ j < ops.size) : ∀ (lf : List Nat) (listed : Array Bool) {γ : Gh} {s t : St} {a : Act} {w : World}, listed.size = ops.size → left ops listed = lf ++ tail → (∀ j ∈ lf, j < L) →
    (∀ j, listed.getD j false = true → ∀ k ∈ W ops j, listed.getD k false = true) → runOps P call ops (itemsOf ops lf) s = some t → (∀ p ∈ t.log, p) → Rel γ w0 s a w →
    (∀ γ' a' w' t', GExt γ γ' → Eqv t' t → Rel γ' w0 t' a' w' → wpOps P ops Q tail a' w') → ∀ n, n = (lf ++ tail).length → wpAny P .any ops Q n listed a w := by
  intro lf
  induction hn : lf.length generalizing lf with
  | zero =>
    intro listed γ s t a w hs hl hL hcl h hlog hrel hQ n hnn
    have : lf = [] := List.eq_nil_of_length_eq_zero hn
    subst this
    simp only [itemsOf, List.filterMap_nil, runOps, Option.some.injEq] at h
    subst h
    subst hnn
    exact tail_any hok hT tail listed hs hl (fun j hj => (htl j hj).1) hcl (hQ γ a w s (GExt.refl γ) (Eqv.refl s) hrel)
  | succ m ih =>
    intro listed γ s t a w hs hl hL hcl h hlog hrel hQ n hnn
    subst hnn
    have hlen : (lf ++ tail).length = (m + tail.length) + 1 := by simp [hn]; omega
    rw [hlen]
    refine ⟨fun hr => ?_, fun i hi => ?_⟩
    · obtain ⟨j, r, hjr⟩ : ∃ j r, left ops listed = j :: r := by
        cases hl' : left ops listed with
        | nil => rw [hl'] at hl; have := congrArg List.length hl; simp at this; omega
        | cons j r => exact ⟨j, r, rfl⟩
      have := ready_some hok hs hjr
      rw [hr] at this; cases this
    · obtain ⟨h1, o, h2, h3⟩ := mem_ready.1 hi
      have hlt : i < ops.size := (Array.getElem?_eq_some_iff.1 h2).1
      have hm : i ∈ left ops listed := mem_left.2 ⟨hlt, h1⟩
      have hW := ready_waits hok hcl hi
      have hmf : i ∈ lf := by
        rw [hl] at hm
        rcases List.mem_append.1 hm with hm | hm2
        · exact hm
        · exfalso
          have hi2 := htl i hm2
          obtain ⟨j, r, hjr⟩ : ∃ j r, lf = j :: r := by
            cases lf with
            | nil => simp at hn
            | cons j r => exact ⟨j, r, rfl⟩
          have hjL := hL j (by rw [hjr]; simp)
          have := tailOk_spec hT hi2.1 hlt (Nat.lt_of_lt_of_le hjL hi2.1)
          exact not_left_of_listed (hW j this) (by rw [hl, hjr]; simp)
      obtain ⟨r1, r2, hlf⟩ := List.append_of_mem hmf
      have hl2 : left ops listed = r1 ++ i :: (r2 ++ tail) := by rw [hl, hlf]; simp
      have hit : itemsOf ops lf = itemsOf ops r1 ++ (banned ops i, o) :: itemsOf ops r2 := by
        rw [hlf]; simp [itemsOf, h2]
      rw [hit] at h
      obtain ⟨s1, t', k1, k2, k3⟩ := move_front (F := banned ops i) (itemsOf ops r1) (fun p hp => by
        obtain ⟨j, hj, hp⟩ := List.mem_filterMap.1 hp
        have hji := left_lt hl2 hj
        have hjl : j ∈ left ops listed := by rw [hl2]; simp [hj]
        have hjs : j < ops.size := by omega
        have hnW : j ∉ W ops i := fun hh => not_left_of_listed (hW j hh) hjl
        have hnW2 : i ∉ W ops j := fun hh => by
          have := ((drawOk_spec hok (Array.getElem?_eq_getElem hjs)).2.1 i hh).1
          omega
        rw [Array.getElem?_eq_getElem hjs] at hp
        simp only [Option.map_some, Option.some.injEq] at hp
        subst hp
        refine ⟨?_, fun d hd => banned_spec (Array.getElem?_eq_getElem hjs) (by omega) hnW hnW2 hd, fun d hd => banned_spec h2 (by omega) hnW2 hnW hd⟩
        rcases (drawOk_spec hok h2).2.2 j hji with hh | ⟨x, hx, hb⟩
        · exact absurd hh hnW
        · rw [Array.getElem?_eq_getElem hjs] at hx; cases hx; exact hb) h hlog
      have hl' := left_set hs hl2
      have hlog' : ∀ p ∈ t'.log, p := fun p hp => hlog p ((k3.log p).1 hp)
      refine step_sound h2 hrel k1 (fun p hp => hlog' p (runOps_log _ k2 p hp)) fun γ' a' w' e hr => ih (r1 ++ r2) (by rw [hlf] at hn; simp at hn ⊢; omega) (listed.setIfInBounds i true) (t := t') (by simp [hs]) (by rw [hl']; simp) (fun j hj => hL j (by rw [hlf]; rcases List.mem_append.1 hj with h | h <;> simp [h])) ?_ ?_ hlog' hr (fun γ'' a'' w'' t'' e' ht hr' => hQ γ'' a'' w'' t'' (e.trans e') (ht.trans k3) hr') _ (by rw [hlf] at hn; simp at hn ⊢; omega)
      · intro j hj k hk
        by_cases hji : j = i
        · subst hji; exact getD_set_true (hW k hk)
        · rw [getD_set_ne false (Ne.symm hji)] at hj
          exact getD_set_true (hcl j hj k hk)
      · have : itemsOf ops (r1 ++ r2) = itemsOf ops r1 ++ itemsOf ops r2 := by simp [itemsOf]
        rw [this]; exact k2

/-- a region that draws, its end by hand -/
theorem region_tail (hmix : P.follows .mixedOrders = true) {id : Nat} {γ : Gh} {s t : St} {a : Act} {w : World} (L : Nat) (hL : L ≤ ops.size) (hok : drawOk ops = true) (hT : tailOk ops L = true) (hrel : Rel γ w0 s a w)
    (h : runOps P call ops (itemsOf ops (List.range L)) s = some t) (hlog : ∀ p ∈ t.log, p)
    (hQ : ∀ γ' a' w', GExt γ γ' → Rel γ' w0 t a' w' → wpOps P ops Q (List.range' L (ops.size - L)) a' w') : (Code.region id ops true).wp P Q a w := by
  have hl : left ops (Array.replicate ops.size false) = List.range L ++ List.range' L (ops.size - L) := by
    have e : left ops (Array.replicate ops.size false) = List.range ops.size := by
      simp only [left]
      refine List.filter_eq_self.2 fun j hj => ?_
      have := List.mem_range.1 hj
      simp [this]
    rw [e, List.range_eq_range', List.range_eq_range']
    have := List.range'_append_1 (s := 0) (m := L) (n := ops.size - L)
    rw [Nat.zero_add] at this
    rw [this]; congr 1; omega
  have key : ∀ w', Rel γ w0 s a w' → wpAny P .any ops Q ops.size (Array.replicate ops.size false) a w' := fun w' hr =>
    any_tail hok hT (tail := List.range' L (ops.size - L)) (fun j hj => by have := List.mem_range'_1.1 hj; omega) (List.range L) (Array.replicate ops.size false) (t := t) (γ := γ) (s := s) (by simp) hl (fun j hj => List.mem_range.1 hj)
      (fun j hj => by
        exfalso
        by_cases hlt : j < ops.size <;> simp [hlt] at hj) h hlog hr (fun γ' a' w' t' e ht hr => hQ γ' a' w' e (hr.eqv ht)) ops.size (by simp; omega)
  exact wp_region_any hmix (key _ (hrel.drew rfl rfl rfl rfl))
end
end Go.Proofs.Ytlekojbcaelpiaa

/- Judgements: down the else branches; a loop at the end. -/
namespace Go.Proofs.Ytlekojbcaelpiaa
open Go.RowKit

/-- down n 'region; if' pairs, by the else branches -/
noncomputable def down (H : Orc) (f : Nat) : Nat → Code → St → Option (Code × St)
  | 0, c, s => some (c, s)
  | n + 1, .seq r (.cond c _ b), s => match runCode Try.prog H (liveOf f) 0 r s with
    | some (.go s') => match s'.eval c with
      | .sc (.bool false) => down H f n b s'
      | _ => none
    | _ => none
  | _ + 1, _, _ => none
theorem down_log {H : Orc} {f : Nat} : ∀ (n : Nat) {c c' : Code} {s s' : St}, down H f n c s = some (c', s') → ∀ p ∈ s.log, p ∈ s'.log
  | 0, c, c', s, s', h, p, hp => by simp only [down, Option.some.injEq, Prod.mk.injEq] at h; obtain ⟨rfl, rfl⟩ := h; exact hp
  | n + 1, c, c', s, s', h, p, hp => by
    unfold down at h
    split at h
    · rename_i h1; cases h1
    · rename_i k r cc a b s0 h1
      cases h1
      split at h
      · rename_i s1 hr
        split at h
        · exact down_log n h p (code_log _ hr p hp)
        · cases h
      · cases h
    · cases h
theorem Judg.down {H : Orc} {f : Nat} {Q : Out → Prop} : ∀ (n : Nat) {c c' : Code} {s s' : St}, Ytlekojbcaelpiaa.down H f n c s = some (c', s') → (∀ p ∈ s'.log, p) → Judg c' s' Q → Judg c s Q
  | 0, c, c', s, s', h, _, k => by simp only [Ytlekojbcaelpiaa.down, Option.some.injEq, Prod.mk.injEq] at h; obtain ⟨rfl, rfl⟩ := h; exact k
  | n + 1, c, c', s, s', h, hl, k => by
    unfold Ytlekojbcaelpiaa.down at h
    split at h
    · rename_i h1; cases h1
    · rename_i k' r cc a b s0 h1
      cases h1
      split at h
      · rename_i s1 hr
        split at h
        · rename_i hc
          exact Judg.seq (Judg.run H (liveOf f) 0 hr (fun p hp => hl p (down_log n h p hp)) (Judg.cond_false hc (Judg.down n h hl k)))
        · cases h
      · cases h
    · cases h
def eR : Code → Code | .seq r _ => r | _ => .skip
def eI : Code → Nat | .seq _ (.block id _) => id | _ => 0
def eB : Code → Code | .seq _ (.block _ (.loop b)) => b | _ => .skip
/-- a loop with nothing behind it -/
theorem Judg.forEnd {ι : Type} (L N : List Nat) (st : ι → St) (μ : ι → Nat) (Pi : ι → Prop) {c : Code} (hc : c = .seq (eR c) (.block (eI c) (.loop (eB c)))) {s s1 : St} {Q : Out → Prop}
    (call : Orc) (live : Nat → Option (List Nat × List Nat)) (hr : runCode Try.prog call live 0 (eR c) s = some (.go s1)) (hl : ∀ p ∈ s1.log, p) (i0 : ι) (h0 : Pi i0) (hs0 : Ytlekojbcaelpiaa.clean L N s1 = st i0)
    (step : ∀ i, Pi i → Judg (eB c) (st i) (fun o => match o with
      | .go s' => ∃ j, Pi j ∧ μ j < μ i ∧ Ytlekojbcaelpiaa.clean L N s' = st j
      | .exit id' s' => if id' = eI c then Q (.go s') else Q (.exit id' s')
      | .ret s' => Q (.ret s'))) : Judg c s Q := by
  rw [hc]
  refine Judg.seq (Judg.run call live 0 hr hl (Judg.block (Judg.loop (fun n s => ∃ i, Pi i ∧ n = μ i ∧ Ytlekojbcaelpiaa.clean L N s = st i) ⟨i0, h0, rfl, hs0⟩ ?_)))
  rintro n s' ⟨i, hi, rfl, hs⟩
  refine (Judg.clean hs (step i hi)).mono fun o ho => ?_
  cases o with
  | go s2 =>
    obtain ⟨j, h1, h2, h3⟩ := ho
    exact ⟨μ j, h2, j, h1, rfl, h3⟩
  | exit id' s2 => exact ho
  | ret s2 => exact ho
theorem Judg.then_ {H : Orc} {f : Nat} {r a b : Code} {c : Operand} {s : St} {Q : Out → Prop} (s' : St) (log : List Prop) (h : runCode Try.prog H (liveOf f) 0 r s = some (.go s')) (hl : s'.log = log) (hp : ∀ p ∈ log, p) (hc : s'.eval c = .sc (.bool true)) (k : Judg a s' Q) : Judg (.seq r (.cond c a b)) s Q :=
  Judg.seq (Judg.run H (liveOf f) 0 h (by show ∀ p ∈ s'.log, p; rw [hl]; exact hp) (Judg.cond_true hc k))
theorem Judg.seq' {H : Orc} {f : Nat} {r b : Code} {s : St} {Q : Out → Prop} (s' : St) (log : List Prop) (h : runCode Try.prog H (liveOf f) 0 r s = some (.go s')) (hl : s'.log = log) (hp : ∀ p ∈ log, p) (k : Judg b s' Q) : Judg (.seq r b) s Q :=
  Judg.seq (Judg.run H (liveOf f) 0 h (by show ∀ p ∈ s'.log, p; rw [hl]; exact hp) k)
/-- parts of code -/
def sX : Code → Code | .seq x _ => x | _ => .skip
def sY : Code → Code | .seq _ y => y | _ => .skip
def bI : Code → Nat | .block id _ => id | _ => 0
def bX : Code → Code | .block _ x => x | _ => .skip
def cO : Code → Operand | .cond o _ _ => o | _ => .tmp 0
def cA : Code → Code | .cond _ a _ => a | _ => .skip
def cB : Code → Code | .cond _ _ b => b | _ => .skip
def elseOf : Nat → Code → Code
  | n + 1, .seq _ (.cond _ _ b) => elseOf n b
  | _, c => c
noncomputable def downSt (H : Orc) (f n : Nat) (c : Code) (s : St) : St := match down H f n c s with | some p => p.2 | none => s
theorem Judg.seqE {c : Code} {s : St} {Q : Out → Prop} (hc : c = .seq (sX c) (sY c)) (h : Judg (sX c) s fun o => match o with | .go s' => Judg (sY c) s' Q | o => Q o) : Judg c s Q := by
  rw [hc]; exact Judg.seq h
theorem Judg.blockE {c : Code} {s : St} {Q : Out → Prop} (hc : c = .block (bI c) (bX c)) (h : Judg (bX c) s fun o => match o with | .exit id' s' => if id' = bI c then Q (.go s') else Q o | o => Q o) : Judg c s Q := by
  rw [hc]; exact Judg.block h
theorem Judg.thenE {c : Code} {s : St} {Q : Out → Prop} (hc : c = .seq (sX c) (.cond (cO (sY c)) (cA (sY c)) (cB (sY c)))) (f : Nat) (H : Orc) (s' : St) (log : List Prop) (h : runCode Try.prog H (liveOf f) 0 (sX c) s = some (.go s')) (hl : s'.log = log) (hp : ∀ p ∈ log, p)
    (ho : s'.eval (cO (sY c)) = .sc (.bool true)) (k : Judg (cA (sY c)) s' Q) : Judg c s Q := by
  rw [hc]; exact Judg.then_ s' log h hl hp ho k
end Go.Proofs.Ytlekojbcaelpiaa

/- A store into a row of one's own; a region whose last operations are looked at by hand. -/
namespace Go.Proofs.Ytlekojbcaelpiaa
open Go.RowKit

section
variable {P : Program} {ops : Array Oper} {Q : Exit → Act → World → Prop}
theorem wpOps_val {i : Nat} {rest : List Nat} {o : Oper} {a : Act} {w w' : World} {c : Value} (ho : ops[i]? = some o) (hg : o.guard = none) (h : (execOp a.eval o).run P w = .ok (.value c) w') (hk : wpOps P ops Q rest (a.put o.dst c) w') : wpOps P ops Q (i :: rest) a w := by
  rw [wpOps_cons]; unfold wpOp; rw [ho]
  have : Region.wanted o (yielded ops a.tmps) = true := by unfold Region.wanted; rw [hg]
  simp only [this, if_true]; exact .inl (wp_value h hk)
theorem wpOps_skip {i : Nat} {rest : List Nat} {o : Oper} {a : Act} {w w' : World} (ho : ops[i]? = some o) (hg : o.guard = none) (h : (execOp a.eval o).run P w = .ok .skip w') (hk : wpOps P ops Q rest (a.put o.dst undef) w') : wpOps P ops Q (i :: rest) a w := by
  rw [wpOps_cons]; unfold wpOp; rw [ho]
  have : Region.wanted o (yielded ops a.tmps) = true := by unfold Region.wanted; rw [hg]
  simp only [this, if_true]; exact .inl (wp_skip_ h hk)
end
def rId : Code → Nat | .region id _ _ => id | _ => 0
def rOps : Code → Array Oper | .region _ ops _ => ops | _ => #[]
theorem Judg.regionTail {c : Code} {s : St} {Q : Out → Prop} (hc : c = .region (rId c) (rOps c) true) (H : Orc) (f L : Nat) (t : St) (hL : L ≤ (rOps c).size) (hok : drawOk (rOps c) = true) (hT : tailOk (rOps c) L = true)
    (h : runOps Try.prog H (rOps c) (itemsOf (rOps c) (List.range L)) s = some t) (hlog : ∀ p ∈ t.log, p)
    (hQ : ∀ γ0 γ w0 a w, GExt γ0 γ → Rel γ w0 t a w → wpOps Try.prog (rOps c) (fun e a' w' => ∃ out, Q out ∧ PostOf γ0 w0 out e a' w') (List.range' L ((rOps c).size - L)) a w) : Judg c s Q := fun γ w0 a w hr => by
  rw [hc]
  exact region_tail (call := H) mixed_ok L hL hok hT hr h hlog fun γ' a' w' hg hr' => hQ γ γ' w0 a' w' hg hr'

/-- nothing in it hangs on the block d, if the block is another -/
def calm (L : List (Nat × Nat)) (d : Nat) : AV → Prop
  | .undef => True
  | .sc _ => True
  | .ptr _ _ => True
  | .row (some (d', _)) size n xs => d' ≠ d ∧ look L d' = some (n * size) ∧ ∃ vs : List Value, xs = vs.map .sc
  | _ => False
theorem calm_keeps {γ : Gh} {L : List (Nat × Nat)} {w : World} {g : Nat} {d : Nat} {cs : Array Value} (hinj : ∀ d d' b, γ.blk d = some b → γ.blk d' = some b → d = d') (hg : γ.blk d = some g) {c : Value} {x : AV} (hx : calm L d x) (h : AVR1 γ L w c x) : AVR1 γ L (w.setRow g cs) c x := by
  cases x with
  | undef => exact trivial
  | sc v => exact h
  | ptr d' o => exact h
  | row tok size n xs =>
    cases tok with
    | none => exact hx.elim
    | some p =>
      obtain ⟨d', e⟩ := p
      obtain ⟨hne, hlen, vs, rfl⟩ := hx
      obtain ⟨hV, hL⟩ := h
      obtain ⟨h1, h2⟩ := hL _ hlen
      have hown := h2 rfl
      have hown' : Own γ (w.setRow g cs) c d' e size n := by
        rcases hown with hn | ⟨us, ho, hb⟩
        · exact .inl hn
        · refine .inr ⟨us, ⟨ho.1, ?_⟩, hb⟩
          rcases ho.2 with hn | ⟨g', cap, cur, rfl, a1, a2, a3⟩
          · exact .inl hn
          · refine .inr ⟨g', cap, cur, rfl, a1, ?_, a3⟩
            rw [setRow_other w g g' cs (fun e => by subst e; exact hne (hinj _ _ _ (hb g' rfl) hg))]; exact a2
      refine ⟨?_, fun len hl => ⟨(hL len hl).1, fun he => hown'⟩⟩
      obtain ⟨A, cap, rfl, k1, k2, k3, k4⟩ := hV
      refine ⟨A, cap, rfl, k1, k2, k3, fun hn => ?_⟩
      obtain ⟨b, o, rfl, hc⟩ := k4 hn
      have hbne : b ≠ g := by
        rcases hown with ⟨A, e1, e2⟩ | ⟨us, ho, hb⟩
        · omega
        · intro e; subst e
          exact hne (hinj _ _ _ (hb b rfl) hg)
      refine ⟨b, o, rfl, VC.of_at fun i x hx => ?_⟩
      obtain ⟨u, q1, q2, q3, q4⟩ := hc.at_ hx
      refine ⟨u, by rw [setRow_cell_other w g cs hbne]; exact q1, q2, q3, ?_⟩
      rw [List.getElem?_map] at hx
      cases hv : vs[i]? with
      | none => rw [hv] at hx; cases hx
      | some v => rw [hv] at hx; cases hx; exact q4
  | mt => exact hx.elim
  | agg _ => exact hx.elim
  | tup _ => exact hx.elim
  | rptr _ => exact hx.elim

/-- the row d with other cells -/
def repl1 (d : Nat) (ys : List AV) : AV → AV
  | .row (some (d', e)) size n xs => match Nat.beq d' d with | true => .row (some (d', e)) size n ys | false => .row (some (d', e)) size n xs
  | x => x
theorem AVRL.map_ {γ γ' : Gh} {L L' : List (Nat × Nat)} {w w' : World} (f : AV → AV) : ∀ {xs : List AV} {cs : List Value}, (∀ x ∈ xs, ∀ c, AVR1 γ L w c x → AVR1 γ' L' w' c (f x)) → AVRL γ L w cs xs → AVRL γ' L' w' cs (xs.map f)
  | [], _, _, h => h
  | x :: xs, _, hf, ⟨c, cs', e, h1, h2⟩ => ⟨c, cs', e, hf x (by simp) c h1, AVRL.map_ f (fun y hy => hf y (by simp [hy])) h2⟩
/-- A store into the row d of one's own: nobody else may look at it. -/
theorem Rel.setOwn {γ : Gh} {w0 w : World} {s : St} {a : Act} (h : Rel γ w0 s a w) {d e size n : Nat} {vs : List Value} {c : Value} (hc : AVR1 γ s.lens w c (.row (some (d, e)) size n (vs.map .sc))) (hlen : look s.lens d = some (n * size)) {off : Nat} (hoff : off < n * size) {v : Value} (hv : v.oneCell' = true)
    (hs : ∀ t x, look s.slots t = some x → calm s.lens d x)
    (ho : ∀ d' ty xs, look s.objs d' = some (ty, xs) → ∀ x ∈ xs, calm s.lens d x ∨ x = .row (some (d, e)) size n (vs.map .sc)) :
    ∃ g cap w', c = .slice (some ⟨g, 0, none⟩) n cap ∧ (storeCells ⟨g, off, none⟩ [v] 0).run Try.prog w = .ok () w' ∧
      Rel γ w0 { s with objs := s.objs.map fun p => (p.1, (p.2.1, p.2.2.map (repl1 d ((vs.set off v).map .sc)))) } a w' := by
  obtain ⟨hV, hL⟩ := hc
  have hown := (hL _ hlen).2 rfl
  have hn0 : 0 < n := by
    rcases Nat.eq_zero_or_pos n with h0 | h0
    · subst h0; omega
    · exact h0
  rcases hown with ⟨A, e1, e2⟩ | ⟨us, ho', hb⟩
  · omega
  have hus := own_VL ho' hV
  rw [VL_sc] at hus
  obtain ⟨hus, hone⟩ := hus
  obtain rfl : vs = us := hus.symm
  rcases ho'.2 with ⟨_, e2⟩ | ⟨g, cap, cur, rfl, b1, b2, b3, b4, b5, b6⟩
  · omega
  have hblk := hb g rfl
  have hcs : off + 0 + [v].length ≤ cur.size := by
    rw [b5]; simp only [List.length_cons, List.length_nil]
    have : n * size ≤ cap * size := Nat.mul_le_mul_right _ b3
    omega
  have hrun := run_storeCells_at (P := Try.prog) g off e [v] 0 cur w b2 hcs (fun u hu => by rw [List.mem_singleton.1 hu]; exact hv)
  refine ⟨g, cap, _, rfl, hrun, ?_⟩
  generalize hcs' : (cur.toList.take (off + 0) ++ [v] ++ cur.toList.drop (off + 0 + [v].length)) = ls at hrun ⊢
  have hls : ls = cur.toList.set off v := by
    rw [← hcs', List.set_eq_take_append_cons_drop, if_pos (by simp at hcs ⊢; omega)]; simp
  have hsz : (w.setRow g ls.toArray).heap.size = w.heap.size := by simp [World.setRow]
  have hvlen : vs.length = n * size := ho'.1
  -- the row, in the new world
  have hrow : ∀ c', AVR1 γ s.lens w c' (.row (some (d, e)) size n (vs.map .sc)) → AVR1 γ s.lens (w.setRow g ls.toArray) c' (.row (some (d, e)) size n ((vs.set off v).map .sc)) := fun c' hc' => by
    obtain ⟨hV', hL'⟩ := hc'
    have hown' := (hL' _ hlen).2 rfl
    rcases hown' with ⟨A, e1, e2⟩ | ⟨us', ho2, hb2⟩
    · omega
    rcases ho2.2 with ⟨_, e2⟩ | ⟨g', cap', cur', rfl, d1, d2, d3, d4, d5, d6⟩
    · omega
    have : g' = g := by have := hb2 g' rfl; rw [hblk] at this; exact (Option.some.inj this).symm
    subst this
    rw [b2] at d2; cases d2
    have hown3 : (w.setRow g' ls.toArray).ownsRow γ.base e size (.slice (some ⟨g', 0, none⟩) n cap') n (vs.set off v) := by
      refine ⟨by simp [hvlen], .inr ⟨g', cap', ls.toArray, rfl, d1, setRow_heap w g' cur ls.toArray e (0, 0) b2, d3, d4, by rw [hls]; simpa using d5, ?_⟩⟩
      rw [hls]
      simp only
      rw [List.take_set, b6]
    obtain ⟨A, cap2, e3, k1, k2, k3, k4⟩ := hV'
    cases e3
    obtain ⟨b, o, e4, hcell⟩ := k4 hn0
    cases e4
    refine ⟨V_own hown3 k1 k2 (VL_sc.2 rfl) ?_ ?_ _, fun len hl => ⟨(hL' len hl).1, fun _ => .inr ⟨_, hown3, hb2⟩⟩⟩
    · intro u hu
      rcases List.mem_or_eq_of_mem_set hu with hu | rfl
      · exact hone u hu
      · exact hv
    · intro i hi
      obtain ⟨u, q1, q2, q3, q4⟩ := hcell.at_ (i := i) (x := .sc (vs[i]'(by omega))) (by simp [List.getElem?_eq_getElem (show i < vs.length by omega)])
      simpa using q2
  refine ⟨h.size, h.defers, h.below.trans (setRow_below _ b1), by rw [hsz]; exact h.base, fun t x hx => ?_, fun d' ty xs hx => ?_, h.len, h.inj, by rw [hsz]; exact h.blt, by rw [hsz]; exact h.plt, fun k o hk => ⟨by rw [setRow_other w g k _ (fun e => by subst e; exact (h.frm _ o hk).2 d hblk)]; exact (h.frm k o hk).1, (h.frm k o hk).2⟩⟩
  · have hcx := hs t x hx
    have := h.slot t x hx
    refine AVR.of_AVR1 (fun zs hz => by subst hz; exact hcx) (calm_keeps h.inj hblk hcx (this.plain1 (fun zs hz => by subst hz; exact hcx)))
  · have hl : look (s.objs.map fun p => (p.1, (p.2.1, p.2.2.map (repl1 d ((vs.set off v).map .sc))))) d' = (look s.objs d').map fun p => (p.1, p.2.map (repl1 d ((vs.set off v).map .sc))) := look_map' (fun p : Nat × List AV => (p.1, p.2.map (repl1 d ((vs.set off v).map .sc)))) s.objs d'
    rw [hl] at hx
    cases hq : look s.objs d' with
    | none => rw [hq] at hx; cases hx
    | some p =>
      obtain ⟨ty', ys⟩ := p
      rw [hq] at hx
      cases hx
      obtain ⟨k1, b, cs, k2, k3, k4, k5, k6, k7⟩ := h.obj d' ty' ys hq
      have hbg : b ≠ g := fun e => by
        subst e
        have := h.inj d' d b k2 hblk
        subst this
        rw [k1] at hlen; cases hlen
      refine ⟨k1, b, cs, k2, k3, by rw [setRow_other w g b _ hbg]; exact k4, AVRL.map_ _ (fun x hx c hcx => ?_) k5, k6, k7⟩
      rcases ho d' ty' ys hq x hx with hcalm | rfl
      · have : repl1 d ((vs.set off v).map .sc) x = x := by
          cases x with
          | row tok size n xs =>
            cases tok with
            | none => rfl
            | some p =>
              have hne := hcalm.1
              simp only [repl1]
              have : Nat.beq p.1 d = false := by rw [← Bool.not_eq_true, Nat.beq_eq]; exact hne
              rw [this]
          | _ => rfl
        rw [this]
        exact calm_keeps h.inj hblk hcalm hcx
      · simp only [repl1]
        have : Nat.beq d d = true := by simp
        rw [this]
        exact hrow c hcx
end Go.Proofs.Ytlekojbcaelpiaa

/- nil as an empty row of one's own. -/
namespace Go.Proofs.Ytlekojbcaelpiaa
open Go.RowKit

theorem Rel.nilName {γ : Gh} {w0 w : World} {s : St} {a : Act} (h : Rel γ w0 s a w) {d : Nat} (hd : s.absent d = true) :
    ∃ γ', GExt γ γ' ∧ Rel γ' w0 { s with lens := (d, 0) :: s.lens } a w := by
  have ha := Absent.of hd
  have h1 := h.name ha none (fun b hb => by cases hb) (fun b hb => by cases hb)
  have h2 := h1.setLen (len := 0) ha (fun g hg => by simp at hg)
  exact ⟨{ γ with blk := fun d' => if d' = d then none else γ.blk d' }, ⟨rfl, fun _ _ _ hp => hp, rfl⟩, h2⟩
theorem nil_row {γ : Gh} {L : List (Nat × Nat)} {w : World} {d e size : Nat} (hL : look L d = some 0) : AVR1 γ L w (.slice none 0 0) (.row (some (d, e)) size 0 []) := by
  refine ⟨⟨none, 0, rfl, Nat.le_refl _, by simp [maxLen], by simp, fun hn => absurd hn (by omega)⟩, fun len hl => ?_⟩
  rw [hL] at hl; cases hl
  exact ⟨by simp, fun _ => .inl ⟨none, rfl, rfl⟩⟩
/-- a slot that holds nil -/
theorem Judg.nilSlot (t d e size : Nat) {c : Code} {s : St} {Q : Out → Prop} (ht : look s.slots t = some (.sc (.slice none 0 0))) (hd : s.absent d = true)
    (k : Judg c { s with slots := (t, .row (some (d, e)) size 0 []) :: s.slots, lens := (d, 0) :: s.lens } Q) : Judg c s Q := fun γ w0 a w hr => by
  obtain ⟨γ', hg, hr'⟩ := hr.nilName hd
  have hv : a.tmps.getD t undef = .slice none 0 0 := hr.slot t _ ht
  have hr2 : Rel γ' w0 { s with slots := (t, .row (some (d, e)) size 0 []) :: s.slots, lens := (d, 0) :: s.lens } a w := by
    refine ⟨hr'.size, hr'.defers, hr'.below, hr'.base, fun t' x hx => ?_, hr'.obj, hr'.len, hr'.inj, hr'.blt, hr'.plt, hr'.frm⟩
    simp only [look_cons] at hx
    split at hx
    · rename_i e; subst e; cases hx
      rw [hv]
      exact AVR.of_AVR1 (by simp) (nil_row (by simp [look_cons]))
    · exact hr'.slot t' x hx
  exact wp_mono (k γ' w0 a w hr2) fun e a w ⟨o, q, p⟩ => ⟨o, q, p.trans hg⟩
/-- a cell of a box that holds nil -/
theorem Judg.nilCell (b i d e size : Nat) {c : Code} {s : St} {Q : Out → Prop} {ty : Nat} {xs : List AV} (ht : look s.objs b = some (ty, xs)) (hi : xs[i]? = some (.sc (.slice none 0 0))) (hd : s.absent d = true)
    (k : Judg c { s with objs := (b, (ty, xs.set i (.row (some (d, e)) size 0 []))) :: s.objs, lens := (d, 0) :: s.lens } Q) : Judg c s Q := fun γ w0 a w hr => by
  obtain ⟨γ', hg, hr'⟩ := hr.nilName hd
  have hr2 : Rel γ' w0 { s with objs := (b, (ty, xs.set i (.row (some (d, e)) size 0 []))) :: s.objs, lens := (d, 0) :: s.lens } a w := by
    refine ⟨hr'.size, hr'.defers, hr'.below, hr'.base, hr'.slot, fun d' ty' ys hx => ?_, hr'.len, hr'.inj, hr'.blt, hr'.plt, hr'.frm⟩
    simp only [look_cons] at hx
    split at hx
    · rename_i e1; subst e1
      simp only [Option.some.injEq, Prod.mk.injEq] at hx
      obtain ⟨rfl, rfl⟩ := hx
      obtain ⟨k1, b', cs, k2, k3, k4, k5, k6, k7⟩ := hr'.obj b ty xs ht
      refine ⟨k1, b', cs, k2, k3, k4, AVRL.of_at (by simp [k5.length]) fun j x c hx hc => ?_, k6, k7⟩
      rw [List.getElem?_set] at hx
      split at hx
      · rename_i e2; subst e2
        split at hx
        · cases hx
          obtain ⟨c', q1, q2⟩ := k5.at_ hi
          rw [hc] at q1; cases q1
          have : c = .slice none 0 0 := q2
          rw [this]
          exact nil_row (by simp [look_cons])
        · cases hx
      · obtain ⟨c', q1, q2⟩ := k5.at_ hx
        rw [hc] at q1; cases q1; exact q2
    · exact hr'.obj d' ty' ys hx
  exact wp_mono (k γ' w0 a w hr2) fun e a w ⟨o, q, p⟩ => ⟨o, q, p.trans hg⟩
end Go.Proofs.Ytlekojbcaelpiaa

/- The function's answer, weakened on each way. -/
namespace Go.Proofs.Ytlekojbcaelpiaa
open Go.RowKit
/-- what reads as r' reads as r -/
def ResImp (r' r : Res) : Prop := ∀ (B : Nat) (pr : Nat → Nat → Prop) (w : World) (c : Value), V pr w c r'.v → (∀ e, r'.own = some e → OwnRes B pr w e c r'.v) → V pr w c r.v ∧ ∀ e, r.own = some e → OwnRes B pr w e c r.v
theorem ResImp.refl (r : Res) : ResImp r r := fun _ _ _ _ h k => ⟨h, k⟩
theorem ResImp.nil {size e : Nat} : ResImp (plainR (.sc (.slice none 0 0))) { v := .row none size 0 [], own := some e } := fun B pr w c h _ => by
  have hc : c = .slice none 0 0 := h
  subst hc
  exact ⟨⟨none, 0, rfl, Nat.le_refl _, by simp [maxLen], by simp, fun h => absurd h (by omega)⟩, fun e he => .inl ⟨none, rfl, rfl⟩⟩
/-- several results, the first of them nil -/
theorem ResImp.nilTup {size e : Nat} {xs : List AV} : ResImp (plainR (.tup (.sc (.slice none 0 0) :: xs))) { v := .tup (.row none size 0 [] :: xs), own := some e } := fun B pr w c h _ => by
  obtain ⟨cs, rfl, h⟩ := h
  obtain ⟨c0, cs', rfl, h0, h1⟩ := h
  have hc : c0 = .slice none 0 0 := h0
  subst hc
  refine ⟨⟨_, rfl, _, _, rfl, ⟨none, 0, rfl, Nat.le_refl _, by simp [maxLen], by simp, fun h => absurd h (by omega)⟩, h1⟩, fun e he c0 cs0 hc => ?_⟩
  have hc' : Value.slice none 0 0 = c0 := by
    injection hc with hc
    have := congrArg Array.toList hc
    simp at this; exact this.1
  subst hc'
  exact .inl ⟨none, rfl, rfl⟩
theorem ResImp.noOwn {v : AV} {o : Option Nat} : ResImp { v, own := o } (plainR v) := fun _ _ _ _ h _ => ⟨h, fun e he => by cases he⟩
section
variable {P : Program}
theorem body_judgW {f : Nat} {fn : Func} {c : Code} {args : List AV} {r : Res} {Q : Out → Prop} (hf : P.funcs[f]? = some fn) (hname : (fn.name == "runtime.NumGoroutine") = false) (hb : fn.body = some c) (hle : args.length ≤ fn.ntmps)
    (J : ∀ {γ : Gh} {a : Act} {w : World}, Rel γ w (start args fn.ntmps) a w → c.wp P (fun e a' w' => ∃ out, Q out ∧ PostOf γ w out e a' w') a w)
    (hQ : ∀ out, Q out → ∃ s1 l r', ResImp r' r ∧ (out = .go s1 ∨ out = .ret s1) ∧ (resVals P s1 fn.results.toList).bind (resOf s1) = some (r', l) ∧ ∀ p ∈ l, p) : Ok P f args r := by
  refine ⟨⟨fn, hf, hname, by rw [hb]; rfl⟩, fun w pr cs hpr hargs => ?_⟩
  refine calls_of_wp hf hb ?_
  have hlen := hargs.length
  have hrel : Rel { base := w.heap.size, pr := pr, blk := fun _ => none } w (start args fn.ntmps) { tmps := cs.toArray ++ Array.replicate (fn.ntmps - cs.toArray.size) undef, defers := [] } w := by
    refine ⟨?_, rfl, Below.refl _ _, Nat.le_refl _, fun t x hx => ?_, fun d ty xs hx => by simp [start, look] at hx, fun d len g hl => by simp [start, look] at hl, fun d d' b hd => by simp at hd, fun d b hd => by simp at hd, hpr, fun k o h => by cases h⟩
    · simp [start]; omega
    · have hx' := look_zip args 0 t (x := x) (by simpa [start] using hx)
      obtain ⟨u, k1, k2⟩ := hargs.at_ (i := t) (by simpa using hx'.2)
      have : (cs.toArray ++ Array.replicate (fn.ntmps - cs.toArray.size) undef).getD t undef = u := by
        have hlt : t < cs.length := (List.getElem?_eq_some_iff.1 k1).1
        have hg : cs[t] = u := (List.getElem?_eq_some_iff.1 k1).2
        have h2 : t < (cs.toArray ++ Array.replicate (fn.ntmps - cs.toArray.size) undef).size := by simp; omega
        rw [Array.getD, dif_pos h2]
        simp [Array.getElem_append, hlt, hg]
      simp only [start]
      rw [this]
      exact AVR.nil_of_V k2
  -- behind the body
  have fin : ∀ (r : Res) (s1 : St) (l' : List Prop) (γ' : Gh) (a' : Act) (w' : World), (resVals P s1 fn.results.toList).bind (resOf s1) = some (r, l') → (∀ p ∈ l', p) → GExt { base := w.heap.size, pr := pr, blk := fun _ => none } γ' → Rel γ' w s1 a' w' →
      a'.defers = [] ∧ ∃ v, (results fn a'.tmps).run P w' = .ok v w' ∧ ∃ c pr', Ending.returned v = .returned c ∧ Below w.heap.size w w' ∧ (∀ b i, pr' b i → b < w'.heap.size) ∧ (∀ b i, b < w.heap.size → pr' b i → pr b i) ∧ V pr' w' c r.v ∧ ∀ e, r.own = some e → OwnRes w.heap.size pr' w' e c r.v := by
    intro r s1 l' γ' a' w' hres hown hg hr
    refine ⟨hr.defers, ?_⟩
    simp only [Option.bind_eq_some_iff] at hres
    obtain ⟨xs, hxs, hres⟩ := hres
    obtain ⟨vs, k1, k2⟩ := results_run (P := P) hr fn.results.toList hxs
    have hbase : γ'.base = w.heap.size := hg.base
    have hrun2 : (results fn a'.tmps).run P w' = .ok (if h : vs.toArray.size = 1 then vs.toArray[0] else .tuple vs.toArray) w' := by
      have hm : fn.results.mapM (fun r : ResultVar => match r with | .tmp t => (pure (a'.tmps.getD t undef) : Sem Value) | .cell b t => do loadVar t (← asAddr (a'.tmps.getD b undef))) =
          Functor.map List.toArray (fn.results.toList.mapM (fun r : ResultVar => match r with | .tmp t => (pure (a'.tmps.getD t undef) : Sem Value) | .cell b t => do loadVar t (← asAddr (a'.tmps.getD b undef)))) := Array.mapM_eq_mapM_toList ..
      have hm2 : (fn.results.mapM (fun r : ResultVar => match r with | .tmp t => (pure (a'.tmps.getD t undef) : Sem Value) | .cell b t => do loadVar t (← asAddr (a'.tmps.getD b undef)))).run P w' = .ok vs.toArray w' := by
        rw [hm, map_eq_pure_bind, Sem.run_bind]
        exact (congrArg (fun r => Result.andThen r _) k2).trans (by simp only [Result.andThen_ok, Sem.run_pure])
      unfold results
      simp only [Sem.run_bind]
      refine Eq.trans (congrArg (fun r => Result.andThen r _) hm2) ?_
      simp only [Result.andThen_ok, Sem.run_pure]
    rw [hrun2]
    refine ⟨_, rfl, _, γ'.pr, rfl, by rw [← hbase]; exact hr.below, hr.plt, fun b i hb hp => hg.old b i hb hp, ?_⟩
    have one : ∀ (x : AV) (v : Value), AVR γ' s1.lens w' v x → ∀ e p, ownOf s1 x = some (e, p) → p → OwnRow w.heap.size γ'.pr w' e v (plain1 x) := fun x v h1 e p he hp => by
      have := own_row hr h1 he hp
      rw [hbase] at this; exact this
    unfold resOf at hres
    split at hres
    · rename_i x
      simp only [AVRs] at k1
      obtain ⟨v, vs', rfl, h1, rfl⟩ := k1
      have e2 : ∀ e, OwnRow w.heap.size γ'.pr w' e v (plain1 x) → OwnRes w.heap.size γ'.pr w' e v (plain1 x) := fun e => by
        cases x <;> exact fun h => h
      split at hres
      · rename_i e p ho
        cases hres
        refine ⟨by simpa using h1.plain1', fun e he => ?_⟩
        cases he
        simpa using e2 _ (one x v h1 e p ho (hown p (by simp)))
      · cases hres
        exact ⟨by simpa using h1.plain1', fun e he => by cases he⟩
    · cases hres
      simp only [AVRs] at k1
      subst k1
      exact ⟨by simp [V, VL], fun e he => by cases he⟩
    · rename_i x y l
      have hpl := k1.plain
      have hsz : vs.length = l.length + 2 := by rw [hpl.length]; simp
      have hne : ¬ vs.toArray.size = 1 := by simp; omega
      rw [dif_neg hne]
      split at hres
      · rename_i e p ho
        cases hres
        refine ⟨⟨vs, rfl, hpl⟩, fun e he c0 cs0 hc => ?_⟩
        cases he
        simp only [AVRs] at k1
        obtain ⟨v, vs', rfl, h1, _⟩ := k1
        have hc' : v = c0 := by
          injection hc with hc
          have := congrArg Array.toList hc
          simp at this; exact this.1
        subst hc'
        exact one x v h1 e p ho (hown p (by simp))
      · cases hres
        exact ⟨⟨vs, rfl, hpl⟩, fun e he => by cases he⟩
  refine wp_mono (J hrel) fun e a' w' hp => ?_
  obtain ⟨out, hq, hp⟩ := hp
  obtain ⟨s1, l', r', himp, hout, hres, hown⟩ := hQ out hq
  have fin : ∀ (s1 : St) (l' : List Prop) (γ' : Gh) (a' : Act) (w' : World), (resVals P s1 fn.results.toList).bind (resOf s1) = some (r', l') → (∀ p ∈ l', p) → GExt { base := w.heap.size, pr := pr, blk := fun _ => none } γ' → Rel γ' w s1 a' w' →
      a'.defers = [] ∧ ∃ v, (results fn a'.tmps).run P w' = .ok v w' ∧ ∃ c pr', Ending.returned v = .returned c ∧ Below w.heap.size w w' ∧ (∀ b i, pr' b i → b < w'.heap.size) ∧ (∀ b i, b < w.heap.size → pr' b i → pr b i) ∧ V pr' w' c r.v ∧ ∀ e, r.own = some e → OwnRes w.heap.size pr' w' e c r.v := by
    intro s1 l' γ' a' w' h1 h2 h3 h4
    obtain ⟨q1, v, q2, c, pr', q3, q4, q5, q6, q7, q8⟩ := fin r' s1 l' γ' a' w' h1 h2 h3 h4
    obtain ⟨q9, q10⟩ := himp _ _ _ _ q7 q8
    exact ⟨q1, v, q2, c, pr', q3, q4, q5, q6, q9, q10⟩
  cases e with
  | normal =>
    obtain ⟨s2, γ2, e2, hg, hr⟩ := hp
    have : s2 = s1 := by rcases hout with h | h <;> rw [h] at e2 <;> cases e2; rfl
    subst this
    exact fin s2 l' γ2 a' w' hres hown hg hr
  | ret =>
    obtain ⟨s2, γ2, e2, hg, hr⟩ := hp
    have : s2 = s1 := by rcases hout with h | h <;> rw [h] at e2 <;> cases e2; rfl
    subst this
    exact fin s2 l' γ2 a' w' hres hown hg hr
  | exit id => obtain ⟨s2, γ2, e2, hg, hr⟩ := hp; rcases hout with h | h <;> rw [h] at e2 <;> cases e2
  | _ => exact hp.elim

end
/-- the function's answer, weakened on each way -/
def Fin (fn : Func) (r : Res) (out : Out) : Prop := ∃ s1 l r', ResImp r' r ∧ (out = .go s1 ∨ out = .ret s1) ∧ (resVals Try.prog s1 fn.results.toList).bind (resOf s1) = some (r', l) ∧ ∀ p ∈ l, p
theorem Ok.judgW {f : Nat} {fn : Func} {c : Code} {args : List AV} {r : Res} (hf : Try.prog.funcs[f]? = some fn) (hb : fn.body = some c) (hle : args.length ≤ fn.ntmps)
    (J : Judg c (start args fn.ntmps) (Fin fn r)) : Ok Try.prog f args r :=
  body_judgW (Q := Fin fn r) hf (names_ok f fn hf) hb hle (fun hr => J _ _ _ _ hr) fun _ h => h
theorem fin_retW {fn : Func} {r r' : Res} {l : List Prop} (s1 : St) (h : (resVals Try.prog s1 fn.results.toList).bind (resOf s1) = some (r', l)) (hl : ∀ p ∈ l, p) (hi : ResImp r' r) : Fin fn r (.ret s1) := ⟨s1, l, r', hi, .inr rfl, h, hl⟩
theorem Ok.imp {f : Nat} {args : List AV} {r' r : Res} (h : Ok Try.prog f args r') (hi : ResImp r' r) : Ok Try.prog f args r :=
  ⟨h.1, fun w pr cs hp hv => (h.2 w pr cs hp hv).mono fun x w' ⟨c, pr', a1, a2, a3, a4, a5, a6⟩ => by
    obtain ⟨q1, q2⟩ := hi _ _ _ _ a5 a6
    exact ⟨c, pr', a1, a2, a3, a4, q1, q2⟩⟩
end Go.Proofs.Ytlekojbcaelpiaa

/- Regions within a round of a range over a function; what nobody touches. -/
namespace Go.Proofs.Ytlekojbcaelpiaa
open Go.RowKit

section
variable {P : Program} {ops : Array Oper} {Q : Exit → Act → World → Prop} {l n : Nat}
abbrev RF (l : Nat) : Fence := Fence.wide.inRound l
theorem oper_in {o : Oper} {a : Act} {w : World} {K : Act → World → Prop} (hd : ∀ c, o.op ≠ .defer c) (hr : ∀ row args w', (execOp a.eval o).run P w ≠ .ok (.row row args) w') (h : o.wp P a w K Q) : o.wpIn (RF l) n P a w K Q := by
  refine ⟨fun _ _ => trivial, ?_⟩
  show o.uponIn (RF l) n P a K Q ((o.semAt (some l) a.eval).run P w)
  rw [Oper.semAt_some l a.eval o hd]
  unfold Oper.wp at h
  generalize hres : (execOp a.eval o).run P w = r at h hr
  cases r with
  | ok x w' =>
    cases x <;> simp only [Oper.upon, Oper.uponIn] at h ⊢ <;> try exact h
    case enter f args =>
      refine ⟨fun h => Bool.noConfusion h, CallsIn.inRound l (callsIn_wide.2 ?_)⟩
      exact h.mono fun e w'' he => by cases e <;> exact he
    case row row args => exact absurd rfl (hr row args w')
  | halt x w' => cases x <;> simp only [Oper.upon, Oper.uponIn] at h ⊢ <;> exact h
/-- an operation that gives no row of the library's -/
def noRow (o : Oper) : Bool := match o.op with
  | .defer _ => false
  | .call c => match c.callee with | .builtin .append => true | .builtin .len => true | _ => false
  | .load .. | .store .. | .move _ | .assign _ | .fieldAddr .. | .indexAddr .. | .build .. | .buildSlice .. => true
  | _ => false
theorem value_only {α : Type} {m : Sem α} {f : α → Value} {w w' : World} {x : Next} (h : (do pure (Next.value (f (← m))) : Sem Next).run P w = .ok x w') : ∃ v, x = .value v := by
  rw [Sem.run_bind] at h
  cases hm : m.run P w with
  | ok a w2 => rw [hm] at h; simp only [Result.andThen_ok, Sem.run_pure] at h; cases h; exact ⟨_, rfl⟩
  | halt a w2 => rw [hm] at h; cases h
theorem unit_only {m : Sem Unit} {w w' : World} {x : Next} (h : (do m; pure Next.skip : Sem Next).run P w = .ok x w') : x = .skip := by
  rw [Sem.run_bind] at h
  cases hm : m.run P w with
  | ok a w2 => rw [hm] at h; simp only [Result.andThen_ok, Sem.run_pure] at h; cases h; rfl
  | halt a w2 => rw [hm] at h; cases h
theorem noRow_spec {o : Oper} (h : noRow o = true) : (∀ c, o.op ≠ .defer c) ∧ ∀ (ρ : Operand → Value) w row args w', (execOp ρ o).run P w ≠ .ok (.row row args) w' := by
  refine ⟨fun c hc => (by unfold noRow at h; rw [hc] at h; cases h), fun ρ w row args w' he => ?_⟩
  unfold noRow at h
  split at h
  · cases h
  · rename_i c hc
    split at h
    · rename_i hcal
      have : (execOp ρ o).run P w = (do pure (Next.value (← Builtin.append_ c.argTypes o.type (c.args.map ρ))) : Sem Next).run P w := by
        simp only [execOp, hc, resolve, hcal, Sem.run_bind, Sem.run_pure, Result.andThen_ok, invoke]; simp only [builtin, Sem.run_bind, Sem.run_pure]
      rw [this] at he
      obtain ⟨v, hv⟩ := value_only (f := id) he
      cases hv
    · rename_i hcal
      have : (execOp ρ o).run P w = (do pure (Next.value (← Builtin.len_ c.argTypes o.type (c.args.map ρ))) : Sem Next).run P w := by
        simp only [execOp, hc, resolve, hcal, Sem.run_bind, Sem.run_pure, Result.andThen_ok, invoke]; simp only [builtin, Sem.run_bind, Sem.run_pure]
      rw [this] at he
      obtain ⟨v, hv⟩ := value_only (f := id) he
      cases hv
    · cases h
  all_goals first
    | (rename_i hop; simp only [execOp, hop] at he; obtain ⟨v, hv⟩ := value_only (f := id) he; cases hv)
    | (rename_i hop; simp only [execOp, hop] at he; have hv := unit_only he; cases hv)
    | (rename_i hop; simp only [execOp, hop, Sem.run_pure] at he; cases he)
    | cases h
theorem anyIn_of_any (hQ : ∀ a w, ¬ Q .outgrown a w) (hops : ∀ (i : Nat) (o : Oper), ops[i]? = some o → noRow o = true) : ∀ (fuel : Nat) (listed : Array Bool) (a : Act) (w : World), wpAny P .any ops Q fuel listed a w → wpAnyIn (RF l) n P .any ops Q fuel listed a w
  | 0, _, _, _, h => h
  | fuel + 1, listed, a, w, h => by
    refine ⟨h.1, fun i hi => ?_⟩
    have h1 := h.2 i hi
    unfold wpOp at h1
    unfold wpOpIn
    cases ho : ops[i]? with
    | none => rw [ho] at h1; exact anyIn_of_any hQ hops fuel _ _ _ h1
    | some o =>
      rw [ho] at h1
      simp only at h1 ⊢
      split
      · rename_i hw
        rw [if_pos hw] at h1
        obtain ⟨k1, k2⟩ := noRow_spec (P := P) (hops i o ho)
        rcases h1 with h1 | ⟨_, b, w2, hb⟩
        · exact Oper.wpIn_mono (fun a' w' hh => anyIn_of_any hQ hops fuel _ _ _ hh) (oper_in k1 (k2 a.eval w) h1)
        · exact absurd hb (hQ _ _)
      · rename_i hw
        rw [if_neg hw] at h1
        exact ⟨fun _ _ => trivial, anyIn_of_any hQ hops fuel _ _ _ h1⟩
end
/-- a region that draws, within a round -/
theorem region_round {P : Program} {call : Orc} {ops : Array Oper} {w0 w : World} {γ : Gh} {s t : St} {a : Act} {Q : Exit → Act → World → Prop} {l n id : Nat} (hmix : P.follows .mixedOrders = true) (hrel : Rel γ w0 s a w) (h : runRegion P call ops true s = some t) (hlog : ∀ p ∈ t.log, p)
    (hQ0 : ∀ a w, ¬ Q .outgrown a w) (hops : ops.toList.all noRow = true) (hQ : ∀ γ' a' w', GExt γ γ' → Rel γ' w0 t a' w' → Q .normal a' w') : (Code.region id ops true).wpIn (RF l) n P Q a w := by
  simp only [runRegion] at h
  split at h
  case h_2 => cases h
  rename_i hok
  have hl : left ops (Array.replicate ops.size false) = List.range ops.size := by
    simp only [left]
    refine List.filter_eq_self.2 fun j hj => ?_
    have := List.mem_range.1 hj
    simp [this]
  refine wpIn_region_any hmix (anyIn_of_any hQ0 (fun i o ho => List.all_eq_true.1 hops o (by rw [Array.mem_toList_iff]; exact Array.mem_of_getElem? ho)) _ _ _ _ (any_sound hok ops.size (Array.replicate ops.size false) (t := t) (γ := γ) (s := s) (by simp) (by rw [hl]; simp) ?_ (by rw [hl]; exact h) hlog (hrel.drew rfl rfl rfl rfl) ?_))
  · intro j hj
    exfalso
    by_cases hlt : j < ops.size <;> simp [hlt] at hj
  · exact fun γ' a' w' t' e ht hr => hQ γ' a' w' e (hr.eqv ht)

section
variable {γ : Gh} {w0 w w' : World} {s : St} {a : Act}
/-- from here on the blocks of f are not touched -/
theorem Rel.freeze (h : Rel γ w0 s a w) (f : Nat → Option Obj) (hf : ∀ k o, f k = some o → w.heap[k]? = some o ∧ ∀ d, γ.blk d ≠ some k) : Rel { γ with fr := f } w0 s a w := by
  refine ⟨h.size, h.defers, h.below, h.base, fun t x hx => ?_, fun d ty xs hx => ?_, h.len, h.inj, h.blt, h.plt, hf⟩
  · exact (h.slot t x hx).frame (γ := γ) (γ' := { γ with fr := f }) (L' := s.lens) (w' := w) rfl (fun b i u hp hc => ⟨hp, hc⟩) fun d _ => .inl ⟨rfl, rfl, fun _ _ _ => rfl⟩
  · obtain ⟨k1, b, cs, k2, k3, k4, k5, k6, k7⟩ := h.obj d ty xs hx
    exact ⟨k1, b, cs, k2, k3, k4, k5.frame (γ := γ) (γ' := { γ with fr := f }) (L' := s.lens) (w' := w) rfl (fun b i u hp hc => ⟨hp, hc⟩) fun d _ => .inl ⟨rfl, rfl, fun _ _ _ => rfl⟩, k6, k7⟩
/-- names that the state does not bear are forgotten -/
theorem Rel.forget (h : Rel γ w0 s a w) (N : List Nat) (hs : ∀ t x, look s.slots t = some x → ∀ d, ment d x = true → d ∈ N) (ho : ∀ d ty xs, look s.objs d = some (ty, xs) → d ∈ N ∧ ∀ d', xs.any (ment1 d') = true → d' ∈ N) :
    Rel { γ with blk := fun d => if d ∈ N then γ.blk d else none } w0 s a w := by
  have hk : ∀ d, d ∈ N → Kept γ { γ with blk := fun d => if d ∈ N then γ.blk d else none } s.lens s.lens w w d := fun d hd => .inl ⟨by simp [hd], rfl, fun _ _ _ => rfl⟩
  have hsub : ∀ d b, (if d ∈ N then γ.blk d else none) = some b → γ.blk d = some b := fun d b hb => by split at hb <;> first | exact hb | cases hb
  refine h.frame (γ' := { γ with blk := fun d => if d ∈ N then γ.blk d else none }) s.lens rfl (fun b i u hp hc => ⟨hp, hc⟩) (fun d t x hx hm => hk d (hs t x hx d hm)) (fun d d' ty xs hx hm => hk d ((ho d' ty xs hx).2 d hm)) ?_
    (fun d len g hl hb => h.len d len g hl (hsub d g hb)) (fun d d' b h1 h2 => h.inj d d' b (hsub d b h1) (hsub d' b h2)) (fun d b hb => h.blt d b (hsub d b hb)) h.plt (Below.refl _ _) rfl (fun k o hk => ⟨(h.frm k o hk).1, fun d hd => (h.frm k o hk).2 d (hsub d k hd)⟩)
  intro d ty xs b hx hb
  obtain ⟨k1, b', cs, k2, k3, k4, k5, k6, k7⟩ := h.obj d ty xs hx
  have : b' = b := by rw [hb] at k2; exact (Option.some.inj k2).symm
  subst this
  exact ⟨k1, by simp [(ho d ty xs hx).1, hb], rfl, k7⟩
/-- a block that is no cells may turn, if nobody counts on it -/
theorem Rel.turned (h : Rel γ w0 s a w) {row : Option Nat} (hg : w.grownBy w' row) (hr : ∀ r, row = some r → γ.base ≤ r ∧ ∃ o : Obj, w.heap[r]? = some o ∧ o.isCells = false) (hn : ∀ d ty xs b, look s.objs d = some (ty, xs) → γ.blk d = some b → row ≠ some b)
    (hl : ∀ d b, γ.blk d = some b → row ≠ some b) (hf : ∀ k o, γ.fr k = some o → row ≠ some k) : Rel γ w0 s a w' := by
  have hblk : ∀ k, k < w.heap.size → row ≠ some k → w'.heap[k]? = w.heap[k]? := fun k hk hne => hg.block k hk (fun e => hne e.symm)
  have hbel : Below γ.base w w' := (Below.refl _ _).grown hg h.base (fun k hk => (hr k hk).1)
  have hcell : ∀ b i u, γ.pr b i → w.cell? ⟨b, i, none⟩ = some u → w'.cell? ⟨b, i, none⟩ = some u := fun b i u hp hc => by
    refine (World.cell?_of_block (w := w) (hblk b (h.plt b i hp) fun e => ?_)).trans hc
    obtain ⟨_, o, ho, hcells⟩ := hr b e
    obtain ⟨o', ho', hc'⟩ := cells_of_cell hc
    rw [ho] at ho'; cases ho'; rw [hcells] at hc'; cases hc'
  have hk : ∀ d, Kept γ γ s.lens s.lens w w' d := fun d => .inl ⟨rfl, rfl, fun _ g hgd => hblk g (h.blt d g hgd) (hl d g hgd)⟩
  refine h.frame (γ' := γ) s.lens rfl (fun b i u hp hc => ⟨hp, hcell b i u hp hc⟩) (fun d _ _ _ _ => hk d) (fun d _ _ _ _ _ => hk d) ?_ h.len h.inj (fun d b hb => Nat.lt_of_lt_of_le (h.blt d b hb) hg.size) (fun b i hp => Nat.lt_of_lt_of_le (h.plt b i hp) hg.size) hbel rfl
    (fun k o hk => ⟨(hblk k (Array.getElem?_eq_some_iff.1 (h.frm k o hk).1).1 (hf k o hk)).trans (h.frm k o hk).1, (h.frm k o hk).2⟩)
  intro d ty xs b hx hb
  obtain ⟨k1, b', cs, k2, k3, k4, k5, k6, k7⟩ := h.obj d ty xs hx
  have : b' = b := by rw [hb] at k2; exact (Option.some.inj k2).symm
  subst this
  exact ⟨k1, hb, hblk b' (h.blt d b' hb) (hl d b' hb), k7⟩
end
end Go.Proofs.Ytlekojbcaelpiaa

/- Pieces of a function's law: its start, its results; code in two parts; a round leaves what it does not name. -/
namespace Go.Proofs.Ytlekojbcaelpiaa
open Go.RowKit
section
variable {P : Program}
/-- the function's start -/
theorem rel_start {fn : Func} {args : List AV} {cs : List Value} {pr : Nat → Nat → Prop} {w : World} (hle : args.length ≤ fn.ntmps) (hpr : ∀ b i, pr b i → b < w.heap.size) (hargs : VL pr w cs args) :
    Rel { base := w.heap.size, pr := pr, blk := fun _ => none } w (start args fn.ntmps) { tmps := cs.toArray ++ Array.replicate (fn.ntmps - cs.toArray.size) undef, defers := [] } w := by
  have hlen := hargs.length
  refine ⟨?_, rfl, Below.refl _ _, Nat.le_refl _, fun t x hx => ?_, fun d ty xs hx => by simp [start, look] at hx, fun d len g hl => by simp [start, look] at hl, fun d d' b hd => by simp at hd, fun d b hd => by simp at hd, hpr, fun k o h => by cases h⟩
  · simp [start]; omega
  · have hx' := look_zip args 0 t (x := x) (by simpa [start] using hx)
    obtain ⟨u, k1, k2⟩ := hargs.at_ (i := t) (by simpa using hx'.2)
    have : (cs.toArray ++ Array.replicate (fn.ntmps - cs.toArray.size) undef).getD t undef = u := by
      have hlt : t < cs.length := (List.getElem?_eq_some_iff.1 k1).1
      have hg : cs[t] = u := (List.getElem?_eq_some_iff.1 k1).2
      have h2 : t < (cs.toArray ++ Array.replicate (fn.ntmps - cs.toArray.size) undef).size := by simp; omega
      rw [Array.getD, dif_pos h2]
      simp [Array.getElem_append, hlt, hg]
    simp only [start]
    rw [this]
    exact AVR.nil_of_V k2
/-- the function's results -/
theorem results_fin {fn : Func} {r : Res} {s1 : St} {l' : List Prop} {γ' : Gh} {a' : Act} {w w' : World} {pr : Nat → Nat → Prop} (hres : (resVals P s1 fn.results.toList).bind (resOf s1) = some (r, l')) (hown : ∀ p ∈ l', p) (hg : GExt { base := w.heap.size, pr := pr, blk := fun _ => none } γ') (hr : Rel γ' w s1 a' w') :
    a'.defers = [] ∧ ∃ v, (results fn a'.tmps).run P w' = .ok v w' ∧ ∃ c pr', Ending.returned v = .returned c ∧ Below w.heap.size w w' ∧ (∀ b i, pr' b i → b < w'.heap.size) ∧ (∀ b i, b < w.heap.size → pr' b i → pr b i) ∧ V pr' w' c r.v ∧ ∀ e, r.own = some e → OwnRes w.heap.size pr' w' e c r.v := by
  refine ⟨hr.defers, ?_⟩
  simp only [Option.bind_eq_some_iff] at hres
  obtain ⟨xs, hxs, hres⟩ := hres
  obtain ⟨vs, k1, k2⟩ := results_run (P := P) hr fn.results.toList hxs
  have hbase : γ'.base = w.heap.size := hg.base
  have hrun2 : (results fn a'.tmps).run P w' = .ok (if h : vs.toArray.size = 1 then vs.toArray[0] else .tuple vs.toArray) w' := by
    have hm : fn.results.mapM (fun r : ResultVar => match r with | .tmp t => (pure (a'.tmps.getD t undef) : Sem Value) | .cell b t => do loadVar t (← asAddr (a'.tmps.getD b undef))) =
        Functor.map List.toArray (fn.results.toList.mapM (fun r : ResultVar => match r with | .tmp t => (pure (a'.tmps.getD t undef) : Sem Value) | .cell b t => do loadVar t (← asAddr (a'.tmps.getD b undef)))) := Array.mapM_eq_mapM_toList ..
    have hm2 : (fn.results.mapM (fun r : ResultVar => match r with | .tmp t => (pure (a'.tmps.getD t undef) : Sem Value) | .cell b t => do loadVar t (← asAddr (a'.tmps.getD b undef)))).run P w' = .ok vs.toArray w' := by
      rw [hm, map_eq_pure_bind, Sem.run_bind]
      exact (congrArg (fun r => Result.andThen r _) k2).trans (by simp only [Result.andThen_ok, Sem.run_pure])
    unfold results
    simp only [Sem.run_bind]
    refine Eq.trans (congrArg (fun r => Result.andThen r _) hm2) ?_
    simp only [Result.andThen_ok, Sem.run_pure]
  rw [hrun2]
  refine ⟨_, rfl, _, γ'.pr, rfl, by rw [← hbase]; exact hr.below, hr.plt, fun b i hb hp => hg.old b i hb hp, ?_⟩
  have one : ∀ (x : AV) (v : Value), AVR γ' s1.lens w' v x → ∀ e p, ownOf s1 x = some (e, p) → p → OwnRow w.heap.size γ'.pr w' e v (plain1 x) := fun x v h1 e p he hp => by
    have := own_row hr h1 he hp
    rw [hbase] at this; exact this
  unfold resOf at hres
  split at hres
  · rename_i x
    simp only [AVRs] at k1
    obtain ⟨v, vs', rfl, h1, rfl⟩ := k1
    have e2 : ∀ e, OwnRow w.heap.size γ'.pr w' e v (plain1 x) → OwnRes w.heap.size γ'.pr w' e v (plain1 x) := fun e => by
      cases x <;> exact fun h => h
    split at hres
    · rename_i e p ho
      cases hres
      refine ⟨by simpa using h1.plain1', fun e he => ?_⟩
      cases he
      simpa using e2 _ (one x v h1 e p ho (hown p (by simp)))
    · cases hres
      exact ⟨by simpa using h1.plain1', fun e he => by cases he⟩
  · cases hres
    simp only [AVRs] at k1
    subst k1
    exact ⟨by simp [V, VL], fun e he => by cases he⟩
  · rename_i x y l
    have hpl := k1.plain
    have hsz : vs.length = l.length + 2 := by rw [hpl.length]; simp
    have hne : ¬ vs.toArray.size = 1 := by simp; omega
    rw [dif_neg hne]
    split at hres
    · rename_i e p ho
      cases hres
      refine ⟨⟨vs, rfl, hpl⟩, fun e he c0 cs0 hc => ?_⟩
      cases he
      simp only [AVRs] at k1
      obtain ⟨v, vs', rfl, h1, _⟩ := k1
      have hc' : v = c0 := by
        injection hc with hc
        have := congrArg Array.toList hc
        simp at this; exact this.1
      subst hc'
      exact one x v h1 e p ho (hown p (by simp))
    · cases hres
      exact ⟨⟨vs, rfl, hpl⟩, fun e he => by cases he⟩
end

/-- what lies in the slots that no operation names stays -/
def dsts (ops : Array Oper) : List Nat := ops.toList.filterMap (·.dst)
theorem put_same {a : Act} {d : Option Nat} {c : Value} {t : Nat} (h : ∀ e, d = some e → e ≠ t) : (a.put d c).tmps.getD t undef = a.tmps.getD t undef := by
  cases d with
  | none => rfl
  | some e => simp [Act.put, Array.getElem?_setIfInBounds_ne (h e rfl)]
theorem oper_same {P : Program} {o : Oper} {a : Act} {w : World} {K : Act → World → Prop} {Q : Exit → Act → World → Prop} {T : Act → Prop} (hT : T a) (hput : ∀ a c, T a → T (a.put o.dst c)) (hdef : ∀ (a : Act) d, T a → T { a with defers := d :: a.defers }) (h : o.wp P a w K Q) :
    o.wp P a w (fun a' w' => K a' w' ∧ T a') (fun e a' w' => Q e a' w' ∧ (e = .outgrown ∨ T a')) := by
  unfold Oper.wp at *
  generalize (execOp a.eval o).run P w = r at h
  cases r with
  | ok x w' =>
    cases x <;> simp only [Oper.upon] at h ⊢ <;> try exact h
    case value v => exact ⟨h, hput _ _ hT⟩
    case skip => exact ⟨h, hput _ _ hT⟩
    case defer d => exact ⟨h, hput _ _ (hdef _ _ hT)⟩
    case enter f args =>
      refine h.mono fun e w'' he => ?_
      cases e with
      | returned v => exact ⟨he, hput _ _ hT⟩
      | panicked c => exact ⟨he, .inr hT⟩
      | outgrown => obtain ⟨b, w3, hb⟩ := he; exact ⟨b, w3, hb, .inl rfl⟩
    case row row args => exact h.mono fun v w'' he => ⟨he, hput _ _ hT⟩
  | halt x w' =>
    cases x <;> simp only [Oper.upon] at h ⊢ <;> try exact h
    exact ⟨h, .inr hT⟩
theorem any_same {P : Program} {ops : Array Oper} {Q : Exit → Act → World → Prop} {T : Act → Prop} (hput : ∀ (o : Oper) (i : Nat), ops[i]? = some o → ∀ a c, T a → T (a.put o.dst c)) (hdef : ∀ (a : Act) d, T a → T { a with defers := d :: a.defers }) :
    ∀ (fuel : Nat) (listed : Array Bool) (a : Act) (w : World), T a → wpAny P .any ops Q fuel listed a w → wpAny P .any ops (fun e a' w' => Q e a' w' ∧ (e = .outgrown ∨ T a')) fuel listed a w
  | 0, _, _, _, hT, h => ⟨h.1, h.2, .inr hT⟩
  | fuel + 1, listed, a, w, hT, h => by
    refine ⟨fun hr => ⟨h.1 hr, .inr hT⟩, fun i hi => ?_⟩
    have h1 := h.2 i hi
    unfold wpOp at h1 ⊢
    cases ho : ops[i]? with
    | none => rw [ho] at h1; exact any_same hput hdef fuel _ _ _ hT h1
    | some o =>
      rw [ho] at h1
      simp only at h1 ⊢
      split
      · rename_i hw
        rw [if_pos hw] at h1
        rcases h1 with h1 | ⟨h1, b, w2, hb⟩
        · exact .inl (Oper.wp_mono (fun a' w' hh => any_same hput hdef fuel _ _ _ hh.2 hh.1) (oper_same hT (hput o i ho) hdef h1))
        · exact .inr ⟨h1, b, w2, hb, .inl rfl⟩
      · rename_i hw
        rw [if_neg hw] at h1
        exact any_same hput hdef fuel _ _ _ (hput o i ho _ _ hT) h1
/-- a region that draws, within a round; the slots that it does not name stay -/
theorem region_round2 {P : Program} {call : Orc} {ops : Array Oper} {w0 w : World} {γ : Gh} {s t : St} {a : Act} {Q : Exit → Act → World → Prop} {l n id : Nat} (hmix : P.follows .mixedOrders = true) (hrel : Rel γ w0 s a w) (h : runRegion P call ops true s = some t) (hlog : ∀ p ∈ t.log, p)
    (hQ0 : ∀ a w, ¬ Q .outgrown a w) (hops : ops.toList.all noRow = true) (hQ : ∀ γ' a' w', GExt γ γ' → Rel γ' w0 t a' w' → (∀ t, t ∉ dsts ops → a'.tmps.getD t undef = a.tmps.getD t undef) → Q .normal a' w') : (Code.region id ops true).wpIn (RF l) n P Q a w := by
  simp only [runRegion] at h
  split at h
  case h_2 => cases h
  rename_i hok
  have hl : left ops (Array.replicate ops.size false) = List.range ops.size := by
    simp only [left]
    refine List.filter_eq_self.2 fun j hj => ?_
    have := List.mem_range.1 hj
    simp [this]
  let Q1 : Exit → Act → World → Prop := fun e a' w' => e = .normal ∧ ∃ γ', GExt γ γ' ∧ Rel γ' w0 t a' w'
  let T : Act → Prop := fun a' => ∀ t, t ∉ dsts ops → a'.tmps.getD t undef = a.tmps.getD t undef
  have h1 : wpAny P .any ops Q1 ops.size (Array.replicate ops.size false) a { w with drawn := w.drawn + 1 } :=
    any_sound hok ops.size (Array.replicate ops.size false) (t := t) (γ := γ) (s := s) (by simp) (by rw [hl]; simp) (fun j hj => by
      exfalso
      by_cases hlt : j < ops.size <;> simp [hlt] at hj) (by rw [hl]; exact h) hlog (hrel.drew rfl rfl rfl rfl) (fun γ' a' w' t' e ht hr => ⟨rfl, γ', e, hr.eqv ht⟩)
  have h2 := any_same (T := T) (fun o i ho a' c hT t ht => by
    rw [put_same (fun e he => ?_)]
    · exact hT t ht
    · rintro rfl
      exact ht (List.mem_filterMap.2 ⟨o, by rw [Array.mem_toList_iff]; exact Array.mem_of_getElem? ho, he⟩)) (fun a' d hT => hT) _ _ _ _ (fun _ _ => rfl) h1
  refine wpIn_mono (wpIn_region_any hmix (anyIn_of_any (Q := fun e a' w' => Q1 e a' w' ∧ (e = .outgrown ∨ T a')) (fun a w hh => by cases hh.1.1) (fun i o ho => List.all_eq_true.1 hops o (by rw [Array.mem_toList_iff]; exact Array.mem_of_getElem? ho)) _ _ _ _ h2)) ?_
  rintro e a' w' ⟨⟨rfl, γ', hg, hr⟩, hT⟩
  rcases hT with hT | hT
  · cases hT
  · exact hQ γ' a' w' hg hr hT

/-- operations that neither call nor defer -/
theorem noRow_val {P : Program} {o : Oper} (h : noRow o = true) (ρ : Operand → Value) {w w' : World} {x : Next} (he : (execOp ρ o).run P w = .ok x w') : (∃ v, x = .value v) ∨ x = .skip := by
  unfold noRow at h
  split at h
  · cases h
  · rename_i c hc
    split at h
    · rename_i hcal
      have : (execOp ρ o).run P w = (do pure (Next.value (← Builtin.append_ c.argTypes o.type (c.args.map ρ))) : Sem Next).run P w := by
        simp only [execOp, hc, resolve, hcal, Sem.run_bind, Sem.run_pure, Result.andThen_ok, invoke]; simp only [builtin, Sem.run_bind, Sem.run_pure]
      rw [this] at he
      exact .inl (value_only (f := id) he)
    · rename_i hcal
      have : (execOp ρ o).run P w = (do pure (Next.value (← Builtin.len_ c.argTypes o.type (c.args.map ρ))) : Sem Next).run P w := by
        simp only [execOp, hc, resolve, hcal, Sem.run_bind, Sem.run_pure, Result.andThen_ok, invoke]; simp only [builtin, Sem.run_bind, Sem.run_pure]
      rw [this] at he
      exact .inl (value_only (f := id) he)
    · cases h
  all_goals first
    | (rename_i hop; simp only [execOp, hop] at he; exact .inl (value_only (f := id) he))
    | (rename_i hop; simp only [execOp, hop] at he; exact .inr (unit_only he))
    | (rename_i hop; simp only [execOp, hop, Sem.run_pure] at he; cases he; exact .inl ⟨_, rfl⟩)
    | cases h
theorem ops_defers {P : Program} {ops : Array Oper} {Q : Exit → Act → World → Prop} (ds : List Deferred) (hops : ∀ (i : Nat) (o : Oper), ops[i]? = some o → noRow o = true) (hQ : ∀ a w, ¬ Q .outgrown a w) :
    ∀ (l : List Nat) (a : Act) (w : World), wpOps P ops Q l a w → wpOps P ops (fun e a' w' => ∃ b, a' = { b with defers := ds } ∧ Q e b w') l { a with defers := ds } w
  | [], a, w, h => ⟨a, rfl, h⟩
  | i :: l, a, w, h => by
    rw [wpOps_cons] at h ⊢
    unfold wpOp at h ⊢
    cases ho : ops[i]? with
    | none => rw [ho] at h; exact ops_defers ds hops hQ l a w h
    | some o =>
      rw [ho] at h
      simp only at h ⊢
      have hp : ∀ c, ({ a with defers := ds } : Act).put o.dst c = { a.put o.dst c with defers := ds } := fun c => by cases o.dst <;> rfl
      split
      · rename_i hw
        rw [if_pos hw] at h
        rcases h with h | ⟨_, b, w2, hb⟩
        · left
          unfold Oper.wp at h ⊢
          have he : ({ a with defers := ds } : Act).eval = a.eval := rfl
          rw [he]
          generalize hres : (execOp a.eval o).run P w = r at h ⊢
          cases r with
          | ok x w' =>
            rcases noRow_val (hops i o ho) a.eval hres with ⟨v, rfl⟩ | rfl
            · simp only [Oper.upon] at h ⊢
              rw [hp]; exact ops_defers ds hops hQ l _ _ h
            · simp only [Oper.upon] at h ⊢
              rw [hp]; exact ops_defers ds hops hQ l _ _ h
          | halt x w' =>
            cases x <;> simp only [Oper.upon] at h ⊢
            exact ⟨a, rfl, h⟩
        · exact absurd hb (hQ _ _)
      · rename_i hw
        rw [if_neg hw] at h
        rw [hp]; exact ops_defers ds hops hQ l _ _ h
/-- nil in a cell of a box -/
theorem Rel.nilCell {γ : Gh} {w0 w : World} {s : St} {a : Act} (hr : Rel γ w0 s a w) (b i d e size : Nat) {ty : Nat} {xs : List AV} (ht : look s.objs b = some (ty, xs)) (hi : xs[i]? = some (.sc (.slice none 0 0))) (hd : s.absent d = true) :
    Rel { γ with blk := fun d' => if d' = d then none else γ.blk d' } w0 { s with objs := (b, (ty, xs.set i (.row (some (d, e)) size 0 []))) :: s.objs, lens := (d, 0) :: s.lens } a w := by
  have ha := Absent.of hd
  have hr' := (hr.name ha none (fun b hb => by cases hb) (fun b hb => by cases hb)).setLen (len := 0) ha (fun g hg => by simp at hg)
  refine ⟨hr'.size, hr'.defers, hr'.below, hr'.base, hr'.slot, fun d' ty' ys hx => ?_, hr'.len, hr'.inj, hr'.blt, hr'.plt, hr'.frm⟩
  simp only [look_cons] at hx
  split at hx
  · rename_i e1; subst e1
    simp only [Option.some.injEq, Prod.mk.injEq] at hx
    obtain ⟨rfl, rfl⟩ := hx
    obtain ⟨k1, b', cs, k2, k3, k4, k5, k6, k7⟩ := hr'.obj b ty xs ht
    refine ⟨k1, b', cs, k2, k3, k4, AVRL.of_at (by simp [k5.length]) fun j x c hx hc => ?_, k6, k7⟩
    rw [List.getElem?_set] at hx
    split at hx
    · rename_i e2; subst e2
      split at hx
      · cases hx
        obtain ⟨c', q1, q2⟩ := k5.at_ hi
        rw [hc] at q1; cases q1
        have : c = .slice none 0 0 := q2
        rw [this]
        exact nil_row (by simp [look_cons])
      · cases hx
    · obtain ⟨c', q1, q2⟩ := k5.at_ hx
      rw [hc] at q1; cases q1; exact q2
  · exact hr'.obj d' ty' ys hx
end Go.Proofs.Ytlekojbcaelpiaa

/- Judgements in which what nobody touches may grow. -/
namespace Go.Proofs.Ytlekojbcaelpiaa
open Go.RowKit

abbrev Frz := Nat → Option Obj
def GB (γ γ1 : Gh) : Prop := γ1.base = γ.base ∧ ∀ b i, b < γ.base → γ1.pr b i → γ.pr b i
theorem GB.refl (γ : Gh) : GB γ γ := ⟨rfl, fun _ _ _ h => h⟩
theorem GB.trans {a b c : Gh} (h : GB a b) (k : GB b c) : GB a c := ⟨k.1.trans h.1, fun x i hx hp => h.2 x i hx (k.2 x i (by rw [h.1]; exact hx) hp)⟩
theorem GB.of {a b : Gh} (h : GExt a b) : GB a b := ⟨h.base, h.old⟩
def JudgF (B : Nat) (F : Frz) (c : Code) (s : St) (Q : Out → Frz → Prop) : Prop :=
  ∀ (γ : Gh) (w0 : World) (a : Act) (w : World), Rel γ w0 s a w → γ.base = B → γ.fr = F → c.wp Try.prog (fun e a' w' => ∃ out F' γ1, Q out F' ∧ GB γ γ1 ∧ γ1.fr = F' ∧ PostOf γ1 w0 out e a' w') a w
section
variable {B : Nat} {F : Frz} {c x y : Code} {s : St} {Q : Out → Frz → Prop}
theorem JudgF.of {Qo : Out → Prop} (J : Judg c s Qo) (h : ∀ o, Qo o → Q o F) : JudgF B F c s Q := fun γ w0 a w hr hb hf =>
  wp_mono (J _ _ _ _ hr) fun e a w ⟨o, q, p⟩ => ⟨o, F, γ, h o q, GB.refl γ, hf, p⟩
theorem JudgF.mono {Q' : Out → Frz → Prop} (h : JudgF B F c s Q) (hq : ∀ o F, Q o F → Q' o F) : JudgF B F c s Q' := fun γ w0 a w hr hb hf =>
  wp_mono (h _ _ _ _ hr hb hf) fun e a w ⟨o, F', γ1, q, p⟩ => ⟨o, F', γ1, hq o F' q, p⟩
theorem JudgF.seq (h : JudgF B F x s fun o F' => match o with | .go s' => JudgF B F' y s' Q | o => Q o F') : JudgF B F (.seq x y) s Q := fun γ w0 a w hr hb hf =>
  wp_seq (wp_mono (h _ _ _ _ hr hb hf) fun e a' w' ⟨o, F', γ1, q, hg, hf1, p⟩ => by
    cases e with
    | normal =>
      obtain ⟨s', γ', e', hg', hr'⟩ := p
      subst e'
      exact wp_mono (q _ _ _ _ hr' (hg'.base.trans (hg.1.trans hb)) (hg'.fr.trans hf1)) fun e a w ⟨o, F2, γ2, q2, hg2, p2⟩ => ⟨o, F2, γ2, q2, (hg.trans (GB.of hg')).trans hg2, p2⟩
    | exit i => obtain ⟨s', γ', e', hg', hr'⟩ := id p; subst e'; exact ⟨_, F', γ1, q, hg, hf1, p⟩
    | ret => obtain ⟨s', γ', e', hg', hr'⟩ := id p; subst e'; exact ⟨_, F', γ1, q, hg, hf1, p⟩
    | _ => exact p.elim)
theorem JudgF.block {id : Nat} (h : JudgF B F c s fun o F' => match o with | .exit id' s' => if id' = id then Q (.go s') F' else Q o F' | o => Q o F') : JudgF B F (.block id c) s Q := fun γ w0 a w hr hb hf =>
  wp_block (wp_mono (h _ _ _ _ hr hb hf) fun e a' w' ⟨o, F', γ1, q, hg1, hf1, p⟩ => by
    cases e with
    | normal => obtain ⟨s', γ', e', hg, hr'⟩ := (show PostOf γ1 w0 o .normal a' w' from p); subst e'; exact ⟨_, F', γ1, q, hg1, hf1, p⟩
    | ret => obtain ⟨s', γ', e', hg, hr'⟩ := (show PostOf γ1 w0 o .ret a' w' from p); subst e'; exact ⟨_, F', γ1, q, hg1, hf1, p⟩
    | exit id' =>
      obtain ⟨s', γ', e', hg, hr'⟩ := (show PostOf γ1 w0 o (.exit id') a' w' from p)
      subst e'
      simp only [Exit.inBlock]
      by_cases hid : id' = id
      · rw [if_pos hid]
        simp only [hid, if_true] at q
        exact ⟨_, F', γ1, q, hg1, hf1, s', γ', rfl, hg, hr'⟩
      · rw [if_neg hid]
        simp only [hid, if_false] at q
        exact ⟨_, F', γ1, q, hg1, hf1, p⟩
    | _ => exact p.elim)
theorem JudgF.cond_true {v : Operand} (hc : s.eval v = .sc (.bool true)) (h : JudgF B F x s Q) : JudgF B F (.cond v x y) s Q := fun _ _ _ _ hr hb hf => wp_cond_true (ev_sc hr.eval hc) (h _ _ _ _ hr hb hf)
theorem JudgF.cond_false {v : Operand} (hc : s.eval v = .sc (.bool false)) (h : JudgF B F y s Q) : JudgF B F (.cond v x y) s Q := fun _ _ _ _ hr hb hf => wp_cond_false (ev_sc hr.eval hc) (h _ _ _ _ hr hb hf)
open Classical in
theorem JudgF.loop (Inv : Nat → St → Frz → Prop) {n : Nat} (h0 : Inv n s F)
    (step : ∀ n s F, Inv n s F → JudgF B F c s fun o F' => match o with | .go s' => ∃ m, m < n ∧ Inv m s' F' | o => Q o F') : JudgF B F (.loop c) s Q := fun γ w0 a w hr hb hf => by
  let Pr : Nat → Act → World → Prop := fun k a w => ∃ γ' s', GB γ γ' ∧ Rel γ' w0 s' a w ∧ Inv k s' γ'.fr
  refine wp_loop (fun a w => ∃ k, Pr k a w) (fun a w => if h : ∃ k, Pr k a w then (least h).choose else 0) ⟨n, γ, s, GB.refl γ, hr, by rw [hf]; exact h0⟩ ?_
  intro a w hI
  have hk := (least hI).choose_spec.1
  generalize hke : (least hI).choose = k at hk
  have hμ : (if h : ∃ k, Pr k a w then (least h).choose else 0) = k := by rw [dif_pos hI]; exact hke
  rw [hμ]
  obtain ⟨γ', s', hg, hr', hi⟩ := hk
  refine wp_mono (step k s' γ'.fr hi _ _ _ _ hr' (hg.1.trans hb) rfl) fun e a' w' ⟨o, F', γ1, q, hg1, hf1, p⟩ => ?_
  cases e with
  | normal =>
    obtain ⟨s2, γ2, e2, hg2, hr2⟩ := p
    subst e2
    obtain ⟨m, hm, hi2⟩ := q
    have hP : Pr m a' w' := ⟨γ2, s2, (hg.trans hg1).trans (GB.of hg2), hr2, by rw [hg2.fr, hf1]; exact hi2⟩
    refine ⟨⟨m, hP⟩, ?_⟩
    have hex : ∃ k, Pr k a' w' := ⟨m, hP⟩
    show (if h : ∃ k, Pr k a' w' then (least h).choose else 0) < k
    rw [dif_pos hex]
    exact Nat.lt_of_le_of_lt ((least hex).choose_spec.2 m hP) hm
  | exit i => obtain ⟨s3, γ3, e3, hg3, hr3⟩ := id p; subst e3; exact ⟨_, F', γ1, q, hg.trans hg1, hf1, p⟩
  | ret => obtain ⟨s3, γ3, e3, hg3, hr3⟩ := id p; subst e3; exact ⟨_, F', γ1, q, hg.trans hg1, hf1, p⟩
  | _ => exact p.elim
/-- the ghosts are seen anew -/
theorem JudgF.ghost (h : ∀ (γ : Gh) (w0 : World) (a : Act) (w : World), Rel γ w0 s a w → γ.base = B → γ.fr = F → ∃ γ' s', GB γ γ' ∧ Rel γ' w0 s' a w ∧ JudgF B γ'.fr c s' Q) : JudgF B F c s Q := fun γ w0 a w hr hb hf => by
  obtain ⟨γ', s', hg, hr', J⟩ := h γ w0 a w hr hb hf
  exact wp_mono (J γ' w0 a w hr' (hg.1.trans hb) rfl) fun e a w ⟨o, F', γ1, q, hg1, p⟩ => ⟨o, F', γ1, q, hg.trans hg1, p⟩
theorem JudgF.clean {L N : List Nat} {t : St} (h : Ytlekojbcaelpiaa.clean L N s = t) (k : JudgF B F c t Q) : JudgF B F c s Q := fun _ _ _ _ hr hb hf => by
  subst h
  exact k _ _ _ _ ((hr.mask L N).withLog []) hb hf
theorem JudgF.seqE (hc : c = .seq (sX c) (sY c)) (h : JudgF B F (sX c) s fun o F' => match o with | .go s' => JudgF B F' (sY c) s' Q | o => Q o F') : JudgF B F c s Q := by
  rw [hc]; exact JudgF.seq h
theorem JudgF.blockE (hc : c = .block (bI c) (bX c)) (h : JudgF B F (bX c) s fun o F' => match o with | .exit id' s' => if id' = bI c then Q (.go s') F' else Q o F' | o => Q o F') : JudgF B F c s Q := by
  rw [hc]; exact JudgF.block h
theorem JudgF.condT (hc : c = .cond (cO c) (cA c) (cB c)) (hv : s.eval (cO c) = .sc (.bool true)) (h : JudgF B F (cA c) s Q) : JudgF B F c s Q := by
  rw [hc]; exact JudgF.cond_true hv h
theorem JudgF.condF (hc : c = .cond (cO c) (cA c) (cB c)) (hv : s.eval (cO c) = .sc (.bool false)) (h : JudgF B F (cB c) s Q) : JudgF B F c s Q := by
  rw [hc]; exact JudgF.cond_false hv h
/-- a region whose last operations are looked at by hand -/
theorem JudgF.regionTail (hc : c = .region (rId c) (rOps c) true) (H : Orc) (L : Nat) (t : St) (hL : L ≤ (rOps c).size) (hok : drawOk (rOps c) = true) (hT : tailOk (rOps c) L = true)
    (h : runOps Try.prog H (rOps c) (itemsOf (rOps c) (List.range L)) s = some t) (hlog : ∀ p ∈ t.log, p)
    (hQ : ∀ γ0 γ w0 a w, GB γ0 γ → Rel γ w0 t a w → γ.base = B → γ.fr = F → wpOps Try.prog (rOps c) (fun e a' w' => ∃ out F' γ1, Q out F' ∧ GB γ0 γ1 ∧ γ1.fr = F' ∧ PostOf γ1 w0 out e a' w') (List.range' L ((rOps c).size - L)) a w) : JudgF B F c s Q := fun γ w0 a w hr hb hf => by
  rw [hc]
  exact region_tail (call := H) mixed_ok L hL hok hT hr h hlog fun γ' a' w' hg hr' => hQ γ γ' w0 a' w' (GB.of hg) hr' (hg.base.trans hb) (hg.fr.trans hf)
/-- at the end the ghosts of the start stand again -/
theorem Judg.ofF {Qo : Out → Prop} (h : ∀ B F, JudgF B F c s fun o F' => Qo o ∧ ∀ k o, F k = some o → F' k = some o) : Judg c s Qo := fun γ w0 a w hr =>
  wp_mono (h γ.base γ.fr γ w0 a w hr rfl rfl) fun e a' w' ⟨o, F', γ1, ⟨q, hs⟩, hg, hf, p⟩ => by
    refine ⟨o, q, ?_⟩
    have key : ∀ {s' : St} {γ' : Gh}, GExt γ1 γ' → Rel γ' w0 s' a' w' → ∃ γ'', GExt γ γ'' ∧ Rel γ'' w0 s' a' w' := fun {s' γ'} hg' hr' =>
      ⟨{ γ' with fr := γ.fr }, ⟨hg'.base.trans hg.1, fun b i hb hp => hg.2 b i hb (hg'.old b i (by rw [hg.1]; exact hb) hp), rfl⟩, hr'.freeze γ.fr fun k o hk => hr'.frm k o (by rw [hg'.fr, hf]; exact hs k o hk)⟩
    cases e with
    | normal => obtain ⟨s', γ', e', hg', hr'⟩ := p; obtain ⟨γ'', h1, h2⟩ := key hg' hr'; exact ⟨s', γ'', e', h1, h2⟩
    | exit i => obtain ⟨s', γ', e', hg', hr'⟩ := p; obtain ⟨γ'', h1, h2⟩ := key hg' hr'; exact ⟨s', γ'', e', h1, h2⟩
    | ret => obtain ⟨s', γ', e', hg', hr'⟩ := p; obtain ⟨γ'', h1, h2⟩ := key hg' hr'; exact ⟨s', γ'', e', h1, h2⟩
    | _ => exact p.elim
end
/-- reads as x, whatever happens outside of F -/
def FrV (B : Nat) (F : Frz) (c : Value) (x : AV) : Prop := ∃ q : Nat → Nat → Prop, (∀ b i, q b i → B ≤ b ∧ ∃ o, F b = some o) ∧ ∀ w : World, (∀ k o, F k = some o → w.heap[k]? = some o) → V q w c x
theorem FrV.mono {B : Nat} {F F' : Frz} {c : Value} {x : AV} (h : FrV B F c x) (hs : ∀ k o, F k = some o → F' k = some o) : FrV B F' c x := by
  obtain ⟨q, h1, h2⟩ := h
  exact ⟨q, fun b i hq => ⟨(h1 b i hq).1, by obtain ⟨o, ho⟩ := (h1 b i hq).2; exact ⟨o, hs b o ho⟩⟩, fun w hw => h2 w fun k o hk => hw k o (hs k o hk)⟩
/-- a cell of a box is seen as the very value -/
theorem Rel.cellSc {γ : Gh} {w0 w : World} {s : St} {a : Act} (hr : Rel γ w0 s a w) (b i : Nat) {ty : Nat} {xs : List AV} (ht : look s.objs b = some (ty, xs)) (hi : i < xs.length) :
    ∃ c, AVR1 γ s.lens w c xs[i] ∧ Rel γ w0 { s with objs := (b, (ty, xs.set i (.sc c))) :: s.objs } a w := by
  obtain ⟨k1, b', cs, k2, k3, k4, k5, k6, k7⟩ := hr.obj b ty xs ht
  obtain ⟨c, q1, q2⟩ := k5.at_ (List.getElem?_eq_getElem hi)
  refine ⟨c, q2, hr.size, hr.defers, hr.below, hr.base, hr.slot, fun d' ty' ys hx => ?_, hr.len, hr.inj, hr.blt, hr.plt, hr.frm⟩
  simp only [look_cons] at hx
  split at hx
  · rename_i e1; subst e1
    simp only [Option.some.injEq, Prod.mk.injEq] at hx
    obtain ⟨rfl, rfl⟩ := hx
    refine ⟨k1, b', cs, k2, k3, k4, AVRL.of_at (by simp [k5.length]) fun j x c' hx hc => ?_, k6, k7⟩
    rw [List.getElem?_set, if_pos hi] at hx
    split at hx
    · rename_i e2; subst e2
      cases hx
      rw [hc] at q1; cases q1; exact rfl
    · obtain ⟨c'', q1', q2'⟩ := k5.at_ hx
      rw [hc] at q1'; cases q1'; exact q2'
  · exact hr.obj d' ty' ys hx
/-- a row of one's own, once nobody touches its block -/
theorem frV_own {γ : Gh} {L : List (Nat × Nat)} {w : World} {c : Value} {d e size n : Nat} {vs : List Value} (h : AVR1 γ L w c (.row (some (d, e)) size n (vs.map .sc))) (hl : look L d = some (n * size)) :
    ∃ A k, c = .slice A n k ∧ ((n = 0 ∧ ∀ B F, FrV B F c (.row none size n (vs.map .sc))) ∨ ∃ g o, γ.blk d = some g ∧ γ.base ≤ g ∧ w.heap[g]? = some o ∧ ∀ F : Frz, F g = some o → FrV γ.base F c (.row none size n (vs.map .sc))) := by
  obtain ⟨hV, hL⟩ := h
  have hown := (hL _ hl).2 rfl
  obtain ⟨A, cap, rfl, a1, a2, a3, a4⟩ := hV
  refine ⟨A, cap, rfl, ?_⟩
  rcases Nat.eq_zero_or_pos n with h0 | h0
  · refine .inl ⟨h0, fun B F => ⟨fun _ _ => False, fun _ _ h => h.elim, fun w _ => ⟨A, cap, rfl, a1, a2, a3, fun hn => by omega⟩⟩⟩
  · rcases hown with ⟨A', e1, e2⟩ | ⟨us, ho, hb⟩
    · omega
    have hus := own_VL (tok := none) ho ⟨A, cap, rfl, a1, a2, a3, a4⟩
    rw [VL_sc] at hus
    obtain ⟨hus, hone⟩ := hus
    subst hus
    rcases ho.2 with ⟨_, e2⟩ | ⟨g, cap', cur, e3, b1, b2, b3, b4, b5, b6⟩
    · omega
    cases e3
    refine .inr ⟨g, _, hb g rfl, b1, b2, fun F hF => ⟨fun b i => b = g, fun b i (hq : b = g) => by subst hq; exact ⟨b1, _, hF⟩, fun w' hw' => ?_⟩⟩
    have ho' : w'.ownsRow γ.base e size (.slice (some ⟨g, 0, none⟩) n cap) n us := ⟨ho.1, .inr ⟨g, cap, cur, rfl, b1, hw' g _ hF, b3, b4, b5, b6⟩⟩
    exact V_own ho' a1 a2 (VL_sc.2 rfl) hone (fun i hi => rfl) none
end Go.Proofs.Ytlekojbcaelpiaa

/- Loops in which what nobody touches grows; a map of one's own. -/
namespace Go.Proofs.Ytlekojbcaelpiaa
open Go.RowKit

section
variable {B : Nat} {F : Frz}
theorem JudgF.pre (call : Orc) (live : Nat → Option (List Nat × List Nat)) (fuel : Nat) {Q : Out → Frz → Prop} : ∀ (n : Nat) {c : Code} {s s' : St}, runCode Try.prog call live fuel (Ytlekojbcaelpiaa.pre n c) s = some (.go s') → (∀ p ∈ s'.log, p) → JudgF B F (Ytlekojbcaelpiaa.post n c) s' Q → JudgF B F c s Q
  | 0, c, s, s', h, _, k => by
    have e : Ytlekojbcaelpiaa.pre 0 c = .skip := by cases c <;> rfl
    have e2 : Ytlekojbcaelpiaa.post 0 c = c := by cases c <;> rfl
    rw [e] at h
    simp only [runCode, Option.some.injEq, Out.go.injEq] at h
    subst h; rw [e2] at k; exact k
  | n + 1, c, s, s', h, hl, k => by
    cases c with
    | seq a b =>
      simp only [Ytlekojbcaelpiaa.pre, runCode] at h
      simp only [Ytlekojbcaelpiaa.post] at k
      cases ha : runCode Try.prog call live fuel a s with
      | none => rw [ha] at h; simp at h
      | some o =>
        rw [ha] at h
        cases o with
        | go s1 =>
          simp only at h
          exact JudgF.seq (JudgF.of (Judg.run (Q := fun o => o = .go s1) call live fuel ha (fun p hp => hl p (code_log _ h p hp)) rfl) fun o ho => by
            subst ho; exact JudgF.pre call live fuel n h hl k)
        | exit id s1 => simp at h
        | ret s1 => simp at h
    | _ =>
      simp only [Ytlekojbcaelpiaa.pre, runCode, Option.some.injEq, Out.go.injEq] at h
      subst h; simp only [Ytlekojbcaelpiaa.post] at k; exact k
theorem JudgF.pre' (f : Nat) (H : Orc) (n : Nat) {c : Code} {s : St} {Q : Out → Frz → Prop} (s' : St) (log : List Prop) (h : runCode Try.prog H (liveOf f) 0 (Ytlekojbcaelpiaa.pre n c) s = some (.go s')) (hl : s'.log = log) (hp : ∀ p ∈ log, p)
    (k : JudgF B F (Ytlekojbcaelpiaa.post n c) s' Q) : JudgF B F c s Q := JudgF.pre H (liveOf f) 0 n h (by rw [hl]; exact hp) k
theorem JudgF.run' (f : Nat) (H : Orc) {c : Code} {s : St} {Q : Out → Frz → Prop} (o : Out) (log : List Prop) (h : runCode Try.prog H (liveOf f) 0 c s = some o) (hl : o.st.log = log) (hp : ∀ p ∈ log, p) (q : Q o F) : JudgF B F c s Q :=
  JudgF.of (Judg.run' (Q := fun o' => o' = o) f H o log h hl hp rfl) fun o' ho => by subst ho; exact q
theorem JudgF.for_ {ι : Type} (L N : List Nat) (st : ι → St) (μ : ι → Nat) (Pi : ι → Frz → Prop) {c : Code} (hc : c = .seq (.seq (fR c) (.block (fI c) (.loop (fB c)))) (fK c)) {s s1 : St} {Q : Out → Frz → Prop}
    (call : Orc) (live : Nat → Option (List Nat × List Nat)) (hr : runCode Try.prog call live 0 (fR c) s = some (.go s1)) (hl : ∀ p ∈ s1.log, p) (i0 : ι) (h0 : Pi i0 F) (hs0 : Ytlekojbcaelpiaa.clean L N s1 = st i0)
    (step : ∀ i F, Pi i F → JudgF B F (fB c) (st i) (fun o F' => match o with
      | .go s' => ∃ j, Pi j F' ∧ μ j < μ i ∧ Ytlekojbcaelpiaa.clean L N s' = st j
      | .exit id' s' => if id' = fI c then JudgF B F' (fK c) s' Q else Q (.exit id' s') F'
      | .ret s' => Q (.ret s') F')) : JudgF B F c s Q := by
  rw [hc]
  refine JudgF.seq (JudgF.seq (JudgF.of (Judg.run (Q := fun o => o = .go s1) call live 0 hr hl rfl) fun o ho => ?_))
  subst ho
  refine JudgF.block (JudgF.loop (fun n s F => ∃ i, Pi i F ∧ n = μ i ∧ Ytlekojbcaelpiaa.clean L N s = st i) ⟨i0, h0, rfl, hs0⟩ ?_)
  rintro n s' F ⟨i, hi, rfl, hs⟩
  refine (JudgF.clean hs (step i F hi)).mono fun o F' ho => ?_
  cases o with
  | go s2 =>
    obtain ⟨j, h1, h2, h3⟩ := ho
    exact ⟨μ j, h2, j, h1, rfl, h3⟩
  | exit id' s2 =>
    simp only at ho ⊢
    split
    · rename_i e; rw [if_pos e] at ho; exact ho
    · rename_i e; rw [if_neg e] at ho; exact ho
  | ret s2 => exact ho
end
section
variable {P : Program} {ops : Array Oper} {Q : Exit → Act → World → Prop}
theorem wpOps_valG {i : Nat} {rest : List Nat} {o : Oper} {a : Act} {w w' : World} {c : Value} (ho : ops[i]? = some o) (hg : Region.wanted o (yielded ops a.tmps) = true) (h : (execOp a.eval o).run P w = .ok (.value c) w') (hk : wpOps P ops Q rest (a.put o.dst c) w') : wpOps P ops Q (i :: rest) a w := by
  rw [wpOps_cons]; unfold wpOp; rw [ho]
  simp only [hg, if_true]; exact .inl (wp_value h hk)
end
/-- the first operations of a region are run, the rest is looked at by hand -/
theorem JudgF.regionPart {B : Nat} {F : Frz} {c : Code} {s : St} {Q : Out → Frz → Prop} (hc : c = .region (rId c) (rOps c) false) (H : Orc) (L : Nat) (t : St) (hL : L ≤ (rOps c).size)
    (h : runS Try.prog H (rOps c) ((rOps c).toList.take L) s = some t) (hlog : ∀ p ∈ t.log, p)
    (hQ : ∀ γ0 γ w0 a w, GB γ0 γ → Rel γ w0 t a w → γ.base = B → γ.fr = F → wpOps Try.prog (rOps c) (fun e a' w' => ∃ out F' γ1, Q out F' ∧ GB γ0 γ1 ∧ γ1.fr = F' ∧ PostOf γ1 w0 out e a' w') (List.range' L ((rOps c).size - L)) a w) : JudgF B F c s Q := fun γ w0 a w hr hb hf => by
  rw [hc]
  have e : List.range (rOps c).size = List.range L ++ List.range' L ((rOps c).size - L) := by
    rw [List.range_eq_range', List.range_eq_range']
    have := List.range'_append_1 (s := 0) (m := L) (n := (rOps c).size - L)
    rw [Nat.zero_add] at this
    rw [this]; congr 1; omega
  refine wp_region ?_
  show wpOps Try.prog (rOps c) _ (List.range (rOps c).size) a w
  rw [e]
  refine ops_part (call := H) (List.range L) ((rOps c).toList.take L) ?_ h hlog hr fun γ' a' w' hg hr' => hQ γ γ' w0 a' w' (GB.of hg) hr' (hg.base.trans hb) (hg.fr.trans hf)
  refine List.ext_getElem? fun i => ?_
  simp only [List.getElem?_map]
  by_cases hi : i < L
  · have h2 : i < (rOps c).size := by omega
    simp [List.getElem?_range hi, List.getElem?_take, hi, h2]
  · have h1 : (List.range L)[i]? = none := List.getElem?_eq_none (by simp; omega)
    have h2 : ((rOps c).toList.take L)[i]? = none := List.getElem?_eq_none (by simp; omega)
    simp [h1, h2]
/-- a map whose keys are these numbers -/
abbrev DN := DataW Nat
def Dm (ids : List Int) : DN := ids.foldl (fun D k => D.put (.int .i64 k) (.lit (.bool true))) (.map [])
theorem Dm_snoc (ids : List Int) (k : Int) : Dm (ids ++ [k]) = (Dm ids).put (.int .i64 k) (.lit (.bool true)) := by unfold Dm; rw [List.foldl_append]; rfl
theorem put_map (D : DN) (h : ∃ es, D = .map es) (k : Lit) (d : DN) : ∃ es, D.put k d = .map es := by
  obtain ⟨es, rfl⟩ := h; exact ⟨_, rfl⟩
theorem Dm_map (ids : List Int) : ∃ es, Dm ids = .map es := by
  unfold Dm
  suffices ∀ (D : DN), (∃ es, D = .map es) → ∃ es, ids.foldl (fun D k => D.put (.int .i64 k) (.lit (.bool true))) D = .map es from this _ ⟨_, rfl⟩
  induction ids with
  | nil => intro D h; exact h
  | cons k ids ih => intro D h; exact ih _ (put_map D h _ _)
end Go.Proofs.Ytlekojbcaelpiaa

namespace Go.Proofs
open Go.Shelf
def Try.sortR_ren : Go.Shelf.Ren := ⟨fun | 6 => 50 | 15 => 68 | 14 => 67 | 28 => 84 | 29 => 85 | 20 => 76 | 21 => 77 | 22 => 78 | 23 => 79 | 24 => 80 | 25 => 81 | 26 => 82 | 27 => 83 | 46 => 90 | 47 => 91 | 48 => 92 | 49 => 93 | 50 => 94 | 57 => 98 | n => n, fun | 22 => 52 | 24 => 30 | 25 => 86 | 3 => 3 | 39 => 100 | 0 => 0 | 53 => 116 | 55 => 103 | 4 => 4 | 46 => 109 | 45 => 108 | 50 => 113 | 5 => 5 | 9 => 9 | 66 => 121 | 70 => 125 | 76 => 132 | 77 => 118 | n => n, fun | n => n⟩
theorem Try.sortR : Go.Proofs.SlLaysF0.n6 Try.prog Try.sortR_ren := {
  mixed := by kernel_rfl
  f6 := ⟨Try.f50.name, by decide, Try.func50.trans (congrArg some (by kernel_rfl))⟩
  f14 := ⟨Try.f67.name, by decide, Try.func67.trans (congrArg some (by kernel_rfl))⟩
  f15 := Try.func68.trans (congrArg some (by kernel_rfl))
  f20 := ⟨Try.f76.name, by decide, Try.func76.trans (congrArg some (by kernel_rfl))⟩
  f21 := ⟨Try.f77.name, by decide, Try.func77.trans (congrArg some (by kernel_rfl))⟩
  f22 := ⟨Try.f78.name, by decide, Try.func78.trans (congrArg some (by kernel_rfl))⟩
  f23 := ⟨Try.f79.name, by decide, Try.func79.trans (congrArg some (by kernel_rfl))⟩
  f24 := ⟨Try.f80.name, by decide, Try.func80.trans (congrArg some (by kernel_rfl))⟩
  f25 := ⟨Try.f81.name, by decide, Try.func81.trans (congrArg some (by kernel_rfl))⟩
  f26 := ⟨Try.f82.name, by decide, Try.func82.trans (congrArg some (by kernel_rfl))⟩
  f27 := ⟨Try.f83.name, by decide, Try.func83.trans (congrArg some (by kernel_rfl))⟩
  f28 := Try.func84.trans (congrArg some (by kernel_rfl))
  f29 := Try.func85.trans (congrArg some (by kernel_rfl))
  f46 := ⟨Try.f90.name, by decide, Try.func90.trans (congrArg some (by kernel_rfl))⟩
  f47 := Try.func91.trans (congrArg some (by kernel_rfl))
  f48 := Try.func92.trans (congrArg some (by kernel_rfl))
  f49 := ⟨Try.f93.name, by decide, Try.func93.trans (congrArg some (by kernel_rfl))⟩
  f50 := ⟨Try.f94.name, by decide, Try.func94.trans (congrArg some (by kernel_rfl))⟩
  f57 := ⟨Try.f98.name, by decide, Try.func98.trans (congrArg some (by kernel_rfl))⟩
  t0 := Try.underlying0
  a0 := Try.isAgg0
  z0 := Try.sizeOf0
  v0 := Try.zeroValue0
  t3 := Try.underlying3
  a3 := Try.isAgg3
  z3 := Try.sizeOf3
  v3 := Try.zeroValue3
  t4 := Try.underlying4
  a4 := Try.isAgg4
  z4 := Try.sizeOf4
  v4 := Try.zeroValue4
  t5 := Try.underlying5
  a5 := Try.isAgg5
  z5 := Try.sizeOf5
  v5 := Try.zeroValue5
  t9 := Try.underlying9
  a9 := Try.isAgg9
  z9 := Try.sizeOf9
  v9 := Try.zeroValue9
  t22 := Try.underlying52
  a22 := Try.isAgg52
  z22 := Try.sizeOf52
  v22 := Try.zeroValue52
  t25 := Try.underlying86
  a25 := Try.isAgg86
  z25 := Try.sizeOf86
  v25 := Try.zeroValue86
  t39 := Try.underlying100
  a39 := Try.isAgg100
  z39 := Try.sizeOf100
  v39 := Try.zeroValue100
  t45 := Try.underlying108
  a45 := Try.isAgg108
  z45 := Try.sizeOf108
  v45 := Try.zeroValue108
  t46 := Try.underlying109
  a46 := Try.isAgg109
  z46 := Try.sizeOf109
  v46 := Try.zeroValue109
  t50 := Try.underlying113
  a50 := Try.isAgg113
  z50 := Try.sizeOf113
  v50 := Try.zeroValue113
  t53 := Try.underlying116
  a53 := Try.isAgg116
  z53 := Try.sizeOf116
  v53 := Try.zeroValue116
  t55 := Try.underlying103
  a55 := Try.isAgg103
  z55 := Try.sizeOf103
  v55 := Try.zeroValue103
  t66 := Try.underlying121
  a66 := Try.isAgg121
  z66 := Try.sizeOf121
  v66 := Try.zeroValue121
  t70 := Try.underlying125
  a70 := Try.isAgg125
  z70 := Try.sizeOf125
  v70 := Try.zeroValue125
  t76 := Try.underlying132
  a76 := Try.isAgg132
  z76 := Try.sizeOf132
  v76 := Try.zeroValue132
  t77 := Try.underlying118
  a77 := Try.isAgg118
  z77 := Try.sizeOf118
  v77 := Try.zeroValue118 }
end Go.Proofs

/- The reference's reading of an integer is the package's: plain facts. -/
namespace Go.Proofs.Ytlekojbcaelpiaa
open Go.RowKit
theorem dg_shift (m d i : Nat) (hd : d < 256) : dg (m * 256 + d) (i + 1) = dg m i := by
  unfold dg
  rw [Nat.pow_succ, Nat.mul_comm (256 ^ i) 256, ← Nat.div_div_eq_div_mul]
  rw [show (m * 256 + d) / 256 = m by omega]
theorem dg_zero (m d : Nat) (hd : d < 256) : dg (m * 256 + d) 0 = d := by unfold dg; simp; omega
theorem digs_snoc (m d k : Nat) (hd : d < 256) : digs (m * 256 + d) (k + 1) (k + 1) = digs m k k ++ [(d : Int)] := by
  rw [digs_succ]
  congr 1
  · unfold digs
    refine List.map_congr_left fun i hi => ?_
    have hi := List.mem_range.1 hi
    rw [show k + 1 - 1 - i = (k - 1 - i) + 1 by omega, dg_shift m d _ hd]
  · rw [show k + 1 - 1 - k = 0 by omega, dg_zero m d hd]
theorem digs_beV (f : Int → Int) (l : List Int) (h : ∀ c ∈ l, 0 ≤ f c ∧ f c ≤ 255) : digs (beV f l) l.length l.length = l.map f := by
  obtain ⟨r, rfl⟩ : ∃ r : List Int, l = r.reverse := ⟨l.reverse, by simp⟩
  induction r with
  | nil => rfl
  | cons c r ih =>
    rw [List.reverse_cons] at h ⊢
    have h1 := ih fun c hc => h c (by simp at hc ⊢; exact .inl hc)
    have h2 := h c (by simp)
    rw [beV_snoc, List.length_append, List.length_singleton, digs_snoc _ _ _ (by omega), h1, List.map_append, List.map_singleton, Int.toNat_of_nonneg h2.1]
theorem beV_cons (f : Int → Int) (c : Int) (l : List Int) : beV f (c :: l) = (f c).toNat * 256 ^ l.length + beV f l := by
  have key : ∀ (l : List Int) (m : Nat), l.foldl (fun m c => m * 256 + (f c).toNat) m = m * 256 ^ l.length + beV f l := by
    intro l
    induction l with
    | nil => intro m; simp [beV]
    | cons d l ih =>
      intro m
      simp only [beV, List.foldl_cons, List.length_cons] at ih ⊢
      rw [ih, ih (0 * 256 + (f d).toNat), Nat.pow_succ]
      simp only [Nat.zero_mul, Nat.zero_add, Nat.add_mul]
      rw [Nat.mul_assoc, Nat.mul_comm 256, Nat.add_assoc]
  have := key l ((f c).toNat)
  simp only [beV, List.foldl_cons, Nat.zero_mul, Nat.zero_add] at this ⊢
  exact this
theorem fl_bd {x0 c : Int} (hc : U8 c) : 0 ≤ fl x0 c ∧ fl x0 c ≤ 255 := by obtain ⟨h1, h2⟩ := hc; unfold fl; split <;> omega
def numZ (x0 : Int) (M : Nat) : Int := if x0 < 128 then -1 - (M : Int) else M
theorem mag_numZ (x0 : Int) (M : Nat) : mag (numZ x0 M) = M := by unfold mag numZ; split <;> split <;> omega
theorem neg_numZ (x0 : Int) (M : Nat) : numZ x0 M < 0 ↔ x0 < 128 := by unfold numZ; split <;> omega
theorem flip_fl (x0 : Int) (M : Nat) (c : Int) : flipB (numZ x0 M) (fl x0 c) = c := by
  unfold flipB fl
  by_cases h : x0 < 128
  · rw [if_pos ((neg_numZ x0 M).2 h), if_pos h]; omega
  · rw [if_neg (fun hh => h ((neg_numZ x0 M).1 hh)), if_neg h]
/-- the encoding is the one that was read, or the first digit is 0 -/
theorem enc_read (x0 : Int) (l : List Int) (h0 : U8 x0) (hl : U8s l) (hk : fl x0 x0 - 128 = l.length) (hM : beV (fl x0) l < 9223372036854775808) :
    encZ (numZ x0 (beV (fl x0) l)) = x0 :: l ↔ ¬ (0 < l.length ∧ fl x0 (l.getD 0 0) = 0) := by
  have hbd : ∀ c ∈ l, 0 ≤ fl x0 c ∧ fl x0 c ≤ 255 := fun c hc => fl_bd (hl c hc)
  have hlt := beV_lt (fl x0) l fun c hc => (hbd c hc).2
  have hhead : ∀ k : Nat, nb (beV (fl x0) l) = k → (headB (numZ x0 (beV (fl x0) l)) = x0 ↔ k = l.length) := fun k hk' => by
    unfold headB
    rw [mag_numZ, hk']
    unfold fl at hk
    by_cases h : x0 < 128
    · rw [if_pos ((neg_numZ x0 _).2 h)]; rw [if_pos h] at hk; omega
    · rw [if_neg (fun hh => h ((neg_numZ x0 _).1 hh))]; rw [if_neg h] at hk; omega
  constructor
  · rintro he ⟨h1, h2⟩
    cases l with
    | nil => simp at h1
    | cons c l =>
      simp only [List.getD_cons_zero] at h2
      have hb : beV (fl x0) (c :: l) = beV (fl x0) l := by rw [beV_cons, h2]; simp
      have hlt2 := beV_lt (fl x0) l fun c hc => (hbd c (by simp [hc])).2
      have hh : headB (numZ x0 (beV (fl x0) (c :: l))) = x0 := by unfold encZ at he; exact (List.cons.inj he).1
      have := (hhead _ rfl).1 hh
      obtain ⟨a, b⟩ := nb_spec (beV (fl x0) (c :: l)) hM
      rw [this] at b
      rcases b with b | b
      · simp at b
      · rw [hb, List.length_cons, Nat.add_sub_cancel] at b; omega
  · intro hn
    have hnb : nb (beV (fl x0) l) = l.length := by
      refine nb_unique _ _ hM hlt ?_
      cases l with
      | nil => exact .inl rfl
      | cons c l =>
        refine .inr ?_
        have hc := hbd c (by simp)
        have hc0 : fl x0 c ≠ 0 := fun h => hn ⟨by simp, by simpa using h⟩
        rw [beV_cons, List.length_cons, Nat.add_sub_cancel]
        calc 256 ^ l.length = 1 * 256 ^ l.length := by omega
          _ ≤ (fl x0 c).toNat * 256 ^ l.length := Nat.mul_le_mul_right _ (by omega)
          _ ≤ _ := Nat.le_add_right _ _
    have hh := (hhead _ hnb).2 rfl
    unfold encZ
    rw [hh, mag_numZ, hnb, digs_beV _ _ hbd, List.map_map]
    congr 1
    have : (flipB (numZ x0 (beV (fl x0) l)) ∘ fl x0) = id := funext fun c => flip_fl x0 _ c
    rw [this, List.map_id]

/-- what scoriaref01.GetInt answers -/
def refZ (b : List Int) : Int × Nat × Int :=
  match b with
  | [] => (0, 0, 3)
  | x0 :: t =>
    if x0 < 119 ∨ 136 < x0 then (0, 0, 2)
    else if t.length < (fl x0 x0 - 128).toNat then (0, 0, 3)
    else if 9223372036854775808 ≤ beV (fl x0) (t.take (fl x0 x0 - 128).toNat) then (0, 0, 2)
    else if encZ (numZ x0 (beV (fl x0) (t.take (fl x0 x0 - 128).toNat))) = x0 :: t.take (fl x0 x0 - 128).toNat then (numZ x0 (beV (fl x0) (t.take (fl x0 x0 - 128).toNat)), (fl x0 x0 - 128).toNat + 1, 0) else (0, 0, 2)
theorem refZ_getZ (b : List Int) (hu : U8s b) : refZ b = getZ b := by
  cases b with
  | nil => rfl
  | cons x0 t =>
    have hx := hu x0 (by simp)
    have ht : U8s t := fun c hc => hu c (by simp [hc])
    unfold refZ getZ
    simp only
    have h1 : (x0 < 119 ∨ 136 < x0) ↔ 8 < fl x0 x0 - 128 := by obtain ⟨a, b⟩ := hx; unfold fl; split <;> omega
    by_cases h8 : 8 < fl x0 x0 - 128
    · rw [if_pos (h1.2 h8), if_pos h8]
    rw [if_neg (fun h => h8 (h1.1 h)), if_neg h8]
    have hk0 : 0 ≤ fl x0 x0 - 128 := by obtain ⟨a, b⟩ := hx; unfold fl; split <;> omega
    obtain ⟨k, hk⟩ := Int.eq_ofNat_of_zero_le hk0
    rw [hk, Int.toNat_natCast]
    by_cases hm : t.length < k
    · rw [if_pos hm, if_pos hm]
    rw [if_neg hm, if_neg hm]
    have hl : (t.take k).length = k := by simp; omega
    have hU : U8s (t.take k) := fun c hc => ht c (List.mem_of_mem_take hc)
    have key := enc_read x0 (t.take k) hx hU (by rw [hk, hl])
    have hg : 0 < k → (t.take k).getD 0 0 = t.getD 0 0 := fun h => by
      cases t with
      | nil => simp
      | cons c t => cases k with | zero => omega | succ k => rfl
    unfold resZ
    by_cases hbig : 9223372036854775808 ≤ beV (fl x0) (t.take k)
    · rw [if_pos hbig]; split <;> rfl
    rw [if_neg hbig]
    have key := key (by omega)
    rw [hl] at key
    by_cases hz : 0 < (k : Int) ∧ fl x0 (t.getD 0 0) = 0
    · rw [if_pos hz, if_neg (fun h => key.1 h ⟨by omega, by rw [hg (by omega)]; exact hz.2⟩)]
    · rw [if_neg hz, if_neg hbig, if_pos (key.2 fun h => hz ⟨by omega, by rw [← hg h.1]; exact h.2⟩)]
      unfold numZ
      by_cases h : x0 < 128 <;> simp [h]
end Go.Proofs.Ytlekojbcaelpiaa

namespace Go.Proofs.Ytlekojbcaelpiaa
open Go.RowKit

theorem tmod_of_nonneg (n m : Int) (h : 0 ≤ n) : n.tmod m = n % m := Int.tmod_eq_emod_of_nonneg h
theorem around_neg (n m : Int) (h : n < 0) : (-(n + 1)).tmod m = aroundZ n m := by
  unfold aroundZ; rw [if_pos h]; exact tmod_of_nonneg _ _ (by omega)

set_option maxHeartbeats 400000 in
theorem around_any (n m : Int) (w : World) (h0 : 0 < m) (hm : m ≤ 9223372036854775807) (hn : I64 n) :
    Calls Try.prog 19 #[.int .i64 n, .int .i64 m] w fun e w' => e = .returned (.int .i64 (aroundZ n m)) ∧ w = w' := by
  obtain ⟨hn, hn'⟩ := hn
  by_cases h : n < 0
  · go_enter Try.func19, Try.ntmps19
    go_wp2
    go_ret
    exact ⟨ret_int (by simpa using around_neg n m h), rfl⟩
  · go_enter Try.func19, Try.ntmps19
    go_wp2
    go_ret
    exact ⟨ret_int (by unfold aroundZ; rw [if_neg (by omega)]), rfl⟩

set_option maxHeartbeats 400000 in
theorem at_any (A : Option Addr) (c B : Nat) (l : List Int) (i : Nat) (m : Int) (w : World) (h0 : 0 < m) (hm : m ≤ 9223372036854775807) (hi : i ≤ 1000000)
   (hl : l.length ≤ 9223372036854775807) (hr : Reads w B 1 A l.length (ints l)) (hw : I64s l) :
    Calls Try.prog 36 #[.slice A l.length c, .int .i64 i, .int .i64 m] w fun e w' => e = .returned (.int .i64 (atZ l i m)) ∧ w = w' := by
  by_cases h : i < l.length
  · obtain ⟨ad, x, rfl, _, hc, hx⟩ := hr.int_ h
    have hwi := hw.at_ hx.out
    have hres : atZ l i m = aroundZ x m := by unfold atZ; rw [hx.out]
    rw [hres]
    clear hw hr hx hres
    go_enter Try.func36, Try.ntmps36
    go_wp2_with (go_at_call 19; refine (around_any _ _ _ h0 hm hwi).mono ?_; rintro e w' ⟨rfl, rfl⟩)
    go_ret
    exact ⟨rfl, rfl⟩
  · have hres : atZ l i m = 0 := by unfold atZ; rw [List.getElem?_eq_none (by omega)]
    rw [hres]
    clear hw hr hres
    go_enter Try.func36, Try.ntmps36
    go_wp2
    go_ret
    exact ⟨rfl, rfl⟩
end Go.Proofs.Ytlekojbcaelpiaa

/- What hints claim: slices, append. -/
namespace Go.Proofs.Ytlekojbcaelpiaa
open Go.RowKit

structure El (t e size bytes : Nat) : Prop where
  el : elemT Try.prog t = some e
  info : ∃ i, Try.prog.info? e = some i ∧ i.size = size ∧ i.bytes = bytes
  zero : ∃ z, zeroT Try.prog e = some z ∧ z.length = size
  pos : 0 < size
theorem infoOf {e size bytes : Nat} (h : (Try.prog.info? e).map (fun i => (i.size, i.bytes)) = some (size, bytes)) : ∃ i, Try.prog.info? e = some i ∧ i.size = size ∧ i.bytes = bytes := by
  cases hi : Try.prog.info? e with
  | none => rw [hi] at h; cases h
  | some i => rw [hi] at h; simp only [Option.map_some, Option.some.injEq, Prod.mk.injEq] at h; exact ⟨i, rfl, h.1, h.2⟩
theorem zeroOf {e size : Nat} (h : (zeroT Try.prog e).map List.length = some size) : ∃ z, zeroT Try.prog e = some z ∧ z.length = size := by
  cases hz : zeroT Try.prog e with
  | none => rw [hz] at h; cases h
  | some z => rw [hz] at h; simp only [Option.map_some, Option.some.injEq] at h; exact ⟨z, rfl, h⟩
theorem el22 : El 22 3 1 8 := ⟨by kernel_rfl, infoOf (by kernel_rfl), zeroOf (by kernel_rfl), by omega⟩
theorem el34 : El 34 5 1 1 := ⟨by kernel_rfl, infoOf (by kernel_rfl), zeroOf (by kernel_rfl), by omega⟩
theorem el23 : El 23 71 3 24 := ⟨by kernel_rfl, infoOf (by kernel_rfl), zeroOf (by kernel_rfl), by omega⟩
theorem el28 : El 28 25 6 80 := ⟨by kernel_rfl, infoOf (by kernel_rfl), zeroOf (by kernel_rfl), by omega⟩
theorem el52 : El 52 30 6 80 := ⟨by kernel_rfl, infoOf (by kernel_rfl), zeroOf (by kernel_rfl), by omega⟩
section
variable {t e size bytes : Nat} (h : El t e size bytes)
include h
theorem El.sz : (elemT Try.prog t).bind (szT Try.prog) = some size := by
  obtain ⟨i, h1, h2, h3⟩ := h.info
  simp only [h.el, Option.bind_some, szT, h1, Option.map_some, h2]
theorem El.idx {tok : Option (Nat × Nat)} {n k : Nat} {xs : List AV} (hk : k < n) : cmdIndexAddr Try.prog t (.row tok size n xs) (iA k) = some (.val (.rptr (xs.drop (k * size)))) := by
  simp only [cmdIndexAddr, iA, h.sz]
  rw [if_pos ⟨by trivial, by omega, by omega⟩]
  simp
theorem El.sl {x : AV} {n a b : Nat} {xs : List AV} (hx : rowOf size x = some (n, xs)) (h1 : a ≤ b) (h2 : b ≤ n) : cmdSlice Try.prog t x (some (iA a)) (some (iA b)) none = some (.val (.row none size (b - a) ((xs.drop (a * size)).take ((b - a) * size)))) := by
  have e1 : boundOf (some (iA a)) 0 = some a := by simp [boundOf, iA]
  have e2 : boundOf (some (iA b)) n = some b := by simp [boundOf, iA]
  simp only [cmdSlice, h.sz, hx, e1, e2]
  rw [if_pos ⟨h1, h2⟩]
theorem El.slLo {x : AV} {n a : Nat} {xs : List AV} (hx : rowOf size x = some (n, xs)) (h1 : a ≤ n) : cmdSlice Try.prog t x (some (iA a)) none none = some (.val (.row none size (n - a) ((xs.drop (a * size)).take ((n - a) * size)))) := by
  have e1 : boundOf (some (iA a)) 0 = some a := by simp [boundOf, iA]
  have e3 : boundOf none n = some n := rfl
  simp only [cmdSlice, h.sz, hx, e1, e3]
  rw [if_pos ⟨h1, Nat.le_refl _⟩]
theorem El.slHi {x : AV} {n b : Nat} {xs : List AV} (hx : rowOf size x = some (n, xs)) (h2 : b ≤ n) : cmdSlice Try.prog t x none (some (iA b)) none = some (.val (.row none size b (xs.take (b * size)))) := by
  have e2 : boundOf (some (iA b)) n = some b := by simp [boundOf, iA]
  have e3 : boundOf none 0 = some 0 := rfl
  simp only [cmdSlice, h.sz, hx, e2, e3]
  rw [if_pos ⟨Nat.zero_le _, h2⟩]
  simp
theorem El.nil {x : AV} {m : Nat} {ys : List AV} (hx : rowOf size x = some (m, ys)) (hf : fits 0 m bytes = true) : cmdAppend Try.prog t t (.sc (.slice none 0 0)) x = some (.fresh e size m ys) := by
  obtain ⟨i, i1, i2, i3⟩ := h.info
  obtain ⟨z, z1, z2⟩ := h.zero
  subst i2; subst i3
  simp only [cmdAppend, Nat.beq_refl, h.el, i1, z1, hx]
  rw [if_pos ⟨h.pos, z2, hf⟩]
theorem El.grow {x : AV} {d n m : Nat} {xs ys : List AV} (hx : rowOf size x = some (m, ys)) (hf : fits n m bytes = true) : cmdAppend Try.prog t t (.row (some (d, e)) size n xs) x = some (.grow d e size n xs m ys) := by
  obtain ⟨i, i1, i2, i3⟩ := h.info
  obtain ⟨z, z1, z2⟩ := h.zero
  subst i2; subst i3
  simp only [cmdAppend, Nat.beq_refl, h.el, i1, z1, hx]
  rw [if_pos ⟨by trivial, by trivial, h.pos, z2, hf⟩]
end
theorem fits_of {n m bytes : Nat} (h1 : n + m ≤ 100000000) (h2 : bytes ≤ 100000) : fits n m bytes = true := by
  simp only [fits, Bool.and_eq_true, Nat.ble_eq, maxLen]
  refine ⟨by omega, ?_⟩
  calc (n + m) * bytes ≤ 100000000 * 100000 := Nat.mul_le_mul h1 h2
    _ ≤ 140737488355328 := by omega
theorem rowOf_row (size n : Nat) (tok : Option (Nat × Nat)) (xs : List AV) : rowOf size (.row tok size n xs) = some (n, xs) := by simp [rowOf]
theorem rowOf_nil (size : Nat) : rowOf size (.sc (.slice none 0 0)) = some (0, []) := rfl

theorem ok19 (n m : Int) (h0 : 0 < m) (hm : m ≤ 9223372036854775807) (hn : I64 n) : Ok Try.prog 19 [iA n, iA m] (plainR (iA (aroundZ n m))) := Ok.mk' Try.func19 rfl fun w pr cs hp h => by
  obtain ⟨c, d, rfl, h1, h2⟩ := vl2 h
  have e1 : c = .int .i64 n := h1
  have e2 : d = .int .i64 m := h2
  subst e1; subst e2
  refine (around_any n m w h0 hm hn).mono ?_
  rintro e w' ⟨rfl, rfl⟩
  exact post_sc hp (Below.refl _ _)
theorem ok36 (l : List Int) (i : Nat) (m : Int) (h0 : 0 < m) (hm : m ≤ 9223372036854775807) (hi : i ≤ 1000000) (hl : l.length ≤ 9223372036854775807) (hw : I64s l) : Ok Try.prog 36 [rowI l, iA i, iA m] (plainR (iA (atZ l i m))) := Ok.mk' Try.func36 rfl fun w pr cs hp h => by
  simp only [VL] at h
  obtain ⟨c, _, rfl, h1, d, _, rfl, h2, e, _, rfl, h3, rfl⟩ := h
  obtain ⟨A, ca, rfl, _, _, r1⟩ := rowI_reads h1
  have e2 : d = .int .i64 i := h2
  have e3 : e = .int .i64 m := h3
  subst e2; subst e3
  refine (at_any A ca _ l i m w h0 hm hi hl r1 hw).mono ?_
  rintro e w' ⟨rfl, rfl⟩
  exact post_sc hp (Below.refl _ _)
end Go.Proofs.Ytlekojbcaelpiaa

/- scoriaref38.begins. -/
namespace Go.Proofs.Ytlekojbcaelpiaa
open Go.RowKit
def begB (a b : List Ev) : Bool := decide (b <+: a)
theorem prefix_take {α : Type} {a b : List α} : b <+: a ↔ b.length ≤ a.length ∧ ∀ k, k < b.length → a[k]? = b[k]? := by
  constructor
  · rintro ⟨c, rfl⟩
    exact ⟨by simp, fun k hk => by rw [List.getElem?_append_left hk]⟩
  · rintro ⟨h1, h2⟩
    rw [List.prefix_iff_eq_take]
    refine List.ext_getElem? fun k => ?_
    rw [List.getElem?_take]
    split
    · rename_i hk; exact (h2 k hk).symm
    · rename_i hk; exact List.getElem?_eq_none (by omega)
noncomputable abbrev C59 : Code := bodyOf Try.f59
def st59 (a b : List Ev) (k : Nat) : St := { n := 26, slots := [(0, rowE a), (1, rowE b), (5, iA k)], objs := [], lens := [] }
noncomputable def s59a (a b : List Ev) : St := stOf (runCode Try.prog (orc [(10, .val (bA false))]) (liveOf 59) 0 (pre 2 C59) (start [rowE a, rowE b] 26))
noncomputable def s59b (a b : List Ev) : St := stOf (runCode Try.prog (orc []) (liveOf 59) 0 (fR (post 2 C59)) (s59a a b))

theorem begins_any (a b : List Ev) (hl : a.length ≤ 1000000) : Ok Try.prog 59 [rowE a, rowE b] (plainR (bA (begB a b))) := by
  by_cases hle : b.length ≤ a.length
  case neg =>
    have : begB a b = false := by unfold begB; rw [decide_eq_false_iff_not, prefix_take]; exact fun h => hle h.1
    rw [this]
    exact Ok.run' 59 (orc [(10, .val (bA true))]) Try.func59 [pB .gtr 3 (.tmp 7) (.tmp 9) (.int .i64 (b.length)) (.int .i64 (a.length)) (bA true)] (by kernel_rfl) (allc (hGtr _ _ _ _ _ _ (by simp <;> omega)) allnil)
  refine Ok.judg Try.func59 (c := C59) rfl (by simp [Try.ntmps59]) ?_
  refine Judg.pre' 59 (orc [(10, .val (bA false))]) 2 (s59a a b) [pB .gtr 3 (.tmp 7) (.tmp 9) (.int .i64 (b.length)) (.int .i64 (a.length)) (bA false)] (by kernel_rfl) (by kernel_rfl) (allc (hGtr _ _ _ _ _ _ (by simp <;> omega)) allnil) ?_
  refine Judg.for_ (ι := Nat) [0, 1, 5] [] (st59 a b) (fun k => b.length - k) (fun k => k ≤ b.length ∧ ∀ j, j < k → a[j]? = b[j]?) (by kernel_rfl) (orc []) (liveOf 59) (s1 := s59b a b) (by kernel_rfl)
    (by have e : (s59b a b).log = [pB .gtr 3 (.tmp 7) (.tmp 9) (.int .i64 (b.length)) (.int .i64 (a.length)) (bA false)] := by kernel_rfl
        rw [e]; exact (allc (hGtr _ _ _ _ _ _ (by simp <;> omega)) allnil)) 0 ⟨by omega, fun j hj => by omega⟩ (by kernel_rfl) ?_
  rintro k ⟨hk, hp⟩
  by_cases hlt : k < b.length
  · obtain ⟨x, hx⟩ : ∃ x, a[k]? = some x := ⟨a[k], List.getElem?_eq_getElem (by omega)⟩
    obtain ⟨y, hy⟩ : ∃ y, b[k]? = some y := ⟨b[k], List.getElem?_eq_getElem hlt⟩
    by_cases hxy : x = y
    · refine Judg.run' 59 (orc [(14, .val (bA true)), (19, .val (.rptr (iA x.p :: iA x.k :: iA x.n :: evA (a.drop (k + 1))))), (23, .val (.rptr (iA y.p :: iA y.k :: iA y.n :: evA (b.drop (k + 1))))), (25, .val (bA false)), (16, .val (iA ((k + 1 : Nat) : Int)))]) (.go (stOf (runCode Try.prog (orc [(14, .val (bA true)), (19, .val (.rptr (iA x.p :: iA x.k :: iA x.n :: evA (a.drop (k + 1))))), (23, .val (.rptr (iA y.p :: iA y.k :: iA y.n :: evA (b.drop (k + 1))))), (25, .val (bA false)), (16, .val (iA ((k + 1 : Nat) : Int)))]) (liveOf 59) 0 (fB (post 2 C59)) (st59 a b k)))) [pB .add 3 (.tmp 15) (.const (.int .i64 1)) (.int .i64 (k)) (.int .i64 (1)) (iA ((k + 1 : Nat) : Int)), pB .neq 71 (.tmp 20) (.tmp 24) (evV x) (evV y) (bA false), cmdIndexAddr Try.prog 23 (rowE b) (iA k) = some (.val (.rptr (iA y.p :: iA y.k :: iA y.n :: evA (b.drop (k + 1))))), cmdIndexAddr Try.prog 23 (rowE a) (iA k) = some (.val (.rptr (iA x.p :: iA x.k :: iA x.n :: evA (a.drop (k + 1))))), pB .lss 3 (.tmp 11) (.tmp 13) (.int .i64 (k)) (.int .i64 (b.length)) (bA true)] (by kernel_rfl) (by kernel_rfl) (allc (hAdd _ _ _ _ _ _ (by simp) ⟨by omega, by omega⟩) (allc (hNeqE _ _ _ _ _ (by simp [hxy])) (allc (hIdxE hy) (allc (hIdxE hx) (allc (hLss _ _ _ _ _ _ (by simp <;> omega)) allnil)))))
        ⟨k + 1, ⟨by omega, fun j hj => ?_⟩, by omega, by kernel_rfl⟩
      by_cases hjk : j = k
      · subst hjk; rw [hx, hy, hxy]
      · exact hp j (by omega)
    · have : begB a b = false := by
        unfold begB; rw [decide_eq_false_iff_not, prefix_take]; intro h
        have := h.2 k hlt; rw [hx, hy] at this; exact hxy (Option.some.inj this)
      rw [this]
      refine Judg.run' 59 (orc [(14, .val (bA true)), (19, .val (.rptr (iA x.p :: iA x.k :: iA x.n :: evA (a.drop (k + 1))))), (23, .val (.rptr (iA y.p :: iA y.k :: iA y.n :: evA (b.drop (k + 1))))), (25, .val (bA true))]) (.ret (stOf (runCode Try.prog (orc [(14, .val (bA true)), (19, .val (.rptr (iA x.p :: iA x.k :: iA x.n :: evA (a.drop (k + 1))))), (23, .val (.rptr (iA y.p :: iA y.k :: iA y.n :: evA (b.drop (k + 1))))), (25, .val (bA true))]) (liveOf 59) 0 (fB (post 2 C59)) (st59 a b k)))) [pB .neq 71 (.tmp 20) (.tmp 24) (evV x) (evV y) (bA true), cmdIndexAddr Try.prog 23 (rowE b) (iA k) = some (.val (.rptr (iA y.p :: iA y.k :: iA y.n :: evA (b.drop (k + 1))))), cmdIndexAddr Try.prog 23 (rowE a) (iA k) = some (.val (.rptr (iA x.p :: iA x.k :: iA x.n :: evA (a.drop (k + 1))))), pB .lss 3 (.tmp 11) (.tmp 13) (.int .i64 (k)) (.int .i64 (b.length)) (bA true)] (by kernel_rfl) (by kernel_rfl) (allc (hNeqE _ _ _ _ _ (by simp [hxy])) (allc (hIdxE hy) (allc (hIdxE hx) (allc (hLss _ _ _ _ _ _ (by simp <;> omega)) allnil)))) ?_
      exact fin_ret (l := []) _ (by kernel_rfl) allnil
  · obtain rfl : k = b.length := by omega
    have : begB a b = true := by unfold begB; rw [decide_eq_true_eq, prefix_take]; exact ⟨hle, hp⟩
    rw [this]
    refine Judg.run' 59 (orc [(14, .val (bA false))]) (.exit 0 (stOf (runCode Try.prog (orc [(14, .val (bA false))]) (liveOf 59) 0 (fB (post 2 C59)) (st59 a b b.length)))) [pB .lss 3 (.tmp 11) (.tmp 13) (.int .i64 (b.length)) (.int .i64 (b.length)) (bA false)] (by kernel_rfl) (by kernel_rfl) (allc (hLss _ _ _ _ _ _ (by simp <;> omega)) allnil) ?_
    show Judg (fK (post 2 C59)) _ _
    refine Judg.run' 59 (orc []) (.ret (stOf (runCode Try.prog (orc []) (liveOf 59) 0 (fK (post 2 C59)) (stOf (runCode Try.prog (orc [(14, .val (bA false))]) (liveOf 59) 0 (fB (post 2 C59)) (st59 a b b.length)))))) [pB .lss 3 (.tmp 11) (.tmp 13) (.int .i64 (b.length)) (.int .i64 (b.length)) (bA false)] (by kernel_rfl) (by kernel_rfl) (allc (hLss _ _ _ _ _ _ (by simp <;> omega)) allnil) ?_
    exact fin_ret (l := []) _ (by kernel_rfl) allnil
end Go.Proofs.Ytlekojbcaelpiaa

/- scoriaref01.Few, scoriaref38.Agrees, Contradict, Cut. -/
namespace Go.Proofs.Ytlekojbcaelpiaa
open Go.RowKit
abbrev pMin (ts : List TypeId) (ty : TypeId) (a b r : AV) : Prop := ((scs [a, b]).bind fun vs => (peek Try.prog (Builtin.min_ ts.toArray ty vs.toArray)).map fun v => Cmd.val (.sc v)) = some (.val r)
theorem hMin (ts : List TypeId) (ty : TypeId) (a b c : Nat) (h : min a b = c) : pMin ts ty (iA a) (iA b) (iA c) := by
  subst h
  have e : ((scs [iA a, iA b]).bind fun vs => (peek Try.prog (Builtin.min_ ts.toArray ty vs.toArray)).map fun v => Cmd.val (.sc v)) = some (.val (iA (if (b : Int) < a then (b : Int) else a))) := rfl
  unfold pMin
  rw [e]
  congr 3
  split <;> omega
theorem rowU_take (b : List Int) (m : Nat) (h : m ≤ b.length) : AV.row none 1 m ((b.map uA).take (m * 1)) = rowU (b.take m) := by
  unfold rowU; rw [Nat.mul_one, List.length_take, Nat.min_eq_left h, List.map_take]
theorem rowE_take (b : List Ev) (m : Nat) (h : m ≤ b.length) : AV.row none 3 m ((evA b).take (m * 3)) = rowE (b.take m) := by
  unfold rowE; rw [List.length_take, Nat.min_eq_left h, evA_take]
theorem rowI_take (b : List Int) (m : Nat) (h : m ≤ b.length) : AV.row none 1 m ((b.map iA).take (m * 1)) = rowI (b.take m) := by
  unfold rowI; rw [Nat.mul_one, List.length_take, Nat.min_eq_left h, List.map_take]

theorem few_any (b : List Int) (k m : Nat) (hm : min b.length k = m) (hl : b.length ≤ 90000000) : Ok Try.prog 18 [rowU b, iA k] (ownU (b.take m)) := by
  have hmb : m ≤ b.length := by omega
  exact Ok.run' 18 (orc [(11, .val (iA m)), (12, .val (rowU (b.take m))), (13, .fresh 5 1 (b.take m).length ((b.take m).map uA))]) Try.func18 (((b.take m).length * 1 = (b.take m).length * 1) :: [cmdAppend Try.prog 34 34 (.sc (.slice none 0 0)) (rowU (b.take m)) = some (.fresh 5 1 (b.take m).length ((b.take m).map uA)), cmdSlice Try.prog 34 (rowU b) none (some (iA m)) none = some (.val (rowU (b.take m))), pMin [3, 3] 3 (iA b.length) (iA k) (iA m)]) (by kernel_rfl) (allc (rfl) (allc (el34.nil (rowOf_row _ _ _ _) (fits_of (by simp; omega) (by omega))) (allc (by rw [← rowU_take b m hmb]; exact el34.slHi (rowOf_row _ _ _ _) hmb) (allc (hMin _ _ _ _ _ hm) allnil))))

def agrR (r : Rp) (es : List Ev) (en : Int) : Bool := begB es r.events && (r.cut || (decide (es.length = r.events.length) && decide (en = r.en)))
theorem agr_ff (id ver en : Int) (args : List Int) (events es : List Ev) (eo : Int) (cut : Bool) (hb : Ok Try.prog 59 [rowE es, rowE events] (plainR (bA false))) : Ok Try.prog 33 [rpA ⟨id, ver, args, events, cut, en⟩, outA es eo] (plainR (bA false)) := by
  exact Ok.run' 33 (orcC [(9, plainR (bA false))] []) Try.func33 [Ok Try.prog 59 [rowE es, rowE events] (plainR (bA false))] (by kernel_rfl) (allc (hb) allnil)

theorem agr_t (id ver en : Int) (args : List Int) (events es : List Ev) (eo : Int) (hb : Ok Try.prog 59 [rowE es, rowE events] (plainR (bA true)))  : Ok Try.prog 33 [rpA ⟨id, ver, args, events, true, en⟩, outA es eo] (plainR (bA true)) := by
  exact Ok.run' 33 (orcC [(9, plainR (bA true))] []) Try.func33 [Ok Try.prog 59 [rowE es, rowE events] (plainR (bA true))] (by kernel_rfl) (allc (hb) allnil)

theorem agr_l (id ver en : Int) (args : List Int) (events es : List Ev) (eo : Int) (hb : Ok Try.prog 59 [rowE es, rowE events] (plainR (bA true))) (hl : ¬ es.length = events.length) : Ok Try.prog 33 [rpA ⟨id, ver, args, events, false, en⟩, outA es eo] (plainR (bA false)) := by
  exact Ok.run' 33 (orcC [(9, plainR (bA true))] [(20, .val (bA false))]) Try.func33 [pB .eql 3 (.tmp 16) (.tmp 19) (.int .i64 (es.length)) (.int .i64 (events.length)) (bA false), Ok Try.prog 59 [rowE es, rowE events] (plainR (bA true))] (by kernel_rfl) (allc (hEql _ _ _ _ _ _ (by simp <;> omega)) (allc (hb) allnil))

theorem agr_e (id ver en : Int) (args : List Int) (events es : List Ev) (eo : Int) (hb : Ok Try.prog 59 [rowE es, rowE events] (plainR (bA true))) (hl : es.length = events.length) (he : ¬ eo = en) : Ok Try.prog 33 [rpA ⟨id, ver, args, events, false, en⟩, outA es eo] (plainR (bA false)) := by
  exact Ok.run' 33 (orcC [(9, plainR (bA true))] [(20, .val (bA true)), (26, .val (bA false))]) Try.func33 [pB .eql 3 (.tmp 23) (.tmp 25) (.int .i64 (eo)) (.int .i64 (en)) (bA false), pB .eql 3 (.tmp 16) (.tmp 19) (.int .i64 (es.length)) (.int .i64 (events.length)) (bA true), Ok Try.prog 59 [rowE es, rowE events] (plainR (bA true))] (by kernel_rfl) (allc (hEql _ _ _ _ _ _ (by simp <;> omega)) (allc (hEql _ _ _ _ _ _ (by simp <;> omega)) (allc (hb) allnil)))

theorem agr_k (id ver en : Int) (args : List Int) (events es : List Ev) (eo : Int) (hb : Ok Try.prog 59 [rowE es, rowE events] (plainR (bA true))) (hl : es.length = events.length) (he : eo = en) : Ok Try.prog 33 [rpA ⟨id, ver, args, events, false, en⟩, outA es eo] (plainR (bA true)) := by
  exact Ok.run' 33 (orcC [(9, plainR (bA true))] [(20, .val (bA true)), (26, .val (bA true))]) Try.func33 [pB .eql 3 (.tmp 23) (.tmp 25) (.int .i64 (eo)) (.int .i64 (en)) (bA true), pB .eql 3 (.tmp 16) (.tmp 19) (.int .i64 (es.length)) (.int .i64 (events.length)) (bA true), Ok Try.prog 59 [rowE es, rowE events] (plainR (bA true))] (by kernel_rfl) (allc (hEql _ _ _ _ _ _ (by simp <;> omega)) (allc (hEql _ _ _ _ _ _ (by simp <;> omega)) (allc (hb) allnil)))

theorem ok33 (r : Rp) (es : List Ev) (eo : Int) (hl : es.length ≤ 1000000) : Ok Try.prog 33 [rpA r, outA es eo] (plainR (bA (agrR r es eo))) := by
  have hb := begins_any es r.events hl
  obtain ⟨id, ver, args, events, cut, en⟩ := r
  unfold agrR
  simp only at hb ⊢
  cases hv : begB es events with
  | false => rw [hv] at hb; exact agr_ff id ver en args events es eo cut hb
  | true =>
    rw [hv] at hb
    cases cut with
    | true => exact agr_t id ver en args events es eo hb
    | false =>
      by_cases h1 : es.length = events.length
      · by_cases h2 : eo = en
        · have := agr_k id ver en args events es eo hb h1 h2
          simpa [h1, h2] using this
        · have := agr_e id ver en args events es eo hb h1 h2
          simpa [h1, h2] using this
      · have := agr_l id ver en args events es eo hb h1
        simpa [h1] using this
end Go.Proofs.Ytlekojbcaelpiaa

/- scoriaref38.Contradict, report.contradict, scoriaref38.Cut. -/
namespace Go.Proofs.Ytlekojbcaelpiaa
open Go.RowKit
/-- contradiction, as the model says it -/
def contrR (a b : Rp) : Bool :=
  if a.ver ≠ b.ver then false else if eqI a.args b.args = false then false
  else if a.cut && b.cut then (!begB a.events b.events && !begB b.events a.events)
  else if a.cut then !agrR a b.events b.en else !agrR b a.events a.en

theorem con_ver (ida va na idb vb nb : Int) (aa ab : List Int) (ea eb : List Ev) (ca cb : Bool) (hv : ¬ va = vb) : Ok Try.prog 56 [rpA ⟨ida, va, aa, ea, ca, na⟩, rpA ⟨idb, vb, ab, eb, cb, nb⟩] (plainR (bA false)) := by
  exact Ok.run' 56 (orc [(9, .val (bA true))]) Try.func56 [pB .neq 3 (.tmp 6) (.tmp 8) (.int .i64 (va)) (.int .i64 (vb)) (bA true)] (by kernel_rfl) (allc (hNeq _ _ _ _ _ _ (by simp [hv])) allnil)

theorem con_args (ida va na idb vb nb : Int) (aa ab : List Int) (ea eb : List Ev) (ca cb : Bool) (hv : va = vb) (h30 : Ok Try.prog 30 [rowI aa, rowI ab] (plainR (bA false))) : Ok Try.prog 56 [rpA ⟨ida, va, aa, ea, ca, na⟩, rpA ⟨idb, vb, ab, eb, cb, nb⟩] (plainR (bA false)) := by
  exact Ok.run' 56 (orcC [(15, plainR (bA false))] [(9, .val (bA false))]) Try.func56 [Ok Try.prog 30 [rowI aa, rowI ab] (plainR (bA false)), pB .neq 3 (.tmp 6) (.tmp 8) (.int .i64 (va)) (.int .i64 (vb)) (bA false)] (by kernel_rfl) (allc (h30) (allc (hNeq _ _ _ _ _ _ (by simp [hv])) allnil))

theorem con_cc1 (ida va na idb vb nb : Int) (aa ab : List Int) (ea eb : List Ev) (hv : va = vb) (h30 : Ok Try.prog 30 [rowI aa, rowI ab] (plainR (bA true))) (h1 : Ok Try.prog 59 [rowE ea, rowE eb] (plainR (bA true))) : Ok Try.prog 56 [rpA ⟨ida, va, aa, ea, true, na⟩, rpA ⟨idb, vb, ab, eb, true, nb⟩] (plainR (bA false)) := by
  exact Ok.run' 56 (orcC [(15, plainR (bA true)), (28, plainR (bA true))] [(9, .val (bA false))]) Try.func56 [Ok Try.prog 59 [rowE ea, rowE eb] (plainR (bA true)), Ok Try.prog 30 [rowI aa, rowI ab] (plainR (bA true)), pB .neq 3 (.tmp 6) (.tmp 8) (.int .i64 (va)) (.int .i64 (vb)) (bA false)] (by kernel_rfl) (allc (h1) (allc (h30) (allc (hNeq _ _ _ _ _ _ (by simp [hv])) allnil)))

theorem con_cc2t (ida va na idb vb nb : Int) (aa ab : List Int) (ea eb : List Ev) (hv : va = vb) (h30 : Ok Try.prog 30 [rowI aa, rowI ab] (plainR (bA true))) (h1 : Ok Try.prog 59 [rowE ea, rowE eb] (plainR (bA false))) (h2 : Ok Try.prog 59 [rowE eb, rowE ea] (plainR (bA true))) : Ok Try.prog 56 [rpA ⟨ida, va, aa, ea, true, na⟩, rpA ⟨idb, vb, ab, eb, true, nb⟩] (plainR (bA false)) := by
  exact Ok.run' 56 (orcC [(15, plainR (bA true)), (28, plainR (bA false)), (35, plainR (bA true))] [(9, .val (bA false))]) Try.func56 [Ok Try.prog 59 [rowE eb, rowE ea] (plainR (bA true)), Ok Try.prog 59 [rowE ea, rowE eb] (plainR (bA false)), Ok Try.prog 30 [rowI aa, rowI ab] (plainR (bA true)), pB .neq 3 (.tmp 6) (.tmp 8) (.int .i64 (va)) (.int .i64 (vb)) (bA false)] (by kernel_rfl) (allc (h2) (allc (h1) (allc (h30) (allc (hNeq _ _ _ _ _ _ (by simp [hv])) allnil))))

theorem con_cc2f (ida va na idb vb nb : Int) (aa ab : List Int) (ea eb : List Ev) (hv : va = vb) (h30 : Ok Try.prog 30 [rowI aa, rowI ab] (plainR (bA true))) (h1 : Ok Try.prog 59 [rowE ea, rowE eb] (plainR (bA false))) (h2 : Ok Try.prog 59 [rowE eb, rowE ea] (plainR (bA false))) : Ok Try.prog 56 [rpA ⟨ida, va, aa, ea, true, na⟩, rpA ⟨idb, vb, ab, eb, true, nb⟩] (plainR (bA true)) := by
  exact Ok.run' 56 (orcC [(15, plainR (bA true)), (28, plainR (bA false)), (35, plainR (bA false))] [(9, .val (bA false))]) Try.func56 [Ok Try.prog 59 [rowE eb, rowE ea] (plainR (bA false)), Ok Try.prog 59 [rowE ea, rowE eb] (plainR (bA false)), Ok Try.prog 30 [rowI aa, rowI ab] (plainR (bA true)), pB .neq 3 (.tmp 6) (.tmp 8) (.int .i64 (va)) (.int .i64 (vb)) (bA false)] (by kernel_rfl) (allc (h2) (allc (h1) (allc (h30) (allc (hNeq _ _ _ _ _ _ (by simp [hv])) allnil))))

theorem con_cft (ida va na idb vb nb : Int) (aa ab : List Int) (ea eb : List Ev) (hv : va = vb) (h30 : Ok Try.prog 30 [rowI aa, rowI ab] (plainR (bA true))) (h3 : Ok Try.prog 33 [rpA ⟨ida, va, aa, ea, true, na⟩, outA eb nb] (plainR (bA true))) : Ok Try.prog 56 [rpA ⟨ida, va, aa, ea, true, na⟩, rpA ⟨idb, vb, ab, eb, false, nb⟩] (plainR (bA false)) := by
  exact Ok.run' 56 (orcC [(15, plainR (bA true)), (46, plainR (bA true))] [(9, .val (bA false))]) Try.func56 [Ok Try.prog 33 [rpA ⟨ida, va, aa, ea, true, na⟩, outA eb nb] (plainR (bA true)), Ok Try.prog 30 [rowI aa, rowI ab] (plainR (bA true)), pB .neq 3 (.tmp 6) (.tmp 8) (.int .i64 (va)) (.int .i64 (vb)) (bA false)] (by kernel_rfl) (allc (h3) (allc (h30) (allc (hNeq _ _ _ _ _ _ (by simp [hv])) allnil)))

theorem con_ft (ida va na idb vb nb : Int) (aa ab : List Int) (ea eb : List Ev) (cb : Bool) (hv : va = vb) (h30 : Ok Try.prog 30 [rowI aa, rowI ab] (plainR (bA true))) (h3 : Ok Try.prog 33 [rpA ⟨idb, vb, ab, eb, cb, nb⟩, outA ea na] (plainR (bA true))) : Ok Try.prog 56 [rpA ⟨ida, va, aa, ea, false, na⟩, rpA ⟨idb, vb, ab, eb, cb, nb⟩] (plainR (bA false)) := by
  exact Ok.run' 56 (orcC [(15, plainR (bA true)), (54, plainR (bA true))] [(9, .val (bA false))]) Try.func56 [Ok Try.prog 33 [rpA ⟨idb, vb, ab, eb, cb, nb⟩, outA ea na] (plainR (bA true)), Ok Try.prog 30 [rowI aa, rowI ab] (plainR (bA true)), pB .neq 3 (.tmp 6) (.tmp 8) (.int .i64 (va)) (.int .i64 (vb)) (bA false)] (by kernel_rfl) (allc (h3) (allc (h30) (allc (hNeq _ _ _ _ _ _ (by simp [hv])) allnil)))

theorem con_cff (ida va na idb vb nb : Int) (aa ab : List Int) (ea eb : List Ev) (hv : va = vb) (h30 : Ok Try.prog 30 [rowI aa, rowI ab] (plainR (bA true))) (h3 : Ok Try.prog 33 [rpA ⟨ida, va, aa, ea, true, na⟩, outA eb nb] (plainR (bA false))) : Ok Try.prog 56 [rpA ⟨ida, va, aa, ea, true, na⟩, rpA ⟨idb, vb, ab, eb, false, nb⟩] (plainR (bA true)) := by
  exact Ok.run' 56 (orcC [(15, plainR (bA true)), (46, plainR (bA false))] [(9, .val (bA false))]) Try.func56 [Ok Try.prog 33 [rpA ⟨ida, va, aa, ea, true, na⟩, outA eb nb] (plainR (bA false)), Ok Try.prog 30 [rowI aa, rowI ab] (plainR (bA true)), pB .neq 3 (.tmp 6) (.tmp 8) (.int .i64 (va)) (.int .i64 (vb)) (bA false)] (by kernel_rfl) (allc (h3) (allc (h30) (allc (hNeq _ _ _ _ _ _ (by simp [hv])) allnil)))

theorem con_ff (ida va na idb vb nb : Int) (aa ab : List Int) (ea eb : List Ev) (cb : Bool) (hv : va = vb) (h30 : Ok Try.prog 30 [rowI aa, rowI ab] (plainR (bA true))) (h3 : Ok Try.prog 33 [rpA ⟨idb, vb, ab, eb, cb, nb⟩, outA ea na] (plainR (bA false))) : Ok Try.prog 56 [rpA ⟨ida, va, aa, ea, false, na⟩, rpA ⟨idb, vb, ab, eb, cb, nb⟩] (plainR (bA true)) := by
  exact Ok.run' 56 (orcC [(15, plainR (bA true)), (54, plainR (bA false))] [(9, .val (bA false))]) Try.func56 [Ok Try.prog 33 [rpA ⟨idb, vb, ab, eb, cb, nb⟩, outA ea na] (plainR (bA false)), Ok Try.prog 30 [rowI aa, rowI ab] (plainR (bA true)), pB .neq 3 (.tmp 6) (.tmp 8) (.int .i64 (va)) (.int .i64 (vb)) (bA false)] (by kernel_rfl) (allc (h3) (allc (h30) (allc (hNeq _ _ _ _ _ _ (by simp [hv])) allnil)))

theorem ok56 (a b : Rp) (ha : Fit a) (hb : Fit b) : Ok Try.prog 56 [rpA a, rpA b] (plainR (bA (contrR a b))) := by
  have l1 := ha.le
  have l2 := hb.le
  have h30 := ok30 a.args b.args (by have := ha.la; omega) (by have := hb.la; omega)
  have h1 := begins_any a.events b.events (by omega)
  have h2 := begins_any b.events a.events (by omega)
  have h3 := ok33 a b.events b.en (by omega)
  have h4 := ok33 b a.events a.en (by omega)
  obtain ⟨ida, va, aa, ea, ca, na⟩ := a
  obtain ⟨idb, vb, ab, eb, cb, nb⟩ := b
  unfold contrR
  simp only at *
  by_cases hv : va = vb
  case neg => rw [if_pos hv]; exact con_ver ida va na idb vb nb aa ab ea eb ca cb hv
  rw [if_neg (by simpa using hv)]
  cases e30 : eqI aa ab with
  | false => rw [e30] at h30; simp only [if_true]; exact con_args ida va na idb vb nb aa ab ea eb ca cb hv h30
  | true =>
    rw [e30] at h30
    simp only [Bool.true_eq_false, if_false]
    cases ca with
    | true =>
      cases cb with
      | true =>
        simp only [Bool.and_self, if_true]
        cases e1 : begB ea eb with
        | true => rw [e1] at h1; exact con_cc1 ida va na idb vb nb aa ab ea eb hv h30 h1
        | false =>
          rw [e1] at h1
          cases e2 : begB eb ea with
          | true => rw [e2] at h2; exact con_cc2t ida va na idb vb nb aa ab ea eb hv h30 h1 h2
          | false => rw [e2] at h2; exact con_cc2f ida va na idb vb nb aa ab ea eb hv h30 h1 h2
      | false =>
        simp only [Bool.and_false, Bool.false_eq_true, if_false, if_true]
        cases e3 : agrR ⟨ida, va, aa, ea, true, na⟩ eb nb with
        | true => rw [e3] at h3; exact con_cft ida va na idb vb nb aa ab ea eb hv h30 h3
        | false => rw [e3] at h3; exact con_cff ida va na idb vb nb aa ab ea eb hv h30 h3
    | false =>
      simp only [Bool.false_and, Bool.false_eq_true, if_false]
      cases e4 : agrR ⟨idb, vb, ab, eb, cb, nb⟩ ea na with
      | true => rw [e4] at h4; exact con_ft ida va na idb vb nb aa ab ea eb cb hv h30 h4
      | false => rw [e4] at h4; exact con_ff ida va na idb vb nb aa ab ea eb cb hv h30 h4

/-- contradiction, as the package says it -/
def contrB (a b : Rp) : Bool :=
  if a.ver ≠ b.ver then false else if eqI a.args b.args = false then false
  else if a.cut && b.cut then !eqE (a.events.take (min a.events.length b.events.length)) (b.events.take (min a.events.length b.events.length))
  else if a.cut then !agreesB a b.events b.en else !agreesB b a.events a.en

theorem cob_ver (ida va na idb vb nb : Int) (aa ab : List Int) (ea eb : List Ev) (ca cb : Bool) (hv : ¬ va = vb) : Ok Try.prog 55 [rpA ⟨ida, va, aa, ea, ca, na⟩, rpA ⟨idb, vb, ab, eb, cb, nb⟩] (plainR (bA false)) := by
  exact Ok.run' 55 (orc [(10, .val (bA true))]) Try.func55 [pB .neq 3 (.tmp 7) (.tmp 9) (.int .i64 (va)) (.int .i64 (vb)) (bA true)] (by kernel_rfl) (allc (hNeq _ _ _ _ _ _ (by simp [hv])) allnil)

theorem cob_args (ida va na idb vb nb : Int) (aa ab : List Int) (ea eb : List Ev) (ca cb : Bool) (hv : va = vb) (h30 : Ok Try.prog 70 [rowI aa, rowI ab] (plainR (bA false))) : Ok Try.prog 55 [rpA ⟨ida, va, aa, ea, ca, na⟩, rpA ⟨idb, vb, ab, eb, cb, nb⟩] (plainR (bA false)) := by
  exact Ok.run' 55 (orcC [(16, plainR (bA false))] [(10, .val (bA false))]) Try.func55 [Ok Try.prog 70 [rowI aa, rowI ab] (plainR (bA false)), pB .neq 3 (.tmp 7) (.tmp 9) (.int .i64 (va)) (.int .i64 (vb)) (bA false)] (by kernel_rfl) (allc (h30) (allc (hNeq _ _ _ _ _ _ (by simp [hv])) allnil))

theorem cob_cct (ida va na idb vb nb : Int) (aa ab : List Int) (ea eb : List Ev) (m : Nat) (hm : min ea.length eb.length = m) (hv : va = vb) (h30 : Ok Try.prog 70 [rowI aa, rowI ab] (plainR (bA true))) (h1 : Ok Try.prog 57 [rowE (ea.take m), rowE (eb.take m)] (plainR (bA true))) : Ok Try.prog 55 [rpA ⟨ida, va, aa, ea, true, na⟩, rpA ⟨idb, vb, ab, eb, true, nb⟩] (plainR (bA false)) := by
  exact Ok.run' 55 (orcC [(16, plainR (bA true)), (40, plainR (bA true))] [(10, .val (bA false)), (31, .val (iA m)), (35, .val (rowE (ea.take m))), (39, .val (rowE (eb.take m)))]) Try.func55 [Ok Try.prog 57 [rowE (ea.take m), rowE (eb.take m)] (plainR (bA true)), cmdSlice Try.prog 23 (rowE eb) none (some (iA m)) none = some (.val (rowE (eb.take m))), cmdSlice Try.prog 23 (rowE ea) none (some (iA m)) none = some (.val (rowE (ea.take m))), pMin [3, 3] 3 (iA ea.length) (iA eb.length) (iA m), Ok Try.prog 70 [rowI aa, rowI ab] (plainR (bA true)), pB .neq 3 (.tmp 7) (.tmp 9) (.int .i64 (va)) (.int .i64 (vb)) (bA false)] (by kernel_rfl) (allc (h1) (allc (by rw [← rowE_take eb m (by omega)]; exact el23.slHi (rowOf_row _ _ _ _) (by omega)) (allc (by rw [← rowE_take ea m (by omega)]; exact el23.slHi (rowOf_row _ _ _ _) (by omega)) (allc (hMin _ _ _ _ _ hm) (allc (h30) (allc (hNeq _ _ _ _ _ _ (by simp [hv])) allnil))))))

theorem cob_cft (ida va na idb vb nb : Int) (aa ab : List Int) (ea eb : List Ev) (hv : va = vb) (h30 : Ok Try.prog 70 [rowI aa, rowI ab] (plainR (bA true))) (h3 : Ok Try.prog 32 [rpA ⟨ida, va, aa, ea, true, na⟩, outA eb nb] (plainR (bA true))) : Ok Try.prog 55 [rpA ⟨ida, va, aa, ea, true, na⟩, rpA ⟨idb, vb, ab, eb, false, nb⟩] (plainR (bA false)) := by
  exact Ok.run' 55 (orcC [(16, plainR (bA true)), (48, plainR (outA eb nb)), (49, plainR (bA true))] [(10, .val (bA false))]) Try.func55 [Ok Try.prog 32 [rpA ⟨ida, va, aa, ea, true, na⟩, outA eb nb] (plainR (bA true)), Ok Try.prog 71 [rpA ⟨idb, vb, ab, eb, false, nb⟩] (plainR (outA eb nb)), Ok Try.prog 70 [rowI aa, rowI ab] (plainR (bA true)), pB .neq 3 (.tmp 7) (.tmp 9) (.int .i64 (va)) (.int .i64 (vb)) (bA false)] (by kernel_rfl) (allc (h3) (allc (ok71 _) (allc (h30) (allc (hNeq _ _ _ _ _ _ (by simp [hv])) allnil))))

theorem cob_ft (ida va na idb vb nb : Int) (aa ab : List Int) (ea eb : List Ev) (hv : va = vb) (h30 : Ok Try.prog 70 [rowI aa, rowI ab] (plainR (bA true))) (cb : Bool) (h3 : Ok Try.prog 32 [rpA ⟨idb, vb, ab, eb, cb, nb⟩, outA ea na] (plainR (bA true))) : Ok Try.prog 55 [rpA ⟨ida, va, aa, ea, false, na⟩, rpA ⟨idb, vb, ab, eb, cb, nb⟩] (plainR (bA false)) := by
  exact Ok.run' 55 (orcC [(16, plainR (bA true)), (48, plainR (outA ea na)), (49, plainR (bA true))] [(10, .val (bA false))]) Try.func55 [Ok Try.prog 32 [rpA ⟨idb, vb, ab, eb, cb, nb⟩, outA ea na] (plainR (bA true)), Ok Try.prog 71 [rpA ⟨ida, va, aa, ea, false, na⟩] (plainR (outA ea na)), Ok Try.prog 70 [rowI aa, rowI ab] (plainR (bA true)), pB .neq 3 (.tmp 7) (.tmp 9) (.int .i64 (va)) (.int .i64 (vb)) (bA false)] (by kernel_rfl) (allc (h3) (allc (ok71 _) (allc (h30) (allc (hNeq _ _ _ _ _ _ (by simp [hv])) allnil))))

theorem cob_ccf (ida va na idb vb nb : Int) (aa ab : List Int) (ea eb : List Ev) (m : Nat) (hm : min ea.length eb.length = m) (hv : va = vb) (h30 : Ok Try.prog 70 [rowI aa, rowI ab] (plainR (bA true))) (h1 : Ok Try.prog 57 [rowE (ea.take m), rowE (eb.take m)] (plainR (bA false))) : Ok Try.prog 55 [rpA ⟨ida, va, aa, ea, true, na⟩, rpA ⟨idb, vb, ab, eb, true, nb⟩] (plainR (bA true)) := by
  exact Ok.run' 55 (orcC [(16, plainR (bA true)), (40, plainR (bA false))] [(10, .val (bA false)), (31, .val (iA m)), (35, .val (rowE (ea.take m))), (39, .val (rowE (eb.take m)))]) Try.func55 [Ok Try.prog 57 [rowE (ea.take m), rowE (eb.take m)] (plainR (bA false)), cmdSlice Try.prog 23 (rowE eb) none (some (iA m)) none = some (.val (rowE (eb.take m))), cmdSlice Try.prog 23 (rowE ea) none (some (iA m)) none = some (.val (rowE (ea.take m))), pMin [3, 3] 3 (iA ea.length) (iA eb.length) (iA m), Ok Try.prog 70 [rowI aa, rowI ab] (plainR (bA true)), pB .neq 3 (.tmp 7) (.tmp 9) (.int .i64 (va)) (.int .i64 (vb)) (bA false)] (by kernel_rfl) (allc (h1) (allc (by rw [← rowE_take eb m (by omega)]; exact el23.slHi (rowOf_row _ _ _ _) (by omega)) (allc (by rw [← rowE_take ea m (by omega)]; exact el23.slHi (rowOf_row _ _ _ _) (by omega)) (allc (hMin _ _ _ _ _ hm) (allc (h30) (allc (hNeq _ _ _ _ _ _ (by simp [hv])) allnil))))))

theorem cob_cff (ida va na idb vb nb : Int) (aa ab : List Int) (ea eb : List Ev) (hv : va = vb) (h30 : Ok Try.prog 70 [rowI aa, rowI ab] (plainR (bA true))) (h3 : Ok Try.prog 32 [rpA ⟨ida, va, aa, ea, true, na⟩, outA eb nb] (plainR (bA false))) : Ok Try.prog 55 [rpA ⟨ida, va, aa, ea, true, na⟩, rpA ⟨idb, vb, ab, eb, false, nb⟩] (plainR (bA true)) := by
  exact Ok.run' 55 (orcC [(16, plainR (bA true)), (48, plainR (outA eb nb)), (49, plainR (bA false))] [(10, .val (bA false))]) Try.func55 [Ok Try.prog 32 [rpA ⟨ida, va, aa, ea, true, na⟩, outA eb nb] (plainR (bA false)), Ok Try.prog 71 [rpA ⟨idb, vb, ab, eb, false, nb⟩] (plainR (outA eb nb)), Ok Try.prog 70 [rowI aa, rowI ab] (plainR (bA true)), pB .neq 3 (.tmp 7) (.tmp 9) (.int .i64 (va)) (.int .i64 (vb)) (bA false)] (by kernel_rfl) (allc (h3) (allc (ok71 _) (allc (h30) (allc (hNeq _ _ _ _ _ _ (by simp [hv])) allnil))))

theorem cob_ff (ida va na idb vb nb : Int) (aa ab : List Int) (ea eb : List Ev) (hv : va = vb) (h30 : Ok Try.prog 70 [rowI aa, rowI ab] (plainR (bA true))) (cb : Bool) (h3 : Ok Try.prog 32 [rpA ⟨idb, vb, ab, eb, cb, nb⟩, outA ea na] (plainR (bA false))) : Ok Try.prog 55 [rpA ⟨ida, va, aa, ea, false, na⟩, rpA ⟨idb, vb, ab, eb, cb, nb⟩] (plainR (bA true)) := by
  exact Ok.run' 55 (orcC [(16, plainR (bA true)), (48, plainR (outA ea na)), (49, plainR (bA false))] [(10, .val (bA false))]) Try.func55 [Ok Try.prog 32 [rpA ⟨idb, vb, ab, eb, cb, nb⟩, outA ea na] (plainR (bA false)), Ok Try.prog 71 [rpA ⟨ida, va, aa, ea, false, na⟩] (plainR (outA ea na)), Ok Try.prog 70 [rowI aa, rowI ab] (plainR (bA true)), pB .neq 3 (.tmp 7) (.tmp 9) (.int .i64 (va)) (.int .i64 (vb)) (bA false)] (by kernel_rfl) (allc (h3) (allc (ok71 _) (allc (h30) (allc (hNeq _ _ _ _ _ _ (by simp [hv])) allnil))))

theorem ok55 (a b : Rp) (ha : Fit a) (hb : Fit b) : Ok Try.prog 55 [rpA a, rpA b] (plainR (bA (contrB a b))) := by
  have l1 := ha.le
  have l2 := hb.le
  have h30 := ok70 a.args b.args (by have := ha.la; omega) (by have := hb.la; omega)
  have h1 := ok57 (a.events.take (min a.events.length b.events.length)) (b.events.take (min a.events.length b.events.length)) (by simp; omega) (by simp; omega)
  have h3 := ok32 a b.events b.en ha (by omega)
  have h4 := ok32 b a.events a.en hb (by omega)
  obtain ⟨ida, va, aa, ea, ca, na⟩ := a
  obtain ⟨idb, vb, ab, eb, cb, nb⟩ := b
  unfold contrB
  simp only at *
  by_cases hv : va = vb
  case neg => rw [if_pos hv]; exact cob_ver ida va na idb vb nb aa ab ea eb ca cb hv
  rw [if_neg (by simpa using hv)]
  cases e30 : eqI aa ab with
  | false => rw [e30] at h30; simp only [if_true]; exact cob_args ida va na idb vb nb aa ab ea eb ca cb hv h30
  | true =>
    rw [e30] at h30
    simp only [Bool.true_eq_false, if_false]
    cases ca with
    | true =>
      cases cb with
      | true =>
        simp only [Bool.and_self, if_true]
        cases e1 : eqE (ea.take (min ea.length eb.length)) (eb.take (min ea.length eb.length)) with
        | true => rw [e1] at h1; exact cob_cct ida va na idb vb nb aa ab ea eb _ rfl hv h30 h1
        | false => rw [e1] at h1; exact cob_ccf ida va na idb vb nb aa ab ea eb _ rfl hv h30 h1
      | false =>
        simp only [Bool.and_false, Bool.false_eq_true, if_false, if_true]
        cases e3 : agreesB ⟨ida, va, aa, ea, true, na⟩ eb nb with
        | true => rw [e3] at h3; exact cob_cft ida va na idb vb nb aa ab ea eb hv h30 h3
        | false => rw [e3] at h3; exact cob_cff ida va na idb vb nb aa ab ea eb hv h30 h3
    | false =>
      simp only [Bool.false_and, Bool.false_eq_true, if_false]
      cases e4 : agreesB ⟨idb, vb, ab, eb, cb, nb⟩ ea na with
      | true => rw [e4] at h4; exact cob_ft ida va na idb vb nb aa ab ea eb hv h30 cb h4
      | false => rw [e4] at h4; exact cob_ff ida va na idb vb nb aa ab ea eb hv h30 cb h4

end Go.Proofs.Ytlekojbcaelpiaa

/- scoriaref38.Cut, scoriaref11.Outcome. -/
namespace Go.Proofs.Ytlekojbcaelpiaa
open Go.RowKit
def cutRef (id ver : Int) (args : List Int) (es : List Ev) (en ev : Int) : Rp :=
  if 0 ≤ ev ∧ ev ≤ es.length then ⟨id, ver, args, es.take ev.toNat, true, 0⟩ else ⟨id, ver, args, es, false, en⟩

theorem cut_neg (id ver en : Int) (args : List Int) (es : List Ev) (ev : Int) (h : ¬ 0 ≤ ev) : Ok Try.prog 35 [iA id, iA ver, rowI args, outA es en, iA ev] (plainR (rpA ⟨id, ver, args, es, false, en⟩)) := by
  exact Ok.run' 35 (orc [(12, .val (bA false))]) Try.func35 [pB .geq 3 (.tmp 11) (.const (.int .i64 0)) (.int .i64 (ev)) (.int .i64 (0)) (bA false)] (by kernel_rfl) (allc (hGeq _ _ _ _ _ _ (by simp <;> omega)) allnil)

theorem cut_big (id ver en : Int) (args : List Int) (es : List Ev) (ev : Int) (h : 0 ≤ ev) (h2 : ¬ ev ≤ es.length) : Ok Try.prog 35 [iA id, iA ver, rowI args, outA es en, iA ev] (plainR (rpA ⟨id, ver, args, es, false, en⟩)) := by
  exact Ok.run' 35 (orc [(12, .val (bA true)), (18, .val (bA false))]) Try.func35 [pB .leq 3 (.tmp 14) (.tmp 17) (.int .i64 (ev)) (.int .i64 (es.length)) (bA false), pB .geq 3 (.tmp 11) (.const (.int .i64 0)) (.int .i64 (ev)) (.int .i64 (0)) (bA true)] (by kernel_rfl) (allc (hLeq _ _ _ _ _ _ (by simp <;> omega)) (allc (hGeq _ _ _ _ _ _ (by simp <;> omega)) allnil))

theorem cut_in (id ver en : Int) (args : List Int) (es : List Ev) (k : Nat) (h : k ≤ es.length) : Ok Try.prog 35 [iA id, iA ver, rowI args, outA es en, iA k] (plainR (rpA ⟨id, ver, args, es.take k, true, 0⟩)) := by
  exact Ok.run' 35 (orc [(12, .val (bA true)), (18, .val (bA true)), (26, .val (rowE (es.take k)))]) Try.func35 [cmdSlice Try.prog 23 (rowE es) none (some (iA k)) none = some (.val (rowE (es.take k))), pB .leq 3 (.tmp 14) (.tmp 17) (.int .i64 (k)) (.int .i64 (es.length)) (bA true), pB .geq 3 (.tmp 11) (.const (.int .i64 0)) (.int .i64 (k)) (.int .i64 (0)) (bA true)] (by kernel_rfl) (allc (by rw [← rowE_take es k h]; exact el23.slHi (rowOf_row _ _ _ _) h) (allc (hLeq _ _ _ _ _ _ (by simp <;> omega)) (allc (hGeq _ _ _ _ _ _ (by simp <;> omega)) allnil)))

theorem ok35 (id ver en ev : Int) (args : List Int) (es : List Ev) : Ok Try.prog 35 [iA id, iA ver, rowI args, outA es en, iA ev] (plainR (rpA (cutRef id ver args es en ev))) := by
  unfold cutRef
  by_cases h : 0 ≤ ev
  · obtain ⟨k, rfl⟩ := Int.eq_ofNat_of_zero_le h
    by_cases h2 : (k : Int) ≤ es.length
    · rw [if_pos ⟨h, h2⟩]; exact cut_in id ver en args es k (by omega)
    · rw [if_neg (fun hh => h2 hh.2)]; exact cut_big id ver en args es k h h2
  · rw [if_neg (fun hh => h hh.1)]; exact cut_neg id ver en args es ev h

theorem hQuo (t : TypeId) (x y : Operand) (a b c : Int) (hb : b ≠ 0) (h : a.tdiv b = c) (hc : I64 c) : pB .quo t x y (.int .i64 a) (.int .i64 b) (iA c) := by
  subst h
  have e : peek Try.prog (do eqGuard .quo t x y (.int .i64 a) (.int .i64 b); binOp .quo t (.int .i64 a) (.int .i64 b)) = peek Try.prog (Op.intDiv .quo .i64 a b) := rfl
  unfold pB
  rw [e]
  simp only [Op.intDiv]
  rw [peek_ite]
  simp [hb, peek_pure, wrap_id hc, iA]
theorem Ok.res {f : Nat} {args : List AV} {x y : AV} (h : Ok Try.prog f args (plainR x)) (hw : ∀ pr w c, V pr w c x → V pr w c y) : Ok Try.prog f args (plainR y) :=
  ⟨h.1, fun w pr cs hp hv => (h.2 w pr cs hp hv).mono fun e w' ⟨c, pr', a1, a2, a3, a4, a5, _⟩ => ⟨c, pr', a1, a2, a3, a4, hw _ _ _ a5, fun e he => by cases he⟩⟩
def evOf' (x : Int) : Ev := ⟨aroundZ x 2, aroundZ (x.tdiv 2) 3, aroundZ (x.tdiv 6) 3 - 1⟩
def evsOf' (l : List Int) (k : Nat) : List Ev := ((l.take k).drop 1).map evOf'
theorem evsOf'_succ (l : List Int) (k : Nat) (x : Int) (h1 : 1 ≤ k) (hx : l[k]? = some x) : evsOf' l (k + 1) = evsOf' l k ++ [evOf' x] := by
  unfold evsOf'
  have hk : k < l.length := (List.getElem?_eq_some_iff.1 hx).1
  rw [List.take_add_one, hx, List.drop_append_of_le_length (by simp; omega)]
  simp
theorem evsOf'_len (l : List Int) (k : Nat) (h : k ≤ l.length) : (evsOf' l k).length = k - 1 := by simp [evsOf']; omega
theorem tdiv_I64 {x : Int} (h : I64 x) (d : Int) (hd : 0 < d) : I64 (x.tdiv d) := by
  obtain ⟨h1, h2⟩ := h
  unfold I64
  rcases Int.le_total 0 x with h | h
  · rw [Int.tdiv_eq_ediv_of_nonneg h]
    have a := Int.ediv_nonneg h (Int.le_of_lt hd)
    have b := Int.ediv_le_self d h
    omega
  · have e : x.tdiv d = -((-x).tdiv d) := by rw [Int.neg_tdiv]; omega
    rw [e, Int.tdiv_eq_ediv_of_nonneg (by omega)]
    have a := Int.ediv_nonneg (show 0 ≤ -x by omega) (Int.le_of_lt hd)
    have b := Int.ediv_le_self d (show 0 ≤ -x by omega)
    omega
noncomputable abbrev C31 : Code := bodyOf Try.f31
/-- the states at the head: none before the first round, some k behind a round -/
def st31 (l : List Int) (z : Int) : Option Nat → St
  | none => { n := 43, slots := [(0, rowI l), (2, .ptr 2 0), (3, .ptr 3 0), (4, iA 1)], objs := [(2, (62, [.sc (.slice none 0 0), iA 0])), (3, (62, [.sc (.slice none 0 0), iA z]))], lens := [] }
  | some k => { n := 43, slots := [(0, rowI l), (2, .ptr 2 0), (3, .ptr 3 0), (4, iA k)], objs := [(2, (62, [.sc (.slice none 0 0), iA 0])), (3, (62, [.row (some (40, 71)) 3 (evsOf' l k).length (evA (evsOf' l k)), iA z]))], lens := [(40, (evsOf' l k).length * 3)] }

noncomputable def s31a (l : List Int) : St := stOf (runCode Try.prog (orcC [(6, plainR (iA (atZ l 0 3)))] []) (liveOf 31) 0 (pre 2 C31) (start [rowI l] 43))
noncomputable def s31b (l : List Int) : St := stOf (runCode Try.prog (orc []) (liveOf 31) 0 (fR (post 2 C31)) (s31a l))
theorem out_round1 (l : List Int) (z x : Int) (hx : l[1]? = some x) (hx64 : I64 x) {Q : Out → Prop} (q : ∀ s', clean [0, 2, 3, 4] [2, 3, 40] s' = st31 l z (some 2) → Q (.go s')) : Judg (fB (post 2 C31)) (st31 l z none) Q := by
  have a1 := aroundZ_nonneg (x.tdiv 6) 3 (by omega)
  have a2 := aroundZ_lt (x.tdiv 6) 3 (by omega)
  have hk : 1 < l.length := (List.getElem?_eq_some_iff.1 hx).1
  have e2 : evsOf' l 2 = [evOf' x] := by rw [evsOf'_succ l 1 x (by omega) hx]; simp [evsOf']

  refine Judg.run' 31 (orcC [(24, plainR (iA (aroundZ x 2))), (30, plainR (iA (aroundZ (x.tdiv 2) 3))), (36, plainR (iA (aroundZ (x.tdiv 6) 3)))] [(11, .val (bA true)), (14, .val (bA true)), (22, .val (.rptr (iA x :: (l.drop (1 + 1)).map iA))), (27, .val (.rptr (iA x :: (l.drop (1 + 1)).map iA))), (29, .val (iA (x.tdiv 2))), (33, .val (.rptr (iA x :: (l.drop (1 + 1)).map iA))), (35, .val (iA (x.tdiv 6))), (37, .val (iA (aroundZ (x.tdiv 6) 3 - 1))), (40, .fresh 71 3 (evsOf' l 2).length (evA (evsOf' l 2))), (17, .val (iA ((1 + 1 : Nat) : Int)))]) (.go (stOf (runCode Try.prog (orcC [(24, plainR (iA (aroundZ x 2))), (30, plainR (iA (aroundZ (x.tdiv 2) 3))), (36, plainR (iA (aroundZ (x.tdiv 6) 3)))] [(11, .val (bA true)), (14, .val (bA true)), (22, .val (.rptr (iA x :: (l.drop (1 + 1)).map iA))), (27, .val (.rptr (iA x :: (l.drop (1 + 1)).map iA))), (29, .val (iA (x.tdiv 2))), (33, .val (.rptr (iA x :: (l.drop (1 + 1)).map iA))), (35, .val (iA (x.tdiv 6))), (37, .val (iA (aroundZ (x.tdiv 6) 3 - 1))), (40, .fresh 71 3 (evsOf' l 2).length (evA (evsOf' l 2))), (17, .val (iA ((1 + 1 : Nat) : Int)))]) (liveOf 31) 0 (fB (post 2 C31)) (st31 l z none)))) [pB .add 3 (.tmp 16) (.const (.int .i64 1)) (.int .i64 (1)) (.int .i64 (1)) (iA ((1 + 1 : Nat) : Int)), cmdAppend Try.prog 23 23 (.sc (.slice none 0 0)) (.row (some (39, 71)) 3 1 (evA [evOf' x])) = some (.fresh 71 3 (evsOf' l 2).length (evA (evsOf' l 2))), pB .sub 3 (.tmp 36) (.const (.int .i64 1)) (.int .i64 (aroundZ (x.tdiv 6) 3)) (.int .i64 (1)) (iA (aroundZ (x.tdiv 6) 3 - 1)), Ok Try.prog 19 [iA (x.tdiv 6), iA 3] (plainR (iA (aroundZ (x.tdiv 6) 3))), pB .quo 3 (.tmp 34) (.const (.int .i64 6)) (.int .i64 (x)) (.int .i64 (6)) (iA (x.tdiv 6)), cmdIndexAddr Try.prog 22 (rowI l) (iA (1 : Nat)) = some (.val (.rptr (iA x :: (l.drop (1 + 1)).map iA))), Ok Try.prog 19 [iA (x.tdiv 2), iA 3] (plainR (iA (aroundZ (x.tdiv 2) 3))), pB .quo 3 (.tmp 28) (.const (.int .i64 2)) (.int .i64 (x)) (.int .i64 (2)) (iA (x.tdiv 2)), cmdIndexAddr Try.prog 22 (rowI l) (iA (1 : Nat)) = some (.val (.rptr (iA x :: (l.drop (1 + 1)).map iA))), Ok Try.prog 19 [iA x, iA 2] (plainR (iA (aroundZ x 2))), cmdIndexAddr Try.prog 22 (rowI l) (iA (1 : Nat)) = some (.val (.rptr (iA x :: (l.drop (1 + 1)).map iA))), pB .lss 3 (.tmp 13) (.const (.int .i64 9)) (.int .i64 (1)) (.int .i64 (9)) (bA true), pB .lss 3 (.tmp 8) (.tmp 10) (.int .i64 (1)) (.int .i64 (l.length)) (bA true)] (by kernel_rfl) (by kernel_rfl) (allc (hAdd _ _ _ _ _ _ (by simp) ⟨by omega, by omega⟩) (allc (by rw [e2]; exact el23.nil (rowOf_row _ _ _ _) (fits_of (by simp) (by omega))) (allc (hSub _ _ _ _ _ _ rfl ⟨by omega, by omega⟩) (allc (ok19 _ 3 (by omega) (by omega) (tdiv_I64 hx64 6 (by omega))) (allc (hQuo _ _ _ _ _ _ (by omega) rfl (tdiv_I64 hx64 6 (by omega))) (allc (hIdxI hx) (allc (ok19 _ 3 (by omega) (by omega) (tdiv_I64 hx64 2 (by omega))) (allc (hQuo _ _ _ _ _ _ (by omega) rfl (tdiv_I64 hx64 2 (by omega))) (allc (hIdxI hx) (allc (ok19 x 2 (by omega) (by omega) hx64) (allc (hIdxI hx) (allc (hLss _ _ _ _ _ _ (by simp <;> omega)) (allc (hLss _ _ _ _ _ _ (by simp <;> omega)) allnil))))))))))))) (q _ (by kernel_rfl))

theorem out_round (l : List Int) (z x : Int) (k : Nat) (h1 : 1 ≤ k) (h9 : k < 9) (hx : l[k]? = some x) (hx64 : I64 x) {Q : Out → Prop} (q : ∀ s', clean [0, 2, 3, 4] [2, 3, 40] s' = st31 l z (some (k + 1)) → Q (.go s')) : Judg (fB (post 2 C31)) (st31 l z (some k)) Q := by
  have a1 := aroundZ_nonneg (x.tdiv 6) 3 (by omega)
  have a2 := aroundZ_lt (x.tdiv 6) 3 (by omega)
  have hk : k < l.length := (List.getElem?_eq_some_iff.1 hx).1
  have e1 : (evsOf' l (k + 1)).length = (evsOf' l k).length + 1 := by rw [evsOf'_succ l k x h1 hx]; simp
  have e2 : evA (evsOf' l (k + 1)) = evA (evsOf' l k) ++ evA [evOf' x] := by rw [evsOf'_succ l k x h1 hx, evA_append]
  refine Judg.run' 31 (orcC [(24, plainR (iA (aroundZ x 2))), (30, plainR (iA (aroundZ (x.tdiv 2) 3))), (36, plainR (iA (aroundZ (x.tdiv 6) 3)))] [(11, .val (bA true)), (14, .val (bA true)), (22, .val (.rptr (iA x :: (l.drop (k + 1)).map iA))), (27, .val (.rptr (iA x :: (l.drop (k + 1)).map iA))), (29, .val (iA (x.tdiv 2))), (33, .val (.rptr (iA x :: (l.drop (k + 1)).map iA))), (35, .val (iA (x.tdiv 6))), (37, .val (iA (aroundZ (x.tdiv 6) 3 - 1))), (40, .grow 40 71 3 (evsOf' l k).length (evA (evsOf' l k)) 1 (evA [evOf' x])), (17, .val (iA ((k + 1 : Nat) : Int)))]) (.go (stOf (runCode Try.prog (orcC [(24, plainR (iA (aroundZ x 2))), (30, plainR (iA (aroundZ (x.tdiv 2) 3))), (36, plainR (iA (aroundZ (x.tdiv 6) 3)))] [(11, .val (bA true)), (14, .val (bA true)), (22, .val (.rptr (iA x :: (l.drop (k + 1)).map iA))), (27, .val (.rptr (iA x :: (l.drop (k + 1)).map iA))), (29, .val (iA (x.tdiv 2))), (33, .val (.rptr (iA x :: (l.drop (k + 1)).map iA))), (35, .val (iA (x.tdiv 6))), (37, .val (iA (aroundZ (x.tdiv 6) 3 - 1))), (40, .grow 40 71 3 (evsOf' l k).length (evA (evsOf' l k)) 1 (evA [evOf' x])), (17, .val (iA ((k + 1 : Nat) : Int)))]) (liveOf 31) 0 (fB (post 2 C31)) (st31 l z (some k))))) [pB .add 3 (.tmp 16) (.const (.int .i64 1)) (.int .i64 (k)) (.int .i64 (1)) (iA ((k + 1 : Nat) : Int)), cmdAppend Try.prog 23 23 (.row (some (40, 71)) 3 (evsOf' l k).length (evA (evsOf' l k))) (.row (some (39, 71)) 3 1 (evA [evOf' x])) = some (.grow 40 71 3 (evsOf' l k).length (evA (evsOf' l k)) 1 (evA [evOf' x])), (evsOf' l k).length * 3 = (evsOf' l k).length * 3, pB .sub 3 (.tmp 36) (.const (.int .i64 1)) (.int .i64 (aroundZ (x.tdiv 6) 3)) (.int .i64 (1)) (iA (aroundZ (x.tdiv 6) 3 - 1)), Ok Try.prog 19 [iA (x.tdiv 6), iA 3] (plainR (iA (aroundZ (x.tdiv 6) 3))), pB .quo 3 (.tmp 34) (.const (.int .i64 6)) (.int .i64 (x)) (.int .i64 (6)) (iA (x.tdiv 6)), cmdIndexAddr Try.prog 22 (rowI l) (iA (k : Nat)) = some (.val (.rptr (iA x :: (l.drop (k + 1)).map iA))), Ok Try.prog 19 [iA (x.tdiv 2), iA 3] (plainR (iA (aroundZ (x.tdiv 2) 3))), pB .quo 3 (.tmp 28) (.const (.int .i64 2)) (.int .i64 (x)) (.int .i64 (2)) (iA (x.tdiv 2)), cmdIndexAddr Try.prog 22 (rowI l) (iA (k : Nat)) = some (.val (.rptr (iA x :: (l.drop (k + 1)).map iA))), Ok Try.prog 19 [iA x, iA 2] (plainR (iA (aroundZ x 2))), cmdIndexAddr Try.prog 22 (rowI l) (iA (k : Nat)) = some (.val (.rptr (iA x :: (l.drop (k + 1)).map iA))), pB .lss 3 (.tmp 13) (.const (.int .i64 9)) (.int .i64 (k)) (.int .i64 (9)) (bA true), pB .lss 3 (.tmp 8) (.tmp 10) (.int .i64 (k)) (.int .i64 (l.length)) (bA true)] (by kernel_rfl) (by kernel_rfl) (allc (hAdd _ _ _ _ _ _ (by simp) ⟨by omega, by omega⟩) (allc (el23.grow (rowOf_row _ _ _ _) (fits_of (by rw [evsOf'_len l k (by omega)]; omega) (by omega))) (allc (rfl) (allc (hSub _ _ _ _ _ _ rfl ⟨by omega, by omega⟩) (allc (ok19 _ 3 (by omega) (by omega) (tdiv_I64 hx64 6 (by omega))) (allc (hQuo _ _ _ _ _ _ (by omega) rfl (tdiv_I64 hx64 6 (by omega))) (allc (hIdxI hx) (allc (ok19 _ 3 (by omega) (by omega) (tdiv_I64 hx64 2 (by omega))) (allc (hQuo _ _ _ _ _ _ (by omega) rfl (tdiv_I64 hx64 2 (by omega))) (allc (hIdxI hx) (allc (ok19 x 2 (by omega) (by omega) hx64) (allc (hIdxI hx) (allc (hLss _ _ _ _ _ _ (by simp <;> omega)) (allc (hLss _ _ _ _ _ _ (by simp <;> omega)) allnil)))))))))))))) (q _ ?_)
  unfold st31
  simp only [e1, e2]
  kernel_rfl

theorem out_end1 (l : List Int) (z : Int) (hk : ¬ 1 < l.length) {Q : Out → Prop} (q : ∀ s1, (resVals Try.prog s1 Try.f31.results.toList).bind (resOf s1) = some (plainR (.sc (.agg #[.slice none 0 0, .int .i64 z])), []) → Q (.ret s1)) : Judg (fB (post 2 C31)) (st31 l z none) (endOf 0 (fK (post 2 C31)) Q (fun _ => False)) := by
  refine Judg.run' 31 (orc [(11, .val (bA false))]) (.exit 0 (stOf (runCode Try.prog (orc [(11, .val (bA false))]) (liveOf 31) 0 (fB (post 2 C31)) (st31 l z none)))) [pB .lss 3 (.tmp 8) (.tmp 10) (.int .i64 (1)) (.int .i64 (l.length)) (bA false)] (by kernel_rfl) (by kernel_rfl) (allc (hLss _ _ _ _ _ _ (by simp <;> omega)) allnil) ?_
  show Judg (fK (post 2 C31)) _ _
  refine Judg.run' 31 (orc []) (.ret (stOf (runCode Try.prog (orc []) (liveOf 31) 0 (fK (post 2 C31)) (stOf (runCode Try.prog (orc [(11, .val (bA false))]) (liveOf 31) 0 (fB (post 2 C31)) (st31 l z none)))))) [pB .lss 3 (.tmp 8) (.tmp 10) (.int .i64 (1)) (.int .i64 (l.length)) (bA false)] (by kernel_rfl) (by kernel_rfl) (allc (hLss _ _ _ _ _ _ (by simp <;> omega)) allnil) (q _ (by kernel_rfl))

theorem out_endk (l : List Int) (z : Int) (k : Nat) (hk : ¬ k < l.length) {Q : Out → Prop} (q : ∀ s1, (resVals Try.prog s1 Try.f31.results.toList).bind (resOf s1) = some (plainR (outA (evsOf' l k) z), []) → Q (.ret s1)) : Judg (fB (post 2 C31)) (st31 l z (some k)) (endOf 0 (fK (post 2 C31)) Q (fun _ => False)) := by
  refine Judg.run' 31 (orc [(11, .val (bA false))]) (.exit 0 (stOf (runCode Try.prog (orc [(11, .val (bA false))]) (liveOf 31) 0 (fB (post 2 C31)) (st31 l z (some k))))) [pB .lss 3 (.tmp 8) (.tmp 10) (.int .i64 (k)) (.int .i64 (l.length)) (bA false)] (by kernel_rfl) (by kernel_rfl) (allc (hLss _ _ _ _ _ _ (by simp <;> omega)) allnil) ?_
  show Judg (fK (post 2 C31)) _ _
  refine Judg.run' 31 (orc []) (.ret (stOf (runCode Try.prog (orc []) (liveOf 31) 0 (fK (post 2 C31)) (stOf (runCode Try.prog (orc [(11, .val (bA false))]) (liveOf 31) 0 (fB (post 2 C31)) (st31 l z (some k))))))) [pB .lss 3 (.tmp 8) (.tmp 10) (.int .i64 (k)) (.int .i64 (l.length)) (bA false)] (by kernel_rfl) (by kernel_rfl) (allc (hLss _ _ _ _ _ _ (by simp <;> omega)) allnil) (q _ (by kernel_rfl))

theorem out_end9 (l : List Int) (z : Int) (k : Nat) (hk : k < l.length) (h9 : ¬ k < 9) {Q : Out → Prop} (q : ∀ s1, (resVals Try.prog s1 Try.f31.results.toList).bind (resOf s1) = some (plainR (outA (evsOf' l k) z), []) → Q (.ret s1)) : Judg (fB (post 2 C31)) (st31 l z (some k)) (endOf 0 (fK (post 2 C31)) Q (fun _ => False)) := by
  refine Judg.run' 31 (orc [(11, .val (bA true)), (14, .val (bA false))]) (.exit 0 (stOf (runCode Try.prog (orc [(11, .val (bA true)), (14, .val (bA false))]) (liveOf 31) 0 (fB (post 2 C31)) (st31 l z (some k))))) [pB .lss 3 (.tmp 13) (.const (.int .i64 9)) (.int .i64 (k)) (.int .i64 (9)) (bA false), pB .lss 3 (.tmp 8) (.tmp 10) (.int .i64 (k)) (.int .i64 (l.length)) (bA true)] (by kernel_rfl) (by kernel_rfl) (allc (hLss _ _ _ _ _ _ (by simp <;> omega)) (allc (hLss _ _ _ _ _ _ (by simp <;> omega)) allnil)) ?_
  show Judg (fK (post 2 C31)) _ _
  refine Judg.run' 31 (orc []) (.ret (stOf (runCode Try.prog (orc []) (liveOf 31) 0 (fK (post 2 C31)) (stOf (runCode Try.prog (orc [(11, .val (bA true)), (14, .val (bA false))]) (liveOf 31) 0 (fB (post 2 C31)) (st31 l z (some k))))))) [pB .lss 3 (.tmp 13) (.const (.int .i64 9)) (.int .i64 (k)) (.int .i64 (9)) (bA false), pB .lss 3 (.tmp 8) (.tmp 10) (.int .i64 (k)) (.int .i64 (l.length)) (bA true)] (by kernel_rfl) (by kernel_rfl) (allc (hLss _ _ _ _ _ _ (by simp <;> omega)) (allc (hLss _ _ _ _ _ _ (by simp <;> omega)) allnil)) (q _ (by kernel_rfl))

theorem Judg.endMono {c d : Code} {id : Nat} {s : St} {Q : Out → Prop} {X Y : St → Prop} (h : Judg c s (endOf id d Q X)) (hx : ∀ s, X s → Y s) : Judg c s (endOf id d Q Y) := h.mono fun o ho => by
  cases o with
  | go s' => exact hx s' ho
  | exit i s' => exact ho
  | ret s' => exact ho
theorem ok31 (l : List Int) (hl : l.length ≤ 100000000) (hw : I64s l) : Ok Try.prog 31 [rowI l] (plainR (outA (evsOf' l (min l.length 9)) (atZ l 0 3))) := by
  have J : ∀ {Q : Out → Prop}, (∀ s1, (resVals Try.prog s1 Try.f31.results.toList).bind (resOf s1) = some (plainR (.sc (.agg #[.slice none 0 0, .int .i64 (atZ l 0 3)])), []) → l.length ≤ 1 → Q (.ret s1)) →
      (∀ s1, (resVals Try.prog s1 Try.f31.results.toList).bind (resOf s1) = some (plainR (outA (evsOf' l (min l.length 9)) (atZ l 0 3)), []) → 1 < l.length → Q (.ret s1)) → Judg C31 (start [rowI l] 43) Q := by
    intro Q q1 q2
    refine Judg.pre' 31 (orcC [(6, plainR (iA (atZ l 0 3)))] []) 2 (s31a l) [Ok Try.prog 36 [rowI l, iA 0, iA 3] (plainR (iA (atZ l 0 3)))] (by kernel_rfl) (by kernel_rfl) (allc (ok36 l 0 3 (by omega) (by omega) (by omega) (by omega) hw) allnil) ?_
    refine Judg.for_ (ι := Option Nat) [0, 2, 3, 4] [2, 3, 40] (st31 l (atZ l 0 3)) (fun k => 9 - k.getD 1) (fun k => match k with | none => True | some k => 2 ≤ k ∧ k ≤ 9 ∧ k ≤ l.length) (by kernel_rfl) (orc []) (liveOf 31) (s1 := s31b l) (by kernel_rfl)
      (by have e : (s31b l).log = [Ok Try.prog 36 [rowI l, iA 0, iA 3] (plainR (iA (atZ l 0 3)))] := by kernel_rfl
          rw [e]; exact (allc (ok36 l 0 3 (by omega) (by omega) (by omega) (by omega) hw) allnil)) none trivial (by kernel_rfl) ?_
    rintro (_ | k) hP
    · by_cases h1 : 1 < l.length
      · obtain ⟨x, hx⟩ : ∃ x, l[1]? = some x := ⟨l[1], List.getElem?_eq_getElem h1⟩
        exact out_round1 l _ x hx (hw.at_ hx) fun s' hs' => ⟨some 2, ⟨by omega, by omega, by omega⟩, by simp, hs'⟩
      · exact Judg.endMono (out_end1 l _ h1 fun s1 h => q1 s1 h (by omega)) fun _ h => h.elim
    · obtain ⟨h1, h2, h3⟩ := hP
      by_cases hk : k < l.length
      · by_cases h9 : k < 9
        · obtain ⟨x, hx⟩ : ∃ x, l[k]? = some x := ⟨l[k], List.getElem?_eq_getElem hk⟩
          exact out_round l _ x k (by omega) h9 hx (hw.at_ hx) fun s' hs' => ⟨some (k + 1), ⟨by omega, by omega, by omega⟩, by simp; omega, hs'⟩
        · have e : min l.length 9 = k := by omega
          exact Judg.endMono (out_end9 l _ k hk h9 fun s1 h => q2 s1 (by rw [e]; exact h) (by omega)) fun _ h => h.elim
      · have e : min l.length 9 = k := by omega
        exact Judg.endMono (out_endk l _ k hk fun s1 h => q2 s1 (by rw [e]; exact h) (by omega)) fun _ h => h.elim
  by_cases h1 : l.length ≤ 1
  · have e : evsOf' l (min l.length 9) = [] := by unfold evsOf'; rw [List.drop_eq_nil_of_le (by simp; omega)]; rfl
    rw [e]
    refine Ok.res (x := .sc (.agg #[.slice none 0 0, .int .i64 (atZ l 0 3)])) (Ok.judg Try.func31 (c := C31) rfl (by simp [Try.ntmps31]) (J (fun s1 h _ => ⟨s1, [], .inr rfl, h, allnil⟩) (fun s1 h h' => by omega))) ?_
    intro pr w c hc
    have hc : c = .agg #[.slice none 0 0, .int .i64 (atZ l 0 3)] := hc
    subst hc
    exact ⟨[_, _], rfl, by simp [Value.oneCell'], _, _, rfl, ⟨none, 0, rfl, Nat.le_refl _, by simp [maxLen], by simp [evA], fun h => absurd h (by simp)⟩, _, _, rfl, rfl, rfl⟩
  · exact Ok.judg Try.func31 (c := C31) rfl (by simp [Try.ntmps31]) (J (fun s1 h h' => by omega) (fun s1 h _ => ⟨s1, [], .inr rfl, h, allnil⟩))
end Go.Proofs.Ytlekojbcaelpiaa

/- scoriaref38.One, All; givens, sames. -/
namespace Go.Proofs.Ytlekojbcaelpiaa
open Go.RowKit
theorem aroundZ_bd (x m : Int) (h : 0 < m) (hm : m ≤ 1000) : 0 ≤ aroundZ x m ∧ aroundZ x m ≤ 1000 := ⟨aroundZ_nonneg x m h, by have := aroundZ_lt x m h; omega⟩
theorem atZ_bd (l : List Int) (i : Nat) (m : Int) (h : 0 < m) (hm : m ≤ 1000) : 0 ≤ atZ l i m ∧ atZ l i m ≤ 1000 := by
  unfold atZ
  split
  · exact aroundZ_bd _ m h hm
  · omega
def oneR (l : List Int) : Rp :=
  cutRef (1 + atZ l 0 9) (atZ l 1 2) [atZ l 2 2] (evsOf' (l.drop (min l.length 4)) (min (l.drop (min l.length 4)).length 9)) (atZ (l.drop (min l.length 4)) 0 3) (atZ l 3 7 - 1)
theorem rowI_drop (l : List Int) (m : Nat) (h : m ≤ l.length) : AV.row none 1 (l.length - m) (((l.map iA).drop (m * 1)).take ((l.length - m) * 1)) = rowI (l.drop m) := by
  unfold rowI
  rw [Nat.mul_one, Nat.mul_one, List.length_drop, ← List.map_drop, List.take_of_length_le (by simp)]

theorem one_any (l : List Int) (m : Nat) (hm : min l.length 4 = m) (hl : l.length ≤ 100000000) (hw : I64s l) : Ok Try.prog 8 [rowI l] (plainR (rpA (cutRef (1 + atZ l 0 9) (atZ l 1 2) [atZ l 2 2] (evsOf' (l.drop m) (min (l.drop m).length 9)) (atZ (l.drop m) 0 3) (atZ l 3 7 - 1)))) := by
  exact Ok.run' 8 (orcC [(5, plainR (iA (atZ l 0 9))), (8, plainR (iA (atZ l 1 2))), (10, plainR (iA (atZ l 2 2))), (17, plainR (outA (evsOf' (l.drop m) (min (l.drop m).length 9)) (atZ (l.drop m) 0 3))), (19, plainR (iA (atZ l 3 7))), (21, plainR (rpA (cutRef (1 + atZ l 0 9) (atZ l 1 2) [atZ l 2 2] (evsOf' (l.drop m) (min (l.drop m).length 9)) (atZ (l.drop m) 0 3) (atZ l 3 7 - 1))))] [(6, .val (iA (1 + atZ l 0 9))), (15, .val (iA m)), (16, .val (rowI (l.drop m))), (20, .val (iA (atZ l 3 7 - 1)))]) Try.func8 [Ok Try.prog 35 [iA (1 + atZ l 0 9), iA (atZ l 1 2), rowI [atZ l 2 2], outA (evsOf' (l.drop m) (min (l.drop m).length 9)) (atZ (l.drop m) 0 3), iA (atZ l 3 7 - 1)] (plainR (rpA (cutRef (1 + atZ l 0 9) (atZ l 1 2) [atZ l 2 2] (evsOf' (l.drop m) (min (l.drop m).length 9)) (atZ (l.drop m) 0 3) (atZ l 3 7 - 1)))), pB .sub 3 (.tmp 19) (.const (.int .i64 1)) (.int .i64 (atZ l 3 7)) (.int .i64 (1)) (iA (atZ l 3 7 - 1)), Ok Try.prog 36 [rowI l, iA 3, iA 7] (plainR (iA (atZ l 3 7))), Ok Try.prog 31 [rowI (l.drop m)] (plainR (outA (evsOf' (l.drop m) (min (l.drop m).length 9)) (atZ (l.drop m) 0 3))), cmdSlice Try.prog 22 (rowI l) (some (iA m)) none none = some (.val (rowI (l.drop m))), pMin [3, 3] 3 (iA l.length) (iA (4 : Nat)) (iA m), Ok Try.prog 36 [rowI l, iA 2, iA 2] (plainR (iA (atZ l 2 2))), Ok Try.prog 36 [rowI l, iA 1, iA 2] (plainR (iA (atZ l 1 2))), pB .add 3 (.const (.int .i64 1)) (.tmp 5) (.int .i64 (1)) (.int .i64 (atZ l 0 9)) (iA (1 + atZ l 0 9)), Ok Try.prog 36 [rowI l, iA 0, iA 9] (plainR (iA (atZ l 0 9)))] (by kernel_rfl) (allc (ok35 _ _ _ _ _ _) (allc (hSub _ _ _ _ _ _ rfl ⟨by have := atZ_bd l 3 7 (by omega) (by omega); omega, by have := atZ_bd l 3 7 (by omega) (by omega); omega⟩) (allc (ok36 l 3 7 (by omega) (by omega) (by omega) (by omega) hw) (allc (ok31 (l.drop m) (by simp; omega) (fun x hx => hw x (List.mem_of_mem_drop hx))) (allc (by rw [← rowI_drop l m (by omega)]; exact el22.slLo (rowOf_row _ _ _ _) (by omega)) (allc (hMin _ _ _ _ _ hm) (allc (ok36 l 2 2 (by omega) (by omega) (by omega) (by omega) hw) (allc (ok36 l 1 2 (by omega) (by omega) (by omega) (by omega) hw) (allc (hAdd _ _ _ _ _ _ rfl ⟨by have := atZ_bd l 0 9 (by omega) (by omega); omega, by have := atZ_bd l 0 9 (by omega) (by omega); omega⟩) (allc (ok36 l 0 9 (by omega) (by omega) (by omega) (by omega) hw) allnil))))))))))

theorem ok8 (l : List Int) (hl : l.length ≤ 100000000) (hw : I64s l) : Ok Try.prog 8 [rowI l] (plainR (rpA (oneR l))) := one_any l _ rfl hl hw
/-- lists of reports -/
def rpC (r : Rp) : List AV := [iA r.id, iA r.ver, rowI r.args, rowE r.events, bA r.cut, iA r.en]
def rpsA (l : List Rp) : List AV := l.flatMap rpC
def rowR (l : List Rp) : AV := .row none 6 l.length (rpsA l)
theorem rpsA_cons (r : Rp) (l : List Rp) : rpsA (r :: l) = iA r.id :: iA r.ver :: rowI r.args :: rowE r.events :: bA r.cut :: iA r.en :: rpsA l := by simp [rpsA, rpC]
theorem rpsA_append (a b : List Rp) : rpsA (a ++ b) = rpsA a ++ rpsA b := by simp [rpsA]
theorem rpsA_length (l : List Rp) : (rpsA l).length = l.length * 6 := by
  induction l with
  | nil => rfl
  | cons e l ih => rw [rpsA_cons]; simp only [List.length_cons, ih]; omega
theorem rpsA_drop (l : List Rp) (k : Nat) : (rpsA l).drop (k * 6) = rpsA (l.drop k) := by
  induction k generalizing l with
  | zero => simp
  | succ k ih =>
    cases l with
    | nil => simp [rpsA]
    | cons e l => rw [rpsA_cons, show (k + 1) * 6 = k * 6 + 1 + 1 + 1 + 1 + 1 + 1 by omega]; simp [ih]
theorem rpsA_take (l : List Rp) (k : Nat) : (rpsA l).take (k * 6) = rpsA (l.take k) := by
  induction k generalizing l with
  | zero => simp [rpsA]
  | succ k ih =>
    cases l with
    | nil => simp [rpsA]
    | cons e l => rw [rpsA_cons, show (k + 1) * 6 = k * 6 + 1 + 1 + 1 + 1 + 1 + 1 by omega]; simp only [List.take_succ_cons, ih, rpsA_cons]
theorem El.idxR {t e bytes : Nat} (h : El t e 6 bytes) {tok : Option (Nat × Nat)} {l : List Rp} {k : Nat} {x : Rp} (hx : l[k]? = some x) : cmdIndexAddr Try.prog t (.row tok 6 l.length (rpsA l)) (iA k) =
    some (.val (.rptr (iA x.id :: iA x.ver :: rowI x.args :: rowE x.events :: bA x.cut :: iA x.en :: rpsA (l.drop (k + 1))))) := by
  rw [h.idx (List.getElem?_eq_some_iff.1 hx).1, rpsA_drop, drop_at hx, rpsA_cons]

def samesB (a b : List Rp) : Bool := decide (a.length = b.length) && (a.zip b).all fun p => sameR p.1 p.2
theorem samesB_iff (a b : List Rp) : samesB a b = true ↔ a.length = b.length ∧ ∀ (k : Nat) (x y : Rp), a[k]? = some x → b[k]? = some y → sameR x y = true := by
  simp only [samesB, Bool.and_eq_true, decide_eq_true_eq, List.all_eq_true]
  refine and_congr_right fun hl => ⟨fun h k x y hx hy => h (x, y) ?_, fun h p hp => ?_⟩
  · exact List.mem_iff_getElem?.2 ⟨k, by rw [List.getElem?_zip_eq_some]; exact ⟨hx, hy⟩⟩
  · obtain ⟨k, hk⟩ := List.mem_iff_getElem?.1 hp
    rw [List.getElem?_zip_eq_some] at hk
    exact h k p.1 p.2 hk.1 hk.2
noncomputable abbrev C29 : Code := bodyOf Try.f29
def st29 (a b : List Rp) (k : Nat) : St := { n := 27, slots := [(0, rowR a), (1, rowR b), (5, iA k)], objs := [], lens := [] }
noncomputable def s29a (a b : List Rp) : St := stOf (runCode Try.prog (orc [(10, .val (bA false))]) (liveOf 29) 0 (pre 2 C29) (start [rowR a, rowR b] 27))
noncomputable def s29b (a b : List Rp) : St := stOf (runCode Try.prog (orc []) (liveOf 29) 0 (fR (post 2 C29)) (s29a a b))

theorem ok29 (a b : List Rp) (ha : ∀ r ∈ a, Fit r) (hb : ∀ r ∈ b, Fit r) (hla : a.length ≤ 1000000) (hlb : b.length ≤ 1000000) : Ok Try.prog 29 [rowR a, rowR b] (plainR (bA (samesB a b))) := by
  by_cases hle : a.length = b.length
  case neg =>
    have : samesB a b = false := by rw [← Bool.not_eq_true, samesB_iff]; exact fun h => hle h.1
    rw [this]
    exact Ok.run' 29 (orc [(10, .val (bA true))]) Try.func29 [pB .neq 3 (.tmp 7) (.tmp 9) (.int .i64 (a.length)) (.int .i64 (b.length)) (bA true)] (by kernel_rfl) (allc (hNeq _ _ _ _ _ _ (by simp <;> omega)) allnil)
  refine Ok.judg Try.func29 (c := C29) rfl (by simp [Try.ntmps29]) ?_
  refine Judg.pre' 29 (orc [(10, .val (bA false))]) 2 (s29a a b) [pB .neq 3 (.tmp 7) (.tmp 9) (.int .i64 (a.length)) (.int .i64 (b.length)) (bA false)] (by kernel_rfl) (by kernel_rfl) (allc (hNeq _ _ _ _ _ _ (by simp <;> omega)) allnil) ?_
  refine Judg.for_ (ι := Nat) [0, 1, 5] [] (st29 a b) (fun k => a.length - k) (fun k => k ≤ a.length ∧ ∀ j x y, j < k → a[j]? = some x → b[j]? = some y → sameR x y = true) (by kernel_rfl) (orc []) (liveOf 29) (s1 := s29b a b) (by kernel_rfl)
    (by have e : (s29b a b).log = [pB .neq 3 (.tmp 7) (.tmp 9) (.int .i64 (a.length)) (.int .i64 (b.length)) (bA false)] := by kernel_rfl
        rw [e]; exact (allc (hNeq _ _ _ _ _ _ (by simp <;> omega)) allnil)) 0 ⟨by omega, fun j x y hj => by omega⟩ (by kernel_rfl) ?_
  rintro k ⟨hk, hp⟩
  by_cases hlt : k < a.length
  · obtain ⟨x, hx⟩ : ∃ x, a[k]? = some x := ⟨a[k], List.getElem?_eq_getElem (by omega)⟩
    obtain ⟨y, hy⟩ : ∃ y, b[k]? = some y := ⟨b[k], List.getElem?_eq_getElem (by omega)⟩
    have hs := ok20 x y (ha x (List.mem_of_getElem? hx)) (hb y (List.mem_of_getElem? hy))
    cases hv : sameR x y with
    | true =>
      rw [hv] at hs
      refine Judg.run' 29 (orcC [(25, plainR (bA true))] [(14, .val (bA true)), (19, .val (.rptr (iA x.id :: iA x.ver :: rowI x.args :: rowE x.events :: bA x.cut :: iA x.en :: rpsA (a.drop (k + 1))))), (23, .val (.rptr (iA y.id :: iA y.ver :: rowI y.args :: rowE y.events :: bA y.cut :: iA y.en :: rpsA (b.drop (k + 1))))), (16, .val (iA ((k + 1 : Nat) : Int)))]) (.go (stOf (runCode Try.prog (orcC [(25, plainR (bA true))] [(14, .val (bA true)), (19, .val (.rptr (iA x.id :: iA x.ver :: rowI x.args :: rowE x.events :: bA x.cut :: iA x.en :: rpsA (a.drop (k + 1))))), (23, .val (.rptr (iA y.id :: iA y.ver :: rowI y.args :: rowE y.events :: bA y.cut :: iA y.en :: rpsA (b.drop (k + 1))))), (16, .val (iA ((k + 1 : Nat) : Int)))]) (liveOf 29) 0 (fB (post 2 C29)) (st29 a b k)))) [pB .add 3 (.tmp 15) (.const (.int .i64 1)) (.int .i64 (k)) (.int .i64 (1)) (iA ((k + 1 : Nat) : Int)), Ok Try.prog 20 [rpA x, rpA y] (plainR (bA true)), cmdIndexAddr Try.prog 52 (rowR b) (iA k) = some (.val (.rptr (iA y.id :: iA y.ver :: rowI y.args :: rowE y.events :: bA y.cut :: iA y.en :: rpsA (b.drop (k + 1))))), cmdIndexAddr Try.prog 52 (rowR a) (iA k) = some (.val (.rptr (iA x.id :: iA x.ver :: rowI x.args :: rowE x.events :: bA x.cut :: iA x.en :: rpsA (a.drop (k + 1))))), pB .lss 3 (.tmp 11) (.tmp 13) (.int .i64 (k)) (.int .i64 (a.length)) (bA true)] (by kernel_rfl) (by kernel_rfl) (allc (hAdd _ _ _ _ _ _ (by simp) ⟨by omega, by omega⟩) (allc (hs) (allc (el52.idxR hy) (allc (el52.idxR hx) (allc (hLss _ _ _ _ _ _ (by simp <;> omega)) allnil)))))
        ⟨k + 1, ⟨by omega, fun j x' y' hj hx' hy' => ?_⟩, by omega, by kernel_rfl⟩
      by_cases hjk : j = k
      · subst hjk; rw [hx] at hx'; rw [hy] at hy'; cases hx'; cases hy'; exact hv
      · exact hp j x' y' (by omega) hx' hy'
    | false =>
      rw [hv] at hs
      have : samesB a b = false := by
        rw [← Bool.not_eq_true, samesB_iff]; intro h
        have := h.2 k x y hx hy; rw [hv] at this; cases this
      rw [this]
      refine Judg.run' 29 (orcC [(25, plainR (bA false))] [(14, .val (bA true)), (19, .val (.rptr (iA x.id :: iA x.ver :: rowI x.args :: rowE x.events :: bA x.cut :: iA x.en :: rpsA (a.drop (k + 1))))), (23, .val (.rptr (iA y.id :: iA y.ver :: rowI y.args :: rowE y.events :: bA y.cut :: iA y.en :: rpsA (b.drop (k + 1)))))]) (.ret (stOf (runCode Try.prog (orcC [(25, plainR (bA false))] [(14, .val (bA true)), (19, .val (.rptr (iA x.id :: iA x.ver :: rowI x.args :: rowE x.events :: bA x.cut :: iA x.en :: rpsA (a.drop (k + 1))))), (23, .val (.rptr (iA y.id :: iA y.ver :: rowI y.args :: rowE y.events :: bA y.cut :: iA y.en :: rpsA (b.drop (k + 1)))))]) (liveOf 29) 0 (fB (post 2 C29)) (st29 a b k)))) [Ok Try.prog 20 [rpA x, rpA y] (plainR (bA false)), cmdIndexAddr Try.prog 52 (rowR b) (iA k) = some (.val (.rptr (iA y.id :: iA y.ver :: rowI y.args :: rowE y.events :: bA y.cut :: iA y.en :: rpsA (b.drop (k + 1))))), cmdIndexAddr Try.prog 52 (rowR a) (iA k) = some (.val (.rptr (iA x.id :: iA x.ver :: rowI x.args :: rowE x.events :: bA x.cut :: iA x.en :: rpsA (a.drop (k + 1))))), pB .lss 3 (.tmp 11) (.tmp 13) (.int .i64 (k)) (.int .i64 (a.length)) (bA true)] (by kernel_rfl) (by kernel_rfl) (allc (hs) (allc (el52.idxR hy) (allc (el52.idxR hx) (allc (hLss _ _ _ _ _ _ (by simp <;> omega)) allnil)))) ?_
      exact fin_ret (l := []) _ (by kernel_rfl) allnil
  · obtain rfl : k = a.length := by omega
    have : samesB a b = true := by
      rw [samesB_iff]
      exact ⟨hle, fun j x y hx hy => hp j x y (List.getElem?_eq_some_iff.1 hx).1 hx hy⟩
    rw [this]
    refine Judg.run' 29 (orc [(14, .val (bA false))]) (.exit 0 (stOf (runCode Try.prog (orc [(14, .val (bA false))]) (liveOf 29) 0 (fB (post 2 C29)) (st29 a b a.length)))) [pB .lss 3 (.tmp 11) (.tmp 13) (.int .i64 (a.length)) (.int .i64 (a.length)) (bA false)] (by kernel_rfl) (by kernel_rfl) (allc (hLss _ _ _ _ _ _ (by simp)) allnil) ?_
    show Judg (fK (post 2 C29)) _ _
    refine Judg.run' 29 (orc []) (.ret (stOf (runCode Try.prog (orc []) (liveOf 29) 0 (fK (post 2 C29)) (stOf (runCode Try.prog (orc [(14, .val (bA false))]) (liveOf 29) 0 (fB (post 2 C29)) (st29 a b a.length)))))) [pB .lss 3 (.tmp 11) (.tmp 13) (.int .i64 (a.length)) (.int .i64 (a.length)) (bA false)] (by kernel_rfl) (by kernel_rfl) (allc (hLss _ _ _ _ _ _ (by simp)) allnil) ?_
    exact fin_ret (l := []) _ (by kernel_rfl) allnil

end Go.Proofs.Ytlekojbcaelpiaa

/- givens, scoriaref38.All. -/
namespace Go.Proofs.Ytlekojbcaelpiaa
open Go.RowKit
theorem Ok.nilRow {f size e : Nat} {args : List AV} (h : Ok Try.prog f args (plainR (.sc (.slice none 0 0)))) : Ok Try.prog f args { v := .row none size 0 [], own := some e } :=
  ⟨h.1, fun w pr cs hp hv => (h.2 w pr cs hp hv).mono fun x w' ⟨c, pr', a1, a2, a3, a4, a5, _⟩ => by
    have hc : c = .slice none 0 0 := a5
    subst hc
    exact ⟨_, pr', a1, a2, a3, a4, ⟨none, 0, rfl, Nat.le_refl _, by simp [maxLen], by simp, fun h => absurd h (by omega)⟩, fun e he => .inl ⟨none, rfl, rfl⟩⟩⟩
def ownR (e : Nat) (l : List Rp) : Res := { v := rowR l, own := some e }
theorem take_succ_at {α : Type} {l : List α} {k : Nat} {x : α} (h : l[k]? = some x) : l.take (k + 1) = l.take k ++ [x] := by rw [List.take_add_one, h]; rfl
theorem oneLe {α : Type} {l : List α} {k : Nat} (h : k ≤ l.length) : (l.take k).length = k := by simp; omega

noncomputable abbrev C27 : Code := bodyOf Try.f27
def st27 (l : List Rp) : Option Nat → St
  | none => { n := 20, slots := [(0, rowR l), (3, .sc (.slice none 0 0)), (4, iA (0 : Nat))], objs := [], lens := [] }
  | some k => { n := 20, slots := [(0, rowR l), (3, .row (some (18, 30)) 6 k (rpsA (l.take k))), (4, iA k)], objs := [], lens := [(18, k * 6)] }
noncomputable def s27a (l : List Rp) : St := stOf (runCode Try.prog (orc []) (liveOf 27) 0 (pre 2 C27) (start [rowR l] 20))
noncomputable def s27b (l : List Rp) : St := stOf (runCode Try.prog (orc []) (liveOf 27) 0 (fR (post 2 C27)) (s27a l))

theorem giv_r1 (l : List Rp) (x : Rp) (hl : l.length ≤ 1000000) (hx : l[0]? = some x) {Q : Out → Prop} (q : ∀ s', clean [0, 3, 4] [18] s' = st27 l (some 1) → Q (.go s')) : Judg (fB (post 2 C27)) (st27 l none) Q := by
  have hk : 0 < l.length := (List.getElem?_eq_some_iff.1 hx).1
  have e2 : rpsA (l.take (0 + 1)) = rpsA (l.take 0) ++ rpsA [x] := by rw [take_succ_at hx, rpsA_append]
  refine Judg.run' 27 (orcC [(16, plainR (rpA x))] [(8, .val (bA true)), (14, .val (.rptr (iA x.id :: iA x.ver :: rowI x.args :: rowE x.events :: bA x.cut :: iA x.en :: rpsA (l.drop (0 + 1))))), (18, .fresh 30 6 1 (rpsA [x])), (10, .val (iA ((0 + 1 : Nat) : Int)))]) (.go (stOf (runCode Try.prog (orcC [(16, plainR (rpA x))] [(8, .val (bA true)), (14, .val (.rptr (iA x.id :: iA x.ver :: rowI x.args :: rowE x.events :: bA x.cut :: iA x.en :: rpsA (l.drop (0 + 1))))), (18, .fresh 30 6 1 (rpsA [x])), (10, .val (iA ((0 + 1 : Nat) : Int)))]) (liveOf 27) 0 (fB (post 2 C27)) (st27 l none)))) [pB .add 3 (.tmp 9) (.const (.int .i64 1)) (.int .i64 (0)) (.int .i64 (1)) (iA ((0 + 1 : Nat) : Int)), cmdAppend Try.prog 52 52 (.sc (.slice none 0 0)) (.row (some (17, 30)) 6 1 (rpsA [x])) = some (.fresh 30 6 1 (rpsA [x])), Ok Try.prog 11 [rpA x] (plainR (rpA x)), cmdIndexAddr Try.prog 28 (rowR l) (iA (0 : Nat)) = some (.val (.rptr (iA x.id :: iA x.ver :: rowI x.args :: rowE x.events :: bA x.cut :: iA x.en :: rpsA (l.drop (0 + 1))))), pB .lss 3 (.tmp 5) (.tmp 7) (.int .i64 (0)) (.int .i64 (l.length)) (bA true)] (by kernel_rfl) (by kernel_rfl) (allc (hAdd _ _ _ _ _ _ (by simp) ⟨by omega, by omega⟩) (allc (el52.nil (rowOf_row _ _ _ _) (fits_of (by omega) (by omega))) (allc (ok11 x) (allc (el28.idxR hx) (allc (hLss _ _ _ _ _ _ (decide_eq_true (by omega))) allnil))))) (q _ ?_)
  unfold st27
  simp only [show rpsA (l.take 1) = rpsA [x] by rw [e2]; simp [rpsA]]
  kernel_rfl

theorem giv_r (l : List Rp) (x : Rp) (k : Nat) (hl : l.length ≤ 1000000) (hx : l[k]? = some x) {Q : Out → Prop} (q : ∀ s', clean [0, 3, 4] [18] s' = st27 l (some (k + 1)) → Q (.go s')) : Judg (fB (post 2 C27)) (st27 l (some k)) Q := by
  have hk : k < l.length := (List.getElem?_eq_some_iff.1 hx).1
  have e2 : rpsA (l.take (k + 1)) = rpsA (l.take k) ++ rpsA [x] := by rw [take_succ_at hx, rpsA_append]
  refine Judg.run' 27 (orcC [(16, plainR (rpA x))] [(8, .val (bA true)), (14, .val (.rptr (iA x.id :: iA x.ver :: rowI x.args :: rowE x.events :: bA x.cut :: iA x.en :: rpsA (l.drop (k + 1))))), (18, .grow 18 30 6 k (rpsA (l.take k)) 1 (rpsA [x])), (10, .val (iA ((k + 1 : Nat) : Int)))]) (.go (stOf (runCode Try.prog (orcC [(16, plainR (rpA x))] [(8, .val (bA true)), (14, .val (.rptr (iA x.id :: iA x.ver :: rowI x.args :: rowE x.events :: bA x.cut :: iA x.en :: rpsA (l.drop (k + 1))))), (18, .grow 18 30 6 k (rpsA (l.take k)) 1 (rpsA [x])), (10, .val (iA ((k + 1 : Nat) : Int)))]) (liveOf 27) 0 (fB (post 2 C27)) (st27 l (some k))))) [pB .add 3 (.tmp 9) (.const (.int .i64 1)) (.int .i64 (k)) (.int .i64 (1)) (iA ((k + 1 : Nat) : Int)), cmdAppend Try.prog 52 52 (.row (some (18, 30)) 6 k (rpsA (l.take k))) (.row (some (17, 30)) 6 1 (rpsA [x])) = some (.grow 18 30 6 k (rpsA (l.take k)) 1 (rpsA [x])), k * 6 = k * 6, Ok Try.prog 11 [rpA x] (plainR (rpA x)), cmdIndexAddr Try.prog 28 (rowR l) (iA (k : Nat)) = some (.val (.rptr (iA x.id :: iA x.ver :: rowI x.args :: rowE x.events :: bA x.cut :: iA x.en :: rpsA (l.drop (k + 1))))), pB .lss 3 (.tmp 5) (.tmp 7) (.int .i64 (k)) (.int .i64 (l.length)) (bA true)] (by kernel_rfl) (by kernel_rfl) (allc (hAdd _ _ _ _ _ _ (by simp) ⟨by omega, by omega⟩) (allc (el52.grow (rowOf_row _ _ _ _) (fits_of (by omega) (by omega))) (allc (rfl) (allc (ok11 x) (allc (el28.idxR hx) (allc (hLss _ _ _ _ _ _ (decide_eq_true (by omega))) allnil)))))) (q _ ?_)
  unfold st27
  simp only [e2]
  kernel_rfl

theorem giv_e1 (l : List Rp) (hk : ¬ 0 < l.length) {Q : Out → Prop} (q : ∀ s1, (resVals Try.prog s1 Try.f27.results.toList).bind (resOf s1) = some (plainR (.sc (.slice none 0 0)), []) → Q (.ret s1)) : Judg (fB (post 2 C27)) (st27 l none) (endOf 0 (fK (post 2 C27)) Q (fun _ => False)) := by
  refine Judg.run' 27 (orc [(8, .val (bA false))]) (.exit 0 (stOf (runCode Try.prog (orc [(8, .val (bA false))]) (liveOf 27) 0 (fB (post 2 C27)) (st27 l none)))) [pB .lss 3 (.tmp 5) (.tmp 7) (.int .i64 (0)) (.int .i64 (l.length)) (bA false)] (by kernel_rfl) (by kernel_rfl) (allc (hLss _ _ _ _ _ _ (decide_eq_false (by omega))) allnil) ?_
  show Judg (fK (post 2 C27)) _ _
  exact Judg.run' 27 (orc []) (.ret (stOf (runCode Try.prog (orc []) (liveOf 27) 0 (fK (post 2 C27)) (stOf (runCode Try.prog (orc [(8, .val (bA false))]) (liveOf 27) 0 (fB (post 2 C27)) (st27 l none)))))) [pB .lss 3 (.tmp 5) (.tmp 7) (.int .i64 (0)) (.int .i64 (l.length)) (bA false)] (by kernel_rfl) (by kernel_rfl) (allc (hLss _ _ _ _ _ _ (decide_eq_false (by omega))) allnil) (q _ (by kernel_rfl))

theorem giv_e (l : List Rp) (k : Nat) (hk : ¬ k < l.length) {Q : Out → Prop} (q : ∀ s1, (resVals Try.prog s1 Try.f27.results.toList).bind (resOf s1) = some ({ v := .row none 6 k (rpsA (l.take k)), own := some 30 }, [k * 6 = k * 6]) → Q (.ret s1)) : Judg (fB (post 2 C27)) (st27 l (some k)) (endOf 0 (fK (post 2 C27)) Q (fun _ => False)) := by
  refine Judg.run' 27 (orc [(8, .val (bA false))]) (.exit 0 (stOf (runCode Try.prog (orc [(8, .val (bA false))]) (liveOf 27) 0 (fB (post 2 C27)) (st27 l (some k))))) [pB .lss 3 (.tmp 5) (.tmp 7) (.int .i64 (k)) (.int .i64 (l.length)) (bA false)] (by kernel_rfl) (by kernel_rfl) (allc (hLss _ _ _ _ _ _ (decide_eq_false (by omega))) allnil) ?_
  show Judg (fK (post 2 C27)) _ _
  exact Judg.run' 27 (orc []) (.ret (stOf (runCode Try.prog (orc []) (liveOf 27) 0 (fK (post 2 C27)) (stOf (runCode Try.prog (orc [(8, .val (bA false))]) (liveOf 27) 0 (fB (post 2 C27)) (st27 l (some k))))))) [pB .lss 3 (.tmp 5) (.tmp 7) (.int .i64 (k)) (.int .i64 (l.length)) (bA false)] (by kernel_rfl) (by kernel_rfl) (allc (hLss _ _ _ _ _ _ (decide_eq_false (by omega))) allnil) (q _ (by kernel_rfl))

theorem ok27 (l : List Rp) (hl : l.length ≤ 1000000) : Ok Try.prog 27 [rowR l] (ownR 30 l) := by
  have J : ∀ {Q : Out → Prop}, (∀ s1, (resVals Try.prog s1 Try.f27.results.toList).bind (resOf s1) = some (plainR (.sc (.slice none 0 0)), []) → l = [] → Q (.ret s1)) →
      (∀ s1, (resVals Try.prog s1 Try.f27.results.toList).bind (resOf s1) = some (ownR 30 l, [l.length * 6 = l.length * 6]) → l ≠ [] → Q (.ret s1)) → Judg C27 (start [rowR l] 20) Q := by
    intro Q q1 q2
    refine Judg.pre' 27 (orc []) 2 (s27a l) [] (by kernel_rfl) (by kernel_rfl) allnil ?_
    refine Judg.for_ (ι := Option Nat) [0, 3, 4] [18] (st27 l) (fun k => l.length - k.getD 0) (fun k => match k with | none => True | some k => 1 ≤ k ∧ k ≤ l.length) (by kernel_rfl) (orc []) (liveOf 27) (s1 := s27b l) (by kernel_rfl)
      (by have e : (s27b l).log = [] := by kernel_rfl
          rw [e]; exact allnil) none trivial (by kernel_rfl) ?_
    rintro (_ | k) hP
    · by_cases h1 : 0 < l.length
      · obtain ⟨x, hx⟩ : ∃ x, l[0]? = some x := ⟨l[0], List.getElem?_eq_getElem h1⟩
        exact giv_r1 l x hl hx fun s' hs' => ⟨some 1, ⟨by omega, by omega⟩, (by show l.length - 1 < l.length - 0; omega), hs'⟩
      · exact Judg.endMono (giv_e1 l h1 fun s1 h => q1 s1 h (List.eq_nil_of_length_eq_zero (by omega))) fun _ h => h.elim
    · obtain ⟨h1, h2⟩ := hP
      by_cases hk : k < l.length
      · obtain ⟨x, hx⟩ : ∃ x, l[k]? = some x := ⟨l[k], List.getElem?_eq_getElem hk⟩
        exact giv_r l x k hl hx fun s' hs' => ⟨some (k + 1), ⟨by omega, by omega⟩, (by show l.length - (k + 1) < l.length - k; omega), hs'⟩
      · obtain rfl : k = l.length := by omega
        exact Judg.endMono (giv_e l l.length hk fun s1 h => q2 s1 (by rw [List.take_length] at h; exact h) (by rintro rfl; simp at h1)) fun _ h => h.elim
  by_cases h1 : l = []
  · subst h1
    exact Ok.nilRow (Ok.judg Try.func27 (c := C27) rfl (by simp [Try.ntmps27]) (J (fun s1 h _ => ⟨s1, [], .inr rfl, h, allnil⟩) (fun s1 h h' => absurd rfl h')))
  · exact Ok.judg Try.func27 (c := C27) rfl (by simp [Try.ntmps27]) (J (fun s1 h h' => absurd h' h1) (fun s1 h _ => ⟨s1, _, .inr rfl, h, all1 rfl⟩))

end Go.Proofs.Ytlekojbcaelpiaa
