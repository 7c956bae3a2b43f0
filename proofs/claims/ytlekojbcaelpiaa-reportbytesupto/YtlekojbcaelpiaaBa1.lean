/- Contracts of the functions that the laws of scorialaw38 reach, part 1. -/
import Derived.Test.YtlekojbcaelpiaaRows
import Derived.WalkKit
import Derived.WalkSpells
import Derived.WalkLawsBesides
import Derived.BigQuiet
import Derived.Lib.Hide
import Derived.Deep.QuietTactic
import Derived.Deep.RegionHeld3
import Derived.Deep.AppendLies
import Derived.Maps.AppendAt
import Derived.Deep.DeepFit
import Derived.Deep.DeepMust
import Derived.Handy
import Derived.OrdersHeld
import Derived.Deep.Quiet
import Derived.RegionTactic
set_option linter.unusedVariables false
set_option linter.unusedSimpArgs false

/- Words for memory, and plain facts, that the walks of this seat share. -/
namespace Go.Proofs.Ytlekojbcaelpiaa
open Go.RowKit


theorem block_of_add (a : Addr) (n : Nat) : (a.add n).block = a.block := by unfold Addr.add; split <;> rfl
theorem add_of_add (a : Addr) (i j : Nat) : (a.add i).add j = a.add (i + j) := by
  unfold Addr.add
  by_cases hi : i = 0 <;> by_cases hj : j = 0 <;> simp [hi, hj, Nat.add_assoc]

def Reads (w : World) (B size : Nat) (A : Option Addr) (n : Nat) (xs : List Value) : Prop :=
  xs.length = n * size ∧ (0 < n → ∃ ad, A = some ad ∧ ad.block < B ∧ ∀ j u, xs[j]? = some u → w.cell? (ad.add j) = some u)

section
variable {w w' : World} {B B' size n : Nat} {A : Option Addr} {xs : List Value}
theorem Reads.none_ : Reads w B size A 0 [] := ⟨by simp, fun h => absurd h (by omega)⟩
theorem Reads.at_ {k : Nat} (h : Reads w B 1 A n xs) (hk : k < n) : ∃ ad u, A = some ad ∧ ad.block < B ∧ xs[k]? = some u ∧ w.cell? (ad.add k) = some u := by
  obtain ⟨ad, e, hb, hc⟩ := h.2 (by omega)
  have hl : k < xs.length := by have := h.1; omega
  exact ⟨ad, xs[k], e, hb, List.getElem?_eq_getElem hl, hc k _ (List.getElem?_eq_getElem hl)⟩
theorem Reads.keep (h : Reads w B size A n xs) (hk : ∀ p : Addr, p.block < B → w'.cell? p = w.cell? p) : Reads w' B size A n xs :=
  ⟨h.1, fun hn => by
    obtain ⟨ad, e, hb, hc⟩ := h.2 hn
    exact ⟨ad, e, hb, fun j u hu => (hk _ (by rw [block_of_add]; exact hb)).trans (hc j u hu)⟩⟩
theorem Reads.more (h : Reads w B size A n xs) (hB : B ≤ B') : Reads w B' size A n xs :=
  ⟨h.1, fun hn => by
    obtain ⟨ad, e, hb, hc⟩ := h.2 hn
    exact ⟨ad, e, by omega, hc⟩⟩
theorem Reads.below (h : Reads w B size A n xs) (hb : Below B w w') : Reads w' B size A n xs := h.keep fun _ hp => hb.cell hp
theorem Reads.drew (h : Reads w B size A n xs) : Reads w.drew B size A n xs := h
theorem Reads.drewN (h : Reads w B size A n xs) (k : Nat) : Reads (w.drewN k) B size A n xs := h
theorem Reads.alloc (h : Reads w B size A n xs) (hB : B ≤ w.heap.size) (o : Obj) : Reads (w.alloc o) B size A n xs := h.keep fun p hp => World.cell?_alloc_lt w o p (by omega)
theorem Reads.setCell (h : Reads w B size A n xs) {p : Addr} (hB : B ≤ p.block) (u : Value) : Reads (w.setCell p u) B size A n xs :=
  h.keep fun q hq => World.cell?_setCell_other w p q u (fun e => by subst e; omega)
theorem Reads.grown (h : Reads w B size A n xs) {row : Option Nat} (hg : w.grownBy w' row) (hB : B ≤ w.heap.size) (hr : ∀ g, row = some g → B ≤ g) : Reads w' B size A n xs :=
  h.keep fun p hp => World.cell?_of_block (hg.block p.block (by omega) (fun e => by have := hr _ e.symm; omega))
theorem Reads.cut (h : Reads w B size A n xs) {k cap : Nat} (hk : k ≤ n) (hc : n ≤ cap) :
    Reads w B size (if cap = k then A else A.map (·.add (k * size))) (n - k) (xs.drop (k * size)) := by
  refine ⟨by rw [List.length_drop, h.1, Nat.sub_mul], fun hn => ?_⟩
  obtain ⟨ad, rfl, hb, hcell⟩ := h.2 (by omega)
  rw [if_neg (by omega)]
  refine ⟨ad.add (k * size), rfl, by rw [block_of_add]; exact hb, fun j u hu => ?_⟩
  rw [add_of_add]
  exact hcell _ u (by rw [← hu, List.getElem?_drop])
theorem Reads.of_own {base : Nat} {e : TypeId} {c : Nat} (h : w.ownsRow base e size (.slice A n c) n xs) : Reads w w.heap.size size A n xs := by
  refine ⟨h.1, fun hn => ?_⟩
  obtain ⟨g, cap, hv, _, hlt⟩ := h.form hn
  have hA : A = some ⟨g, 0, none⟩ := by injection hv
  subst hA
  exact ⟨_, rfl, hlt, h.cells (g := g) rfl⟩
end

def Blk (w : World) (g : Nat) (t : TypeId) (cs : Array Value) : Prop := w.heap[g]? = some (.cells cs t (0, 0))

section
variable {w w' : World} {g : Nat} {t : TypeId} {cs : Array Value}
theorem Blk.lt (h : Blk w g t cs) : g < w.heap.size := by
  rcases Nat.lt_or_ge g w.heap.size with hlt | hge
  · exact hlt
  · unfold Blk at h; rw [Array.getElem?_eq_none hge] at h; cases h
theorem Blk.cell (h : Blk w g t cs) (i : Nat) : w.cell? ⟨g, i, none⟩ = cs[i]? := cell_of_row w g i cs t (0, 0) h
theorem Blk.frozen (h : Blk w g t cs) (i : Nat) : w.frozen? ⟨g, i, none⟩ = false := by
  unfold Blk at h
  simp [World.frozen?, h]
theorem Blk.new (w : World) (t : TypeId) (cs : Array Value) : Blk (w.alloc (.cells cs t)) w.heap.size t cs := heap_alloc_new w _
theorem Blk.drew (h : Blk w g t cs) : Blk w.drew g t cs := h
theorem Blk.drewN (h : Blk w g t cs) (n : Nat) : Blk (w.drewN n) g t cs := h
theorem Blk.alloc (h : Blk w g t cs) (o : Obj) : Blk (w.alloc o) g t cs := (Below.heap_alloc w o g h.lt).trans h
theorem Blk.set_ (h : Blk w g t cs) (i : Nat) (u : Value) : Blk (w.setCell ⟨g, i, none⟩ u) g t (cs.setIfInBounds i u) := by
  unfold Blk at h ⊢
  simp [World.setCell, Array.getElem?_modify, h]
theorem Blk.far (h : Blk w g t cs) {p : Addr} (hp : g ≠ p.block) (u : Value) : Blk (w.setCell p u) g t cs := (Below.heap_setCell w p u g hp).trans h
theorem Blk.below {B : Nat} (h : Blk w g t cs) (hb : Below B w w') (hg : g < B) : Blk w' g t cs := (hb.block g hg).trans h
theorem Blk.grown {row : Option Nat} (h : Blk w g t cs) (hb : w.grownBy w' row) (hg : some g ≠ row) : Blk w' g t cs := (hb.block g h.lt hg).trans h
theorem Blk.ne_ {g' : Nat} {t' : TypeId} {cs' : Array Value} (h : Blk w g t cs) (h' : Blk w g' t' cs') (hne : t ≠ t') : g ≠ g' := by
  rintro rfl
  unfold Blk at h h'
  rw [h] at h'
  injection h' with h'
  injection h' with _ ht
  exact hne ht
theorem own_blk_ne {base : Nat} {e : TypeId} {size n : Nat} {v : Value} {xs : List Value} (h : w.ownsRow base e size v n xs) (hg : Blk w g t cs) (hne : e ≠ t) : v.ownBlock ≠ some g := by
  rcases h.2 with ⟨rfl, _⟩ | ⟨g', cap, cur, rfl, _, hh, _⟩
  · simp [Value.ownBlock]
  · intro he
    have : g' = g := by simpa [Value.ownBlock] using he
    subst this
    exact Blk.ne_ (t := e) hh hg hne rfl
end

section
variable {P : Program} (w : World)

theorem run_append_of_nil (base : Nat) (t ty e : TypeId) (i : TypeInfo) (size : Nat) (ht : P.underlying t = some (.slice e)) (hi : P.info? e = some i)
    (v : Value) (n : Nat) (xs : List Value) (hown : w.ownsRow base e size v n xs) (c : Nat) : (Builtin.append_ #[t, t] ty #[v, .slice none 0 c]).run P w = .ok v w := by
  rcases hown.2 with ⟨rfl, rfl⟩ | ⟨g, cap, cur, rfl, _, _, hnc, _⟩
  · simp [Builtin.append_, run_underlying ht, sizeOf, typeInfo, hi, Builtin.lenOf, Builtin.firstCells]
  · simp [Builtin.append_, run_underlying ht, sizeOf, typeInfo, hi, Builtin.lenOf, Builtin.firstCells, hnc, storeCells]

theorem run_append_any (base : Nat) (t ty e : TypeId) (i : TypeInfo) (z : Value) (size bytes : Nat) (ht : P.underlying t = some (.slice e)) (hi : P.info? e = some i) (hz : i.zero = some z)
    (hsize : i.size = size) (hby : i.bytes = bytes) (hzs : z.cells.size = size) (hsz : 0 < size)
    (v : Value) (n : Nat) (xs : List Value) (hown : w.ownsRow base e size v n xs)
    (B : Nat) (A : Option Addr) (m c : Nat) (news : List Value) (hr : Reads w B size A m news) (h1 : ∀ u ∈ news, u.oneCell' = true)
    (h63 : n + m ≤ maxLen) (hbytes : (n + m) * bytes ≤ 140737488355328) (hbase : base ≤ w.heap.size) :
    ∃ v' w', (Builtin.append_ #[t, t] ty #[v, .slice A m c]).run P w = .ok v' w' ∧ w'.ownsRow base e size v' (n + m) (xs ++ news) ∧ w.grownBy w' v.ownBlock ∧
      (v'.ownBlock = v.ownBlock ∨ v'.ownBlock = some w.heap.size) := by
  rcases A with _ | ad
  · have hm : m = 0 := by
      rcases Nat.eq_zero_or_pos m with h0 | h0
      · exact h0
      · obtain ⟨ad, h, _⟩ := hr.2 h0
        cases h
    subst hm
    have hn : news = [] := List.eq_nil_of_length_eq_zero (by simpa using hr.1)
    subst hn
    exact ⟨v, w, run_append_of_nil w base t ty e i size ht hi v n xs hown c, by simpa using hown, World.grownBy.refl w _, .inl rfl⟩
  · have hcells : ∀ j u, news[j]? = some u → w.cell? (ad.add j) = some u := by
      intro j u hu
      rcases Nat.eq_zero_or_pos m with h0 | h0
      · subst h0
        have hn : news = [] := List.eq_nil_of_length_eq_zero (by simpa using hr.1)
        subst hn
        simp at hu
      · obtain ⟨ad', h, _, hc⟩ := hr.2 h0
        injection h with h
        subst h
        exact hc j u hu
    obtain ⟨v', w', hrun, h2, h3, _, h5⟩ := run_append_own_at (P := P) w base t ty e i z size bytes ht hi hz hsize hby hzs hsz v n xs hown ad m c news hr.1 hcells h1 h63 hbytes hbase
    exact ⟨v', w', hrun, h2, h3, h5⟩

theorem wp_append_any {o : Oper} {a : Act} {K : Act → World → Prop} {Q : Exit → Act → World → Prop} (s x : Operand) (t : TypeId)
    (ho : o.op = .call { callee := .builtin .append, args := #[s, x], argTypes := #[t, t] })
    (base : Nat) (e : TypeId) (i : TypeInfo) (z : Value) (size bytes : Nat) (ht : P.underlying t = some (.slice e)) (hi : P.info? e = some i) (hz : i.zero = some z)
    (hsize : i.size = size) (hby : i.bytes = bytes) (hzs : z.cells.size = size) (hsz : 0 < size)
    (v : Value) (n : Nat) (xs : List Value) (hs : a.eval s = v) (hown : w.ownsRow base e size v n xs)
    (B : Nat) (A : Option Addr) (m c : Nat) (news : List Value) (hx : a.eval x = .slice A m c) (hr : Reads w B size A m news) (h1 : ∀ u ∈ news, u.oneCell' = true)
    (h63 : n + m ≤ maxLen) (hbytes : (n + m) * bytes ≤ 140737488355328) (hbase : base ≤ w.heap.size)
    (h : ∀ v' w', w'.ownsRow base e size v' (n + m) (xs ++ news) → w.grownBy w' v.ownBlock → (v'.ownBlock = v.ownBlock ∨ v'.ownBlock = some w.heap.size) → K (a.put o.dst v') w') : o.wp P a w K Q := by
  obtain ⟨v', w', hrun, h2, h3, h4⟩ := run_append_any (P := P) w base t o.type e i z size bytes ht hi hz hsize hby hzs hsz v n xs hown B A m c news hr h1 h63 hbytes hbase
  unfold Oper.wp execOp
  simp only [ho, resolve, invoke, builtin, Sem.run_bind, Sem.run_pure, Result.andThen_ok, List.map_toArray, List.map_cons, List.map_nil, hs, hx, hrun]
  exact h v' w' h2 h3 h4

theorem wpList_append_any {ops : Array Oper} {rest : List Oper} {o : Oper} {a : Act} {Q : Exit → Act → World → Prop} (hgd : o.guard = none) (s x : Operand) (t : TypeId)
    (ho : o.op = .call { callee := .builtin .append, args := #[s, x], argTypes := #[t, t] })
    (base : Nat) (e : TypeId) (i : TypeInfo) (z : Value) (size bytes : Nat) (ht : P.underlying t = some (.slice e)) (hi : P.info? e = some i) (hz : i.zero = some z)
    (hsize : i.size = size) (hby : i.bytes = bytes) (hzs : z.cells.size = size) (hsz : 0 < size)
    (v : Value) (n : Nat) (xs : List Value) (hs : a.eval s = v) (hown : w.ownsRow base e size v n xs)
    (B : Nat) (A : Option Addr) (m c : Nat) (news : List Value) (hx : a.eval x = .slice A m c) (hr : Reads w B size A m news) (h1 : ∀ u ∈ news, u.oneCell' = true)
    (h63 : n + m ≤ maxLen) (hbytes : (n + m) * bytes ≤ 140737488355328) (hbase : base ≤ w.heap.size)
    (h : ∀ v' w', w'.ownsRow base e size v' (n + m) (xs ++ news) → w.grownBy w' v.ownBlock → (v'.ownBlock = v.ownBlock ∨ v'.ownBlock = some w.heap.size) → wpList P ops Q rest (a.put o.dst v') w') : wpList P ops Q (o :: rest) a w :=
  wpList_plain hgd fun _ hK => wp_append_any w s x t ho base e i z size bytes ht hi hz hsize hby hzs hsz v n xs hs hown B A m c news hx hr h1 h63 hbytes hbase fun v' w' h2 h3 h4 => hK _ _ (h v' w' h2 h3 h4)

theorem step_append_any {ops : Array Oper} {o : Oper} {a : Act} {K : Act → World → Prop} {Q : Exit → Act → World → Prop} {E : Prop} (hgd : o.guard = none) (s x : Operand) (t : TypeId)
    (ho : o.op = .call { callee := .builtin .append, args := #[s, x], argTypes := #[t, t] })
    (base : Nat) (e : TypeId) (i : TypeInfo) (z : Value) (size bytes : Nat) (ht : P.underlying t = some (.slice e)) (hi : P.info? e = some i) (hz : i.zero = some z)
    (hsize : i.size = size) (hby : i.bytes = bytes) (hzs : z.cells.size = size) (hsz : 0 < size)
    (v : Value) (n : Nat) (xs : List Value) (hs : a.eval s = v) (hown : w.ownsRow base e size v n xs)
    (B : Nat) (A : Option Addr) (m c : Nat) (news : List Value) (hx : a.eval x = .slice A m c) (hr : Reads w B size A m news) (h1 : ∀ u ∈ news, u.oneCell' = true)
    (h63 : n + m ≤ maxLen) (hbytes : (n + m) * bytes ≤ 140737488355328) (hbase : base ≤ w.heap.size)
    (h : ∀ v' w', w'.ownsRow base e size v' (n + m) (xs ++ news) → w.grownBy w' v.ownBlock → (v'.ownBlock = v.ownBlock ∨ v'.ownBlock = some w.heap.size) → K (a.put o.dst v') w') :
    if Region.wanted o (yielded ops a.tmps) = true then Oper.wp P o a w K Q else E := by
  have hw : Region.wanted o (yielded ops a.tmps) = true := by simp [Region.wanted, hgd]
  rw [if_pos hw]
  exact wp_append_any w s x t ho base e i z size bytes ht hi hz hsize hby hzs hsz v n xs hs hown B A m c news hx hr h1 h63 hbytes hbase h
end

theorem cell_later' (w : World) (o : Obj) {a : Addr} {v : Value} (h : w.cell? a = some v) : (w.alloc o).cell? a = some v := by
  rw [World.cell?_alloc_lt w o a (World.block_lt_of_cell? w a h)]; exact h
theorem frozen_alloc_lt (w : World) (a : Addr) (o : Obj) (h : a.block < w.heap.size) : (w.alloc o).frozen? a = w.frozen? a := World.frozen?_alloc_old _ _ _ (by omega)
theorem Blk.two {w : World} {g : Nat} {t : TypeId} {a b : Value} (h : Blk w g t #[a, b]) :
    w.cell? ⟨g, 0, none⟩ = some a ∧ w.cell? ⟨g, 1, none⟩ = some b ∧ w.frozen? ⟨g, 0, none⟩ = false ∧ w.frozen? ⟨g, 1, none⟩ = false :=
  ⟨by rw [h.cell 0]; rfl, by rw [h.cell 1]; rfl, h.frozen 0, h.frozen 1⟩
theorem ownsRow_form {w : World} {base : Nat} {e : TypeId} {size : Nat} {v : Value} {n : Nat} {xs : List Value} (h : w.ownsRow base e size v n xs) :
    ∃ A c, v = .slice A n c ∧ n ≤ c ∧ c ≤ maxLen := by
  obtain ⟨h1, h2⟩ := h
  rcases h2 with ⟨h2, h3⟩ | ⟨g, cap, cur, h2, _, _, hle, hcap, _⟩
  · subst h3
    exact ⟨none, 0, h2, Nat.le_refl _, Nat.zero_le _⟩
  · exact ⟨_, cap, h2, hle, hcap⟩
theorem ownsRow_base {w : World} {base base' : Nat} {e : TypeId} {size : Nat} {v : Value} {n : Nat} {xs : List Value} (h : w.ownsRow base e size v n xs) (hb : base' ≤ base) : w.ownsRow base' e size v n xs := by
  obtain ⟨h1, h2⟩ := h
  refine ⟨h1, ?_⟩
  rcases h2 with h2 | ⟨g, cap, cur, h2, h3, h4⟩
  · exact .inl h2
  · exact .inr ⟨g, cap, cur, h2, Nat.le_trans hb h3, h4⟩
/-- int64 range -/
def I64 (n : Int) : Prop := -9223372036854775808 ≤ n ∧ n ≤ 9223372036854775807

def aroundZ (n m : Int) : Int := (if n < 0 then -(n + 1) else n) % m
theorem aroundZ_nonneg (n m : Int) (h : 0 < m) : 0 ≤ aroundZ n m := by unfold aroundZ; exact Int.emod_nonneg _ (by omega)
theorem aroundZ_lt (n m : Int) (h : 0 < m) : aroundZ n m < m := by unfold aroundZ; exact Int.emod_lt_of_pos _ h
theorem ret_int {k : IntKind} {a b : Int} (h : a = b) : Ending.returned (.int k a) = .returned (.int k b) := by rw [h]

theorem info3 : (Try.prog.info? 3).map (fun i => (i.zero, i.size, i.bytes)) = some (some (.int .i64 0), 1, 8) := by kernel_rfl
theorem info5 : (Try.prog.info? 5).map (fun i => (i.zero, i.size, i.bytes)) = some (some (.int .u8 0), 1, 1) := by kernel_rfl
theorem info71 : (Try.prog.info? 71).map (fun i => (i.zero, i.size, i.bytes)) = some (some (.agg #[.int .i64 0, .int .i64 0, .int .i64 0]), 3, 24) := by kernel_rfl
theorem info30 : (Try.prog.info? 30).map (fun i => (i.zero, i.size, i.bytes)) = some (some (.agg #[.int .i64 0, .int .i64 0, .slice none 0 0, .slice none 0 0, .bool false, .int .i64 0]), 6, 80) := by kernel_rfl
theorem info25 : (Try.prog.info? 25).map (fun i => (i.zero, i.size, i.bytes)) = some (some (.agg #[.int .i64 0, .int .i64 0, .slice none 0 0, .slice none 0 0, .bool false, .int .i64 0]), 6, 80) := by kernel_rfl

/-- ints that an int slice holds -/
def I64s (xs : List Int) : Prop := ∀ x ∈ xs, I64 x
theorem I64s.at_ {xs : List Int} (h : I64s xs) {i : Nat} {x : Int} (hx : xs[i]? = some x) : I64 x := h x (List.mem_of_getElem? hx)
def atZ (l : List Int) (i : Nat) (m : Int) : Int := match l[i]? with | some x => aroundZ x m | none => 0
def ints (xs : List Int) : List Value := xs.map (.int .i64)
theorem ints_length (xs : List Int) : (ints xs).length = xs.length := by simp [ints]
theorem ints_at {xs : List Int} {i : Nat} {v : Value} (h : (ints xs)[i]? = some v) : ∃ x, v = .int .i64 x ∧ xs[i]? = some x := by
  simp only [ints, List.getElem?_map, Option.map_eq_some_iff] at h
  obtain ⟨x, h1, rfl⟩ := h
  exact ⟨x, rfl, h1⟩
theorem Reads.int_ {w : World} {B n k : Nat} {A : Option Addr} {xs : List Int} (h : Reads w B 1 A n (ints xs)) (hk : k < n) :
    ∃ ad x, A = some ad ∧ ad.block < B ∧ w.cell? (ad.add k) = some (.int .i64 x) ∧ Hid (xs[k]? = some x) := by
  obtain ⟨ad, v, h1, h2, h3, h4⟩ := h.at_ hk
  obtain ⟨x, rfl, h5⟩ := ints_at h3
  exact ⟨ad, x, h1, h2, h4, h5⟩
def byts (xs : List Int) : List Value := xs.map (.int .u8)
theorem byts_length (xs : List Int) : (byts xs).length = xs.length := by simp [byts]
theorem byts_at {xs : List Int} {i : Nat} {v : Value} (h : (byts xs)[i]? = some v) : ∃ x, v = .int .u8 x ∧ xs[i]? = some x := by
  simp only [byts, List.getElem?_map, Option.map_eq_some_iff] at h
  obtain ⟨x, h1, rfl⟩ := h
  exact ⟨x, rfl, h1⟩
theorem Reads.byte_ {w : World} {B n k : Nat} {A : Option Addr} {xs : List Int} (h : Reads w B 1 A n (byts xs)) (hk : k < n) :
    ∃ ad x, A = some ad ∧ ad.block < B ∧ w.cell? (ad.add k) = some (.int .u8 x) ∧ Hid (xs[k]? = some x) := by
  obtain ⟨ad, v, h1, h2, h3, h4⟩ := h.at_ hk
  obtain ⟨x, rfl, h5⟩ := byts_at h3
  exact ⟨ad, x, h1, h2, h4, h5⟩
/-- a byte -/
def U8 (n : Int) : Prop := 0 ≤ n ∧ n ≤ 255
def U8s (xs : List Int) : Prop := ∀ x ∈ xs, U8 x
theorem U8s.at_ {xs : List Int} (h : U8s xs) {i : Nat} {x : Int} (hx : xs[i]? = some x) : U8 x := h x (List.mem_of_getElem? hx)
theorem byts_oneCell (xs : List Int) : ∀ u ∈ byts xs, u.oneCell' = true := by intro u hu; simp only [byts, List.mem_map] at hu; obtain ⟨x, _, rfl⟩ := hu; rfl
theorem ints_oneCell' (xs : List Int) : ∀ u ∈ ints xs, u.oneCell' = true := by intro u hu; simp only [ints, List.mem_map] at hu; obtain ⟨x, _, rfl⟩ := hu; rfl
end Go.Proofs.Ytlekojbcaelpiaa

/- Contracts of small functions: numbers, words, comparisons. -/
namespace Go.Proofs.Ytlekojbcaelpiaa
open Go.RowKit

def withinB (n lo hi : Int) : Bool := decide (lo ≤ n ∧ n ≤ hi)
def wordB (n : Int) : Bool := decide (-8 ≤ n ∧ n ≤ 7)
def cmpZ (a b : Int) : Int := if a < b then -1 else if b < a then 1 else 0

theorem ret_bool {a b : Bool} (h : a = b) : Ending.returned (.bool a) = .returned (.bool b) := by rw [h]

set_option maxHeartbeats 400000 in
theorem within_any (n lo hi : Int) (w : World) :
    Calls Try.prog 38 #[.int .i64 n, .int .i64 lo, .int .i64 hi] w fun e w' => e = .returned (.bool (withinB n lo hi)) ∧ w = w' := by
  by_cases h1 : lo ≤ n
  · by_cases h2 : n ≤ hi
    · go_enter Try.func38, Try.ntmps38
      go_wp2
      go_ret
      exact ⟨ret_bool (by simp [withinB, h1, h2]), rfl⟩
    · go_enter Try.func38, Try.ntmps38
      go_wp2
      go_ret
      exact ⟨ret_bool (by rw [withinB, eq_comm, decide_eq_false_iff_not]; omega), rfl⟩
  · go_enter Try.func38, Try.ntmps38
    go_wp2
    go_ret
    exact ⟨ret_bool (by simp [withinB]; omega), rfl⟩

set_option maxHeartbeats 400000 in
theorem word_any (n : Int) (w : World) :
    Calls Try.prog 39 #[.int .i64 n] w fun e w' => e = .returned (.bool (wordB n)) ∧ w = w' := by
  go_enter Try.func39, Try.ntmps39
  go_wp2_with (go_at_call 38; refine (within_any _ _ _ _).mono ?_; rintro e w' ⟨rfl, rfl⟩)
  go_ret
  exact ⟨rfl, rfl⟩

set_option maxHeartbeats 400000 in
theorem refWord_any (n : Int) (w : World) :
    Calls Try.prog 42 #[.int .i64 n] w fun e w' => e = .returned (.bool (wordB n)) ∧ w = w' := by
  by_cases h1 : -8 ≤ n
  · go_enter Try.func42, Try.ntmps42
    go_wp2
    go_ret
    exact ⟨ret_bool (by simp [wordB, h1]), rfl⟩
  · go_enter Try.func42, Try.ntmps42
    go_wp2
    go_ret
    exact ⟨ret_bool (by simp [wordB]; omega), rfl⟩

set_option maxHeartbeats 400000 in
theorem isNaN_any (n : Int) (w : World) : Calls Try.prog 69 #[.int .i64 n] w fun e w' => e = .returned (.bool false) ∧ w = w' := by
  go_enter Try.func69, Try.ntmps69
  go_wp2
  go_ret
  exact ⟨rfl, rfl⟩

set_option maxHeartbeats 400000 in
theorem compare_any (a b : Int) (w : World) : Calls Try.prog 52 #[.int .i64 a, .int .i64 b] w fun e w' => e = .returned (.int .i64 (cmpZ a b)) ∧ w = w' := by
  by_cases h1 : a < b
  · go_enter Try.func52, Try.ntmps52
    go_wp2_with (go_at_call 69; refine (isNaN_any _ _).mono ?_; rintro e w' ⟨rfl, rfl⟩)
    go_ret
    exact ⟨ret_int (by simp [cmpZ, h1]), rfl⟩
  · by_cases h2 : b < a
    · go_enter Try.func52, Try.ntmps52
      go_wp2_with (go_at_call 69; refine (isNaN_any _ _).mono ?_; rintro e w' ⟨rfl, rfl⟩)
      go_ret
      exact ⟨ret_int (by unfold cmpZ; rw [if_neg (by omega), if_pos h2]), rfl⟩
    · go_enter Try.func52, Try.ntmps52
      go_wp2_with (go_at_call 69; refine (isNaN_any _ _).mono ?_; rintro e w' ⟨rfl, rfl⟩)
      go_ret
      exact ⟨ret_int (by unfold cmpZ; rw [if_neg (by omega), if_neg (by omega)]), rfl⟩
end Go.Proofs.Ytlekojbcaelpiaa

/- Contracts: all, SameInts, Same. -/
namespace Go.Proofs.Ytlekojbcaelpiaa
open Go.RowKit

theorem all_take_succ {α : Type} (p : α → Bool) (l : List α) (k : Nat) (x : α) (hx : l[k]? = some x) : (l.take (k + 1)).all p = ((l.take k).all p && p x) := by
  rw [List.take_add_one, hx]; simp
theorem all_false_of_take {α : Type} (p : α → Bool) (l : List α) (k : Nat) (x : α) (hx : l[k]? = some x) (h : p x = false) : l.all p = false := by
  rw [List.all_eq_false]; exact ⟨x, List.mem_of_getElem? hx, by simp [h]⟩

set_option maxHeartbeats 400000 in
theorem allWord_any (A : Option Addr) (c B : Nat) (l : List Int) (w : World) (hl : l.length ≤ 9223372036854775807) (hr : Reads w B 1 A l.length (ints l)) :
    Calls Try.prog 40 #[.slice A l.length c, .func (.func 39) #[] #[]] w fun e w' => e = .returned (.bool (l.all wordB)) ∧ w = w' := by
  go_enter Try.func40, Try.ntmps40
  go_wp2
  go_loop [9] (fun i => ∃ k : Nat, k ≤ l.length ∧ i = .int .i64 k ∧ (l.take k).all wordB = true) (fun i => l.length - (intOf i).toNat)
  case atStart => exact ⟨0, by omega, rfl, by simp⟩
  case round =>
    obtain ⟨k, hk, rfl, ha⟩ := hrel
    have HA := Lib.hid ha; clear ha
    by_cases hlt : k < l.length
    · obtain ⟨ad, x, rfl, hadB, hc, hx⟩ := hr.int_ hlt
      clear hr
      by_cases hxw : wordB x = true
      · have HW := Lib.hid hxw
        go_wp2_with (go_at_call 39; refine (word_any _ _).mono ?_; rintro e w' ⟨rfl, rfl⟩)
        go_round
        case rel => exact ⟨k + 1, by omega, by go_num, by rw [all_take_succ _ _ _ _ hx.out, HA.out, HW.out]; rfl⟩
        case measure => simp [intOf]; omega
      · have hxw' : wordB x = false := by simpa using hxw
        have HW := Lib.hid (all_false_of_take _ _ _ _ hx.out hxw')
        go_wp2_with (go_at_call 39; refine (word_any _ _).mono ?_; rintro e w' ⟨rfl, rfl⟩)
        go_ret
        exact ⟨ret_bool HW.out.symm, rfl⟩
    · have hk' : l.take k = l := List.take_of_length_le (by omega)
      rw [hk'] at HA
      clear hr hk'
      go_wp2
      go_ret
      exact ⟨ret_bool HA.out.symm, rfl⟩

theorem take_eq_succ {α : Type} {xs ys : List α} {k : Nat} {x y : α} (hx : xs[k]? = some x) (hy : ys[k]? = some y) (h : xs.take k = ys.take k) (e : x = y) : xs.take (k + 1) = ys.take (k + 1) := by
  rw [List.take_add_one, List.take_add_one, hx, hy, h, e]
theorem ne_of_at {α : Type} {xs ys : List α} {k : Nat} {x y : α} (hx : xs[k]? = some x) (hy : ys[k]? = some y) (e : x ≠ y) : xs ≠ ys := by
  rintro rfl; rw [hx] at hy; exact e (Option.some.inj hy)

/-- Two lists of numbers, compared one by one. -/
def eqI (xs ys : List Int) : Bool := decide (xs = ys)

set_option maxHeartbeats 400000 in
theorem sameInts_any (A1 A2 : Option Addr) (c1 c2 B1 B2 : Nat) (xs ys : List Int) (w : World) (hlx : xs.length ≤ 9223372036854775807) (hly : ys.length ≤ 9223372036854775807)
    (hr1 : Reads w B1 1 A1 xs.length (ints xs)) (hr2 : Reads w B2 1 A2 ys.length (ints ys)) :
    Calls Try.prog 30 #[.slice A1 xs.length c1, .slice A2 ys.length c2] w fun e w' => e = .returned (.bool (eqI xs ys)) ∧ ∃ n, w' = w.drewN n := by
  by_cases hl : xs.length = ys.length
  · have HL := Lib.hid hl
    rw [← hl] at hr2 ⊢
    clear hl
    go_enter Try.func30, Try.ntmps30
    go_wp2
    go_loopw [5] (fun i wr => ∃ k : Nat, k ≤ xs.length ∧ i = .int .i64 k ∧ xs.take k = ys.take k ∧ ∃ n, wr = w.drewN n) (fun i _ => xs.length - (intOf i).toNat)
    case atStart => exact ⟨0, by omega, rfl, rfl, 0, rfl⟩
    case round =>
      obtain ⟨k, hk, rfl, hik, n, rfl⟩ := hrel
      have H := Lib.hid hik; clear hik
      by_cases hlt : k < xs.length
      · obtain ⟨a1, x, rfl, _, hc1, hx⟩ := hr1.int_ hlt
        obtain ⟨a2, y, rfl, _, hc2, hy⟩ := hr2.int_ hlt
        clear hr1 hr2
        by_cases hxy : x = y
        · have hb : (x != y) = false := by simpa using hxy
          have HXY := Lib.hid hxy; clear hxy
          go_wp2
          go_quiet (fail)
          go_wp2
          go_roundw
          case rel => exact ⟨k + 1, by omega, by go_num, take_eq_succ hx.out hy.out H.out HXY.out, n + nq, rfl⟩
          case measure => simp [intOf]; omega
        · have hb : (x != y) = true := by simpa using hxy
          have HXY := Lib.hid (ne_of_at hx.out hy.out hxy); clear hxy
          go_wp2
          go_quiet (fail)
          go_wp2
          go_ret
          exact ⟨ret_bool (by simp [eqI, HXY.out]), n + nq, World.drewN_drewN _ _ _⟩
      · have he : xs = ys := by
          have := H.out
          rwa [List.take_of_length_le (by omega), List.take_of_length_le (by have := HL.out; omega)] at this
        have HE := Lib.hid he
        clear hr1 hr2 he
        go_wp2
        go_ret
        exact ⟨ret_bool (by simp [eqI, HE.out]), _, rfl⟩
  · have hne : xs ≠ ys := fun h => hl (by rw [h])
    have HN := Lib.hid hne
    have hb : ((xs.length : Int) != ys.length) = true := by rw [bne_iff_ne]; omega
    clear hr1 hr2 hne
    go_enter Try.func30, Try.ntmps30
    go_wp2
    go_ret
    exact ⟨ret_bool (by simp [eqI, HN.out]), 0, rfl⟩

set_option maxHeartbeats 400000 in
theorem sameBytes_any (A1 A2 : Option Addr) (c1 c2 B1 B2 : Nat) (xs ys : List Int) (w : World) (hlx : xs.length ≤ 9223372036854775807) (hly : ys.length ≤ 9223372036854775807)
    (hr1 : Reads w B1 1 A1 xs.length (byts xs)) (hr2 : Reads w B2 1 A2 ys.length (byts ys)) :
    Calls Try.prog 13 #[.slice A1 xs.length c1, .slice A2 ys.length c2] w fun e w' => e = .returned (.bool (eqI xs ys)) ∧ ∃ n, w' = w.drewN n := by
  by_cases hl : xs.length = ys.length
  · have HL := Lib.hid hl
    rw [← hl] at hr2 ⊢
    clear hl
    go_enter Try.func13, Try.ntmps13
    go_wp2
    go_loopw [5] (fun i wr => ∃ k : Nat, k ≤ xs.length ∧ i = .int .i64 k ∧ xs.take k = ys.take k ∧ ∃ n, wr = w.drewN n) (fun i _ => xs.length - (intOf i).toNat)
    case atStart => exact ⟨0, by omega, rfl, rfl, 0, rfl⟩
    case round =>
      obtain ⟨k, hk, rfl, hik, n, rfl⟩ := hrel
      have H := Lib.hid hik; clear hik
      by_cases hlt : k < xs.length
      · obtain ⟨a1, x, rfl, _, hc1, hx⟩ := hr1.byte_ hlt
        obtain ⟨a2, y, rfl, _, hc2, hy⟩ := hr2.byte_ hlt
        clear hr1 hr2
        by_cases hxy : x = y
        · have hb : (x != y) = false := by simpa using hxy
          have HXY := Lib.hid hxy; clear hxy
          go_wp2
          go_quiet (fail)
          go_wp2
          go_roundw
          case rel => exact ⟨k + 1, by omega, by go_num, take_eq_succ hx.out hy.out H.out HXY.out, n + nq, rfl⟩
          case measure => simp [intOf]; omega
        · have hb : (x != y) = true := by simpa using hxy
          have HXY := Lib.hid (ne_of_at hx.out hy.out hxy); clear hxy
          go_wp2
          go_quiet (fail)
          go_wp2
          go_ret
          exact ⟨ret_bool (by simp [eqI, HXY.out]), n + nq, World.drewN_drewN _ _ _⟩
      · have he : xs = ys := by
          have := H.out
          rwa [List.take_of_length_le (by omega), List.take_of_length_le (by have := HL.out; omega)] at this
        have HE := Lib.hid he
        clear hr1 hr2 he
        go_wp2
        go_ret
        exact ⟨ret_bool (by simp [eqI, HE.out]), _, rfl⟩
  · have hne : xs ≠ ys := fun h => hl (by rw [h])
    have HN := Lib.hid hne
    have hb : ((xs.length : Int) != ys.length) = true := by rw [bne_iff_ne]; omega
    clear hr1 hr2 hne
    go_enter Try.func13, Try.ntmps13
    go_wp2
    go_ret
    exact ⟨ret_bool (by simp [eqI, HN.out]), 0, rfl⟩
end Go.Proofs.Ytlekojbcaelpiaa

/- Events, reports: as plain data, and how they lie in memory. -/
namespace Go.Proofs.Ytlekojbcaelpiaa
open Go.RowKit

structure Ev where
  p : Int
  k : Int
  n : Int
  deriving DecidableEq
def Ev.cells (e : Ev) : List Value := [.int .i64 e.p, .int .i64 e.k, .int .i64 e.n]
def evs (l : List Ev) : List Value := l.flatMap Ev.cells
theorem evs_length (l : List Ev) : (evs l).length = l.length * 3 := by
  induction l with
  | nil => rfl
  | cons a l ih => simp [evs, Ev.cells] at *; omega
theorem evs_snoc (l : List Ev) (p k n : Int) : evs l ++ [.int .i64 p, .int .i64 k, .int .i64 n] = evs (l ++ [⟨p, k, n⟩]) := by simp [evs, Ev.cells]


theorem evs_at {l : List Ev} {k : Nat} {x : Ev} (hx : l[k]? = some x) :
    (evs l)[k * 3]? = some (.int .i64 x.p) ∧ (evs l)[k * 3 + 1]? = some (.int .i64 x.k) ∧ (evs l)[k * 3 + 2]? = some (.int .i64 x.n) := by
  induction l generalizing k with
  | nil => simp at hx
  | cons a l ih =>
    cases k with
    | zero =>
      obtain rfl : a = x := by simpa using hx
      simp [evs, Ev.cells]
    | succ k =>
      have h := ih (k := k) (by simpa using hx)
      have e : evs (a :: l) = a.cells ++ evs l := by simp [evs]
      have hl : a.cells.length = 3 := rfl
      refine ⟨?_, ?_, ?_⟩
      · rw [e, List.getElem?_append_right (by omega), show (k + 1) * 3 - a.cells.length = k * 3 from by omega]; exact h.1
      · rw [e, List.getElem?_append_right (by omega), show (k + 1) * 3 + 1 - a.cells.length = k * 3 + 1 from by omega]; exact h.2.1
      · rw [e, List.getElem?_append_right (by omega), show (k + 1) * 3 + 2 - a.cells.length = k * 3 + 2 from by omega]; exact h.2.2
theorem evs_oneCell (l : List Ev) : ∀ u ∈ evs l, u.oneCell' = true := by
  intro u hu
  simp only [evs, List.mem_flatMap] at hu
  obtain ⟨x, _, hu⟩ := hu
  simp [Ev.cells] at hu
  rcases hu with rfl | rfl | rfl <;> rfl
theorem add_pos (a : Addr) (i j : Nat) (hj : 0 < j) : a.add (i + j) = ⟨(a.add i).block, (a.add i).off + j, none⟩ := by
  rw [← add_of_add]; unfold Addr.add; rw [if_neg (by omega)]
theorem Reads.at3 {w : World} {B n k : Nat} {A : Option Addr} {l : List Ev} (h : Reads w B 3 A n (evs l)) (hk : k < l.length) :
    ∃ ad x, A = some ad ∧ ad.block < B ∧ w.cell? (ad.add (k * 3)) = some (.int .i64 x.p) ∧ w.cell? ⟨(ad.add (k * 3)).block, (ad.add (k * 3)).off + 1, none⟩ = some (.int .i64 x.k) ∧
      w.cell? ⟨(ad.add (k * 3)).block, (ad.add (k * 3)).off + 2, none⟩ = some (.int .i64 x.n) ∧ Hid (l[k]? = some x) := by
  have hx : l[k]? = some l[k] := List.getElem?_eq_getElem hk
  have hn : n = l.length := by have := h.1; rw [evs_length] at this; omega
  obtain ⟨ad, e, hb, hc⟩ := h.2 (by omega)
  obtain ⟨h1, h2, h3⟩ := evs_at hx
  refine ⟨ad, l[k], e, hb, hc _ _ h1, ?_, ?_, hx⟩
  · rw [← add_pos _ _ _ (by omega)]; exact hc _ _ h2
  · rw [← add_pos _ _ _ (by omega)]; exact hc _ _ h3
end Go.Proofs.Ytlekojbcaelpiaa

namespace Go.Proofs.Ytlekojbcaelpiaa
open Go.RowKit
def evB (x : Ev) : Bool := withinB x.p 0 3 && withinB x.k 0 2 && wordB x.n

set_option maxHeartbeats 400000 in
theorem validEv_any (x : Ev) (w : World) :
    Calls Try.prog 37 #[.agg #[.int .i64 x.p, .int .i64 x.k, .int .i64 x.n]] w fun e w' => e = .returned (.bool (evB x)) ∧ Below w.heap.size w w' := by
  have hb0 := Lib.hid ((Below.refl w.heap.size w).alloc (Nat.le_refl _) (.cells #[.int .i64 x.p, .int .i64 x.k, .int .i64 x.n] 71))
  have hev := Lib.hid (show evB x = (withinB x.p 0 3 && withinB x.k 0 2 && wordB x.n) from rfl)
  by_cases g1 : withinB x.p 0 3 = true
  · by_cases g2 : withinB x.k 0 2 = true
    · go_enter Try.func37, Try.ntmps37
      go_wp2_with (first | (go_at_call 38; refine (within_any _ _ _ _).mono ?_; rintro e w' ⟨rfl, rfl⟩) | (go_at_call 39; refine (word_any _ _).mono ?_; rintro e w' ⟨rfl, rfl⟩))
      go_ret
      exact ⟨ret_bool (by rw [hev.out, g1, g2]; rfl), hb0.out⟩
    · have g2' : withinB x.k 0 2 = false := by simpa using g2
      clear g2
      go_enter Try.func37, Try.ntmps37
      go_wp2_with (first | (go_at_call 38; refine (within_any _ _ _ _).mono ?_; rintro e w' ⟨rfl, rfl⟩) | (go_at_call 39; refine (word_any _ _).mono ?_; rintro e w' ⟨rfl, rfl⟩))
      go_ret
      exact ⟨ret_bool (by rw [hev.out, g1, g2']; rfl), hb0.out⟩
  · have g1' : withinB x.p 0 3 = false := by simpa using g1
    clear g1
    go_enter Try.func37, Try.ntmps37
    go_wp2_with (first | (go_at_call 38; refine (within_any _ _ _ _).mono ?_; rintro e w' ⟨rfl, rfl⟩) | (go_at_call 39; refine (word_any _ _).mono ?_; rintro e w' ⟨rfl, rfl⟩))
    go_ret
    exact ⟨ret_bool (by rw [hev.out, g1']; rfl), hb0.out⟩

set_option maxHeartbeats 1000000 in
theorem allEv_any (A : Option Addr) (c B : Nat) (l : List Ev) (w : World) (hB : B ≤ w.heap.size) (hl : l.length ≤ 1000000) (hr : Reads w B 3 A l.length (evs l)) :
    Calls Try.prog 41 #[.slice A l.length c, .func (.func 37) #[] #[]] w fun e w' => e = .returned (.bool (l.all evB)) ∧ Below w.heap.size w w' := by
  go_enter Try.func41, Try.ntmps41
  go_wp2
  go_loopw [9] (fun i wr => ∃ k : Nat, k ≤ l.length ∧ i = .int .i64 k ∧ (l.take k).all evB = true ∧ Below w.heap.size w wr) (fun i _ => l.length - (intOf i).toNat)
  case atStart => exact ⟨0, by omega, rfl, by simp, Below.refl _ _⟩
  case round =>
    obtain ⟨k, hk, rfl, ha, hbel⟩ := hrel
    have HA := Lib.hid ha; clear ha
    by_cases hlt : k < l.length
    · obtain ⟨ad, x, rfl, hadB, hc0, hc1, hc2, hx⟩ := (hr.below (hbel.mono hB)).at3 hlt
      clear hr
      have hsz := hbel.size
      have HB := Lib.hid hbel; clear hbel
      by_cases hxw : evB x = true
      · have HW := Lib.hid hxw
        go_wp2_with fail
        refine (validEv_any x _).mono ?_
        rintro e w1 ⟨rfl, hb1⟩
        have HB1 := Lib.hid (HB.out.trans ((((Below.refl wr.heap.size wr).alloc (Nat.le_refl _) _).trans (hb1.mono (by simp))).mono hsz))
        clear hb1
        go_wp2
        go_roundw
        case rel => exact ⟨k + 1, by omega, by go_num, by rw [all_take_succ _ _ _ _ hx.out, HA.out, HW.out]; rfl, HB1.out⟩
        case measure => simp [intOf]; omega
      · have hxw' : evB x = false := by simpa using hxw
        have HW := Lib.hid (all_false_of_take _ _ _ _ hx.out hxw')
        go_wp2_with fail
        refine (validEv_any x _).mono ?_
        rintro e w1 ⟨rfl, hb1⟩
        have HB1 := Lib.hid (HB.out.trans ((((Below.refl wr.heap.size wr).alloc (Nat.le_refl _) _).trans (hb1.mono (by simp))).mono hsz))
        clear hb1
        go_wp2
        go_ret
        exact ⟨ret_bool HW.out.symm, HB1.out⟩
    · have hk' : l.take k = l := List.take_of_length_le (by omega)
      rw [hk'] at HA
      have HB := Lib.hid hbel
      clear hr hk' hbel
      go_wp2
      go_ret
      exact ⟨ret_bool HA.out.symm, HB.out⟩
end Go.Proofs.Ytlekojbcaelpiaa

/- report.Valid. -/
namespace Go.Proofs.Ytlekojbcaelpiaa
open Go.RowKit

/-- A report, as plain data. -/
structure Rp where
  id : Int
  ver : Int
  args : List Int
  events : List Ev
  cut : Bool
  en : Int
  deriving DecidableEq
def argsB (l : List Int) : Bool := l.all wordB
def evsB (l : List Ev) : Bool := l.all evB
def cutB (c : Bool) (e : Int) : Bool := !c || e == 0
def validB (r : Rp) : Bool := withinB r.id 1 1048576 && withinB r.ver 0 31 && decide (r.args.length ≤ 3) && argsB r.args && decide (r.events.length ≤ 256) && evsB r.events && withinB r.en 0 2 && cutB r.cut r.en
theorem validB_eq (r : Rp) : validB r = (withinB r.id 1 1048576 && withinB r.ver 0 31 && decide (r.args.length ≤ 3) && argsB r.args && decide (r.events.length ≤ 256) && evsB r.events && withinB r.en 0 2 && cutB r.cut r.en) := rfl

set_option maxRecDepth 100000 in
set_option maxHeartbeats 2000000 in
theorem valid_f1 (id ver en : Int) (cut : Bool) (args : List Int) (events : List Ev) (A E : Option Addr) (ca ce B : Nat) (w : World) (hB : B ≤ w.heap.size) (hla : args.length ≤ 1000000) (hle : events.length ≤ 1000000)
    (hr1 : Reads w B 1 A args.length (ints args)) (hr2 : Reads w B 3 E events.length (evs events)) (hen : I64 en)
    (g1 : withinB id 1 1048576 = false)
    : Calls Try.prog 10 #[.agg #[.int .i64 id, .int .i64 ver, .slice A args.length ca, .slice E events.length ce, .bool cut, .int .i64 en]] w fun e w' => e = .returned (.bool false) ∧ Below w.heap.size w w' := by
  have hra := hr1.alloc hB (.cells #[.int .i64 id, .int .i64 ver, .slice A args.length ca, .slice E events.length ce, .bool cut, .int .i64 en] 30)
  have hre := hr2.alloc hB (.cells #[.int .i64 id, .int .i64 ver, .slice A args.length ca, .slice E events.length ce, .bool cut, .int .i64 en] 30)
  have hb0 := Lib.hid ((Below.refl w.heap.size w).alloc (Nat.le_refl _) (.cells #[.int .i64 id, .int .i64 ver, .slice A args.length ca, .slice E events.length ce, .bool cut, .int .i64 en] 30))
  clear hr1 hr2
  go_enter Try.func10, Try.ntmps10
  go_wp2_with (first | (go_at_call 38; refine (within_any _ _ _ _).mono ?_; rintro e w' ⟨rfl, rfl⟩) | (go_at_call 40; refine (allWord_any _ _ _ _ _ (by omega) hra).mono ?_; rintro e w' ⟨rfl, rfl⟩))
  go_ret
  exact ⟨rfl, hb0.out⟩

set_option maxRecDepth 100000 in
set_option maxHeartbeats 2000000 in
theorem valid_f2 (id ver en : Int) (cut : Bool) (args : List Int) (events : List Ev) (A E : Option Addr) (ca ce B : Nat) (w : World) (hB : B ≤ w.heap.size) (hla : args.length ≤ 1000000) (hle : events.length ≤ 1000000)
    (hr1 : Reads w B 1 A args.length (ints args)) (hr2 : Reads w B 3 E events.length (evs events)) (hen : I64 en)
    (g1 : withinB id 1 1048576 = true)
    (g2 : withinB ver 0 31 = false)
    : Calls Try.prog 10 #[.agg #[.int .i64 id, .int .i64 ver, .slice A args.length ca, .slice E events.length ce, .bool cut, .int .i64 en]] w fun e w' => e = .returned (.bool false) ∧ Below w.heap.size w w' := by
  have hra := hr1.alloc hB (.cells #[.int .i64 id, .int .i64 ver, .slice A args.length ca, .slice E events.length ce, .bool cut, .int .i64 en] 30)
  have hre := hr2.alloc hB (.cells #[.int .i64 id, .int .i64 ver, .slice A args.length ca, .slice E events.length ce, .bool cut, .int .i64 en] 30)
  have hb0 := Lib.hid ((Below.refl w.heap.size w).alloc (Nat.le_refl _) (.cells #[.int .i64 id, .int .i64 ver, .slice A args.length ca, .slice E events.length ce, .bool cut, .int .i64 en] 30))
  clear hr1 hr2
  go_enter Try.func10, Try.ntmps10
  go_wp2_with (first | (go_at_call 38; refine (within_any _ _ _ _).mono ?_; rintro e w' ⟨rfl, rfl⟩) | (go_at_call 40; refine (allWord_any _ _ _ _ _ (by omega) hra).mono ?_; rintro e w' ⟨rfl, rfl⟩))
  go_ret
  exact ⟨rfl, hb0.out⟩

set_option maxRecDepth 100000 in
set_option maxHeartbeats 2000000 in
theorem valid_f3 (id ver en : Int) (cut : Bool) (args : List Int) (events : List Ev) (A E : Option Addr) (ca ce B : Nat) (w : World) (hB : B ≤ w.heap.size) (hla : args.length ≤ 1000000) (hle : events.length ≤ 1000000)
    (hr1 : Reads w B 1 A args.length (ints args)) (hr2 : Reads w B 3 E events.length (evs events)) (hen : I64 en)
    (g1 : withinB id 1 1048576 = true)
    (g2 : withinB ver 0 31 = true)
    (g3 : ¬ args.length ≤ 3)
    : Calls Try.prog 10 #[.agg #[.int .i64 id, .int .i64 ver, .slice A args.length ca, .slice E events.length ce, .bool cut, .int .i64 en]] w fun e w' => e = .returned (.bool false) ∧ Below w.heap.size w w' := by
  have hra := hr1.alloc hB (.cells #[.int .i64 id, .int .i64 ver, .slice A args.length ca, .slice E events.length ce, .bool cut, .int .i64 en] 30)
  have hre := hr2.alloc hB (.cells #[.int .i64 id, .int .i64 ver, .slice A args.length ca, .slice E events.length ce, .bool cut, .int .i64 en] 30)
  have hb0 := Lib.hid ((Below.refl w.heap.size w).alloc (Nat.le_refl _) (.cells #[.int .i64 id, .int .i64 ver, .slice A args.length ca, .slice E events.length ce, .bool cut, .int .i64 en] 30))
  clear hr1 hr2
  go_enter Try.func10, Try.ntmps10
  go_wp2_with (first | (go_at_call 38; refine (within_any _ _ _ _).mono ?_; rintro e w' ⟨rfl, rfl⟩) | (go_at_call 40; refine (allWord_any _ _ _ _ _ (by omega) hra).mono ?_; rintro e w' ⟨rfl, rfl⟩))
  go_ret
  exact ⟨rfl, hb0.out⟩

set_option maxRecDepth 100000 in
set_option maxHeartbeats 2000000 in
theorem valid_f4 (id ver en : Int) (cut : Bool) (args : List Int) (events : List Ev) (A E : Option Addr) (ca ce B : Nat) (w : World) (hB : B ≤ w.heap.size) (hla : args.length ≤ 1000000) (hle : events.length ≤ 1000000)
    (hr1 : Reads w B 1 A args.length (ints args)) (hr2 : Reads w B 3 E events.length (evs events)) (hen : I64 en)
    (g1 : withinB id 1 1048576 = true)
    (g2 : withinB ver 0 31 = true)
    (g3 : args.length ≤ 3)
    (g4 : args.all wordB = false)
    : Calls Try.prog 10 #[.agg #[.int .i64 id, .int .i64 ver, .slice A args.length ca, .slice E events.length ce, .bool cut, .int .i64 en]] w fun e w' => e = .returned (.bool false) ∧ Below w.heap.size w w' := by
  have hra := hr1.alloc hB (.cells #[.int .i64 id, .int .i64 ver, .slice A args.length ca, .slice E events.length ce, .bool cut, .int .i64 en] 30)
  have hre := hr2.alloc hB (.cells #[.int .i64 id, .int .i64 ver, .slice A args.length ca, .slice E events.length ce, .bool cut, .int .i64 en] 30)
  have hb0 := Lib.hid ((Below.refl w.heap.size w).alloc (Nat.le_refl _) (.cells #[.int .i64 id, .int .i64 ver, .slice A args.length ca, .slice E events.length ce, .bool cut, .int .i64 en] 30))
  clear hr1 hr2
  go_enter Try.func10, Try.ntmps10
  go_wp2_with (first | (go_at_call 38; refine (within_any _ _ _ _).mono ?_; rintro e w' ⟨rfl, rfl⟩) | (go_at_call 40; refine (allWord_any _ _ _ _ _ (by omega) hra).mono ?_; rintro e w' ⟨rfl, rfl⟩))
  go_ret
  exact ⟨rfl, hb0.out⟩

set_option maxRecDepth 100000 in
set_option maxHeartbeats 2000000 in
theorem valid_f5 (id ver en : Int) (cut : Bool) (args : List Int) (events : List Ev) (A E : Option Addr) (ca ce B : Nat) (w : World) (hB : B ≤ w.heap.size) (hla : args.length ≤ 1000000) (hle : events.length ≤ 1000000)
    (hr1 : Reads w B 1 A args.length (ints args)) (hr2 : Reads w B 3 E events.length (evs events)) (hen : I64 en)
    (g1 : withinB id 1 1048576 = true)
    (g2 : withinB ver 0 31 = true)
    (g3 : args.length ≤ 3)
    (g4 : args.all wordB = true)
    (g5 : ¬ events.length ≤ 256)
    : Calls Try.prog 10 #[.agg #[.int .i64 id, .int .i64 ver, .slice A args.length ca, .slice E events.length ce, .bool cut, .int .i64 en]] w fun e w' => e = .returned (.bool false) ∧ Below w.heap.size w w' := by
  have hra := hr1.alloc hB (.cells #[.int .i64 id, .int .i64 ver, .slice A args.length ca, .slice E events.length ce, .bool cut, .int .i64 en] 30)
  have hre := hr2.alloc hB (.cells #[.int .i64 id, .int .i64 ver, .slice A args.length ca, .slice E events.length ce, .bool cut, .int .i64 en] 30)
  have hb0 := Lib.hid ((Below.refl w.heap.size w).alloc (Nat.le_refl _) (.cells #[.int .i64 id, .int .i64 ver, .slice A args.length ca, .slice E events.length ce, .bool cut, .int .i64 en] 30))
  clear hr1 hr2
  go_enter Try.func10, Try.ntmps10
  go_wp2_with (first | (go_at_call 38; refine (within_any _ _ _ _).mono ?_; rintro e w' ⟨rfl, rfl⟩) | (go_at_call 40; refine (allWord_any _ _ _ _ _ (by omega) hra).mono ?_; rintro e w' ⟨rfl, rfl⟩))
  go_ret
  exact ⟨rfl, hb0.out⟩

set_option maxRecDepth 100000 in
set_option maxHeartbeats 2000000 in
theorem valid_f6 (id ver en : Int) (cut : Bool) (args : List Int) (events : List Ev) (A E : Option Addr) (ca ce B : Nat) (w : World) (hB : B ≤ w.heap.size) (hla : args.length ≤ 1000000) (hle : events.length ≤ 1000000)
    (hr1 : Reads w B 1 A args.length (ints args)) (hr2 : Reads w B 3 E events.length (evs events)) (hen : I64 en)
    (g1 : withinB id 1 1048576 = true)
    (g2 : withinB ver 0 31 = true)
    (g3 : args.length ≤ 3)
    (g4 : args.all wordB = true)
    (g5 : events.length ≤ 256)
    (g6 : events.all evB = false)
    : Calls Try.prog 10 #[.agg #[.int .i64 id, .int .i64 ver, .slice A args.length ca, .slice E events.length ce, .bool cut, .int .i64 en]] w fun e w' => e = .returned (.bool false) ∧ Below w.heap.size w w' := by
  have hra := hr1.alloc hB (.cells #[.int .i64 id, .int .i64 ver, .slice A args.length ca, .slice E events.length ce, .bool cut, .int .i64 en] 30)
  have hre := hr2.alloc hB (.cells #[.int .i64 id, .int .i64 ver, .slice A args.length ca, .slice E events.length ce, .bool cut, .int .i64 en] 30)
  have hb0 := Lib.hid ((Below.refl w.heap.size w).alloc (Nat.le_refl _) (.cells #[.int .i64 id, .int .i64 ver, .slice A args.length ca, .slice E events.length ce, .bool cut, .int .i64 en] 30))
  clear hr1 hr2
  go_enter Try.func10, Try.ntmps10
  go_wp2_with (first | (go_at_call 38; refine (within_any _ _ _ _).mono ?_; rintro e w' ⟨rfl, rfl⟩) | (go_at_call 40; refine (allWord_any _ _ _ _ _ (by omega) hra).mono ?_; rintro e w' ⟨rfl, rfl⟩))
  refine (allEv_any _ _ _ _ _ (by simp; omega) (by omega) hre).mono ?_
  rintro e w1 ⟨rfl, hb1⟩
  have HB1 := Lib.hid (hb0.out.trans (hb1.mono (by simp)))
  obtain ⟨c4, c5⟩ : w1.cell? ⟨w.heap.size, 4, none⟩ = some (.bool cut) ∧ w1.cell? ⟨w.heap.size, 5, none⟩ = some (.int .i64 en) := by
    constructor
    · rw [hb1.cell (by simp)]; rw [World.cell?_alloc_new]; rfl
    · rw [hb1.cell (by simp)]; rw [World.cell?_alloc_new]; rfl
  clear hb1 hre hra
  go_wp2_with (first | (go_at_call 38; refine (within_any _ _ _ _).mono ?_; rintro e w' ⟨rfl, rfl⟩))
  go_ret
  exact ⟨rfl, HB1.out⟩

set_option maxRecDepth 100000 in
set_option maxHeartbeats 2000000 in
theorem valid_f7 (id ver en : Int) (cut : Bool) (args : List Int) (events : List Ev) (A E : Option Addr) (ca ce B : Nat) (w : World) (hB : B ≤ w.heap.size) (hla : args.length ≤ 1000000) (hle : events.length ≤ 1000000)
    (hr1 : Reads w B 1 A args.length (ints args)) (hr2 : Reads w B 3 E events.length (evs events)) (hen : I64 en)
    (g1 : withinB id 1 1048576 = true)
    (g2 : withinB ver 0 31 = true)
    (g3 : args.length ≤ 3)
    (g4 : args.all wordB = true)
    (g5 : events.length ≤ 256)
    (g6 : events.all evB = true)
    (g7 : withinB en 0 2 = false)
    : Calls Try.prog 10 #[.agg #[.int .i64 id, .int .i64 ver, .slice A args.length ca, .slice E events.length ce, .bool cut, .int .i64 en]] w fun e w' => e = .returned (.bool false) ∧ Below w.heap.size w w' := by
  have hra := hr1.alloc hB (.cells #[.int .i64 id, .int .i64 ver, .slice A args.length ca, .slice E events.length ce, .bool cut, .int .i64 en] 30)
  have hre := hr2.alloc hB (.cells #[.int .i64 id, .int .i64 ver, .slice A args.length ca, .slice E events.length ce, .bool cut, .int .i64 en] 30)
  have hb0 := Lib.hid ((Below.refl w.heap.size w).alloc (Nat.le_refl _) (.cells #[.int .i64 id, .int .i64 ver, .slice A args.length ca, .slice E events.length ce, .bool cut, .int .i64 en] 30))
  clear hr1 hr2
  go_enter Try.func10, Try.ntmps10
  go_wp2_with (first | (go_at_call 38; refine (within_any _ _ _ _).mono ?_; rintro e w' ⟨rfl, rfl⟩) | (go_at_call 40; refine (allWord_any _ _ _ _ _ (by omega) hra).mono ?_; rintro e w' ⟨rfl, rfl⟩))
  refine (allEv_any _ _ _ _ _ (by simp; omega) (by omega) hre).mono ?_
  rintro e w1 ⟨rfl, hb1⟩
  have HB1 := Lib.hid (hb0.out.trans (hb1.mono (by simp)))
  obtain ⟨c4, c5⟩ : w1.cell? ⟨w.heap.size, 4, none⟩ = some (.bool cut) ∧ w1.cell? ⟨w.heap.size, 5, none⟩ = some (.int .i64 en) := by
    constructor
    · rw [hb1.cell (by simp)]; rw [World.cell?_alloc_new]; rfl
    · rw [hb1.cell (by simp)]; rw [World.cell?_alloc_new]; rfl
  clear hb1 hre hra
  go_wp2_with (first | (go_at_call 38; refine (within_any _ _ _ _).mono ?_; rintro e w' ⟨rfl, rfl⟩))
  go_ret
  exact ⟨rfl, HB1.out⟩

set_option maxRecDepth 100000 in
set_option maxHeartbeats 2000000 in
theorem valid_c0 (id ver en : Int) (cut : Bool) (args : List Int) (events : List Ev) (A E : Option Addr) (ca ce B : Nat) (w : World) (hB : B ≤ w.heap.size) (hla : args.length ≤ 1000000) (hle : events.length ≤ 1000000)
    (hr1 : Reads w B 1 A args.length (ints args)) (hr2 : Reads w B 3 E events.length (evs events)) (hen : I64 en)
    (g1 : withinB id 1 1048576 = true)
    (g2 : withinB ver 0 31 = true)
    (g3 : args.length ≤ 3)
    (g4 : args.all wordB = true)
    (g5 : events.length ≤ 256)
    (g6 : events.all evB = true)
    (g7 : withinB en 0 2 = true)
    (g8 : cut = false)
    : Calls Try.prog 10 #[.agg #[.int .i64 id, .int .i64 ver, .slice A args.length ca, .slice E events.length ce, .bool cut, .int .i64 en]] w fun e w' => e = .returned (.bool true) ∧ Below w.heap.size w w' := by
  subst g8
  have hra := hr1.alloc hB (.cells #[.int .i64 id, .int .i64 ver, .slice A args.length ca, .slice E events.length ce, .bool false, .int .i64 en] 30)
  have hre := hr2.alloc hB (.cells #[.int .i64 id, .int .i64 ver, .slice A args.length ca, .slice E events.length ce, .bool false, .int .i64 en] 30)
  have hb0 := Lib.hid ((Below.refl w.heap.size w).alloc (Nat.le_refl _) (.cells #[.int .i64 id, .int .i64 ver, .slice A args.length ca, .slice E events.length ce, .bool false, .int .i64 en] 30))
  clear hr1 hr2
  go_enter Try.func10, Try.ntmps10
  go_wp2_with (first | (go_at_call 38; refine (within_any _ _ _ _).mono ?_; rintro e w' ⟨rfl, rfl⟩) | (go_at_call 40; refine (allWord_any _ _ _ _ _ (by omega) hra).mono ?_; rintro e w' ⟨rfl, rfl⟩))
  refine (allEv_any _ _ _ _ _ (by simp; omega) (by omega) hre).mono ?_
  rintro e w1 ⟨rfl, hb1⟩
  have HB1 := Lib.hid (hb0.out.trans (hb1.mono (by simp)))
  obtain ⟨c4, c5⟩ : w1.cell? ⟨w.heap.size, 4, none⟩ = some (.bool false) ∧ w1.cell? ⟨w.heap.size, 5, none⟩ = some (.int .i64 en) := by
    constructor
    · rw [hb1.cell (by simp)]; rw [World.cell?_alloc_new]; rfl
    · rw [hb1.cell (by simp)]; rw [World.cell?_alloc_new]; rfl
  clear hb1 hre hra
  go_wp2_with (first | (go_at_call 38; refine (within_any _ _ _ _).mono ?_; rintro e w' ⟨rfl, rfl⟩))
  go_ret
  exact ⟨rfl, HB1.out⟩

set_option maxRecDepth 100000 in
set_option maxHeartbeats 2000000 in
theorem valid_c1 (id ver en : Int) (cut : Bool) (args : List Int) (events : List Ev) (A E : Option Addr) (ca ce B : Nat) (w : World) (hB : B ≤ w.heap.size) (hla : args.length ≤ 1000000) (hle : events.length ≤ 1000000)
    (hr1 : Reads w B 1 A args.length (ints args)) (hr2 : Reads w B 3 E events.length (evs events)) (hen : I64 en)
    (g1 : withinB id 1 1048576 = true)
    (g2 : withinB ver 0 31 = true)
    (g3 : args.length ≤ 3)
    (g4 : args.all wordB = true)
    (g5 : events.length ≤ 256)
    (g6 : events.all evB = true)
    (g7 : withinB en 0 2 = true)
    (g8 : cut = true ∧ (en == 0) = true)
    : Calls Try.prog 10 #[.agg #[.int .i64 id, .int .i64 ver, .slice A args.length ca, .slice E events.length ce, .bool cut, .int .i64 en]] w fun e w' => e = .returned (.bool true) ∧ Below w.heap.size w w' := by
  obtain ⟨g8, g9⟩ := g8
  subst g8
  have hra := hr1.alloc hB (.cells #[.int .i64 id, .int .i64 ver, .slice A args.length ca, .slice E events.length ce, .bool true, .int .i64 en] 30)
  have hre := hr2.alloc hB (.cells #[.int .i64 id, .int .i64 ver, .slice A args.length ca, .slice E events.length ce, .bool true, .int .i64 en] 30)
  have hb0 := Lib.hid ((Below.refl w.heap.size w).alloc (Nat.le_refl _) (.cells #[.int .i64 id, .int .i64 ver, .slice A args.length ca, .slice E events.length ce, .bool true, .int .i64 en] 30))
  clear hr1 hr2
  go_enter Try.func10, Try.ntmps10
  go_wp2_with (first | (go_at_call 38; refine (within_any _ _ _ _).mono ?_; rintro e w' ⟨rfl, rfl⟩) | (go_at_call 40; refine (allWord_any _ _ _ _ _ (by omega) hra).mono ?_; rintro e w' ⟨rfl, rfl⟩))
  refine (allEv_any _ _ _ _ _ (by simp; omega) (by omega) hre).mono ?_
  rintro e w1 ⟨rfl, hb1⟩
  have HB1 := Lib.hid (hb0.out.trans (hb1.mono (by simp)))
  obtain ⟨c4, c5⟩ : w1.cell? ⟨w.heap.size, 4, none⟩ = some (.bool true) ∧ w1.cell? ⟨w.heap.size, 5, none⟩ = some (.int .i64 en) := by
    constructor
    · rw [hb1.cell (by simp)]; rw [World.cell?_alloc_new]; rfl
    · rw [hb1.cell (by simp)]; rw [World.cell?_alloc_new]; rfl
  clear hb1 hre hra
  go_wp2_with (first | (go_at_call 38; refine (within_any _ _ _ _).mono ?_; rintro e w' ⟨rfl, rfl⟩))
  go_ret
  exact ⟨rfl, HB1.out⟩

set_option maxRecDepth 100000 in
set_option maxHeartbeats 2000000 in
theorem valid_c2 (id ver en : Int) (cut : Bool) (args : List Int) (events : List Ev) (A E : Option Addr) (ca ce B : Nat) (w : World) (hB : B ≤ w.heap.size) (hla : args.length ≤ 1000000) (hle : events.length ≤ 1000000)
    (hr1 : Reads w B 1 A args.length (ints args)) (hr2 : Reads w B 3 E events.length (evs events)) (hen : I64 en)
    (g1 : withinB id 1 1048576 = true)
    (g2 : withinB ver 0 31 = true)
    (g3 : args.length ≤ 3)
    (g4 : args.all wordB = true)
    (g5 : events.length ≤ 256)
    (g6 : events.all evB = true)
    (g7 : withinB en 0 2 = true)
    (g8 : cut = true ∧ (en == 0) = false)
    : Calls Try.prog 10 #[.agg #[.int .i64 id, .int .i64 ver, .slice A args.length ca, .slice E events.length ce, .bool cut, .int .i64 en]] w fun e w' => e = .returned (.bool false) ∧ Below w.heap.size w w' := by
  obtain ⟨g8, g9⟩ := g8
  subst g8
  have hra := hr1.alloc hB (.cells #[.int .i64 id, .int .i64 ver, .slice A args.length ca, .slice E events.length ce, .bool true, .int .i64 en] 30)
  have hre := hr2.alloc hB (.cells #[.int .i64 id, .int .i64 ver, .slice A args.length ca, .slice E events.length ce, .bool true, .int .i64 en] 30)
  have hb0 := Lib.hid ((Below.refl w.heap.size w).alloc (Nat.le_refl _) (.cells #[.int .i64 id, .int .i64 ver, .slice A args.length ca, .slice E events.length ce, .bool true, .int .i64 en] 30))
  clear hr1 hr2
  go_enter Try.func10, Try.ntmps10
  go_wp2_with (first | (go_at_call 38; refine (within_any _ _ _ _).mono ?_; rintro e w' ⟨rfl, rfl⟩) | (go_at_call 40; refine (allWord_any _ _ _ _ _ (by omega) hra).mono ?_; rintro e w' ⟨rfl, rfl⟩))
  refine (allEv_any _ _ _ _ _ (by simp; omega) (by omega) hre).mono ?_
  rintro e w1 ⟨rfl, hb1⟩
  have HB1 := Lib.hid (hb0.out.trans (hb1.mono (by simp)))
  obtain ⟨c4, c5⟩ : w1.cell? ⟨w.heap.size, 4, none⟩ = some (.bool true) ∧ w1.cell? ⟨w.heap.size, 5, none⟩ = some (.int .i64 en) := by
    constructor
    · rw [hb1.cell (by simp)]; rw [World.cell?_alloc_new]; rfl
    · rw [hb1.cell (by simp)]; rw [World.cell?_alloc_new]; rfl
  clear hb1 hre hra
  go_wp2_with (first | (go_at_call 38; refine (within_any _ _ _ _).mono ?_; rintro e w' ⟨rfl, rfl⟩))
  go_ret
  exact ⟨rfl, HB1.out⟩

theorem valid_any (r : Rp) (A E : Option Addr) (ca ce B : Nat) (w : World) (hB : B ≤ w.heap.size) (hla : r.args.length ≤ 1000000) (hle : r.events.length ≤ 1000000)
    (hr1 : Reads w B 1 A r.args.length (ints r.args)) (hr2 : Reads w B 3 E r.events.length (evs r.events)) (hen : I64 r.en) :
    Calls Try.prog 10 #[.agg #[.int .i64 r.id, .int .i64 r.ver, .slice A r.args.length ca, .slice E r.events.length ce, .bool r.cut, .int .i64 r.en]] w fun e w' => e = .returned (.bool (validB r)) ∧ Below w.heap.size w w' := by
  rw [validB_eq]
  obtain ⟨id, ver, args, events, cut, en⟩ := r
  simp only at *
  have nb : ∀ {b : Bool}, ¬ b = true → b = false := fun h => by simpa using h
  by_cases g1 : withinB id 1 1048576 = true
  case neg =>
    have e : (withinB id 1 1048576 && withinB ver 0 31 && decide (args.length ≤ 3) && argsB args && decide (events.length ≤ 256) && evsB events && withinB en 0 2 && cutB cut en) = false := by
      have g' := (nb g1)
      simp [argsB, evsB, g']
    rw [e]
    exact valid_f1 id ver en cut args events A E ca ce B w hB hla hle hr1 hr2 hen  (nb g1)
  by_cases g2 : withinB ver 0 31 = true
  case neg =>
    have e : (withinB id 1 1048576 && withinB ver 0 31 && decide (args.length ≤ 3) && argsB args && decide (events.length ≤ 256) && evsB events && withinB en 0 2 && cutB cut en) = false := by
      have g' := (nb g2)
      simp [argsB, evsB, g1, g']
    rw [e]
    exact valid_f2 id ver en cut args events A E ca ce B w hB hla hle hr1 hr2 hen g1 (nb g2)
  by_cases g3 : args.length ≤ 3
  case neg =>
    have e : (withinB id 1 1048576 && withinB ver 0 31 && decide (args.length ≤ 3) && argsB args && decide (events.length ≤ 256) && evsB events && withinB en 0 2 && cutB cut en) = false := by
      have g' := g3
      simp [argsB, evsB, g1, g2, g']
    rw [e]
    exact valid_f3 id ver en cut args events A E ca ce B w hB hla hle hr1 hr2 hen g1 g2 g3
  by_cases g4 : args.all wordB = true
  case neg =>
    have e : (withinB id 1 1048576 && withinB ver 0 31 && decide (args.length ≤ 3) && argsB args && decide (events.length ≤ 256) && evsB events && withinB en 0 2 && cutB cut en) = false := by
      have g' := (nb g4)
      simp [argsB, evsB, g1, g2, g3, g']
    rw [e]
    exact valid_f4 id ver en cut args events A E ca ce B w hB hla hle hr1 hr2 hen g1 g2 g3 (nb g4)
  by_cases g5 : events.length ≤ 256
  case neg =>
    have e : (withinB id 1 1048576 && withinB ver 0 31 && decide (args.length ≤ 3) && argsB args && decide (events.length ≤ 256) && evsB events && withinB en 0 2 && cutB cut en) = false := by
      have g' := g5
      simp [argsB, evsB, g1, g2, g3, g4, g']
    rw [e]
    exact valid_f5 id ver en cut args events A E ca ce B w hB hla hle hr1 hr2 hen g1 g2 g3 g4 g5
  by_cases g6 : events.all evB = true
  case neg =>
    have e : (withinB id 1 1048576 && withinB ver 0 31 && decide (args.length ≤ 3) && argsB args && decide (events.length ≤ 256) && evsB events && withinB en 0 2 && cutB cut en) = false := by
      have g' := (nb g6)
      simp [argsB, evsB, g1, g2, g3, g4, g5, g']
    rw [e]
    exact valid_f6 id ver en cut args events A E ca ce B w hB hla hle hr1 hr2 hen g1 g2 g3 g4 g5 (nb g6)
  by_cases g7 : withinB en 0 2 = true
  case neg =>
    have e : (withinB id 1 1048576 && withinB ver 0 31 && decide (args.length ≤ 3) && argsB args && decide (events.length ≤ 256) && evsB events && withinB en 0 2 && cutB cut en) = false := by
      have g' := (nb g7)
      simp [argsB, evsB, g1, g2, g3, g4, g5, g6, g']
    rw [e]
    exact valid_f7 id ver en cut args events A E ca ce B w hB hla hle hr1 hr2 hen g1 g2 g3 g4 g5 g6 (nb g7)
  have e : (withinB id 1 1048576 && withinB ver 0 31 && decide (args.length ≤ 3) && argsB args && decide (events.length ≤ 256) && evsB events && withinB en 0 2 && cutB cut en) = cutB cut en := by
    have h4 : argsB args = true := g4
    have h6 : evsB events = true := g6
    rw [g1, g2, h4, h6, g7, decide_eq_true g3, decide_eq_true g5]; rfl
  rw [e]
  cases cut with
  | false => exact valid_c0 id ver en false args events A E ca ce B w hB hla hle hr1 hr2 hen g1 g2 g3 g4 g5 g6 g7 rfl
  | true =>
    by_cases g9 : (en == 0) = true
    · have e2 : cutB true en = true := by unfold cutB; rw [g9]; rfl
      rw [e2]
      exact valid_c1 id ver en true args events A E ca ce B w hB hla hle hr1 hr2 hen g1 g2 g3 g4 g5 g6 g7 ⟨rfl, g9⟩
    · have e2 : cutB true en = false := by unfold cutB; rw [nb g9]; rfl
      rw [e2]
      exact valid_c2 id ver en true args events A E ca ce B w hB hla hle hr1 hr2 hen g1 g2 g3 g4 g5 g6 g7 ⟨rfl, nb g9⟩
end Go.Proofs.Ytlekojbcaelpiaa

/- scoriaref38.Valid. -/
namespace Go.Proofs.Ytlekojbcaelpiaa
open Go.RowKit

theorem vfalse (r : Rp) (h : (r.id < 1 ∨ 1048576 < r.id ∨ r.ver < 0 ∨ 31 < r.ver ∨ 3 < r.args.length ∨ 256 < r.events.length ∨ r.en < 0 ∨ 2 < r.en) ∨ (r.cut = true ∧ ¬ r.en = 0) ∨ r.args.all wordB = false ∨ r.events.all evB = false) : validB r = false := by
  rw [validB_eq]
  rcases h with h | ⟨h1, h2⟩ | h | h
  · have : (withinB r.id 1 1048576 && withinB r.ver 0 31 && decide (r.args.length ≤ 3) && decide (r.events.length ≤ 256) && withinB r.en 0 2) = false := by
      rw [Bool.eq_false_iff]
      intro hh
      simp only [withinB, Bool.and_eq_true, decide_eq_true_eq] at hh
      omega
    cases hw1 : withinB r.id 1 1048576 <;> cases hw2 : withinB r.ver 0 31 <;> cases hw3 : decide (r.args.length ≤ 3) <;> cases hw4 : decide (r.events.length ≤ 256) <;> cases hw5 : withinB r.en 0 2 <;> simp_all
  · have : cutB r.cut r.en = false := by unfold cutB; simp [h1, h2]
    rw [this]; simp
  · have : argsB r.args = false := h
    rw [this]; simp
  · have : evsB r.events = false := h
    rw [this]; simp
theorem vtrue (r : Rp) (h : 1 ≤ r.id ∧ r.id ≤ 1048576 ∧ 0 ≤ r.ver ∧ r.ver ≤ 31 ∧ r.args.length ≤ 3 ∧ r.events.length ≤ 256 ∧ 0 ≤ r.en ∧ r.en ≤ 2) (hc : r.cut = false ∨ r.en = 0) (ha : r.args.all wordB = true) (he : r.events.all evB = true) : validB r = true := by
  rw [validB_eq]
  have h1 : argsB r.args = true := ha
  have h2 : evsB r.events = true := he
  have h3 : cutB r.cut r.en = true := by unfold cutB; rcases hc with h | h <;> simp [h]
  obtain ⟨a1, a2, a3, a4, a5, a6, a7, a8⟩ := h
  simp [withinB, h1, h2, h3, a1, a2, a3, a4, a5, a6, a7, a8]
theorem evB_false (x : Ev) (h : (x.p < 0 ∨ 3 < x.p ∨ x.k < 0 ∨ 2 < x.k) ∨ wordB x.n = false) : evB x = false := by
  rcases h with h | h
  · have : (withinB x.p 0 3 && withinB x.k 0 2) = false := by
      rw [Bool.eq_false_iff]; intro hh; simp only [withinB, Bool.and_eq_true, decide_eq_true_eq] at hh; omega
    unfold evB; rw [this]; rfl
  · unfold evB; rw [h]; simp
theorem evB_true (x : Ev) (h : 0 ≤ x.p ∧ x.p ≤ 3 ∧ 0 ≤ x.k ∧ x.k ≤ 2) (hw : wordB x.n = true) : evB x = true := by
  obtain ⟨a, b, c, d⟩ := h
  simp [evB, withinB, hw, a, b, c, d]

/-- the cells of a report's box -/
def RpBox (w wr : World) (va ve : Value) (r : Rp) : Prop :=
  Blk wr w.heap.size 25 #[.int .i64 r.id, .int .i64 r.ver, va, ve, .bool r.cut, .int .i64 r.en] ∧ Below w.heap.size w wr
theorem Blk.six {w : World} {g : Nat} {t : TypeId} {a b c d e f : Value} (h : Blk w g t #[a, b, c, d, e, f]) :
    w.cell? ⟨g, 0, none⟩ = some a ∧ w.cell? ⟨g, 1, none⟩ = some b ∧ w.cell? ⟨g, 2, none⟩ = some c ∧ w.cell? ⟨g, 3, none⟩ = some d ∧ w.cell? ⟨g, 4, none⟩ = some e ∧ w.cell? ⟨g, 5, none⟩ = some f :=
  ⟨by rw [h.cell 0]; rfl, by rw [h.cell 1]; rfl, by rw [h.cell 2]; rfl, by rw [h.cell 3]; rfl, by rw [h.cell 4]; rfl, by rw [h.cell 5]; rfl⟩

set_option maxRecDepth 100000 in
set_option maxHeartbeats 2000000 in
theorem refValid_any (r : Rp) (A E : Option Addr) (ca ce B : Nat) (w : World) (hB : B ≤ w.heap.size) (hla : r.args.length ≤ 1000000) (hle : r.events.length ≤ 1000000)
    (hr1 : Reads w B 1 A r.args.length (ints r.args)) (hr2 : Reads w B 3 E r.events.length (evs r.events)) (hen : I64 r.en) :
    Calls Try.prog 12 #[.agg #[.int .i64 r.id, .int .i64 r.ver, .slice A r.args.length ca, .slice E r.events.length ce, .bool r.cut, .int .i64 r.en]] w fun e w' => e = .returned (.bool (validB r)) ∧ Below w.heap.size w w' := by
  by_cases hc : r.cut = true
  · have HC := Lib.hid hc
    rw [hc]
    clear hc
    have hb0 := Lib.hid ((Below.refl w.heap.size w).alloc (Nat.le_refl _) (.cells #[.int .i64 r.id, .int .i64 r.ver, .slice A r.args.length ca, .slice E r.events.length ce, .bool true, .int .i64 r.en] 25))
    by_cases hz : r.en = 0
    · have HZ := Lib.hid hz
      have hz1 : (r.en != 0) = false := by simp [hz]
      clear hz
      go_enter Try.func12, Try.ntmps12
      go_wp2
      all_goals first
        | (go_ret; exact ⟨ret_bool (vfalse _ (.inl (by omega))).symm, hb0.out⟩)
        | skip
      go_loop [3] (fun i => ∃ k : Nat, k ≤ r.args.length ∧ i = .int .i64 k ∧ (r.args.take k).all wordB = true) (fun i => r.args.length - (intOf i).toNat)
      case atStart => exact ⟨0, by omega, rfl, by simp⟩
      case round =>
        obtain ⟨k, hk, rfl, ha⟩ := hrel
        have HA := Lib.hid ha; clear ha
        by_cases hlt : k < r.args.length
        · obtain ⟨ad, x, hAe, hadB, hcell, hx⟩ := (hr1.alloc hB (.cells #[.int .i64 r.id, .int .i64 r.ver, .slice A r.args.length ca, .slice E r.events.length ce, .bool true, .int .i64 r.en] 25)).int_ hlt
          subst hAe
          clear hr1 hr2
          by_cases hxw : wordB x = true
          · have HW := Lib.hid hxw
            go_wp2_with (go_at_call 42; refine (refWord_any _ _).mono ?_; rintro e w' ⟨rfl, rfl⟩)
            go_round
            case rel => exact ⟨k + 1, by omega, by go_num, by rw [all_take_succ _ _ _ _ hx.out, HA.out, HW.out]; rfl⟩
            case measure => simp [intOf]; omega
          · have hxw' : wordB x = false := by simpa using hxw
            have HW := Lib.hid (all_false_of_take _ _ _ _ hx.out hxw')
            go_wp2_with (go_at_call 42; refine (refWord_any _ _).mono ?_; rintro e w' ⟨rfl, rfl⟩)
            go_ret
            exact ⟨ret_bool (vfalse _ (.inr (.inr (.inl HW.out)))).symm, hb0.out⟩
        · have hk' : r.args.take k = r.args := List.take_of_length_le (by omega)
          rw [hk'] at HA
          have HBX := Lib.hid (show RpBox w (w.alloc (.cells #[.int .i64 r.id, .int .i64 r.ver, .slice A r.args.length ca, .slice E r.events.length ce, .bool true, .int .i64 r.en] 25)) (.slice A r.args.length ca) (.slice E r.events.length ce) r from by rw [RpBox, HC.out]; exact ⟨Blk.new w _ _, hb0.out⟩)
          clear hk'
          go_wp2
          go_loopw [4] (fun i wr => ∃ k : Nat, k ≤ r.events.length ∧ i = .int .i64 k ∧ (r.events.take k).all evB = true ∧ RpBox w wr (.slice A r.args.length ca) (.slice E r.events.length ce) r) (fun i _ => r.events.length - (intOf i).toNat)
          case atStart => exact ⟨0, by omega, rfl, by simp, HBX.out⟩
          case round =>
            obtain ⟨k, hk, rfl, ha, hbx⟩ := hrel
            have HE := Lib.hid ha; clear ha
            obtain ⟨c0, c1, c2, c3, c4, c5⟩ := hbx.1.six
            have hsz := hbx.1.lt
            by_cases hlt2 : k < r.events.length
            · obtain ⟨ad, x, hEe, hadB, d0, d1, d2, hx⟩ := (hr2.below (hbx.2.mono hB)).at3 hlt2
              subst hEe
              have HX2 := Lib.hid hbx
              have HB2 := Lib.hid (hbx.2.alloc hbx.2.size (.cells #[.int .i64 x.p, .int .i64 x.k, .int .i64 x.n] 71))
              have HBN := Lib.hid (show RpBox w (wr.alloc (.cells #[.int .i64 x.p, .int .i64 x.k, .int .i64 x.n] 71)) (.slice A r.args.length ca) (.slice (some ad) r.events.length ce) r from ⟨hbx.1.alloc _, hbx.2.alloc hbx.2.size _⟩)
              clear hr1 hr2 hbx
              by_cases hwd : wordB x.n = true
              · go_wp2_with (go_at_call 42; refine (refWord_any _ _).mono ?_; rintro e w' ⟨rfl, rfl⟩)
                all_goals first
                  | (go_ret; exact ⟨ret_bool (vfalse _ (.inr (.inr (.inr (all_false_of_take _ _ _ _ hx.out (evB_false x (.inl (by omega)))))))).symm, HB2.out⟩)
                  | (go_roundw
                     case rel => exact ⟨k + 1, by omega, by go_num, by rw [all_take_succ _ _ _ _ hx.out, HE.out, evB_true x (by omega) hwd]; rfl, HBN.out⟩
                     case measure => simp [intOf]; omega)
              · have hwd' : wordB x.n = false := by simpa using hwd
                clear hwd
                go_wp2_with (go_at_call 42; refine (refWord_any _ _).mono ?_; rintro e w' ⟨rfl, rfl⟩)
                all_goals (go_ret; exact ⟨ret_bool (vfalse _ (.inr (.inr (.inr (all_false_of_take _ _ _ _ hx.out (evB_false x (.inr hwd'))))))).symm, HB2.out⟩)
            · have hk2 : r.events.take k = r.events := List.take_of_length_le (by omega)
              rw [hk2] at HE
              have HT := Lib.hid (vtrue r (by omega) (.inr HZ.out) HA.out HE.out)
              have HB2 := Lib.hid hbx.2
              clear hk2 hr1 hr2 hbx
              go_wp2
              go_ret
              exact ⟨ret_bool HT.out.symm, HB2.out⟩
    · have HZ := Lib.hid hz
      have hz1 : (r.en != 0) = true := by simpa using hz
      clear hz
      go_enter Try.func12, Try.ntmps12
      go_wp2
      all_goals first
        | (go_ret; exact ⟨ret_bool (vfalse _ (.inl (by omega))).symm, hb0.out⟩)
        | (go_ret; exact ⟨ret_bool (vfalse _ (.inr (.inl ⟨HC.out, HZ.out⟩))).symm, hb0.out⟩)
        | skip
  · have hcf : r.cut = false := by simpa using hc
    have HC := Lib.hid hcf
    rw [hcf]
    clear hc hcf
    have hb0 := Lib.hid ((Below.refl w.heap.size w).alloc (Nat.le_refl _) (.cells #[.int .i64 r.id, .int .i64 r.ver, .slice A r.args.length ca, .slice E r.events.length ce, .bool false, .int .i64 r.en] 25))
    go_enter Try.func12, Try.ntmps12
    go_wp2
    all_goals first
      | (go_ret; exact ⟨ret_bool (vfalse _ (.inl (by omega))).symm, hb0.out⟩)
      | skip
    go_loop [3] (fun i => ∃ k : Nat, k ≤ r.args.length ∧ i = .int .i64 k ∧ (r.args.take k).all wordB = true) (fun i => r.args.length - (intOf i).toNat)
    case atStart => exact ⟨0, by omega, rfl, by simp⟩
    case round =>
      obtain ⟨k, hk, rfl, ha⟩ := hrel
      have HA := Lib.hid ha; clear ha
      by_cases hlt : k < r.args.length
      · obtain ⟨ad, x, hAe, hadB, hcell, hx⟩ := (hr1.alloc hB (.cells #[.int .i64 r.id, .int .i64 r.ver, .slice A r.args.length ca, .slice E r.events.length ce, .bool false, .int .i64 r.en] 25)).int_ hlt
        subst hAe
        clear hr1 hr2
        by_cases hxw : wordB x = true
        · have HW := Lib.hid hxw
          go_wp2_with (go_at_call 42; refine (refWord_any _ _).mono ?_; rintro e w' ⟨rfl, rfl⟩)
          go_round
          case rel => exact ⟨k + 1, by omega, by go_num, by rw [all_take_succ _ _ _ _ hx.out, HA.out, HW.out]; rfl⟩
          case measure => simp [intOf]; omega
        · have hxw' : wordB x = false := by simpa using hxw
          have HW := Lib.hid (all_false_of_take _ _ _ _ hx.out hxw')
          go_wp2_with (go_at_call 42; refine (refWord_any _ _).mono ?_; rintro e w' ⟨rfl, rfl⟩)
          go_ret
          exact ⟨ret_bool (vfalse _ (.inr (.inr (.inl HW.out)))).symm, hb0.out⟩
      · have hk' : r.args.take k = r.args := List.take_of_length_le (by omega)
        rw [hk'] at HA
        have HBX := Lib.hid (show RpBox w (w.alloc (.cells #[.int .i64 r.id, .int .i64 r.ver, .slice A r.args.length ca, .slice E r.events.length ce, .bool false, .int .i64 r.en] 25)) (.slice A r.args.length ca) (.slice E r.events.length ce) r from by rw [RpBox, HC.out]; exact ⟨Blk.new w _ _, hb0.out⟩)
        clear hk'
        go_wp2
        go_loopw [4] (fun i wr => ∃ k : Nat, k ≤ r.events.length ∧ i = .int .i64 k ∧ (r.events.take k).all evB = true ∧ RpBox w wr (.slice A r.args.length ca) (.slice E r.events.length ce) r) (fun i _ => r.events.length - (intOf i).toNat)
        case atStart => exact ⟨0, by omega, rfl, by simp, HBX.out⟩
        case round =>
          obtain ⟨k, hk, rfl, ha, hbx⟩ := hrel
          have HE := Lib.hid ha; clear ha
          obtain ⟨c0, c1, c2, c3, c4, c5⟩ := hbx.1.six
          have hsz := hbx.1.lt
          by_cases hlt2 : k < r.events.length
          · obtain ⟨ad, x, hEe, hadB, d0, d1, d2, hx⟩ := (hr2.below (hbx.2.mono hB)).at3 hlt2
            subst hEe
            have HX2 := Lib.hid hbx
            have HB2 := Lib.hid (hbx.2.alloc hbx.2.size (.cells #[.int .i64 x.p, .int .i64 x.k, .int .i64 x.n] 71))
            have HBN := Lib.hid (show RpBox w (wr.alloc (.cells #[.int .i64 x.p, .int .i64 x.k, .int .i64 x.n] 71)) (.slice A r.args.length ca) (.slice (some ad) r.events.length ce) r from ⟨hbx.1.alloc _, hbx.2.alloc hbx.2.size _⟩)
            clear hr1 hr2 hbx
            by_cases hwd : wordB x.n = true
            · go_wp2_with (go_at_call 42; refine (refWord_any _ _).mono ?_; rintro e w' ⟨rfl, rfl⟩)
              all_goals first
                | (go_ret; exact ⟨ret_bool (vfalse _ (.inr (.inr (.inr (all_false_of_take _ _ _ _ hx.out (evB_false x (.inl (by omega)))))))).symm, HB2.out⟩)
                | (go_roundw
                   case rel => exact ⟨k + 1, by omega, by go_num, by rw [all_take_succ _ _ _ _ hx.out, HE.out, evB_true x (by omega) hwd]; rfl, HBN.out⟩
                   case measure => simp [intOf]; omega)
            · have hwd' : wordB x.n = false := by simpa using hwd
              clear hwd
              go_wp2_with (go_at_call 42; refine (refWord_any _ _).mono ?_; rintro e w' ⟨rfl, rfl⟩)
              all_goals (go_ret; exact ⟨ret_bool (vfalse _ (.inr (.inr (.inr (all_false_of_take _ _ _ _ hx.out (evB_false x (.inr hwd'))))))).symm, HB2.out⟩)
          · have hk2 : r.events.take k = r.events := List.take_of_length_le (by omega)
            rw [hk2] at HE
            have HT := Lib.hid (vtrue r (by omega) (.inl HC.out) HA.out HE.out)
            have HB2 := Lib.hid hbx.2
            clear hk2 hr1 hr2 hbx
            go_wp2
            go_ret
            exact ⟨ret_bool HT.out.symm, HB2.out⟩
end Go.Proofs.Ytlekojbcaelpiaa

/- A region that draws its order, walked by a plan: what yields one value in every world of a class may be taken first; what changes the world is carried out in the plan's order.
   Conditions: the plan passes a check that the kernel computes; behind an operation that does not wait for every load, the class is shown anew. -/
namespace Go.Proofs.Ytlekojbcaelpiaa
open Go

section
variable {P : Program} {ops : Array Oper} {Q : Exit → Act → World → Prop} {md : Region.Mode} {S : World → Prop} {lds : List Nat}

/-- What is asked of one operation that leaves the world alone: its value v, in the very world. -/
def yieldsUpon (P : Program) (w : World) (v : Value) : Result Next → Prop
  | .ok (.value u) w' => w' = w ∧ u = v
  | .ok .skip w' => w' = w ∧ v = undef
  | .ok (.enter f args) w' => w' = w ∧ Calls P f args w (fun e w'' => e = .returned v ∧ w = w'')
  | _ => False

def QY (P : Program) (ops : Array Oper) (G : World → Prop) (o : Oper) (v : Value) (a : Act) : Prop :=
  (Region.wanted o (yielded ops a.tmps) = true ∧ ∀ w, G w → yieldsUpon P w v ((execOp a.eval o).run P w)) ∨
  (Region.wanted o (yielded ops a.tmps) = false ∧ v = undef)

theorem QY.wpOp {G : World → Prop} {i : Nat} {o : Oper} {v : Value} {a : Act} (hi : ops[i]? = some o) (hy : QY P ops G o v a)
    {K : Act → World → Prop} {w : World} (hG : G w) (h : K (a.put o.dst v) w) : wpOp P ops Q i K a w := by
  unfold Go.wpOp
  simp only [hi]
  rcases hy with ⟨hw, hv⟩ | ⟨hw, rfl⟩
  · simp only [hw, if_true]
    refine .inl ?_
    have h1 := hv w hG
    unfold Oper.wp
    generalize (execOp a.eval o).run P w = r at *
    cases r with
    | ok n w' =>
      cases n <;> simp only [yieldsUpon] at h1 <;> simp only [Oper.upon]
      case value u => obtain ⟨e1, e2⟩ := h1; rw [e1, e2]; exact h
      case skip => obtain ⟨e1, e2⟩ := h1; rw [e1, ← e2]; exact h
      case enter f args =>
        obtain ⟨e1, hc⟩ := h1
        rw [e1]
        exact hc.mono fun e w'' ⟨he, hw''⟩ => by subst he; subst hw''; exact h
    | halt x w' => simp only [yieldsUpon] at h1
  · simp only [hw, Bool.false_eq_true, if_false]; exact h

theorem QY.of_same {G : World → Prop} {o : Oper} {v : Value} {a a' : Act} (hy : QY P ops G o v a) (he : execOp a'.eval o = execOp a.eval o)
    (hw : Region.wanted o (yielded ops a'.tmps) = Region.wanted o (yielded ops a.tmps)) : QY P ops G o v a' := by
  unfold QY at *
  rw [he, hw]
  exact hy

theorem wpOp_putY {G : World → Prop} {j : Nat} {oi oj : Oper} {v : Value} (hj : ops[j]? = some oj) (hap : oi.apart ops oj = true)
    (hsi : ∀ cs b, oi.op ≠ .select cs b) (hsj : ∀ cs b, oj.op ≠ .select cs b)
    (hQ : ∀ c a w, Q (.panic c) (a.put oi.dst v) w → Q (.panic c) a w) {K : Act → World → Prop} {a : Act} {w : World}
    (hy : QY P ops G oi v a) (h : wpOp P ops Q j K (a.put oi.dst v) w) :
    wpOp P ops Q j (fun a' w' => QY P ops G oi v a' ∧ K (a'.put oi.dst v) w') a w := by
  obtain ⟨h1, h2, h3⟩ := Oper.apart_spec hap
  have keep : ∀ (a : Act), QY P ops G oi v a → ∀ u, QY P ops G oi v (a.put oj.dst u) := fun a hy u =>
    hy.of_same (execOp_put oi hsi a oj.dst u h3) (wanted_put oi a oj.dst u h3)
  have keepD : ∀ d, QY P ops G oi v { a with defers := d :: a.defers } := fun d => hy.of_same rfl rfl
  unfold wpOp at *
  simp only [hj] at *
  rw [wanted_put oj a oi.dst v h1] at h
  split
  · rename_i hw
    simp only [hw, if_true] at h
    rcases h with h | ⟨hasks, hlets⟩
    case inr => exact .inr ⟨by unfold Oper.asks at *; rw [execOp_put oj hsj a oi.dst v h1] at hasks; exact hasks, hlets⟩
    refine .inl ?_
    unfold Oper.wp at *
    rw [execOp_put oj hsj a oi.dst v h1] at h
    generalize (execOp a.eval oj).run P w = r at *
    cases r with
    | ok n w' =>
      cases n <;> simp only [Oper.upon] at h ⊢
      case value u => exact ⟨keep a hy u, by rw [← Act.put_comm a v u h2]; exact h⟩
      case skip => exact ⟨keep a hy _, by rw [← Act.put_comm a v undef h2]; exact h⟩
      case defer d =>
        refine ⟨keep _ (keepD d) _, ?_⟩
        rw [← Act.put_comm _ v undef h2, ← Act.put_defers]
        exact h
      case enter f args =>
        refine Calls.mono h fun e w'' he => ?_
        cases e with
        | returned u => exact ⟨keep a hy u, by rw [← Act.put_comm a v u h2]; exact he⟩
        | panicked c => exact hQ _ _ _ he
        | outgrown => exact he
      case row row args => exact Rows.mono h fun u w'' he => ⟨keep a hy u, by rw [← Act.put_comm a v u h2]; exact he⟩
    | halt x w' =>
      cases x <;> simp only [Oper.upon] at h ⊢
      case panic u => exact hQ _ _ _ h
  · rename_i hw
    simp only [hw] at h
    exact ⟨keep a hy _, by rw [← Act.put_comm a v undef h2]; exact h⟩

/-- What has come up is closed: with each operation all that it waits for. -/
def ClosedL (md : Region.Mode) (ops : Array Oper) (listed : Array Bool) : Prop :=
  ∀ j oj, ops[j]? = some oj → listed.getD j false = true → ∀ e ∈ oj.after, Region.binds md e = true → listed.getD e.on false = true

theorem ClosedL.set {i : Nat} {listed : Array Bool} (inv : ClosedL md ops listed) (hi : i ∈ Region.ready md ops listed) : ClosedL md ops (listed.setIfInBounds i true) := by
  obtain ⟨_, oi, hoi, hall⟩ := mem_ready.1 hi
  intro j oj hj hl e he hb
  by_cases hij : i = j
  · subst hij
    have : oj = oi := Option.some.inj (hj.symm.trans hoi)
    subst this
    exact getD_set_true (hall e he hb)
  · rw [getD_set_ne false hij] at hl
    exact getD_set_true (inv j oj hj hl e he hb)

theorem ClosedL.start (n : Nat) : ClosedL md ops (Array.replicate n false) := by
  intro j oj _ hl
  exfalso
  rcases Nat.lt_or_ge j n with h | h
  · simp [h] at hl
  · simp [h] at hl

/-- Does operation j wait for l, through others too? -/
def waits (md : Region.Mode) (ops : Array Oper) : Nat → Nat → Nat → Bool
  | 0, _, _ => false
  | n + 1, j, l => match ops[j]? with
    | some o => o.after.any fun e => Region.binds md e && (e.on == l || waits md ops n e.on l)
    | none => false

theorem waits_listed {listed : Array Bool} (hc : ClosedL md ops listed) : ∀ (n j l : Nat), waits md ops n j l = true →
    (∀ oj, ops[j]? = some oj → ∀ e ∈ oj.after, Region.binds md e = true → listed.getD e.on false = true) → listed.getD l false = true := by
  intro n
  induction n with
  | zero => intro j l h; simp [waits] at h
  | succ n ih =>
    intro j l h hj
    unfold waits at h
    split at h
    · rename_i o ho
      obtain ⟨e, he, hb⟩ := Array.any_eq_true'.1 h
      simp only [Bool.and_eq_true, Bool.or_eq_true, beq_iff_eq] at hb
      have h1 := hj o ho e he hb.1
      rcases hb.2 with h2 | h2
      · rw [← h2]; exact h1
      · exact ih e.on l h2 (fun oj hoj e' he' hb' => hc e.on oj hoj h1 e' he' hb')
    · cases h

/-- Must the class be shown anew behind operation j? Not where j waits for every load. -/
def keepB (md : Region.Mode) (ops : Array Oper) (lds : List Nat) (j : Nat) : Bool := lds.any fun l => !waits md ops ops.size j l

theorem keepB_of {i j : Nat} {listed : Array Bool} (hc : ClosedL md ops listed) (hi : i ∈ lds) (hr : i ∈ Region.ready md ops listed) (hj : j ∈ Region.ready md ops listed) : keepB md ops lds j = true := by
  obtain ⟨hun, _⟩ := mem_ready.1 hr
  obtain ⟨_, oj, hoj, hall⟩ := mem_ready.1 hj
  unfold keepB
  refine List.any_eq_true.2 ⟨i, hi, ?_⟩
  simp only [Bool.not_eq_true']
  refine Bool.eq_false_iff.2 fun hw => ?_
  have h1 := waits_listed hc _ j i hw (fun o ho e he hb => by
    have : o = oj := Option.some.inj (ho.symm.trans hoj)
    subst this
    exact hall e he hb)
  rcases Nat.lt_or_ge i listed.size with h' | h'
  · simp [h'] at hun h1; rw [hun] at h1; cases h1
  · simp [Array.getElem?_eq_none h'] at h1

/-- Whatever order is picked from here on; the class is shown anew where it must be. -/
def wpAnyP (P : Program) (md : Region.Mode) (ops : Array Oper) (Q : Exit → Act → World → Prop) (S : World → Prop) (lds : List Nat) : Nat → Array Bool → Act → World → Prop
  | 0, listed, a, w => Region.ready md ops listed = [] ∧ Q .normal a w
  | fuel + 1, listed, a, w =>
    (Region.ready md ops listed = [] → Q .normal a w) ∧
    ∀ i ∈ Region.ready md ops listed, wpOp P ops Q i (fun a' w' => (keepB md ops lds i = true → S w → S w') ∧ wpAnyP P md ops Q S lds fuel (listed.setIfInBounds i true) a' w') a w

theorem wpAny_of_P : ∀ (fuel : Nat) (listed : Array Bool) (a : Act) (w : World), wpAnyP P md ops Q S lds fuel listed a w → wpAny P md ops Q fuel listed a w
  | 0, _, _, _, h => h
  | fuel + 1, _, _, _, h => ⟨h.1, fun i hi => wpOp_mono (fun a' w' h' => wpAny_of_P fuel _ a' w' h'.2) (h.2 i hi)⟩

/-- The class in which operation i yields. -/
def cls (S : World → Prop) (lds : List Nat) (i : Nat) (w : World) : Prop := i ∈ lds → S w

theorem wpAnyP_first {i : Nat} {oi : Oper} {v : Value} (hi : ops[i]? = some oi) (hsel : ∀ (j : Nat) (o : Oper) cs b, ops[j]? = some o → o.op ≠ .select cs b)
    (hQ : ∀ c a w, Q (.panic c) (a.put oi.dst v) w → Q (.panic c) a w) :
    ∀ (fuel : Nat) (listed : Array Bool) (a : Act) (w : World),
      (∀ j oj, ops[j]? = some oj → j ≠ i → listed.getD j true = false → (∀ e ∈ oj.after, Region.binds md e = true → e.on ≠ i) → oi.apart ops oj = true) →
      ClosedL md ops listed → i ∈ Region.ready md ops listed → QY P ops (cls S lds i) oi v a → cls S lds i w →
      wpAnyP P md ops Q S lds fuel (listed.setIfInBounds i true) (a.put oi.dst v) w → wpAnyP P md ops Q S lds (fuel + 1) listed a w := by
  intro fuel
  induction fuel with
  | zero =>
    intro listed a w _ hcl hr hy hS H
    refine ⟨fun h => (by rw [h] at hr; cases hr), fun j hj => ?_⟩
    by_cases hji : j = i
    · subst hji; exact hy.wpOp hi hS ⟨fun _ h => h, H⟩
    · have := ready_mono hj hji
      rw [H.1] at this
      cases this
  | succ fuel ih =>
    intro listed a w hfree hcl hr hy hS H
    refine ⟨fun h => (by rw [h] at hr; cases hr), fun j hj => ?_⟩
    by_cases hji : j = i
    · subst hji; exact hy.wpOp hi hS ⟨fun _ h => h, H⟩
    · have h1 := H.2 j (ready_mono hj hji)
      obtain ⟨hjun, oj, hoj, hall⟩ := mem_ready.1 hj
      have hnot : ∀ e ∈ oj.after, Region.binds md e = true → e.on ≠ i := fun e he hb heq => by
        have h1 := hall e he hb
        have h0 := (mem_ready.1 hr).1
        rw [heq] at h1
        rcases Nat.lt_or_ge i listed.size with h' | h'
        · simp [h'] at h0 h1; rw [h0] at h1; cases h1
        · simp [Array.getElem?_eq_none h'] at h1
      have h2 := wpOp_putY hoj (hfree j oj hoj hji hjun hnot) (fun cs b => hsel i oi cs b hi) (fun cs b => hsel j oj cs b hoj) hQ hy h1
      have hfree' : ∀ k ok, ops[k]? = some ok → k ≠ i → (listed.setIfInBounds j true).getD k true = false →
          (∀ e ∈ ok.after, Region.binds md e = true → e.on ≠ i) → oi.apart ops ok = true := fun k ok hk hki hun hno => by
        refine hfree k ok hk hki ?_ hno
        by_cases hjk : j = k
        · subst hjk; exact hjun
        · rw [getD_set_ne true hjk] at hun; exact hun
      refine wpOp_mono (fun a' w' h3 => ⟨h3.2.1, ih (listed.setIfInBounds j true) a' w' hfree' (hcl.set hj) (ready_mono hr (Ne.symm hji)) h3.1 (fun hl => h3.2.1 (keepB_of hcl hl hr hj) (hS hl)) ?_⟩) h2
      rw [Array.setIfInBounds_comm _ _ hji]
      exact h3.2.2

/-- The plan: an operation is taken first, or one of those that may come up is carried out. -/
inductive Pl where
  | done
  | take (i : Nat) (t : Pl)
  | run (i : Nat) (t : Pl)
  | run2 (i : Nat) (t : Pl) (j : Nat) (u : Pl)
  | run3 (i : Nat) (t : Pl) (j : Nat) (u : Pl) (k : Nat) (v : Pl)

def planOk (md : Region.Mode) (ops : Array Oper) : Pl → Array Bool → Bool
  | .done, l => (Region.ready md ops l).isEmpty
  | .take i t, l => (Region.ready md ops l).contains i && Region.free md ops l i && decide (i < ops.size) && planOk md ops t (l.setIfInBounds i true)
  | .run i t, l => (Region.ready md ops l == [i]) && planOk md ops t (l.setIfInBounds i true)
  | .run2 i t j u, l => (Region.ready md ops l == [i, j]) && planOk md ops t (l.setIfInBounds i true) && planOk md ops u (l.setIfInBounds j true)
  | .run3 i t j u k v, l => (Region.ready md ops l == [i, j, k]) && planOk md ops t (l.setIfInBounds i true) && planOk md ops u (l.setIfInBounds j true) && planOk md ops v (l.setIfInBounds k true)

/-- One operation that is carried out, what follows given. -/
def runOp (P : Program) (md : Region.Mode) (ops : Array Oper) (Q : Exit → Act → World → Prop) (S : World → Prop) (lds : List Nat) (i : Nat) (K : Act → World → Prop) (a : Act) (w : World) : Prop :=
  wpOp P ops Q i (fun a' w' => (keepB md ops lds i = true → S w → S w') ∧ K a' w') a w

/-- The walk of a plan. -/
def wpP (P : Program) (md : Region.Mode) (ops : Array Oper) (Q : Exit → Act → World → Prop) (S : World → Prop) (lds : List Nat) : Pl → Act → World → Prop
  | .done, a, w => Q .normal a w
  | .take i t, a, w => ∃ o v, ops[i]? = some o ∧ QY P ops (cls S lds i) o v a ∧ cls S lds i w ∧ wpP P md ops Q S lds t (a.put o.dst v) w
  | .run i t, a, w => runOp P md ops Q S lds i (wpP P md ops Q S lds t) a w
  | .run2 i t j u, a, w => runOp P md ops Q S lds i (wpP P md ops Q S lds t) a w ∧ runOp P md ops Q S lds j (wpP P md ops Q S lds u) a w
  | .run3 i t j u k v, a, w => runOp P md ops Q S lds i (wpP P md ops Q S lds t) a w ∧ runOp P md ops Q S lds j (wpP P md ops Q S lds u) a w ∧ runOp P md ops Q S lds k (wpP P md ops Q S lds v) a w

def Pl.depth : Pl → Nat
  | .done => 0
  | .take _ t => t.depth + 1
  | .run _ t => t.depth + 1
  | .run2 _ t _ u => max t.depth u.depth + 1
  | .run3 _ t _ u _ v => max t.depth (max u.depth v.depth) + 1

theorem wpAnyP_done {listed : Array Bool} {a : Act} {w : World} (hr : Region.ready md ops listed = []) (h : Q .normal a w) :
    ∀ fuel, wpAnyP P md ops Q S lds fuel listed a w
  | 0 => ⟨hr, h⟩
  | _ + 1 => ⟨fun _ => h, by rw [hr]; simp⟩

theorem runOp_any {i : Nat} {K : Act → World → Prop} {a : Act} {w : World} {fuel : Nat} {listed : Array Bool}
    (h : runOp P md ops Q S lds i K a w) (hk : ∀ a w, K a w → wpAnyP P md ops Q S lds fuel (listed.setIfInBounds i true) a w) :
    wpOp P ops Q i (fun a' w' => (keepB md ops lds i = true → S w → S w') ∧ wpAnyP P md ops Q S lds fuel (listed.setIfInBounds i true) a' w') a w :=
  wpOp_mono (fun a' w' ⟨h1, h2⟩ => ⟨h1, hk _ _ h2⟩) h

theorem wpAnyP_of_plan (hQ : ∀ c a d v w, Q (.panic c) (Act.put a d v) w → Q (.panic c) a w) (hs : Region.noSelect ops = true) :
    ∀ (t : Pl) (fuel : Nat) (listed : Array Bool) (a : Act) (w : World), planOk md ops t listed = true → ClosedL md ops listed → t.depth ≤ fuel → wpP P md ops Q S lds t a w → wpAnyP P md ops Q S lds fuel listed a w := by
  intro t
  induction t with
  | done =>
    intro fuel listed a w hp _ _ h
    simp only [planOk, List.isEmpty_iff] at hp
    exact wpAnyP_done hp h fuel
  | take i t ih =>
    intro fuel listed a w hp hcl hd h
    simp only [planOk, Bool.and_eq_true, decide_eq_true_eq] at hp
    obtain ⟨⟨⟨h1, h2⟩, _⟩, h4⟩ := hp
    obtain ⟨o, v, ho, hy, hS, hn⟩ := h
    simp only [Pl.depth] at hd
    obtain ⟨n, rfl⟩ : ∃ n, fuel = n + 1 := ⟨fuel - 1, by omega⟩
    exact wpAnyP_first ho (Region.noSelect_spec hs) (fun c a w => hQ c a _ _ w) n listed a w (Region.free_spec ho h2) hcl (by simpa using h1) hy hS (ih n _ _ _ h4 (hcl.set (by simpa using h1)) (by omega) hn)
  | run i t ih =>
    intro fuel listed a w hp hcl hd h
    simp only [planOk, Bool.and_eq_true, beq_iff_eq] at hp
    simp only [Pl.depth] at hd
    obtain ⟨n, rfl⟩ : ∃ n, fuel = n + 1 := ⟨fuel - 1, by omega⟩
    refine ⟨fun h0 => (by rw [hp.1] at h0; cases h0), fun j hj => ?_⟩
    rw [hp.1] at hj
    obtain rfl : j = i := by simpa using hj
    exact runOp_any h fun a w hh => ih n _ a w hp.2 (hcl.set (by rw [hp.1]; simp)) (by omega) hh
  | run2 i t j u iht ihu =>
    intro fuel listed a w hp hcl hd h
    simp only [planOk, Bool.and_eq_true, beq_iff_eq] at hp
    simp only [Pl.depth] at hd
    obtain ⟨n, rfl⟩ : ∃ n, fuel = n + 1 := ⟨fuel - 1, by omega⟩
    refine ⟨fun h0 => (by rw [hp.1.1] at h0; cases h0), fun k hk => ?_⟩
    rw [hp.1.1] at hk
    have hk' : k = i ∨ k = j := by simpa using hk
    rcases hk' with rfl | rfl
    · exact runOp_any h.1 fun a w hh => iht n _ a w hp.1.2 (hcl.set (by rw [hp.1.1]; simp)) (by omega) hh
    · exact runOp_any h.2 fun a w hh => ihu n _ a w hp.2 (hcl.set (by rw [hp.1.1]; simp)) (by omega) hh
  | run3 i t j u k v iht ihu ihv =>
    intro fuel listed a w hp hcl hd h
    simp only [planOk, Bool.and_eq_true, beq_iff_eq] at hp
    simp only [Pl.depth] at hd
    obtain ⟨n, rfl⟩ : ∃ n, fuel = n + 1 := ⟨fuel - 1, by omega⟩
    refine ⟨fun h0 => (by rw [hp.1.1.1] at h0; cases h0), fun q hq => ?_⟩
    rw [hp.1.1.1] at hq
    have hk' : q = i ∨ q = j ∨ q = k := by simpa using hq
    rcases hk' with rfl | rfl | rfl
    · exact runOp_any h.1 fun a w hh => iht n _ a w hp.1.1.2 (hcl.set (by rw [hp.1.1.1]; simp)) (by omega) hh
    · exact runOp_any h.2.1 fun a w hh => ihu n _ a w hp.1.2 (hcl.set (by rw [hp.1.1.1]; simp)) (by omega) hh
    · exact runOp_any h.2.2 fun a w hh => ihv n _ a w hp.2 (hcl.set (by rw [hp.1.1.1]; simp)) (by omega) hh

/-- The region, by a plan. -/
theorem wp_region_plan (S : World → Prop) (lds : List Nat) (t : Pl) {id : Nat} {a : Act} {w : World} (hm : P.follows .mixedOrders = true)
    (hB : (Region.noSelect ops && decide (t.depth ≤ ops.size) && planOk .any ops t (Array.replicate ops.size false)) = true)
    (h : wpP P .any ops (NoPanic Q) S lds t a w.drew) : (Code.region id ops true).wp P Q a w := by
  simp only [Bool.and_eq_true, decide_eq_true_eq] at hB
  exact wp_region_noPanic <| wp_region_any hm (wpAny_of_P _ _ _ _ (wpAnyP_of_plan (fun _ _ _ _ _ h => h.elim) hB.1.1 t _ _ _ _ hB.2 (ClosedL.start _) hB.1.2 h))

/-! The steps of a plan's walk. -/
section
variable {t : Pl} {a : Act} {w : World} {i : Nat} {o : Oper}
/-- An operation that looks at no cell: its run in whatever world. -/
theorem wpP_pure (d : Option Tmp) (v : Value) (ho : ops[i]? = some o) (hd : o.dst = d) (hl : lds.contains i = false) (hg : Region.wanted o (yielded ops a.tmps) = true)
    (hr : ∀ w', (execOp a.eval o).run P w' = .ok (.value v) w') (h : wpP P md ops Q S lds t (a.put d v) w) : wpP P md ops Q S lds (.take i t) a w :=
  have hni : ¬ i ∈ lds := by simpa using hl
  ⟨o, v, ho, .inl ⟨hg, fun w' _ => by rw [hr]; exact ⟨rfl, rfl⟩⟩, fun h => absurd h hni, hd ▸ h⟩
/-- One that its guard shuts out. -/
theorem wpP_skip (d : Option Tmp) (ho : ops[i]? = some o) (hd : o.dst = d) (hl : lds.contains i = false ∨ S w) (hg : Region.wanted o (yielded ops a.tmps) = false)
    (h : wpP P md ops Q S lds t (a.put d undef) w) : wpP P md ops Q S lds (.take i t) a w :=
  ⟨o, undef, ho, .inr ⟨hg, rfl⟩, fun hi => by
    rcases hl with hl | hl
    · exact absurd hi (by simpa using hl)
    · exact hl, hd ▸ h⟩
/-- One that looks at cells of which the class speaks. -/
theorem wpP_load (d : Option Tmp) (v : Value) (ho : ops[i]? = some o) (hd : o.dst = d) (hl : lds.contains i = true) (hg : Region.wanted o (yielded ops a.tmps) = true) (hS : S w)
    (hr : ∀ w', S w' → (execOp a.eval o).run P w' = .ok (.value v) w') (h : wpP P md ops Q S lds t (a.put d v) w) : wpP P md ops Q S lds (.take i t) a w :=
  have hi : i ∈ lds := by simpa using hl
  ⟨o, v, ho, .inl ⟨hg, fun w' hw' => by rw [hr w' (hw' hi)]; exact ⟨rfl, rfl⟩⟩, fun _ => hS, hd ▸ h⟩
/-- A call that hands back one value and leaves the world as it was, in every world of the class. -/
theorem wpP_call (d : Option Tmp) (v : Value) (f : FuncId) (args : Array Value) (ho : ops[i]? = some o) (hd : o.dst = d) (hl : lds.contains i = true) (hg : Region.wanted o (yielded ops a.tmps) = true) (hS : S w)
    (hr : ∀ w', S w' → (execOp a.eval o).run P w' = .ok (.enter f args) w') (hc : ∀ w', S w' → Calls P f args w' (fun e w'' => e = .returned v ∧ w' = w''))
    (h : wpP P md ops Q S lds t (a.put d v) w) : wpP P md ops Q S lds (.take i t) a w :=
  have hi : i ∈ lds := by simpa using hl
  ⟨o, v, ho, .inl ⟨hg, fun w' hw' => by rw [hr w' (hw' hi)]; exact ⟨rfl, hc w' (hw' hi)⟩⟩, fun _ => hS, hd ▸ h⟩
/-- One that is carried out, behind which the class need not be shown. -/
theorem runOp_last {K : Act → World → Prop} (ho : ops[i]? = some o) (hk : keepB md ops lds i = false) (hg : Region.wanted o (yielded ops a.tmps) = true)
    (h : ∀ K' : Act → World → Prop, (∀ a w, K a w → K' a w) → o.wp P a w K' Q) : runOp P md ops Q S lds i K a w := by
  unfold runOp
  refine wpOp_step ho fun K' hK' => ?_
  rw [if_pos hg]
  exact h K' fun a w hh => hK' _ _ ⟨fun hh' => (by rw [hk] at hh'; cases hh'), hh⟩
/-- One that is carried out; the class is shown anew. -/
theorem runOp_keep {K : Act → World → Prop} (ho : ops[i]? = some o) (hg : Region.wanted o (yielded ops a.tmps) = true)
    (h : ∀ K' : Act → World → Prop, (∀ a w', (S w → S w') → K a w' → K' a w') → o.wp P a w K' Q) : runOp P md ops Q S lds i K a w := by
  unfold runOp
  refine wpOp_step ho fun K' hK' => ?_
  rw [if_pos hg]
  exact h K' fun a w hh h2 => hK' _ _ ⟨fun _ => hh, h2⟩
theorem runOp_skip {K : Act → World → Prop} (ho : ops[i]? = some o) (hg : Region.wanted o (yielded ops a.tmps) = false)
    (h : K (a.put o.dst undef) w) : runOp P md ops Q S lds i K a w := by
  unfold runOp
  refine wpOp_step ho fun K' hK' => ?_
  rw [if_neg (by rw [hg]; exact Bool.false_ne_true)]
  exact hK' _ _ ⟨fun _ h => h, h⟩
end
end
end Go.Proofs.Ytlekojbcaelpiaa

/- cmp.Or; the order of events; run.differ, run.events, run.Compare, run.Same. -/
namespace Go.Proofs.Ytlekojbcaelpiaa
open Go.RowKit

def orZ : List Int → Int
  | [] => 0
  | x :: xs => if x = 0 then orZ xs else x
theorem orZ_drop (l : List Int) (k : Nat) (h : ∀ y ∈ l.take k, y = 0) : orZ l = orZ (l.drop k) := by
  induction k generalizing l with
  | zero => rfl
  | succ k ih =>
    cases l with
    | nil => rfl
    | cons a l =>
      have ha : a = 0 := h a (by simp)
      subst ha
      simp only [orZ, if_true, List.drop_succ_cons]
      exact ih l (fun y hy => h y (by simp [hy]))
theorem orZ_at (l : List Int) (k : Nat) (x : Int) (h : ∀ y ∈ l.take k, y = 0) (hx : l[k]? = some x) (h0 : ¬ x = 0) : orZ l = x := by
  rw [orZ_drop l k h]
  have hk := (List.getElem?_eq_some_iff.1 hx)
  obtain ⟨hk, e⟩ := hk
  rw [List.drop_eq_getElem_cons hk, e, orZ, if_neg h0]
theorem orZ_all (l : List Int) (h : ∀ y ∈ l.take l.length, y = 0) : orZ l = 0 := by
  rw [orZ_drop l l.length h, List.drop_length]; rfl
theorem zeros_succ (l : List Int) (k : Nat) (x : Int) (h : ∀ y ∈ l.take k, y = 0) (hx : l[k]? = some x) (h0 : x = 0) : ∀ y ∈ l.take (k + 1), y = 0 := by
  intro y hy
  rw [List.take_add_one, hx] at hy
  rcases List.mem_append.1 hy with hy | hy
  · exact h y hy
  · have : y = x := by simpa using hy
    rw [this]; exact h0

set_option maxHeartbeats 400000 in
theorem or_any (A : Option Addr) (c B : Nat) (l : List Int) (w : World) (hl : l.length ≤ 1000000) (hr : Reads w B 1 A l.length (ints l)) :
    Calls Try.prog 87 #[.slice A l.length c] w fun e w' => e = .returned (.int .i64 (orZ l)) ∧ w = w' := by
  go_enter Try.func87, Try.ntmps87
  go_wp2
  go_loop [8] (fun i => ∃ k : Nat, k ≤ l.length ∧ i = .int .i64 k ∧ ∀ y ∈ l.take k, y = 0) (fun i => l.length - (intOf i).toNat)
  case atStart => exact ⟨0, by omega, rfl, by simp⟩
  case round =>
    obtain ⟨k, hk, rfl, ha⟩ := hrel
    have HA := Lib.hid ha; clear ha
    by_cases hlt : k < l.length
    · obtain ⟨ad, x, rfl, hadB, hc, hx⟩ := hr.int_ hlt
      clear hr
      by_cases hx0 : x = 0
      · have hb : (x != 0) = false := by simpa using hx0
        have HX := Lib.hid hx0; clear hx0
        go_wp2
        go_round
        case rel => exact ⟨k + 1, by omega, by go_num, zeros_succ l k x HA.out hx.out HX.out⟩
        case measure => simp [intOf]; omega
      · have hb : (x != 0) = true := by simpa using hx0
        have HX := Lib.hid (orZ_at l k x HA.out hx.out hx0); clear hx0
        go_wp2
        go_ret
        exact ⟨ret_int HX.out.symm, rfl⟩
    · obtain rfl : k = l.length := by omega
      have HX := Lib.hid (orZ_all l HA.out)
      clear hr
      go_wp2
      go_ret
      exact ⟨ret_int HX.out.symm, rfl⟩

theorem reads_blk {w : World} {g : Nat} {t : TypeId} {cs : List Value} {n size : Nat} (h : Blk w g t cs.toArray) (hl : cs.length = n * size) : Reads w (g + 1) size (some ⟨g, 0, none⟩) n cs := by
  refine ⟨hl, fun _ => ⟨_, rfl, Nat.lt_succ_self _, fun j u hu => ?_⟩⟩
  have hadd : (⟨g, 0, none⟩ : Addr).add j = ⟨g, j, none⟩ := by unfold Addr.add; split <;> simp_all
  rw [hadd, h.cell j]
  simpa using hu
theorem or3_any (x y z : Int) (g c : Nat) (w : World) (h : Blk w g 3 #[.int .i64 x, .int .i64 y, .int .i64 z]) :
    Calls Try.prog 87 #[.slice (some ⟨g, 0, none⟩) 3 c] w fun e w' => e = .returned (.int .i64 (orZ [x, y, z])) ∧ w = w' :=
  or_any _ c _ [x, y, z] w (by simp) (reads_blk (cs := ints [x, y, z]) h rfl)
theorem or2_any (x y : Int) (g c : Nat) (w : World) (h : Blk w g 3 #[.int .i64 x, .int .i64 y]) :
    Calls Try.prog 87 #[.slice (some ⟨g, 0, none⟩) 2 c] w fun e w' => e = .returned (.int .i64 (orZ [x, y])) ∧ w = w' :=
  or_any _ c _ [x, y] w (by simp) (reads_blk (cs := ints [x, y]) h rfl)
def evCmp (a b : Ev) : Int := orZ [cmpZ a.p b.p, cmpZ a.k b.k, cmpZ a.n b.n]
theorem cmpZ_zero (a b : Int) : cmpZ a b = 0 ↔ a = b := by
  unfold cmpZ
  constructor
  · intro h; split at h
    · omega
    · split at h <;> omega
  · rintro rfl; simp
theorem evCmp_zero (a b : Ev) : evCmp a b = 0 ↔ a = b := by
  obtain ⟨p, k, n⟩ := a
  obtain ⟨p', k', n'⟩ := b
  unfold evCmp
  simp only [orZ, Ev.mk.injEq]
  rw [← cmpZ_zero p p', ← cmpZ_zero k k', ← cmpZ_zero n n']
  by_cases h1 : cmpZ p p' = 0 <;> by_cases h2 : cmpZ k k' = 0 <;> by_cases h3 : cmpZ n n' = 0 <;> simp [h1, h2, h3]

theorem Blk.three {w : World} {g : Nat} {t : TypeId} {a b c : Value} (h : Blk w g t #[a, b, c]) : w.cell? ⟨g, 0, none⟩ = some a ∧ w.cell? ⟨g, 1, none⟩ = some b ∧ w.cell? ⟨g, 2, none⟩ = some c :=
  ⟨by rw [h.cell 0]; rfl, by rw [h.cell 1]; rfl, by rw [h.cell 2]; rfl⟩
theorem cells33 (w : World) (t u : TypeId) (a b c d e f : Value) :
    (((w.alloc (.cells #[a, b, c] t)).alloc (.cells #[d, e, f] u))).drew.cell? ⟨w.heap.size, 0, none⟩ = some a ∧ (((w.alloc (.cells #[a, b, c] t)).alloc (.cells #[d, e, f] u))).drew.cell? ⟨w.heap.size, 1, none⟩ = some b ∧
    (((w.alloc (.cells #[a, b, c] t)).alloc (.cells #[d, e, f] u))).drew.cell? ⟨w.heap.size, 2, none⟩ = some c ∧ (((w.alloc (.cells #[a, b, c] t)).alloc (.cells #[d, e, f] u))).drew.cell? ⟨w.heap.size + 1, 0, none⟩ = some d ∧
    (((w.alloc (.cells #[a, b, c] t)).alloc (.cells #[d, e, f] u))).drew.cell? ⟨w.heap.size + 1, 1, none⟩ = some e ∧ (((w.alloc (.cells #[a, b, c] t)).alloc (.cells #[d, e, f] u))).drew.cell? ⟨w.heap.size + 1, 2, none⟩ = some f := by
  obtain ⟨a0, a1, a2⟩ := Blk.three (w := ((w.alloc (.cells #[a, b, c] t)).alloc (.cells #[d, e, f] u)).drew) (heap_alloc2_old w _ _)
  obtain ⟨b0, b1, b2⟩ := Blk.three (w := ((w.alloc (.cells #[a, b, c] t)).alloc (.cells #[d, e, f] u)).drew) (heap_alloc2_new w _ _)
  exact ⟨a0, a1, a2, b0, b1, b2⟩
set_option maxRecDepth 100000 in
set_option maxHeartbeats 2000000 in
theorem evCompare_any (a b : Ev) (w : World) :
    Calls Try.prog 97 #[.agg #[.int .i64 a.p, .int .i64 a.k, .int .i64 a.n], .agg #[.int .i64 b.p, .int .i64 b.k, .int .i64 b.n]] w fun e w' => e = .returned (.int .i64 (evCmp a b)) ∧ Below w.heap.size w w' := by
  go_enter Try.func97, Try.ntmps97
  go_wp2_with fail
  have HW := Lib.hid (show (((w.alloc (.cells #[.int .i64 a.p, .int .i64 a.k, .int .i64 a.n] 128)).alloc (.cells #[.int .i64 b.p, .int .i64 b.k, .int .i64 b.n] 128))).drew.cell? ⟨w.heap.size, 0, none⟩ = some (.int .i64 a.p) ∧ (((w.alloc (.cells #[.int .i64 a.p, .int .i64 a.k, .int .i64 a.n] 128)).alloc (.cells #[.int .i64 b.p, .int .i64 b.k, .int .i64 b.n] 128))).drew.cell? ⟨w.heap.size, 1, none⟩ = some (.int .i64 a.k) ∧ (((w.alloc (.cells #[.int .i64 a.p, .int .i64 a.k, .int .i64 a.n] 128)).alloc (.cells #[.int .i64 b.p, .int .i64 b.k, .int .i64 b.n] 128))).drew.cell? ⟨w.heap.size, 2, none⟩ = some (.int .i64 a.n) ∧ (((w.alloc (.cells #[.int .i64 a.p, .int .i64 a.k, .int .i64 a.n] 128)).alloc (.cells #[.int .i64 b.p, .int .i64 b.k, .int .i64 b.n] 128))).drew.cell? ⟨w.heap.size + 1, 0, none⟩ = some (.int .i64 b.p) ∧ (((w.alloc (.cells #[.int .i64 a.p, .int .i64 a.k, .int .i64 a.n] 128)).alloc (.cells #[.int .i64 b.p, .int .i64 b.k, .int .i64 b.n] 128))).drew.cell? ⟨w.heap.size + 1, 1, none⟩ = some (.int .i64 b.k) ∧ (((w.alloc (.cells #[.int .i64 a.p, .int .i64 a.k, .int .i64 a.n] 128)).alloc (.cells #[.int .i64 b.p, .int .i64 b.k, .int .i64 b.n] 128))).drew.cell? ⟨w.heap.size + 1, 2, none⟩ = some (.int .i64 b.n) from cells33 w _ _ _ _ _ _ _ _)
  have HB := Lib.hid (show Below w.heap.size w (((w.alloc (.cells #[.int .i64 a.p, .int .i64 a.k, .int .i64 a.n] 128)).alloc (.cells #[.int .i64 b.p, .int .i64 b.k, .int .i64 b.n] 128))).drew from (((Below.refl _ _).alloc (Nat.le_refl _) _).alloc (by simp) _).drew)
  refine wp_region_plan (fun w' => w'.cell? ⟨w.heap.size, 0, none⟩ = some (.int .i64 a.p) ∧ w'.cell? ⟨w.heap.size, 1, none⟩ = some (.int .i64 a.k) ∧ w'.cell? ⟨w.heap.size, 2, none⟩ = some (.int .i64 a.n) ∧ w'.cell? ⟨w.heap.size + 1, 0, none⟩ = some (.int .i64 b.p) ∧ w'.cell? ⟨w.heap.size + 1, 1, none⟩ = some (.int .i64 b.k) ∧ w'.cell? ⟨w.heap.size + 1, 2, none⟩ = some (.int .i64 b.n)) [1, 3, 4, 6, 8, 9, 11, 13, 14] (.take 0 (.take 1 (.take 2 (.take 3 (.take 4 (.take 5 (.take 6 (.take 7 (.take 8 (.take 9 (.take 10 (.take 11 (.take 12 (.take 13 (.take 14 (.run 15 (.run 16 (.take 17 .done)))))))))))))))))) (by kernel_rfl) (by kernel_rfl) ?_
  generalize (((w.alloc (.cells #[.int .i64 a.p, .int .i64 a.k, .int .i64 a.n] 128)).alloc (.cells #[.int .i64 b.p, .int .i64 b.k, .int .i64 b.n] 128))).drew = W2 at HW HB ⊢
  have HS := Lib.hid HW.out
  refine' wpP_pure (some 5) _ rfl rfl (by decide) (by rfl) (fun w' => _) _
  rotate_left
  (go_simp; first | done | rfl)
  simp only [Act.put, List.setIfInBounds_toArray, List.set_cons_zero, List.set_cons_succ]
  refine' wpP_load (some 6) _ rfl rfl (by decide) (by rfl) HS.out (fun w' hw => _) _
  rotate_left
  (obtain ⟨x0, x1, x2, y0, y1, y2⟩ := hw; go_simp; first | done | rfl)
  simp only [Act.put, List.setIfInBounds_toArray, List.set_cons_zero, List.set_cons_succ]
  refine' wpP_pure (some 7) _ rfl rfl (by decide) (by rfl) (fun w' => _) _
  rotate_left
  (go_simp; first | done | rfl)
  simp only [Act.put, List.setIfInBounds_toArray, List.set_cons_zero, List.set_cons_succ]
  refine' wpP_load (some 8) _ rfl rfl (by decide) (by rfl) HS.out (fun w' hw => _) _
  rotate_left
  (obtain ⟨x0, x1, x2, y0, y1, y2⟩ := hw; go_simp; first | done | rfl)
  simp only [Act.put, List.setIfInBounds_toArray, List.set_cons_zero, List.set_cons_succ]
  refine wpP_call (some 9) (.int .i64 (cmpZ a.p b.p)) 52 #[.int .i64 a.p, .int .i64 b.p] rfl rfl (by decide) (by rfl) HS.out (fun w' hw => ?_) (fun w' hw => ?_) ?_
  · (clear hw; go_simp)
  · exact compare_any _ _ _
  simp only [Act.put, List.setIfInBounds_toArray, List.set_cons_zero, List.set_cons_succ]
  refine' wpP_pure (some 10) _ rfl rfl (by decide) (by rfl) (fun w' => _) _
  rotate_left
  (go_simp; first | done | rfl)
  simp only [Act.put, List.setIfInBounds_toArray, List.set_cons_zero, List.set_cons_succ]
  refine' wpP_load (some 11) _ rfl rfl (by decide) (by rfl) HS.out (fun w' hw => _) _
  rotate_left
  (obtain ⟨x0, x1, x2, y0, y1, y2⟩ := hw; go_simp; first | done | rfl)
  simp only [Act.put, List.setIfInBounds_toArray, List.set_cons_zero, List.set_cons_succ]
  refine' wpP_pure (some 12) _ rfl rfl (by decide) (by rfl) (fun w' => _) _
  rotate_left
  (go_simp; first | done | rfl)
  simp only [Act.put, List.setIfInBounds_toArray, List.set_cons_zero, List.set_cons_succ]
  refine' wpP_load (some 13) _ rfl rfl (by decide) (by rfl) HS.out (fun w' hw => _) _
  rotate_left
  (obtain ⟨x0, x1, x2, y0, y1, y2⟩ := hw; go_simp; first | done | rfl)
  simp only [Act.put, List.setIfInBounds_toArray, List.set_cons_zero, List.set_cons_succ]
  refine wpP_call (some 14) (.int .i64 (cmpZ a.k b.k)) 52 #[.int .i64 a.k, .int .i64 b.k] rfl rfl (by decide) (by rfl) HS.out (fun w' hw => ?_) (fun w' hw => ?_) ?_
  · (clear hw; go_simp)
  · exact compare_any _ _ _
  simp only [Act.put, List.setIfInBounds_toArray, List.set_cons_zero, List.set_cons_succ]
  refine' wpP_pure (some 15) _ rfl rfl (by decide) (by rfl) (fun w' => _) _
  rotate_left
  (go_simp; first | done | rfl)
  simp only [Act.put, List.setIfInBounds_toArray, List.set_cons_zero, List.set_cons_succ]
  refine' wpP_load (some 16) _ rfl rfl (by decide) (by rfl) HS.out (fun w' hw => _) _
  rotate_left
  (obtain ⟨x0, x1, x2, y0, y1, y2⟩ := hw; go_simp; first | done | rfl)
  simp only [Act.put, List.setIfInBounds_toArray, List.set_cons_zero, List.set_cons_succ]
  refine' wpP_pure (some 17) _ rfl rfl (by decide) (by rfl) (fun w' => _) _
  rotate_left
  (go_simp; first | done | rfl)
  simp only [Act.put, List.setIfInBounds_toArray, List.set_cons_zero, List.set_cons_succ]
  refine' wpP_load (some 18) _ rfl rfl (by decide) (by rfl) HS.out (fun w' hw => _) _
  rotate_left
  (obtain ⟨x0, x1, x2, y0, y1, y2⟩ := hw; go_simp; first | done | rfl)
  simp only [Act.put, List.setIfInBounds_toArray, List.set_cons_zero, List.set_cons_succ]
  refine wpP_call (some 19) (.int .i64 (cmpZ a.n b.n)) 52 #[.int .i64 a.n, .int .i64 b.n] rfl rfl (by decide) (by rfl) HS.out (fun w' hw => ?_) (fun w' hw => ?_) ?_
  · (clear hw; go_simp)
  · exact compare_any _ _ _
  simp only [Act.put, List.setIfInBounds_toArray, List.set_cons_zero, List.set_cons_succ]
  refine runOp_last rfl (by kernel_rfl) (by rfl) (fun K hK => ?_)
  go_simp
  refine hK _ _ ?_
  clear hK K
  try simp only [Act.put, List.setIfInBounds_toArray, List.set_cons_zero, List.set_cons_succ]
  refine runOp_last rfl (by kernel_rfl) (by rfl) (fun K hK => ?_)
  go_simp
  refine (or3_any _ _ _ _ _ _ (Blk.new W2 3 _)).mono ?_
  rintro e w' ⟨rfl, rfl⟩
  refine hK _ _ ?_
  clear hK K
  try simp only [Act.put, List.setIfInBounds_toArray, List.set_cons_zero, List.set_cons_succ]
  refine' wpP_pure (some 4) _ rfl rfl (by decide) (by rfl) (fun w' => _) _
  rotate_left
  (go_simp; first | done | rfl)
  simp only [Act.put, List.setIfInBounds_toArray, List.set_cons_zero, List.set_cons_succ]
  refine NoPanic.normal ?_
  go_wp2
  go_ret
  exact ⟨rfl, HB.out.alloc HB.out.size _⟩
end Go.Proofs.Ytlekojbcaelpiaa

/- run.differ, run.events, run.Compare, run.Same; slices.Equal. -/
namespace Go.Proofs.Ytlekojbcaelpiaa
open Go.RowKit

set_option maxHeartbeats 400000 in
theorem conv_any (a : Ev) (w : World) :
    Calls Try.prog 96 #[.agg #[.int .i64 a.p, .int .i64 a.k, .int .i64 a.n]] w fun e w' => e = .returned (.agg #[.int .i64 a.p, .int .i64 a.k, .int .i64 a.n]) ∧ Below w.heap.size w w' := by
  go_enter Try.func96, Try.ntmps96
  go_wp2
  refine bodyPost_ret (v := .agg #[.int .i64 a.p, .int .i64 a.k, .int .i64 a.n]) (by simp [results, Try.results96, go_sem]) rfl ⟨rfl, ?_⟩
  exact ((Below.refl _ _).alloc (Nat.le_refl _) _).alloc (by simp) _

def diffZ : List Ev → List Ev → Nat × Int
  | [], ys => (0, cmpZ 0 ys.length)
  | x :: xs, [] => (0, cmpZ (xs.length + 1 : Nat) 0)
  | x :: xs, y :: ys => if evCmp x y = 0 then ((diffZ xs ys).1 + 1, (diffZ xs ys).2) else (0, evCmp x y)
theorem cmpZ_add (a b c : Int) : cmpZ (a + c) (b + c) = cmpZ a b := by
  unfold cmpZ
  by_cases h1 : a < b
  · rw [if_pos h1, if_pos (by omega)]
  · by_cases h2 : b < a
    · rw [if_neg h1, if_neg (by omega), if_pos h2, if_pos (by omega)]
    · rw [if_neg h1, if_neg (by omega), if_neg h2, if_neg (by omega)]
theorem diffZ_at : ∀ (xs ys : List Ev) (k : Nat) (x y : Ev), xs.take k = ys.take k → xs[k]? = some x → ys[k]? = some y → ¬ evCmp x y = 0 → diffZ xs ys = (k, evCmp x y) := by
  intro xs
  induction xs with
  | nil => intro ys k x y _ hx; simp at hx
  | cons a xs ih =>
    intro ys k x y ht hx hy h0
    cases ys with
    | nil => simp at hy
    | cons b ys =>
      cases k with
      | zero =>
        obtain rfl : a = x := by simpa using hx
        obtain rfl : b = y := by simpa using hy
        rw [diffZ, if_neg h0]
      | succ k =>
        simp only [List.take_succ_cons, List.cons.injEq] at ht
        obtain ⟨rfl, ht⟩ := ht
        have := ih ys k x y ht (by simpa using hx) (by simpa using hy) h0
        rw [diffZ, if_pos ((evCmp_zero a a).2 rfl), this]
theorem diffZ_end : ∀ (xs ys : List Ev), xs.take (min xs.length ys.length) = ys.take (min xs.length ys.length) → diffZ xs ys = (min xs.length ys.length, cmpZ xs.length ys.length) := by
  intro xs
  induction xs with
  | nil => intro ys _; simp [diffZ]
  | cons a xs ih =>
    intro ys ht
    cases ys with
    | nil => simp [diffZ]
    | cons b ys =>
      simp only [List.length_cons, Nat.succ_min_succ, List.take_succ_cons, List.cons.injEq] at ht
      obtain ⟨rfl, ht⟩ := ht
      have := ih ys ht
      rw [diffZ, if_pos ((evCmp_zero a a).2 rfl), this]
      simp only [List.length_cons, Nat.succ_min_succ, Prod.mk.injEq, true_and]
      have := cmpZ_add xs.length ys.length 1
      simpa using this.symm

def Ev6 (w : World) (p q : Addr) (x y : Ev) : Prop :=
  w.cell? p = some (.int .i64 x.p) ∧ w.cell? ⟨p.block, p.off + 1, none⟩ = some (.int .i64 x.k) ∧ w.cell? ⟨p.block, p.off + 2, none⟩ = some (.int .i64 x.n) ∧
  w.cell? q = some (.int .i64 y.p) ∧ w.cell? ⟨q.block, q.off + 1, none⟩ = some (.int .i64 y.k) ∧ w.cell? ⟨q.block, q.off + 2, none⟩ = some (.int .i64 y.n)
theorem cell_below {w w1 : World} {p : Addr} {v : Value} (hb : Below w.heap.size w w1) (h : w.cell? p = some v) : w1.cell? p = some v :=
  (hb.cell (World.block_lt_of_cell? w p h)).trans h
theorem Ev6.below {w w1 : World} {p q : Addr} {x y : Ev} (h : Ev6 w p q x y) (hb : Below w.heap.size w w1) : Ev6 w1 p q x y := by
  obtain ⟨a, b, c, d, e, f⟩ := h
  exact ⟨cell_below hb a, cell_below hb b, cell_below hb c, cell_below hb d, cell_below hb e, cell_below hb f⟩

set_option maxRecDepth 100000 in
set_option maxHeartbeats 4000000 in
theorem differ_a (A1 A2 : Option Addr) (c1 c2 B : Nat) (xs ys : List Ev) (w : World) (hB : B ≤ w.heap.size) (hl1 : xs.length ≤ 1000000) (hl2 : ys.length ≤ 1000000)
    (hr1 : Reads w B 3 A1 xs.length (evs xs)) (hr2 : Reads w B 3 A2 ys.length (evs ys)) (hmm : xs.length ≤ ys.length) :
    Calls Try.prog 95 #[.slice A1 xs.length c1, .slice A2 ys.length c2, .func (.func 96) #[] #[], .func (.func 97) #[] #[]] w fun e w' =>
      e = .returned (.tuple #[.int .i64 ((diffZ xs ys).1 : Nat), .int .i64 (diffZ xs ys).2]) ∧ Below w.heap.size w w' := by
  have HM := Lib.hid (show min xs.length ys.length = xs.length from by omega)
  go_enter Try.func95, Try.ntmps95
  go_wp2_with fail
  go_loopw [17] (fun i wr => ∃ k : Nat, k ≤ xs.length ∧ i = .int .i64 k ∧ xs.take k = ys.take k ∧ Below w.heap.size w wr) (fun i _ => xs.length - (intOf i).toNat)
  case atStart => exact ⟨0, by omega, rfl, rfl, Below.refl _ _⟩
  case round =>
    obtain ⟨k, hk, rfl, hik, hbel⟩ := hrel
    have H := Lib.hid hik; clear hik
    have hsz := hbel.size
    by_cases hlt : k < xs.length
    · obtain ⟨ad1, x, rfl, hb1', a0, a1, a2, hx⟩ := (hr1.below (hbel.mono hB)).at3 (k := k) (by omega)
      obtain ⟨ad2, y, rfl, hb2', b0, b1, b2, hy⟩ := (hr2.below (hbel.mono hB)).at3 (k := k) (by omega)
      have HC := Lib.hid (show Ev6 wr (ad1.add (k * 3)) (ad2.add (k * 3)) x y from ⟨a0, a1, a2, b0, b1, b2⟩)
      have hkx : k < xs.length := by omega
      have hky : k < ys.length := by omega
      have HBL := Lib.hid hbel
      clear hr1 hr2 hbel a0 a1 a2 b0 b1 b2
      go_wp2_with fail
      refine wp_region_plan (fun w' => Ev6 w' (ad1.add (k * 3)) (ad2.add (k * 3)) x y) [5, 11] (.take 0 (.take 1 (.take 2 (.take 3 (.take 4 (.take 5 (.take 7 (.take 8 (.take 9 (.take 10 (.take 11 (.run 6 (.run 12 (.run 13 (.take 14 .done))))))))))))))) (by kernel_rfl) (by kernel_rfl) ?_
      have HS := Lib.hid (show Ev6 wr.drew (ad1.add (k * 3)) (ad2.add (k * 3)) x y from HC.out)
      refine' wpP_pure (some 20) _ rfl rfl (by decide) (by rfl) (fun w' => _) _
      rotate_left
      (go_simp; first | done | rfl)
      simp only [Act.put, List.setIfInBounds_toArray, List.set_cons_zero, List.set_cons_succ]
      refine' wpP_pure (some 21) _ rfl rfl (by decide) (by rfl) (fun w' => _) _
      rotate_left
      (go_simp; first | done | rfl)
      simp only [Act.put, List.setIfInBounds_toArray, List.set_cons_zero, List.set_cons_succ]
      refine' wpP_pure (some 22) _ rfl rfl (by decide) (by rfl) (fun w' => _) _
      rotate_left
      (go_simp; first | done | rfl)
      simp only [Act.put, List.setIfInBounds_toArray, List.set_cons_zero, List.set_cons_succ]
      refine' wpP_pure (some 23) _ rfl rfl (by decide) (by rfl) (fun w' => _) _
      rotate_left
      (go_simp; first | done | rfl)
      simp only [Act.put, List.setIfInBounds_toArray, List.set_cons_zero, List.set_cons_succ]
      refine' wpP_pure (some 24) _ rfl rfl (by decide) (by rfl) (fun w' => _) _
      rotate_left
      (go_simp; first | done | rfl)
      simp only [Act.put, List.setIfInBounds_toArray, List.set_cons_zero, List.set_cons_succ]
      refine' wpP_load (some 25) _ rfl rfl (by decide) (by rfl) HS.out (fun w' hw => _) _
      rotate_left
      (obtain ⟨x0, x1, x2, y0, y1, y2⟩ := hw; go_simp; first | done | rfl)
      simp only [Act.put, List.setIfInBounds_toArray, List.set_cons_zero, List.set_cons_succ]
      refine' wpP_pure (some 27) _ rfl rfl (by decide) (by rfl) (fun w' => _) _
      rotate_left
      (go_simp; first | done | rfl)
      simp only [Act.put, List.setIfInBounds_toArray, List.set_cons_zero, List.set_cons_succ]
      refine' wpP_pure (some 28) _ rfl rfl (by decide) (by rfl) (fun w' => _) _
      rotate_left
      (go_simp; first | done | rfl)
      simp only [Act.put, List.setIfInBounds_toArray, List.set_cons_zero, List.set_cons_succ]
      refine' wpP_pure (some 29) _ rfl rfl (by decide) (by rfl) (fun w' => _) _
      rotate_left
      (go_simp; first | done | rfl)
      simp only [Act.put, List.setIfInBounds_toArray, List.set_cons_zero, List.set_cons_succ]
      refine' wpP_pure (some 30) _ rfl rfl (by decide) (by rfl) (fun w' => _) _
      rotate_left
      (go_simp; first | done | rfl)
      simp only [Act.put, List.setIfInBounds_toArray, List.set_cons_zero, List.set_cons_succ]
      refine' wpP_load (some 31) _ rfl rfl (by decide) (by rfl) HS.out (fun w' hw => _) _
      rotate_left
      (obtain ⟨x0, x1, x2, y0, y1, y2⟩ := hw; go_simp; first | done | rfl)
      simp only [Act.put, List.setIfInBounds_toArray, List.set_cons_zero, List.set_cons_succ]
      refine runOp_keep rfl (by rfl) (fun K hK => ?_)
      go_simp
      refine (conv_any x _).mono ?_
      rintro e w6 ⟨rfl, hb6⟩
      refine hK _ _ (fun hw => ?_) ?_
      · exact hw.below hb6
      clear hK K
      try simp only [Act.put, List.setIfInBounds_toArray, List.set_cons_zero, List.set_cons_succ]
      replace HS := Lib.hid (HS.out.below hb6)
      refine runOp_last rfl (by kernel_rfl) (by rfl) (fun K hK => ?_)
      go_simp
      refine (conv_any y _).mono ?_
      rintro e w12 ⟨rfl, hb12⟩
      refine hK _ _ ?_
      clear hK K
      try simp only [Act.put, List.setIfInBounds_toArray, List.set_cons_zero, List.set_cons_succ]
      refine runOp_last rfl (by kernel_rfl) (by rfl) (fun K hK => ?_)
      go_simp
      refine (evCompare_any x y _).mono ?_
      rintro e w13 ⟨rfl, hb13⟩
      refine hK _ _ ?_
      clear hK K
      try simp only [Act.put, List.setIfInBounds_toArray, List.set_cons_zero, List.set_cons_succ]
      refine' wpP_pure (some 11) _ rfl rfl (by decide) (by rfl) (fun w' => _) _
      rotate_left
      (go_simp; first | done | rfl)
      simp only [Act.put, List.setIfInBounds_toArray, List.set_cons_zero, List.set_cons_succ]
      refine NoPanic.normal ?_
      have HF := Lib.hid (HBL.out.trans (((((Below.refl wr.heap.size wr).drew).trans (hb6.mono (Nat.le_refl _))).trans (hb12.mono hb6.size)).trans (hb13.mono (Nat.le_trans hb6.size hb12.size)) |>.mono hsz))
      clear hb6 hb12 hb13
      by_cases hc : evCmp x y = 0
      · have hq : (evCmp x y != 0) = false := by simpa using hc
        have hxy := (evCmp_zero x y).1 hc
        have HX := Lib.hid hxy
        clear hc hxy
        go_wp2
        go_roundw
        case rel => exact ⟨k + 1, by omega, by go_num, take_eq_succ hx.out hy.out H.out HX.out, HF.out⟩
        case measure => simp [intOf]; omega
      · have hq : (evCmp x y != 0) = true := by simpa using hc
        have HX := Lib.hid (diffZ_at xs ys k x y H.out hx.out hy.out hc)
        clear hc
        go_wp2
        go_ret2
        exact ⟨by rw [HX.out]; rfl, HF.out⟩
    · obtain rfl : k = xs.length := by omega
      have HX := Lib.hid (diffZ_end xs ys (by rw [HM.out]; exact H.out))
      have HBL := Lib.hid hbel
      clear hr1 hr2 hbel
      go_wp2_with (go_at_call 52; refine (compare_any _ _ _).mono ?_; rintro e w' ⟨rfl, rfl⟩)
      go_ret2
      exact ⟨by rw [HX.out, HM.out]; rfl, HBL.out⟩

set_option maxRecDepth 100000 in
set_option maxHeartbeats 4000000 in
theorem differ_b (A1 A2 : Option Addr) (c1 c2 B : Nat) (xs ys : List Ev) (w : World) (hB : B ≤ w.heap.size) (hl1 : xs.length ≤ 1000000) (hl2 : ys.length ≤ 1000000)
    (hr1 : Reads w B 3 A1 xs.length (evs xs)) (hr2 : Reads w B 3 A2 ys.length (evs ys)) (hmm : ys.length < xs.length) :
    Calls Try.prog 95 #[.slice A1 xs.length c1, .slice A2 ys.length c2, .func (.func 96) #[] #[], .func (.func 97) #[] #[]] w fun e w' =>
      e = .returned (.tuple #[.int .i64 ((diffZ xs ys).1 : Nat), .int .i64 (diffZ xs ys).2]) ∧ Below w.heap.size w w' := by
  have HM := Lib.hid (show min xs.length ys.length = ys.length from by omega)
  go_enter Try.func95, Try.ntmps95
  go_wp2_with fail
  go_loopw [17] (fun i wr => ∃ k : Nat, k ≤ ys.length ∧ i = .int .i64 k ∧ xs.take k = ys.take k ∧ Below w.heap.size w wr) (fun i _ => ys.length - (intOf i).toNat)
  case atStart => exact ⟨0, by omega, rfl, rfl, Below.refl _ _⟩
  case round =>
    obtain ⟨k, hk, rfl, hik, hbel⟩ := hrel
    have H := Lib.hid hik; clear hik
    have hsz := hbel.size
    by_cases hlt : k < ys.length
    · obtain ⟨ad1, x, rfl, hb1', a0, a1, a2, hx⟩ := (hr1.below (hbel.mono hB)).at3 (k := k) (by omega)
      obtain ⟨ad2, y, rfl, hb2', b0, b1, b2, hy⟩ := (hr2.below (hbel.mono hB)).at3 (k := k) (by omega)
      have HC := Lib.hid (show Ev6 wr (ad1.add (k * 3)) (ad2.add (k * 3)) x y from ⟨a0, a1, a2, b0, b1, b2⟩)
      have hkx : k < xs.length := by omega
      have hky : k < ys.length := by omega
      have HBL := Lib.hid hbel
      clear hr1 hr2 hbel a0 a1 a2 b0 b1 b2
      go_wp2_with fail
      refine wp_region_plan (fun w' => Ev6 w' (ad1.add (k * 3)) (ad2.add (k * 3)) x y) [5, 11] (.take 0 (.take 1 (.take 2 (.take 3 (.take 4 (.take 5 (.take 7 (.take 8 (.take 9 (.take 10 (.take 11 (.run 6 (.run 12 (.run 13 (.take 14 .done))))))))))))))) (by kernel_rfl) (by kernel_rfl) ?_
      have HS := Lib.hid (show Ev6 wr.drew (ad1.add (k * 3)) (ad2.add (k * 3)) x y from HC.out)
      refine' wpP_pure (some 20) _ rfl rfl (by decide) (by rfl) (fun w' => _) _
      rotate_left
      (go_simp; first | done | rfl)
      simp only [Act.put, List.setIfInBounds_toArray, List.set_cons_zero, List.set_cons_succ]
      refine' wpP_pure (some 21) _ rfl rfl (by decide) (by rfl) (fun w' => _) _
      rotate_left
      (go_simp; first | done | rfl)
      simp only [Act.put, List.setIfInBounds_toArray, List.set_cons_zero, List.set_cons_succ]
      refine' wpP_pure (some 22) _ rfl rfl (by decide) (by rfl) (fun w' => _) _
      rotate_left
      (go_simp; first | done | rfl)
      simp only [Act.put, List.setIfInBounds_toArray, List.set_cons_zero, List.set_cons_succ]
      refine' wpP_pure (some 23) _ rfl rfl (by decide) (by rfl) (fun w' => _) _
      rotate_left
      (go_simp; first | done | rfl)
      simp only [Act.put, List.setIfInBounds_toArray, List.set_cons_zero, List.set_cons_succ]
      refine' wpP_pure (some 24) _ rfl rfl (by decide) (by rfl) (fun w' => _) _
      rotate_left
      (go_simp; first | done | rfl)
      simp only [Act.put, List.setIfInBounds_toArray, List.set_cons_zero, List.set_cons_succ]
      refine' wpP_load (some 25) _ rfl rfl (by decide) (by rfl) HS.out (fun w' hw => _) _
      rotate_left
      (obtain ⟨x0, x1, x2, y0, y1, y2⟩ := hw; go_simp; first | done | rfl)
      simp only [Act.put, List.setIfInBounds_toArray, List.set_cons_zero, List.set_cons_succ]
      refine' wpP_pure (some 27) _ rfl rfl (by decide) (by rfl) (fun w' => _) _
      rotate_left
      (go_simp; first | done | rfl)
      simp only [Act.put, List.setIfInBounds_toArray, List.set_cons_zero, List.set_cons_succ]
      refine' wpP_pure (some 28) _ rfl rfl (by decide) (by rfl) (fun w' => _) _
      rotate_left
      (go_simp; first | done | rfl)
      simp only [Act.put, List.setIfInBounds_toArray, List.set_cons_zero, List.set_cons_succ]
      refine' wpP_pure (some 29) _ rfl rfl (by decide) (by rfl) (fun w' => _) _
      rotate_left
      (go_simp; first | done | rfl)
      simp only [Act.put, List.setIfInBounds_toArray, List.set_cons_zero, List.set_cons_succ]
      refine' wpP_pure (some 30) _ rfl rfl (by decide) (by rfl) (fun w' => _) _
      rotate_left
      (go_simp; first | done | rfl)
      simp only [Act.put, List.setIfInBounds_toArray, List.set_cons_zero, List.set_cons_succ]
      refine' wpP_load (some 31) _ rfl rfl (by decide) (by rfl) HS.out (fun w' hw => _) _
      rotate_left
      (obtain ⟨x0, x1, x2, y0, y1, y2⟩ := hw; go_simp; first | done | rfl)
      simp only [Act.put, List.setIfInBounds_toArray, List.set_cons_zero, List.set_cons_succ]
      refine runOp_keep rfl (by rfl) (fun K hK => ?_)
      go_simp
      refine (conv_any x _).mono ?_
      rintro e w6 ⟨rfl, hb6⟩
      refine hK _ _ (fun hw => ?_) ?_
      · exact hw.below hb6
      clear hK K
      try simp only [Act.put, List.setIfInBounds_toArray, List.set_cons_zero, List.set_cons_succ]
      replace HS := Lib.hid (HS.out.below hb6)
      refine runOp_last rfl (by kernel_rfl) (by rfl) (fun K hK => ?_)
      go_simp
      refine (conv_any y _).mono ?_
      rintro e w12 ⟨rfl, hb12⟩
      refine hK _ _ ?_
      clear hK K
      try simp only [Act.put, List.setIfInBounds_toArray, List.set_cons_zero, List.set_cons_succ]
      refine runOp_last rfl (by kernel_rfl) (by rfl) (fun K hK => ?_)
      go_simp
      refine (evCompare_any x y _).mono ?_
      rintro e w13 ⟨rfl, hb13⟩
      refine hK _ _ ?_
      clear hK K
      try simp only [Act.put, List.setIfInBounds_toArray, List.set_cons_zero, List.set_cons_succ]
      refine' wpP_pure (some 11) _ rfl rfl (by decide) (by rfl) (fun w' => _) _
      rotate_left
      (go_simp; first | done | rfl)
      simp only [Act.put, List.setIfInBounds_toArray, List.set_cons_zero, List.set_cons_succ]
      refine NoPanic.normal ?_
      have HF := Lib.hid (HBL.out.trans (((((Below.refl wr.heap.size wr).drew).trans (hb6.mono (Nat.le_refl _))).trans (hb12.mono hb6.size)).trans (hb13.mono (Nat.le_trans hb6.size hb12.size)) |>.mono hsz))
      clear hb6 hb12 hb13
      by_cases hc : evCmp x y = 0
      · have hq : (evCmp x y != 0) = false := by simpa using hc
        have hxy := (evCmp_zero x y).1 hc
        have HX := Lib.hid hxy
        clear hc hxy
        go_wp2
        go_roundw
        case rel => exact ⟨k + 1, by omega, by go_num, take_eq_succ hx.out hy.out H.out HX.out, HF.out⟩
        case measure => simp [intOf]; omega
      · have hq : (evCmp x y != 0) = true := by simpa using hc
        have HX := Lib.hid (diffZ_at xs ys k x y H.out hx.out hy.out hc)
        clear hc
        go_wp2
        go_ret2
        exact ⟨by rw [HX.out]; rfl, HF.out⟩
    · obtain rfl : k = ys.length := by omega
      have HX := Lib.hid (diffZ_end xs ys (by rw [HM.out]; exact H.out))
      have HBL := Lib.hid hbel
      clear hr1 hr2 hbel
      go_wp2_with (go_at_call 52; refine (compare_any _ _ _).mono ?_; rintro e w' ⟨rfl, rfl⟩)
      go_ret2
      exact ⟨by rw [HX.out, HM.out]; rfl, HBL.out⟩

theorem differ_any (A1 A2 : Option Addr) (c1 c2 B : Nat) (xs ys : List Ev) (w : World) (hB : B ≤ w.heap.size) (hl1 : xs.length ≤ 1000000) (hl2 : ys.length ≤ 1000000)
    (hr1 : Reads w B 3 A1 xs.length (evs xs)) (hr2 : Reads w B 3 A2 ys.length (evs ys)) :
    Calls Try.prog 95 #[.slice A1 xs.length c1, .slice A2 ys.length c2, .func (.func 96) #[] #[], .func (.func 97) #[] #[]] w fun e w' =>
      e = .returned (.tuple #[.int .i64 ((diffZ xs ys).1 : Nat), .int .i64 (diffZ xs ys).2]) ∧ Below w.heap.size w w' := by
  rcases Nat.lt_or_ge ys.length xs.length with h | h
  · exact differ_b A1 A2 c1 c2 B xs ys w hB hl1 hl2 hr1 hr2 h
  · exact differ_a A1 A2 c1 c2 B xs ys w hB hl1 hl2 hr1 hr2 h

theorem Blk.two' {w : World} {g : Nat} {t : TypeId} {a b : Value} (h : Blk w g t #[a, b]) : w.cell? ⟨g, 0, none⟩ = some a ∧ w.cell? ⟨g, 1, none⟩ = some b :=
  ⟨by rw [h.cell 0]; rfl, by rw [h.cell 1]; rfl⟩
theorem below2 (w : World) (o o' : Obj) : Below w.heap.size w ((w.alloc o).alloc o') := ((Below.refl _ _).alloc (Nat.le_refl _) o).alloc (by simp) o'

set_option maxHeartbeats 1000000 in
theorem events_any (A1 A2 : Option Addr) (c1 c2 B : Nat) (xs ys : List Ev) (e1 e2 : Int) (w : World) (hB : B ≤ w.heap.size) (hl1 : xs.length ≤ 1000000) (hl2 : ys.length ≤ 1000000)
    (hr1 : Reads w B 3 A1 xs.length (evs xs)) (hr2 : Reads w B 3 A2 ys.length (evs ys)) :
    Calls Try.prog 86 #[.agg #[.slice A1 xs.length c1, .int .i64 e1], .agg #[.slice A2 ys.length c2, .int .i64 e2]] w fun e w' =>
      e = .returned (.tuple #[.int .i64 ((diffZ xs ys).1 : Nat), .int .i64 (diffZ xs ys).2]) ∧ Below w.heap.size w w' := by
  have q1 := (hr1.alloc hB (.cells #[.slice A1 xs.length c1, .int .i64 e1] 62)).alloc (by simp; omega) (.cells #[.slice A2 ys.length c2, .int .i64 e2] 62)
  have q2 := (hr2.alloc hB (.cells #[.slice A1 xs.length c1, .int .i64 e1] 62)).alloc (by simp; omega) (.cells #[.slice A2 ys.length c2, .int .i64 e2] 62)
  have HB := Lib.hid (below2 w (.cells #[.slice A1 xs.length c1, .int .i64 e1] 62) (.cells #[.slice A2 ys.length c2, .int .i64 e2] 62))
  clear hr1 hr2
  go_enter Try.func86, Try.ntmps86
  go_wp2_with fail
  refine (differ_any A1 A2 c1 c2 B xs ys _ (by simp; omega) hl1 hl2 q1 q2).mono ?_
  rintro e w1 ⟨rfl, hb1⟩
  have HF := Lib.hid (HB.out.trans (hb1.mono (by simp; omega)))
  clear hb1 q1 q2
  go_wp2
  go_ret2
  exact ⟨rfl, HF.out⟩

def cmpOut (xs ys : List Ev) (e1 e2 : Int) : Int := orZ [(diffZ xs ys).2, cmpZ e1 e2]
theorem cmpOut_eq (xs ys : List Ev) (e1 e2 : Int) : cmpOut xs ys e1 e2 = orZ [(diffZ xs ys).2, cmpZ e1 e2] := rfl

set_option maxRecDepth 100000 in
set_option maxHeartbeats 1000000 in
theorem runCompare_any (A1 A2 : Option Addr) (c1 c2 B : Nat) (xs ys : List Ev) (e1 e2 : Int) (w : World) (hB : B ≤ w.heap.size) (hl1 : xs.length ≤ 1000000) (hl2 : ys.length ≤ 1000000)
    (hr1 : Reads w B 3 A1 xs.length (evs xs)) (hr2 : Reads w B 3 A2 ys.length (evs ys)) :
    Calls Try.prog 72 #[.agg #[.slice A1 xs.length c1, .int .i64 e1], .agg #[.slice A2 ys.length c2, .int .i64 e2]] w fun e w' =>
      e = .returned (.int .i64 (cmpOut xs ys e1 e2)) ∧ Below w.heap.size w w' := by
  rw [cmpOut_eq]
  have q1 := (hr1.alloc hB (.cells #[.slice A1 xs.length c1, .int .i64 e1] 62)).alloc (by simp; omega) (.cells #[.slice A2 ys.length c2, .int .i64 e2] 62)
  have q2 := (hr2.alloc hB (.cells #[.slice A1 xs.length c1, .int .i64 e1] 62)).alloc (by simp; omega) (.cells #[.slice A2 ys.length c2, .int .i64 e2] 62)
  have HB := Lib.hid (below2 w (.cells #[.slice A1 xs.length c1, .int .i64 e1] 62) (.cells #[.slice A2 ys.length c2, .int .i64 e2] 62))
  have HB1 := Lib.hid (show Blk ((w.alloc (.cells #[.slice A1 xs.length c1, .int .i64 e1] 62)).alloc (.cells #[.slice A2 ys.length c2, .int .i64 e2] 62)) w.heap.size 62 #[.slice A1 xs.length c1, .int .i64 e1] from heap_alloc2_old w _ _)
  have HB2 := Lib.hid (show Blk ((w.alloc (.cells #[.slice A1 xs.length c1, .int .i64 e1] 62)).alloc (.cells #[.slice A2 ys.length c2, .int .i64 e2] 62)) (w.heap.size + 1) 62 #[.slice A2 ys.length c2, .int .i64 e2] from heap_alloc2_new w _ _)
  clear hr1 hr2
  go_enter Try.func72, Try.ntmps72
  go_wp2_with fail
  refine (events_any A1 A2 c1 c2 B xs ys e1 e2 _ (by simp; omega) hl1 hl2 q1 q2).mono ?_
  rintro e w1 ⟨rfl, hb1⟩
  have HF := Lib.hid (HB.out.trans (hb1.mono (by simp; omega)))
  obtain ⟨x0, x1⟩ := (HB1.out.below hb1 (by simp; omega)).two'
  obtain ⟨y0, y1⟩ := (HB2.out.below hb1 (by simp)).two'
  clear hb1 q1 q2 HB1 HB2 HB
  go_wp2_with (first | (go_at_call 52; refine (compare_any _ _ _).mono ?_; rintro e w' ⟨rfl, rfl⟩) | (go_at_call 87; refine (or2_any _ _ _ _ _ (Blk.new w1 3 _)).mono ?_; rintro e w' ⟨rfl, rfl⟩))
  go_ret
  exact ⟨rfl, HF.out.alloc HF.out.size _⟩

def sameOut (xs ys : List Ev) (e1 e2 : Int) : Bool := decide (xs = ys) && decide (e1 = e2)
theorem diffZ_zero : ∀ (xs ys : List Ev), (diffZ xs ys).2 = 0 ↔ xs = ys := by
  intro xs
  induction xs with
  | nil =>
    intro ys
    cases ys with
    | nil => simp [diffZ, cmpZ]
    | cons b ys => simp only [diffZ, cmpZ_zero]; simp; omega
  | cons a xs ih =>
    intro ys
    cases ys with
    | nil => simp only [diffZ, cmpZ_zero]; simp; omega
    | cons b ys =>
      rw [diffZ]
      by_cases h : evCmp a b = 0
      · rw [if_pos h, ih]; simp [(evCmp_zero a b).1 h]
      · rw [if_neg h]; simp only [h, false_iff]; intro e; injection e with e1 _; exact h ((evCmp_zero a b).2 e1)
theorem cmpOut_zero (xs ys : List Ev) (e1 e2 : Int) : (cmpOut xs ys e1 e2 == 0) = sameOut xs ys e1 e2 := by
  unfold cmpOut sameOut
  by_cases a : (diffZ xs ys).2 = 0 <;> by_cases b : cmpZ e1 e2 = 0 <;> simp [orZ, a, b, ← diffZ_zero xs ys, ← cmpZ_zero e1 e2]
end Go.Proofs.Ytlekojbcaelpiaa

/- slices.Equal at numbers and at events. -/
namespace Go.Proofs.Ytlekojbcaelpiaa
open Go.RowKit

set_option maxHeartbeats 400000 in
theorem equalInts_any (A1 A2 : Option Addr) (c1 c2 B1 B2 : Nat) (xs ys : List Int) (w : World) (hlx : xs.length ≤ 9223372036854775807) (hly : ys.length ≤ 9223372036854775807)
    (hr1 : Reads w B1 1 A1 xs.length (ints xs)) (hr2 : Reads w B2 1 A2 ys.length (ints ys)) :
    Calls Try.prog 70 #[.slice A1 xs.length c1, .slice A2 ys.length c2] w fun e w' => e = .returned (.bool (eqI xs ys)) ∧ ∃ n, w' = w.drewN n := by
  by_cases hl : xs.length = ys.length
  · have HL := Lib.hid hl
    rw [← hl] at hr2 ⊢
    clear hl
    go_enter Try.func70, Try.ntmps70
    go_wp2
    go_loopw [13] (fun i wr => ∃ k : Nat, k ≤ xs.length ∧ i = .int .i64 k ∧ xs.take k = ys.take k ∧ ∃ n, wr = w.drewN n) (fun i _ => xs.length - (intOf i).toNat)
    case atStart => exact ⟨0, by omega, rfl, rfl, 0, rfl⟩
    case round =>
      obtain ⟨k, hk, rfl, hik, n, rfl⟩ := hrel
      have H := Lib.hid hik; clear hik
      by_cases hlt : k < xs.length
      · obtain ⟨a1, x, rfl, _, hc1, hx⟩ := hr1.int_ hlt
        obtain ⟨a2, y, rfl, _, hc2, hy⟩ := hr2.int_ hlt
        clear hr1 hr2
        by_cases hxy : x = y
        · have hb : (x != y) = false := by simpa using hxy
          have HXY := Lib.hid hxy; clear hxy
          go_wp2
          go_quiet (fail)
          go_wp2
          go_roundw
          case rel => exact ⟨k + 1, by omega, by go_num, take_eq_succ hx.out hy.out H.out HXY.out, n + nq, rfl⟩
          case measure => simp [intOf]; omega
        · have hb : (x != y) = true := by simpa using hxy
          have HXY := Lib.hid (ne_of_at hx.out hy.out hxy); clear hxy
          go_wp2
          go_quiet (fail)
          go_wp2
          go_ret
          exact ⟨ret_bool (by simp [eqI, HXY.out]), n + nq, World.drewN_drewN _ _ _⟩
      · have he : xs = ys := by
          have := H.out
          rwa [List.take_of_length_le (by omega), List.take_of_length_le (by have := HL.out; omega)] at this
        have HE := Lib.hid he
        clear hr1 hr2 he
        go_wp2
        go_ret
        exact ⟨ret_bool (by simp [eqI, HE.out]), _, rfl⟩
  · have hne : xs ≠ ys := fun h => hl (by rw [h])
    have HN := Lib.hid hne
    have hb : ((xs.length : Int) != ys.length) = true := by rw [bne_iff_ne]; omega
    clear hr1 hr2 hne
    go_enter Try.func70, Try.ntmps70
    go_wp2
    go_ret
    exact ⟨ret_bool (by simp [eqI, HN.out]), 0, rfl⟩

def eqE (xs ys : List Ev) : Bool := decide (xs = ys)
theorem ev_eq {x y : Ev} (h : x = y) : (x.p == y.p) = true ∧ (x.k == y.k) = true ∧ (x.n == y.n) = true := by subst h; simp
theorem ev_ne {x y : Ev} (h : x ≠ y) : (x.p == y.p) = false ∨ ((x.p == y.p) = true ∧ (x.k == y.k) = false) ∨ ((x.p == y.p) = true ∧ (x.k == y.k) = true ∧ (x.n == y.n) = false) := by
  obtain ⟨p, k, n⟩ := x
  obtain ⟨p', k', n'⟩ := y
  by_cases h1 : p = p' <;> by_cases h2 : k = k' <;> by_cases h3 : n = n' <;> simp_all
set_option maxHeartbeats 400000 in
theorem equalEvs_any (A1 A2 : Option Addr) (c1 c2 B1 B2 : Nat) (xs ys : List Ev) (w : World) (hlx : xs.length ≤ 9223372036854775807) (hly : ys.length ≤ 9223372036854775807)
    (hr1 : Reads w B1 3 A1 xs.length (evs xs)) (hr2 : Reads w B2 3 A2 ys.length (evs ys)) :
    Calls Try.prog 57 #[.slice A1 xs.length c1, .slice A2 ys.length c2] w fun e w' => e = .returned (.bool (eqE xs ys)) ∧ ∃ n, w' = w.drewN n := by
  by_cases hl : xs.length = ys.length
  · have HL := Lib.hid hl
    rw [← hl] at hr2 ⊢
    clear hl
    go_enter Try.func57, Try.ntmps57
    go_wp2
    go_loopw [13] (fun i wr => ∃ k : Nat, k ≤ xs.length ∧ i = .int .i64 k ∧ xs.take k = ys.take k ∧ ∃ n, wr = w.drewN n) (fun i _ => xs.length - (intOf i).toNat)
    case atStart => exact ⟨0, by omega, rfl, rfl, 0, rfl⟩
    case round =>
      obtain ⟨k, hk, rfl, hik, n, rfl⟩ := hrel
      have H := Lib.hid hik; clear hik
      by_cases hlt : k < xs.length
      · obtain ⟨a1, x, rfl, _, p0, p1, p2, hx⟩ := hr1.at3 (k := k) (by omega)
        obtain ⟨a2, y, rfl, _, q0, q1, q2, hy⟩ := hr2.at3 (k := k) (by have := HL.out; omega)
        clear hr1 hr2
        by_cases hxy : x = y
        · obtain ⟨z1, z2, z3⟩ := ev_eq hxy
          have HXY := Lib.hid hxy; clear hxy
          go_wp2
          go_quiet (fail)
          go_wp2
          go_roundw
          case rel => exact ⟨k + 1, by omega, by go_num, take_eq_succ hx.out hy.out H.out HXY.out, n + nq, rfl⟩
          case measure => simp [intOf]; omega
        · have HXY := Lib.hid (ne_of_at hx.out hy.out hxy)
          rcases ev_ne hxy with z1 | ⟨z1, z2⟩ | ⟨z1, z2, z3⟩
          all_goals
            clear hxy
            go_wp2
            go_quiet (fail)
            go_wp2
            go_ret
            exact ⟨ret_bool (by simp [eqE, HXY.out]), n + nq, World.drewN_drewN _ _ _⟩
      · have he : xs = ys := by
          have := H.out
          rwa [List.take_of_length_le (by omega), List.take_of_length_le (by have := HL.out; omega)] at this
        have HE := Lib.hid he
        clear hr1 hr2 he
        go_wp2
        go_ret
        exact ⟨ret_bool (by simp [eqE, HE.out]), _, rfl⟩
  · have hne : xs ≠ ys := fun h => hl (by rw [h])
    have HN := Lib.hid hne
    have hb : ((xs.length : Int) != ys.length) = true := by rw [bne_iff_ne]; omega
    clear hr1 hr2 hne
    go_enter Try.func57, Try.ntmps57
    go_wp2
    go_ret
    exact ⟨ret_bool (by simp [eqE, HN.out]), 0, rfl⟩
end Go.Proofs.Ytlekojbcaelpiaa

/- run.Same; (Report).outcome; report.Agrees. -/
namespace Go.Proofs.Ytlekojbcaelpiaa
open Go.RowKit

set_option maxRecDepth 100000 in
set_option maxHeartbeats 1000000 in
theorem runSame_any (A1 A2 : Option Addr) (c1 c2 B : Nat) (xs ys : List Ev) (e1 e2 : Int) (w : World) (hB : B ≤ w.heap.size) (hl1 : xs.length ≤ 1000000) (hl2 : ys.length ≤ 1000000)
    (hr1 : Reads w B 3 A1 xs.length (evs xs)) (hr2 : Reads w B 3 A2 ys.length (evs ys)) :
    Calls Try.prog 58 #[.agg #[.slice A1 xs.length c1, .int .i64 e1], .agg #[.slice A2 ys.length c2, .int .i64 e2]] w fun e w' =>
      e = .returned (.bool (sameOut xs ys e1 e2)) ∧ Below w.heap.size w w' := by
  have q1 := (hr1.alloc hB (.cells #[.slice A1 xs.length c1, .int .i64 e1] 62)).alloc (by simp; omega) (.cells #[.slice A2 ys.length c2, .int .i64 e2] 62)
  have q2 := (hr2.alloc hB (.cells #[.slice A1 xs.length c1, .int .i64 e1] 62)).alloc (by simp; omega) (.cells #[.slice A2 ys.length c2, .int .i64 e2] 62)
  have HB := Lib.hid (below2 w (.cells #[.slice A1 xs.length c1, .int .i64 e1] 62) (.cells #[.slice A2 ys.length c2, .int .i64 e2] 62))
  have HC := Lib.hid (cmpOut_zero xs ys e1 e2)
  clear hr1 hr2
  go_enter Try.func58, Try.ntmps58
  go_wp2_with fail
  refine (runCompare_any A1 A2 c1 c2 B xs ys e1 e2 _ (by simp; omega) hl1 hl2 q1 q2).mono ?_
  rintro e w1 ⟨rfl, hb1⟩
  have HF := Lib.hid (HB.out.trans (hb1.mono (by simp; omega)))
  clear hb1 q1 q2 HB
  go_wp2
  go_ret
  exact ⟨ret_bool HC.out, HF.out⟩

theorem below_drewN {B : Nat} {a w : World} (h : Below B a w) (n : Nat) : Below B a (w.drewN n) := ⟨h.os, h.tape, h.output, h.size, h.block⟩
set_option maxHeartbeats 1000000 in
theorem outcomeOf_any (id ver en : Int) (cut : Bool) (A E : Option Addr) (na ca ne ce : Nat) (w : World) :
    Calls Try.prog 71 #[.agg #[.int .i64 id, .int .i64 ver, .slice A na ca, .slice E ne ce, .bool cut, .int .i64 en]] w fun e w' => e = .returned (.agg #[.slice E ne ce, .int .i64 en]) ∧ Below w.heap.size w w' := by
  go_enter Try.func71, Try.ntmps71
  go_wp2
  refine bodyPost_ret (v := .agg #[.slice E ne ce, .int .i64 en]) (by simp [results, Try.results71, go_sem]) rfl ⟨rfl, ?_⟩
  first
    | exact below2 w _ _
    | exact ((below2 w _ _).setCell (by simp) _).setCell (by simp) _

def agreesB (r : Rp) (oe : List Ev) (oen : Int) : Bool :=
  if r.cut then decide (r.events.length ≤ oe.length) && eqE r.events (oe.take r.events.length) else sameOut r.events oe r.en oen

theorem Reads.takeEv {w : World} {B n k : Nat} {A : Option Addr} {l : List Ev} (h : Reads w B 3 A n (evs l)) (hk : k ≤ l.length) : Reads w B 3 A (l.take k).length (evs (l.take k)) := by
  have hn : n = l.length := by have := h.1; rw [evs_length] at this; omega
  refine ⟨by rw [evs_length], fun h0 => ?_⟩
  obtain ⟨ad, e, hb, hc⟩ := h.2 (by simp at h0; omega)
  refine ⟨ad, e, hb, fun j u hu => hc j u ?_⟩
  have hsp : evs l = evs (l.take k) ++ evs (l.drop k) := by
    unfold evs; rw [← List.flatMap_append, List.take_append_drop]
  have hj : j < (evs (l.take k)).length := (List.getElem?_eq_some_iff.1 hu).1
  rw [hsp, List.getElem?_append_left hj]; exact hu

set_option maxRecDepth 100000 in
set_option maxHeartbeats 2000000 in
theorem agrees_full (id ver en oen : Int) (args : List Int) (events oe : List Ev) (va : Value) (E O : Option Addr) (ce co B : Nat) (w : World) (hB : B ≤ w.heap.size)
    (hle : events.length ≤ 1000000) (hlo : oe.length ≤ 1000000) (hr2 : Reads w B 3 E events.length (evs events)) (hro : Reads w B 3 O oe.length (evs oe)) (hva : ∃ A n c, va = .slice A n c) :
    Calls Try.prog 32 #[.agg #[.int .i64 id, .int .i64 ver, va, .slice E events.length ce, .bool false, .int .i64 en], .agg #[.slice O oe.length co, .int .i64 oen]] w fun e w' =>
      e = .returned (.bool (sameOut events oe en oen)) ∧ Below w.heap.size w w' := by
  obtain ⟨VA, vn, vc, rfl⟩ := hva
  have q1 := (hr2.alloc hB (.cells #[.int .i64 id, .int .i64 ver, .slice VA vn vc, .slice E events.length ce, .bool false, .int .i64 en] 30)).alloc (by simp; omega) (.cells #[.slice O oe.length co, .int .i64 oen] 62)
  have q2 := (hro.alloc hB (.cells #[.int .i64 id, .int .i64 ver, .slice VA vn vc, .slice E events.length ce, .bool false, .int .i64 en] 30)).alloc (by simp; omega) (.cells #[.slice O oe.length co, .int .i64 oen] 62)
  have HB := Lib.hid (below2 w (.cells #[.int .i64 id, .int .i64 ver, .slice VA vn vc, .slice E events.length ce, .bool false, .int .i64 en] 30) (.cells #[.slice O oe.length co, .int .i64 oen] 62))
  clear hr2 hro
  go_enter Try.func32, Try.ntmps32
  go_wp2_with fail
  refine (runSame_any E O ce co B events oe en oen _ (by simp; omega) hle hlo q1 q2).mono ?_
  rintro e w1 ⟨rfl, hb1⟩
  have HF := Lib.hid (HB.out.trans (hb1.mono (by simp; omega)))
  clear hb1 q1 q2 HB
  go_wp2
  go_ret
  exact ⟨rfl, HF.out⟩

set_option maxRecDepth 100000 in
set_option maxHeartbeats 2000000 in
theorem agrees_cut (id ver en oen : Int) (events oe : List Ev) (E O : Option Addr) (ce co B : Nat) (VA : Option Addr) (vn vc : Nat) (w : World) (hB : B ≤ w.heap.size)
    (hle : events.length ≤ 1000000) (hlo : oe.length ≤ 1000000) (hco : oe.length ≤ co) (hco2 : co ≤ maxLen) (hr2 : Reads w B 3 E events.length (evs events)) (hro : Reads w B 3 O oe.length (evs oe)) :
    Calls Try.prog 32 #[.agg #[.int .i64 id, .int .i64 ver, .slice VA vn vc, .slice E events.length ce, .bool true, .int .i64 en], .agg #[.slice O oe.length co, .int .i64 oen]] w fun e w' =>
      e = .returned (.bool (decide (events.length ≤ oe.length) && eqE events (oe.take events.length))) ∧ Below w.heap.size w w' := by
  unfold maxLen at hco2
  have HB := Lib.hid (below2 w (.cells #[.int .i64 id, .int .i64 ver, .slice VA vn vc, .slice E events.length ce, .bool true, .int .i64 en] 30) (.cells #[.slice O oe.length co, .int .i64 oen] 62))
  have q1 := (hr2.alloc hB (.cells #[.int .i64 id, .int .i64 ver, .slice VA vn vc, .slice E events.length ce, .bool true, .int .i64 en] 30)).alloc (by simp; omega) (.cells #[.slice O oe.length co, .int .i64 oen] 62)
  have q2 := (hro.alloc hB (.cells #[.int .i64 id, .int .i64 ver, .slice VA vn vc, .slice E events.length ce, .bool true, .int .i64 en] 30)).alloc (by simp; omega) (.cells #[.slice O oe.length co, .int .i64 oen] 62)
  by_cases hl : events.length ≤ oe.length
  · have q3 := q2.takeEv hl
    have hlen : (oe.take events.length).length = events.length := by rw [List.length_take]; omega
    rw [hlen] at q3
    have hres : (decide (events.length ≤ oe.length) && eqE events (oe.take events.length)) = eqE events (oe.take events.length) := by simp [hl]
    have hc := fun n => equalEvs_any E O ce co B B events (oe.take events.length) ((((w.alloc (.cells #[.int .i64 id, .int .i64 ver, .slice VA vn vc, .slice E events.length ce, .bool true, .int .i64 en] 30)).alloc (.cells #[.slice O oe.length co, .int .i64 oen] 62))).drewN n) (by omega) (by rw [hlen]; omega) (q1.drewN n) (by rw [hlen]; exact q3.drewN n)
    rw [hlen] at hc
    rw [hres]
    have HCC := Lib.hid hc
    clear hc hr2 hro q1 q2 q3 hres hlen
    go_enter Try.func32, Try.ntmps32
    go_wp2_with fail
    go_quiet ((go_at_call 57; exact Calls.quiet_of (HCC.out _)))
    go_wp2
    go_ret
    exact ⟨rfl, below_drewN HB.out _⟩
  · have hres : (decide (events.length ≤ oe.length) && eqE events (oe.take events.length)) = false := by simp [hl]
    rw [hres]
    have hd : decide (events.length ≤ oe.length) = false := by simpa using hl
    clear hr2 hro q1 q2 hres
    go_enter Try.func32, Try.ntmps32
    go_wp2_with fail
    go_quiet (fail)
    go_wp2
    go_ret
    exact ⟨rfl, below_drewN HB.out _⟩
end Go.Proofs.Ytlekojbcaelpiaa

/- The encoding of an integer, as lists of bytes: plain facts. -/
namespace Go.Proofs.Ytlekojbcaelpiaa
def nbF : Nat → Nat → Nat
  | 0, _ => 0
  | f + 1, m => if m = 0 then 0 else nbF f (m / 256) + 1
def nb (m : Nat) : Nat := nbF 9 m
theorem nbF_spec : ∀ f m, m < 256 ^ f → m < 256 ^ nbF f m ∧ (nbF f m = 0 ∨ 256 ^ (nbF f m - 1) ≤ m) := by
  intro f
  induction f with
  | zero => intro m h; exact ⟨h, .inl rfl⟩
  | succ f ih =>
    intro m h
    unfold nbF
    by_cases h0 : m = 0
    · rw [if_pos h0]; subst h0; exact ⟨by simp, .inl rfl⟩
    · rw [if_neg h0]
      have h1 : m / 256 < 256 ^ f := by rw [Nat.div_lt_iff_lt_mul (by omega)]; rw [Nat.pow_succ] at h; exact h
      obtain ⟨a, b⟩ := ih _ h1
      refine ⟨?_, .inr ?_⟩
      · rw [Nat.pow_succ]; exact (Nat.div_lt_iff_lt_mul (by omega)).1 a
      · rw [Nat.add_sub_cancel]
        rcases b with b | b
        · rw [b]; simp; omega
        · obtain ⟨q, hq⟩ : ∃ q, nbF f (m / 256) = q + 1 ∨ nbF f (m / 256) = 0 ∧ q = 0 := by
            rcases Nat.eq_zero_or_pos (nbF f (m / 256)) with e | e
            · exact ⟨0, .inr ⟨e, rfl⟩⟩
            · exact ⟨nbF f (m / 256) - 1, .inl (by omega)⟩
          rcases hq with hq | ⟨hq, _⟩
          · rw [hq] at b ⊢
            simp only [Nat.add_sub_cancel] at b
            rw [Nat.pow_succ]
            calc 256 ^ q * 256 ≤ m / 256 * 256 := Nat.mul_le_mul_right _ b
              _ ≤ m := Nat.div_mul_le_self _ _
          · rw [hq]; simp; omega
theorem nb_spec (m : Nat) (h : m < 9223372036854775808) : m < 256 ^ nb m ∧ (nb m = 0 ∨ 256 ^ (nb m - 1) ≤ m) := nbF_spec 9 m (by omega)
theorem nb_unique (m k : Nat) (h : m < 9223372036854775808) (h1 : m < 256 ^ k) (h2 : k = 0 ∨ 256 ^ (k - 1) ≤ m) : nb m = k := by
  obtain ⟨a, b⟩ := nb_spec m h
  rcases Nat.lt_trichotomy (nb m) k with c | c | c
  · exfalso
    rcases h2 with h2 | h2
    · omega
    · have : 256 ^ nb m ≤ 256 ^ (k - 1) := Nat.pow_le_pow_right (by omega) (by omega)
      omega
  · exact c
  · exfalso
    rcases b with b | b
    · omega
    · have : 256 ^ k ≤ 256 ^ (nb m - 1) := Nat.pow_le_pow_right (by omega) (by omega)
      omega
theorem nb_le (m : Nat) (h : m < 9223372036854775808) : nb m ≤ 8 := by
  obtain ⟨a, b⟩ := nb_spec m h
  rcases Nat.lt_or_ge 8 (nb m) with c | c
  · exfalso
    rcases b with b | b
    · omega
    · have : 256 ^ 8 ≤ 256 ^ (nb m - 1) := Nat.pow_le_pow_right (by omega) (by omega)
      omega
  · exact c
/-- the digit number i of m -/
def dg (m i : Nat) : Int := ((m / 256 ^ i % 256 : Nat) : Int)
/-- the first j of the k digits of m, the highest first -/
def digs (m k j : Nat) : List Int := (List.range j).map fun i => dg m (k - 1 - i)
theorem digs_length (m k j : Nat) : (digs m k j).length = j := by simp [digs]
theorem digs_succ (m k j : Nat) : digs m k (j + 1) = digs m k j ++ [dg m (k - 1 - j)] := by simp [digs, List.range_succ]
def mag (n : Int) : Nat := (if n < 0 then -(n + 1) else n).toNat
def flipB (n : Int) (d : Int) : Int := if n < 0 then 255 - d else d
def headB (n : Int) : Int := if n < 0 then 127 - nb (mag n) else 128 + nb (mag n)
def encZ (n : Int) : List Int := headB n :: (digs (mag n) (nb (mag n)) (nb (mag n))).map (flipB n)
theorem encZ_length (n : Int) : (encZ n).length = nb (mag n) + 1 := by simp [encZ, digs_length]
theorem mag_lt (n : Int) (h1 : -9223372036854775808 ≤ n) (h2 : n ≤ 9223372036854775807) : mag n < 9223372036854775808 := by unfold mag; split <;> omega
theorem dg_bd (m i : Nat) : 0 ≤ dg m i ∧ dg m i ≤ 255 := by unfold dg; omega
end Go.Proofs.Ytlekojbcaelpiaa

/- wire.Int: the encoding of one integer. -/
namespace Go.Proofs.Ytlekojbcaelpiaa
open Go.RowKit

theorem xor255 (d : Int) (h0 : 0 ≤ d) (h1 : d ≤ 255) : bits .xor .u8 d 255 = 255 - d := by
  have h : ∀ d : _root_.Fin 256, bits .xor .u8 ((d.val : Nat) : Int) 255 = 255 - ((d.val : Nat) : Int) := by decide +kernel
  obtain ⟨n, rfl⟩ := Int.eq_ofNat_of_zero_le h0
  exact h ⟨n, by omega⟩
theorem xor0 (d : Int) (h0 : 0 ≤ d) (h1 : d ≤ 255) : bits .xor .u8 d 0 = d := by
  have h : ∀ d : _root_.Fin 256, bits .xor .u8 ((d.val : Nat) : Int) 0 = ((d.val : Nat) : Int) := by decide +kernel
  obtain ⟨n, rfl⟩ := Int.eq_ofNat_of_zero_le h0
  exact h ⟨n, by omega⟩
theorem notNeg (M : Nat) (h1 : M ≤ 9223372036854775807) : bits .xor .u64 IntKind.u64.max (IntKind.u64.wrap (-1 - (M : Int))) = (M : Int) := by
  have e1 : IntKind.u64.max = 18446744073709551615 := by decide
  have e2 : IntKind.u64.wrap (-1 - (M : Int)) = ((18446744073709551615 - M : Nat) : Int) := by rw [IntKind.wrap_u64]; omega
  rw [e1, e2]
  show IntKind.u64.wrap ((BitVec.ofInt 64 18446744073709551615 ^^^ BitVec.ofInt 64 ((18446744073709551615 - M : Nat) : Int)).toNat : Int) = _
  have e3 : BitVec.ofInt 64 18446744073709551615 = BitVec.allOnes 64 := by decide
  rw [e3, BitVec.allOnes_xor, BitVec.toNat_not, BitVec.ofInt_natCast, BitVec.toNat_ofNat, IntKind.wrap_u64]
  omega
theorem dg_eq (M i : Nat) : (M : Int) / 2 ^ (8 * i) % 256 = dg M i := by
  unfold dg
  rw [show (2 : Int) ^ (8 * i) = ((256 ^ i : Nat) : Int) from by rw [Int.pow_mul]; norm_cast]
  omega
theorem pow8 (i : Nat) : (2 : Nat) ^ (8 * i) = 256 ^ i := by rw [Nat.pow_mul]

theorem pos_of_big (M k : Nat) (h : 256 ^ (k - 1) ≤ M) : 0 < (M : Int) / 2 ^ (8 * (k - 1)) := by
  rw [show (2 : Int) ^ (8 * (k - 1)) = ((256 ^ (k - 1) : Nat) : Int) from by rw [Int.pow_mul]; norm_cast]
  have := Nat.div_pos h (Nat.pow_pos (by omega))
  omega
theorem small_of (M k : Nat) (h : M < 256 ^ (k - 1)) : (M : Int) / 2 ^ (8 * (k - 1)) ≤ 0 := by
  rw [show (2 : Int) ^ (8 * (k - 1)) = ((256 ^ (k - 1) : Nat) : Int) from by rw [Int.pow_mul]; norm_cast]
  have := Nat.div_eq_of_lt h
  omega

def OutINeg (w : World) (M k : Nat) (wr : World) (j : Nat) (v : Value) : Prop :=
  wr.ownsRow w.heap.size 5 1 v (j + 1) (byts ((127 - (k : Int)) :: (digs M k j).map (fun d => 255 - d))) ∧ Below w.heap.size w wr
theorem outINeg_start (w : World) (M k : Nat) : OutINeg w M k (w.alloc (.cells #[.int .u8 ((127 - (k : Int)))] 5)) 0 (.slice (some ⟨w.heap.size, 0, none⟩) 1 1) :=
  ⟨World.ownsRow_lit w _ 1 (Nat.le_refl _) (by simp [maxLen]) rfl, (Below.refl _ _).alloc (Nat.le_refl _) _⟩
theorem outINeg_step {w wr w1 : World} {M k j : Nat} {v v' : Value} {o : Obj} (h : OutINeg w M k wr j v) (hg : (wr.alloc o).grownBy w1 v.ownBlock)
    (ho : w1.ownsRow w.heap.size 5 1 v' (j + 1 + 1) (byts ((127 - (k : Int)) :: (digs M k j).map (fun d => 255 - d)) ++ [.int .u8 (255 - dg M (k - 1 - j))])) : OutINeg w M k w1 (j + 1) v' := by
  obtain ⟨h1, h2⟩ := h
  refine ⟨?_, (h2.alloc h2.size o).grown hg (by simp; have := h2.size; omega) (fun q hq => (h1.lt q hq).1)⟩
  rw [digs_succ]
  simpa [byts] using ho
theorem outINeg_end {w wr : World} {M k : Nat} {v : Value} (h : OutINeg w M k wr k v) (hk : nb M = k) :
    wr.ownsRow w.heap.size 5 1 v (nb M + 1) (byts ((127 - (nb M : Int)) :: (digs M (nb M) (nb M)).map (fun d => 255 - d))) ∧ Below w.heap.size w wr := by
  rw [hk]; exact h

set_option maxRecDepth 100000 in
set_option maxHeartbeats 2000000 in
theorem wireIntNeg (M : Nat) (w : World) (h1 : M ≤ 9223372036854775807) :
    Calls Try.prog 60 #[.int .i64 (-1 - (M : Int))] w fun e w' => ∃ v, e = .returned v ∧ w'.ownsRow w.heap.size 5 1 v (nb M + 1) (byts ((127 - (nb M : Int)) :: (digs M (nb M) (nb M)).map (fun d => 255 - d))) ∧ Below w.heap.size w w' := by
  obtain ⟨i0, hi0, hz0, hz1, hz2⟩ := info_parts info5
  have hX := notNeg M h1
  go_enter Try.func60, Try.ntmps60
  go_wp2
  go_step3
  go_wp2
  go_step3
  go_wp2
  go_loop [5] (fun i => ∃ k : Nat, k ≤ 8 ∧ i = .int .i64 k ∧ M < 256 ^ k) (fun i => (intOf i).toNat)
  case atStart => exact ⟨8, by omega, rfl, by omega⟩
  case round =>
    obtain ⟨k, hk, rfl, ha⟩ := hrel
    have hhead : bits .xor .u8 (128 + (k : Int)) 255 = (127 - (k : Int)) := by rw [xor255 _ (by omega) (by omega)]; omega
    have HA := Lib.hid ha; clear ha
    by_cases hk0 : k = 0
    · subst hk0
      have HN := Lib.hid (nb_unique M 0 (by omega) HA.out (.inl rfl))
      have hhead0 : bits .xor .u8 128 255 = 127 := by rw [xor255 _ (by omega) (by omega)]; rfl
      go_wp2
      go_loopw [6, 7] (fun v i wr => ∃ j : Nat, j ≤ 0 ∧ i = .int .i64 ((0 : Int) - 1 - j) ∧ OutINeg w M 0 wr j v) (fun _ i _ => (intOf i + 1).toNat)
      case atStart => exact ⟨0, by omega, by first | rfl | (simp; done) | (congr 1; omega), by simpa using outINeg_start w M 0⟩
      case round =>
        obtain ⟨j, hj, rfl, hrel⟩ := hrel
        by_cases hjk : j < 0
        · exact absurd hjk (by omega)
        · obtain rfl : j = 0 := by omega
          have HE := Lib.hid (outINeg_end hrel HN.out)
          clear hrel
          go_wp2
          rw [Exit.noGoto_ret]
          go_ret
          exact ⟨_, rfl, HE.out⟩
    · have hk1 : 1 ≤ k := by omega
      by_cases hbig : 256 ^ (k - 1) ≤ M
      · have HN := Lib.hid (nb_unique M k (by omega) HA.out (.inr hbig))
        have hbig' : 0 < (M : Int) / 2 ^ (8 * (k - 1)) := pos_of_big M k hbig
        clear hbig
        go_wp2
        go_loopw [6, 7] (fun v i wr => ∃ j : Nat, j ≤ k ∧ i = .int .i64 ((k : Int) - 1 - j) ∧ OutINeg w M k wr j v) (fun _ i _ => (intOf i + 1).toNat)
        case atStart => exact ⟨0, by omega, by first | rfl | (simp; done) | (congr 1; omega), by exact outINeg_start w M k⟩
        case round =>
          obtain ⟨j, hj, rfl, hrel⟩ := hrel
          by_cases hjk : j < k
          · have hdg := dg_eq M (k - 1 - j)
            have hd1 := dg_bd M (k - 1 - j)
            have hdig : bits .xor .u8 ((M : Int) / 2 ^ (8 * (k - 1 - j)) % 256) 255 = 255 - dg M (k - 1 - j) := by rw [hdg, xor255 _ hd1.1 hd1.2]
            have hown := hrel.1
            have hsz := hrel.2.size
            have HR := Lib.hid hrel
            clear hrel hdg hd1
            go_wp2_with (at_builtin; refine wpList_append_lies _ rfl _ _ _ rfl w.heap.size 5 i0 _ 1 1 Try.underlying34 hi0 hz0 hz1 hz2 rfl (by omega) _ (j + 1) _ rfl (hown.alloc _) ⟨wr.heap.size, 0, none⟩ 1 1 [.int .u8 (255 - dg M (k - 1 - j))] rfl rfl (World.news_of_block (cs := #[.int .u8 (255 - dg M (k - 1 - j))]) (t := 5) (fr := (0, 0)) (heap_alloc_new wr _)) (by simp [Value.oneCell']) (by omega) (by simp only [maxLen]; omega) (by omega) (by simp; omega) (wr.heap.size + 1) (by simp) ?_; intro gg cap w1 hown1 hgrow hat hlt)
            go_roundw
            case rel => exact ⟨j + 1, by omega, by congr 1; omega, outINeg_step HR.out hgrow hown1⟩
            case measure => simp [intOf]; omega
          · obtain rfl : j = k := by omega
            have HE := Lib.hid (outINeg_end hrel HN.out)
            clear hrel
            go_wp2
            rw [Exit.noGoto_ret]
            go_ret
            exact ⟨_, rfl, HE.out⟩
      · have hsm : (M : Int) / 2 ^ (8 * (k - 1)) ≤ 0 := small_of M k (by omega)
        have HS := Lib.hid (Nat.lt_of_not_le hbig)
        clear hbig
        go_wp2
        go_round
        case rel => exact ⟨k - 1, by omega, by go_num, HS.out⟩
        case measure => simp [intOf]; omega

def OutIPos (w : World) (M k : Nat) (wr : World) (j : Nat) (v : Value) : Prop :=
  wr.ownsRow w.heap.size 5 1 v (j + 1) (byts ((128 + (k : Int)) :: (digs M k j).map (fun d => d))) ∧ Below w.heap.size w wr
theorem outIPos_start (w : World) (M k : Nat) : OutIPos w M k (w.alloc (.cells #[.int .u8 ((128 + (k : Int)))] 5)) 0 (.slice (some ⟨w.heap.size, 0, none⟩) 1 1) :=
  ⟨World.ownsRow_lit w _ 1 (Nat.le_refl _) (by simp [maxLen]) rfl, (Below.refl _ _).alloc (Nat.le_refl _) _⟩
theorem outIPos_step {w wr w1 : World} {M k j : Nat} {v v' : Value} {o : Obj} (h : OutIPos w M k wr j v) (hg : (wr.alloc o).grownBy w1 v.ownBlock)
    (ho : w1.ownsRow w.heap.size 5 1 v' (j + 1 + 1) (byts ((128 + (k : Int)) :: (digs M k j).map (fun d => d)) ++ [.int .u8 (dg M (k - 1 - j))])) : OutIPos w M k w1 (j + 1) v' := by
  obtain ⟨h1, h2⟩ := h
  refine ⟨?_, (h2.alloc h2.size o).grown hg (by simp; have := h2.size; omega) (fun q hq => (h1.lt q hq).1)⟩
  rw [digs_succ]
  simpa [byts] using ho
theorem outIPos_end {w wr : World} {M k : Nat} {v : Value} (h : OutIPos w M k wr k v) (hk : nb M = k) :
    wr.ownsRow w.heap.size 5 1 v (nb M + 1) (byts ((128 + (nb M : Int)) :: (digs M (nb M) (nb M)).map (fun d => d))) ∧ Below w.heap.size w wr := by
  rw [hk]; exact h

set_option maxRecDepth 100000 in
set_option maxHeartbeats 2000000 in
theorem wireIntPos (M : Nat) (w : World) (h1 : M ≤ 9223372036854775807) :
    Calls Try.prog 60 #[.int .i64 (M : Int)] w fun e w' => ∃ v, e = .returned v ∧ w'.ownsRow w.heap.size 5 1 v (nb M + 1) (byts ((128 + (nb M : Int)) :: (digs M (nb M) (nb M)).map (fun d => d))) ∧ Below w.heap.size w w' := by
  obtain ⟨i0, hi0, hz0, hz1, hz2⟩ := info_parts info5
  have hX : IntKind.u64.wrap (M : Int) = M := by rw [IntKind.wrap_u64]; omega
  go_enter Try.func60, Try.ntmps60
  go_wp2
  go_step3
  go_wp2
  go_step3
  go_wp2
  go_loop [5] (fun i => ∃ k : Nat, k ≤ 8 ∧ i = .int .i64 k ∧ M < 256 ^ k) (fun i => (intOf i).toNat)
  case atStart => exact ⟨8, by omega, rfl, by omega⟩
  case round =>
    obtain ⟨k, hk, rfl, ha⟩ := hrel
    have hhead : bits .xor .u8 (128 + (k : Int)) 0 = (128 + (k : Int)) := by rw [xor0 _ (by omega) (by omega)]
    have HA := Lib.hid ha; clear ha
    by_cases hk0 : k = 0
    · subst hk0
      have HN := Lib.hid (nb_unique M 0 (by omega) HA.out (.inl rfl))
      have hhead0 : bits .xor .u8 128 0 = 128 := by rw [xor0 _ (by omega) (by omega)]
      go_wp2
      go_loopw [6, 7] (fun v i wr => ∃ j : Nat, j ≤ 0 ∧ i = .int .i64 ((0 : Int) - 1 - j) ∧ OutIPos w M 0 wr j v) (fun _ i _ => (intOf i + 1).toNat)
      case atStart => exact ⟨0, by omega, by first | rfl | (simp; done) | (congr 1; omega), by simpa using outIPos_start w M 0⟩
      case round =>
        obtain ⟨j, hj, rfl, hrel⟩ := hrel
        by_cases hjk : j < 0
        · exact absurd hjk (by omega)
        · obtain rfl : j = 0 := by omega
          have HE := Lib.hid (outIPos_end hrel HN.out)
          clear hrel
          go_wp2
          rw [Exit.noGoto_ret]
          go_ret
          exact ⟨_, rfl, HE.out⟩
    · have hk1 : 1 ≤ k := by omega
      by_cases hbig : 256 ^ (k - 1) ≤ M
      · have HN := Lib.hid (nb_unique M k (by omega) HA.out (.inr hbig))
        have hbig' : 0 < (M : Int) / 2 ^ (8 * (k - 1)) := pos_of_big M k hbig
        clear hbig
        go_wp2
        go_loopw [6, 7] (fun v i wr => ∃ j : Nat, j ≤ k ∧ i = .int .i64 ((k : Int) - 1 - j) ∧ OutIPos w M k wr j v) (fun _ i _ => (intOf i + 1).toNat)
        case atStart => exact ⟨0, by omega, by first | rfl | (simp; done) | (congr 1; omega), by exact outIPos_start w M k⟩
        case round =>
          obtain ⟨j, hj, rfl, hrel⟩ := hrel
          by_cases hjk : j < k
          · have hdg := dg_eq M (k - 1 - j)
            have hd1 := dg_bd M (k - 1 - j)
            have hdig : bits .xor .u8 ((M : Int) / 2 ^ (8 * (k - 1 - j)) % 256) 0 = dg M (k - 1 - j) := by rw [hdg, xor0 _ hd1.1 hd1.2]
            have hown := hrel.1
            have hsz := hrel.2.size
            have HR := Lib.hid hrel
            clear hrel hdg hd1
            go_wp2_with (at_builtin; refine wpList_append_lies _ rfl _ _ _ rfl w.heap.size 5 i0 _ 1 1 Try.underlying34 hi0 hz0 hz1 hz2 rfl (by omega) _ (j + 1) _ rfl (hown.alloc _) ⟨wr.heap.size, 0, none⟩ 1 1 [.int .u8 (dg M (k - 1 - j))] rfl rfl (World.news_of_block (cs := #[.int .u8 (dg M (k - 1 - j))]) (t := 5) (fr := (0, 0)) (heap_alloc_new wr _)) (by simp [Value.oneCell']) (by omega) (by simp only [maxLen]; omega) (by omega) (by simp; omega) (wr.heap.size + 1) (by simp) ?_; intro gg cap w1 hown1 hgrow hat hlt)
            go_roundw
            case rel => exact ⟨j + 1, by omega, by congr 1; omega, outIPos_step HR.out hgrow hown1⟩
            case measure => simp [intOf]; omega
          · obtain rfl : j = k := by omega
            have HE := Lib.hid (outIPos_end hrel HN.out)
            clear hrel
            go_wp2
            rw [Exit.noGoto_ret]
            go_ret
            exact ⟨_, rfl, HE.out⟩
      · have hsm : (M : Int) / 2 ^ (8 * (k - 1)) ≤ 0 := small_of M k (by omega)
        have HS := Lib.hid (Nat.lt_of_not_le hbig)
        clear hbig
        go_wp2
        go_round
        case rel => exact ⟨k - 1, by omega, by go_num, HS.out⟩
        case measure => simp [intOf]; omega
end Go.Proofs.Ytlekojbcaelpiaa

/- scoriaref01.Int: the encoding of one integer. -/
namespace Go.Proofs.Ytlekojbcaelpiaa
open Go.RowKit

def ldigs (M j : Nat) : List Int := (List.range j).map (dg M)
theorem ldigs_length (M j : Nat) : (ldigs M j).length = j := by simp [ldigs]
theorem ldigs_succ (M j : Nat) : ldigs M (j + 1) = ldigs M j ++ [dg M j] := by simp [ldigs, List.range_succ]
theorem ldigs_at (M j i : Nat) (h : i < j) : (ldigs M j)[i]? = some (dg M i) := by simp [ldigs, h]
def LdR (w : World) (M : Nat) (wr : World) (j : Nat) (v : Value) : Prop :=
  wr.ownsRow w.heap.size 5 1 v j (byts (ldigs M j)) ∧ Below w.heap.size w wr ∧ (j = 0 ∨ 256 ^ (j - 1) ≤ M)
theorem ldR_le {w wr : World} {M j : Nat} {v : Value} (h : LdR w M wr j v) (hM : M ≤ 9223372036854775807) : j ≤ 8 := by
  rcases h.2.2 with h | h
  · omega
  · rcases Nat.lt_or_ge 8 j with c | c
    · have : 256 ^ 8 ≤ 256 ^ (j - 1) := Nat.pow_le_pow_right (by omega) (by omega)
      omega
    · exact c
theorem ldR_step {w wr w1 : World} {M j q : Nat} {v v' : Value} {o : Obj} (h : LdR w M wr j v) (hq : q = M / 256 ^ j) (h0 : 0 < q) (hg : (wr.alloc o).grownBy w1 v.ownBlock)
    (ho : w1.ownsRow w.heap.size 5 1 v' (j + 1) (byts (ldigs M j) ++ [.int .u8 ((q : Int) % 256)])) : LdR w M w1 (j + 1) v' := by
  obtain ⟨h1, h2, h3⟩ := h
  refine ⟨?_, (h2.alloc h2.size o).grown hg (by simp; have := h2.size; omega) (fun q hq => (h1.lt q hq).1), .inr ?_⟩
  · have e : (q : Int) % 256 = dg M j := by subst hq; unfold dg; omega
    rw [ldigs_succ]
    rw [e] at ho
    simpa [byts] using ho
  · rw [Nat.add_sub_cancel]
    rcases Nat.lt_or_ge M (256 ^ j) with c | c
    · rw [Nat.div_eq_of_lt c] at hq; omega
    · exact c
theorem ldR_nb {w wr : World} {M j q : Nat} {v : Value} (h : LdR w M wr j v) (hM : M ≤ 9223372036854775807) (hq : q = M / 256 ^ j) (h0 : ¬ 0 < q) : nb M = j := by
  refine nb_unique M j (by omega) ?_ h.2.2
  have : M / 256 ^ j = 0 := by omega
  exact (Nat.div_eq_zero_iff_lt (Nat.pow_pos (by omega))).1 this
theorem ldR_next {M j q : Nat} (hq : q = M / 256 ^ j) : q / 256 = M / 256 ^ (j + 1) := by
  rw [hq, Nat.div_div_eq_div_mul, Nat.pow_succ]
theorem own_reads {w : World} {base e n : Nat} {A : Option Addr} {c : Nat} {xs : List Value} (h : w.ownsRow base e 1 (.slice A n c) n xs) : Reads w w.heap.size 1 A n xs := Reads.of_own h

def OutNeg (w : World) (M k : Nat) (w0 wr : World) (j : Nat) (v : Value) : Prop :=
  wr.ownsRow w0.heap.size 5 1 v (j + 1) (byts ((127 - (k : Int)) :: (digs M k j).map (fun d => 255 - d))) ∧ Below w0.heap.size w0 wr
theorem outNeg_step {w w0 wr w1 : World} {M k j : Nat} {v v' : Value} {o : Obj} (h : OutNeg w M k w0 wr j v) (hg : (wr.alloc o).grownBy w1 v.ownBlock)
    (ho : w1.ownsRow w0.heap.size 5 1 v' (j + 1 + 1) (byts ((127 - (k : Int)) :: (digs M k j).map (fun d => 255 - d)) ++ [.int .u8 (255 - dg M (k - 1 - j))])) : OutNeg w M k w0 w1 (j + 1) v' := by
  obtain ⟨h1, h2⟩ := h
  refine ⟨?_, (h2.alloc h2.size o).grown hg (by simp; have := h2.size; omega) (fun q hq => (h1.lt q hq).1)⟩
  rw [digs_succ]
  simpa [byts] using ho
theorem outNeg_end {w w0 wr : World} {M k : Nat} {v : Value} (h : OutNeg w M k w0 wr k v) (hk : nb M = k) (hb : Below w.heap.size w w0) :
    wr.ownsRow w.heap.size 5 1 v (nb M + 1) (byts ((127 - (nb M : Int)) :: (digs M (nb M) (nb M)).map (fun d => 255 - d))) ∧ Below w.heap.size w wr := by
  rw [hk]; exact ⟨ownsRow_base h.1 hb.size, hb.trans (h.2.mono hb.size)⟩

set_option maxRecDepth 100000 in
set_option maxHeartbeats 2000000 in
theorem refIntNeg (M : Nat) (w : World) (h1 : M ≤ 9223372036854775807) :
    Calls Try.prog 64 #[.int .i64 (-1 - (M : Int))] w fun e w' => ∃ v, e = .returned v ∧ w'.ownsRow w.heap.size 5 1 v (nb M + 1) (byts ((127 - (nb M : Int)) :: (digs M (nb M) (nb M)).map (fun d => 255 - d))) ∧ Below w.heap.size w w' := by
  obtain ⟨i0, hi0, hz0, hz1, hz2⟩ := info_parts info5
  have hX : -1 - (-1 - (M : Int)) = M := by omega
  have hneg : decide (-1 - (M : Int) < 0) = true := by simp only [decide_eq_true_eq]; omega
  go_enter Try.func64, Try.ntmps64
  go_wp2
  go_loopw [3, 4] (fun m v wr => ∃ j q : Nat, m = .int .i64 q ∧ q ≤ M ∧ Hid (q = M / 256 ^ j) ∧ LdR w M wr j v) (fun m _ _ => (intOf m).toNat)
  case atStart => exact ⟨0, M, rfl, Nat.le_refl _, by show M = M / 256 ^ 0; simp, by simpa [ldigs, byts] using World.ownsRow_nil w w.heap.size 5 1, Below.refl _ _, .inl rfl⟩
  case round =>
    obtain ⟨j, q, rfl, hqM, hq, hrel⟩ := hrel
    have hj8 := ldR_le hrel h1
    have hown := hrel.1
    have hsz := hrel.2.1.size
    have HR := Lib.hid hrel
    clear hrel
    by_cases hq0 : 0 < q
    · go_wp2_with (at_builtin; refine wpList_append_lies _ rfl _ _ _ rfl w.heap.size 5 i0 _ 1 1 Try.underlying34 hi0 hz0 hz1 hz2 rfl (by omega) _ j _ rfl (hown.alloc _) ⟨wr.heap.size, 0, none⟩ 1 1 [.int .u8 ((q : Int) % 256)] rfl rfl (World.news_of_block (cs := #[.int .u8 ((q : Int) % 256)]) (t := 5) (fr := (0, 0)) (heap_alloc_new wr _)) (by simp [Value.oneCell']) (by omega) (by simp only [maxLen]; omega) (by omega) (by simp <;> omega) (wr.heap.size + 1) (by simp) ?_; intro gg cap w1 hown1 hgrow hat hlt)
      go_roundw
      case rel => first | exact ⟨j + 1, q / 256, by go_num, by omega, ldR_next hq.out, ldR_step HR.out hq.out hq0 hgrow hown1⟩ | ((repeat apply Exists.intro); exact ⟨⟨j + 1, q / 256, by go_num, by omega, ldR_next hq.out, ldR_step HR.out hq.out hq0 hgrow hown1⟩, rfl⟩)
      case measure => simp [intOf]; omega
    · have HN := Lib.hid (ldR_nb HR.out h1 hq.out hq0)
      obtain ⟨DA, dc, rfl, _, _⟩ := ownsRow_form hown
      have hrd := own_reads hown
      have hnil := World.ownsRow_nil wr wr.heap.size 5 1
      go_wp2_with (at_builtin; refine wpList_append_lies _ rfl _ _ _ rfl wr.heap.size 5 i0 _ 1 1 Try.underlying34 hi0 hz0 hz1 hz2 rfl (by omega) _ 0 _ rfl (hnil.alloc _) ⟨wr.heap.size, 0, none⟩ 1 1 [.int .u8 (127 - (j : Int))] rfl rfl (World.news_of_block (cs := #[.int .u8 (127 - (j : Int))]) (t := 5) (fr := (0, 0)) (heap_alloc_new wr _)) (by simp [Value.oneCell']) (by omega) (by simp only [maxLen]; omega) (by omega) (by simp <;> omega) (wr.heap.size + 1) (by simp) ?_; intro gg cap w1 hown1 hgrow hat hlt)
      have hg2 := hgrow
      have hgz : wr.heap.size + 1 ≤ w1.heap.size := by have := hgrow.size; simp at this; omega
      have hbw : Below wr.heap.size wr w1 := ((Below.refl _ _).alloc (Nat.le_refl _) _).grown hgrow (by simp) (fun k hk => by cases hk)
      have hrd1 : Reads w1 wr.heap.size 1 DA j (byts (ldigs M j)) := hrd.below hbw
      obtain ⟨wo, hwo⟩ : ∃ wo : World, wo = wr := ⟨_, rfl⟩
      have hstart : OutNeg w M j wo w1 0 (.slice (some ⟨gg, 0, none⟩) (0 + 1) cap) := by
        subst hwo
        exact ⟨by simpa [byts, digs] using hown1, hbw⟩
      have HB : Hid (Below w.heap.size w wo) := by rw [hwo]; exact HR.out.2.1
      have hrd2 : Reads w1 wo.heap.size 1 DA j (byts (ldigs M j)) := by rw [hwo]; exact hrd1
      have hszo : Hid (wo.heap.size ≤ w1.heap.size) := by rw [hwo]; exact Nat.le_of_succ_le hgz
      have HST := Lib.hid hstart
      have HRD := Lib.hid hrd2
      clear hstart hrd2 hrd hrd1 hbw hgrow hg2 hown1 hown HR hsz hgz hat hlt hnil hwo
      go_loopw [6, 7] (fun v i wr => ∃ p : Nat, p ≤ j ∧ i = .int .i64 ((j : Int) - 1 - p) ∧ OutNeg w M j wo wr p v ∧ Reads wr wo.heap.size 1 DA j (byts (ldigs M j))) (fun _ i _ => (intOf i + 1).toNat)
      case atStart => exact ⟨0, by omega, by first | rfl | (simp; done) | (congr 1; omega), HST.out, HRD.out⟩
      case round =>
        obtain ⟨p, hp, rfl, hrel, hrd⟩ := hrel
        by_cases hpj : p < j
        · obtain ⟨ad, x, rfl, _, hc, hx⟩ := hrd.byte_ (k := j - 1 - p) (by omega)
          have hxd : x = dg M (j - 1 - p) := by have := ldigs_at M j (j - 1 - p) (by omega); rw [hx.out] at this; exact Option.some.inj this
          have hd1 := dg_bd M (j - 1 - p)
          rw [← hxd] at hd1
          obtain ⟨hd0, hd1⟩ := hd1
          have HX := Lib.hid hxd
          have hown := hrel.1
          have hsz := hrel.2.size
          have HR := Lib.hid hrel
          have HRD := Lib.hid hrd
          clear hrel hrd hxd
          go_wp2_with (at_builtin; refine wpList_append_lies _ rfl _ _ _ rfl wo.heap.size 5 i0 _ 1 1 Try.underlying34 hi0 hz0 hz1 hz2 rfl (by omega) _ (p + 1) _ rfl (hown.alloc _) ⟨wr.heap.size, 0, none⟩ 1 1 [.int .u8 (255 - x)] rfl rfl (World.news_of_block (cs := #[.int .u8 (255 - x)]) (t := 5) (fr := (0, 0)) (heap_alloc_new wr _)) (by simp [Value.oneCell']) (by omega) (by simp only [maxLen]; omega) (by omega) (by simp <;> omega) (wr.heap.size + 1) (by simp) ?_; intro gg cap w1 hown1 hgrow hat hlt)
          go_roundw
          case rel =>
            refine ⟨p + 1, by omega, by congr 1; omega, outNeg_step HR.out hgrow (by rw [← HX.out]; exact hown1), ?_⟩
            exact (HRD.out.alloc (by omega) _).grown hgrow (by simp; omega) (fun g hg => (HR.out.1.lt g hg).1)
          case measure => simp [intOf]; omega
        · obtain rfl : p = j := by omega
          have HE := Lib.hid (outNeg_end hrel HN.out HB.out)
          clear hrel hrd
          go_wp2
          go_ret
          exact ⟨_, rfl, HE.out⟩

def OutPos (w : World) (M k : Nat) (w0 wr : World) (j : Nat) (v : Value) : Prop :=
  wr.ownsRow w0.heap.size 5 1 v (j + 1) (byts ((128 + (k : Int)) :: (digs M k j).map (fun d => d))) ∧ Below w0.heap.size w0 wr
theorem outPos_step {w w0 wr w1 : World} {M k j : Nat} {v v' : Value} {o : Obj} (h : OutPos w M k w0 wr j v) (hg : (wr.alloc o).grownBy w1 v.ownBlock)
    (ho : w1.ownsRow w0.heap.size 5 1 v' (j + 1 + 1) (byts ((128 + (k : Int)) :: (digs M k j).map (fun d => d)) ++ [.int .u8 (dg M (k - 1 - j))])) : OutPos w M k w0 w1 (j + 1) v' := by
  obtain ⟨h1, h2⟩ := h
  refine ⟨?_, (h2.alloc h2.size o).grown hg (by simp; have := h2.size; omega) (fun q hq => (h1.lt q hq).1)⟩
  rw [digs_succ]
  simpa [byts] using ho
theorem outPos_end {w w0 wr : World} {M k : Nat} {v : Value} (h : OutPos w M k w0 wr k v) (hk : nb M = k) (hb : Below w.heap.size w w0) :
    wr.ownsRow w.heap.size 5 1 v (nb M + 1) (byts ((128 + (nb M : Int)) :: (digs M (nb M) (nb M)).map (fun d => d))) ∧ Below w.heap.size w wr := by
  rw [hk]; exact ⟨ownsRow_base h.1 hb.size, hb.trans (h.2.mono hb.size)⟩

set_option maxRecDepth 100000 in
set_option maxHeartbeats 2000000 in
theorem refIntPos (M : Nat) (w : World) (h1 : M ≤ 9223372036854775807) :
    Calls Try.prog 64 #[.int .i64 (M : Int)] w fun e w' => ∃ v, e = .returned v ∧ w'.ownsRow w.heap.size 5 1 v (nb M + 1) (byts ((128 + (nb M : Int)) :: (digs M (nb M) (nb M)).map (fun d => d))) ∧ Below w.heap.size w w' := by
  obtain ⟨i0, hi0, hz0, hz1, hz2⟩ := info_parts info5
  skip
  go_enter Try.func64, Try.ntmps64
  go_wp2
  go_loopw [3, 4] (fun m v wr => ∃ j q : Nat, m = .int .i64 q ∧ q ≤ M ∧ Hid (q = M / 256 ^ j) ∧ LdR w M wr j v) (fun m _ _ => (intOf m).toNat)
  case atStart => exact ⟨0, M, rfl, Nat.le_refl _, by show M = M / 256 ^ 0; simp, by simpa [ldigs, byts] using World.ownsRow_nil w w.heap.size 5 1, Below.refl _ _, .inl rfl⟩
  case round =>
    obtain ⟨j, q, rfl, hqM, hq, hrel⟩ := hrel
    have hj8 := ldR_le hrel h1
    have hown := hrel.1
    have hsz := hrel.2.1.size
    have HR := Lib.hid hrel
    clear hrel
    by_cases hq0 : 0 < q
    · go_wp2_with (at_builtin; refine wpList_append_lies _ rfl _ _ _ rfl w.heap.size 5 i0 _ 1 1 Try.underlying34 hi0 hz0 hz1 hz2 rfl (by omega) _ j _ rfl (hown.alloc _) ⟨wr.heap.size, 0, none⟩ 1 1 [.int .u8 ((q : Int) % 256)] rfl rfl (World.news_of_block (cs := #[.int .u8 ((q : Int) % 256)]) (t := 5) (fr := (0, 0)) (heap_alloc_new wr _)) (by simp [Value.oneCell']) (by omega) (by simp only [maxLen]; omega) (by omega) (by simp <;> omega) (wr.heap.size + 1) (by simp) ?_; intro gg cap w1 hown1 hgrow hat hlt)
      go_roundw
      case rel => first | exact ⟨j + 1, q / 256, by go_num, by omega, ldR_next hq.out, ldR_step HR.out hq.out hq0 hgrow hown1⟩ | ((repeat apply Exists.intro); exact ⟨⟨j + 1, q / 256, by go_num, by omega, ldR_next hq.out, ldR_step HR.out hq.out hq0 hgrow hown1⟩, rfl⟩)
      case measure => simp [intOf]; omega
    · have HN := Lib.hid (ldR_nb HR.out h1 hq.out hq0)
      obtain ⟨DA, dc, rfl, _, _⟩ := ownsRow_form hown
      have hrd := own_reads hown
      have hnil := World.ownsRow_nil wr wr.heap.size 5 1
      go_wp2_with (at_builtin; refine wpList_append_lies _ rfl _ _ _ rfl wr.heap.size 5 i0 _ 1 1 Try.underlying34 hi0 hz0 hz1 hz2 rfl (by omega) _ 0 _ rfl (hnil.alloc _) ⟨wr.heap.size, 0, none⟩ 1 1 [.int .u8 (128 + (j : Int))] rfl rfl (World.news_of_block (cs := #[.int .u8 (128 + (j : Int))]) (t := 5) (fr := (0, 0)) (heap_alloc_new wr _)) (by simp [Value.oneCell']) (by omega) (by simp only [maxLen]; omega) (by omega) (by simp <;> omega) (wr.heap.size + 1) (by simp) ?_; intro gg cap w1 hown1 hgrow hat hlt)
      have hg2 := hgrow
      have hgz : wr.heap.size + 1 ≤ w1.heap.size := by have := hgrow.size; simp at this; omega
      have hbw : Below wr.heap.size wr w1 := ((Below.refl _ _).alloc (Nat.le_refl _) _).grown hgrow (by simp) (fun k hk => by cases hk)
      have hrd1 : Reads w1 wr.heap.size 1 DA j (byts (ldigs M j)) := hrd.below hbw
      obtain ⟨wo, hwo⟩ : ∃ wo : World, wo = wr := ⟨_, rfl⟩
      have hstart : OutPos w M j wo w1 0 (.slice (some ⟨gg, 0, none⟩) (0 + 1) cap) := by
        subst hwo
        exact ⟨by simpa [byts, digs] using hown1, hbw⟩
      have HB : Hid (Below w.heap.size w wo) := by rw [hwo]; exact HR.out.2.1
      have hrd2 : Reads w1 wo.heap.size 1 DA j (byts (ldigs M j)) := by rw [hwo]; exact hrd1
      have hszo : Hid (wo.heap.size ≤ w1.heap.size) := by rw [hwo]; exact Nat.le_of_succ_le hgz
      have HST := Lib.hid hstart
      have HRD := Lib.hid hrd2
      clear hstart hrd2 hrd hrd1 hbw hgrow hg2 hown1 hown HR hsz hgz hat hlt hnil hwo
      go_loopw [6, 7] (fun v i wr => ∃ p : Nat, p ≤ j ∧ i = .int .i64 ((j : Int) - 1 - p) ∧ OutPos w M j wo wr p v ∧ Reads wr wo.heap.size 1 DA j (byts (ldigs M j))) (fun _ i _ => (intOf i + 1).toNat)
      case atStart => exact ⟨0, by omega, by first | rfl | (simp; done) | (congr 1; omega), HST.out, HRD.out⟩
      case round =>
        obtain ⟨p, hp, rfl, hrel, hrd⟩ := hrel
        by_cases hpj : p < j
        · obtain ⟨ad, x, rfl, _, hc, hx⟩ := hrd.byte_ (k := j - 1 - p) (by omega)
          have hxd : x = dg M (j - 1 - p) := by have := ldigs_at M j (j - 1 - p) (by omega); rw [hx.out] at this; exact Option.some.inj this
          have hd1 := dg_bd M (j - 1 - p)
          rw [← hxd] at hd1
          obtain ⟨hd0, hd1⟩ := hd1
          have HX := Lib.hid hxd
          have hown := hrel.1
          have hsz := hrel.2.size
          have HR := Lib.hid hrel
          have HRD := Lib.hid hrd
          clear hrel hrd hxd
          go_wp2_with (at_builtin; refine wpList_append_lies _ rfl _ _ _ rfl wo.heap.size 5 i0 _ 1 1 Try.underlying34 hi0 hz0 hz1 hz2 rfl (by omega) _ (p + 1) _ rfl (hown.alloc _) ⟨wr.heap.size, 0, none⟩ 1 1 [.int .u8 x] rfl rfl (World.news_of_block (cs := #[.int .u8 x]) (t := 5) (fr := (0, 0)) (heap_alloc_new wr _)) (by simp [Value.oneCell']) (by omega) (by simp only [maxLen]; omega) (by omega) (by simp <;> omega) (wr.heap.size + 1) (by simp) ?_; intro gg cap w1 hown1 hgrow hat hlt)
          go_roundw
          case rel =>
            refine ⟨p + 1, by omega, by congr 1; omega, outPos_step HR.out hgrow (by rw [← HX.out]; exact hown1), ?_⟩
            exact (HRD.out.alloc (by omega) _).grown hgrow (by simp; omega) (fun g hg => (HR.out.1.lt g hg).1)
          case measure => simp [intOf]; omega
        · obtain rfl : p = j := by omega
          have HE := Lib.hid (outPos_end hrel HN.out HB.out)
          clear hrel hrd
          go_wp2
          go_ret
          exact ⟨_, rfl, HE.out⟩
end Go.Proofs.Ytlekojbcaelpiaa

/- wire.Int, scoriaref01.Int at every number; wire.Ints, scoriaref01.Ints. -/
namespace Go.Proofs.Ytlekojbcaelpiaa
open Go.RowKit

theorem own_below {w w' : World} {base e size n : Nat} {v : Value} {xs : List Value} (h : w.ownsRow base e size v n xs) (hb : Below w.heap.size w w') : w'.ownsRow base e size v n xs := by
  obtain ⟨h1, h2⟩ := h
  refine ⟨h1, ?_⟩
  rcases h2 with h2 | ⟨g, cap, cur, hv, hg, hh, r⟩
  · exact .inl h2
  · exact .inr ⟨g, cap, cur, hv, hg, by rw [hb.block g (lt_of_block hh)]; exact hh, r⟩
theorem encZ_neg (M : Nat) : encZ (-1 - (M : Int)) = (127 - (nb M : Int)) :: (digs M (nb M) (nb M)).map fun d => 255 - d := by
  have hm : mag (-1 - (M : Int)) = M := by unfold mag; rw [if_pos (by omega)]; omega
  have hf : flipB (-1 - (M : Int)) = fun d => 255 - d := by funext d; unfold flipB; rw [if_pos (by omega)]
  unfold encZ headB; rw [if_pos (by omega), hm, hf]
theorem encZ_pos (M : Nat) : encZ (M : Int) = (128 + (nb M : Int)) :: (digs M (nb M) (nb M)).map fun d => d := by
  have hm : mag (M : Int) = M := by unfold mag; rw [if_neg (by omega)]; omega
  have hf : flipB (M : Int) = fun d => d := by funext d; unfold flipB; rw [if_neg (by omega)]
  unfold encZ headB; rw [if_neg (by omega), hm, hf]
theorem encZ_le (n : Int) (h : I64 n) : (encZ n).length ≤ 9 := by rw [encZ_length]; have := nb_le (mag n) (mag_lt n h.1 h.2); omega
theorem encZ_u8 (n : Int) (h : I64 n) : U8s (encZ n) := by
  intro x hx
  have hk := nb_le (mag n) (mag_lt n h.1 h.2)
  unfold encZ at hx
  rcases List.mem_cons.1 hx with rfl | hx
  · unfold headB U8; split <;> omega
  · obtain ⟨d, hd, rfl⟩ := List.mem_map.1 hx
    obtain ⟨i, _, rfl⟩ := List.mem_map.1 hd
    have := dg_bd (mag n) (nb (mag n) - 1 - i)
    unfold flipB U8; split <;> omega

theorem wireInt_any (n : Int) (w : World) (h : I64 n) :
    Calls Try.prog 60 #[.int .i64 n] w fun e w' => ∃ v, e = .returned v ∧ w'.ownsRow w.heap.size 5 1 v (encZ n).length (byts (encZ n)) ∧ Below w.heap.size w w' := by
  obtain ⟨h1, h2⟩ := h
  rcases Int.lt_or_le n 0 with h0 | h0
  · obtain ⟨M, rfl⟩ : ∃ M : Nat, n = -1 - (M : Int) := ⟨(-1 - n).toNat, by omega⟩
    have hk := encZ_length (-1 - (M : Int))
    have hm : mag (-1 - (M : Int)) = M := by unfold mag; rw [if_pos (by omega)]; omega
    rw [hk, hm, encZ_neg]
    exact wireIntNeg M w (by omega)
  · obtain ⟨M, rfl⟩ : ∃ M : Nat, n = (M : Int) := ⟨n.toNat, by omega⟩
    have hk := encZ_length (M : Int)
    have hm : mag (M : Int) = M := by unfold mag; rw [if_neg (by omega)]; omega
    rw [hk, hm, encZ_pos]
    exact wireIntPos M w (by omega)

theorem refInt_any (n : Int) (w : World) (h : I64 n) :
    Calls Try.prog 64 #[.int .i64 n] w fun e w' => ∃ v, e = .returned v ∧ w'.ownsRow w.heap.size 5 1 v (encZ n).length (byts (encZ n)) ∧ Below w.heap.size w w' := by
  obtain ⟨h1, h2⟩ := h
  rcases Int.lt_or_le n 0 with h0 | h0
  · obtain ⟨M, rfl⟩ : ∃ M : Nat, n = -1 - (M : Int) := ⟨(-1 - n).toNat, by omega⟩
    have hk := encZ_length (-1 - (M : Int))
    have hm : mag (-1 - (M : Int)) = M := by unfold mag; rw [if_pos (by omega)]; omega
    rw [hk, hm, encZ_neg]
    exact refIntNeg M w (by omega)
  · obtain ⟨M, rfl⟩ : ∃ M : Nat, n = (M : Int) := ⟨n.toNat, by omega⟩
    have hk := encZ_length (M : Int)
    have hm : mag (M : Int) = M := by unfold mag; rw [if_neg (by omega)]; omega
    rw [hk, hm, encZ_pos]
    exact refIntPos M w (by omega)

def encTo (l : List Int) (k : Nat) : List Int := encZ l.length ++ (l.take k).flatMap encZ
def encInts (l : List Int) : List Int := encZ l.length ++ l.flatMap encZ
theorem encTo_zero (l : List Int) : encTo l 0 = encZ l.length := by simp [encTo]
theorem encTo_succ (l : List Int) (k : Nat) (x : Int) (hx : l[k]? = some x) : encTo l (k + 1) = encTo l k ++ encZ x := by
  unfold encTo; rw [List.take_add_one, hx]; simp
theorem encTo_end (l : List Int) : encTo l l.length = encInts l := by simp [encTo, encInts]
theorem flat_le (l : List Int) (h : I64s l) : (l.flatMap encZ).length ≤ 9 * l.length := by
  induction l with
  | nil => simp
  | cons a l ih =>
    have h1 := encZ_le a (h a (by simp))
    have h2 := ih (fun x hx => h x (by simp [hx]))
    rw [List.flatMap_cons, List.length_append, List.length_cons]; omega
theorem encTo_le (l : List Int) (k : Nat) (h : I64s l) (hl : l.length ≤ 1000000) : (encTo l k).length ≤ 9 * l.length + 9 := by
  have h1 := encZ_le (l.length : Int) ⟨by omega, by omega⟩
  have h2 := flat_le (l.take k) (fun x hx => h x (List.mem_of_mem_take hx))
  have h3 : (l.take k).length ≤ l.length := List.length_take_le' _ _
  unfold encTo; rw [List.length_append]; omega
def IntsR (w : World) (l : List Int) (wr : World) (k : Nat) (v : Value) : Prop :=
  wr.ownsRow w.heap.size 5 1 v (encTo l k).length (byts (encTo l k)) ∧ Below w.heap.size w wr
theorem intsR_step {w wr w1 w2 : World} {l : List Int} {k : Nat} {x : Int} {v v' : Value} (hx : l[k]? = some x) (h : IntsR w l wr k v) (hb : Below wr.heap.size wr w1)
    (hg : w1.grownBy w2 v.ownBlock) (ho : w2.ownsRow w.heap.size 5 1 v' ((encTo l k).length + (encZ x).length) (byts (encTo l k) ++ byts (encZ x))) : IntsR w l w2 (k + 1) v' := by
  obtain ⟨h1, h2⟩ := h
  refine ⟨?_, (h2.trans (hb.mono h2.size)).grown hg (Nat.le_trans h2.size hb.size) (fun q hq => (h1.lt q hq).1)⟩
  rw [encTo_succ l k x hx]
  simpa [byts] using ho

set_option maxRecDepth 100000 in
set_option maxHeartbeats 2000000 in
theorem wireInts_any (A : Option Addr) (c B : Nat) (l : List Int) (w : World) (hB : B ≤ w.heap.size) (hl : l.length ≤ 1000000) (hr : Reads w B 1 A l.length (ints l)) (hw : I64s l) :
    Calls Try.prog 43 #[.slice A l.length c] w fun e w' => ∃ v, e = .returned v ∧ w'.ownsRow w.heap.size 5 1 v (encInts l).length (byts (encInts l)) ∧ Below w.heap.size w w' := by
  obtain ⟨i0, hi0, hz0, hz1, hz2⟩ := info_parts info5
  have hlw : I64 (l.length : Int) := ⟨by omega, by omega⟩
  go_enter Try.func43, Try.ntmps43
  go_wp2_with fail
  refine (wireInt_any _ _ hlw).mono ?_
  rintro e w1 ⟨v1, rfl, hown1, hb1⟩
  have HST := Lib.hid (show IntsR w l w1 0 v1 from ⟨by rw [encTo_zero]; exact hown1, hb1⟩)
  clear hown1 hb1
  go_wp2_with fail
  go_loopw [3, 11] (fun v i wr => ∃ k : Nat, k ≤ l.length ∧ i = .int .i64 k ∧ IntsR w l wr k v) (fun _ i _ => l.length - (intOf i).toNat)
  case atStart => exact ⟨0, by omega, rfl, HST.out⟩
  case round =>
    obtain ⟨k, hk, rfl, hrel⟩ := hrel
    by_cases hlt : k < l.length
    · have hrk : Reads wr B 1 A l.length (ints l) := hr.below (hrel.2.mono hB) |>.more (Nat.le_refl _)
      obtain ⟨ad, x, rfl, _, hc, hx⟩ := hrk.int_ hlt
      have hwx := hw.at_ hx.out
      have HL := Lib.hid (encTo_le l k hw hl)
      have HX := Lib.hid (encZ_le x hwx)
      obtain ⟨VA, VC, rfl, _, _⟩ := ownsRow_form hrel.1
      have HR := Lib.hid hrel
      clear hrel hrk
      go_wp2_with fail
      refine (wireInt_any _ _ hwx).mono ?_
      rintro e w2 ⟨v2, rfl, hown2, hb2⟩
      obtain ⟨XA, XC, rfl, _, _⟩ := ownsRow_form hown2
      have hrx : Reads w2 w2.heap.size 1 XA (encZ x).length (byts (encZ x)) := Reads.of_own hown2
      have hown := own_below HR.out.1 hb2
      have hz := HR.out.2.size
      have hz2' := hb2.size
      have HB2 := Lib.hid hb2
      clear hown2 hb2
      go_wp2_with (at_builtin; refine wpList_append_any _ rfl _ _ _ rfl w.heap.size 5 i0 _ 1 1 Try.underlying34 hi0 hz0 hz1 hz2 rfl (by omega) _ _ _ rfl hown w2.heap.size XA _ XC _ rfl hrx (byts_oneCell _) (by simp only [maxLen]; have := HL.out; have := HX.out; omega) (by have := HL.out; have := HX.out; omega) (by omega) ?_; intro v3 w3 hown3 hgrow3 hat3)
      go_roundw
      case rel => exact ⟨k + 1, by omega, by go_num, intsR_step hx.out HR.out HB2.out hgrow3 hown3⟩
      case measure => simp [intOf]; omega
    · obtain rfl : k = l.length := by omega
      obtain ⟨ho, hb⟩ := hrel
      rw [encTo_end] at ho
      have HE := Lib.hid (And.intro ho hb)
      clear ho hb hr
      go_wp2
      go_ret
      exact ⟨_, rfl, HE.out⟩

set_option maxRecDepth 100000 in
set_option maxHeartbeats 2000000 in
theorem refInts_any (A : Option Addr) (c B : Nat) (l : List Int) (w : World) (hB : B ≤ w.heap.size) (hl : l.length ≤ 1000000) (hr : Reads w B 1 A l.length (ints l)) (hw : I64s l) :
    Calls Try.prog 46 #[.slice A l.length c] w fun e w' => ∃ v, e = .returned v ∧ w'.ownsRow w.heap.size 5 1 v (encInts l).length (byts (encInts l)) ∧ Below w.heap.size w w' := by
  obtain ⟨i0, hi0, hz0, hz1, hz2⟩ := info_parts info5
  have hlw : I64 (l.length : Int) := ⟨by omega, by omega⟩
  go_enter Try.func46, Try.ntmps46
  go_wp2_with fail
  refine (refInt_any _ _ hlw).mono ?_
  rintro e w1 ⟨v1, rfl, hown1, hb1⟩
  have HST := Lib.hid (show IntsR w l w1 0 v1 from ⟨by rw [encTo_zero]; exact hown1, hb1⟩)
  clear hown1 hb1
  go_wp2_with fail
  go_loopw [3, 4] (fun v i wr => ∃ k : Nat, k ≤ l.length ∧ i = .int .i64 k ∧ IntsR w l wr k v) (fun _ i _ => l.length - (intOf i).toNat)
  case atStart => exact ⟨0, by omega, rfl, HST.out⟩
  case round =>
    obtain ⟨k, hk, rfl, hrel⟩ := hrel
    by_cases hlt : k < l.length
    · have hrk : Reads wr B 1 A l.length (ints l) := hr.below (hrel.2.mono hB) |>.more (Nat.le_refl _)
      obtain ⟨ad, x, rfl, _, hc, hx⟩ := hrk.int_ hlt
      have hwx := hw.at_ hx.out
      have HL := Lib.hid (encTo_le l k hw hl)
      have HX := Lib.hid (encZ_le x hwx)
      obtain ⟨VA, VC, rfl, _, _⟩ := ownsRow_form hrel.1
      have HR := Lib.hid hrel
      clear hrel hrk
      go_wp2_with fail
      refine (refInt_any _ _ hwx).mono ?_
      rintro e w2 ⟨v2, rfl, hown2, hb2⟩
      obtain ⟨XA, XC, rfl, _, _⟩ := ownsRow_form hown2
      have hrx : Reads w2 w2.heap.size 1 XA (encZ x).length (byts (encZ x)) := Reads.of_own hown2
      have hown := own_below HR.out.1 hb2
      have hz := HR.out.2.size
      have hz2' := hb2.size
      have HB2 := Lib.hid hb2
      clear hown2 hb2
      go_wp2_with (at_builtin; refine wpList_append_any _ rfl _ _ _ rfl w.heap.size 5 i0 _ 1 1 Try.underlying34 hi0 hz0 hz1 hz2 rfl (by omega) _ _ _ rfl hown w2.heap.size XA _ XC _ rfl hrx (byts_oneCell _) (by simp only [maxLen]; have := HL.out; have := HX.out; omega) (by have := HL.out; have := HX.out; omega) (by omega) ?_; intro v3 w3 hown3 hgrow3 hat3)
      go_roundw
      case rel => exact ⟨k + 1, by omega, by go_num, intsR_step hx.out HR.out HB2.out hgrow3 hown3⟩
      case measure => simp [intOf]; omega
    · obtain rfl : k = l.length := by omega
      obtain ⟨ho, hb⟩ := hrel
      rw [encTo_end] at ho
      have HE := Lib.hid (And.intro ho hb)
      clear ho hb hr
      go_wp2
      go_ret
      exact ⟨_, rfl, HE.out⟩
end Go.Proofs.Ytlekojbcaelpiaa

/- report.Encode. -/
namespace Go.Proofs.Ytlekojbcaelpiaa
open Go.RowKit

def nums3 (x : Ev) : List Int := [x.p, x.k, x.n]
def nums (l : List Ev) : List Int := l.flatMap nums3
theorem nums_length (l : List Ev) : (nums l).length = 3 * l.length := by
  induction l with
  | nil => rfl
  | cons a l ih => simp [nums, nums3] at *; omega
theorem nums_succ (l : List Ev) (k : Nat) (x : Ev) (hx : l[k]? = some x) : nums (l.take (k + 1)) = nums (l.take k) ++ [x.p, x.k, x.n] := by
  unfold nums; rw [List.take_add_one, hx]; simp [nums3]
def cutN (c : Bool) : Int := if c then 1 else 0
def bytesR (r : Rp) : List Int := encInts [r.id, r.ver, cutN r.cut, r.en] ++ encInts r.args ++ encInts (nums r.events)
/-- all numbers of a report are of 64 bits -/
structure WfR (r : Rp) : Prop where
  id : I64 r.id
  ver : I64 r.ver
  en : I64 r.en
  args : I64s r.args
  evs : I64s (nums r.events)
theorem cutN_64 (c : Bool) : I64 (cutN c) := by cases c <;> exact ⟨by decide, by decide⟩
theorem WfR.four {r : Rp} (h : WfR r) : I64s [r.id, r.ver, cutN r.cut, r.en] := by
  intro x hx
  simp only [List.mem_cons, List.not_mem_nil, or_false] at hx
  rcases hx with rfl | rfl | rfl | rfl
  · exact h.id
  · exact h.ver
  · exact cutN_64 _
  · exact h.en
def Box6 (w : World) (g : Nat) (a b c d e f : Value) : Prop :=
  w.cell? ⟨g, 0, none⟩ = some a ∧ w.cell? ⟨g, 1, none⟩ = some b ∧ w.cell? ⟨g, 2, none⟩ = some c ∧ w.cell? ⟨g, 3, none⟩ = some d ∧ w.cell? ⟨g, 4, none⟩ = some e ∧ w.cell? ⟨g, 5, none⟩ = some f
theorem cell_below' {w w1 : World} {p : Addr} {v : Value} (hb : Below w.heap.size w w1) (h : w.cell? p = some v) : w1.cell? p = some v :=
  (hb.cell (World.block_lt_of_cell? w p h)).trans h
theorem Box6.below {w w1 : World} {g : Nat} {a b c d e f : Value} (h : Box6 w g a b c d e f) (hb : Below w.heap.size w w1) : Box6 w1 g a b c d e f := by
  obtain ⟨h0, h1, h2, h3, h4, h5⟩ := h
  exact ⟨cell_below' hb h0, cell_below' hb h1, cell_below' hb h2, cell_below' hb h3, cell_below' hb h4, cell_below' hb h5⟩
theorem Box6.new (w : World) (t : TypeId) (a b c d e f : Value) : Box6 (w.alloc (.cells #[a, b, c, d, e, f] t)) w.heap.size a b c d e f := by
  have h := Blk.new w t #[a, b, c, d, e, f]
  exact ⟨by rw [h.cell 0]; rfl, by rw [h.cell 1]; rfl, by rw [h.cell 2]; rfl, by rw [h.cell 3]; rfl, by rw [h.cell 4]; rfl, by rw [h.cell 5]; rfl⟩
theorem below_alloc (w : World) (o : Obj) : Below w.heap.size w (w.alloc o) := (Below.refl _ _).alloc (Nat.le_refl _) o
theorem below2' (w : World) (o o' : Obj) : Below w.heap.size w ((w.alloc o).alloc o') := ((Below.refl _ _).alloc (Nat.le_refl _) o).alloc (by simp) o'
def NumR (w : World) (l : List Ev) (wr : World) (k : Nat) (v : Value) : Prop :=
  wr.ownsRow w.heap.size 3 1 v (nums (l.take k)).length (ints (nums (l.take k))) ∧ Below w.heap.size w wr
theorem numR_start (w : World) (l : List Ev) : NumR w l w 0 (.slice none 0 0) := ⟨by simpa [nums, ints] using World.ownsRow_nil w w.heap.size 3 1, Below.refl _ _⟩
theorem numR_step {w wr w0 w1 : World} {l : List Ev} {k : Nat} {x : Ev} {v v' : Value} (hx : l[k]? = some x) (h : NumR w l wr k v) (hb : Below wr.heap.size wr w0) (hg : w0.grownBy w1 v.ownBlock)
    (ho : w1.ownsRow w.heap.size 3 1 v' ((nums (l.take k)).length + 3) (ints (nums (l.take k)) ++ [.int .i64 x.p, .int .i64 x.k, .int .i64 x.n])) : NumR w l w1 (k + 1) v' := by
  obtain ⟨h1, h2⟩ := h
  refine ⟨?_, (h2.trans (hb.mono h2.size)).grown hg (Nat.le_trans h2.size hb.size) (fun q hq => (h1.lt q hq).1)⟩
  rw [nums_succ l k x hx]
  simpa [ints] using ho
theorem wireInts4_any (a b c d : Int) (g cp : Nat) (w : World) (h : Blk w g 3 #[.int .i64 a, .int .i64 b, .int .i64 c, .int .i64 d]) (hw : I64s [a, b, c, d]) :
    Calls Try.prog 43 #[.slice (some ⟨g, 0, none⟩) 4 cp] w fun e w' => ∃ v, e = .returned v ∧ w'.ownsRow w.heap.size 5 1 v (encInts [a, b, c, d]).length (byts (encInts [a, b, c, d])) ∧ Below w.heap.size w w' :=
  wireInts_any _ cp (g + 1) [a, b, c, d] w h.lt (by simp) (reads_blk (cs := ints [a, b, c, d]) h rfl) hw
theorem encInts_le (l : List Int) (h : I64s l) (hl : l.length ≤ 1000000) : (encInts l).length ≤ 9 * l.length + 9 := by rw [← encTo_end]; exact encTo_le l _ h hl
theorem enc_end {w : World} {base : Nat} {v : Value} {id ver en c : Int} {args : List Int} {events : List Ev}
    (h : w.ownsRow base 5 1 v ((encInts [id, ver, c, en]).length + (encInts args).length + (encInts (nums events)).length) (byts (encInts [id, ver, c, en]) ++ byts (encInts args) ++ byts (encInts (nums events)))) :
    w.ownsRow base 5 1 v (encInts [id, ver, c, en] ++ encInts args ++ encInts (nums events)).length (byts (encInts [id, ver, c, en] ++ encInts args ++ encInts (nums events))) := by
  simpa [byts, Nat.add_assoc] using h

set_option maxRecDepth 100000 in
set_option maxHeartbeats 4000000 in
theorem encode_true (id ver en : Int) (args : List Int) (events : List Ev) (A E : Option Addr) (ca ce B : Nat) (w : World) (hB : B ≤ w.heap.size) (hla : args.length ≤ 1000000) (hle : events.length ≤ 300000)
    (hr1 : Reads w B 1 A args.length (ints args)) (hr2 : Reads w B 3 E events.length (evs events)) (hwf : WfR ⟨id, ver, args, events, true, en⟩) (hv : validB ⟨id, ver, args, events, true, en⟩ = true) :
    Calls Try.prog 14 #[.agg #[.int .i64 id, .int .i64 ver, .slice A args.length ca, .slice E events.length ce, .bool true, .int .i64 en]] w fun e w' => ∃ v, e = .returned v ∧ w'.ownsRow w.heap.size 5 1 v (bytesR ⟨id, ver, args, events, true, en⟩).length (byts (bytesR ⟨id, ver, args, events, true, en⟩)) ∧ Below w.heap.size w w' := by
  obtain ⟨i5, hi5, hz50, hz51, hz52⟩ := info_parts info5
  obtain ⟨i3, hi3, hz30, hz31, hz32⟩ := info_parts info3
  have q1 := hr1.alloc hB (.cells #[.int .i64 id, .int .i64 ver, .slice A args.length ca, .slice E events.length ce, .bool true, .int .i64 en] 30)
  have q2 := hr2.alloc hB (.cells #[.int .i64 id, .int .i64 ver, .slice A args.length ca, .slice E events.length ce, .bool true, .int .i64 en] 30)
  have HC0 := Lib.hid (Box6.new w 30 (.int .i64 id) (.int .i64 ver) (.slice A args.length ca) (.slice E events.length ce) (.bool true) (.int .i64 en))
  have HV := Lib.hid hv
  have HWF := Lib.hid hwf
  clear hr1 hr2 hv hwf
  obtain ⟨x0, x1, x2, x3, x4, x5⟩ := HC0.out
  go_enter Try.func14, Try.ntmps14
  go_wp2_with fail
  refine (valid_any ⟨id, ver, args, events, true, en⟩ A E ca ce B _ (by simp; omega) hla (by show events.length ≤ 1000000; omega) q1 q2 HWF.out.en).mono ?_
  rintro e w1 ⟨rfl, hb1⟩
  rw [HV.out]
  have HB1 := Lib.hid ((below_alloc w (.cells #[.int .i64 id, .int .i64 ver, .slice A args.length ca, .slice E events.length ce, .bool true, .int .i64 en] 30)).trans (hb1.mono (by simp)))
  have r1 := q1.below (hb1.mono (by simp; omega))
  have r2 := q2.below (hb1.mono (by simp; omega))
  have HC1 := Lib.hid (HC0.out.below hb1)
  have hsz1 : w.heap.size + 1 ≤ w1.heap.size := by have := hb1.size; simpa using this
  clear hb1 q1 q2 x0 x1 x2 x3 x4 x5 HC0
  obtain ⟨x0, x1, x2, x3, x4, x5⟩ := HC1.out
  go_wp2_with fail
  clear x0 x1 x2 x3 x4 x5
  go_loopw [4, 16] (fun v i wr => ∃ k : Nat, k ≤ events.length ∧ i = .int .i64 k ∧ NumR w1 events wr k v) (fun _ i _ => events.length - (intOf i).toNat)
  case atStart => exact ⟨0, by omega, rfl, numR_start w1 events⟩
  case round =>
    obtain ⟨k, hk, rfl, hrel⟩ := hrel
    by_cases hlt : k < events.length
    · obtain ⟨ad, x, rfl, hadB, d0, d1, d2, hx⟩ := (r2.below (hrel.2.mono (by omega))).at3 (k := k) hlt
      have hn : (nums (events.take k)).length = 3 * k := by rw [nums_length, List.length_take]; omega
      obtain ⟨VA, VC, rfl, _, _⟩ := ownsRow_form hrel.1
      have hown := hrel.1
      have hsz := hrel.2.size
      have HR := Lib.hid hrel
      have HN := Lib.hid hn
      clear hrel hn r1 r2
      go_wp2_with (at_builtin; refine wpList_append_lies _ rfl _ _ _ rfl w1.heap.size 3 i3 _ 1 8 Try.underlying22 hi3 hz30 hz31 hz32 rfl (by omega) _ _ _ rfl ((hown.alloc _).alloc _) ⟨wr.heap.size + 1, 0, none⟩ 3 3 [.int .i64 x.p, .int .i64 x.k, .int .i64 x.n] rfl rfl (World.news_of_block (cs := #[.int .i64 x.p, .int .i64 x.k, .int .i64 x.n]) (t := 3) (fr := (0, 0)) (heap_alloc2_new wr _ _)) (by simp [Value.oneCell']) (by omega) (by simp only [maxLen]; have := HN.out; omega) (by have := HN.out; omega) (by simp; omega) (wr.heap.size + 2) (by simp) ?_; intro gg cap w3 hown3 hgrow3 hat3 hlt3)
      go_roundw
      case rel => exact ⟨k + 1, by omega, by go_num, numR_step hx.out HR.out (below2' wr _ _) hgrow3 hown3⟩
      case measure => simp [intOf]; omega
    · obtain rfl : k = events.length := by omega
      rw [NumR, List.take_length] at hrel
      obtain ⟨NA, NC, rfl, _, _⟩ := ownsRow_form hrel.1
      have HNO := Lib.hid hrel.1
      have HBW0 := Lib.hid hrel.2
      have HRA := Lib.hid r1
      have HBS := Lib.hid (show B ≤ w1.heap.size by omega)
      have HBX0 := Lib.hid (HC1.out.below hrel.2)
      have H4 := Lib.hid (show I64s [id, ver, 1, en] from HWF.out.four)
      have HWA := Lib.hid HWF.out.args
      clear hrel r1 r2
      go_wp2_with fail
      refine wp_region_plan (fun w' => Box6 w' w.heap.size (.int .i64 id) (.int .i64 ver) (.slice A args.length ca) (.slice E events.length ce) (.bool true) (.int .i64 en)) [1, 3, 6, 10] (.take 0 (.take 1 (.take 2 (.take 3 (.take 4 (.take 5 (.take 6 (.take 9 (.take 10 (.run 7 (.run 8 (.run 11 (.run 12 (.take 13 .done)))))))))))))) (by kernel_rfl) (by kernel_rfl) ?_
      change wpP _ _ _ _ _ _ _ _ wr.drew
      have HS := Lib.hid (show Box6 wr.drew w.heap.size (.int .i64 id) (.int .i64 ver) (.slice A args.length ca) (.slice E events.length ce) (.bool true) (.int .i64 en) from HBX0.out)
      refine' wpP_pure (some 30) _ rfl rfl (by decide) (by rfl) (fun w' => _) _
      rotate_left
      (go_simp; first | done | rfl)
      simp only [Act.put, List.setIfInBounds_toArray, List.set_cons_zero, List.set_cons_succ, List.getElem_toArray, List.getElem_cons_succ, List.getElem_cons_zero]
      refine' wpP_load (some 31) _ rfl rfl (by decide) (by rfl) HS.out (fun w' hw => _) _
      rotate_left
      (obtain ⟨x0, x1, x2, x3, x4, x5⟩ := hw; go_simp; first | done | rfl)
      simp only [Act.put, List.setIfInBounds_toArray, List.set_cons_zero, List.set_cons_succ, List.getElem_toArray, List.getElem_cons_succ, List.getElem_cons_zero]
      refine' wpP_pure (some 32) _ rfl rfl (by decide) (by rfl) (fun w' => _) _
      rotate_left
      (go_simp; first | done | rfl)
      simp only [Act.put, List.setIfInBounds_toArray, List.set_cons_zero, List.set_cons_succ, List.getElem_toArray, List.getElem_cons_succ, List.getElem_cons_zero]
      refine' wpP_load (some 33) _ rfl rfl (by decide) (by rfl) HS.out (fun w' hw => _) _
      rotate_left
      (obtain ⟨x0, x1, x2, x3, x4, x5⟩ := hw; go_simp; first | done | rfl)
      simp only [Act.put, List.setIfInBounds_toArray, List.set_cons_zero, List.set_cons_succ, List.getElem_toArray, List.getElem_cons_succ, List.getElem_cons_zero]
      refine' wpP_pure (some 34) _ rfl rfl (by decide) (by rfl) (fun w' => _) _
      rotate_left
      (go_simp; first | done | rfl)
      simp only [Act.put, List.setIfInBounds_toArray, List.set_cons_zero, List.set_cons_succ, List.getElem_toArray, List.getElem_cons_succ, List.getElem_cons_zero]
      refine' wpP_pure (some 35) _ rfl rfl (by decide) (by rfl) (fun w' => _) _
      rotate_left
      (go_simp; first | done | rfl)
      simp only [Act.put, List.setIfInBounds_toArray, List.set_cons_zero, List.set_cons_succ, List.getElem_toArray, List.getElem_cons_succ, List.getElem_cons_zero]
      refine' wpP_load (some 36) _ rfl rfl (by decide) (by rfl) HS.out (fun w' hw => _) _
      rotate_left
      (obtain ⟨x0, x1, x2, x3, x4, x5⟩ := hw; go_simp; first | done | rfl)
      simp only [Act.put, List.setIfInBounds_toArray, List.set_cons_zero, List.set_cons_succ, List.getElem_toArray, List.getElem_cons_succ, List.getElem_cons_zero]
      refine' wpP_pure (some 39) _ rfl rfl (by decide) (by rfl) (fun w' => _) _
      rotate_left
      (go_simp; first | done | rfl)
      simp only [Act.put, List.setIfInBounds_toArray, List.set_cons_zero, List.set_cons_succ, List.getElem_toArray, List.getElem_cons_succ, List.getElem_cons_zero]
      refine' wpP_load (some 40) _ rfl rfl (by decide) (by rfl) HS.out (fun w' hw => _) _
      rotate_left
      (obtain ⟨x0, x1, x2, x3, x4, x5⟩ := hw; go_simp; first | done | rfl)
      simp only [Act.put, List.setIfInBounds_toArray, List.set_cons_zero, List.set_cons_succ, List.getElem_toArray, List.getElem_cons_succ, List.getElem_cons_zero]
      refine runOp_keep rfl (by rfl) (fun K hK => ?_)
      go_simp
      refine hK _ _ (fun hw => ?_) ?_
      · exact hw.below (below_alloc _ _)
      clear hK K
      try simp only [Act.put, List.setIfInBounds_toArray, List.set_cons_zero, List.set_cons_succ, List.getElem_toArray, List.getElem_cons_succ, List.getElem_cons_zero]
      replace HS := Lib.hid (HS.out.below (below_alloc wr.drew (.cells #[.int .i64 id, .int .i64 ver, .int .i64 1, .int .i64 en] 3)))
      refine runOp_keep rfl (by rfl) (fun K hK => ?_)
      go_simp
      refine (wireInts4_any _ _ _ _ _ _ _ (Blk.new wr.drew 3 _) H4.out).mono ?_
      rintro e w8 ⟨v8, rfl, hown8, hb8⟩
      refine hK _ _ (fun hw => ?_) ?_
      · exact hw.below hb8
      clear hK K
      try simp only [Act.put, List.setIfInBounds_toArray, List.set_cons_zero, List.set_cons_succ, List.getElem_toArray, List.getElem_cons_succ, List.getElem_cons_zero]
      replace HS := Lib.hid (HS.out.below hb8)

      refine runOp_last rfl (by kernel_rfl) (by rfl) (fun K hK => ?_)
      have hb81 : Below w1.heap.size w1 w8 := (HBW0.out.drew.trans ((below_alloc wr.drew _).mono HBW0.out.drew.size)).trans (hb8.mono (Nat.le_trans HBW0.out.drew.size (below_alloc wr.drew _).size))
      have hra := HRA.out.below (hb81.mono HBS.out)
      have hB8 : B ≤ w8.heap.size := Nat.le_trans HBS.out hb81.size
      go_simp
      refine (wireInts_any A ca B args _ hB8 hla hra HWA.out).mono ?_
      rintro e w11 ⟨v11, rfl, hown11, hb11⟩
      refine hK _ _ ?_
      clear hK K
      try simp only [Act.put, List.setIfInBounds_toArray, List.set_cons_zero, List.set_cons_succ, List.getElem_toArray, List.getElem_cons_succ, List.getElem_cons_zero]
      refine runOp_last rfl (by kernel_rfl) (by rfl) (fun K hK => ?_)
      obtain ⟨XA, XC, rfl, _, _⟩ := ownsRow_form hown11
      have hrx := Reads.of_own hown11
      have hown := own_below hown8 hb11
      have hz8 := hb8.size
      have hz11 := hb11.size
      have hL1 := encInts_le _ H4.out (by simp)
      have hL2 := encInts_le _ HWA.out hla
      simp only [List.length_cons, List.length_nil] at hL1
      refine wp_append_any _ _ _ _ rfl (wr.drew.heap.size + 1) 5 i5 _ 1 1 Try.underlying34 hi5 hz50 hz51 hz52 rfl (by omega) v8 _ _ rfl (by simpa using hown) w11.heap.size XA _ XC _ rfl hrx (byts_oneCell _) (by simp only [maxLen]; omega) (by omega) (Nat.le_trans (show wr.heap.size + 1 ≤ w8.heap.size from by have := hb8.size; simpa using this) hb11.size) ?_
      intro v12 w12 hown12 hgrow12 hat12
      refine hK _ _ ?_
      clear hK K
      try simp only [Act.put, List.setIfInBounds_toArray, List.set_cons_zero, List.set_cons_succ, List.getElem_toArray, List.getElem_cons_succ, List.getElem_cons_zero]
      refine' wpP_pure (some 7) _ rfl rfl (by decide) (by rfl) (fun w' => _) _
      rotate_left
      (go_simp; first | done | rfl)
      simp only [Act.put, List.setIfInBounds_toArray, List.set_cons_zero, List.set_cons_succ, List.getElem_toArray, List.getElem_cons_succ, List.getElem_cons_zero]
      refine NoPanic.normal ?_
      have c1 : Below wr.heap.size wr w8 := ((Below.refl wr.heap.size wr).drew.trans (below_alloc wr.drew _)).trans (hb8.mono (by simp))
      have c2 : Below wr.heap.size wr w11 := c1.trans (hb11.mono c1.size)
      have c3 : Below wr.heap.size wr w12 := c2.grown hgrow12 c2.size (fun q hq => by have := (hown8.lt q hq).1; simp at this; omega)
      have hnr := Reads.of_own (own_below HNO.out c3)
      have HE := Lib.hid (HB1.out.trans ((HBW0.out.trans (c3.mono HBW0.out.size)).mono (by omega)))
      have HO := Lib.hid (ownsRow_base hown12 (show w.heap.size ≤ wr.heap.size + 1 by have := HBW0.out.size; omega))
      have hz12 : w.heap.size ≤ w12.heap.size := HE.out.size
      have hln : (nums events).length ≤ 1000000 := by rw [nums_length]; omega
      have HL1 := Lib.hid hL1
      have HL2 := Lib.hid hL2
      have HL3 := Lib.hid (encInts_le _ HWF.out.evs hln)
      have HLN := Lib.hid (nums_length events)
      clear c1 c2 c3 hgrow12 hown12 hown8 hown11 hb8 hb11 hb81 hra hrx hown hz8 hz11 hL1 hL2 hat12 HS HBX0 HRA HNO HBW0 HC1
      go_wp2_with fail
      refine (wireInts_any NA NC w12.heap.size (nums events) w12 (Nat.le_refl _) hln hnr HWF.out.evs).mono ?_
      rintro e w13 ⟨v13, rfl, hown13, hb13⟩
      obtain ⟨YA, YC, rfl, _, _⟩ := ownsRow_form hown13
      have hry := Reads.of_own hown13
      have hown := own_below HO.out hb13
      have hz13 := hb13.size
      have HE2 := Lib.hid (HE.out.trans (hb13.mono hz12))
      clear hown13 hb13 hnr
      go_wp2_with (at_builtin; refine wpList_append_any _ rfl _ _ _ rfl w.heap.size 5 i5 _ 1 1 Try.underlying34 hi5 hz50 hz51 hz52 rfl (by omega) v12 _ _ rfl hown w13.heap.size YA _ YC _ rfl hry (byts_oneCell _) (by simp only [maxLen]; have := HL1.out; have := HL2.out; have := HL3.out; have := HLN.out; omega) (by have := HL1.out; have := HL2.out; have := HL3.out; have := HLN.out; omega) (by omega) ?_; intro v14 w14 hown14 hgrow14 hat14)
      go_ret
      exact ⟨_, rfl, enc_end hown14, HE2.out.grown hgrow14 HE2.out.size (fun q hq => (HO.out.lt q hq).1)⟩


set_option maxRecDepth 100000 in
set_option maxHeartbeats 4000000 in
theorem encode_false (id ver en : Int) (args : List Int) (events : List Ev) (A E : Option Addr) (ca ce B : Nat) (w : World) (hB : B ≤ w.heap.size) (hla : args.length ≤ 1000000) (hle : events.length ≤ 300000)
    (hr1 : Reads w B 1 A args.length (ints args)) (hr2 : Reads w B 3 E events.length (evs events)) (hwf : WfR ⟨id, ver, args, events, false, en⟩) (hv : validB ⟨id, ver, args, events, false, en⟩ = true) :
    Calls Try.prog 14 #[.agg #[.int .i64 id, .int .i64 ver, .slice A args.length ca, .slice E events.length ce, .bool false, .int .i64 en]] w fun e w' => ∃ v, e = .returned v ∧ w'.ownsRow w.heap.size 5 1 v (bytesR ⟨id, ver, args, events, false, en⟩).length (byts (bytesR ⟨id, ver, args, events, false, en⟩)) ∧ Below w.heap.size w w' := by
  obtain ⟨i5, hi5, hz50, hz51, hz52⟩ := info_parts info5
  obtain ⟨i3, hi3, hz30, hz31, hz32⟩ := info_parts info3
  have q1 := hr1.alloc hB (.cells #[.int .i64 id, .int .i64 ver, .slice A args.length ca, .slice E events.length ce, .bool false, .int .i64 en] 30)
  have q2 := hr2.alloc hB (.cells #[.int .i64 id, .int .i64 ver, .slice A args.length ca, .slice E events.length ce, .bool false, .int .i64 en] 30)
  have HC0 := Lib.hid (Box6.new w 30 (.int .i64 id) (.int .i64 ver) (.slice A args.length ca) (.slice E events.length ce) (.bool false) (.int .i64 en))
  have HV := Lib.hid hv
  have HWF := Lib.hid hwf
  clear hr1 hr2 hv hwf
  obtain ⟨x0, x1, x2, x3, x4, x5⟩ := HC0.out
  go_enter Try.func14, Try.ntmps14
  go_wp2_with fail
  refine (valid_any ⟨id, ver, args, events, false, en⟩ A E ca ce B _ (by simp; omega) hla (by show events.length ≤ 1000000; omega) q1 q2 HWF.out.en).mono ?_
  rintro e w1 ⟨rfl, hb1⟩
  rw [HV.out]
  have HB1 := Lib.hid ((below_alloc w (.cells #[.int .i64 id, .int .i64 ver, .slice A args.length ca, .slice E events.length ce, .bool false, .int .i64 en] 30)).trans (hb1.mono (by simp)))
  have r1 := q1.below (hb1.mono (by simp; omega))
  have r2 := q2.below (hb1.mono (by simp; omega))
  have HC1 := Lib.hid (HC0.out.below hb1)
  have hsz1 : w.heap.size + 1 ≤ w1.heap.size := by have := hb1.size; simpa using this
  clear hb1 q1 q2 x0 x1 x2 x3 x4 x5 HC0
  obtain ⟨x0, x1, x2, x3, x4, x5⟩ := HC1.out
  go_wp2_with fail
  clear x0 x1 x2 x3 x4 x5
  go_loopw [4, 16] (fun v i wr => ∃ k : Nat, k ≤ events.length ∧ i = .int .i64 k ∧ NumR w1 events wr k v) (fun _ i _ => events.length - (intOf i).toNat)
  case atStart => exact ⟨0, by omega, rfl, numR_start w1 events⟩
  case round =>
    obtain ⟨k, hk, rfl, hrel⟩ := hrel
    by_cases hlt : k < events.length
    · obtain ⟨ad, x, rfl, hadB, d0, d1, d2, hx⟩ := (r2.below (hrel.2.mono (by omega))).at3 (k := k) hlt
      have hn : (nums (events.take k)).length = 3 * k := by rw [nums_length, List.length_take]; omega
      obtain ⟨VA, VC, rfl, _, _⟩ := ownsRow_form hrel.1
      have hown := hrel.1
      have hsz := hrel.2.size
      have HR := Lib.hid hrel
      have HN := Lib.hid hn
      clear hrel hn r1 r2
      go_wp2_with (at_builtin; refine wpList_append_lies _ rfl _ _ _ rfl w1.heap.size 3 i3 _ 1 8 Try.underlying22 hi3 hz30 hz31 hz32 rfl (by omega) _ _ _ rfl ((hown.alloc _).alloc _) ⟨wr.heap.size + 1, 0, none⟩ 3 3 [.int .i64 x.p, .int .i64 x.k, .int .i64 x.n] rfl rfl (World.news_of_block (cs := #[.int .i64 x.p, .int .i64 x.k, .int .i64 x.n]) (t := 3) (fr := (0, 0)) (heap_alloc2_new wr _ _)) (by simp [Value.oneCell']) (by omega) (by simp only [maxLen]; have := HN.out; omega) (by have := HN.out; omega) (by simp; omega) (wr.heap.size + 2) (by simp) ?_; intro gg cap w3 hown3 hgrow3 hat3 hlt3)
      go_roundw
      case rel => exact ⟨k + 1, by omega, by go_num, numR_step hx.out HR.out (below2' wr _ _) hgrow3 hown3⟩
      case measure => simp [intOf]; omega
    · obtain rfl : k = events.length := by omega
      rw [NumR, List.take_length] at hrel
      obtain ⟨NA, NC, rfl, _, _⟩ := ownsRow_form hrel.1
      have HNO := Lib.hid hrel.1
      have HBW0 := Lib.hid hrel.2
      have HRA := Lib.hid r1
      have HBS := Lib.hid (show B ≤ w1.heap.size by omega)
      have HBX0 := Lib.hid (HC1.out.below hrel.2)
      have H4 := Lib.hid (show I64s [id, ver, 0, en] from HWF.out.four)
      have HWA := Lib.hid HWF.out.args
      clear hrel r1 r2
      go_wp2_with fail
      refine wp_region_plan (fun w' => Box6 w' w.heap.size (.int .i64 id) (.int .i64 ver) (.slice A args.length ca) (.slice E events.length ce) (.bool false) (.int .i64 en)) [1, 3, 6, 10] (.take 0 (.take 1 (.take 2 (.take 3 (.take 4 (.take 5 (.take 6 (.take 9 (.take 10 (.run 7 (.run 8 (.run 11 (.run 12 (.take 13 .done)))))))))))))) (by kernel_rfl) (by kernel_rfl) ?_
      change wpP _ _ _ _ _ _ _ _ wr.drew
      have HS := Lib.hid (show Box6 wr.drew w.heap.size (.int .i64 id) (.int .i64 ver) (.slice A args.length ca) (.slice E events.length ce) (.bool false) (.int .i64 en) from HBX0.out)
      refine' wpP_pure (some 30) _ rfl rfl (by decide) (by rfl) (fun w' => _) _
      rotate_left
      (go_simp; first | done | rfl)
      simp only [Act.put, List.setIfInBounds_toArray, List.set_cons_zero, List.set_cons_succ, List.getElem_toArray, List.getElem_cons_succ, List.getElem_cons_zero]
      refine' wpP_load (some 31) _ rfl rfl (by decide) (by rfl) HS.out (fun w' hw => _) _
      rotate_left
      (obtain ⟨x0, x1, x2, x3, x4, x5⟩ := hw; go_simp; first | done | rfl)
      simp only [Act.put, List.setIfInBounds_toArray, List.set_cons_zero, List.set_cons_succ, List.getElem_toArray, List.getElem_cons_succ, List.getElem_cons_zero]
      refine' wpP_pure (some 32) _ rfl rfl (by decide) (by rfl) (fun w' => _) _
      rotate_left
      (go_simp; first | done | rfl)
      simp only [Act.put, List.setIfInBounds_toArray, List.set_cons_zero, List.set_cons_succ, List.getElem_toArray, List.getElem_cons_succ, List.getElem_cons_zero]
      refine' wpP_load (some 33) _ rfl rfl (by decide) (by rfl) HS.out (fun w' hw => _) _
      rotate_left
      (obtain ⟨x0, x1, x2, x3, x4, x5⟩ := hw; go_simp; first | done | rfl)
      simp only [Act.put, List.setIfInBounds_toArray, List.set_cons_zero, List.set_cons_succ, List.getElem_toArray, List.getElem_cons_succ, List.getElem_cons_zero]
      refine' wpP_pure (some 34) _ rfl rfl (by decide) (by rfl) (fun w' => _) _
      rotate_left
      (go_simp; first | done | rfl)
      simp only [Act.put, List.setIfInBounds_toArray, List.set_cons_zero, List.set_cons_succ, List.getElem_toArray, List.getElem_cons_succ, List.getElem_cons_zero]
      refine' wpP_pure (some 35) _ rfl rfl (by decide) (by rfl) (fun w' => _) _
      rotate_left
      (go_simp; first | done | rfl)
      simp only [Act.put, List.setIfInBounds_toArray, List.set_cons_zero, List.set_cons_succ, List.getElem_toArray, List.getElem_cons_succ, List.getElem_cons_zero]
      refine' wpP_load (some 36) _ rfl rfl (by decide) (by rfl) HS.out (fun w' hw => _) _
      rotate_left
      (obtain ⟨x0, x1, x2, x3, x4, x5⟩ := hw; go_simp; first | done | rfl)
      simp only [Act.put, List.setIfInBounds_toArray, List.set_cons_zero, List.set_cons_succ, List.getElem_toArray, List.getElem_cons_succ, List.getElem_cons_zero]
      refine' wpP_pure (some 39) _ rfl rfl (by decide) (by rfl) (fun w' => _) _
      rotate_left
      (go_simp; first | done | rfl)
      simp only [Act.put, List.setIfInBounds_toArray, List.set_cons_zero, List.set_cons_succ, List.getElem_toArray, List.getElem_cons_succ, List.getElem_cons_zero]
      refine' wpP_load (some 40) _ rfl rfl (by decide) (by rfl) HS.out (fun w' hw => _) _
      rotate_left
      (obtain ⟨x0, x1, x2, x3, x4, x5⟩ := hw; go_simp; first | done | rfl)
      simp only [Act.put, List.setIfInBounds_toArray, List.set_cons_zero, List.set_cons_succ, List.getElem_toArray, List.getElem_cons_succ, List.getElem_cons_zero]
      refine runOp_keep rfl (by rfl) (fun K hK => ?_)
      go_simp
      refine hK _ _ (fun hw => ?_) ?_
      · exact hw.below (below_alloc _ _)
      clear hK K
      try simp only [Act.put, List.setIfInBounds_toArray, List.set_cons_zero, List.set_cons_succ, List.getElem_toArray, List.getElem_cons_succ, List.getElem_cons_zero]
      replace HS := Lib.hid (HS.out.below (below_alloc wr.drew (.cells #[.int .i64 id, .int .i64 ver, .int .i64 0, .int .i64 en] 3)))
      refine runOp_keep rfl (by rfl) (fun K hK => ?_)
      go_simp
      refine (wireInts4_any _ _ _ _ _ _ _ (Blk.new wr.drew 3 _) H4.out).mono ?_
      rintro e w8 ⟨v8, rfl, hown8, hb8⟩
      refine hK _ _ (fun hw => ?_) ?_
      · exact hw.below hb8
      clear hK K
      try simp only [Act.put, List.setIfInBounds_toArray, List.set_cons_zero, List.set_cons_succ, List.getElem_toArray, List.getElem_cons_succ, List.getElem_cons_zero]
      replace HS := Lib.hid (HS.out.below hb8)

      refine runOp_last rfl (by kernel_rfl) (by rfl) (fun K hK => ?_)
      have hb81 : Below w1.heap.size w1 w8 := (HBW0.out.drew.trans ((below_alloc wr.drew _).mono HBW0.out.drew.size)).trans (hb8.mono (Nat.le_trans HBW0.out.drew.size (below_alloc wr.drew _).size))
      have hra := HRA.out.below (hb81.mono HBS.out)
      have hB8 : B ≤ w8.heap.size := Nat.le_trans HBS.out hb81.size
      go_simp
      refine (wireInts_any A ca B args _ hB8 hla hra HWA.out).mono ?_
      rintro e w11 ⟨v11, rfl, hown11, hb11⟩
      refine hK _ _ ?_
      clear hK K
      try simp only [Act.put, List.setIfInBounds_toArray, List.set_cons_zero, List.set_cons_succ, List.getElem_toArray, List.getElem_cons_succ, List.getElem_cons_zero]
      refine runOp_last rfl (by kernel_rfl) (by rfl) (fun K hK => ?_)
      obtain ⟨XA, XC, rfl, _, _⟩ := ownsRow_form hown11
      have hrx := Reads.of_own hown11
      have hown := own_below hown8 hb11
      have hz8 := hb8.size
      have hz11 := hb11.size
      have hL1 := encInts_le _ H4.out (by simp)
      have hL2 := encInts_le _ HWA.out hla
      simp only [List.length_cons, List.length_nil] at hL1
      refine wp_append_any _ _ _ _ rfl (wr.drew.heap.size + 1) 5 i5 _ 1 1 Try.underlying34 hi5 hz50 hz51 hz52 rfl (by omega) v8 _ _ rfl (by simpa using hown) w11.heap.size XA _ XC _ rfl hrx (byts_oneCell _) (by simp only [maxLen]; omega) (by omega) (Nat.le_trans (show wr.heap.size + 1 ≤ w8.heap.size from by have := hb8.size; simpa using this) hb11.size) ?_
      intro v12 w12 hown12 hgrow12 hat12
      refine hK _ _ ?_
      clear hK K
      try simp only [Act.put, List.setIfInBounds_toArray, List.set_cons_zero, List.set_cons_succ, List.getElem_toArray, List.getElem_cons_succ, List.getElem_cons_zero]
      refine' wpP_pure (some 7) _ rfl rfl (by decide) (by rfl) (fun w' => _) _
      rotate_left
      (go_simp; first | done | rfl)
      simp only [Act.put, List.setIfInBounds_toArray, List.set_cons_zero, List.set_cons_succ, List.getElem_toArray, List.getElem_cons_succ, List.getElem_cons_zero]
      refine NoPanic.normal ?_
      have c1 : Below wr.heap.size wr w8 := ((Below.refl wr.heap.size wr).drew.trans (below_alloc wr.drew _)).trans (hb8.mono (by simp))
      have c2 : Below wr.heap.size wr w11 := c1.trans (hb11.mono c1.size)
      have c3 : Below wr.heap.size wr w12 := c2.grown hgrow12 c2.size (fun q hq => by have := (hown8.lt q hq).1; simp at this; omega)
      have hnr := Reads.of_own (own_below HNO.out c3)
      have HE := Lib.hid (HB1.out.trans ((HBW0.out.trans (c3.mono HBW0.out.size)).mono (by omega)))
      have HO := Lib.hid (ownsRow_base hown12 (show w.heap.size ≤ wr.heap.size + 1 by have := HBW0.out.size; omega))
      have hz12 : w.heap.size ≤ w12.heap.size := HE.out.size
      have hln : (nums events).length ≤ 1000000 := by rw [nums_length]; omega
      have HL1 := Lib.hid hL1
      have HL2 := Lib.hid hL2
      have HL3 := Lib.hid (encInts_le _ HWF.out.evs hln)
      have HLN := Lib.hid (nums_length events)
      clear c1 c2 c3 hgrow12 hown12 hown8 hown11 hb8 hb11 hb81 hra hrx hown hz8 hz11 hL1 hL2 hat12 HS HBX0 HRA HNO HBW0 HC1
      go_wp2_with fail
      refine (wireInts_any NA NC w12.heap.size (nums events) w12 (Nat.le_refl _) hln hnr HWF.out.evs).mono ?_
      rintro e w13 ⟨v13, rfl, hown13, hb13⟩
      obtain ⟨YA, YC, rfl, _, _⟩ := ownsRow_form hown13
      have hry := Reads.of_own hown13
      have hown := own_below HO.out hb13
      have hz13 := hb13.size
      have HE2 := Lib.hid (HE.out.trans (hb13.mono hz12))
      clear hown13 hb13 hnr
      go_wp2_with (at_builtin; refine wpList_append_any _ rfl _ _ _ rfl w.heap.size 5 i5 _ 1 1 Try.underlying34 hi5 hz50 hz51 hz52 rfl (by omega) v12 _ _ rfl hown w13.heap.size YA _ YC _ rfl hry (byts_oneCell _) (by simp only [maxLen]; have := HL1.out; have := HL2.out; have := HL3.out; have := HLN.out; omega) (by have := HL1.out; have := HL2.out; have := HL3.out; have := HLN.out; omega) (by omega) ?_; intro v14 w14 hown14 hgrow14 hat14)
      go_ret
      exact ⟨_, rfl, enc_end hown14, HE2.out.grown hgrow14 HE2.out.size (fun q hq => (HO.out.lt q hq).1)⟩


set_option maxRecDepth 100000 in
set_option maxHeartbeats 2000000 in
theorem encode_no (id ver en : Int) (cut : Bool) (args : List Int) (events : List Ev) (A E : Option Addr) (ca ce B : Nat) (w : World) (hB : B ≤ w.heap.size) (hla : args.length ≤ 1000000) (hle : events.length ≤ 300000)
    (hr1 : Reads w B 1 A args.length (ints args)) (hr2 : Reads w B 3 E events.length (evs events)) (hen : I64 en) (hv : validB ⟨id, ver, args, events, cut, en⟩ = false) :
    Calls Try.prog 14 #[.agg #[.int .i64 id, .int .i64 ver, .slice A args.length ca, .slice E events.length ce, .bool cut, .int .i64 en]] w fun e w' => e = .returned (.slice none 0 0) ∧ Below w.heap.size w w' := by
  have q1 := hr1.alloc hB (.cells #[.int .i64 id, .int .i64 ver, .slice A args.length ca, .slice E events.length ce, .bool cut, .int .i64 en] 30)
  have q2 := hr2.alloc hB (.cells #[.int .i64 id, .int .i64 ver, .slice A args.length ca, .slice E events.length ce, .bool cut, .int .i64 en] 30)
  have HV := Lib.hid hv
  clear hr1 hr2 hv
  go_enter Try.func14, Try.ntmps14
  go_wp2_with fail
  refine (valid_any ⟨id, ver, args, events, cut, en⟩ A E ca ce B _ (by simp; omega) hla (by show events.length ≤ 1000000; omega) q1 q2 hen).mono ?_
  rintro e w1 ⟨rfl, hb1⟩
  rw [HV.out]
  have HB1 := Lib.hid ((below_alloc w (.cells #[.int .i64 id, .int .i64 ver, .slice A args.length ca, .slice E events.length ce, .bool cut, .int .i64 en] 30)).trans (hb1.mono (by simp)))
  clear hb1 q1 q2
  go_wp2
  go_ret
  exact ⟨rfl, HB1.out⟩

def encB (r : Rp) : List Int := if validB r then bytesR r else []
theorem encode_any (r : Rp) (A E : Option Addr) (ca ce B : Nat) (w : World) (hB : B ≤ w.heap.size) (hla : r.args.length ≤ 1000000) (hle : r.events.length ≤ 300000)
    (hr1 : Reads w B 1 A r.args.length (ints r.args)) (hr2 : Reads w B 3 E r.events.length (evs r.events)) (hwf : WfR r) :
    Calls Try.prog 14 #[.agg #[.int .i64 r.id, .int .i64 r.ver, .slice A r.args.length ca, .slice E r.events.length ce, .bool r.cut, .int .i64 r.en]] w fun e w' => ∃ v, e = .returned v ∧
      w'.ownsRow w.heap.size 5 1 v (encB r).length (byts (encB r)) ∧ Below w.heap.size w w' := by
  obtain ⟨id, ver, args, events, cut, en⟩ := r
  by_cases hv : validB ⟨id, ver, args, events, cut, en⟩ = true
  · have he : encB ⟨id, ver, args, events, cut, en⟩ = bytesR ⟨id, ver, args, events, cut, en⟩ := by unfold encB; rw [if_pos hv]
    rw [he]
    cases cut with
    | true => exact encode_true id ver en args events A E ca ce B w hB hla hle hr1 hr2 hwf hv
    | false => exact encode_false id ver en args events A E ca ce B w hB hla hle hr1 hr2 hwf hv
  · have he : encB ⟨id, ver, args, events, cut, en⟩ = [] := by unfold encB; rw [if_neg hv]
    rw [he]
    refine (encode_no id ver en cut args events A E ca ce B w hB hla hle hr1 hr2 hwf.en (by simpa using hv)).mono ?_
    rintro e w' ⟨rfl, hb⟩
    exact ⟨_, rfl, World.ownsRow_nil _ _ _ _, hb⟩
end Go.Proofs.Ytlekojbcaelpiaa

/- scoriaref38.Bytes. -/
namespace Go.Proofs.Ytlekojbcaelpiaa
open Go.RowKit

def BytR (w : World) (id ver en c : Int) (va ve vc : Value) (l : List Ev) (wr : World) (k : Nat) (v : Value) : Prop :=
  wr.ownsRow (w.heap.size + 2) 3 1 v (nums (l.take k)).length (ints (nums (l.take k))) ∧ Below w.heap.size w wr ∧
  Box6 wr w.heap.size (.int .i64 id) (.int .i64 ver) va ve vc (.int .i64 en) ∧ Blk wr (w.heap.size + 1) 3 #[.int .i64 id, .int .i64 ver, .int .i64 c, .int .i64 en]
theorem Box6.grown {w w1 : World} {g : Nat} {a b c d e f : Value} {row : Option Nat} (h : Box6 w g a b c d e f) (hg : w.grownBy w1 row) (hne : some g ≠ row) : Box6 w1 g a b c d e f := by
  obtain ⟨h0, h1, h2, h3, h4, h5⟩ := h
  exact ⟨hg.cell h0 hne, hg.cell h1 hne, hg.cell h2 hne, hg.cell h3 hne, hg.cell h4 hne, hg.cell h5 hne⟩
theorem box6_set {w : World} {g : Nat} {a b c d e f : Value} (h : Box6 w g a b c d e f) {p : Addr} {u : Value} (hp : p.block ≠ g) : Box6 (w.setCell p u) g a b c d e f := by
  obtain ⟨h0, h1, h2, h3, h4, h5⟩ := h
  have k : ∀ i, (w.setCell p u).cell? ⟨g, i, none⟩ = w.cell? ⟨g, i, none⟩ := fun i => World.cell?_setCell_far w p ⟨g, i, none⟩ u hp
  exact ⟨(k 0).trans h0, (k 1).trans h1, (k 2).trans h2, (k 3).trans h3, (k 4).trans h4, (k 5).trans h5⟩
theorem bytR_step {w wr w0 w1 : World} {id ver en c : Int} {va ve vc : Value} {l : List Ev} {k : Nat} {x : Ev} {v v' : Value} (hx : l[k]? = some x) (h : BytR w id ver en c va ve vc l wr k v) (hb : Below wr.heap.size wr w0)
    (hg : w0.grownBy w1 v.ownBlock)
    (ho : w1.ownsRow (w.heap.size + 2) 3 1 v' ((nums (l.take k)).length + 3) (ints (nums (l.take k)) ++ [.int .i64 x.p, .int .i64 x.k, .int .i64 x.n])) : BytR w id ver en c va ve vc l w1 (k + 1) v' := by
  obtain ⟨h1, h2, h3, h4⟩ := h
  have hl := h4.lt
  have hne : ∀ q, q < w.heap.size + 2 → some q ≠ v.ownBlock := fun q hq e => by have := (h1.lt q e.symm).1; omega
  refine ⟨?_, (h2.trans (hb.mono h2.size)).grown hg (Nat.le_trans h2.size hb.size) (fun q hq => by have := (h1.lt q hq).1; omega), (h3.below hb).grown hg (hne _ (by omega)), (h4.below hb hl).grown hg (hne _ (by omega))⟩
  rw [nums_succ l k x hx]
  simpa [ints] using ho
theorem refInts4_any (a b c d : Int) (g cp : Nat) (w : World) (h : Blk w g 3 #[.int .i64 a, .int .i64 b, .int .i64 c, .int .i64 d]) (hw : I64s [a, b, c, d]) :
    Calls Try.prog 46 #[.slice (some ⟨g, 0, none⟩) 4 cp] w fun e w' => ∃ v, e = .returned v ∧ w'.ownsRow w.heap.size 5 1 v (encInts [a, b, c, d]).length (byts (encInts [a, b, c, d])) ∧ Below w.heap.size w w' :=
  refInts_any _ cp (g + 1) [a, b, c, d] w h.lt (by simp) (reads_blk (cs := ints [a, b, c, d]) h rfl) hw
theorem bytR_start (w w2 : World) (id ver en c : Int) (va ve vc : Value) (l : List Ev) (hb : Below w.heap.size w w2) (h6 : Box6 w2 w.heap.size (.int .i64 id) (.int .i64 ver) va ve vc (.int .i64 en))
    (h4 : Blk w2 (w.heap.size + 1) 3 #[.int .i64 id, .int .i64 ver, .int .i64 c, .int .i64 en]) : BytR w id ver en c va ve vc l w2 0 (.slice none 0 0) :=
  ⟨by simpa [nums, ints] using World.ownsRow_nil w2 (w.heap.size + 2) 3 1, hb, h6, h4⟩

set_option maxRecDepth 100000 in
set_option maxHeartbeats 4000000 in
theorem refBytes_true (id ver en : Int) (args : List Int) (events : List Ev) (A E : Option Addr) (ca ce B : Nat) (w : World) (hB : B ≤ w.heap.size) (hla : args.length ≤ 1000000) (hle : events.length ≤ 300000)
    (hr1 : Reads w B 1 A args.length (ints args)) (hr2 : Reads w B 3 E events.length (evs events)) (hwf : WfR ⟨id, ver, args, events, true, en⟩) :
    Calls Try.prog 21 #[.agg #[.int .i64 id, .int .i64 ver, .slice A args.length ca, .slice E events.length ce, .bool true, .int .i64 en]] w fun e w' => ∃ v, e = .returned v ∧ w'.ownsRow w.heap.size 5 1 v (bytesR ⟨id, ver, args, events, true, en⟩).length (byts (bytesR ⟨id, ver, args, events, true, en⟩)) ∧ Below w.heap.size w w' := by
  obtain ⟨i5, hi5, hz50, hz51, hz52⟩ := info_parts info5
  obtain ⟨i3, hi3, hz30, hz31, hz32⟩ := info_parts info3
  have HWF := Lib.hid hwf
  have HST : Hid (BytR w id ver en 1 (.slice A args.length ca) (.slice E events.length ce) (.bool true) events ((w.alloc (.cells #[.int .i64 id, .int .i64 ver, .slice A args.length ca, .slice E events.length ce, .bool true, .int .i64 en] 25)).alloc (.cells #[.int .i64 id, .int .i64 ver, .int .i64 1, .int .i64 en] 3)) 0 (.slice none 0 0)) := bytR_start w _ id ver en 1 _ _ _ events (((Below.refl _ _).alloc (Nat.le_refl _) _).alloc (by simp) _) ((Box6.new w 25 _ _ _ _ _ _).below (below_alloc _ _)) (heap_alloc2_new w _ _)
  clear hwf
  go_enter Try.func21, Try.ntmps21
  go_wp2_with fail
  go_loopw [4, 5] (fun v i wr => ∃ k : Nat, k ≤ events.length ∧ i = .int .i64 k ∧ BytR w id ver en 1 (.slice A args.length ca) (.slice E events.length ce) (.bool true) events wr k v) (fun _ i _ => events.length - (intOf i).toNat)
  case atStart => exact ⟨0, by omega, rfl, HST.out⟩
  case round =>
    obtain ⟨k, hk, rfl, hrel⟩ := hrel
    by_cases hlt : k < events.length
    · obtain ⟨ad, x, rfl, hadB, d0, d1, d2, hx⟩ := (hr2.below (hrel.2.1.mono hB)).at3 (k := k) hlt
      have hn : (nums (events.take k)).length = 3 * k := by rw [nums_length, List.length_take]; omega
      obtain ⟨VA, VC, rfl, _, _⟩ := ownsRow_form hrel.1
      have hown := hrel.1
      have hsz := hrel.2.2.2.lt
      have HR := Lib.hid hrel
      have HN := Lib.hid hn
      have HC := Lib.hid (And.intro hrel.2.2.1 (And.intro d0 (And.intro d1 d2)))
      obtain ⟨z0, z1, z2, z3, z4, z5⟩ := hrel.2.2.1
      clear hrel hn hr1 hr2 d0 d1 d2
      go_wp2_with fail
      clear z0 z1 z2 z3 z4 z5
      refine wp_region_plan (fun w' => Box6 w' w.heap.size (.int .i64 id) (.int .i64 ver) (.slice A args.length ca) (.slice (some ad) events.length ce) (.bool true) (.int .i64 en) ∧ w'.cell? (ad.add (k * 3)) = some (.int .i64 x.p) ∧ w'.cell? ⟨(ad.add (k * 3)).block, (ad.add (k * 3)).off + 1, none⟩ = some (.int .i64 x.k) ∧ w'.cell? ⟨(ad.add (k * 3)).block, (ad.add (k * 3)).off + 2, none⟩ = some (.int .i64 x.n)) [2, 6, 8, 12, 14, 18] (.take 0 (.take 1 (.take 2 (.take 3 (.take 4 (.take 5 (.take 6 (.take 7 (.take 8 (.take 9 (.take 10 (.take 11 (.take 12 (.take 13 (.take 14 (.take 15 (.take 16 (.take 17 (.take 18 (.run 19 (.run 20 (.take 21 .done)))))))))))))))))))))) (by kernel_rfl) (by kernel_rfl) ?_
      change wpP _ _ _ _ _ _ _ _ wr.drew
      have HS := Lib.hid (show  Box6 wr.drew w.heap.size (.int .i64 id) (.int .i64 ver) (.slice A args.length ca) (.slice (some ad) events.length ce) (.bool true) (.int .i64 en) ∧ wr.drew.cell? (ad.add (k * 3)) = some (.int .i64 x.p) ∧ wr.drew.cell? ⟨(ad.add (k * 3)).block, (ad.add (k * 3)).off + 1, none⟩ = some (.int .i64 x.k) ∧ wr.drew.cell? ⟨(ad.add (k * 3)).block, (ad.add (k * 3)).off + 2, none⟩ = some (.int .i64 x.n) from HC.out)
      refine' wpP_pure (some 25) _ rfl rfl (by decide) (by rfl) (fun w' => _) _
      rotate_left
      (go_simp; first | done | rfl)
      simp only [Act.put, List.setIfInBounds_toArray, List.set_cons_zero, List.set_cons_succ, List.getElem_toArray, List.getElem_cons_succ, List.getElem_cons_zero]
      refine' wpP_pure (some 26) _ rfl rfl (by decide) (by rfl) (fun w' => _) _
      rotate_left
      (go_simp; first | done | rfl)
      simp only [Act.put, List.setIfInBounds_toArray, List.set_cons_zero, List.set_cons_succ, List.getElem_toArray, List.getElem_cons_succ, List.getElem_cons_zero]
      refine' wpP_load (some 27) _ rfl rfl (by decide) (by rfl) HS.out (fun w' hw => _) _
      rotate_left
      (obtain ⟨⟨x0, x1, x2, x3, x4, x5⟩, y0, y1, y2⟩ := hw; go_simp; first | done | rfl)
      simp only [Act.put, List.setIfInBounds_toArray, List.set_cons_zero, List.set_cons_succ, List.getElem_toArray, List.getElem_cons_succ, List.getElem_cons_zero]
      refine' wpP_pure (some 28) _ rfl rfl (by decide) (by rfl) (fun w' => _) _
      rotate_left
      (go_simp; first | done | rfl)
      simp only [Act.put, List.setIfInBounds_toArray, List.set_cons_zero, List.set_cons_succ, List.getElem_toArray, List.getElem_cons_succ, List.getElem_cons_zero]
      refine' wpP_pure (some 29) _ rfl rfl (by decide) (by rfl) (fun w' => _) _
      rotate_left
      (go_simp; first | done | rfl)
      simp only [Act.put, List.setIfInBounds_toArray, List.set_cons_zero, List.set_cons_succ, List.getElem_toArray, List.getElem_cons_succ, List.getElem_cons_zero]
      refine' wpP_pure (some 30) _ rfl rfl (by decide) (by rfl) (fun w' => _) _
      rotate_left
      (go_simp; first | done | rfl)
      simp only [Act.put, List.setIfInBounds_toArray, List.set_cons_zero, List.set_cons_succ, List.getElem_toArray, List.getElem_cons_succ, List.getElem_cons_zero]
      refine' wpP_load (some 31) _ rfl rfl (by decide) (by rfl) HS.out (fun w' hw => _) _
      rotate_left
      (obtain ⟨⟨x0, x1, x2, x3, x4, x5⟩, y0, y1, y2⟩ := hw; go_simp; first | done | rfl)
      simp only [Act.put, List.setIfInBounds_toArray, List.set_cons_zero, List.set_cons_succ, List.getElem_toArray, List.getElem_cons_succ, List.getElem_cons_zero]
      refine' wpP_pure (some 32) _ rfl rfl (by decide) (by rfl) (fun w' => _) _
      rotate_left
      (go_simp; first | done | rfl)
      simp only [Act.put, List.setIfInBounds_toArray, List.set_cons_zero, List.set_cons_succ, List.getElem_toArray, List.getElem_cons_succ, List.getElem_cons_zero]
      refine' wpP_load (some 33) _ rfl rfl (by decide) (by rfl) HS.out (fun w' hw => _) _
      rotate_left
      (obtain ⟨⟨x0, x1, x2, x3, x4, x5⟩, y0, y1, y2⟩ := hw; go_simp; first | done | rfl)
      simp only [Act.put, List.setIfInBounds_toArray, List.set_cons_zero, List.set_cons_succ, List.getElem_toArray, List.getElem_cons_succ, List.getElem_cons_zero]
      refine' wpP_pure (some 34) _ rfl rfl (by decide) (by rfl) (fun w' => _) _
      rotate_left
      (go_simp; first | done | rfl)
      simp only [Act.put, List.setIfInBounds_toArray, List.set_cons_zero, List.set_cons_succ, List.getElem_toArray, List.getElem_cons_succ, List.getElem_cons_zero]
      refine' wpP_pure (some 35) _ rfl rfl (by decide) (by rfl) (fun w' => _) _
      rotate_left
      (go_simp; first | done | rfl)
      simp only [Act.put, List.setIfInBounds_toArray, List.set_cons_zero, List.set_cons_succ, List.getElem_toArray, List.getElem_cons_succ, List.getElem_cons_zero]
      refine' wpP_pure (some 36) _ rfl rfl (by decide) (by rfl) (fun w' => _) _
      rotate_left
      (go_simp; first | done | rfl)
      simp only [Act.put, List.setIfInBounds_toArray, List.set_cons_zero, List.set_cons_succ, List.getElem_toArray, List.getElem_cons_succ, List.getElem_cons_zero]
      refine' wpP_load (some 37) _ rfl rfl (by decide) (by rfl) HS.out (fun w' hw => _) _
      rotate_left
      (obtain ⟨⟨x0, x1, x2, x3, x4, x5⟩, y0, y1, y2⟩ := hw; go_simp; first | done | rfl)
      simp only [Act.put, List.setIfInBounds_toArray, List.set_cons_zero, List.set_cons_succ, List.getElem_toArray, List.getElem_cons_succ, List.getElem_cons_zero]
      refine' wpP_pure (some 38) _ rfl rfl (by decide) (by rfl) (fun w' => _) _
      rotate_left
      (go_simp; first | done | rfl)
      simp only [Act.put, List.setIfInBounds_toArray, List.set_cons_zero, List.set_cons_succ, List.getElem_toArray, List.getElem_cons_succ, List.getElem_cons_zero]
      refine' wpP_load (some 39) _ rfl rfl (by decide) (by rfl) HS.out (fun w' hw => _) _
      rotate_left
      (obtain ⟨⟨x0, x1, x2, x3, x4, x5⟩, y0, y1, y2⟩ := hw; go_simp; first | done | rfl)
      simp only [Act.put, List.setIfInBounds_toArray, List.set_cons_zero, List.set_cons_succ, List.getElem_toArray, List.getElem_cons_succ, List.getElem_cons_zero]
      refine' wpP_pure (some 40) _ rfl rfl (by decide) (by rfl) (fun w' => _) _
      rotate_left
      (go_simp; first | done | rfl)
      simp only [Act.put, List.setIfInBounds_toArray, List.set_cons_zero, List.set_cons_succ, List.getElem_toArray, List.getElem_cons_succ, List.getElem_cons_zero]
      refine' wpP_pure (some 41) _ rfl rfl (by decide) (by rfl) (fun w' => _) _
      rotate_left
      (go_simp; first | done | rfl)
      simp only [Act.put, List.setIfInBounds_toArray, List.set_cons_zero, List.set_cons_succ, List.getElem_toArray, List.getElem_cons_succ, List.getElem_cons_zero]
      refine' wpP_pure (some 42) _ rfl rfl (by decide) (by rfl) (fun w' => _) _
      rotate_left
      (go_simp; first | done | rfl)
      simp only [Act.put, List.setIfInBounds_toArray, List.set_cons_zero, List.set_cons_succ, List.getElem_toArray, List.getElem_cons_succ, List.getElem_cons_zero]
      refine' wpP_load (some 43) _ rfl rfl (by decide) (by rfl) HS.out (fun w' hw => _) _
      rotate_left
      (obtain ⟨⟨x0, x1, x2, x3, x4, x5⟩, y0, y1, y2⟩ := hw; go_simp; first | done | rfl)
      simp only [Act.put, List.setIfInBounds_toArray, List.set_cons_zero, List.set_cons_succ, List.getElem_toArray, List.getElem_cons_succ, List.getElem_cons_zero]
      refine runOp_last rfl (by kernel_rfl) (by rfl) (fun K hK => ?_)
      go_simp
      refine hK _ _ ?_
      clear hK K
      try simp only [Act.put, List.setIfInBounds_toArray, List.set_cons_zero, List.set_cons_succ, List.getElem_toArray, List.getElem_cons_succ, List.getElem_cons_zero]
      refine runOp_last rfl (by kernel_rfl) (by rfl) (fun K hK => ?_)
      refine wp_append_lies _ _ _ _ rfl (w.heap.size + 2) 3 i3 _ 1 8 Try.underlying22 hi3 hz30 hz31 hz32 rfl (by omega) (.slice VA (nums (events.take k)).length VC) _ _ rfl (hown.drew.alloc _) ⟨wr.heap.size, 0, none⟩ 3 3 [.int .i64 x.p, .int .i64 x.k, .int .i64 x.n] rfl rfl (World.news_of_block (cs := #[.int .i64 x.p, .int .i64 x.k, .int .i64 x.n]) (t := 3) (fr := (0, 0)) (heap_alloc_new wr.drew _)) (by simp [Value.oneCell']) (by omega) (by simp only [maxLen]; have := HN.out; omega) (by have := HN.out; omega) (by simp; omega) (wr.heap.size + 1) (by simp) ?_
      intro gg cap w3 hown3 hgrow3 hat3 hlt3
      refine hK _ _ ?_
      clear hK K
      try simp only [Act.put, List.setIfInBounds_toArray, List.set_cons_zero, List.set_cons_succ, List.getElem_toArray, List.getElem_cons_succ, List.getElem_cons_zero]
      refine' wpP_pure (some 4) _ rfl rfl (by decide) (by rfl) (fun w' => _) _
      rotate_left
      (go_simp; first | done | rfl)
      simp only [Act.put, List.setIfInBounds_toArray, List.set_cons_zero, List.set_cons_succ, List.getElem_toArray, List.getElem_cons_succ, List.getElem_cons_zero]
      refine NoPanic.normal ?_
      go_wp2
      go_roundw
      case rel => exact ⟨k + 1, by omega, by go_num, bytR_step hx.out HR.out (((Below.refl wr.heap.size wr).drew).alloc (by simp) _) hgrow3 hown3⟩
      case measure => simp [intOf]; omega
    · obtain rfl : k = events.length := by omega
      rw [BytR, List.take_length] at hrel
      obtain ⟨NA, NC, rfl, _, _⟩ := ownsRow_form hrel.1
      have HNO := Lib.hid hrel.1
      have HBW0 := Lib.hid hrel.2.1
      have HRA := Lib.hid hr1
      have HBX0 := Lib.hid hrel.2.2.1
      have HB4 := Lib.hid (show Blk wr.drew (w.heap.size + 1) 3 #[.int .i64 id, .int .i64 ver, .int .i64 1, .int .i64 en] from hrel.2.2.2)
      have H4 := Lib.hid (show I64s [id, ver, 1, en] from HWF.out.four)
      have HWA := Lib.hid HWF.out.args
      obtain ⟨z0, z1, z2, z3, z4, z5⟩ := hrel.2.2.1
      clear hrel hr1 hr2
      go_wp2_with fail
      clear z0 z1 z2 z3 z4 z5
      refine wp_region_plan (fun w' => Box6 w' w.heap.size (.int .i64 id) (.int .i64 ver) (.slice A args.length ca) (.slice E events.length ce) (.bool true) (.int .i64 en)) [3] (.take 0 (.take 2 (.take 3 (.run 1 (.run 4 (.run 5 (.take 6 .done))))))) (by kernel_rfl) (by kernel_rfl) ?_
      change wpP _ _ _ _ _ _ _ _ wr.drew
      have HS := Lib.hid (show  Box6 wr.drew w.heap.size (.int .i64 id) (.int .i64 ver) (.slice A args.length ca) (.slice E events.length ce) (.bool true) (.int .i64 en) from HBX0.out)
      refine' wpP_pure (some 46) _ rfl rfl (by decide) (by rfl) (fun w' => _) _
      rotate_left
      (go_simp; first | done | rfl)
      simp only [Act.put, List.setIfInBounds_toArray, List.set_cons_zero, List.set_cons_succ, List.getElem_toArray, List.getElem_cons_succ, List.getElem_cons_zero]
      refine' wpP_pure (some 48) _ rfl rfl (by decide) (by rfl) (fun w' => _) _
      rotate_left
      (go_simp; first | done | rfl)
      simp only [Act.put, List.setIfInBounds_toArray, List.set_cons_zero, List.set_cons_succ, List.getElem_toArray, List.getElem_cons_succ, List.getElem_cons_zero]
      refine' wpP_load (some 49) _ rfl rfl (by decide) (by rfl) HS.out (fun w' hw => _) _
      rotate_left
      (obtain ⟨x0, x1, x2, x3, x4, x5⟩ := hw; go_simp; first | done | rfl)
      simp only [Act.put, List.setIfInBounds_toArray, List.set_cons_zero, List.set_cons_succ, List.getElem_toArray, List.getElem_cons_succ, List.getElem_cons_zero]
      refine runOp_keep rfl (by rfl) (fun K hK => ?_)
      go_simp
      refine (refInts4_any _ _ _ _ _ _ _ HB4.out H4.out).mono ?_
      rintro e w8 ⟨v8, rfl, hown8, hb8⟩
      refine hK _ _ (fun hw => ?_) ?_
      · exact hw.below hb8
      clear hK K
      try simp only [Act.put, List.setIfInBounds_toArray, List.set_cons_zero, List.set_cons_succ, List.getElem_toArray, List.getElem_cons_succ, List.getElem_cons_zero]
      replace HS := Lib.hid (HS.out.below hb8)
      refine runOp_last rfl (by kernel_rfl) (by rfl) (fun K hK => ?_)
      have hb81 : Below w.heap.size w w8 := (HBW0.out.drew).trans (hb8.mono HBW0.out.drew.size)
      have hra := HRA.out.below (hb81.mono hB)
      go_simp
      refine (refInts_any A ca B args _ (Nat.le_trans hB hb81.size) hla hra HWA.out).mono ?_
      rintro e w11 ⟨v11, rfl, hown11, hb11⟩
      refine hK _ _ ?_
      clear hK K
      try simp only [Act.put, List.setIfInBounds_toArray, List.set_cons_zero, List.set_cons_succ, List.getElem_toArray, List.getElem_cons_succ, List.getElem_cons_zero]
      refine runOp_last rfl (by kernel_rfl) (by rfl) (fun K hK => ?_)
      obtain ⟨XA, XC, rfl, _, _⟩ := ownsRow_form hown11
      have hrx := Reads.of_own hown11
      have hown := own_below hown8 hb11
      have hL1 := encInts_le _ H4.out (by simp)
      have hL2 := encInts_le _ HWA.out hla
      simp only [List.length_cons, List.length_nil] at hL1
      refine wp_append_any _ _ _ _ rfl wr.heap.size 5 i5 _ 1 1 Try.underlying34 hi5 hz50 hz51 hz52 rfl (by omega) v8 _ _ rfl (by simpa using hown) w11.heap.size XA _ XC _ rfl hrx (byts_oneCell _) (by simp only [maxLen]; omega) (by omega) (Nat.le_trans (show wr.heap.size ≤ w8.heap.size from by have := hb8.size; simpa using this) hb11.size) ?_
      intro v12 w12 hown12 hgrow12 hat12
      refine hK _ _ ?_
      clear hK K
      try simp only [Act.put, List.setIfInBounds_toArray, List.set_cons_zero, List.set_cons_succ, List.getElem_toArray, List.getElem_cons_succ, List.getElem_cons_zero]
      refine' wpP_pure (some 6) _ rfl rfl (by decide) (by rfl) (fun w' => _) _
      rotate_left
      (go_simp; first | done | rfl)
      simp only [Act.put, List.setIfInBounds_toArray, List.set_cons_zero, List.set_cons_succ, List.getElem_toArray, List.getElem_cons_succ, List.getElem_cons_zero]
      refine NoPanic.normal ?_
      have c1 : Below wr.heap.size wr w8 := (Below.refl wr.heap.size wr).drew.trans (hb8.mono (by simp))
      have c2 : Below wr.heap.size wr w11 := c1.trans (hb11.mono c1.size)
      have c3 : Below wr.heap.size wr w12 := c2.grown hgrow12 c2.size (fun q hq => by have := (hown8.lt q hq).1; simpa using this)
      have hnr := Reads.of_own (own_below HNO.out c3)
      have HE := Lib.hid (HBW0.out.trans (c3.mono HBW0.out.size))
      have HO := Lib.hid (ownsRow_base hown12 (show w.heap.size ≤ wr.heap.size from HBW0.out.size))
      have hz12 : w.heap.size ≤ w12.heap.size := HE.out.size
      have hln : (nums events).length ≤ 1000000 := by rw [nums_length]; omega
      have HL1 := Lib.hid hL1
      have HL2 := Lib.hid hL2
      have HL3 := Lib.hid (encInts_le _ HWF.out.evs hln)
      have HLN := Lib.hid (nums_length events)
      clear c1 c2 c3 hgrow12 hown12 hown8 hown11 hb8 hb11 hb81 hra hrx hown hL1 hL2 hat12 HS HBX0 HRA HNO HBW0
      go_wp2_with fail
      refine (refInts_any NA NC w12.heap.size (nums events) w12 (Nat.le_refl _) hln hnr HWF.out.evs).mono ?_
      rintro e w13 ⟨v13, rfl, hown13, hb13⟩
      obtain ⟨YA, YC, rfl, _, _⟩ := ownsRow_form hown13
      have hry := Reads.of_own hown13
      have hown := own_below HO.out hb13
      have hz13 := hb13.size
      have HE2 := Lib.hid (HE.out.trans (hb13.mono hz12))
      clear hown13 hb13 hnr
      go_wp2_with (at_builtin; refine wpList_append_any _ rfl _ _ _ rfl w.heap.size 5 i5 _ 1 1 Try.underlying34 hi5 hz50 hz51 hz52 rfl (by omega) v12 _ _ rfl hown w13.heap.size YA _ YC _ rfl hry (byts_oneCell _) (by simp only [maxLen]; have := HL1.out; have := HL2.out; have := HL3.out; have := HLN.out; omega) (by have := HL1.out; have := HL2.out; have := HL3.out; have := HLN.out; omega) (by omega) ?_; intro v14 w14 hown14 hgrow14 hat14)
      go_ret
      exact ⟨_, rfl, enc_end hown14, HE2.out.grown hgrow14 HE2.out.size (fun q hq => (HO.out.lt q hq).1)⟩


set_option maxRecDepth 100000 in
set_option maxHeartbeats 4000000 in
theorem refBytes_false (id ver en : Int) (args : List Int) (events : List Ev) (A E : Option Addr) (ca ce B : Nat) (w : World) (hB : B ≤ w.heap.size) (hla : args.length ≤ 1000000) (hle : events.length ≤ 300000)
    (hr1 : Reads w B 1 A args.length (ints args)) (hr2 : Reads w B 3 E events.length (evs events)) (hwf : WfR ⟨id, ver, args, events, false, en⟩) :
    Calls Try.prog 21 #[.agg #[.int .i64 id, .int .i64 ver, .slice A args.length ca, .slice E events.length ce, .bool false, .int .i64 en]] w fun e w' => ∃ v, e = .returned v ∧ w'.ownsRow w.heap.size 5 1 v (bytesR ⟨id, ver, args, events, false, en⟩).length (byts (bytesR ⟨id, ver, args, events, false, en⟩)) ∧ Below w.heap.size w w' := by
  obtain ⟨i5, hi5, hz50, hz51, hz52⟩ := info_parts info5
  obtain ⟨i3, hi3, hz30, hz31, hz32⟩ := info_parts info3
  have HWF := Lib.hid hwf
  have HST : Hid (BytR w id ver en 0 (.slice A args.length ca) (.slice E events.length ce) (.bool false) events ((w.alloc (.cells #[.int .i64 id, .int .i64 ver, .slice A args.length ca, .slice E events.length ce, .bool false, .int .i64 en] 25)).alloc (.cells #[.int .i64 id, .int .i64 ver, .int .i64 0, .int .i64 en] 3)) 0 (.slice none 0 0)) := bytR_start w _ id ver en 0 _ _ _ events (((Below.refl _ _).alloc (Nat.le_refl _) _).alloc (by simp) _) ((Box6.new w 25 _ _ _ _ _ _).below (below_alloc _ _)) (heap_alloc2_new w _ _)
  clear hwf
  go_enter Try.func21, Try.ntmps21
  go_wp2_with fail
  go_loopw [4, 5] (fun v i wr => ∃ k : Nat, k ≤ events.length ∧ i = .int .i64 k ∧ BytR w id ver en 0 (.slice A args.length ca) (.slice E events.length ce) (.bool false) events wr k v) (fun _ i _ => events.length - (intOf i).toNat)
  case atStart => exact ⟨0, by omega, rfl, HST.out⟩
  case round =>
    obtain ⟨k, hk, rfl, hrel⟩ := hrel
    by_cases hlt : k < events.length
    · obtain ⟨ad, x, rfl, hadB, d0, d1, d2, hx⟩ := (hr2.below (hrel.2.1.mono hB)).at3 (k := k) hlt
      have hn : (nums (events.take k)).length = 3 * k := by rw [nums_length, List.length_take]; omega
      obtain ⟨VA, VC, rfl, _, _⟩ := ownsRow_form hrel.1
      have hown := hrel.1
      have hsz := hrel.2.2.2.lt
      have HR := Lib.hid hrel
      have HN := Lib.hid hn
      have HC := Lib.hid (And.intro hrel.2.2.1 (And.intro d0 (And.intro d1 d2)))
      obtain ⟨z0, z1, z2, z3, z4, z5⟩ := hrel.2.2.1
      clear hrel hn hr1 hr2 d0 d1 d2
      go_wp2_with fail
      clear z0 z1 z2 z3 z4 z5
      refine wp_region_plan (fun w' => Box6 w' w.heap.size (.int .i64 id) (.int .i64 ver) (.slice A args.length ca) (.slice (some ad) events.length ce) (.bool false) (.int .i64 en) ∧ w'.cell? (ad.add (k * 3)) = some (.int .i64 x.p) ∧ w'.cell? ⟨(ad.add (k * 3)).block, (ad.add (k * 3)).off + 1, none⟩ = some (.int .i64 x.k) ∧ w'.cell? ⟨(ad.add (k * 3)).block, (ad.add (k * 3)).off + 2, none⟩ = some (.int .i64 x.n)) [2, 6, 8, 12, 14, 18] (.take 0 (.take 1 (.take 2 (.take 3 (.take 4 (.take 5 (.take 6 (.take 7 (.take 8 (.take 9 (.take 10 (.take 11 (.take 12 (.take 13 (.take 14 (.take 15 (.take 16 (.take 17 (.take 18 (.run 19 (.run 20 (.take 21 .done)))))))))))))))))))))) (by kernel_rfl) (by kernel_rfl) ?_
      change wpP _ _ _ _ _ _ _ _ wr.drew
      have HS := Lib.hid (show  Box6 wr.drew w.heap.size (.int .i64 id) (.int .i64 ver) (.slice A args.length ca) (.slice (some ad) events.length ce) (.bool false) (.int .i64 en) ∧ wr.drew.cell? (ad.add (k * 3)) = some (.int .i64 x.p) ∧ wr.drew.cell? ⟨(ad.add (k * 3)).block, (ad.add (k * 3)).off + 1, none⟩ = some (.int .i64 x.k) ∧ wr.drew.cell? ⟨(ad.add (k * 3)).block, (ad.add (k * 3)).off + 2, none⟩ = some (.int .i64 x.n) from HC.out)
      refine' wpP_pure (some 25) _ rfl rfl (by decide) (by rfl) (fun w' => _) _
      rotate_left
      (go_simp; first | done | rfl)
      simp only [Act.put, List.setIfInBounds_toArray, List.set_cons_zero, List.set_cons_succ, List.getElem_toArray, List.getElem_cons_succ, List.getElem_cons_zero]
      refine' wpP_pure (some 26) _ rfl rfl (by decide) (by rfl) (fun w' => _) _
      rotate_left
      (go_simp; first | done | rfl)
      simp only [Act.put, List.setIfInBounds_toArray, List.set_cons_zero, List.set_cons_succ, List.getElem_toArray, List.getElem_cons_succ, List.getElem_cons_zero]
      refine' wpP_load (some 27) _ rfl rfl (by decide) (by rfl) HS.out (fun w' hw => _) _
      rotate_left
      (obtain ⟨⟨x0, x1, x2, x3, x4, x5⟩, y0, y1, y2⟩ := hw; go_simp; first | done | rfl)
      simp only [Act.put, List.setIfInBounds_toArray, List.set_cons_zero, List.set_cons_succ, List.getElem_toArray, List.getElem_cons_succ, List.getElem_cons_zero]
      refine' wpP_pure (some 28) _ rfl rfl (by decide) (by rfl) (fun w' => _) _
      rotate_left
      (go_simp; first | done | rfl)
      simp only [Act.put, List.setIfInBounds_toArray, List.set_cons_zero, List.set_cons_succ, List.getElem_toArray, List.getElem_cons_succ, List.getElem_cons_zero]
      refine' wpP_pure (some 29) _ rfl rfl (by decide) (by rfl) (fun w' => _) _
      rotate_left
      (go_simp; first | done | rfl)
      simp only [Act.put, List.setIfInBounds_toArray, List.set_cons_zero, List.set_cons_succ, List.getElem_toArray, List.getElem_cons_succ, List.getElem_cons_zero]
      refine' wpP_pure (some 30) _ rfl rfl (by decide) (by rfl) (fun w' => _) _
      rotate_left
      (go_simp; first | done | rfl)
      simp only [Act.put, List.setIfInBounds_toArray, List.set_cons_zero, List.set_cons_succ, List.getElem_toArray, List.getElem_cons_succ, List.getElem_cons_zero]
      refine' wpP_load (some 31) _ rfl rfl (by decide) (by rfl) HS.out (fun w' hw => _) _
      rotate_left
      (obtain ⟨⟨x0, x1, x2, x3, x4, x5⟩, y0, y1, y2⟩ := hw; go_simp; first | done | rfl)
      simp only [Act.put, List.setIfInBounds_toArray, List.set_cons_zero, List.set_cons_succ, List.getElem_toArray, List.getElem_cons_succ, List.getElem_cons_zero]
      refine' wpP_pure (some 32) _ rfl rfl (by decide) (by rfl) (fun w' => _) _
      rotate_left
      (go_simp; first | done | rfl)
      simp only [Act.put, List.setIfInBounds_toArray, List.set_cons_zero, List.set_cons_succ, List.getElem_toArray, List.getElem_cons_succ, List.getElem_cons_zero]
      refine' wpP_load (some 33) _ rfl rfl (by decide) (by rfl) HS.out (fun w' hw => _) _
      rotate_left
      (obtain ⟨⟨x0, x1, x2, x3, x4, x5⟩, y0, y1, y2⟩ := hw; go_simp; first | done | rfl)
      simp only [Act.put, List.setIfInBounds_toArray, List.set_cons_zero, List.set_cons_succ, List.getElem_toArray, List.getElem_cons_succ, List.getElem_cons_zero]
      refine' wpP_pure (some 34) _ rfl rfl (by decide) (by rfl) (fun w' => _) _
      rotate_left
      (go_simp; first | done | rfl)
      simp only [Act.put, List.setIfInBounds_toArray, List.set_cons_zero, List.set_cons_succ, List.getElem_toArray, List.getElem_cons_succ, List.getElem_cons_zero]
      refine' wpP_pure (some 35) _ rfl rfl (by decide) (by rfl) (fun w' => _) _
      rotate_left
      (go_simp; first | done | rfl)
      simp only [Act.put, List.setIfInBounds_toArray, List.set_cons_zero, List.set_cons_succ, List.getElem_toArray, List.getElem_cons_succ, List.getElem_cons_zero]
      refine' wpP_pure (some 36) _ rfl rfl (by decide) (by rfl) (fun w' => _) _
      rotate_left
      (go_simp; first | done | rfl)
      simp only [Act.put, List.setIfInBounds_toArray, List.set_cons_zero, List.set_cons_succ, List.getElem_toArray, List.getElem_cons_succ, List.getElem_cons_zero]
      refine' wpP_load (some 37) _ rfl rfl (by decide) (by rfl) HS.out (fun w' hw => _) _
      rotate_left
      (obtain ⟨⟨x0, x1, x2, x3, x4, x5⟩, y0, y1, y2⟩ := hw; go_simp; first | done | rfl)
      simp only [Act.put, List.setIfInBounds_toArray, List.set_cons_zero, List.set_cons_succ, List.getElem_toArray, List.getElem_cons_succ, List.getElem_cons_zero]
      refine' wpP_pure (some 38) _ rfl rfl (by decide) (by rfl) (fun w' => _) _
      rotate_left
      (go_simp; first | done | rfl)
      simp only [Act.put, List.setIfInBounds_toArray, List.set_cons_zero, List.set_cons_succ, List.getElem_toArray, List.getElem_cons_succ, List.getElem_cons_zero]
      refine' wpP_load (some 39) _ rfl rfl (by decide) (by rfl) HS.out (fun w' hw => _) _
      rotate_left
      (obtain ⟨⟨x0, x1, x2, x3, x4, x5⟩, y0, y1, y2⟩ := hw; go_simp; first | done | rfl)
      simp only [Act.put, List.setIfInBounds_toArray, List.set_cons_zero, List.set_cons_succ, List.getElem_toArray, List.getElem_cons_succ, List.getElem_cons_zero]
      refine' wpP_pure (some 40) _ rfl rfl (by decide) (by rfl) (fun w' => _) _
      rotate_left
      (go_simp; first | done | rfl)
      simp only [Act.put, List.setIfInBounds_toArray, List.set_cons_zero, List.set_cons_succ, List.getElem_toArray, List.getElem_cons_succ, List.getElem_cons_zero]
      refine' wpP_pure (some 41) _ rfl rfl (by decide) (by rfl) (fun w' => _) _
      rotate_left
      (go_simp; first | done | rfl)
      simp only [Act.put, List.setIfInBounds_toArray, List.set_cons_zero, List.set_cons_succ, List.getElem_toArray, List.getElem_cons_succ, List.getElem_cons_zero]
      refine' wpP_pure (some 42) _ rfl rfl (by decide) (by rfl) (fun w' => _) _
      rotate_left
      (go_simp; first | done | rfl)
      simp only [Act.put, List.setIfInBounds_toArray, List.set_cons_zero, List.set_cons_succ, List.getElem_toArray, List.getElem_cons_succ, List.getElem_cons_zero]
      refine' wpP_load (some 43) _ rfl rfl (by decide) (by rfl) HS.out (fun w' hw => _) _
      rotate_left
      (obtain ⟨⟨x0, x1, x2, x3, x4, x5⟩, y0, y1, y2⟩ := hw; go_simp; first | done | rfl)
      simp only [Act.put, List.setIfInBounds_toArray, List.set_cons_zero, List.set_cons_succ, List.getElem_toArray, List.getElem_cons_succ, List.getElem_cons_zero]
      refine runOp_last rfl (by kernel_rfl) (by rfl) (fun K hK => ?_)
      go_simp
      refine hK _ _ ?_
      clear hK K
      try simp only [Act.put, List.setIfInBounds_toArray, List.set_cons_zero, List.set_cons_succ, List.getElem_toArray, List.getElem_cons_succ, List.getElem_cons_zero]
      refine runOp_last rfl (by kernel_rfl) (by rfl) (fun K hK => ?_)
      refine wp_append_lies _ _ _ _ rfl (w.heap.size + 2) 3 i3 _ 1 8 Try.underlying22 hi3 hz30 hz31 hz32 rfl (by omega) (.slice VA (nums (events.take k)).length VC) _ _ rfl (hown.drew.alloc _) ⟨wr.heap.size, 0, none⟩ 3 3 [.int .i64 x.p, .int .i64 x.k, .int .i64 x.n] rfl rfl (World.news_of_block (cs := #[.int .i64 x.p, .int .i64 x.k, .int .i64 x.n]) (t := 3) (fr := (0, 0)) (heap_alloc_new wr.drew _)) (by simp [Value.oneCell']) (by omega) (by simp only [maxLen]; have := HN.out; omega) (by have := HN.out; omega) (by simp; omega) (wr.heap.size + 1) (by simp) ?_
      intro gg cap w3 hown3 hgrow3 hat3 hlt3
      refine hK _ _ ?_
      clear hK K
      try simp only [Act.put, List.setIfInBounds_toArray, List.set_cons_zero, List.set_cons_succ, List.getElem_toArray, List.getElem_cons_succ, List.getElem_cons_zero]
      refine' wpP_pure (some 4) _ rfl rfl (by decide) (by rfl) (fun w' => _) _
      rotate_left
      (go_simp; first | done | rfl)
      simp only [Act.put, List.setIfInBounds_toArray, List.set_cons_zero, List.set_cons_succ, List.getElem_toArray, List.getElem_cons_succ, List.getElem_cons_zero]
      refine NoPanic.normal ?_
      go_wp2
      go_roundw
      case rel => exact ⟨k + 1, by omega, by go_num, bytR_step hx.out HR.out (((Below.refl wr.heap.size wr).drew).alloc (by simp) _) hgrow3 hown3⟩
      case measure => simp [intOf]; omega
    · obtain rfl : k = events.length := by omega
      rw [BytR, List.take_length] at hrel
      obtain ⟨NA, NC, rfl, _, _⟩ := ownsRow_form hrel.1
      have HNO := Lib.hid hrel.1
      have HBW0 := Lib.hid hrel.2.1
      have HRA := Lib.hid hr1
      have HBX0 := Lib.hid hrel.2.2.1
      have HB4 := Lib.hid (show Blk wr.drew (w.heap.size + 1) 3 #[.int .i64 id, .int .i64 ver, .int .i64 0, .int .i64 en] from hrel.2.2.2)
      have H4 := Lib.hid (show I64s [id, ver, 0, en] from HWF.out.four)
      have HWA := Lib.hid HWF.out.args
      obtain ⟨z0, z1, z2, z3, z4, z5⟩ := hrel.2.2.1
      clear hrel hr1 hr2
      go_wp2_with fail
      clear z0 z1 z2 z3 z4 z5
      refine wp_region_plan (fun w' => Box6 w' w.heap.size (.int .i64 id) (.int .i64 ver) (.slice A args.length ca) (.slice E events.length ce) (.bool false) (.int .i64 en)) [3] (.take 0 (.take 2 (.take 3 (.run 1 (.run 4 (.run 5 (.take 6 .done))))))) (by kernel_rfl) (by kernel_rfl) ?_
      change wpP _ _ _ _ _ _ _ _ wr.drew
      have HS := Lib.hid (show  Box6 wr.drew w.heap.size (.int .i64 id) (.int .i64 ver) (.slice A args.length ca) (.slice E events.length ce) (.bool false) (.int .i64 en) from HBX0.out)
      refine' wpP_pure (some 46) _ rfl rfl (by decide) (by rfl) (fun w' => _) _
      rotate_left
      (go_simp; first | done | rfl)
      simp only [Act.put, List.setIfInBounds_toArray, List.set_cons_zero, List.set_cons_succ, List.getElem_toArray, List.getElem_cons_succ, List.getElem_cons_zero]
      refine' wpP_pure (some 48) _ rfl rfl (by decide) (by rfl) (fun w' => _) _
      rotate_left
      (go_simp; first | done | rfl)
      simp only [Act.put, List.setIfInBounds_toArray, List.set_cons_zero, List.set_cons_succ, List.getElem_toArray, List.getElem_cons_succ, List.getElem_cons_zero]
      refine' wpP_load (some 49) _ rfl rfl (by decide) (by rfl) HS.out (fun w' hw => _) _
      rotate_left
      (obtain ⟨x0, x1, x2, x3, x4, x5⟩ := hw; go_simp; first | done | rfl)
      simp only [Act.put, List.setIfInBounds_toArray, List.set_cons_zero, List.set_cons_succ, List.getElem_toArray, List.getElem_cons_succ, List.getElem_cons_zero]
      refine runOp_keep rfl (by rfl) (fun K hK => ?_)
      go_simp
      refine (refInts4_any _ _ _ _ _ _ _ HB4.out H4.out).mono ?_
      rintro e w8 ⟨v8, rfl, hown8, hb8⟩
      refine hK _ _ (fun hw => ?_) ?_
      · exact hw.below hb8
      clear hK K
      try simp only [Act.put, List.setIfInBounds_toArray, List.set_cons_zero, List.set_cons_succ, List.getElem_toArray, List.getElem_cons_succ, List.getElem_cons_zero]
      replace HS := Lib.hid (HS.out.below hb8)
      refine runOp_last rfl (by kernel_rfl) (by rfl) (fun K hK => ?_)
      have hb81 : Below w.heap.size w w8 := (HBW0.out.drew).trans (hb8.mono HBW0.out.drew.size)
      have hra := HRA.out.below (hb81.mono hB)
      go_simp
      refine (refInts_any A ca B args _ (Nat.le_trans hB hb81.size) hla hra HWA.out).mono ?_
      rintro e w11 ⟨v11, rfl, hown11, hb11⟩
      refine hK _ _ ?_
      clear hK K
      try simp only [Act.put, List.setIfInBounds_toArray, List.set_cons_zero, List.set_cons_succ, List.getElem_toArray, List.getElem_cons_succ, List.getElem_cons_zero]
      refine runOp_last rfl (by kernel_rfl) (by rfl) (fun K hK => ?_)
      obtain ⟨XA, XC, rfl, _, _⟩ := ownsRow_form hown11
      have hrx := Reads.of_own hown11
      have hown := own_below hown8 hb11
      have hL1 := encInts_le _ H4.out (by simp)
      have hL2 := encInts_le _ HWA.out hla
      simp only [List.length_cons, List.length_nil] at hL1
      refine wp_append_any _ _ _ _ rfl wr.heap.size 5 i5 _ 1 1 Try.underlying34 hi5 hz50 hz51 hz52 rfl (by omega) v8 _ _ rfl (by simpa using hown) w11.heap.size XA _ XC _ rfl hrx (byts_oneCell _) (by simp only [maxLen]; omega) (by omega) (Nat.le_trans (show wr.heap.size ≤ w8.heap.size from by have := hb8.size; simpa using this) hb11.size) ?_
      intro v12 w12 hown12 hgrow12 hat12
      refine hK _ _ ?_
      clear hK K
      try simp only [Act.put, List.setIfInBounds_toArray, List.set_cons_zero, List.set_cons_succ, List.getElem_toArray, List.getElem_cons_succ, List.getElem_cons_zero]
      refine' wpP_pure (some 6) _ rfl rfl (by decide) (by rfl) (fun w' => _) _
      rotate_left
      (go_simp; first | done | rfl)
      simp only [Act.put, List.setIfInBounds_toArray, List.set_cons_zero, List.set_cons_succ, List.getElem_toArray, List.getElem_cons_succ, List.getElem_cons_zero]
      refine NoPanic.normal ?_
      have c1 : Below wr.heap.size wr w8 := (Below.refl wr.heap.size wr).drew.trans (hb8.mono (by simp))
      have c2 : Below wr.heap.size wr w11 := c1.trans (hb11.mono c1.size)
      have c3 : Below wr.heap.size wr w12 := c2.grown hgrow12 c2.size (fun q hq => by have := (hown8.lt q hq).1; simpa using this)
      have hnr := Reads.of_own (own_below HNO.out c3)
      have HE := Lib.hid (HBW0.out.trans (c3.mono HBW0.out.size))
      have HO := Lib.hid (ownsRow_base hown12 (show w.heap.size ≤ wr.heap.size from HBW0.out.size))
      have hz12 : w.heap.size ≤ w12.heap.size := HE.out.size
      have hln : (nums events).length ≤ 1000000 := by rw [nums_length]; omega
      have HL1 := Lib.hid hL1
      have HL2 := Lib.hid hL2
      have HL3 := Lib.hid (encInts_le _ HWF.out.evs hln)
      have HLN := Lib.hid (nums_length events)
      clear c1 c2 c3 hgrow12 hown12 hown8 hown11 hb8 hb11 hb81 hra hrx hown hL1 hL2 hat12 HS HBX0 HRA HNO HBW0
      go_wp2_with fail
      refine (refInts_any NA NC w12.heap.size (nums events) w12 (Nat.le_refl _) hln hnr HWF.out.evs).mono ?_
      rintro e w13 ⟨v13, rfl, hown13, hb13⟩
      obtain ⟨YA, YC, rfl, _, _⟩ := ownsRow_form hown13
      have hry := Reads.of_own hown13
      have hown := own_below HO.out hb13
      have hz13 := hb13.size
      have HE2 := Lib.hid (HE.out.trans (hb13.mono hz12))
      clear hown13 hb13 hnr
      go_wp2_with (at_builtin; refine wpList_append_any _ rfl _ _ _ rfl w.heap.size 5 i5 _ 1 1 Try.underlying34 hi5 hz50 hz51 hz52 rfl (by omega) v12 _ _ rfl hown w13.heap.size YA _ YC _ rfl hry (byts_oneCell _) (by simp only [maxLen]; have := HL1.out; have := HL2.out; have := HL3.out; have := HLN.out; omega) (by have := HL1.out; have := HL2.out; have := HL3.out; have := HLN.out; omega) (by omega) ?_; intro v14 w14 hown14 hgrow14 hat14)
      go_ret
      exact ⟨_, rfl, enc_end hown14, HE2.out.grown hgrow14 HE2.out.size (fun q hq => (HO.out.lt q hq).1)⟩


theorem refBytes_any (r : Rp) (A E : Option Addr) (ca ce B : Nat) (w : World) (hB : B ≤ w.heap.size) (hla : r.args.length ≤ 1000000) (hle : r.events.length ≤ 300000)
    (hr1 : Reads w B 1 A r.args.length (ints r.args)) (hr2 : Reads w B 3 E r.events.length (evs r.events)) (hwf : WfR r) :
    Calls Try.prog 21 #[.agg #[.int .i64 r.id, .int .i64 r.ver, .slice A r.args.length ca, .slice E r.events.length ce, .bool r.cut, .int .i64 r.en]] w fun e w' => ∃ v, e = .returned v ∧
      w'.ownsRow w.heap.size 5 1 v (bytesR r).length (byts (bytesR r)) ∧ Below w.heap.size w w' := by
  obtain ⟨id, ver, args, events, cut, en⟩ := r
  cases cut with
  | true => exact refBytes_true id ver en args events A E ca ce B w hB hla hle hr1 hr2 hwf
  | false => exact refBytes_false id ver en args events A E ca ce B w hB hla hle hr1 hr2 hwf
end Go.Proofs.Ytlekojbcaelpiaa

/- scoriaref38.Encode; given, plain, same, Same. -/
namespace Go.Proofs.Ytlekojbcaelpiaa
open Go.RowKit

/-- A report's value, and what it reads as. -/
abbrev rpV (r : Rp) (A : Option Addr) (ca : Nat) (E : Option Addr) (ce : Nat) : Value :=
  .agg #[.int .i64 r.id, .int .i64 r.ver, .slice A r.args.length ca, .slice E r.events.length ce, .bool r.cut, .int .i64 r.en]
abbrev rpCells (r : Rp) (A : Option Addr) (ca : Nat) (E : Option Addr) (ce : Nat) (t : TypeId) : Obj :=
  .cells #[.int .i64 r.id, .int .i64 r.ver, .slice A r.args.length ca, .slice E r.events.length ce, .bool r.cut, .int .i64 r.en] t
structure RpAt (w : World) (B : Nat) (r : Rp) (A : Option Addr) (ca : Nat) (E : Option Addr) (ce : Nat) : Prop where
  ra : Reads w B 1 A r.args.length (ints r.args)
  re : Reads w B 3 E r.events.length (evs r.events)
  la : r.args.length ≤ 1000000
  le : r.events.length ≤ 300000
  ca1 : r.args.length ≤ ca
  ca2 : ca ≤ maxLen
  ce1 : r.events.length ≤ ce
  ce2 : ce ≤ maxLen
  wf : WfR r
theorem RpAt.below {w w' : World} {B : Nat} {r : Rp} {A : Option Addr} {ca : Nat} {E : Option Addr} {ce : Nat} (h : RpAt w B r A ca E ce) (hb : Below B w w') : RpAt w' B r A ca E ce :=
  ⟨h.ra.below hb, h.re.below hb, h.la, h.le, h.ca1, h.ca2, h.ce1, h.ce2, h.wf⟩
theorem RpAt.more {w : World} {B B' : Nat} {r : Rp} {A : Option Addr} {ca : Nat} {E : Option Addr} {ce : Nat} (h : RpAt w B r A ca E ce) (hb : B ≤ B') : RpAt w B' r A ca E ce :=
  ⟨h.ra.more hb, h.re.more hb, h.la, h.le, h.ca1, h.ca2, h.ce1, h.ce2, h.wf⟩

set_option maxRecDepth 100000 in
set_option maxHeartbeats 2000000 in
theorem refEncode_any (r : Rp) (A E : Option Addr) (ca ce B : Nat) (w : World) (hB : B ≤ w.heap.size) (h : RpAt w B r A ca E ce) :
    Calls Try.prog 15 #[rpV r A ca E ce] w fun e w' => ∃ v, e = .returned v ∧ w'.ownsRow w.heap.size 5 1 v (encB r).length (byts (encB r)) ∧ Below w.heap.size w w' := by
  have q := h.below ((Below.refl B w).alloc hB (rpCells r A ca E ce 25))
  have HC0 := Lib.hid (Box6.new w 25 (.int .i64 r.id) (.int .i64 r.ver) (.slice A r.args.length ca) (.slice E r.events.length ce) (.bool r.cut) (.int .i64 r.en))
  have HR := Lib.hid h
  clear h
  by_cases hv : validB r = true
  · have he : encB r = bytesR r := by unfold encB; rw [if_pos hv]
    rw [he]
    have HV := Lib.hid hv
    clear hv he
    obtain ⟨x0, x1, x2, x3, x4, x5⟩ := HC0.out
    go_enter Try.func15, Try.ntmps15
    go_wp2_with fail
    refine (refValid_any r A E ca ce B _ (by simp; omega) q.la (by have := q.le; omega) q.ra q.re q.wf.en).mono ?_
    rintro e w1 ⟨rfl, hb1⟩
    rw [HV.out]
    have HB1 := Lib.hid ((below_alloc w (rpCells r A ca E ce 25)).trans (hb1.mono (by simp)))
    have HQ := Lib.hid (q.below (hb1.mono (by simp; omega)))
    obtain ⟨y0, y1, y2, y3, y4, y5⟩ := HC0.out.below hb1
    clear hb1 q x0 x1 x2 x3 x4 x5 HC0
    go_wp2_with fail
    refine (refBytes_any r A E ca ce B _ (Nat.le_trans hB HB1.out.size) HQ.out.la HQ.out.le HQ.out.ra HQ.out.re HQ.out.wf).mono ?_
    rintro e w2 ⟨v2, rfl, hown2, hb2⟩
    have HF := Lib.hid (And.intro (ownsRow_base hown2 HB1.out.size) (HB1.out.trans (hb2.mono HB1.out.size)))
    clear hown2 hb2
    go_wp2
    go_ret
    exact ⟨_, rfl, HF.out⟩
  · have hvf : validB r = false := by simpa using hv
    have he : encB r = [] := by unfold encB; rw [if_neg hv]
    rw [he]
    have HV := Lib.hid hvf
    clear hv he hvf
    obtain ⟨x0, x1, x2, x3, x4, x5⟩ := HC0.out
    go_enter Try.func15, Try.ntmps15
    go_wp2_with fail
    refine (refValid_any r A E ca ce B _ (by simp; omega) q.la (by have := q.le; omega) q.ra q.re q.wf.en).mono ?_
    rintro e w1 ⟨rfl, hb1⟩
    rw [HV.out]
    have HB1 := Lib.hid ((below_alloc w (rpCells r A ca E ce 25)).trans (hb1.mono (by simp)))
    clear hb1 q x0 x1 x2 x3 x4 x5 HC0
    go_wp2
    go_ret
    exact ⟨_, rfl, World.ownsRow_nil _ _ _ _, HB1.out⟩

set_option maxHeartbeats 1000000 in
theorem given_any (r : Rp) (A E : Option Addr) (ca ce : Nat) (w : World) :
    Calls Try.prog 11 #[rpV r A ca E ce] w fun e w' => e = .returned (rpV r A ca E ce) ∧ Below w.heap.size w w' := by
  go_enter Try.func11, Try.ntmps11
  go_wp2
  refine bodyPost_ret (v := rpV r A ca E ce) (by simp [results, Try.results11, go_sem]) rfl ⟨rfl, ?_⟩
  exact below2' w _ _
set_option maxHeartbeats 1000000 in
theorem plain_any (r : Rp) (A E : Option Addr) (ca ce : Nat) (w : World) :
    Calls Try.prog 24 #[rpV r A ca E ce] w fun e w' => e = .returned (rpV r A ca E ce) ∧ Below w.heap.size w w' := by
  go_enter Try.func24, Try.ntmps24
  go_wp2
  refine bodyPost_ret (v := rpV r A ca E ce) (by simp [results, Try.results24, go_sem]) rfl ⟨rfl, ?_⟩
  exact below2' w _ _
end Go.Proofs.Ytlekojbcaelpiaa

/- scoriaref38.Same, scorialaw38.same. -/
namespace Go.Proofs.Ytlekojbcaelpiaa
open Go.RowKit

def sameR (a b : Rp) : Bool := eqI (bytesR a) (bytesR b)
theorem bytesR_le (r : Rp) (h : WfR r) (ha : r.args.length ≤ 1000000) (he : r.events.length ≤ 300000) : (bytesR r).length ≤ 30000000 := by
  have h1 := encInts_le _ h.four (by simp)
  have h2 := encInts_le _ h.args ha
  have h3 := encInts_le _ h.evs (by rw [nums_length]; omega)
  rw [nums_length] at h3
  simp only [List.length_cons, List.length_nil] at h1
  unfold bytesR; rw [List.length_append, List.length_append]; omega
theorem below_drewN' {B : Nat} {a w : World} (h : Below B a w) (n : Nat) : Below B a (w.drewN n) := ⟨h.os, h.tape, h.output, h.size, h.block⟩
theorem two6 (w : World) (t u : TypeId) (a0 a1 a2 a3 a4 a5 b0 b1 b2 b3 b4 b5 : Value) :
    Box6 ((w.alloc (.cells #[a0, a1, a2, a3, a4, a5] t)).alloc (.cells #[b0, b1, b2, b3, b4, b5] u)).drew w.heap.size a0 a1 a2 a3 a4 a5 ∧
    Box6 ((w.alloc (.cells #[a0, a1, a2, a3, a4, a5] t)).alloc (.cells #[b0, b1, b2, b3, b4, b5] u)).drew (w.heap.size + 1) b0 b1 b2 b3 b4 b5 := by
  constructor
  · exact (Box6.new w t a0 a1 a2 a3 a4 a5).below (below_alloc _ _).drew
  · have h := Box6.new (w.alloc (.cells #[a0, a1, a2, a3, a4, a5] t)) u b0 b1 b2 b3 b4 b5
    have e : (w.alloc (.cells #[a0, a1, a2, a3, a4, a5] t)).heap.size = w.heap.size + 1 := by simp
    rw [e] at h
    exact h

set_option maxRecDepth 100000 in
set_option maxHeartbeats 4000000 in
theorem refSame_any (a b : Rp) (Aa Ea Ab Eb : Option Addr) (caa cea cab ceb B : Nat) (w : World) (hB : B ≤ w.heap.size) (ha : RpAt w B a Aa caa Ea cea) (hb : RpAt w B b Ab cab Eb ceb) :
    Calls Try.prog 23 #[rpV a Aa caa Ea cea, rpV b Ab cab Eb ceb] w fun e w' => e = .returned (.bool (sameR a b)) ∧ Below w.heap.size w w' := by
  have HB := Lib.hid (show Below w.heap.size w ((w.alloc (.cells #[.int .i64 a.id, .int .i64 a.ver, .slice Aa a.args.length caa, .slice Ea a.events.length cea, .bool a.cut, .int .i64 a.en] 25)).alloc (.cells #[.int .i64 b.id, .int .i64 b.ver, .slice Ab b.args.length cab, .slice Eb b.events.length ceb, .bool b.cut, .int .i64 b.en] 25)).drew from (below2' w _ _).drew)
  have QA := Lib.hid (ha.below (HB.out.mono hB))
  have QB := Lib.hid (hb.below (HB.out.mono hB))
  have HW := Lib.hid (show Box6 ((w.alloc (.cells #[.int .i64 a.id, .int .i64 a.ver, .slice Aa a.args.length caa, .slice Ea a.events.length cea, .bool a.cut, .int .i64 a.en] 25)).alloc (.cells #[.int .i64 b.id, .int .i64 b.ver, .slice Ab b.args.length cab, .slice Eb b.events.length ceb, .bool b.cut, .int .i64 b.en] 25)).drew (w.heap.size) (.int .i64 a.id) (.int .i64 a.ver) (.slice Aa a.args.length caa) (.slice Ea a.events.length cea) (.bool a.cut) (.int .i64 a.en) ∧ Box6 ((w.alloc (.cells #[.int .i64 a.id, .int .i64 a.ver, .slice Aa a.args.length caa, .slice Ea a.events.length cea, .bool a.cut, .int .i64 a.en] 25)).alloc (.cells #[.int .i64 b.id, .int .i64 b.ver, .slice Ab b.args.length cab, .slice Eb b.events.length ceb, .bool b.cut, .int .i64 b.en] 25)).drew (w.heap.size + 1) (.int .i64 b.id) (.int .i64 b.ver) (.slice Ab b.args.length cab) (.slice Eb b.events.length ceb) (.bool b.cut) (.int .i64 b.en) from two6 w 25 25 _ _ _ _ _ _ _ _ _ _ _ _)
  have HSZ := Lib.hid (show B ≤ ((w.alloc (.cells #[.int .i64 a.id, .int .i64 a.ver, .slice Aa a.args.length caa, .slice Ea a.events.length cea, .bool a.cut, .int .i64 a.en] 25)).alloc (.cells #[.int .i64 b.id, .int .i64 b.ver, .slice Ab b.args.length cab, .slice Eb b.events.length ceb, .bool b.cut, .int .i64 b.en] 25)).drew.heap.size from Nat.le_trans hB HB.out.size)
  clear ha hb
  go_enter Try.func23, Try.ntmps23
  go_wp2_with fail
  refine wp_region_plan (fun w' => Box6 w' (w.heap.size) (.int .i64 a.id) (.int .i64 a.ver) (.slice Aa a.args.length caa) (.slice Ea a.events.length cea) (.bool a.cut) (.int .i64 a.en) ∧ Box6 w' (w.heap.size + 1) (.int .i64 b.id) (.int .i64 b.ver) (.slice Ab b.args.length cab) (.slice Eb b.events.length ceb) (.bool b.cut) (.int .i64 b.en)) [0, 2] (.take 0 (.take 2 (.run 1 (.run 3 (.run 4 (.take 5 .done)))))) (by kernel_rfl) (by kernel_rfl) ?_
  generalize ((w.alloc (.cells #[.int .i64 a.id, .int .i64 a.ver, .slice Aa a.args.length caa, .slice Ea a.events.length cea, .bool a.cut, .int .i64 a.en] 25)).alloc (.cells #[.int .i64 b.id, .int .i64 b.ver, .slice Ab b.args.length cab, .slice Eb b.events.length ceb, .bool b.cut, .int .i64 b.en] 25)).drew = W at HW HB QA QB HSZ ⊢
  have HS := Lib.hid HW.out
  refine' wpP_load (some 5) _ rfl rfl (by decide) (by rfl) HS.out (fun w' hw => _) _
  rotate_left
  (obtain ⟨⟨x0, x1, x2, x3, x4, x5⟩, y0, y1, y2, y3, y4, y5⟩ := hw; go_simp; first | done | rfl)
  simp only [Act.put, List.setIfInBounds_toArray, List.set_cons_zero, List.set_cons_succ, List.getElem_toArray, List.getElem_cons_succ, List.getElem_cons_zero]
  refine' wpP_load (some 7) _ rfl rfl (by decide) (by rfl) HS.out (fun w' hw => _) _
  rotate_left
  (obtain ⟨⟨x0, x1, x2, x3, x4, x5⟩, y0, y1, y2, y3, y4, y5⟩ := hw; go_simp; first | done | rfl)
  simp only [Act.put, List.setIfInBounds_toArray, List.set_cons_zero, List.set_cons_succ, List.getElem_toArray, List.getElem_cons_succ, List.getElem_cons_zero]
  refine runOp_keep rfl (by rfl) (fun K hK => ?_)
  go_simp
  refine (refBytes_any a Aa Ea caa cea B _ HSZ.out QA.out.la QA.out.le QA.out.ra QA.out.re QA.out.wf).mono ?_
  rintro e w6 ⟨v6, rfl, hown6, hb6⟩
  refine hK _ _ (fun hw => ?_) ?_
  · exact ⟨hw.1.below hb6, hw.2.below hb6⟩
  clear hK K
  try simp only [Act.put, List.setIfInBounds_toArray, List.set_cons_zero, List.set_cons_succ, List.getElem_toArray, List.getElem_cons_succ, List.getElem_cons_zero]
  replace HS := Lib.hid (And.intro (HS.out.1.below hb6) (HS.out.2.below hb6))
  refine runOp_last rfl (by kernel_rfl) (by rfl) (fun K hK => ?_)
  have QB6 := Lib.hid (QB.out.below (hb6.mono HSZ.out))
  go_simp
  refine (refBytes_any b Ab Eb cab ceb B _ (Nat.le_trans HSZ.out hb6.size) QB6.out.la QB6.out.le QB6.out.ra QB6.out.re QB6.out.wf).mono ?_
  rintro e w8 ⟨v8, rfl, hown8, hb8⟩
  refine hK _ _ ?_
  clear hK K
  try simp only [Act.put, List.setIfInBounds_toArray, List.set_cons_zero, List.set_cons_succ, List.getElem_toArray, List.getElem_cons_succ, List.getElem_cons_zero]
  refine runOp_last rfl (by kernel_rfl) (by rfl) (fun K hK => ?_)
  have hown6' := own_below hown6 hb8
  obtain ⟨XA, XC, rfl, _, _⟩ := ownsRow_form hown6'
  obtain ⟨YA, YC, rfl, _, _⟩ := ownsRow_form hown8
  have hl6 := bytesR_le a QA.out.wf QA.out.la QA.out.le
  have hl8 := bytesR_le b QB.out.wf QB.out.la QB.out.le
  go_simp
  refine (sameBytes_any XA YA XC YC w8.heap.size w8.heap.size _ _ _ (by omega) (by omega) (Reads.of_own hown6') (Reads.of_own hown8)).mono ?_
  rintro e w' ⟨rfl, n9, rfl⟩
  refine hK _ _ ?_
  clear hK K
  try simp only [Act.put, List.setIfInBounds_toArray, List.set_cons_zero, List.set_cons_succ, List.getElem_toArray, List.getElem_cons_succ, List.getElem_cons_zero]
  refine' wpP_pure (some 4) _ rfl rfl (by decide) (by rfl) (fun w' => _) _
  rotate_left
  (go_simp; first | done | rfl)
  simp only [Act.put, List.setIfInBounds_toArray, List.set_cons_zero, List.set_cons_succ, List.getElem_toArray, List.getElem_cons_succ, List.getElem_cons_zero]
  refine NoPanic.normal ?_
  have HF := Lib.hid (below_drewN' ((HB.out.trans (hb6.mono HB.out.size)).trans (hb8.mono (Nat.le_trans HB.out.size hb6.size))) n9)
  clear hb6 hb8 hown6 hown8 hown6'
  go_wp2
  go_ret
  exact ⟨rfl, HF.out⟩

set_option maxRecDepth 100000 in
set_option maxHeartbeats 4000000 in
theorem lawSame_any (a b : Rp) (Aa Ea Ab Eb : Option Addr) (caa cea cab ceb B : Nat) (w : World) (hB : B ≤ w.heap.size) (ha : RpAt w B a Aa caa Ea cea) (hb : RpAt w B b Ab cab Eb ceb) :
    Calls Try.prog 20 #[rpV a Aa caa Ea cea, rpV b Ab cab Eb ceb] w fun e w' => e = .returned (.bool (sameR a b)) ∧ Below w.heap.size w w' := by
  have HB := Lib.hid (show Below w.heap.size w ((w.alloc (.cells #[.int .i64 a.id, .int .i64 a.ver, .slice Aa a.args.length caa, .slice Ea a.events.length cea, .bool a.cut, .int .i64 a.en] 30)).alloc (.cells #[.int .i64 b.id, .int .i64 b.ver, .slice Ab b.args.length cab, .slice Eb b.events.length ceb, .bool b.cut, .int .i64 b.en] 30)).drew from (below2' w _ _).drew)
  have QA := Lib.hid (ha.below (HB.out.mono hB))
  have QB := Lib.hid (hb.below (HB.out.mono hB))
  have HW := Lib.hid (show Box6 ((w.alloc (.cells #[.int .i64 a.id, .int .i64 a.ver, .slice Aa a.args.length caa, .slice Ea a.events.length cea, .bool a.cut, .int .i64 a.en] 30)).alloc (.cells #[.int .i64 b.id, .int .i64 b.ver, .slice Ab b.args.length cab, .slice Eb b.events.length ceb, .bool b.cut, .int .i64 b.en] 30)).drew (w.heap.size) (.int .i64 a.id) (.int .i64 a.ver) (.slice Aa a.args.length caa) (.slice Ea a.events.length cea) (.bool a.cut) (.int .i64 a.en) ∧ Box6 ((w.alloc (.cells #[.int .i64 a.id, .int .i64 a.ver, .slice Aa a.args.length caa, .slice Ea a.events.length cea, .bool a.cut, .int .i64 a.en] 30)).alloc (.cells #[.int .i64 b.id, .int .i64 b.ver, .slice Ab b.args.length cab, .slice Eb b.events.length ceb, .bool b.cut, .int .i64 b.en] 30)).drew (w.heap.size + 1) (.int .i64 b.id) (.int .i64 b.ver) (.slice Ab b.args.length cab) (.slice Eb b.events.length ceb) (.bool b.cut) (.int .i64 b.en) from two6 w 30 30 _ _ _ _ _ _ _ _ _ _ _ _)
  have HSZ := Lib.hid (show B ≤ ((w.alloc (.cells #[.int .i64 a.id, .int .i64 a.ver, .slice Aa a.args.length caa, .slice Ea a.events.length cea, .bool a.cut, .int .i64 a.en] 30)).alloc (.cells #[.int .i64 b.id, .int .i64 b.ver, .slice Ab b.args.length cab, .slice Eb b.events.length ceb, .bool b.cut, .int .i64 b.en] 30)).drew.heap.size from Nat.le_trans hB HB.out.size)
  clear ha hb
  go_enter Try.func20, Try.ntmps20
  go_wp2_with fail
  refine wp_region_plan (fun w' => Box6 w' (w.heap.size) (.int .i64 a.id) (.int .i64 a.ver) (.slice Aa a.args.length caa) (.slice Ea a.events.length cea) (.bool a.cut) (.int .i64 a.en) ∧ Box6 w' (w.heap.size + 1) (.int .i64 b.id) (.int .i64 b.ver) (.slice Ab b.args.length cab) (.slice Eb b.events.length ceb) (.bool b.cut) (.int .i64 b.en)) [0, 2] (.take 0 (.take 2 (.run 1 (.run 3 (.run 4 (.take 5 .done)))))) (by kernel_rfl) (by kernel_rfl) ?_
  generalize ((w.alloc (.cells #[.int .i64 a.id, .int .i64 a.ver, .slice Aa a.args.length caa, .slice Ea a.events.length cea, .bool a.cut, .int .i64 a.en] 30)).alloc (.cells #[.int .i64 b.id, .int .i64 b.ver, .slice Ab b.args.length cab, .slice Eb b.events.length ceb, .bool b.cut, .int .i64 b.en] 30)).drew = W at HW HB QA QB HSZ ⊢
  have HS := Lib.hid HW.out
  refine' wpP_load (some 5) _ rfl rfl (by decide) (by rfl) HS.out (fun w' hw => _) _
  rotate_left
  (obtain ⟨⟨x0, x1, x2, x3, x4, x5⟩, y0, y1, y2, y3, y4, y5⟩ := hw; go_simp; first | done | rfl)
  simp only [Act.put, List.setIfInBounds_toArray, List.set_cons_zero, List.set_cons_succ, List.getElem_toArray, List.getElem_cons_succ, List.getElem_cons_zero]
  refine' wpP_load (some 7) _ rfl rfl (by decide) (by rfl) HS.out (fun w' hw => _) _
  rotate_left
  (obtain ⟨⟨x0, x1, x2, x3, x4, x5⟩, y0, y1, y2, y3, y4, y5⟩ := hw; go_simp; first | done | rfl)
  simp only [Act.put, List.setIfInBounds_toArray, List.set_cons_zero, List.set_cons_succ, List.getElem_toArray, List.getElem_cons_succ, List.getElem_cons_zero]
  refine runOp_keep rfl (by rfl) (fun K hK => ?_)
  go_simp
  refine (plain_any a Aa Ea caa cea _).mono ?_
  rintro e w6 ⟨rfl, hb6⟩
  refine hK _ _ (fun hw => ?_) ?_
  · exact ⟨hw.1.below hb6, hw.2.below hb6⟩
  clear hK K
  try simp only [Act.put, List.setIfInBounds_toArray, List.set_cons_zero, List.set_cons_succ, List.getElem_toArray, List.getElem_cons_succ, List.getElem_cons_zero]
  replace HS := Lib.hid (And.intro (HS.out.1.below hb6) (HS.out.2.below hb6))
  refine runOp_last rfl (by kernel_rfl) (by rfl) (fun K hK => ?_)
  go_simp
  refine (plain_any b Ab Eb cab ceb _).mono ?_
  rintro e w8 ⟨rfl, hb8⟩
  refine hK _ _ ?_
  clear hK K
  try simp only [Act.put, List.setIfInBounds_toArray, List.set_cons_zero, List.set_cons_succ, List.getElem_toArray, List.getElem_cons_succ, List.getElem_cons_zero]
  refine runOp_last rfl (by kernel_rfl) (by rfl) (fun K hK => ?_)
  have hbb := hb6.trans (hb8.mono hb6.size)
  have Qa := Lib.hid (QA.out.below (hbb.mono HSZ.out))
  have Qb := Lib.hid (QB.out.below (hbb.mono HSZ.out))
  go_simp
  refine (refSame_any a b Aa Ea Ab Eb caa cea cab ceb B _ (Nat.le_trans HSZ.out hbb.size) Qa.out Qb.out).mono ?_
  rintro e w9 ⟨rfl, hb9⟩
  refine hK _ _ ?_
  clear hK K
  try simp only [Act.put, List.setIfInBounds_toArray, List.set_cons_zero, List.set_cons_succ, List.getElem_toArray, List.getElem_cons_succ, List.getElem_cons_zero]
  refine' wpP_pure (some 4) _ rfl rfl (by decide) (by rfl) (fun w' => _) _
  rotate_left
  (go_simp; first | done | rfl)
  simp only [Act.put, List.setIfInBounds_toArray, List.set_cons_zero, List.set_cons_succ, List.getElem_toArray, List.getElem_cons_succ, List.getElem_cons_zero]
  refine NoPanic.normal ?_
  have HF := Lib.hid ((HB.out.trans (hbb.mono HB.out.size)).trans (hb9.mono (Nat.le_trans HB.out.size hbb.size)))
  clear hb6 hb8 hb9 hbb
  go_wp2
  go_ret
  exact ⟨rfl, HF.out⟩
end Go.Proofs.Ytlekojbcaelpiaa
