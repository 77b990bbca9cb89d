import Derived.WalkKit
import Derived.KernelRfl
import Derived.WalkSpells
import Derived.WalkLawsBesides
import Derived.Maps.AppendAt
import Derived.OrdersIn
import Derived.RangeFuncIn
import Derived.RangeFuncLeaves
import Derived.RangeFuncRecord
import Derived.RangeFuncSeq
import Derived.Scope
import Derived.DeepKeys3
import Derived.Laws.CopyRow
/-
  The contracts of the functions of the program and of the reference, and the logic that they are proved in: the base that several claims of this seat share.
-/
set_option linter.all false
section
namespace Go.Proofs.Ythogdgkafaclaaa
open Go.RowKit
abbrev Env := List (Nat × Value)
def puts (a : Act) : Env → Act
  | [] => a
  | (d, v) :: l => (puts a l).put (some d) v
def sl (a : Act) (s : Nat) : Value := a.tmps.getD s undef
def lk (b : Value) : Env → Nat → Value
  | [], _ => b
  | (d, v) :: l, s => match Nat.beq d s with | true => v | false => lk b l s
def ev (a : Act) (l : Env) : Operand → Value
  | .tmp t => lk (sl a t) l t
  | .const v => v
  | .global g => .pointer (some ⟨g, 0, none⟩)
  | .func f => .func (.func f) #[] #[]
/-- Where a frame stands: in which round, and what calls it has deferred. -/
structure Ctx where
  ro : Option Nat
  ds : List Deferred
abbrev X0 : Ctx := ⟨none, []⟩
def Wd : Option Nat → Fence
  | none => Fence.wide
  | some r => Fence.wide.inRound r
theorem wd_fn (ro : Option Nat) (f : FuncId) : (Wd ro).fn f := by cases ro <;> trivial
theorem wd_depth (ro : Option Nat) : (Wd ro).depth = none := by cases ro <;> rfl
theorem wd_n (ro : Option Nat) {n : Nat} : (Wd ro).depth.isSome = true → 1 ≤ n := fun h => by rw [wd_depth] at h; cases h
structure St (X : Ctx) (N : Nat) (a : Act) (l : Env) : Prop where
  sz : a.tmps.size = N
  df : a.defers = X.ds
  lt : ∀ p ∈ l, p.1 < N
theorem puts_size (a : Act) (l : Env) : (puts a l).tmps.size = a.tmps.size := by
  induction l with
  | nil => rfl
  | cons p l ih => simp [puts, Act.put, ih]
theorem puts_defers (a : Act) (l : Env) : (puts a l).defers = a.defers := by
  induction l with
  | nil => rfl
  | cons p l ih => simp [puts, Act.put, ih]
theorem St.cons {X : Ctx} {N : Nat} {a : Act} {l : Env} (h : St X N a l) {d : Nat} (hd : d < N) (v : Value) : St X N a ((d, v) :: l) :=
  ⟨h.sz, h.df, fun p hp => by
    rcases List.mem_cons.1 hp with rfl | hp
    · exact hd
    · exact h.lt p hp⟩
theorem sl_puts {X : Ctx} {N : Nat} {a : Act} : ∀ {l : Env}, St X N a l → ∀ s, sl (puts a l) s = lk (sl a s) l s
  | [], _, _ => rfl
  | (d, v) :: l, h, s => by
    have h' : St X N a l := ⟨h.sz, h.df, fun p hp => h.lt p (List.mem_cons_of_mem _ hp)⟩
    have ih := sl_puts h' s
    have hd : d < N := h.lt (d, v) (List.mem_cons_self ..)
    unfold sl at *
    simp only [puts, Act.put, lk]
    cases hb : Nat.beq d s with
    | true =>
      obtain rfl : d = s := Nat.eq_of_beq_eq_true hb
      simp [puts_size, h.sz, hd]
    | false =>
      have hne : d ≠ s := Nat.ne_of_beq_eq_false hb
      rw [← ih]
      simp [Array.getElem?_setIfInBounds_ne hne]
theorem ev_puts {X : Ctx} {N : Nat} {a : Act} {l : Env} (h : St X N a l) (x : Operand) : (puts a l).eval x = ev a l x := by
  cases x with
  | tmp t => exact sl_puts h t
  | _ => rfl
theorem ee {X : Ctx} {N : Nat} {a : Act} {l : Env} {x : Operand} {v : Value} (h : St X N a l) (hx : ev a l x = v) : (puts a l).eval x = v := (ev_puts h x).trans hx
/-- What one operation does at a frame and a world: its value (undef where it has none) and the world behind it. -/
def Ex1 (P : Program) (o : Oper) (a : Act) (w : World) (R : Value → World → Prop) : Prop :=
  match (execOp a.eval o).run P w with
  | .ok (.value v) w' => R v w'
  | .ok .skip w' => R undef w'
  | .ok (.enter f args) w' => Calls P f args w' (fun e w'' => ∃ v, e = .returned v ∧ R v w'')
  | .ok (.round l f tmps assign body) w' => RoundIn Fence.wide 0 P l f tmps assign body w' (fun e w'' => ∃ v, e = .returned v ∧ R v w'')
  | _ => False
theorem Ex1.noDefer {P : Program} {o : Oper} {a : Act} {w : World} {R : Value → World → Prop} (h : Ex1 P o a w R) : ∀ c, o.op ≠ .defer c := by
  intro c hc
  unfold Ex1 at h
  have he : execOp a.eval o = (do pure (.defer (← resolve a.eval c o.type))) := by
    unfold execOp; rw [hc]
  rw [he, Sem.run_bind] at h
  cases hr : (resolve a.eval c o.type).run P w <;> simp [hr, Result.andThen] at h
theorem Ex1.wp {P : Program} {ro : Option Nat} {o : Oper} {a : Act} {w : World} {R : Value → World → Prop} {K : Act → World → Prop} {Q : Exit → Act → World → Prop}
    (h : Ex1 P o a w R) (hk : ∀ v w', R v w' → K (a.put o.dst v) w') : o.wpIn (Wd ro) 0 P a w K Q := by
  refine ⟨fun f _ => wd_fn ro f, ?_⟩
  rw [Oper.semAt_eq _ _ _ h.noDefer]
  unfold Ex1 at h
  generalize (execOp a.eval o).run P w = r at *
  cases r with
  | ok n w' =>
    cases n <;> simp only [Oper.uponIn] at h ⊢
    case value => exact hk _ _ h
    case skip => exact hk _ _ h
    case enter f args =>
      refine ⟨wd_n ro, ?_⟩
      have h' : CallsIn Fence.wide (0 - 1) P f args w' (fun e w'' => ∃ v, e = .returned v ∧ R v w'') := callsIn_wide.2 h
      have h'' : CallsIn (Wd ro) (0 - 1) P f args w' (fun e w'' => ∃ v, e = .returned v ∧ R v w'') := by cases ro <;> exact h'
      refine h''.mono ?_
      rintro e w'' ⟨v, rfl, hr⟩
      exact hk _ _ hr
    case round l f tmps assign body =>
      refine ⟨wd_n ro, ?_⟩
      have h' : RoundIn (Wd ro) (0 - 1) P l f tmps assign body w' (fun e w'' => ∃ v, e = .returned v ∧ R v w'') := by cases ro <;> exact h
      refine h'.mono ?_
      rintro e w'' ⟨v, rfl, hr⟩
      exact hk _ _ hr
  | halt => exact h.elim
theorem Ex1.mono {P : Program} {o : Oper} {a : Act} {w : World} {R R' : Value → World → Prop} (h : Ex1 P o a w R) (hr : ∀ v w', R v w' → R' v w') : Ex1 P o a w R' := by
  unfold Ex1 at *
  generalize (execOp a.eval o).run P w = r at *
  cases r with
  | ok n w' =>
    cases n <;> simp only [] at h ⊢
    case value => exact hr _ _ h
    case skip => exact hr _ _ h
    case enter f args =>
      refine h.mono ?_
      rintro e w'' ⟨v, rfl, h'⟩
      exact ⟨v, rfl, hr _ _ h'⟩
    case round =>
      refine h.mono ?_
      rintro e w'' ⟨v, rfl, h'⟩
      exact ⟨v, rfl, hr _ _ h'⟩
  | halt => exact h.elim
def WL (P : Program) (X : Ctx) (N : Nat) (ops : Array Oper) (Q : Exit → Act → World → Prop) (rest : List Oper) (a : Act) (l : Env) (w : World) : Prop :=
  St X N a l → wpListIn (Wd X.ro) 0 P ops Q rest (puts a l) w
section
variable {P : Program} {X : Ctx} {N : Nat} {ops : Array Oper} {Q : Exit → Act → World → Prop} {rest : List Oper} {a : Act} {l : Env} {w : World} {o : Oper}
theorem wl_ex {R : Value → World → Prop} {d : Nat} (hg : o.guard = none) (hd : o.dst = some d) (hN : d < N)
    (hx : St X N a l → Ex1 P o (puts a l) w R) (hk : ∀ v w', R v w' → WL P X N ops Q rest a ((d, v) :: l) w') : WL P X N ops Q (o :: rest) a l w := fun s =>
  wpListIn_plain hg fun K hK => (hx s).wp fun v w' hr => hK _ _ (by rw [hd]; exact hk v w' hr (s.cons hN v))
theorem wl_ex0 {R : Value → World → Prop} (hg : o.guard = none) (hd : o.dst = none)
    (hx : St X N a l → Ex1 P o (puts a l) w R) (hk : ∀ v w', R v w' → WL P X N ops Q rest a l w') : WL P X N ops Q (o :: rest) a l w := fun s =>
  wpListIn_plain hg fun K hK => (hx s).wp fun v w' hr => hK _ _ (by rw [hd]; exact hk v w' hr s)
/-- An operation of one outcome. -/
theorem wl_det {d : Nat} {v : Value} {w' : World} (hg : o.guard = none) (hd : o.dst = some d) (hN : d < N)
    (hx : St X N a l → Ex1 P o (puts a l) w (fun u w'' => u = v ∧ w'' = w')) (hk : WL P X N ops Q rest a ((d, v) :: l) w') : WL P X N ops Q (o :: rest) a l w :=
  wl_ex hg hd hN hx (by rintro _ _ ⟨rfl, rfl⟩; exact hk)
theorem yielded_of {j d : Nat} {b : Bool} (s : St X N a l) (hj : (ops[j]?).bind (·.dst) = some d) (hv : ev a l (.tmp d) = .bool b) : yielded ops (puts a l).tmps j = some b := by
  have h := ee s hv
  unfold yielded
  simp only [hj, Option.bind_some]
  have hx : (puts a l).tmps.getD d undef = .bool b := h
  rw [Array.getD_eq_getD_getElem?] at hx
  cases hq : (puts a l).tmps[d]? with
  | none => rw [hq] at hx; simp [undef] at hx
  | some u => rw [hq] at hx; simp at hx; rw [hx]
/-- A guarded operation that is carried out. -/
theorem wl_exg {R : Value → World → Prop} {d j dj : Nat} {b : Bool} (hg : o.guard = some (j, b)) (hj : (ops[j]?).bind (·.dst) = some dj) (hv : ev a l (.tmp dj) = .bool b)
    (hd : o.dst = some d) (hN : d < N) (hx : St X N a l → Ex1 P o (puts a l) w R) (hk : ∀ v w', R v w' → WL P X N ops Q rest a ((d, v) :: l) w') : WL P X N ops Q (o :: rest) a l w := fun s => by
  have hw : Region.wanted o (yielded ops (puts a l).tmps) = true := by
    unfold Region.wanted; rw [hg]; simp [yielded_of s hj hv]
  exact wpListIn_step fun K hK => by rw [if_pos hw]; exact (hx s).wp fun v w' hr => hK _ _ (by rw [hd]; exact hk v w' hr (s.cons hN v))
theorem wl_detg {d j dj : Nat} {b : Bool} {v : Value} {w' : World} (hg : o.guard = some (j, b)) (hj : (ops[j]?).bind (·.dst) = some dj) (hv : ev a l (.tmp dj) = .bool b)
    (hd : o.dst = some d) (hN : d < N) (hx : St X N a l → Ex1 P o (puts a l) w (fun u w'' => u = v ∧ w'' = w')) (hk : WL P X N ops Q rest a ((d, v) :: l) w') : WL P X N ops Q (o :: rest) a l w :=
  wl_exg hg hj hv hd hN hx (by rintro _ _ ⟨rfl, rfl⟩; exact hk)
/-- A guarded operation that is passed over. -/
theorem wl_skip {d j dj : Nat} {b c : Bool} (hg : o.guard = some (j, b)) (hj : (ops[j]?).bind (·.dst) = some dj) (hv : ev a l (.tmp dj) = .bool c) (hc : c ≠ b)
    (hd : o.dst = some d) (hN : d < N) (hk : WL P X N ops Q rest a ((d, undef) :: l) w) : WL P X N ops Q (o :: rest) a l w := fun s => by
  have hw : Region.wanted o (yielded ops (puts a l).tmps) = false := by
    unfold Region.wanted; rw [hg]; simp [yielded_of s hj hv, hc]
  exact wpListIn_step fun K hK => by rw [if_neg (by rw [hw]; simp)]; exact ⟨fun f _ => wd_fn X.ro f, hK _ _ (by rw [hd]; exact hk (s.cons hN undef))⟩
/-- Its guard was passed over itself. -/
theorem wl_skip_u {d j dj : Nat} {b : Bool} (hg : o.guard = some (j, b)) (hj : (ops[j]?).bind (·.dst) = some dj) (hv : ev a l (.tmp dj) = undef)
    (hd : o.dst = some d) (hN : d < N) (hk : WL P X N ops Q rest a ((d, undef) :: l) w) : WL P X N ops Q (o :: rest) a l w := fun s => by
  have hw : Region.wanted o (yielded ops (puts a l).tmps) = false := by
    have h := ee s hv
    have hy : yielded ops (puts a l).tmps j = none := by
      unfold yielded
      simp only [hj, Option.bind_some]
      have hx : (puts a l).tmps.getD dj undef = undef := h
      rw [Array.getD_eq_getD_getElem?] at hx
      cases hq : (puts a l).tmps[dj]? with
      | none => rfl
      | some u => rw [hq] at hx; simp at hx; rw [hx]; rfl
    unfold Region.wanted; rw [hg]; simp [hy]
  exact wpListIn_step fun K hK => by rw [if_neg (by rw [hw]; simp)]; exact ⟨fun f _ => wd_fn X.ro f, hK _ _ (by rw [hd]; exact hk (s.cons hN undef))⟩
end
def CW (P : Program) (ro : Option Nat) (c : Code) (Q : Exit → Act → World → Prop) (a : Act) (w : World) : Prop := c.wpIn (Wd ro) 0 P Q a w
def CC (P : Program) (X : Ctx) (N : Nat) (c : Code) (Q : Exit → Act → World → Prop) (a : Act) (l : Env) (w : World) : Prop :=
  St X N a l → CW P X.ro c Q (puts a l) w
section
variable {P : Program} {X : Ctx} {N : Nat} {Q : Exit → Act → World → Prop} {a : Act} {l : Env} {w : World}
/-- What is to be shown where a piece of code is left. -/
def LV (X : Ctx) (N : Nat) (Q : Exit → Act → World → Prop) (e : Exit) (a : Act) (l : Env) (w : World) : Prop := St X N a l → Q e (puts a l) w
theorem cc_seq {x y : Code} (h : CC P X N x (Exit.then (CW P X.ro y Q) Q) a l w) : CC P X N (.seq x y) Q a l w := fun s => wpIn_seq (h s)
theorem cc_region {id : Nat} {L : List Oper} (h : WL P X N L.toArray Q L a l w) : CC P X N (.region id L.toArray false) Q a l w := fun s => wpIn_region_lit (h s)
theorem wl_end {ops : Array Oper} (h : LV X N Q .normal a l w) : WL P X N ops Q [] a l w := fun s => wpListIn_nil (h s)
theorem cc_skip (h : LV X N Q .normal a l w) : CC P X N .skip Q a l w := fun s => wpIn_skip (h s)
theorem cc_exit {id : Nat} (h : LV X N Q (.exit id) a l w) : CC P X N (.exit id) Q a l w := fun s => wpIn_exit (h s)
theorem cc_ret (h : LV X N Q .ret a l w) : CC P X N .ret Q a l w := fun s => wpIn_ret (h s)
theorem cc_block {id : Nat} {c : Code} (h : CC P X N c (Exit.inBlock id Q) a l w) : CC P X N (.block id c) Q a l w := fun s => wpIn_block (h s)
theorem cc_cond_t {c : Operand} {x y : Code} {t : Bool} (hc : ev a l c = .bool t) (h : t = true) (ht : CC P X N x Q a l w) : CC P X N (.cond c x y) Q a l w := fun s => wpIn_cond_true (by rw [ee s hc, h]) (ht s)
theorem cc_cond_f {c : Operand} {x y : Code} {t : Bool} (hc : ev a l c = .bool t) (h : t = false) (hf : CC P X N y Q a l w) : CC P X N (.cond c x y) Q a l w := fun s => wpIn_cond_false (by rw [ee s hc, h]) (hf s)
/-- The next piece of code. -/
theorem lv_next {y : Code} (h : CC P X N y Q a l w) : LV X N (Exit.then (CW P X.ro y Q) Q) .normal a l w := fun s => h s
theorem lv_then_exit {K : Act → World → Prop} {id : Nat} (h : LV X N Q (.exit id) a l w) : LV X N (Exit.then K Q) (.exit id) a l w := h
theorem lv_then_ret {K : Act → World → Prop} (h : LV X N Q .ret a l w) : LV X N (Exit.then K Q) .ret a l w := h
theorem lv_block {id : Nat} (h : LV X N Q .normal a l w) : LV X N (Exit.inBlock id Q) .normal a l w := h
theorem lv_block_ret {id : Nat} (h : LV X N Q .ret a l w) : LV X N (Exit.inBlock id Q) .ret a l w := h
theorem lv_block_hit {id : Nat} (h : LV X N Q .normal a l w) : LV X N (Exit.inBlock id Q) (.exit id) a l w := fun s => by
  show (if id = id then Q .normal _ _ else Q (.exit id) _ _)
  rw [if_pos rfl]; exact h s
theorem lv_block_miss {id k : Nat} (hne : k ≠ id) (h : LV X N Q (.exit k) a l w) : LV X N (Exit.inBlock id Q) (.exit k) a l w := fun s => by
  show (if k = id then Q .normal _ _ else Q (.exit k) _ _)
  rw [if_neg hne]; exact h s
/-- A loop: 'I m' holds at each round's head, m falls. -/
theorem wp_loop_m {c : Code} (I : Nat → Act → World → Prop) (m : Nat) (h0 : I m a w)
    (hr : ∀ m a w, I m a w → CW P X.ro c (Exit.then (fun a' w' => ∃ m', m' < m ∧ I m' a' w') Q) a w) : CW P X.ro (Code.loop c) Q a w := by
  intro b k cs hro hb hrm
  have key : ∀ n a w, I n a w → ∃ e a' w', Q e a' w' ∧ ArrivesIn (Machine.fenced P (Wd X.ro)) P (lone (b.atR a (.code c :: .inLoop c :: k)) cs w) b k cs e a' w' := by
    intro n
    induction n using Nat.strongRecOn with
    | _ n ih =>
      intro a w hI
      obtain ⟨e, a₁, w₁, hq, harr⟩ := hr n a w hI b (.inLoop c :: k) cs hro hb hrm
      cases e with
      | normal =>
        obtain ⟨m', hlt, hI₁⟩ := hq
        obtain ⟨e₂, a₂, w₂, hq₂, harr₂⟩ := ih m' hlt a₁ w₁ hI₁
        exact ⟨e₂, a₂, w₂, hq₂, .of_steps (StepsIn.trans harr (.one (fenced_calm hb hrm rfl) stepR_inLoop)) harr₂⟩
      | exit id => exact ⟨_, a₁, w₁, hq, .pass (x := .inLoop c) rfl (fun _ _ => .inl (by simp)) harr⟩
      | goto l => exact ⟨_, a₁, w₁, hq, .pass (x := .inLoop c) rfl (fun _ _ => .inl (by simp)) harr⟩
      | ret => exact ⟨_, a₁, w₁, hq, .pass (x := .inLoop c) rfl (fun _ _ => .inl (by simp)) harr⟩
      | panic ch => exact ⟨_, a₁, w₁, hq, .pass (x := .inLoop c) rfl (fun _ _ => .inl (by simp)) harr⟩
      | outgrown => exact ⟨_, a₁, w₁, hq, .pass (x := .inLoop c) rfl (fun _ _ => .inl (by simp)) harr⟩
  obtain ⟨e, a', w', hq, harr⟩ := key m a w h0
  exact ⟨e, a', w', hq, .of_steps (.one (fenced_calm hb hrm rfl) stepR_loop) harr⟩
theorem cc_loop {c : Code} (I : Nat → Act → World → Prop) (m : Nat) (h0 : St X N a l → I m (puts a l) w)
    (hr : ∀ m a w, I m a w → CW P X.ro c (Exit.then (fun a' w' => ∃ m', m' < m ∧ I m' a' w') Q) a w) : CC P X N (.loop c) Q a l w := fun s =>
  wp_loop_m I m (h0 s) hr
/-- A round begins at a frame that is a variable. -/
theorem round_cc {c : Code} (hsz : a.tmps.size = N) (hdf : a.defers = X.ds) (h : CC P X N c Q a [] w) : CW P X.ro c Q a w :=
  h ⟨hsz, hdf, fun _ hp => by cases hp⟩
theorem lv_round {I : Nat → Act → World → Prop} {m : Nat} (m' : Nat) (hlt : m' < m) (h : St X N a l → I m' (puts a l) w) : LV X N (Exit.then (fun a' w' => ∃ m', m' < m ∧ I m' a' w') Q) .normal a l w :=
  fun s => ⟨m', hlt, h s⟩
end
end Go.Proofs.Ythogdgkafaclaaa
end
section
namespace Go.Proofs.Ythogdgkafaclaaa
open Go.RowKit
/-- Block b is just these cells. -/
def Bk (w : World) (b : Nat) (t : TypeId) (cs : Array Value) : Prop := w.heap[b]? = some (.cells cs t (0, 0))
/-- Nothing that was there has turned. -/
abbrev Ext (w w' : World) : Prop := w.grownBy w' none
/-- Of what was there block b alone may have turned. -/
abbrev Upd (b : Nat) (w w' : World) : Prop := w.grownBy w' (some b)
structure NewB (w w' : World) (b : Nat) (t : TypeId) (cs : Array Value) : Prop where
  b_eq : b = w.heap.size
  sz : w'.heap.size = b + 1
  bk : Bk w' b t cs
  gr : Ext w w'
structure SetB (w w' : World) (b : Nat) (t : TypeId) (cs : Array Value) : Prop where
  sz : w'.heap.size = w.heap.size
  bk : Bk w' b t cs
  gr : Upd b w w'
section
variable {w w' : World} {b b' : Nat} {t : TypeId} {cs : Array Value}
theorem Bk.lt (h : Bk w b t cs) : b < w.heap.size := lt_of_block h
theorem Bk.cell (h : Bk w b t cs) (i : Nat) : w.cell? ⟨b, i, none⟩ = cs[i]? := cell_of_row w b i cs t (0, 0) h
theorem Bk.frozen (h : Bk w b t cs) (i : Nat) : w.frozen? ⟨b, i, none⟩ = false := frozen_of_row w b i cs t h
theorem Bk.ext (h : Bk w b t cs) (g : Ext w w') : Bk w' b t cs := (g.block b h.lt (by simp)).trans h
theorem Bk.upd (h : Bk w b t cs) (g : Upd b' w w') (hne : b ≠ b') : Bk w' b t cs := (g.block b h.lt (by simpa using hne)).trans h
theorem below_ext {B : Nat} {w0 : World} (h : Below B w0 w) (g : Ext w w') (hB : B ≤ w.heap.size) : Below B w0 w' := h.grown g hB (by simp)
theorem below_upd {B : Nat} {w0 : World} (h : Below B w0 w) (g : Upd b w w') (hB : B ≤ w.heap.size) (hb : B ≤ b) : Below B w0 w' :=
  h.grown g hB (fun k hk => by cases hk; exact hb)
theorem ext_of_below (h : Below w.heap.size w w') : Ext w w' := ⟨h.os, h.tape, h.output, h.size, fun k hk _ => h.block k hk⟩
theorem below_of_ext (h : Ext w w') : Below w.heap.size w w' := ⟨h.os, h.tape, h.output, h.size, fun k hk => h.block k hk (by simp)⟩
theorem Ext.refl (w : World) : Ext w w := World.grownBy.refl w _
theorem Ext.trans {a b c : World} (h : Ext a b) (k : Ext b c) : Ext a c := World.grownBy.trans h k
theorem newB_alloc (w : World) (t : TypeId) (cs : Array Value) : NewB w (w.alloc (.cells cs t)) w.heap.size t cs :=
  ⟨rfl, by simp, heap_alloc_new w _, World.grownBy_alloc w _ _⟩
/-- A slice's cells: they lie in a block from lo on and below hi. -/
def Rd (w : World) (lo hi : Nat) (A : Option Addr) (cs : List Value) : Prop :=
  hi ≤ w.heap.size ∧ (cs = [] ∨ ∃ b o, A = some ⟨b, o, none⟩ ∧ lo ≤ b ∧ b < hi ∧ ∀ j u, cs[j]? = some u → w.cell? ⟨b, o + j, none⟩ = some u)
section
variable {lo hi : Nat} {A : Option Addr} {cs : List Value}
theorem Rd.le (h : Rd w lo hi A cs) : hi ≤ w.heap.size := h.1
theorem Rd.ext (h : Rd w lo hi A cs) (g : Ext w w') : Rd w' lo hi A cs :=
  ⟨Nat.le_trans h.1 g.size, h.2.imp id fun ⟨b, o, hA, hl, hh, hc⟩ => ⟨b, o, hA, hl, hh, fun j u hu =>
    (World.cell?_of_block (a := ⟨b, o + j, none⟩) (g.block b (Nat.lt_of_lt_of_le hh h.1) (by simp))).trans (hc j u hu)⟩⟩
theorem Rd.upd (h : Rd w lo hi A cs) (g : Upd b' w w') (hne : b' < lo ∨ hi ≤ b') : Rd w' lo hi A cs :=
  ⟨Nat.le_trans h.1 g.size, h.2.imp id fun ⟨b, o, hA, hl, hh, hc⟩ => ⟨b, o, hA, hl, hh, fun j u hu =>
    (World.cell?_of_block (a := ⟨b, o + j, none⟩) (g.block b (Nat.lt_of_lt_of_le hh h.1) (by simp; omega))).trans (hc j u hu)⟩⟩
theorem Rd.mono {lo' hi' : Nat} (h : Rd w lo hi A cs) (hl : lo' ≤ lo) (hh : hi ≤ hi') (hs : hi' ≤ w.heap.size) : Rd w lo' hi' A cs :=
  ⟨hs, h.2.imp id fun ⟨b, o, hA, h1, h2, hc⟩ => ⟨b, o, hA, by omega, by omega, hc⟩⟩
theorem Rd.wide (h : Rd w lo hi A cs) : Rd w 0 w.heap.size A cs := h.mono (Nat.zero_le _) h.le (Nat.le_refl _)
theorem Rd.nil {A : Option Addr} (hh : hi ≤ w.heap.size) : Rd w lo hi A [] := ⟨hh, .inl rfl⟩
theorem Rd.of_below {w0 : World} (h : Rd w0 lo hi A cs) {B : Nat} (g : Below B w0 w') (hB : hi ≤ B) : Rd w' lo hi A cs :=
  ⟨Nat.le_trans h.1 g.size, h.2.imp id fun ⟨b, o, hA, hl, hh, hc⟩ => ⟨b, o, hA, hl, hh, fun j u hu =>
    (g.cell (p := ⟨b, o + j, none⟩) (Nat.lt_of_lt_of_le hh hB)).trans (hc j u hu)⟩⟩
theorem Bk.of_below {w0 : World} {xs : Array Value} (h : Bk w0 b t xs) {B : Nat} (g : Below B w0 w') (hB : b < B) : Bk w' b t xs := (g.block b hB).trans h
theorem Rd.cells (h : Rd w lo hi A cs) {b o : Nat} (hA : A = some ⟨b, o, none⟩) : ∀ j u, cs[j]? = some u → w.cell? ⟨b, o + j, none⟩ = some u := by
  rcases h.2 with rfl | ⟨b', o', hA', _, _, hc⟩
  · simp
  · rw [hA] at hA'
    injection hA' with hA'
    injection hA' with h1 h2
    subst h1; subst h2
    exact hc
/-- The address of a slice that is not empty. -/
theorem Rd.at_ (h : Rd w lo hi A cs) {k : Nat} {u : Value} (hu : cs[k]? = some u) : ∃ b o, A = some ⟨b, o, none⟩ ∧ lo ≤ b ∧ b < hi ∧ ∀ j u, cs[j]? = some u → w.cell? ⟨b, o + j, none⟩ = some u := by
  rcases h.2 with rfl | h
  · simp at hu
  · exact h
end
end
section
variable {P : Program} {a : Act} {w : World} {dst : Option Tmp} {ty : TypeId} {pos : String} {aft : Array Edge} {g : Option (Nat × Bool)}
theorem ex1_value {o : Oper} {v : Value} {w' : World} (h : (execOp a.eval o).run P w = .ok (.value v) w') : Ex1 P o a w (fun u w'' => u = v ∧ w'' = w') := by
  unfold Ex1; rw [h]; exact ⟨rfl, rfl⟩
theorem x_move {x : Operand} {v : Value} (hx : a.eval x = v) : Ex1 P ⟨dst, .move x, ty, pos, aft, g⟩ a w (fun u w' => u = v ∧ w' = w) := ⟨hx, rfl⟩
theorem x_assign {x : Operand} {v : Value} (hx : a.eval x = v) : Ex1 P ⟨dst, .assign x, ty, pos, aft, g⟩ a w (fun u w' => u = v ∧ w' = w) := ⟨hx, rfl⟩
theorem x_pick_t {c x y : Operand} {t : Bool} {v : Value} (hc : a.eval c = .bool t) (ht : t = true) (hx : a.eval x = v) : Ex1 P ⟨dst, .pick c x y, ty, pos, aft, g⟩ a w (fun u w' => u = v ∧ w' = w) :=
  ex1_value (by subst ht; simp [execOp, hc, asBool, hx])
theorem x_pick_f {c x y : Operand} {t : Bool} {v : Value} (hc : a.eval c = .bool t) (ht : t = false) (hy : a.eval y = v) : Ex1 P ⟨dst, .pick c x y, ty, pos, aft, g⟩ a w (fun u w' => u = v ∧ w' = w) :=
  ex1_value (by subst ht; simp [execOp, hc, asBool, hy])
theorem x_alloc {e : TypeId} {z : Value} {cs : Array Value} (hz : (P.info? e).bind (·.zero) = some z) (hc : z.cells = cs) :
    Ex1 P ⟨dst, .alloc e, ty, pos, aft, g⟩ a w (fun u w' => ∃ b, u = .pointer (some ⟨b, 0, none⟩) ∧ NewB w w' b e cs) := by
  have h : (Instr.alloc e true (.tuple #[])).run P w = .ok (.pointer (some ⟨w.heap.size, 0, none⟩)) (w.alloc (.cells cs e)) := by
    obtain ⟨i, hi, hz'⟩ := Option.bind_eq_some_iff.1 hz
    simp [Instr.alloc, zeroValue, typeInfo, hi, hz', newVar, newRow, newObj, program, Sem.run, hc]
  unfold Ex1
  simp only [execOp, Sem.run_bind, h, Result.andThen_ok, Sem.run_pure]
  exact ⟨_, rfl, newB_alloc w e cs⟩
theorem x_box {e : TypeId} {x : Operand} {v : Value} {cs : Array Value} (hx : a.eval x = v) (hc : v.cells = cs) :
    Ex1 P ⟨dst, .box e x, ty, pos, aft, g⟩ a w (fun u w' => ∃ b, u = .pointer (some ⟨b, 0, none⟩) ∧ NewB w w' b e cs) := by
  have h : (Instr.box e (a.eval x)).run P w = .ok (.pointer (some ⟨w.heap.size, 0, none⟩)) (w.alloc (.cells cs e)) := by
    simp [Instr.box, newVar, newRow, newObj, Sem.run, hx, hc]
  unfold Ex1
  simp only [execOp, Sem.run_bind, h, Result.andThen_ok, Sem.run_pure]
  exact ⟨_, rfl, newB_alloc w e cs⟩
theorem ex1_v {o : Oper} {S : Sem Value} {v : Value} {w' : World} (ho : execOp a.eval o = (do pure (.value (← S)))) (h : S.run P w = .ok v w') : Ex1 P o a w (fun u w'' => u = v ∧ w'' = w') :=
  ex1_value (by rw [ho]; simp [h])
theorem x_build {t : TypeId} {ps : Array (Nat × Operand)} {vs : Array (Nat × Value)} {v : Value} (hp : ps.map (fun (i, x) => (i, a.eval x)) = vs) (h : (Instr.build t vs).run P w = .ok v w) :
    Ex1 P ⟨dst, .build t ps, ty, pos, aft, g⟩ a w (fun u w' => u = v ∧ w' = w) := ex1_v (S := Instr.build t vs) (by simp only [execOp]; rw [hp]) h
theorem x_buildSlice {t e : TypeId} {n : Nat} {ps : Array (Nat × Operand)} {vs : Array (Nat × Value)} {cs : Array Value} (hp : ps.map (fun (i, x) => (i, a.eval x)) = vs)
    (h : (Instr.buildSlice t n vs).run P w = .ok (.slice (some ⟨w.heap.size, 0, none⟩) n n) (w.alloc (.cells cs e))) :
    Ex1 P ⟨dst, .buildSlice t n ps, ty, pos, aft, g⟩ a w (fun u w' => ∃ b, u = .slice (some ⟨b, 0, none⟩) n n ∧ NewB w w' b e cs) :=
  (ex1_v (S := Instr.buildSlice t n vs) (by simp only [execOp]; rw [hp]) h).mono fun u w' ⟨hu, hw⟩ => ⟨_, hu, by rw [hw]; exact newB_alloc w e cs⟩
def Agg (P : Program) (t : TypeId) (n : Nat) : Prop := (match P.underlying t with | some (.struct _) | some (.array ..) => true | _ => false) = true ∧ (P.info? t).map (·.size) = some n
def One (P : Program) (t : TypeId) : Prop := (match P.underlying t with | some (.struct _) | some (.array ..) | none => false | _ => true) = true ∧ (P.info? t).map (·.size) = some 1
theorem run_isAgg_t {t : TypeId} {n : Nat} (h : Agg P t n) : (isAgg t).run P w = .ok true w := by
  unfold isAgg
  cases hu : P.underlying t with
  | none => simp [Agg, hu] at h
  | some d => cases d <;> simp [Agg, hu] at h <;> simp [underlying, program, Sem.run, hu]
theorem run_isAgg_f {t : TypeId} (h : One P t) : (isAgg t).run P w = .ok false w := by
  unfold isAgg
  cases hu : P.underlying t with
  | none => simp [One, hu] at h
  | some d => cases d <;> simp [One, hu] at h <;> simp [underlying, program, Sem.run, hu]
theorem run_size {t : TypeId} {n : Nat} (h : (P.info? t).map (·.size) = some n) : (sizeOf t).run P w = .ok n w := by
  obtain ⟨i, hi, hs⟩ := Option.map_eq_some_iff.1 h
  simp [sizeOf, typeInfo, program, Sem.run, hi, hs]
theorem addr_add (b o j : Nat) : (⟨b, o, none⟩ : Addr).add j = ⟨b, o + j, none⟩ := by unfold Addr.add; split <;> simp_all
theorem run_load1 {t : TypeId} {ad : Addr} {v : Value} (h : One P t) (hc : w.cell? ad = some v) : (loadVar t ad).run P w = .ok v w := by
  simp [loadVar, run_isAgg_f h, load, Sem.run, hc]
theorem run_loadn {t : TypeId} {n b o : Nat} {cs : List Value} (h : Agg P t n) (hn : cs.length = n) (hc : ∀ j u, cs[j]? = some u → w.cell? ⟨b, o + j, none⟩ = some u) : (loadVar t ⟨b, o, none⟩).run P w = .ok (.agg cs.toArray) w := by
  have h1 := run_loadCells_list (P := P) (w := w) ⟨b, o, none⟩ cs (fun j v hv => by rw [addr_add]; exact hc j v hv)
  subst hn
  simp [loadVar, run_isAgg_t h, run_size h.2, h1]
theorem x_load {t : TypeId} {x : Operand} {ad : Addr} {v : Value} (hx : a.eval x = .pointer (some ad)) (h : (loadVar t ad).run P w = .ok v w) : Ex1 P ⟨dst, .load t x, ty, pos, aft, g⟩ a w (fun u w' => u = v ∧ w' = w) :=
  ex1_v (S := Instr.loadAt t (a.eval x)) rfl (by simp [Instr.loadAt, Instr.sureAddr, hx, h])
/-- A cell of a block that is known. -/
theorem x_load1 {t t' : TypeId} {x : Operand} {b o : Nat} {cs : Array Value} {v : Value} (h : One P t) (hx : a.eval x = .pointer (some ⟨b, o, none⟩)) (hb : Bk w b t' cs) (hc : cs.toList[o]? = some v) :
    Ex1 P ⟨dst, .load t x, ty, pos, aft, g⟩ a w (fun u w' => u = v ∧ w' = w) := x_load hx (run_load1 h ((hb.cell o).trans (by simpa using hc)))
/-- Some cells of a block that is known. -/
theorem x_loadn {t t' : TypeId} {x : Operand} {n b o : Nat} {cs : Array Value} {l : List Value} (h : Agg P t n) (hx : a.eval x = .pointer (some ⟨b, o, none⟩)) (hb : Bk w b t' cs) (hl : (cs.toList.drop o).take n = l) (hn : l.length = n) :
    Ex1 P ⟨dst, .load t x, ty, pos, aft, g⟩ a w (fun u w' => u = .agg l.toArray ∧ w' = w) := x_load hx (run_loadn h hn fun j u hu => by
  rw [hb.cell]
  subst hl
  rw [List.getElem?_take] at hu
  split at hu
  · simpa using hu
  · cases hu)
/-- A slice's cell. -/
theorem x_load_rd {t : TypeId} {x : Operand} {b o k : Nat} {cs : List Value} {v : Value} (h : One P t) (hx : a.eval x = .pointer (some ⟨b, o + k, none⟩)) (hr : ∀ j u, cs[j]? = some u → w.cell? ⟨b, o + j, none⟩ = some u) (hc : cs[k]? = some v) :
    Ex1 P ⟨dst, .load t x, ty, pos, aft, g⟩ a w (fun u w' => u = v ∧ w' = w) := x_load hx (run_load1 h (hr k v hc))
/-- A slice's element of several cells. -/
theorem x_load_rdn {t : TypeId} {x : Operand} {n b o k : Nat} {cs l : List Value} (h : Agg P t n) (hx : a.eval x = .pointer (some ⟨b, o + k, none⟩)) (hr : ∀ j u, cs[j]? = some u → w.cell? ⟨b, o + j, none⟩ = some u)
    (hl : (cs.drop k).take n = l) (hn : l.length = n) : Ex1 P ⟨dst, .load t x, ty, pos, aft, g⟩ a w (fun u w' => u = .agg l.toArray ∧ w' = w) := x_load hx (run_loadn h hn fun j u hu => by
  rw [Nat.add_assoc]
  refine hr _ _ ?_
  subst hl
  rw [List.getElem?_take] at hu
  split at hu
  · simpa using hu
  · cases hu)
def setCells (cs : Array Value) (o : Nat) : List Value → Array Value
  | [] => cs
  | v :: l => setCells (cs.setIfInBounds o v) (o + 1) l
theorem setCells_size (o : Nat) : ∀ (l : List Value) (cs : Array Value) (o : Nat), (setCells cs o l).size = cs.size
  | [], _, _ => rfl
  | v :: l, cs, o => by simp [setCells, setCells_size o l]
theorem run_storeCells_bk {b : Nat} {t : TypeId} {o : Nat} : ∀ (l : List Value) (i : Nat) (cs : Array Value) (w : World), Bk w b t cs → o + i + l.length ≤ cs.size → (∀ u ∈ l, u.oneCell' = true) →
    ∃ w', (storeCells ⟨b, o, none⟩ l i).run P w = .ok () w' ∧ SetB w w' b t (setCells cs (o + i) l)
  | [], i, cs, w, h, _, _ => ⟨w, by simp [storeCells], rfl, h, World.grownBy.refl w _⟩
  | v :: l, i, cs, w, h, hle, h1 => by
    have hlt : o + i < cs.size := by simp at hle; omega
    have hv := h1 v (List.mem_cons_self ..)
    have hcell : w.cell? ⟨b, o + i, none⟩ = some cs[o + i] := by rw [h.cell]; simp [hlt]
    have hst : (store ((⟨b, o, none⟩ : Addr).add i) v).run P w = .ok () (w.setCell ⟨b, o + i, none⟩ v) := by
      rw [addr_add]
      cases v <;> simp [Value.oneCell'] at hv <;> simp [store, Sem.run, hcell, h.frozen]
    have hb : Bk (w.setCell ⟨b, o + i, none⟩ v) b t (cs.setIfInBounds (o + i) v) := by
      unfold Bk at h ⊢
      simp [World.setCell, Array.getElem?_modify, h]
    obtain ⟨w', hr, s1, s2, s3⟩ := run_storeCells_bk (o := o) l (i + 1) _ _ hb (by simp at hle ⊢; omega) (fun u hu => h1 u (List.mem_cons_of_mem _ hu))
    refine ⟨w', ?_, by rw [s1]; simp, s2, ?_⟩
    · simp only [storeCells, Sem.run_bind, hst, Result.andThen_ok, hr]
    · have g1 : Upd b w (w.setCell ⟨b, o + i, none⟩ v) := ⟨rfl, rfl, rfl, by simp, fun k _ hne => Below.heap_setCell w ⟨b, o + i, none⟩ v k (by simpa using hne)⟩
      exact World.grownBy.trans g1 s3
theorem x_store {t t' : TypeId} {x y : Operand} {n b o : Nat} {v : Value} {cs cs' : Array Value} {l : List Value} (hx : a.eval x = .pointer (some ⟨b, o, none⟩)) (hy : a.eval y = v) (hs : (P.info? t).map (·.size) = some n) (hb : Bk w b t' cs)
    (hl : v.cells.toList = l) (hn : l.length = n) (hle : o + n ≤ cs.size) (h1 : ∀ u ∈ l, u.oneCell' = true) (hc : setCells cs o l = cs') :
    Ex1 P ⟨dst, .store t x y, ty, pos, aft, g⟩ a w (fun _ w' => SetB w w' b t' cs') := by
  obtain ⟨w', hr, hset⟩ := run_storeCells_bk (P := P) (t := t') (o := o) l 0 cs w hb (by omega) h1
  have hsz : v.cells.size = n := by rw [← hn, ← hl]; simp
  have h : (Instr.storeAt t (a.eval x) (a.eval y)).run P w = .ok () w' := by
    simp [Instr.storeAt, Instr.sureAddr, hx, hy, storeVar, run_size hs, hsz, hl, hr]
  unfold Ex1
  simp only [execOp, Sem.run_bind, h, Result.andThen_ok, Sem.run_pure]
  rw [Nat.add_zero, hc] at hset
  exact hset
theorem x_nilCheck {x : Operand} {ad : Addr} (hx : a.eval x = .pointer (some ad)) : Ex1 P ⟨dst, .nilCheck x, ty, pos, aft, g⟩ a w (fun u w' => u = .pointer (some ad) ∧ w' = w) :=
  ex1_value (by simp [execOp, hx])
def fits (x : Int) : Prop := -9223372036854775808 ≤ x ∧ x ≤ 9223372036854775807
theorem wrap_fit {x : Int} (h : fits x) : IntKind.i64.wrap x = x := by
  rw [IntKind.wrap_i64]; unfold fits at h; omega
theorem x_add {x y : Operand} {m n : Int} {t t' : TypeId} (hx : a.eval x = .int .i64 m) (hy : a.eval y = .int .i64 n) (hf : fits (m + n)) : Ex1 P ⟨dst, .binOp .add t x y t', ty, pos, aft, g⟩ a w (fun u w' => u = .int .i64 (m + n) ∧ w' = w) :=
  ex1_value (by simp [execOp, hx, hy, eqGuard, binOp, Op.intArith, wrap_fit hf])
theorem x_sub {x y : Operand} {m n : Int} {t t' : TypeId} (hx : a.eval x = .int .i64 m) (hy : a.eval y = .int .i64 n) (hf : fits (m - n)) : Ex1 P ⟨dst, .binOp .sub t x y t', ty, pos, aft, g⟩ a w (fun u w' => u = .int .i64 (m - n) ∧ w' = w) :=
  ex1_value (by simp [execOp, hx, hy, eqGuard, binOp, Op.intArith, wrap_fit hf])
theorem x_mul {x y : Operand} {m n : Int} {t t' : TypeId} (hx : a.eval x = .int .i64 m) (hy : a.eval y = .int .i64 n) (hf : fits (m * n)) : Ex1 P ⟨dst, .binOp .mul t x y t', ty, pos, aft, g⟩ a w (fun u w' => u = .int .i64 (m * n) ∧ w' = w) :=
  ex1_value (by simp [execOp, hx, hy, eqGuard, binOp, Op.intArith, wrap_fit hf])
theorem x_rem {x y : Operand} {k : IntKind} {m n : Int} {t t' : TypeId} (hx : a.eval x = .int k m) (hy : a.eval y = .int k n) (h0 : 0 ≤ m) (h1 : 1 ≤ n) : Ex1 P ⟨dst, .binOp .rem t x y t', ty, pos, aft, g⟩ a w (fun u w' => u = .int k (m % n) ∧ w' = w) :=
  ex1_value (by
    have e : m.tmod n = m % n := Int.tmod_eq_emod_of_nonneg h0
    have hn : ¬ n = 0 := by omega
    simp [execOp, hx, hy, eqGuard, binOp, Op.intDiv, hn, e])
theorem eqg (op : BinOp) (t : TypeId) (x y : Operand) (k : IntKind) (m n : Int) : (eqGuard op t x y (.int k m) (.int k n)).run P w = .ok () w := by
  unfold eqGuard; cases op <;> rfl
theorem x_eql {x y : Operand} {k : IntKind} {m n : Int} {t t' : TypeId} (hx : a.eval x = .int k m) (hy : a.eval y = .int k n) : Ex1 P ⟨dst, .binOp .eql t x y t', ty, pos, aft, g⟩ a w (fun u w' => u = .bool (m == n) ∧ w' = w) :=
  ex1_value (by simp [execOp, hx, hy, eqg, binOp, Op.intCmp])
theorem x_neq {x y : Operand} {k : IntKind} {m n : Int} {t t' : TypeId} (hx : a.eval x = .int k m) (hy : a.eval y = .int k n) : Ex1 P ⟨dst, .binOp .neq t x y t', ty, pos, aft, g⟩ a w (fun u w' => u = .bool (m != n) ∧ w' = w) :=
  ex1_value (by simp [execOp, hx, hy, eqg, binOp, Op.intCmp])
theorem x_lss {x y : Operand} {k : IntKind} {m n : Int} {t t' : TypeId} (hx : a.eval x = .int k m) (hy : a.eval y = .int k n) : Ex1 P ⟨dst, .binOp .lss t x y t', ty, pos, aft, g⟩ a w (fun u w' => u = .bool (decide (m < n)) ∧ w' = w) :=
  ex1_value (by simp [execOp, hx, hy, eqg, binOp, Op.intCmp])
theorem x_leq {x y : Operand} {k : IntKind} {m n : Int} {t t' : TypeId} (hx : a.eval x = .int k m) (hy : a.eval y = .int k n) : Ex1 P ⟨dst, .binOp .leq t x y t', ty, pos, aft, g⟩ a w (fun u w' => u = .bool (decide (m ≤ n)) ∧ w' = w) :=
  ex1_value (by simp [execOp, hx, hy, eqg, binOp, Op.intCmp])
theorem x_gtr {x y : Operand} {k : IntKind} {m n : Int} {t t' : TypeId} (hx : a.eval x = .int k m) (hy : a.eval y = .int k n) : Ex1 P ⟨dst, .binOp .gtr t x y t', ty, pos, aft, g⟩ a w (fun u w' => u = .bool (decide (n < m)) ∧ w' = w) :=
  ex1_value (by simp [execOp, hx, hy, eqg, binOp, Op.intCmp])
theorem x_geq {x y : Operand} {k : IntKind} {m n : Int} {t t' : TypeId} (hx : a.eval x = .int k m) (hy : a.eval y = .int k n) : Ex1 P ⟨dst, .binOp .geq t x y t', ty, pos, aft, g⟩ a w (fun u w' => u = .bool (decide (n ≤ m)) ∧ w' = w) :=
  ex1_value (by simp [execOp, hx, hy, eqg, binOp, Op.intCmp])
/-- Whatever other operator, by its run. -/
theorem x_bin {op : BinOp} {x y : Operand} {v v1 v2 : Value} {t t' : TypeId} (hx : a.eval x = v1) (hy : a.eval y = v2) (h : (do eqGuard op t x y v1 v2; binOp op t v1 v2 : Sem Value).run P w = .ok v w) : Ex1 P ⟨dst, .binOp op t x y t', ty, pos, aft, g⟩ a w (fun u w' => u = v ∧ w' = w) :=
  ex1_v (S := do eqGuard op t x y v1 v2; binOp op t v1 v2) (by simp only [execOp, hx, hy]) h
theorem x_not {x : Operand} {b : Bool} {t : TypeId} (hx : a.eval x = .bool b) : Ex1 P ⟨dst, .unOp .not t x, ty, pos, aft, g⟩ a w (fun u w' => u = .bool (!b) ∧ w' = w) :=
  ex1_value (by simp [execOp, hx, Op.unary])
theorem x_conv {s t : TypeId} {k k' : IntKind} {x : Operand} {n : Int} (hs : (P.underlying s).isSome = true) (ht : P.underlying t = some (.int k)) (hx : a.eval x = .int k' n) (hf : k.wrap n = n) : Ex1 P ⟨dst, .convert s t x, ty, pos, aft, g⟩ a w (fun u w' => u = .int k n ∧ w' = w) := by
  obtain ⟨d, hd⟩ := Option.isSome_iff_exists.1 hs
  exact ex1_value (by cases d <;> simp [execOp, hx, convert, underlying, program, Sem.run, hd, ht, Conv.intToInt, hf])
theorem x_makeFunc {fn : Fn} {fs cs : Array Operand} {vs us : Array Value} (hf : fs.map a.eval = vs) (hc : cs.map a.eval = us) : Ex1 P ⟨dst, .makeFunc fn fs cs, ty, pos, aft, g⟩ a w (fun u w' => u = .func fn vs us ∧ w' = w) :=
  ex1_value (by simp [execOp, Instr.makeFunc, hf, hc])
theorem x_fieldAddr {s : TypeId} {x : Operand} {i : Nat} {ad ad' : Addr} (hx : a.eval x = .pointer (some ad)) (h : (Instr.fieldAt s (.pointer (some ad)) i).run P w = .ok (.pointer (some ad')) w) : Ex1 P ⟨dst, .fieldAddr s x i, ty, pos, aft, g⟩ a w (fun u w' => u = .pointer (some ad') ∧ w' = w) :=
  ex1_v (S := Instr.fieldAt s (.pointer (some ad)) i) (by simp only [execOp, hx]) h
theorem x_extract {x : Operand} {i : Nat} {vs : Array Value} {v : Value} (hx : a.eval x = .tuple vs) (h : vs[i]? = some v) : Ex1 P ⟨dst, .extract x i, ty, pos, aft, g⟩ a w (fun u w' => u = v ∧ w' = w) :=
  ex1_value (by simp [execOp, hx, Instr.extract, h])
theorem x_slice {t : TypeId} {x : Operand} {lo hi : Option Operand} {v : Value} {lv hv : Option Value} {v' : Value} (hx : a.eval x = v) (hl : lo.map a.eval = lv) (hh : hi.map a.eval = hv) (h : (Instr.sliceAt t v lv hv none).run P w = .ok v' w) : Ex1 P ⟨dst, .slice t x lo hi none, ty, pos, aft, g⟩ a w (fun u w' => u = v' ∧ w' = w) :=
  ex1_v (S := Instr.sliceAt t v lv hv none) (by simp only [execOp, hx, hl, hh, Option.map_none]) h
/-- An element's address in a slice: k its number, sz its size. -/
theorem x_indexAddr {t e : TypeId} {x y : Operand} {sz b o n c k : Nat} {i : Int} {kd : IntKind} (ht : P.underlying t = some (.slice e)) (hs : (P.info? e).map (·.size) = some sz) (hx : a.eval x = .slice (some ⟨b, o, none⟩) n c) (hy : a.eval y = .int kd i)
    (hi : i = k) (hk : k < n) : Ex1 P ⟨dst, .indexAddr t x y, ty, pos, aft, g⟩ a w (fun u w' => u = .pointer (some ⟨b, o + k * sz, none⟩) ∧ w' = w) :=
  ex1_value (by
    subst hi
    have h2 : (0 : Int) ≤ k ∧ (k : Int) < n := ⟨by omega, by omega⟩
    have h3 : ¬ n ≤ k := by omega
    simp [execOp, hx, hy, Instr.indexAt, asIntOf, underlying, program, Sem.run, ht, h2, run_size hs, addr_add, hk, h3])
/-- An element's address in an array. -/
theorem x_indexAddrA {t e : TypeId} {x y : Operand} {sz b o n k : Nat} {i : Int} {kd : IntKind} (ht : P.underlying t = some (.array n e)) (hs : (P.info? e).map (·.size) = some sz) (hx : a.eval x = .pointer (some ⟨b, o, none⟩)) (hy : a.eval y = .int kd i)
    (hi : i = k) (hk : k < n) : Ex1 P ⟨dst, .indexAddr t x y, ty, pos, aft, g⟩ a w (fun u w' => u = .pointer (some ⟨b, o + k * sz, none⟩) ∧ w' = w) :=
  ex1_value (by
    subst hi
    have h2 : (0 : Int) ≤ k ∧ (k : Int) < n := ⟨by omega, by omega⟩
    have h3 : ¬ n ≤ k := by omega
    simp [execOp, hx, hy, Instr.indexAt, asIntOf, underlying, program, Sem.run, ht, h2, run_size hs, addr_add, Instr.sureAddr, hk, h3])
theorem x_len {t e : TypeId} {x : Operand} {A : Option Addr} {n c : Nat} (ht : P.underlying t = some (.slice e)) (hx : a.eval x = .slice A n c) : Ex1 P ⟨dst, .call { callee := .builtin .len, args := #[x], argTypes := #[t] }, ty, pos, aft, g⟩ a w (fun u w' => u = .int .i64 n ∧ w' = w) :=
  ex1_value (by simp [execOp, resolve, invoke, builtin, Builtin.len_, hx, underlying, program, Sem.run, ht, goInt])
theorem x_max {x y : Operand} {m n : Int} {t t' : TypeId} (hx : a.eval x = .int .i64 m) (hy : a.eval y = .int .i64 n) : Ex1 P ⟨dst, .call { callee := .builtin .max, args := #[x, y], argTypes := #[t, t'] }, ty, pos, aft, g⟩ a w (fun u w' => u = .int .i64 (max m n) ∧ w' = w) :=
  ex1_value (by
    have e : (if m < n then n else m) = max m n := by omega
    simp [execOp, resolve, invoke, builtin, Builtin.max_, hx, hy, Builtin.max2, e])
theorem x_min {x y : Operand} {m n : Int} {t t' : TypeId} (hx : a.eval x = .int .i64 m) (hy : a.eval y = .int .i64 n) : Ex1 P ⟨dst, .call { callee := .builtin .min, args := #[x, y], argTypes := #[t, t'] }, ty, pos, aft, g⟩ a w (fun u w' => u = .int .i64 (min m n) ∧ w' = w) :=
  ex1_value (by
    have e : (if n < m then n else m) = min m n := by omega
    simp [execOp, resolve, invoke, builtin, Builtin.min_, hx, hy, Builtin.min2, e])
/-- The function returns, and R holds of what it returns and of the world. -/
def Ret (P : Program) (f : FuncId) (args : Array Value) (w : World) (R : Value → World → Prop) : Prop := Calls P f args w (fun e w' => ∃ v, e = .returned v ∧ R v w')
theorem Ret.mono {f : FuncId} {args : Array Value} {R R' : Value → World → Prop} (h : Ret P f args w R) (hr : ∀ v w', R v w' → R' v w') : Ret P f args w R' :=
  Calls.mono h fun _ _ ⟨v, he, h'⟩ => ⟨v, he, hr _ _ h'⟩
/-- A function of the program's own that has a body. -/
def Own (P : Program) (f : FuncId) : Prop := (match P.funcs[f]? with | some fn => fn.name != "runtime.NumGoroutine" && fn.body.isSome | none => false) = true
theorem run_callFunc {f : FuncId} (h : Own P f) (args : Array Value) : (callFunc f args).run P w = .ok (.enter f args) w := by
  unfold Own at h
  unfold callFunc
  cases hf : P.funcs[f]? with
  | none => simp [hf] at h
  | some fn =>
    simp only [hf, Bool.and_eq_true, bne_iff_ne, ne_eq] at h
    obtain ⟨h1, h2⟩ := h
    have h3 : fn.body.isNone = false := by cases hb : fn.body <;> simp_all
    have h4 : ¬ fn.body = none := by intro h; simp [h] at h2
    simp [program, Sem.run, hf, h1, h4]
theorem x_call {f : Operand} {xs : Array Operand} {ts : Array TypeId} {fn : FuncId} {first cap vs all : Array Value} {R : Value → World → Prop} (ho : Own P fn) (hf : a.eval f = .func (.func fn) first cap) (hv : xs.map a.eval = vs) (ha : first ++ vs ++ cap = all)
    (h : Ret P fn all w R) : Ex1 P ⟨dst, .call { callee := .value f, args := xs, argTypes := ts }, ty, pos, aft, g⟩ a w R := by
  have hr : (execOp a.eval ⟨dst, .call { callee := .value f, args := xs, argTypes := ts }, ty, pos, aft, g⟩).run P w = .ok (.enter fn all) w := by
    simp only [execOp, resolve, hf, hv, Deferred.ofValue]
    simp only [Sem.run_bind, Sem.run_pure, Result.andThen_ok, invoke, run_callFunc ho, ha]
  unfold Ex1
  rw [hr]
  exact h
theorem am0 {f : Operand → Value} : (#[] : Array Operand).map f = #[] := by simp
theorem am1 {f : Operand → Value} {x0 : Operand} {v0 : Value} (h0 : f x0 = v0) : #[x0].map f = #[v0] := by simp [h0]
theorem am2 {f : Operand → Value} {x0 x1 : Operand} {v0 v1 : Value} (h0 : f x0 = v0) (h1 : f x1 = v1) : #[x0, x1].map f = #[v0, v1] := by simp [h0, h1]
theorem am3 {f : Operand → Value} {x0 x1 x2 : Operand} {v0 v1 v2 : Value} (h0 : f x0 = v0) (h1 : f x1 = v1) (h2 : f x2 = v2) : #[x0, x1, x2].map f = #[v0, v1, v2] := by simp [h0, h1, h2]
theorem am4 {f : Operand → Value} {x0 x1 x2 x3 : Operand} {v0 v1 v2 v3 : Value} (h0 : f x0 = v0) (h1 : f x1 = v1) (h2 : f x2 = v2) (h3 : f x3 = v3) : #[x0, x1, x2, x3].map f = #[v0, v1, v2, v3] := by simp [h0, h1, h2, h3]
theorem am5 {f : Operand → Value} {x0 x1 x2 x3 x4 : Operand} {v0 v1 v2 v3 v4 : Value} (h0 : f x0 = v0) (h1 : f x1 = v1) (h2 : f x2 = v2) (h3 : f x3 = v3) (h4 : f x4 = v4) : #[x0, x1, x2, x3, x4].map f = #[v0, v1, v2, v3, v4] := by simp [h0, h1, h2, h3, h4]
theorem pm0 {f : Operand → Value} : (#[] : Array (Nat × Operand)).map (fun (i, x) => (i, f x)) = #[] := by simp
theorem pm1 {f : Operand → Value} {i0 : Nat} {x0 : Operand} {v0 : Value} (h0 : f x0 = v0) : #[(i0, x0)].map (fun (i, x) => (i, f x)) = #[(i0, v0)] := by simp [h0]
theorem pm2 {f : Operand → Value} {i0 i1 : Nat} {x0 x1 : Operand} {v0 v1 : Value} (h0 : f x0 = v0) (h1 : f x1 = v1) : #[(i0, x0), (i1, x1)].map (fun (i, x) => (i, f x)) = #[(i0, v0), (i1, v1)] := by simp [h0, h1]
theorem pm3 {f : Operand → Value} {i0 i1 i2 : Nat} {x0 x1 x2 : Operand} {v0 v1 v2 : Value} (h0 : f x0 = v0) (h1 : f x1 = v1) (h2 : f x2 = v2) : #[(i0, x0), (i1, x1), (i2, x2)].map (fun (i, x) => (i, f x)) = #[(i0, v0), (i1, v1), (i2, v2)] := by simp [h0, h1, h2]
theorem pm4 {f : Operand → Value} {i0 i1 i2 i3 : Nat} {x0 x1 x2 x3 : Operand} {v0 v1 v2 v3 : Value} (h0 : f x0 = v0) (h1 : f x1 = v1) (h2 : f x2 = v2) (h3 : f x3 = v3) : #[(i0, x0), (i1, x1), (i2, x2), (i3, x3)].map (fun (i, x) => (i, f x)) = #[(i0, v0), (i1, v1), (i2, v2), (i3, v3)] := by simp [h0, h1, h2, h3]
/-- A function's body, from its first row on. -/
theorem ret_of_cc {f : FuncId} {fn : Func} {c : Code} {args : Array Value} {N : Nat} {R : Value → World → Prop} (hf : P.funcs[f]? = some fn) (hb : fn.body = some c) (hN : fn.ntmps = N) (ha : args.size ≤ N)
    (h : ∀ a : Act, a.tmps = args ++ Array.replicate (N - args.size) undef → a.defers = [] → CC P X0 N c (bodyPost P fn (fun e w' => ∃ v, e = .returned v ∧ R v w')) a [] w) : Ret P f args w R := by
  refine calls_of_wp hf hb ?_
  rw [hN]
  have := h { tmps := args ++ Array.replicate (N - args.size) undef, defers := [] } rfl rfl
  exact wpIn_wide.1 (this ⟨by simp; omega, rfl, fun _ hp => by cases hp⟩)
theorem sl_arg {a : Act} {args : Array Value} {n i : Nat} {v : Value} (h : a.tmps = args ++ Array.replicate n undef) (hi : args[i]? = some v) : sl a i = v := by
  obtain ⟨hlt, he⟩ := Array.getElem?_eq_some_iff.1 hi
  unfold sl
  rw [h, Array.getD_eq_getD_getElem?, Array.getElem?_append_left hlt, hi]
  rfl
/-- The function's end: one result. -/
theorem lv_ret1 {fn : Func} {N t : Nat} {a : Act} {l : Env} {v : Value} {R : Value → World → Prop} (hr : fn.results = #[.tmp t]) (hv : ev a l (.tmp t) = v) (h : R v w) : LV X0 N (bodyPost P fn (fun e w' => ∃ v, e = .returned v ∧ R v w')) .ret a l w := fun s =>
  bodyPost_ret (results_tmp hr _ _ _) (by rw [puts_defers, s.df]) ⟨_, rfl, by rw [show (puts a l).tmps.getD t undef = v from ee s hv]; exact h⟩
theorem lv_ret2 {fn : Func} {N t u : Nat} {a : Act} {l : Env} {v v' : Value} {R : Value → World → Prop} (hr : fn.results = #[.tmp t, .tmp u]) (hv : ev a l (.tmp t) = v) (hu : ev a l (.tmp u) = v') (h : R (.tuple #[v, v']) w) :
    LV X0 N (bodyPost P fn (fun e w' => ∃ v, e = .returned v ∧ R v w')) .ret a l w := fun s =>
  bodyPost_ret (results_tmp2 hr _ _ _) (by rw [puts_defers, s.df]) ⟨_, rfl, by rw [show (puts a l).tmps.getD t undef = v from ee s hv, show (puts a l).tmps.getD u undef = v' from ee s hu]; exact h⟩
theorem lv_ret3 {fn : Func} {N t u x : Nat} {a : Act} {l : Env} {v v' v'' : Value} {R : Value → World → Prop} (hr : fn.results = #[.tmp t, .tmp u, .tmp x]) (hv : ev a l (.tmp t) = v) (hu : ev a l (.tmp u) = v') (hx : ev a l (.tmp x) = v'') (h : R (.tuple #[v, v', v'']) w) :
    LV X0 N (bodyPost P fn (fun e w' => ∃ v, e = .returned v ∧ R v w')) .ret a l w := fun s => by
  have e1 : (puts a l).tmps.getD t undef = v := ee s hv
  have e2 : (puts a l).tmps.getD u undef = v' := ee s hu
  have e3 : (puts a l).tmps.getD x undef = v'' := ee s hx
  refine bodyPost_ret (v := .tuple #[v, v', v'']) ?_ (by rw [puts_defers, s.df]) ⟨_, rfl, h⟩
  simp only [Array.getD_eq_getD_getElem?] at e1 e2 e3
  simp [results, hr, e1, e2, e3]
/-- One result that lies in a cell. -/
theorem lv_retc {fn : Func} {N p : Nat} {t : TypeId} {a : Act} {l : Env} {ad : Addr} {v : Value} {R : Value → World → Prop} (hr : fn.results = #[.cell p t]) (hv : ev a l (.tmp p) = .pointer (some ad)) (hl : (loadVar t ad).run P w = .ok v w) (h : R v w) :
    LV X0 N (bodyPost P fn (fun e w' => ∃ v, e = .returned v ∧ R v w')) .ret a l w := fun s => by
  have e1 : (puts a l).tmps.getD p undef = .pointer (some ad) := ee s hv
  refine bodyPost_ret (v := v) ?_ (by rw [puts_defers, s.df]) ⟨_, rfl, h⟩
  simp only [Array.getD_eq_getD_getElem?] at e1
  simp [results, hr, e1, asAddr, hl]
theorem lv_end0 {fn : Func} {N : Nat} {a : Act} {l : Env} {R : Value → World → Prop} (hr : fn.results = #[]) (h : R (.tuple #[]) w) : LV X0 N (bodyPost P fn (fun e w' => ∃ v, e = .returned v ∧ R v w')) .normal a l w := fun s =>
  bodyPost_end (results_none hr _ _ _) (by rw [puts_defers, s.df]) ⟨_, rfl, h⟩
theorem vint {m n : Int} (h : m = n) : Value.int .i64 m = .int .i64 n := by rw [h]
theorem vbool {m n : Bool} (h : m = n) : Value.bool m = .bool n := by rw [h]
end
section
variable {P : Program} {a : Act} {w : World} {dst : Option Tmp} {ty : TypeId} {pos : String} {aft : Array Edge} {g : Option (Nat × Bool)}
def ivs (l : List Int) : List Value := l.map (Value.int .i64)
def ansV (l : List Int) : Value := .agg (ivs l).toArray
theorem ivs_len (l : List Int) : (ivs l).length = l.length := by simp [ivs]
theorem ivs_get (l : List Int) (k : Nat) (h : k < l.length) : (ivs l)[k]? = some (.int .i64 (l.getD k 0)) := by
  simp [ivs, List.getElem?_eq_getElem h]
theorem ivs_getA (l : List Int) (k : Nat) (h : k < l.length) : (ivs l).toArray[k]? = some (.int .i64 (l.getD k 0)) := by
  simpa using ivs_get l k h
/-- A block read whole. -/
theorem run_load_all {t t' : TypeId} {n b : Nat} {cs : Array Value} (h : Agg P t n) (hb : Bk w b t' cs) (hn : cs.size = n) : (loadVar t ⟨b, 0, none⟩).run P w = .ok (.agg cs) w := by
  have := run_loadn (P := P) (w := w) (t := t) (n := n) (b := b) (o := 0) (cs := cs.toList) h (by simpa using hn) (fun j u hu => by rw [hb.cell, Nat.zero_add]; simpa using hu)
  simpa using this
theorem x_load_all {t t' : TypeId} {x : Operand} {n b : Nat} {cs : Array Value} (h : Agg P t n) (hx : a.eval x = .pointer (some ⟨b, 0, none⟩)) (hb : Bk w b t' cs) (hn : cs.size = n) :
    Ex1 P ⟨dst, .load t x, ty, pos, aft, g⟩ a w (fun u w' => u = .agg cs ∧ w' = w) := x_load hx (run_load_all h hb hn)
theorem run_loadn_bk {t t' : TypeId} {n b o : Nat} {cs : Array Value} {l : List Value} (h : Agg P t n) (hb : Bk w b t' cs) (hl : (cs.toList.drop o).take n = l) (hn : l.length = n) : (loadVar t ⟨b, o, none⟩).run P w = .ok (.agg l.toArray) w :=
  run_loadn h hn fun j u hu => by
    rw [hb.cell]
    subst hl
    rw [List.getElem?_take] at hu
    split at hu
    · simpa using hu
    · cases hu
theorem setCells_whole : ∀ (l pre : List Value) (cs : List Value), cs.length = l.length → setCells (pre ++ cs).toArray pre.length l = (pre ++ l).toArray
  | [], pre, cs, h => by
    have : cs = [] := List.eq_nil_of_length_eq_zero (by simpa using h)
    subst this; rfl
  | v :: l, pre, [], h => by simp at h
  | v :: l, pre, c :: cs, h => by
    have e1 : (pre ++ c :: cs).toArray.setIfInBounds pre.length v = ((pre ++ [v]) ++ cs).toArray := by simp
    have h' : cs.length = l.length := by simpa using h
    have ih := setCells_whole l (pre ++ [v]) cs h'
    have e2 : (pre ++ [v]).length = pre.length + 1 := by simp
    simp only [setCells, e1]
    rw [← e2, ih]
    simp
/-- A block written whole. -/
theorem x_store_all {t t' : TypeId} {x y : Operand} {n b : Nat} {v : Value} {cs cs' : Array Value} (hx : a.eval x = .pointer (some ⟨b, 0, none⟩)) (hy : a.eval y = v) (hs : (P.info? t).map (·.size) = some n) (hb : Bk w b t' cs)
    (hv : v.cells = cs') (hn : cs'.size = n) (hc : cs.size = n) (h1 : ∀ u ∈ cs'.toList, u.oneCell' = true) :
    Ex1 P ⟨dst, .store t x y, ty, pos, aft, g⟩ a w (fun _ w' => SetB w w' b t' cs') := by
  refine x_store (n := n) (o := 0) (l := cs'.toList) hx hy hs hb (by rw [hv]) (by simpa using hn) (by omega) h1 ?_
  have := setCells_whole cs'.toList [] cs.toList (by simp; omega)
  simpa using this
theorem x_call0 {f : Operand} {xs : Array Operand} {ts : Array TypeId} {fn : FuncId} {vs : Array Value} {R : Value → World → Prop} (ho : Own P fn) (hf : a.eval f = .func (.func fn) #[] #[]) (hv : xs.map a.eval = vs)
    (h : Ret P fn vs w R) : Ex1 P ⟨dst, .call { callee := .value f, args := xs, argTypes := ts }, ty, pos, aft, g⟩ a w R :=
  x_call ho hf hv (by simp) h
/-- An element of an array of one-cell elements, at its head. -/
theorem x_indexAddrA1 {t e : TypeId} {x y : Operand} {b n k : Nat} {i : Int} {kd : IntKind} (ht : P.underlying t = some (.array n e)) (hs : (P.info? e).map (·.size) = some 1) (hx : a.eval x = .pointer (some ⟨b, 0, none⟩)) (hy : a.eval y = .int kd i)
    (hi : i = k) (hk : k < n) : Ex1 P ⟨dst, .indexAddr t x y, ty, pos, aft, g⟩ a w (fun u w' => u = .pointer (some ⟨b, k, none⟩) ∧ w' = w) := by
  have := x_indexAddrA (P := P) (a := a) (w := w) (dst := dst) (ty := ty) (pos := pos) (aft := aft) (g := g) ht hs hx hy hi hk
  simpa using this
theorem x_indexAddr1 {t e : TypeId} {x y : Operand} {b o n c k : Nat} {A : Option Addr} {i : Int} {kd : IntKind} (ht : P.underlying t = some (.slice e)) (hs : (P.info? e).map (·.size) = some 1) (hx : a.eval x = .slice A n c) (hA : A = some ⟨b, o, none⟩) (hy : a.eval y = .int kd i)
    (hi : i = k) (hk : k < n) : Ex1 P ⟨dst, .indexAddr t x y, ty, pos, aft, g⟩ a w (fun u w' => u = .pointer (some ⟨b, o + k, none⟩) ∧ w' = w) := by
  subst hA
  have := x_indexAddr (P := P) (a := a) (w := w) (dst := dst) (ty := ty) (pos := pos) (aft := aft) (g := g) ht hs hx hy hi hk
  simpa using this
theorem x_indexAddrN {t e : TypeId} {x y : Operand} {sz b o n c k : Nat} {A : Option Addr} {i : Int} {kd : IntKind} (ht : P.underlying t = some (.slice e)) (hs : (P.info? e).map (·.size) = some sz) (hx : a.eval x = .slice A n c) (hA : A = some ⟨b, o, none⟩) (hy : a.eval y = .int kd i)
    (hi : i = k) (hk : k < n) : Ex1 P ⟨dst, .indexAddr t x y, ty, pos, aft, g⟩ a w (fun u w' => u = .pointer (some ⟨b, o + k * sz, none⟩) ∧ w' = w) := by
  subst hA
  exact x_indexAddr ht hs hx hy hi hk
theorem ivs_getL (l : List Int) (k : Nat) (h : k < l.length) : (ivs l).toArray.toList[k]? = some (.int .i64 (l.getD k 0)) := ivs_get l k h
theorem bool_cases (b : Bool) : b = true ∨ b = false := by cases b <;> simp
theorem one_cells {l : List Value} (h : l.all (·.oneCell') = true) : ∀ u ∈ l, u.oneCell' = true := by simpa using h
theorem one_ivs (l : List Int) : ∀ u ∈ (ivs l).toArray.toList, u.oneCell' = true := by simp [ivs, Value.oneCell']
theorem bne_t {m n : Int} (h : (m != n) = true) : m ≠ n := by simpa using h
theorem bne_f {m n : Int} (h : (m != n) = false) : m = n := by simpa using h
theorem not_t {b : Bool} (h : (!b) = true) : b = false := by simpa using h
theorem not_f {b : Bool} (h : (!b) = false) : b = true := by simpa using h
theorem ec {a : Act} {v : Value} : a.eval (.const v) = v := rfl
theorem es {a : Act} {t : Nat} {v : Value} (h : sl a t = v) : a.eval (.tmp t) = v := h
theorem bn_t {b : Bool} (h : b = false) : (!b) = true := by rw [h]; rfl
theorem bn_f {b : Bool} (h : b = true) : (!b) = false := by rw [h]; rfl
theorem guard_eq {v : Value} {b c : Bool} (h : v = .bool b) (hb : b = c) : v = .bool c := by rw [h, hb]
theorem bl_ext {w0 w w' : World} (h : Below w0.heap.size w0 w) (g : Ext w w') : Below w0.heap.size w0 w' := below_ext h g h.size
theorem bl_upd {w0 w w' : World} {b : Nat} (h : Below w0.heap.size w0 w) (g : Upd b w w') (hb : w0.heap.size ≤ b) : Below w0.heap.size w0 w' := below_upd h g h.size hb
def flat {α : Type} (enc : α → List Value) (xs : List α) : List Value := xs.flatMap enc
theorem flat_len {α : Type} (enc : α → List Value) (sz : Nat) (he : ∀ x, (enc x).length = sz) : ∀ xs : List α, (flat enc xs).length = xs.length * sz
  | [] => by simp [flat]
  | x :: xs => by
    have := flat_len enc sz he xs
    unfold flat at *
    simp only [List.flatMap_cons, List.length_append, he, this, List.length_cons, Nat.add_mul, Nat.one_mul]
    omega
theorem flat_at {α : Type} (enc : α → List Value) (sz : Nat) (he : ∀ x, (enc x).length = sz) : ∀ (xs : List α) (k : Nat) (x : α), xs[k]? = some x → ((flat enc xs).drop (k * sz)).take sz = enc x
  | [], k, x, h => by simp at h
  | y :: xs, 0, x, h => by
    obtain rfl : y = x := by simpa using h
    simp only [flat, List.flatMap_cons, Nat.zero_mul, List.drop_zero]
    rw [List.take_append_of_le_length (by rw [he]; exact Nat.le_refl _), List.take_of_length_le (by rw [he]; exact Nat.le_refl _)]
  | y :: xs, k + 1, x, h => by
    have ih := flat_at enc sz he xs k x (by simpa using h)
    unfold flat at *
    rw [List.flatMap_cons, Nat.add_mul, Nat.one_mul, ← ih, List.drop_append, he, List.drop_of_length_le (by rw [he]; omega), List.nil_append, Nat.add_sub_cancel]
theorem flat_snoc {α : Type} (enc : α → List Value) (xs : List α) (x : α) : flat enc (xs ++ [x]) = flat enc xs ++ enc x := by simp [flat]
/-- Where a slice that has an element lies. -/
theorem Rd.elem {α : Type} {enc : α → List Value} {sz : Nat} (he : ∀ x, (enc x).length = sz) (hz : 0 < sz) {w : World} {lo hi : Nat} {A : Option Addr} {xs : List α} (h : Rd w lo hi A (flat enc xs)) {k : Nat} (hk : k < xs.length) :
    ∃ b o, A = some ⟨b, o, none⟩ ∧ lo ≤ b ∧ b < hi ∧ ∀ j u, (flat enc xs)[j]? = some u → w.cell? ⟨b, o + j, none⟩ = some u := by
  have hl := flat_len enc sz he xs
  have hp : 0 < (flat enc xs).length := by rw [hl]; exact Nat.mul_pos (by omega) hz
  exact h.at_ (k := 0) (u := (flat enc xs)[0]) (List.getElem?_eq_getElem hp)
theorem Rd.elem1 {w : World} {lo hi : Nat} {A : Option Addr} {cs : List Value} (h : Rd w lo hi A cs) {k : Nat} (hk : k < cs.length) :
    ∃ b o, A = some ⟨b, o, none⟩ ∧ lo ≤ b ∧ b < hi ∧ ∀ j u, cs[j]? = some u → w.cell? ⟨b, o + j, none⟩ = some u := h.at_ (List.getElem?_eq_getElem hk)
end
/-- A stretch of an array of ints that lies in a block of its own. -/
theorem x_sliceA {P : Program} {a : Act} {w : World} {dst : Option Tmp} {ty : TypeId} {pos : String} {aft : Array Edge} {g : Option (Nat × Bool)} {t e : TypeId} {x y z : Operand} {b n : Nat} {lo hi : Int}
    (ht : P.underlying t = some (.array n e)) (hs : (P.info? e).map (·.size) = some 1) (hx : a.eval x = .pointer (some ⟨b, 0, none⟩)) (hy : a.eval y = .int .i64 lo) (hz : a.eval z = .int .i64 hi) (h0 : 0 ≤ lo) (h1 : lo ≤ hi) (h2 : hi ≤ n) (h3 : lo < n) :
    Ex1 P ⟨dst, .slice t x (some y) (some z) none, ty, pos, aft, g⟩ a w (fun u w' => u = .slice (some ⟨b, lo.toNat, none⟩) (hi.toNat - lo.toNat) (n - lo.toNat) ∧ w' = w) := by
  refine x_slice hx (by simp [hy]; rfl) (by simp [hz]; rfl) ?_
  have e1 : (Instr.sliceBound (.int .i64 hi) n .sliceAlen).run P w = .ok hi.toNat w := run_sliceBound w .i64 hi n _ (by omega) (by omega)
  have e2 : (Instr.sliceBound (.int .i64 lo) hi.toNat .sliceB).run P w = .ok lo.toNat w := run_sliceBound w .i64 lo hi.toNat _ (by omega) (by omega)
  have hne : ¬ n = lo.toNat := by omega
  simp [Instr.sliceAt, underlying, program, Sem.run, ht, Instr.sureAddr, Instr.sliceBounds, e1, e2, run_size hs, hne, addr_add]
theorem rd_stretch {w : World} {b : Nat} {t : TypeId} {l : List Int} (h : Bk w b t (ivs l).toArray) (na n : Nat) : Rd w b (b + 1) (some ⟨b, na, none⟩) (ivs ((l.drop na).take n)) := by
  refine ⟨h.lt, .inr ⟨b, na, rfl, Nat.le_refl _, Nat.lt_succ_self _, fun j u hu => ?_⟩⟩
  rw [h.cell]
  simp only [ivs, List.map_take, List.map_drop] at hu
  rw [List.getElem?_take] at hu
  split at hu
  · simpa [ivs] using hu
  · cases hu
end Go.Proofs.Ythogdgkafaclaaa
end
section
namespace Go.Proofs.Ythogdgkafaclaaa
open Go.RowKit
def depL (o : Oper) (j : Nat) : Bool := o.after.toList.any fun e => Region.binds .any e && Nat.beq e.on j
def dstAt (L : List Oper) (j : Nat) : Option Nat := (L[j]?).bind (·.dst)
def isDst (L : List Oper) (s : Nat) : Bool := L.any fun o => match o.dst with | some d => Nat.beq d s | none => false
def depsBelow : Nat → List Oper → Bool
  | _, [] => true
  | k, o :: L => (o.after.toList.all fun e => !Region.binds .any e || Nat.blt e.on k) && depsBelow (k + 1) L
def dstsOk (N : Nat) : List Oper → Bool
  | [] => true
  | o :: L => (match o.dst with | some d => Nat.blt d N && !isDst L d | none => true) && dstsOk N L
def chainOk (L : List Oper) : List Nat → Bool
  | [] => true
  | [k] => Nat.blt k L.length
  | k :: j :: r => Nat.blt k j && (match L[j]? with | some o => depL o k | none => false) && chainOk L (j :: r)
def anyOk (N : Nat) (L : List Oper) (sp : List Nat) : Bool := depsBelow 0 L && dstsOk N L && chainOk L sp
theorem isDst_iff {L : List Oper} {s : Nat} : isDst L s = true ↔ ∃ j, dstAt L j = some s := by
  unfold isDst dstAt
  rw [List.any_eq_true]
  constructor
  · rintro ⟨o, ho, h⟩
    obtain ⟨j, hj, rfl⟩ := List.mem_iff_getElem.1 ho
    refine ⟨j, ?_⟩
    rw [List.getElem?_eq_getElem hj]
    cases hd : L[j].dst with
    | none => simp [hd] at h
    | some d => simp only [hd] at h; simp [hd, Nat.eq_of_beq_eq_true h]
  · rintro ⟨j, hj⟩
    cases ho : L[j]? with
    | none => simp [ho] at hj
    | some o =>
      refine ⟨o, List.mem_of_getElem? ho, ?_⟩
      simp only [ho, Option.bind_some] at hj
      simp [hj]
theorem dstsOk_spec {N : Nat} : ∀ {L : List Oper}, dstsOk N L = true → ∀ i j d, dstAt L i = some d → d < N ∧ (dstAt L j = some d → i = j)
  | [], _, i, j, d, hi => by simp [dstAt] at hi
  | o :: L, h, i, j, d, hi => by
    simp only [dstsOk, Bool.and_eq_true] at h
    obtain ⟨h1, h2⟩ := h
    have ih := dstsOk_spec h2
    have hz : ∀ d, o.dst = some d → d < N ∧ ∀ j, dstAt L j ≠ some d := by
      intro d hd
      rw [hd] at h1
      simp only [Bool.and_eq_true, Bool.not_eq_true'] at h1
      refine ⟨by simpa [Nat.blt_eq] using h1.1, fun j hj => ?_⟩
      have := isDst_iff.2 ⟨j, hj⟩
      rw [this] at h1
      cases h1.2
    cases i with
    | zero =>
      have hi' : o.dst = some d := by simpa [dstAt] using hi
      refine ⟨(hz d hi').1, fun hj => ?_⟩
      cases j with
      | zero => rfl
      | succ j => exact absurd (by simpa [dstAt] using hj) ((hz d hi').2 j)
    | succ i =>
      have hi' : dstAt L i = some d := by simpa [dstAt] using hi
      cases j with
      | zero =>
        refine ⟨(ih i i d hi').1, fun hj => ?_⟩
        exact absurd hi' ((hz d (by simpa [dstAt] using hj)).2 i)
      | succ j =>
        refine ⟨(ih i j d hi').1, fun hj => ?_⟩
        rw [(ih i j d hi').2 (by simpa [dstAt] using hj)]
theorem depsBelow_spec : ∀ {L : List Oper} {k : Nat}, depsBelow k L = true → ∀ i o, L[i]? = some o → ∀ e ∈ o.after, Region.binds .any e = true → e.on < k + i
  | [], _, _, i, o, ho => by simp at ho
  | o' :: L, k, h, i, o, ho => by
    simp only [depsBelow, Bool.and_eq_true, List.all_eq_true] at h
    cases i with
    | zero =>
      obtain rfl : o' = o := by simpa using ho
      intro e he hb
      have := h.1 e (by simpa using he)
      simp only [Bool.or_eq_true, Bool.not_eq_true', hb, Bool.true_eq_false, false_or] at this
      simpa [Nat.blt_eq] using this
    | succ i =>
      intro e he hb
      have := depsBelow_spec h.2 i o (by simpa using ho) e he hb
      omega
theorem depL_iff {o : Oper} {j : Nat} : depL o j = true ↔ ∃ e ∈ o.after, Region.binds .any e = true ∧ e.on = j := by
  unfold depL
  rw [List.any_eq_true]
  constructor
  · rintro ⟨e, he, h⟩
    simp only [Bool.and_eq_true] at h
    exact ⟨e, by simpa using he, h.1, Nat.eq_of_beq_eq_true h.2⟩
  · rintro ⟨e, he, hb, rfl⟩
    exact ⟨e, by simpa using he, by simp [hb]⟩
theorem chainOk_spec {L : List Oper} : ∀ {sp : List Nat}, chainOk L sp = true →
    (∀ (i k j : Nat), sp[i]? = some k → sp[i + 1]? = some j → ∃ o, L[j]? = some o ∧ depL o k = true) ∧ (∀ (i j k : Nat), sp[i]? = some k → sp[j]? = some k → i = j) ∧ (∀ k ∈ sp, k < L.length) ∧ (∀ k ∈ sp, ∀ (k0 : Nat), sp[0]? = some k0 → k0 ≤ k)
  | [], _ => ⟨by simp, by simp, by simp, by simp⟩
  | [k], h => by
    have hk : k < L.length := by simpa [chainOk, Nat.blt_eq] using h
    refine ⟨by simp, ?_, by simpa using hk, by simp⟩
    intro i j x hi hj
    cases i <;> cases j <;> simp_all
  | k :: j :: r, h => by
    simp only [chainOk, Bool.and_eq_true] at h
    obtain ⟨⟨h1, h2⟩, h3⟩ := h
    obtain ⟨a1, a2, a3, a4⟩ := chainOk_spec h3
    have hkj : k < j := by simpa [Nat.blt_eq] using h1
    refine ⟨?_, ?_, ?_, ?_⟩
    · intro i x y hx hy
      cases i with
      | zero =>
        obtain rfl : k = x := by simpa using hx
        obtain rfl : j = y := by simpa using hy
        cases ho : L[j]? with
        | none => simp [ho] at h2
        | some o => exact ⟨o, rfl, by simpa [ho] using h2⟩
      | succ i => exact a1 i x y (by simpa using hx) (by simpa using hy)
    · intro i i' x hx hx'
      have hlow : ∀ m, (j :: r)[m]? = some x → j ≤ x := fun m hm => a4 x (List.mem_of_getElem? hm) j (by simp)
      cases i with
      | zero =>
        obtain rfl : k = x := by simpa using hx
        cases i' with
        | zero => rfl
        | succ i' => have := hlow i' (by simpa using hx'); omega
      | succ i =>
        cases i' with
        | zero =>
          obtain rfl : k = x := by simpa using hx'
          have := hlow i (by simpa using hx); omega
        | succ i' => rw [a2 i i' x (by simpa using hx) (by simpa using hx')]
    · intro x hx
      rcases List.mem_cons.1 hx with rfl | hx
      · have := a3 j (by simp); omega
      · exact a3 x hx
    · intro x hx k0 hk0
      obtain rfl : k = k0 := by simpa using hk0
      rcases List.mem_cons.1 hx with rfl | hx
      · exact Nat.le_refl _
      · have := a4 x hx j (by simp); omega
section
variable (P : Program) (X : Ctx) (N : Nat) (L : List Oper) (a : Act) (l : Env) (S : Nat → World → World → Prop) (T : Nat → Act → World → Prop) (Φ : Nat → Value → World → Prop) (sp : List Nat)
/-- What is known where the k-th operation is carried out. -/
structure Know (k : Nat) (o : Oper) (a' : Act) (w' : World) (ph : Nat) : Prop where
  out : ∀ s, isDst L s = false → sl a' s = lk (sl a s) l s
  later : ∀ (j d : Nat) (o' : Oper), L[j]? = some o' → o'.dst = some d → depL o' k = true → sl a' d = lk (sl a d) l d
  dep : ∀ (j d : Nat), depL o j = true → dstAt L j = some d → Φ j (sl a' d) w'
  phT : T ph a' w'
  spi : ∀ (i : Nat), sp[i]? = some k → ph = i
  lat : ∀ (i j : Nat) (o' : Oper), sp[i]? = some j → L[j]? = some o' → depL o' k = true → ph ≤ i
def ObOp (k : Nat) (o : Oper) : Prop := ∀ a' w' ph, Know L a l T Φ sp k o a' w' ph →
  (Region.wanted o (yielded L.toArray a'.tmps) = true ∧ Ex1 P o a' w' (fun v w'' => Φ k v w'' ∧ (if k ∈ sp then S k w' w'' ∧ T (ph + 1) (a'.put o.dst v) w'' else Ext w' w''))) ∨
  (Region.wanted o (yielded L.toArray a'.tmps) = false ∧ Φ k undef w' ∧ k ∉ sp)
def Obs : Nat → List Oper → Prop
  | _, [] => True
  | k, o :: R => ObOp P L a l S T Φ sp k o ∧ Obs (k + 1) R
def ObsN : Nat → Nat → List Oper → Prop
  | 0, _, _ => True
  | _ + 1, _, [] => True
  | m + 1, k, o :: R => ObOp P L a l S T Φ sp k o ∧ ObsN m (k + 1) R
def EndL (Q : Exit → Act → World → Prop) (w' : World) : Nat → List Oper → Env → Prop
  | _, [], l' => LV X N Q .normal a l' w'
  | k, o :: R, l' => match o.dst with
    | some d => ∀ v, Φ k v w' → EndL Q w' (k + 1) R ((d, v) :: l')
    | none => EndL Q w' (k + 1) R l'
end
def EndT (X : Ctx) (N : Nat) (a : Act) (Φ : Nat → Value → World → Prop) (Q : Exit → Act → World → Prop) (TT : Act → World → Prop) (w' : World) : Nat → List Oper → Env → Prop
  | _, [], l' => TT (puts a l') w' → LV X N Q .normal a l' w'
  | k, o :: R, l' => match o.dst with
    | some d => ∀ v, Φ k v w' → EndT X N a Φ Q TT w' (k + 1) R ((d, v) :: l')
    | none => EndT X N a Φ Q TT w' (k + 1) R l'
theorem endT_of {X : Ctx} {N : Nat} {a : Act} {Φ : Nat → Value → World → Prop} {Q : Exit → Act → World → Prop} {T1 : World → Prop} {w' : World} : ∀ (R : List Oper) (k : Nat) (l' : Env), (T1 w' → EndL X N a Φ Q w' k R l') → EndT X N a Φ Q (fun _ w => T1 w) w' k R l'
  | [], k, l', h => fun ht => h ht
  | o :: R, k, l', h => by
    simp only [EndL] at h
    simp only [EndT]
    cases hd : o.dst with
    | none => rw [hd] at h; exact endT_of R (k + 1) l' h
    | some d => rw [hd] at h; exact fun v hv => endT_of R (k + 1) _ (fun ht => h ht v hv)
def EndN (X : Ctx) (N : Nat) (a : Act) (Φ : Nat → Value → World → Prop) (TT : Act → World → Prop) (G : Env → Prop) (w' : World) : Nat → Nat → List Oper → Env → Prop
  | 0, _, _, l' => TT (puts a l') w' → G l'
  | _ + 1, _, [], l' => TT (puts a l') w' → G l'
  | m + 1, k, o :: R, l' => match o.dst with
    | some d => ∀ v, Φ k v w' → EndN X N a Φ TT G w' m (k + 1) R ((d, v) :: l')
    | none => EndN X N a Φ TT G w' m (k + 1) R l'
/-- The slots on which the phases hang are written by operations that are over by then. -/
def okD (L : List Oper) (sp : List Nat) (D : Nat → List Nat) : Bool :=
  (List.range (sp.length + 1)).all fun ph => (D ph).all fun s => (List.range L.length).all fun i => match dstAt L i with
    | some d => !Nat.beq d s || (sp.take ph).any fun k => Nat.beq k i || (match L[k]? with | some o => depL o i | none => false)
    | none => true
theorem okD_spec {L : List Oper} {sp : List Nat} {D : Nat → List Nat} (h : okD L sp D = true) {ph : Nat} (hph : ph ≤ sp.length) {i s : Nat} (hs : s ∈ D ph) (hi : dstAt L i = some s) :
    ∃ m k, m < ph ∧ sp[m]? = some k ∧ (k = i ∨ ∃ o, L[k]? = some o ∧ depL o i = true) := by
  have hiL : i < L.length := by
    rcases Nat.lt_or_ge i L.length with h | h
    · exact h
    · simp [dstAt, List.getElem?_eq_none h] at hi
  simp only [okD, List.all_eq_true, List.mem_range] at h
  have := h ph (by omega) s hs i hiL
  rw [hi] at this
  simp only [Nat.beq_refl, Bool.not_true, Bool.false_or, List.any_eq_true] at this
  obtain ⟨k, hk, hh⟩ := this
  obtain ⟨m, hm, hmk⟩ := List.mem_iff_getElem.1 hk
  have hm' : m < ph ∧ m < sp.length := by simp at hm; omega
  refine ⟨m, k, hm'.1, ?_, ?_⟩
  · rw [← hmk, List.getElem_take, List.getElem?_eq_getElem hm'.2]
  · rcases Bool.or_eq_true _ _ ▸ hh with h1 | h1
    · exact .inl (Nat.eq_of_beq_eq_true h1)
    · cases ho : L[k]? with
      | none => simp [ho] at h1
      | some o => exact .inr ⟨o, rfl, by simpa [ho] using h1⟩
section
variable {P : Program} {X : Ctx} {N : Nat} {L : List Oper} {a : Act} {l : Env} {S : Nat → World → World → Prop} {T : Nat → Act → World → Prop} {Φ : Nat → Value → World → Prop} {sp : List Nat} {Q : Exit → Act → World → Prop} {w : World} {k : Nat} {o : Oper} {R : List Oper}
variable (P) in
theorem obs_nil : Obs P L a l S T Φ sp k [] := trivial
theorem obs_cons (h : ObOp P L a l S T Φ sp k o) (hr : Obs P L a l S T Φ sp (k + 1) R) : Obs P L a l S T Φ sp k (o :: R) := ⟨h, hr⟩
structure Inv (listed : Array Bool) (a' : Act) (w' : World) : Prop where
  lsz : listed.size = L.length
  sz : a'.tmps.size = N
  df : a'.defers = X.ds
  out : ∀ s, (∀ j, dstAt L j = some s → listed.getD j false = false) → sl a' s = lk (sl a s) l s
  done : ∀ (j d : Nat), listed.getD j false = true → dstAt L j = some d → Φ j (sl a' d) w'
  down : ∀ (j : Nat) (o : Oper), L[j]? = some o → listed.getD j false = true → ∀ e ∈ o.after, Region.binds .any e = true → listed.getD e.on false = true
  ph : ∃ ph, T ph a' w' ∧ ph ≤ sp.length ∧ ∀ (i k : Nat), sp[i]? = some k → (listed.getD k false = true ↔ i < ph)
theorem act_ext {x y : Act} (hs : x.tmps.size = y.tmps.size) (hd : x.defers = y.defers) (h : ∀ s, sl x s = sl y s) : x = y := by
  obtain ⟨t, d⟩ := x
  obtain ⟨t', d'⟩ := y
  simp only at hd hs
  subst hd
  have : t = t' := by
    apply Array.ext hs
    intro i h1 h2
    have := h i
    unfold sl at this
    simp only [Array.getD_eq_getD_getElem?, Array.getElem?_eq_getElem h1, Array.getElem?_eq_getElem h2, Option.getD_some] at this
    exact this
  rw [this]
theorem end_ofN (TT : Act → World → Prop) (G : Env → Prop) (w' : World) (a' : Act) (hTT : TT a' w') (hsz : a'.tmps.size = N) (hdf : a'.defers = X.ds) {K : Prop} (hG : ∀ l', St X N a l' → G l' → a' = puts a l' → K) :
    ∀ (m : Nat) (R : List Oper) (k : Nat) (l' : Env), St X N a l' → m ≤ R.length → (∀ i d, dstAt R i = some d → d < N) → (∀ i j d, dstAt R i = some d → dstAt R j = some d → i = j) → EndN X N a Φ TT G w' m k R l' →
      (∀ i d, i < m → dstAt R i = some d → Φ (k + i) (sl a' d) w') → (∀ s, (∀ i, i < m → dstAt R i ≠ some s) → sl a' s = lk (sl a s) l' s) → K
  | 0, R, k, l', st, _, _, _, h, _, ho => by
    have : a' = puts a l' := act_ext (by rw [puts_size, st.sz, hsz]) (by rw [puts_defers, st.df, hdf]) (fun s => by rw [sl_puts st s]; exact ho s (fun i hi => absurd hi (by omega)))
    exact hG l' st (h (by rw [← this]; exact hTT)) this
  | m + 1, [], k, l', st, hm, _, _, h, _, ho => by simp at hm
  | m + 1, o :: R, k, l', st, hm, hlt, hdj, h, hΦ, ho => by
    have hlt' : ∀ i d, dstAt R i = some d → d < N := fun i d hi => hlt (i + 1) d (by simpa [dstAt] using hi)
    have hdj' : ∀ i j d, dstAt R i = some d → dstAt R j = some d → i = j := fun i j d hi hj => by
      have := hdj (i + 1) (j + 1) d (by simpa [dstAt] using hi) (by simpa [dstAt] using hj); omega
    have hΦ' : ∀ i d, i < m → dstAt R i = some d → Φ (k + 1 + i) (sl a' d) w' := fun i d him hi => by
      have := hΦ (i + 1) d (by omega) (by simpa [dstAt] using hi)
      rw [show k + 1 + i = k + (i + 1) from by omega]; exact this
    simp only [EndN] at h
    cases hd : o.dst with
    | none =>
      rw [hd] at h
      refine end_ofN TT G w' a' hTT hsz hdf hG m R (k + 1) l' st (by simpa using hm) hlt' hdj' h hΦ' fun s hs => ho s fun i hi => ?_
      cases i with
      | zero => simp [dstAt, hd]
      | succ i => simpa [dstAt] using hs i (by omega)
    | some d =>
      rw [hd] at h
      have h0 : dstAt (o :: R) 0 = some d := by simp [dstAt, hd]
      refine end_ofN TT G w' a' hTT hsz hdf hG m R (k + 1) _ (st.cons (hlt 0 d h0) (sl a' d)) (by simpa using hm) hlt' hdj' (h _ (hΦ 0 d (by omega) h0)) hΦ' fun s hs => ?_
      simp only [lk]
      cases hb : Nat.beq d s with
      | true => obtain rfl : d = s := Nat.eq_of_beq_eq_true hb
                rfl
      | false =>
        refine ho s fun i hi => ?_
        cases i with
        | zero => simp [dstAt, hd, Nat.ne_of_beq_eq_false hb]
        | succ i => simpa [dstAt] using hs i (by omega)
theorem obs_getN : ∀ {m : Nat} {R : List Oper} {k : Nat}, ObsN P L a l S T Φ sp m k R → ∀ (i : Nat) (o : Oper), i < m → R[i]? = some o → ObOp P L a l S T Φ sp (k + i) o
  | 0, _, _, _, i, o, hi, _ => absurd hi (by omega)
  | _ + 1, [], _, _, i, o, _, ho => by simp at ho
  | m + 1, o' :: R, k, h, i, o, hi, ho => by
    cases i with
    | zero => obtain rfl : o' = o := by simpa using ho
              exact h.1
    | succ i => have := obs_getN h.2 i o (by omega) (by simpa using ho)
                rw [Nat.add_assoc, Nat.add_comm 1 i] at this
                exact this
variable (P) in
theorem obsN_nil : ObsN P L a l S T Φ sp 0 k R := trivial
theorem obsN_cons {m : Nat} (h : ObOp P L a l S T Φ sp k o) (hr : ObsN P L a l S T Φ sp m (k + 1) R) : ObsN P L a l S T Φ sp (m + 1) k (o :: R) := ⟨h, hr⟩
theorem obsN_of : ∀ {R : List Oper} {k : Nat}, Obs P L a l S T Φ sp k R → ObsN P L a l S T Φ sp R.length k R
  | [], _, _ => trivial
  | _ :: _, _, h => ⟨h.1, obsN_of h.2⟩
theorem endN_of {TT : Act → World → Prop} {w' : World} : ∀ {R : List Oper} {k : Nat} {l' : Env}, EndT X N a Φ Q TT w' k R l' → EndN X N a Φ TT (fun l' => LV X N Q .normal a l' w') w' R.length k R l'
  | [], _, _, h => h
  | o :: R, k, l', h => by
    simp only [EndT] at h
    simp only [EndN, List.length_cons]
    cases hd : o.dst with
    | none => rw [hd] at h; exact endN_of h
    | some d => rw [hd] at h; exact fun v hv => endN_of (h v hv)
theorem endN_mono {TT : Act → World → Prop} {G G' : Env → Prop} {w' : World} (hg : ∀ l', G l' → G' l') : ∀ {m : Nat} {R : List Oper} {k : Nat} {l' : Env}, EndN X N a Φ TT G w' m k R l' → EndN X N a Φ TT G' w' m k R l'
  | 0, _, _, _, h => fun t => hg _ (h t)
  | _ + 1, [], _, _, h => fun t => hg _ (h t)
  | m + 1, o :: R, k, l', h => by
    simp only [EndN] at h ⊢
    cases hd : o.dst with
    | none => rw [hd] at h; exact endN_mono hg h
    | some d => rw [hd] at h; exact fun v hv => endN_mono hg (h v hv)
theorem sl_put_same {x : Act} {d : Nat} {v : Value} (h : d < x.tmps.size) : sl (x.put (some d) v) d = v := by
  unfold sl Act.put; simp [h]
theorem sl_put_ne {x : Act} {d s : Nat} {v : Value} (h : d ≠ s) : sl (x.put (some d) v) s = sl x s := by
  unfold sl Act.put; simp [Array.getElem?_setIfInBounds_ne h]
theorem getD_set_self {listed : Array Bool} {i : Nat} (h : i < listed.size) : (listed.setIfInBounds i true).getD i false = true := by simp [h]
theorem getD_set_ne' {listed : Array Bool} {i j : Nat} (h : i ≠ j) : (listed.setIfInBounds i true).getD j false = listed.getD j false := by
  simp [Array.getElem?_setIfInBounds_ne h]
/-- An operation waits for another one, be it through others. -/
inductive Rch (L : List Oper) : Nat → Nat → Prop
  | one {i j : Nat} {o : Oper} : L[i]? = some o → depL o j = true → Rch L i j
  | step {i d j : Nat} {o : Oper} : L[i]? = some o → depL o d = true → Rch L d j → Rch L i j
theorem rch_listed {L : List Oper} {p : Nat → Prop} (hdown : ∀ d o, L[d]? = some o → p d → ∀ k, depL o k = true → p k) {i j : Nat} (h : Rch L i j) : (∀ o, L[i]? = some o → ∀ k, depL o k = true → p k) → p j := by
  induction h with
  | one ho hd => exact fun hi => hi _ ho _ hd
  | step ho hd _ ih => exact fun hi => ih fun o' ho' k hk => hdown _ o' ho' (hi _ ho _ hd) k hk
/-- For whom an operation waits, by bits. -/
def maskF (acc : List Nat) (m : Nat) (e : Edge) : Nat := if Region.binds .any e then m ||| (2 ^ e.on ||| acc.getD e.on 0) else m
def mask1 (acc : List Nat) (o : Oper) : Nat := o.after.toList.foldl (maskF acc) 0
def masks : List Oper → List Nat → List Nat
  | [], acc => acc
  | o :: R, acc => masks R (acc ++ [mask1 acc o])
/-- From the m-th operation on each waits for all before it. -/
def tailOk (L : List Oper) (m : Nat) : Bool := (List.range L.length).all fun i => Nat.blt i m || (List.range i).all fun j => (match L[i]? with | some o => depL o j | none => false) || ((masks L []).getD i 0).testBit j
theorem mask1_spec {acc : List Nat} {o : Oper} {j : Nat} (h : (mask1 acc o).testBit j = true) : ∃ d, depL o d = true ∧ (d = j ∨ (acc.getD d 0).testBit j = true) := by
  have key : ∀ (es : List Edge) (m : Nat), (es.foldl (maskF acc) m).testBit j = true → m.testBit j = true ∨ ∃ e ∈ es, Region.binds .any e = true ∧ (e.on = j ∨ (acc.getD e.on 0).testBit j = true) := by
    intro es
    induction es with
    | nil => intro m h; exact .inl h
    | cons e es ih =>
      intro m h
      rw [List.foldl_cons] at h
      rcases ih _ h with h1 | ⟨e', he', h1⟩
      · unfold maskF at h1
        split at h1
        · rename_i hb
          rw [Nat.testBit_or, Nat.testBit_or, Bool.or_eq_true, Bool.or_eq_true, Nat.testBit_two_pow, decide_eq_true_eq] at h1
          rcases h1 with h1 | h1
          · exact .inl h1
          · exact .inr ⟨e, List.mem_cons_self .., hb, h1⟩
        · exact .inl h1
      · exact .inr ⟨e', List.mem_cons_of_mem _ he', h1⟩
  rcases key _ _ h with h1 | ⟨e, he, hb, h1⟩
  · simp at h1
  · exact ⟨e.on, depL_iff.2 ⟨e, by simpa using he, hb, rfl⟩, h1⟩
theorem masks_spec {L : List Oper} : ∀ (R : List Oper) (acc : List Nat), L.drop acc.length = R → (∀ i j, (acc.getD i 0).testBit j = true → Rch L i j) → ∀ i j, ((masks R acc).getD i 0).testBit j = true → Rch L i j
  | [], acc, _, h => h
  | o :: R, acc, hR, h => by
    unfold masks
    have ho : L[acc.length]? = some o := by
      have : (L.drop acc.length)[0]? = some o := by rw [hR]; rfl
      simpa using this
    refine masks_spec R _ (by rw [List.length_append, List.length_singleton, ← List.tail_drop, hR]; rfl) fun i j hb => ?_
    rcases Nat.lt_trichotomy i acc.length with hi | hi | hi
    · rw [List.getD_eq_getElem?_getD, List.getElem?_append_left hi, ← List.getD_eq_getElem?_getD] at hb
      exact h i j hb
    · subst hi
      have : (acc ++ [mask1 acc o]).getD acc.length 0 = mask1 acc o := by simp
      rw [this] at hb
      obtain ⟨d, hd, h1⟩ := mask1_spec hb
      rcases h1 with rfl | h1
      · exact .one ho hd
      · exact .step ho hd (h d j h1)
    · have : (acc ++ [mask1 acc o]).getD i 0 = 0 := by
        rw [List.getD_eq_getElem?_getD, List.getElem?_eq_none (by simp; omega)]; rfl
      rw [this] at hb; simp at hb
theorem tailOk_spec {L : List Oper} {m : Nat} (h : tailOk L m = true) {i : Nat} {o : Oper} (ho : L[i]? = some o) (hi : m ≤ i) : ∀ j, j < i → Rch L i j := by
  have hlt : i < L.length := (List.getElem?_eq_some_iff.1 ho).1
  simp only [tailOk, List.all_eq_true, List.mem_range] at h
  have h1 := h i hlt
  rw [Bool.or_eq_true] at h1
  rcases h1 with h1 | h1
  · have : i < m := by simpa [Nat.blt_eq] using h1
    omega
  · simp only [List.all_eq_true, List.mem_range, ho, Bool.or_eq_true] at h1
    exact fun j hj => (h1 j hj).elim (fun h => .one ho h) fun h => masks_spec L [] rfl (fun i j hb => by simp at hb) i j h
theorem tailOk_all (L : List Oper) : tailOk L L.length = true := by
  simp only [tailOk, List.all_eq_true, List.mem_range, Bool.or_eq_true]
  exact fun i hi => .inl (by simpa [Nat.blt_eq] using hi)
/-- The rest, one after the other. -/
theorem any_tail {m : Nat} (ht : tailOk L m = true) (hdb : depsBelow 0 L = true) : ∀ (rest : List Oper) (j fuel : Nat) (listed : Array Bool) (a' : Act) (w' : World), L.drop j = rest → m ≤ j → rest.length ≤ fuel → listed.size = L.length → (∀ i, i < L.length → (listed.getD i false = true ↔ i < j)) →
    wpListIn (Wd X.ro) 0 P L.toArray Q rest a' w' → wpAnyIn (Wd X.ro) 0 P .any L.toArray Q fuel listed a' w' := by
  intro rest
  induction rest with
  | nil =>
    intro j fuel listed a' w' hd hm hf hsz hl h
    have hjl : L.length ≤ j := List.drop_eq_nil_iff.1 hd
    have hr : Region.ready .any L.toArray listed = [] := by
      rw [List.eq_nil_iff_forall_not_mem]
      intro i hi
      obtain ⟨h0, o, ho, _⟩ := mem_ready.1 hi
      have hlt : i < L.length := by simpa using (Array.getElem?_eq_some_iff.1 ho).1
      have h1 := (hl i hlt).2 (by omega)
      have hi' : i < listed.size := by omega
      simp [hi'] at h0 h1
      rw [h0] at h1; cases h1
    cases fuel with
    | zero => exact ⟨hr, h⟩
    | succ fuel => exact ⟨fun _ => h, fun i hi => by rw [hr] at hi; cases hi⟩
  | cons o rest ih =>
    intro j fuel listed a' w' hd hm hf hsz hl h
    have hjl : j < L.length := by
      rcases Nat.lt_or_ge j L.length with h | h
      · exact h
      · rw [List.drop_of_length_le h] at hd; cases hd
    have ho : L[j]? = some o := by
      have : (L.drop j)[0]? = some o := by rw [hd]; rfl
      simpa using this
    have hdr : L.drop (j + 1) = rest := by rw [← List.tail_drop, hd]; rfl
    cases fuel with
    | zero => simp at hf
    | succ fuel =>
      refine ⟨fun hr => ?_, fun i hi => ?_⟩
      · exfalso
        have hm : j ∈ Region.ready .any L.toArray listed := mem_ready.2 ⟨by
          have : listed.getD j false = false := by
            cases hb : listed.getD j false with
            | false => rfl
            | true => have := (hl j hjl).1 hb; omega
          have hj' : j < listed.size := by omega
          simp [hj'] at this ⊢; exact this, o, by simpa using ho, fun e he hbe => by
            rcases Nat.lt_or_ge e.on L.length with hlt | hge
            · refine (hl e.on hlt).2 ?_
              exact depsBelow_spec hdb j o ho e he hbe |> fun h => by omega
            · have := depsBelow_spec hdb j o ho e he hbe
              omega⟩
        rw [hr] at hm; cases hm
      · obtain ⟨h0, o', ho', hdeps⟩ := mem_ready.1 hi
        have hiL : i < L.length := by simpa using (Array.getElem?_eq_some_iff.1 ho').1
        have hi' : i < listed.size := by omega
        have hun : listed.getD i false = false := by simp [hi'] at h0 ⊢; exact h0
        have hge : j ≤ i := by
          rcases Nat.lt_or_ge i j with h1 | h1
          · rw [(hl i hiL).2 h1] at hun; cases hun
          · exact h1
        have hij : i = j := by
          rcases Nat.lt_or_ge j i with h1 | h1
          · have ho2 : L[i]? = some o' := by simpa using ho'
            have := rch_listed (p := fun x => x < j) (fun d od hod hdj k hk => by
              obtain ⟨e, he, hbe, hon⟩ := depL_iff.1 hk
              have := depsBelow_spec hdb d od hod e he hbe
              omega) (tailOk_spec ht ho2 (by omega) j h1) (fun ox hox k hk => by
              rw [ho2] at hox
              obtain rfl : o' = ox := by simpa using hox
              obtain ⟨e, he, hbe, hon⟩ := depL_iff.1 hk
              have h2 := hdeps e he hbe
              rw [hon] at h2
              have h3 := depsBelow_spec hdb i o' ho2 e he hbe
              exact (hl k (by omega)).1 h2)
            omega
          · omega
        subst hij
        unfold wpOpIn
        have hoa : L.toArray[i]? = some o := by simpa using ho
        simp only [hoa]
        unfold wpListIn at h
        have hl' : ∀ x, x < L.length → ((listed.setIfInBounds i true).getD x false = true ↔ x < i + 1) := by
          intro x hx
          by_cases hix : i = x
          · subst hix; simp only [getD_set_self hi', true_iff]; omega
          · rw [getD_set_ne' hix, hl x hx]; omega
        split
        · rename_i hw
          rw [if_pos hw] at h
          exact Oper.wpIn_mono (fun a w hh => ih (i + 1) fuel _ a w hdr (by omega) (by simpa using hf) (by simpa using hsz) hl' hh) h
        · rename_i hw
          rw [if_neg hw] at h
          exact ⟨h.1, ih (i + 1) fuel _ _ _ hdr (by omega) (by simpa using hf) (by simpa using hsz) hl' h.2⟩
theorem any_main {m : Nat} (hmL : m ≤ L.length) (htl : tailOk L m = true) (hspm : (sp.all fun k => Nat.blt k m) = true) (hExt : ∀ k w w', Ext w w' → S k w w') (hΦ : ∀ k j v w w', j ≠ k → (∀ o, L[j]? = some o → depL o k = false) → Φ j v w → S k w w' → Φ j v w') (D : Nat → List Nat) (hD : okD L sp D = true) (hT : ∀ k x w y w', T k x w → Ext w w' → (∀ s, s ∈ D k → sl y s = sl x s) → T k y w') (hk : anyOk N L sp = true) (st0 : St X N a l)
    (hob : ObsN P L a l S T Φ sp m 0 L) (hend : ∀ w', EndN X N a Φ (T sp.length) (fun l' => WL P X N L.toArray Q (L.drop m) a l' w') w' m 0 L l) :
    ∀ (fuel : Nat) (listed : Array Bool) (a' : Act) (w' : World), listed.toList.count false ≤ fuel → Inv (X := X) (N := N) (L := L) (a := a) (l := l) (T := T) (Φ := Φ) (sp := sp) listed a' w' → (∀ j, m ≤ j → listed.getD j false = false) →
      wpAnyIn (Wd X.ro) 0 P .any L.toArray Q fuel listed a' w' := by
  simp only [anyOk, Bool.and_eq_true] at hk
  obtain ⟨⟨hk1, hk2⟩, hk3⟩ := hk
  obtain ⟨hc1, hc2, hc3, _⟩ := chainOk_spec hk3
  have hdst := dstsOk_spec hk2
  -- the end: all of the first m are listed
  have fin : ∀ (fuel : Nat) (listed : Array Bool) (a' : Act) (w' : World), listed.toList.count false ≤ fuel → Inv (X := X) (N := N) (L := L) (a := a) (l := l) (T := T) (Φ := Φ) (sp := sp) listed a' w' → (∀ j, m ≤ j → listed.getD j false = false) → (∀ j, j < m → listed.getD j false = true) → wpAnyIn (Wd X.ro) 0 P .any L.toArray Q fuel listed a' w' := by
    intro fuel listed a' w' hc hI htail hall
    obtain ⟨ph, hTp, hle, hsp⟩ := hI.ph
    have hph : ph = sp.length := by
      rcases Nat.lt_or_ge ph sp.length with hlt | hge
      · have hkm : sp[ph] < m := by
          have := List.all_eq_true.1 hspm sp[ph] (List.getElem_mem hlt)
          simpa [Nat.blt_eq] using this
        have hx := (hsp ph sp[ph] (List.getElem?_eq_getElem hlt)).1 (hall _ hkm)
        omega
      · omega
    subst hph
    have hwl : wpListIn (Wd X.ro) 0 P L.toArray Q (L.drop m) a' w' := by
      refine end_ofN (T sp.length) (fun l' => WL P X N L.toArray Q (L.drop m) a l' w') w' a' hTp hI.sz hI.df (fun l' st hG e => by rw [e]; exact hG st) m L 0 l st0 hmL (fun i d hi => (hdst i i d hi).1) (fun i j d hi hj => (hdst i j d hi).2 hj) (hend w') (fun i d him hi => ?_) (fun s hs => ?_)
      · rw [Nat.zero_add]
        exact hI.done i d (hall i him) hi
      · refine hI.out s fun j hj => ?_
        rcases Nat.lt_or_ge j m with h | h
        · exact absurd hj (hs j h)
        · exact htail j h
    refine any_tail htl hk1 (L.drop m) m fuel listed a' w' rfl (Nat.le_refl _) ?_ hI.lsz (fun i hi => ?_) hwl
    · -- the rest is not listed
      refine Nat.le_trans ?_ hc
      have hls : listed.toList.length = L.length := by simpa using hI.lsz
      have e : listed.toList.drop m = List.replicate (L.length - m) false := by
        apply List.ext_getElem
        · simp [hI.lsz]
        · intro i h1 h2
          simp at h1
          have := htail (m + i) (by omega)
          rw [Array.getD_eq_getD_getElem?, Array.getElem?_eq_getElem (by omega)] at this
          simpa using this
      have h2 : (listed.toList.drop m).count false ≤ listed.toList.count false := (List.drop_sublist m listed.toList).count_le false
      rw [e, List.count_replicate_self] at h2
      simpa using h2
    · rcases Nat.lt_or_ge i m with h | h
      · simp [hall i h, h]
      · simp only [htail i h]
        constructor
        · intro hh; cases hh
        · intro hh; omega
  intro fuel
  induction fuel with
  | zero =>
    intro listed a' w' hc hI htail
    refine fin 0 listed a' w' hc hI htail fun j hj => ?_
    have hj' : j < listed.size := by rw [hI.lsz]; omega
    cases hb : listed[j] with
    | true => simp [hj', hb]
    | false =>
      have : false ∈ listed.toList := by rw [← hb]; simp
      have := List.count_pos_iff.2 this
      omega
  | succ fuel ih =>
    intro listed a' w' hc hI htail
    by_cases hallm : ∀ j, j < m → listed.getD j false = true
    · exact fin (fuel + 1) listed a' w' hc hI htail hallm
    have hex : ∃ j, j < m ∧ listed.getD j false = false := by
      false_or_by_contra
      rename_i hno
      refine hallm fun j hj => ?_
      cases hb : listed.getD j false with
      | true => rfl
      | false => exact absurd ⟨j, hj, hb⟩ hno
    constructor
    · intro hr
      exfalso
      obtain ⟨j, hj, hb⟩ := hex
      refine absurd hb ?_
      rw [Bool.not_eq_false]
      clear hb
      induction j using Nat.strongRecOn with
      | _ j ihj =>
        cases hb : listed.getD j false with
        | true => rfl
        | false =>
          exfalso
          have hj' : j < listed.size := by rw [hI.lsz]; omega
          have hm : j ∈ Region.ready .any L.toArray listed := mem_ready.2 ⟨by simp [hj'] at hb ⊢; exact hb, L[j], by simp, fun e he hbe => by
            have h1 := depsBelow_spec hk1 j L[j] (List.getElem?_eq_getElem (by omega)) e he hbe
            exact ihj e.on (by omega) (by omega)⟩
          rw [hr] at hm
          cases hm
    · intro i hi
      obtain ⟨h0, o, ho, hdeps⟩ := mem_ready.1 hi
      have ho' : L[i]? = some o := by simpa using ho
      have hiL : i < L.length := (List.getElem?_eq_some_iff.1 ho').1
      have hi' : i < listed.size := by rw [hI.lsz]; exact hiL
      have hun : listed.getD i false = false := by simp [hi'] at h0 ⊢; exact h0
      have him : i < m := by
        rcases Nat.lt_or_ge i m with h | h
        · exact h
        · obtain ⟨j, hj, hb⟩ := hex
          have := rch_listed (p := fun x => listed.getD x false = true) (fun d od hod hdl k hk => by
            obtain ⟨e, he, hbe, hon⟩ := depL_iff.1 hk
            have := hI.down d od hod hdl e he hbe
            rwa [hon] at this) (tailOk_spec htl ho' h j (by omega)) (fun ox hox k hk => by
            rw [ho'] at hox
            obtain rfl : o = ox := by simpa using hox
            obtain ⟨e, he, hbe, hon⟩ := depL_iff.1 hk
            have := hdeps e he hbe
            rwa [hon] at this)
          rw [hb] at this; cases this
      obtain ⟨ph, hTp, hle, hsp⟩ := hI.ph
      have hphi : ∀ i', sp[i']? = some i → ph = i' := by
        intro i' hi''
        have hge : ¬ i' < ph := fun hlt => by
          have := (hsp i' i hi'').2 hlt
          rw [hun] at this; cases this
        cases i' with
        | zero => omega
        | succ m =>
          have hm : m < sp.length := by
            have := (List.getElem?_eq_some_iff.1 hi'').1; omega
          obtain ⟨o2, ho2, hd2⟩ := hc1 m sp[m] i (List.getElem?_eq_getElem hm) hi''
          rw [ho'] at ho2
          obtain rfl : o = o2 := by simpa using ho2
          obtain ⟨e, he, hbe, hon⟩ := depL_iff.1 hd2
          have := hdeps e he hbe
          rw [hon] at this
          have := (hsp m sp[m] (List.getElem?_eq_getElem hm)).1 this
          omega
      have hknow : Know L a l T Φ sp i o a' w' ph := by
        refine ⟨fun s hs => hI.out s fun j hj => ?_, fun j d o' hj hd hdep => ?_, fun j d hj hjd => ?_, hTp, hphi, fun i' j o' hsj hj hdep => ?_⟩
        rotate_left 3
        · rcases Nat.lt_or_ge i' ph with hlt | hge
          · have hlj := (hsp i' j hsj).2 hlt
            obtain ⟨e, he, hbe, hon⟩ := depL_iff.1 hdep
            have := hI.down j o' hj hlj e he hbe
            rw [hon, hun] at this; cases this
          · exact hge
        · have := isDst_iff.2 ⟨j, hj⟩
          rw [hs] at this; cases this
        · have hdj : dstAt L j = some d := by simp [dstAt, hj, hd]
          refine hI.out d fun j' hj' => ?_
          obtain rfl := (hdst j j' d hdj).2 hj'
          cases hb : listed.getD j false with
          | false => rfl
          | true =>
            obtain ⟨e, he, hbe, hon⟩ := depL_iff.1 hdep
            have := hI.down j o' hj hb e he hbe
            rw [hon, hun] at this; cases this
        · obtain ⟨e, he, hbe, hon⟩ := depL_iff.1 hj
          have := hdeps e he hbe
          rw [hon] at this
          exact hI.done j d this hjd
      -- the step
      have step : ∀ v w'', Φ i v w'' → S i w' w'' → (∃ ph', T ph' (a'.put o.dst v) w'' ∧ ph' ≤ sp.length ∧ ∀ (i' k : Nat), sp[i']? = some k → ((listed.setIfInBounds i true).getD k false = true ↔ i' < ph')) →
          wpAnyIn (Wd X.ro) 0 P .any L.toArray Q fuel (listed.setIfInBounds i true) (a'.put o.dst v) w'' := by
        intro v w'' hv hS hph
        have hdl : dstAt L i = o.dst := by simp [dstAt, ho']
        refine ih _ _ _ ?_ ?_ (fun j hj => by rw [getD_set_ne' (by omega)]; exact htail j hj)
        · have hlt : i < listed.toList.length := by simpa using hi'
          have hget : listed.toList[i] = false := by
            simp [hi'] at hun; simpa using hun
          have hcs : (listed.setIfInBounds i true).toList = listed.toList.set i true := by simp
          rw [hcs, List.count_set hlt, hget]
          have h1 : 0 < listed.toList.count false := List.count_pos_iff.2 (by rw [← hget]; exact List.getElem_mem hlt)
          have e1 : (if (false == false) = true then 1 else 0) = 1 := rfl
          have e2 : (if (true == false) = true then 1 else 0) = 0 := rfl
          rw [e1, e2]
          omega
        · have hput : ∀ s, (∀ d, o.dst = some d → d ≠ s) → sl (a'.put o.dst v) s = sl a' s := by
            intro s hs
            cases hd : o.dst with
            | none => rfl
            | some d => exact sl_put_ne (hs d hd)
          refine ⟨by simp [hI.lsz], ?_, ?_, ?_, ?_, ?_, hph⟩
          · cases o.dst <;> simp [Act.put, hI.sz]
          · cases o.dst <;> simp [Act.put, hI.df]
          · intro s hs
            rw [hput s (fun d hd hds => by
              subst hds
              have := hs i (by rw [hdl, hd])
              rw [getD_set_self hi'] at this; cases this)]
            refine hI.out s fun j hj => ?_
            have := hs j hj
            by_cases hij : i = j
            · subst hij; exact hun
            · rwa [getD_set_ne' hij] at this
          · intro j d hj hjd
            by_cases hij : i = j
            · subst hij
              rw [hdl] at hjd
              have hlt : d < a'.tmps.size := by rw [hI.sz]; exact (hdst i i d (by rw [hdl, hjd])).1
              rw [hjd, sl_put_same hlt]; exact hv
            · rw [getD_set_ne' hij] at hj
              have h1 := hΦ i j _ _ _ (Ne.symm hij) (fun oj hoj => by
                cases hdd : depL oj i with
                | false => rfl
                | true =>
                  obtain ⟨e, he, hbe, hon⟩ := depL_iff.1 hdd
                  have := hI.down j oj hoj hj e he hbe
                  rw [hon, hun] at this; cases this) (hI.done j d hj hjd) hS
              have : sl (a'.put o.dst v) d = sl a' d := by
                refine hput d fun d' hd' hdd => ?_
                subst hdd
                exact hij ((hdst i j d' (by rw [hdl, hd'])).2 hjd)
              rw [this]; exact h1
          · intro j oj hj hlj e he hbe
            by_cases hie : i = e.on
            · rw [← hie]; exact getD_set_self hi'
            · rw [getD_set_ne' hie]
              by_cases hij : i = j
              · subst hij
                rw [ho'] at hj
                obtain rfl : o = oj := by simpa using hj
                exact hdeps e he hbe
              · rw [getD_set_ne' hij] at hlj
                exact hI.down j oj hj hlj e he hbe
      have hphs : ∀ v w'', Ext w' w'' → i ∉ sp → ∃ ph', T ph' (a'.put o.dst v) w'' ∧ ph' ≤ sp.length ∧ ∀ (i' k : Nat), sp[i']? = some k → ((listed.setIfInBounds i true).getD k false = true ↔ i' < ph') := by
        intro v w'' hx hns
        refine ⟨ph, hT _ _ _ _ _ hTp hx (fun s hs => ?_), hle, fun i' k hk' => ?_⟩
        · cases hd : o.dst with
          | none => rfl
          | some d =>
            refine sl_put_ne fun hds => ?_
            subst hds
            obtain ⟨m, k, hm, hk, hor⟩ := okD_spec hD hle hs (i := i) (by simp [dstAt, ho', hd])
            have hlk := (hsp m k hk).2 hm
            rcases hor with rfl | ⟨o2, ho2, hdep⟩
            · exact hns (List.mem_of_getElem? hk)
            · obtain ⟨e, he, hbe, hon⟩ := depL_iff.1 hdep
              have := hI.down k o2 ho2 hlk e he hbe
              rw [hon, hun] at this; cases this
        rw [getD_set_ne' (fun hik => hns (by rw [hik]; exact List.mem_of_getElem? hk'))]
        exact hsp i' k hk'
      unfold wpOpIn
      simp only [ho]
      rcases obs_getN hob i o him ho' a' w' ph (by rw [Nat.zero_add]; exact hknow) with ⟨hw, hx⟩ | ⟨hw, hu, hns⟩
      · rw [if_pos hw]
        refine (hx.wp fun v w'' hr => ?_)
        rw [Nat.zero_add] at hr
        obtain ⟨hv, hr⟩ := hr
        by_cases hs : i ∈ sp
        · rw [if_pos hs] at hr
          refine step v w'' hv hr.1 ⟨ph + 1, hr.2, ?_, fun i' k hk' => ?_⟩
          · obtain ⟨m, hm, hmi⟩ := List.mem_iff_getElem.1 hs
            have := hphi m (by rw [List.getElem?_eq_getElem hm, hmi]); omega
          · by_cases hik : i = k
            · subst hik
              have := hphi i' hk'
              simp only [getD_set_self hi', true_iff]; omega
            · rw [getD_set_ne' hik, hsp i' k hk']
              have hne : i' ≠ ph := by
                intro e
                obtain ⟨m, hm, hmi⟩ := List.mem_iff_getElem.1 hs
                have h1 := hphi m (by rw [List.getElem?_eq_getElem hm, hmi])
                rw [e, h1, List.getElem?_eq_getElem hm, hmi] at hk'
                exact hik (by simpa using hk')
              omega
        · rw [if_neg hs] at hr
          exact step v w'' hv (hExt _ _ _ hr) (hphs v w'' hr hs)
      · rw [if_neg (by rw [hw]; simp)]
        rw [Nat.zero_add] at hu hns
        exact ⟨fun f _ => wd_fn X.ro f, step undef w' hu (hExt _ _ _ (Ext.refl _)) (hphs undef w' (Ext.refl _) hns)⟩
/-- What is known of a value, in whatever later world. -/
structure Stb (S : World → World → Prop) where
  p : Value → World → Prop
  st : ∀ v w w', p v w → S w w' → p v w'
/-- The value is c. -/
def Kc {S : World → World → Prop} (c : Value) : Stb S := ⟨fun v _ => v = c, fun _ _ _ h _ => h⟩
def Kt {S : World → World → Prop} : Stb S := ⟨fun _ _ => True, fun _ _ _ h _ => h⟩
def phiOf {S : World → World → Prop} (ks : List (Stb S)) (j : Nat) : Value → World → Prop := (ks.getD j Kt).p
theorem ext_drew (w : World) : Ext w w.drew := ⟨rfl, rfl, rfl, Nat.le_refl _, fun _ _ _ => rfl⟩
theorem sp_lt {N : Nat} {L : List Oper} {sp : List Nat} (h : anyOk N L sp = true) : (sp.all fun k => Nat.blt k L.length) = true := by
  simp only [anyOk, Bool.and_eq_true] at h
  rw [List.all_eq_true]
  intro k hk
  have := (chainOk_spec h.2).2.2.1 k hk
  simpa [Nat.blt_eq] using this
theorem okD_nil (L : List Oper) (sp : List Nat) : okD L sp (fun _ => []) = true := by simp [okD]
theorem cc_any {id : Nat} (S : World → World → Prop) (T : Nat → World → Prop) (sp : List Nat) (ks : List (Stb S)) (hm : P.follows .mixedOrders = true) (hk : anyOk N L sp = true)
    (hExt : ∀ w w', Ext w w' → S w w') (hT : ∀ k w w', T k w → Ext w w' → T k w') (hT0 : T 0 w.drew)
    (hob : Obs P L a l (fun _ => S) (fun k _ w => T k w) (phiOf ks) sp 0 L) (hend : ∀ w', T sp.length w' → EndL X N a (phiOf ks) Q w' 0 L l) : CC P X N (.region id L.toArray true) Q a l w := fun st =>
  wpIn_region_any hm (by
    have hI : Inv (X := X) (N := N) (L := L) (a := a) (l := l) (T := fun k _ w => T k w) (Φ := phiOf ks) (sp := sp) (Array.replicate L.length false) (puts a l) w.drew := by
      have hf : ∀ j, (Array.replicate L.length false).getD j false = false := by
        intro j
        rw [Array.getD_eq_getD_getElem?]
        rcases Nat.lt_or_ge j L.length with h | h
        · simp [h]
        · simp [h]
      refine ⟨by simp, by rw [puts_size, st.sz], by rw [puts_defers, st.df], fun s _ => sl_puts st s, fun j d h => ?_, fun j o _ h => ?_, ⟨0, hT0, Nat.zero_le _, fun i k _ => ?_⟩⟩
      · rw [hf j] at h; cases h
      · rw [hf j] at h; cases h
      · rw [hf k]; simp
    have hmain := any_main (m := L.length) (Nat.le_refl _) (tailOk_all L) (sp_lt hk) (S := fun _ => S) (fun _ => hExt) (fun _ j v w w' _ _ => (ks.getD j Kt).st v w w') (fun _ => []) (okD_nil L sp) (fun k _ w _ w' h g _ => hT k w w' h g) hk st (obsN_of hob) (fun w' => endN_mono (fun l' h => by rw [List.drop_length]; exact wl_end h) (endN_of (endT_of L 0 l (hend w')))) L.length (Array.replicate L.length false) (puts a l) w.drew (by
      refine Nat.le_trans (List.count_le_length ..) (by simp)) hI (fun j _ => by
        rw [Array.getD_eq_getD_getElem?]
        rcases Nat.lt_or_ge j L.length with h | h
        · simp [h]
        · simp [h])
    have e : L.toArray.size = L.length := by simp
    rw [e]
    exact hmain)
/-- No step of the region turns what was there. -/
theorem cc_any0 {id : Nat} (ks : List (Stb Ext)) (hm : P.follows .mixedOrders = true) (hk : anyOk N L [] = true)
    (hob : Obs P L a l (fun _ => Ext) (fun _ _ w' => Ext w w') (phiOf ks) [] 0 L) (hend : ∀ w', Ext w w' → EndL X N a (phiOf ks) Q w' 0 L l) : CC P X N (.region id L.toArray true) Q a l w :=
  cc_any Ext (fun _ w' => Ext w w') [] ks hm hk (fun _ _ h => h) (fun _ _ _ h h' => h.trans h') (ext_drew w) hob (fun w' h => hend w' h)
/-- What is known of all other values abides the step. -/
def StabL (k : Nat) (w w' : World) : Nat → List (Stb Ext) → Prop
  | _, [] => True
  | i, x :: xs => (i ≠ k → ∀ v, x.p v w → x.p v w') ∧ StabL k w w' (i + 1) xs
def SK (ks : List (Stb Ext)) (k : Nat) (w w' : World) : Prop := ∀ j, j ≠ k → ∀ v, phiOf ks j v w → phiOf ks j v w'
theorem sk_of {ks : List (Stb Ext)} {k : Nat} {w w' : World} (h : StabL k w w' 0 ks) : SK ks k w w' := by
  have key : ∀ (ks : List (Stb Ext)) (i : Nat), StabL k w w' i ks → ∀ j, i + j ≠ k → ∀ v, (ks.getD j Kt).p v w → (ks.getD j Kt).p v w' := by
    intro ks
    induction ks with
    | nil => intro i _ j _ v h; simpa [Kt] using h
    | cons x xs ih =>
      intro i h j hj v hv
      cases j with
      | zero => exact h.1 hj v hv
      | succ j => exact ih (i + 1) h.2 j (by omega) v hv
  exact fun j hj v hv => key ks 0 h j (by omega) v hv
/-- Several operations turn what was there, one after the other. -/
theorem cc_anys {id : Nat} (T : Nat → World → Prop) (sp : List Nat) (ks : List (Stb Ext)) (hm : P.follows .mixedOrders = true) (hk : anyOk N L sp = true)
    (hT : ∀ k w w', T k w → Ext w w' → T k w') (hT0 : T 0 w.drew)
    (hob : Obs P L a l (SK ks) (fun k _ w => T k w) (phiOf ks) sp 0 L) (hend : ∀ w', T sp.length w' → EndL X N a (phiOf ks) Q w' 0 L l) : CC P X N (.region id L.toArray true) Q a l w := fun st =>
  wpIn_region_any hm (by
    have hI : Inv (X := X) (N := N) (L := L) (a := a) (l := l) (T := fun k _ w => T k w) (Φ := phiOf ks) (sp := sp) (Array.replicate L.length false) (puts a l) w.drew := by
      have hf : ∀ j, (Array.replicate L.length false).getD j false = false := by
        intro j
        rw [Array.getD_eq_getD_getElem?]
        rcases Nat.lt_or_ge j L.length with h | h
        · simp [h]
        · simp [h]
      refine ⟨by simp, by rw [puts_size, st.sz], by rw [puts_defers, st.df], fun s _ => sl_puts st s, fun j d h => ?_, fun j o _ h => ?_, ⟨0, hT0, Nat.zero_le _, fun i k _ => ?_⟩⟩
      · rw [hf j] at h; cases h
      · rw [hf j] at h; cases h
      · rw [hf k]; simp
    have hmain := any_main (m := L.length) (Nat.le_refl _) (tailOk_all L) (sp_lt hk) (S := SK ks) (fun _ w w' g j _ v => fun h => (ks.getD j Kt).st v w w' h g) (fun k j v w w' hne _ h hs => hs j hne v h) (fun _ => []) (okD_nil L sp) (fun k _ w _ w' h g _ => hT k w w' h g) hk st (obsN_of hob) (fun w' => endN_mono (fun l' h => by rw [List.drop_length]; exact wl_end h) (endN_of (endT_of L 0 l (hend w')))) L.length (Array.replicate L.length false) (puts a l) w.drew (by
      refine Nat.le_trans (List.count_le_length ..) (by simp)) hI (fun j _ => by
        rw [Array.getD_eq_getD_getElem?]
        rcases Nat.lt_or_ge j L.length with h | h
        · simp [h]
        · simp [h])
    have e : L.toArray.size = L.length := by simp
    rw [e]
    exact hmain)
/-- The same for those that do not wait for the k-th operation. -/
def StabLL (L : List Oper) (k : Nat) (w w' : World) : Nat → List (Stb Ext) → Prop
  | _, [] => True
  | i, x :: xs => (i ≠ k → (∀ o, L[i]? = some o → depL o k = false) → ∀ v, x.p v w → x.p v w') ∧ StabLL L k w w' (i + 1) xs
def SKL (L : List Oper) (ks : List (Stb Ext)) (k : Nat) (w w' : World) : Prop := ∀ j, j ≠ k → (∀ o, L[j]? = some o → depL o k = false) → ∀ v, phiOf ks j v w → phiOf ks j v w'
theorem skl_of {ks : List (Stb Ext)} {k : Nat} {w w' : World} (h : StabLL L k w w' 0 ks) : SKL L ks k w w' := by
  have key : ∀ (ks : List (Stb Ext)) (i : Nat), StabLL L k w w' i ks → ∀ j, i + j ≠ k → (∀ o, L[i + j]? = some o → depL o k = false) → ∀ v, (ks.getD j Kt).p v w → (ks.getD j Kt).p v w' := by
    intro ks
    induction ks with
    | nil => intro i _ j _ _ v h; simpa [Kt] using h
    | cons x xs ih =>
      intro i h j hj hd v hv
      cases j with
      | zero => exact h.1 hj hd v hv
      | succ j => exact ih (i + 1) h.2 j (by omega) (by rw [show i + 1 + j = i + (j + 1) by omega]; exact hd) v hv
  exact fun j hj hd v hv => key ks 0 h j (by omega) (by rw [Nat.zero_add]; exact hd) v hv
/-- The first m in any order, the others one after the other. -/
theorem cc_anyM {id : Nat} (m : Nat) (T : Nat → Act → World → Prop) (D : Nat → List Nat) (sp : List Nat) (ks : List (Stb Ext)) (hm : P.follows .mixedOrders = true) (hk : anyOk N L sp = true) (htl : (Nat.ble m L.length && tailOk L m && (sp.all fun k => Nat.blt k m)) = true)
    (hD : okD L sp D = true) (hT : ∀ k x w y w', T k x w → Ext w w' → (∀ s, s ∈ D k → sl y s = sl x s) → T k y w') (hT0 : St X N a l → T 0 (puts a l) w.drew)
    (hob : ObsN P L a l (SKL L ks) T (phiOf ks) sp m 0 L) (hend : ∀ w', EndN X N a (phiOf ks) (T sp.length) (fun l' => WL P X N L.toArray Q (L.drop m) a l' w') w' m 0 L l) : CC P X N (.region id L.toArray true) Q a l w := fun st =>
  wpIn_region_any hm (by
    simp only [Bool.and_eq_true] at htl
    have hI : Inv (X := X) (N := N) (L := L) (a := a) (l := l) (T := T) (Φ := phiOf ks) (sp := sp) (Array.replicate L.length false) (puts a l) w.drew := by
      have hf : ∀ j, (Array.replicate L.length false).getD j false = false := by
        intro j
        rw [Array.getD_eq_getD_getElem?]
        rcases Nat.lt_or_ge j L.length with h | h
        · simp [h]
        · simp [h]
      refine ⟨by simp, by rw [puts_size, st.sz], by rw [puts_defers, st.df], fun s _ => sl_puts st s, fun j d h => ?_, fun j o _ h => ?_, ⟨0, hT0 st, Nat.zero_le _, fun i k _ => ?_⟩⟩
      · rw [hf j] at h; cases h
      · rw [hf j] at h; cases h
      · rw [hf k]; simp
    have hmain := any_main (m := m) (by simpa [Nat.ble_eq] using htl.1.1) htl.1.2 htl.2 (S := SKL L ks) (fun _ w w' g j _ _ v => fun h => (ks.getD j Kt).st v w w' h g) (fun k j v w w' hne hd h hs => hs j hne hd v h) D hD hT hk st hob hend L.length (Array.replicate L.length false) (puts a l) w.drew (by
      refine Nat.le_trans (List.count_le_length ..) (by simp)) hI (fun j _ => by
        rw [Array.getD_eq_getD_getElem?]
        rcases Nat.lt_or_ge j L.length with h | h
        · simp [h]
        · simp [h])
    have e : L.toArray.size = L.length := by simp
    rw [e]
    exact hmain)
/-- No step of the first m turns what was there. -/
theorem cc_anyM0 {id : Nat} (m : Nat) (ks : List (Stb Ext)) (hm : P.follows .mixedOrders = true) (hk : anyOk N L [] = true) (htl : (Nat.ble m L.length && tailOk L m && true) = true)
    (hob : ObsN P L a l (SKL L ks) (fun _ _ w' => Ext w w') (phiOf ks) [] m 0 L) (hend : ∀ w', EndN X N a (phiOf ks) (fun _ w' => Ext w w') (fun l' => WL P X N L.toArray Q (L.drop m) a l' w') w' m 0 L l) : CC P X N (.region id L.toArray true) Q a l w :=
  cc_anyM m (fun _ _ w' => Ext w w') (fun _ => []) [] ks hm hk htl (okD_nil L []) (fun _ _ _ _ _ h g _ => Ext.trans h g) (fun _ => ext_drew w) hob hend
theorem ob_ext {k : Nat} {o : Oper} (hg : o.guard = none) (hs : sp.contains k = false) (h : ∀ a' w' ph, Know L a l T Φ sp k o a' w' ph → Ex1 P o a' w' (fun v w'' => Φ k v w'' ∧ Ext w' w'')) : ObOp P L a l S T Φ sp k o := fun a' w' ph hK =>
  .inl ⟨by unfold Region.wanted; rw [hg], (h a' w' ph hK).mono fun v w'' hr => ⟨hr.1, by
    have : k ∉ sp := by simpa using hs
    rw [if_neg this]; exact hr.2⟩⟩
theorem ob_det {k : Nat} {o : Oper} {c : Value} (hg : o.guard = none) (hs : sp.contains k = false) (hΦ : ∀ w, Φ k c w) (h : ∀ a' w' ph, Know L a l T Φ sp k o a' w' ph → Ex1 P o a' w' (fun u w'' => u = c ∧ w'' = w')) : ObOp P L a l S T Φ sp k o :=
  ob_ext hg hs fun a' w' ph hK => (h a' w' ph hK).mono (by rintro _ _ ⟨rfl, rfl⟩; exact ⟨hΦ _, Ext.refl _⟩)
theorem ob_spec {k : Nat} {o : Oper} (hg : o.guard = none) (hs : sp.contains k = true) (h : ∀ a' w' ph, Know L a l T Φ sp k o a' w' ph → Ex1 P o a' w' (fun v w'' => Φ k v w'' ∧ S k w' w'' ∧ T (ph + 1) (a'.put o.dst v) w'')) : ObOp P L a l S T Φ sp k o := fun a' w' ph hK =>
  .inl ⟨by unfold Region.wanted; rw [hg], (h a' w' ph hK).mono fun v w'' hr => ⟨hr.1, by
    have : k ∈ sp := by simpa using hs
    rw [if_pos this]; exact hr.2⟩⟩
theorem yielded_any {a' : Act} {j d : Nat} {b : Bool} (hj : dstAt L j = some d) (hv : sl a' d = .bool b) : yielded L.toArray a'.tmps j = some b := by
  unfold yielded
  unfold dstAt at hj
  have hj' : ((L.toArray)[j]?).bind (·.dst) = some d := by simpa using hj
  simp only [hj', Option.bind_some]
  unfold sl at hv
  rw [Array.getD_eq_getD_getElem?] at hv
  cases hq : a'.tmps[d]? with
  | none => rw [hq] at hv; simp [undef] at hv
  | some u => rw [hq] at hv; simp at hv; rw [hv]
theorem ob_extg {k j d : Nat} {o : Oper} {b : Bool} (hg : o.guard = some (j, b)) (hj : dstAt L j = some d) (hs : sp.contains k = false) (hv : ∀ a' w' ph, Know L a l T Φ sp k o a' w' ph → sl a' d = .bool b)
    (h : ∀ a' w' ph, Know L a l T Φ sp k o a' w' ph → Ex1 P o a' w' (fun v w'' => Φ k v w'' ∧ Ext w' w'')) : ObOp P L a l S T Φ sp k o := fun a' w' ph hK =>
  .inl ⟨by unfold Region.wanted; rw [hg]; simp [yielded_any hj (hv a' w' ph hK)], (h a' w' ph hK).mono fun v w'' hr => ⟨hr.1, by
    have : k ∉ sp := by simpa using hs
    rw [if_neg this]; exact hr.2⟩⟩
theorem ob_detg {k j d : Nat} {o : Oper} {b : Bool} {c : Value} (hg : o.guard = some (j, b)) (hj : dstAt L j = some d) (hs : sp.contains k = false) (hΦ : ∀ w, Φ k c w) (hv : ∀ a' w' ph, Know L a l T Φ sp k o a' w' ph → sl a' d = .bool b)
    (h : ∀ a' w' ph, Know L a l T Φ sp k o a' w' ph → Ex1 P o a' w' (fun u w'' => u = c ∧ w'' = w')) : ObOp P L a l S T Φ sp k o :=
  ob_extg hg hj hs hv fun a' w' ph hK => (h a' w' ph hK).mono (by rintro _ _ ⟨rfl, rfl⟩; exact ⟨hΦ _, Ext.refl _⟩)
theorem ob_skip {k j d : Nat} {o : Oper} {b c : Bool} (hg : o.guard = some (j, b)) (hj : dstAt L j = some d) (hs : sp.contains k = false) (hc : c ≠ b) (hv : ∀ a' w' ph, Know L a l T Φ sp k o a' w' ph → sl a' d = .bool c) (hΦ : ∀ w, Φ k undef w) : ObOp P L a l S T Φ sp k o := fun a' w' ph hK =>
  .inr ⟨by unfold Region.wanted; rw [hg]; simp [yielded_any hj (hv a' w' ph hK), hc], hΦ _, by simpa using hs⟩
theorem yielded_undef {a' : Act} {j d : Nat} (hj : dstAt L j = some d) (hv : sl a' d = undef) : yielded L.toArray a'.tmps j = none := by
  unfold yielded
  unfold dstAt at hj
  have hj' : ((L.toArray)[j]?).bind (·.dst) = some d := by simpa using hj
  simp only [hj', Option.bind_some]
  unfold sl at hv
  rw [Array.getD_eq_getD_getElem?] at hv
  cases hq : a'.tmps[d]? with
  | none => rfl
  | some u => rw [hq] at hv; simp at hv; rw [hv]; rfl
theorem ob_skip_u {k j d : Nat} {o : Oper} {b : Bool} (hg : o.guard = some (j, b)) (hj : dstAt L j = some d) (hs : sp.contains k = false) (hv : ∀ a' w' ph, Know L a l T Φ sp k o a' w' ph → sl a' d = undef) (hΦ : ∀ w, Φ k undef w) : ObOp P L a l S T Φ sp k o := fun a' w' ph hK =>
  .inr ⟨by unfold Region.wanted; rw [hg]; simp [yielded_undef hj (hv a' w' ph hK)], hΦ _, by simpa using hs⟩
/-- A new block's address in some form. -/
def Kn (B : Nat) (mk : Nat → Value) (t : TypeId) (cs : Array Value) : Stb Ext := ⟨fun v w => ∃ b, v = mk b ∧ B ≤ b ∧ Bk w b t cs, fun _ _ _ ⟨b, h1, h2, h3⟩ h => ⟨b, h1, h2, h3.ext h⟩⟩
theorem kn_mk {w w' w'' : World} {mk : Nat → Value} {t : TypeId} {cs : Array Value} {u : Value} (h0 : w.heap.size ≤ w'.heap.size) (h : ∃ b, u = mk b ∧ NewB w' w'' b t cs) : (Kn w.heap.size mk t cs).p u w'' ∧ Ext w' w'' := by
  obtain ⟨b, hu, hn⟩ := h
  exact ⟨⟨b, hu, by rw [hn.b_eq]; exact h0, hn.bk⟩, hn.gr⟩
end
/-- A region of which one operation alone turns what was there: block r. -/
def T2 (w : World) (r : Nat) (M : World → Prop) : Nat → World → Prop
  | 0, w' => Ext w w'
  | _ + 1, w' => Upd r w w' ∧ M w'
theorem upd_of_ext {a b : World} {r : Nat} (h : Ext a b) : Upd r a b := ⟨h.os, h.tape, h.output, h.size, fun k hk _ => h.block k hk (by simp)⟩
theorem T2_ext {w : World} {r : Nat} {M : World → Prop} (hM : ∀ a b, M a → Ext a b → M b) : ∀ k a b, T2 w r M k a → Ext a b → T2 w r M k b
  | 0, _, _, h, g => Ext.trans h g
  | _ + 1, _, _, h, g => ⟨World.grownBy.trans h.1 (upd_of_ext g), hM _ _ h.2 g⟩
theorem T2_zero {w w' : World} {r ph : Nat} {M : World → Prop} (h : T2 w r M ph w') (hp : ph = 0) : Ext w w' := by subst hp; exact h
theorem T2_up {w w' w'' : World} {r ph : Nat} {M : World → Prop} (h : T2 w r M ph w') (hp : ph = 0) (g : Upd r w' w'') (hM : M w'') : T2 w r M (ph + 1) w'' := by
  subst hp; exact ⟨World.grownBy.trans (upd_of_ext h) g, hM⟩
theorem T2_upd {w w' : World} {r ph : Nat} {M : World → Prop} (h : T2 w r M ph w') : Upd r w w' := by
  cases ph with
  | zero => exact upd_of_ext h
  | succ => exact h.1
theorem Bk.t2 {w w' : World} {r ph b : Nat} {t : TypeId} {cs : Array Value} {M : World → Prop} (h : Bk w b t cs) (g : T2 w r M ph w') (hne : b ≠ r) : Bk w' b t cs := h.upd (T2_upd g) hne
theorem Rd.t2 {w w' : World} {r ph lo hi : Nat} {A : Option Addr} {cs : List Value} {M : World → Prop} (h : Rd w lo hi A cs) (g : T2 w r M ph w') (hne : r < lo ∨ hi ≤ r) : Rd w' lo hi A cs := h.upd (T2_upd g) hne
abbrev I (n : Int) : Value := .int .i64 n
abbrev pt (b o : Nat) : Value := .pointer (some ⟨b, o, none⟩)
section
variable {P : Program} {X : Ctx} {N : Nat} {ops : Array Oper} {Q : Exit → Act → World → Prop} {rest : List Oper} {a : Act} {l : Env} {w : World} {op : Op} {ty : TypeId} {pos : String} {aft : Array Edge} {d : Nat}
theorem wd {v : Value} {w' : World} (hN : Nat.blt d N = true) (hx : St X N a l → Ex1 P ⟨some d, op, ty, pos, aft, none⟩ (puts a l) w (fun u w'' => u = v ∧ w'' = w')) (hk : WL P X N ops Q rest a ((d, v) :: l) w') : WL P X N ops Q (⟨some d, op, ty, pos, aft, none⟩ :: rest) a l w :=
  wl_det rfl rfl (by simpa [Nat.blt_eq] using hN) hx hk
theorem wm {x : Operand} {v : Value} (hN : Nat.blt d N = true) (hv : ev a l x = v) (hk : WL P X N ops Q rest a ((d, v) :: l) w) : WL P X N ops Q (⟨some d, .move x, ty, pos, aft, none⟩ :: rest) a l w :=
  wd hN (fun st => x_move (ee st hv)) hk
theorem wa {x : Operand} {v : Value} (hN : Nat.blt d N = true) (hv : ev a l x = v) (hk : WL P X N ops Q rest a ((d, v) :: l) w) : WL P X N ops Q (⟨some d, .assign x, ty, pos, aft, none⟩ :: rest) a l w :=
  wd hN (fun st => x_assign (ee st hv)) hk
theorem we {R : Value → World → Prop} (hN : Nat.blt d N = true) (hx : St X N a l → Ex1 P ⟨some d, op, ty, pos, aft, none⟩ (puts a l) w R) (hk : ∀ v w', R v w' → WL P X N ops Q rest a ((d, v) :: l) w') : WL P X N ops Q (⟨some d, op, ty, pos, aft, none⟩ :: rest) a l w :=
  wl_ex rfl rfl (by simpa [Nat.blt_eq] using hN) hx hk
end
end Go.Proofs.Ythogdgkafaclaaa
end
section
namespace Go.Proofs.Ythogdgkafaclaaa
structure Tly where
  who : Int
  fr : Int
  to : Int
  lo : Int
  hi : Int
structure Fld where
  rows : Int
  wd : Int
  lo : Int
  hi : Int
  ts : List Tly
def inR (n a b : Int) : Bool := decide (a ≤ n) && decide (n ≤ b)
def rngOk (f : Fld) (lo hi : Int) : Bool := decide (0 ≤ lo) && decide (lo ≤ hi) && decide (hi ≤ f.rows)
def talOk (f : Fld) (t : Tly) : Bool := inR t.who 0 (f.wd - 1) && inR t.fr 0 (f.rows - 1) && inR t.to 0 (f.rows - 1) && decide (t.fr ≤ t.to) && rngOk f t.lo t.hi
/-- The first place at which p holds; -1: there is none. -/
def fidx {α : Type} (p : α → Bool) (xs : List α) : Int := match xs.findIdx? p with | some i => (i : Int) | none => -1
theorem fidx_none {α : Type} {p : α → Bool} {xs : List α} (h : ∀ x ∈ xs, p x = false) : fidx p xs = -1 := by
  unfold fidx
  have : xs.findIdx? p = none := List.findIdx?_eq_none_iff.2 h
  rw [this]
theorem fidx_some {α : Type} {p : α → Bool} {xs : List α} {k : Nat} {x : α} (hk : xs[k]? = some x) (hx : p x = true) (h : ∀ y ∈ xs.take k, p y = false) : fidx p xs = k := by
  unfold fidx
  obtain ⟨hlt, he⟩ := List.getElem?_eq_some_iff.1 hk
  have : xs.findIdx? p = some k := by
    rw [List.findIdx?_eq_some_iff_getElem]
    refine ⟨hlt, by rw [he]; exact hx, fun j hj => ?_⟩
    have := h xs[j] (by rw [List.mem_take_iff_getElem]; exact ⟨j, by omega, rfl⟩)
    simp [this]
  rw [this]
theorem take_step {α : Type} {p : α → Bool} {xs : List α} {k : Nat} {x : α} {c : Bool} (h : ∀ y ∈ xs.take k, p y = c) (hx : xs[k]? = some x) (hp : p x = c) : ∀ y ∈ xs.take (k + 1), p y = c := by
  intro y hy
  obtain ⟨hlt, he⟩ := List.getElem?_eq_some_iff.1 hx
  rw [List.take_succ_eq_append_getElem hlt] at hy
  rcases List.mem_append.1 hy with hy | hy
  · exact h y hy
  · rw [List.mem_singleton] at hy
    rw [hy, he]; exact hp
theorem take_done {α : Type} {p : α → Bool} {xs : List α} {k : Nat} {c : Bool} (h : ∀ y ∈ xs.take k, p y = c) (hk : xs.length ≤ k) : ∀ y ∈ xs, p y = c := by
  rw [List.take_of_length_le hk] at h; exact h
theorem not_any_not {α : Type} (p : α → Bool) (xs : List α) : (!(xs.any fun x => !p x)) = xs.all p := by
  rw [Bool.eq_iff_iff]; simp
theorem fidx_ge {α : Type} (p : α → Bool) (xs : List α) : decide (0 ≤ fidx p xs) = xs.any p := by
  unfold fidx
  cases h : xs.findIdx? p with
  | none =>
    have := List.findIdx?_eq_none_iff.1 h
    simp
    exact this
  | some i =>
    rw [List.findIdx?_eq_some_iff_getElem] at h
    obtain ⟨hi, hp, _⟩ := h
    have : xs.any p = true := List.any_eq_true.2 ⟨xs[i], List.getElem_mem hi, hp⟩
    rw [this]
    simp
def cnt (who : Int) (l : List Int) : Nat := l.countP (· == who)
theorem cnt_snoc (who : Int) (l : List Int) (x : Int) : cnt who (l ++ [x]) = cnt who l + if x = who then 1 else 0 := by
  unfold cnt; rw [List.countP_append]; simp [List.countP_cons]
theorem cnt_step (who : Int) (l : List Int) (k : Nat) (hk : k < l.length) : cnt who (l.take (k + 1)) = cnt who (l.take k) + if l.getD k 0 = who then 1 else 0 := by
  rw [List.take_succ_eq_append_getElem hk, cnt_snoc]; simp [List.getElem?_eq_getElem hk]
theorem cnt_le (who : Int) (l : List Int) : cnt who l ≤ l.length := List.countP_le_length
theorem take_snoc {α : Type} (l : List α) (k : Nat) (h : k < l.length) : l.take (k + 1) = l.take k ++ [l[k]] := List.take_succ_eq_append_getElem h
def big (f : Fld) : Bool := decide (7 < f.rows) || (decide (3 < f.wd) || decide (5 < (f.ts.length : Int)))
def bad (f : Fld) : Bool := decide (f.rows < 1) || (decide (f.wd < 1) || (!rngOk f f.lo f.hi || !f.ts.all (talOk f)))
def many (f : Fld) : Int := (f.wd + 1) ^ f.rows.toNat
/-- The error of a field. -/
def check (f : Fld) : Int := if big f = true then 3 else if bad f = true then 1 else if 2500 < many f then 3 else 0
theorem pow_bd (x : Int) (h0 : 0 ≤ x) (h1 : x ≤ 4) : ∀ k : Nat, 0 ≤ x ^ k ∧ x ^ k ≤ 4 ^ k
  | 0 => by simp
  | k + 1 => by
    have ih := pow_bd x h0 h1 k
    rw [Int.pow_succ, Int.pow_succ]
    exact ⟨Int.mul_nonneg ih.1 h0, Int.mul_le_mul ih.2 h1 h0 (Int.pow_nonneg (by omega))⟩
theorem pow_bd7 (x : Int) (h0 : 0 ≤ x) (h1 : x ≤ 4) (k : Nat) (hk : k ≤ 8) : 0 ≤ x ^ k ∧ x ^ k ≤ 65536 := by
  have h := pow_bd x h0 h1 k
  refine ⟨h.1, Int.le_trans h.2 ?_⟩
  have : (4 : Int) ^ k ≤ 4 ^ 8 := by
    have h2 : (4 : Nat) ^ k ≤ 4 ^ 8 := Nat.pow_le_pow_right (by omega) hk
    have h3 : ((4 ^ k : Nat) : Int) ≤ ((4 ^ 8 : Nat) : Int) := by omega
    simpa using h3
  simpa using this
/-- How many rows of a stretch somebody did. -/
def stretch (l : List Int) (fr to : Int) : List Int := (l.drop fr.toNat).take ((to + 1).toNat - fr.toNat)
def didK (l : List Int) : List Int → Int
  | [a, b, c] => ((cnt a ((l.drop b.toNat).take ((c + 1).toNat - b.toNat)) : Nat) : Int)
  | _ => 0
def okAt (l : List Int) (out : List Int) (i : Nat) (t : Tly) : Bool := out.contains (i : Int) || inR (didK l [t.who, t.fr, t.to]) t.lo t.hi
theorem okAt_l {l out : List Int} {i : Nat} {t : Tly} (h : out.contains (i : Int) = true) : okAt l out i t = true := by unfold okAt; rw [h]; rfl
theorem okAt_r {l out : List Int} {i : Nat} {t : Tly} (h : inR (didK l [t.who, t.fr, t.to]) t.lo t.hi = true) : okAt l out i t = true := by unfold okAt; rw [h, Bool.or_true]
theorem okAt_f {l out : List Int} {i : Nat} {t : Tly} (h1 : out.contains (i : Int) = false) (h : inR (didK l [t.who, t.fr, t.to]) t.lo t.hi = false) : okAt l out i t = false := by unfold okAt; rw [h, h1]; rfl
def allAt (l out : List Int) : Nat → List Tly → Bool
  | _, [] => true
  | i, t :: ts => okAt l out i t && allAt l out (i + 1) ts
theorem allAt_take (l out : List Int) : ∀ (ts : List Tly) (i k : Nat) (t : Tly), ts[k]? = some t → allAt l out i (ts.take (k + 1)) = (allAt l out i (ts.take k) && okAt l out (i + k) t)
  | [], i, k, t, h => by simp at h
  | s :: ts, i, 0, t, h => by
    obtain rfl : s = t := by simpa using h
    simp [allAt]
  | s :: ts, i, k + 1, t, h => by
    have := allAt_take l out ts (i + 1) k t (by simpa using h)
    simp only [List.take_succ_cons, allAt, this, Bool.and_assoc]
    rw [show i + 1 + k = i + (k + 1) from by omega]
theorem allAt_false (l out : List Int) (ts : List Tly) (k : Nat) (t : Tly) (h : ts[k]? = some t) (hb : okAt l out k t = false) : allAt l out 0 ts = false := by
  have key : ∀ (ts : List Tly) (i k : Nat), ts[k]? = some t → okAt l out (i + k) t = false → allAt l out i ts = false := by
    intro ts
    induction ts with
    | nil => intro i k h; simp at h
    | cons s ts ih =>
      intro i k h hb
      cases k with
      | zero =>
        obtain rfl : s = t := by simpa using h
        simp only [Nat.add_zero] at hb
        simp [allAt, hb]
      | succ k =>
        have := ih (i + 1) k (by simpa using h) (by rw [show i + 1 + k = i + (k + 1) from by omega]; exact hb)
        simp [allAt, this]
  exact key ts 0 k h (by rw [Nat.zero_add]; exact hb)
/-- All tallies but some are right, and as many rows were left as can be. -/
def rightB (f : Fld) (l out : List Int) : Bool := allAt l out 0 f.ts && inR ((cnt (-1) (l.take f.rows.toNat) : Nat) : Int) f.lo f.hi
theorem any_beq (v : Int) (xs : List Int) : (xs.any fun y => v == y) = xs.contains v := by
  rw [Bool.eq_iff_iff]; simp
theorem inR_iff {n a b : Int} : inR n a b = true ↔ a ≤ n ∧ n ≤ b := by simp [inR]
theorem talOk_bd {f : Fld} {t : Tly} (h : talOk f t = true) : (0 ≤ t.who ∧ t.who ≤ f.wd - 1) ∧ (0 ≤ t.fr ∧ t.fr ≤ t.to ∧ t.to ≤ f.rows - 1) ∧ (0 ≤ t.lo ∧ t.lo ≤ t.hi ∧ t.hi ≤ f.rows) := by
  simp only [talOk, rngOk, Bool.and_eq_true, inR_iff, decide_eq_true_eq] at h
  omega
def minL : List Int → Int
  | [] => 0
  | x :: xs => xs.foldl min x
theorem minL_step (xs : List Int) (k : Nat) (h1 : 1 ≤ k) (hk : k < xs.length) : minL (xs.take (k + 1)) = min (minL (xs.take k)) (xs.getD k 0) := by
  cases xs with
  | nil => simp at hk
  | cons x xs =>
    obtain ⟨j, rfl⟩ : ∃ j, k = j + 1 := ⟨k - 1, by omega⟩
    have hj : j < xs.length := by simpa using hk
    simp only [List.take_succ_cons, minL, List.getD_cons_succ]
    rw [List.take_succ_eq_append_getElem hj, List.foldl_append]
    simp [List.getElem?_eq_getElem hj]
theorem minL_one (xs : List Int) (h : 1 ≤ xs.length) : minL (xs.take 1) = xs.getD 0 0 := by
  cases xs with
  | nil => simp at h
  | cons x xs => simp [minL]
theorem getD_some {xs : List Int} {k : Nat} (h : k < xs.length) : xs[k]? = some (xs.getD k 0) := by simp [List.getElem?_eq_getElem h]
/-- How many rows somebody did. -/
def cntr (f : Fld) (a : List Int) (who : Int) : Int := ((cnt who (a.take f.rows.toNat) : Nat) : Int)
def rngS (f : Fld) (who : Int) (r : Int × Int) (a : List Int) : Int × Int := (minL [r.1, cntr f a who], max r.2 (cntr f a who))
def doneOf (f : Fld) (T : List (List Int)) (who : Int) : Int × Int := T.foldl (rngS f who) (cntr f (T.headD []) who, cntr f (T.headD []) who)
def donesTo (f : Fld) (T : List (List Int)) (k : Nat) : List (Int × Int) := (List.range k).map fun i : Nat => doneOf f T (i : Int)
theorem donesTo_succ (f : Fld) (T : List (List Int)) (k : Nat) : donesTo f T (k + 1) = donesTo f T k ++ [doneOf f T (k : Int)] := by
  unfold donesTo; rw [List.range_succ, List.map_append]; rfl
theorem fold_step {α β : Type} {T : List α} {j : Nat} {x : α} (g : β → α → β) (z : β) (h : T[j]? = some x) : (T.take (j + 1)).foldl g z = g ((T.take j).foldl g z) x := by
  obtain ⟨hlt, rfl⟩ := List.getElem?_eq_some_iff.1 h
  rw [List.take_succ_eq_append_getElem hlt, List.foldl_append]; rfl
theorem headD_some {T : List (List Int)} {x : List Int} (h : T[0]? = some x) : T.headD [] = x := by
  cases T with
  | nil => simp at h
  | cons a T => simpa using h
/-- What is said of some rows. -/
def keyOf (rows a : List Int) : List Int := rows.foldl (fun key r => key.set r.toNat (a.getD r.toNat 0)) (List.replicate 7 0)
theorem keyOf_len (rows a : List Int) : (keyOf rows a).length = 7 := by
  have : ∀ (l : List Int) (z : List Int), (l.foldl (fun key r => key.set r.toNat (a.getD r.toNat 0)) z).length = z.length := by
    intro l
    induction l with
    | nil => intro z; rfl
    | cons x l ih => intro z; simp only [List.foldl_cons]; rw [ih]; simp
  unfold keyOf; rw [this]; rfl
theorem keyOf_step (rows a : List Int) (k : Nat) (hk : k < rows.length) : keyOf (rows.take (k + 1)) a = (keyOf (rows.take k) a).set (rows.getD k 0).toNat (a.getD (rows.getD k 0).toNat 0) := by
  exact fold_step (fun (key : List Int) (r : Int) => key.set r.toNat (a.getD r.toNat 0)) _ (getD_some hk)
def settlesB (f : Fld) (T : List (List Int)) (who : Int) (rows : List Int) : Bool := T.all fun a => T.all fun b => (keyOf rows a != keyOf rows b) || (cntr f a who == cntr f b who)
theorem settles_iff {f : Fld} {T : List (List Int)} {who : Int} {rows : List Int} : settlesB f T who rows = true ↔ ∀ a ∈ T, ∀ b ∈ T, keyOf rows a = keyOf rows b → cntr f a who = cntr f b who := by
  unfold settlesB
  simp only [List.all_eq_true, Bool.or_eq_true, bne_iff_ne, ne_eq, beq_iff_eq]
  constructor
  · intro h a ha b hb e; rcases h a ha b hb with h1 | h1
    · exact absurd e h1
    · exact h1
  · intro h a ha b hb
    rcases Decidable.em (keyOf rows a = keyOf rows b) with e | e
    · exact .inr (h a ha b hb e)
    · exact .inl e
theorem mem_take_succ {T : List (List Int)} {j : Nat} {x a : List Int} (hx : T[j]? = some x) : a ∈ T.take (j + 1) ↔ a ∈ T.take j ∨ a = x := by
  obtain ⟨hlt, rfl⟩ := List.getElem?_eq_some_iff.1 hx
  rw [List.take_succ_eq_append_getElem hlt, List.mem_append, List.mem_singleton]
/-- The lists of so many more numbers, from one on, below another. -/
def cand (below : Int) : Nat → List Int → Int → List (List Int)
  | 0, l, _ => [l]
  | m + 1, l, fr => (List.range (below - (m + 1) - fr + 1).toNat).flatMap fun t : Nat => cand below m (l ++ [fr + t]) (fr + t + 1)
def candTo (below : Int) (m : Nat) (l : List Int) (fr : Int) (j : Nat) : List (List Int) := (List.range j).flatMap fun t : Nat => cand below m (l ++ [fr + t]) (fr + t + 1)
theorem candTo_succ (below : Int) (m : Nat) (l : List Int) (fr : Int) (j : Nat) : candTo below m l fr (j + 1) = candTo below m l fr j ++ cand below m (l ++ [fr + j]) (fr + j + 1) := by
  unfold candTo; rw [List.range_succ, List.flatMap_append]; simp
/-- What has been found behind some candidates: the first one that passes, or else the last one. -/
def fnd (p : List Int → Bool) : List Int → List (List Int) → List Int
  | cur, [] => cur
  | _, c :: cs => if p c = true then c else fnd p c cs
theorem fnd_one (p : List Int → Bool) (cur l : List Int) : fnd p cur [l] = l := by unfold fnd; split <;> rfl
theorem fnd_append (p : List Int → Bool) : ∀ (xs ys : List (List Int)) (cur : List Int), xs.any p = false → fnd p cur (xs ++ ys) = fnd p (fnd p cur xs) ys
  | [], ys, cur, _ => rfl
  | x :: xs, ys, cur, h => by
    have h1 : p x = false := by simp only [List.any_cons, Bool.or_eq_false_iff] at h; exact h.1
    have h2 : xs.any p = false := by simp only [List.any_cons, Bool.or_eq_false_iff] at h; exact h.2
    simp only [List.cons_append, fnd, h1]
    exact fnd_append p xs ys x h2
theorem fnd_stop (p : List Int → Bool) : ∀ (xs ys : List (List Int)) (cur : List Int), xs.any p = true → fnd p cur (xs ++ ys) = fnd p cur xs
  | [], ys, cur, h => by simp at h
  | x :: xs, ys, cur, h => by
    simp only [List.cons_append, fnd]
    cases hx : p x with
    | true => rfl
    | false =>
      have h2 : xs.any p = true := by simpa [hx] using h
      exact fnd_stop p xs ys x h2
theorem candTo_stop {p : List Int → Bool} {below : Int} {m : Nat} {l : List Int} {fr : Int} {j n : Nat} {cur : List Int} (hj : j < n) (h0 : (candTo below m l fr j).any p = false) (h1 : (cand below m (l ++ [fr + j]) (fr + j + 1)).any p = true) :
    (candTo below m l fr n).any p = true ∧ fnd p cur (candTo below m l fr n) = fnd p (fnd p cur (candTo below m l fr j)) (cand below m (l ++ [fr + j]) (fr + j + 1)) := by
  obtain ⟨k, rfl⟩ : ∃ k, n = (j + 1) + k := ⟨n - (j + 1), by omega⟩
  have key : ∀ k, ∃ ys, candTo below m l fr ((j + 1) + k) = candTo below m l fr (j + 1) ++ ys := by
    intro k
    induction k with
    | zero => exact ⟨[], by simp⟩
    | succ k ih =>
      obtain ⟨ys, hy⟩ := ih
      exact ⟨ys ++ cand below m (l ++ [fr + ((j + 1 + k : Nat) : Int)]) (fr + ((j + 1 + k : Nat) : Int) + 1), by rw [← Nat.add_assoc, candTo_succ, hy, List.append_assoc]⟩
  obtain ⟨ys, hy⟩ := key k
  have ha : (candTo below m l fr (j + 1)).any p = true := by rw [candTo_succ, List.any_append, h1, Bool.or_true]
  refine ⟨by rw [hy, List.any_append, ha, Bool.true_or], ?_⟩
  rw [hy, fnd_stop p _ _ _ ha, candTo_succ, fnd_append p _ _ _ h0]
theorem good1 {l : List Int} {i below : Int} (h : ∀ x ∈ l, 0 ≤ x ∧ x < below) (hi : 0 ≤ i ∧ i < below) : ∀ x ∈ l ++ [i], 0 ≤ x ∧ x < below := by
  intro x hx
  rcases List.mem_append.1 hx with hx | hx
  · exact h x hx
  · rw [List.mem_singleton.1 hx]; exact hi
def candAll (below : Int) (j : Nat) : List (List Int) := (List.range j).flatMap fun m => cand below m [] 0
theorem candAll_succ (below : Int) (j : Nat) : candAll below (j + 1) = candAll below j ++ cand below j [] 0 := by
  unfold candAll; rw [List.range_succ, List.flatMap_append]; simp
theorem candAll_stop {p : List Int → Bool} {below : Int} {j n : Nat} {cur : List Int} (hj : j < n) (h0 : (candAll below j).any p = false) (h1 : (cand below j [] 0).any p = true) :
    fnd p cur (candAll below n) = fnd p (fnd p cur (candAll below j)) (cand below j [] 0) := by
  obtain ⟨k, rfl⟩ : ∃ k, n = (j + 1) + k := ⟨n - (j + 1), by omega⟩
  have key : ∀ k, ∃ ys, candAll below ((j + 1) + k) = candAll below (j + 1) ++ ys := by
    intro k
    induction k with
    | zero => exact ⟨[], by simp⟩
    | succ k ih =>
      obtain ⟨ys, hy⟩ := ih
      exact ⟨ys ++ cand below (j + 1 + k) [] 0, by rw [← Nat.add_assoc, candAll_succ, hy, List.append_assoc]⟩
  obtain ⟨ys, hy⟩ := key k
  have ha : (candAll below (j + 1)).any p = true := by rw [candAll_succ, List.any_append, h1, Bool.or_true]
  rw [hy, fnd_stop p _ _ _ ha, candAll_succ, fnd_append p _ _ _ h0]
/-- The shortest list of numbers below another one that passes, the first one of several. -/
def shortestL (below : Int) (p : List Int → Bool) : List Int := fnd p [] (candAll below (below + 1).toNat)
def okRow (f : Fld) (rows : List Int) (i : Nat) : Bool := inR (rows.getD i 0) 0 (f.rows - 1) && (decide (i = 0) || decide (rows.getD (i - 1) 0 < rows.getD i 0))
def incB (f : Fld) (rows : List Int) : Bool := (List.range rows.length).all (okRow f rows)
theorem incB_iff {f : Fld} {rows : List Int} : incB f rows = true ↔ ∀ i, i < rows.length → okRow f rows i = true := by
  simp [incB, List.all_eq_true]
theorem incB_rows {f : Fld} {rows : List Int} (h : incB f rows = true) : ∀ x ∈ rows, 0 ≤ x ∧ x ≤ f.rows - 1 := by
  intro x hx
  obtain ⟨i, hi, rfl⟩ := List.mem_iff_getElem.1 hx
  have := incB_iff.1 h i hi
  unfold okRow at this
  rw [Bool.and_eq_true] at this
  have h1 := inR_iff.1 this.1
  have e : rows.getD i 0 = rows[i] := by simp [List.getElem?_eq_getElem hi]
  rw [e] at h1; exact h1
def okWho (f : Fld) (n : Int) : Bool := (n == -1) || inR n 0 (f.wd - 1)
theorem okWho_t {f : Fld} {n : Int} (h : (n == -1) = true) : okWho f n = true := by unfold okWho; rw [h]; rfl
theorem okWho_f {f : Fld} {n : Int} (h : (n == -1) = false) : okWho f n = inR n 0 (f.wd - 1) := by unfold okWho; rw [h]; rfl
/-- Somebody did as many rows as in the first of some lists of answers. -/
def sameD (f : Fld) (n : Int) (l : List (List Int)) (a : List Int) : Bool := cntr f a n == cntr f (l.headD []) n
theorem check_ok {f : Fld} (h : check f = 0) : (1 ≤ f.rows ∧ f.rows ≤ 7) ∧ (1 ≤ f.wd ∧ f.wd ≤ 3) ∧ f.ts.length ≤ 5 ∧ (∀ t ∈ f.ts, talOk f t = true) ∧ rngOk f f.lo f.hi = true ∧ many f ≤ 2500 := by
  unfold check at h
  split at h
  · omega
  · rename_i hb
    split at h
    · omega
    · rename_i hd
      split at h
      · omega
      · rename_i hm
        simp only [big, Bool.or_eq_true, decide_eq_true_eq, not_or] at hb
        simp only [bad, Bool.or_eq_true, decide_eq_true_eq, Bool.not_eq_true', not_or, Bool.not_eq_false, List.all_eq_true] at hd
        exact ⟨⟨by omega, by omega⟩, ⟨by omega, by omega⟩, by omega, hd.2.2.2, hd.2.2.1, by omega⟩
end Go.Proofs.Ythogdgkafaclaaa
end
section
namespace Go.Proofs.Ythogdgkafaclaaa
open Go.RowKit
/-- Of the blocks below lim only l, q and x may have turned. -/
structure Cg (l q x lim : Nat) (w w' : World) : Prop where
  lo : lim ≤ w.heap.size
  os : w'.os = w.os
  tape : w'.tape = w.tape
  output : w'.output = w.output
  size : w.heap.size ≤ w'.heap.size
  block : ∀ k, k < lim → k ≠ l → k ≠ q → k ≠ x → w'.heap[k]? = w.heap[k]?
section
variable {l q x lim : Nat} {w w' w'' : World}
theorem Cg.refl (h : lim ≤ w.heap.size) : Cg l q x lim w w := ⟨h, rfl, rfl, rfl, Nat.le_refl _, fun _ _ _ _ _ => rfl⟩
theorem Cg.trans (h : Cg l q x lim w w') (g : Cg l q x lim w' w'') : Cg l q x lim w w'' :=
  ⟨h.lo, g.os.trans h.os, g.tape.trans h.tape, g.output.trans h.output, Nat.le_trans h.size g.size, fun k hk h1 h2 h3 => (g.block k hk h1 h2 h3).trans (h.block k hk h1 h2 h3)⟩
theorem Cg.of_grown {r : Option Nat} (hl : lim ≤ w.heap.size) (g : w.grownBy w' r) (hr : ∀ k, r = some k → lim ≤ k ∨ k = l ∨ k = q ∨ k = x) : Cg l q x lim w w' :=
  ⟨hl, g.os, g.tape, g.output, g.size, fun k hk h1 h2 h3 => g.block k (Nat.lt_of_lt_of_le hk hl) fun e => by
    rcases hr k e.symm with h | h | h | h
    · omega
    · exact h1 h
    · exact h2 h
    · exact h3 h⟩
theorem Cg.ext (h : Cg l q x lim w w') (g : Ext w' w'') : Cg l q x lim w w'' := h.trans (.of_grown (Nat.le_trans h.lo h.size) g (fun _ e => by cases e))
theorem Cg.upd {r : Nat} (h : Cg l q x lim w w') (g : Upd r w' w'') (hr : lim ≤ r ∨ r = l ∨ r = q ∨ r = x) : Cg l q x lim w w'' := h.trans (.of_grown (Nat.le_trans h.lo h.size) g (fun _ e => by cases e; exact hr))
theorem Cg.wide {x' lim' : Nat} (h : Cg l q l lim w w') (hl : lim' ≤ lim) : Cg l q x' lim' w w' :=
  ⟨Nat.le_trans hl h.lo, h.os, h.tape, h.output, h.size, fun k hk h1 h2 _ => h.block k (by omega) h1 h2 h1⟩
/-- Block x lies behind. -/
theorem Cg.behind {lim' : Nat} (h : Cg l q x lim w w') (hl : lim' ≤ lim) (hx : lim' ≤ x) : Cg l q l lim' w w' :=
  ⟨Nat.le_trans hl h.lo, h.os, h.tape, h.output, h.size, fun k hk h1 h2 _ => h.block k (by omega) h1 h2 (by omega)⟩
theorem Cg.le (h : Cg l q x lim w w') : lim ≤ w'.heap.size := Nat.le_trans h.lo h.size
theorem Bk.cg {b : Nat} {t : TypeId} {cs : Array Value} (h : Bk w b t cs) (g : Cg l q x lim w w') (h0 : b < lim ∧ b ≠ l ∧ b ≠ q ∧ b ≠ x) : Bk w' b t cs := (g.block b h0.1 h0.2.1 h0.2.2.1 h0.2.2.2).trans h
theorem Rd.cg {lo hi : Nat} {A : Option Addr} {cs : List Value} (h : Rd w lo hi A cs) (g : Cg l q x lim w w') (h0 : hi ≤ lim ∧ (l < lo ∨ hi ≤ l) ∧ (q < lo ∨ hi ≤ q) ∧ (x < lo ∨ hi ≤ x)) : Rd w' lo hi A cs :=
  ⟨Nat.le_trans h.1 g.size, h.2.imp id fun ⟨b, o, hA, hl, hh, hc⟩ => ⟨b, o, hA, hl, hh, fun j u hu =>
    (World.cell?_of_block (a := ⟨b, o + j, none⟩) (g.block b (by omega) (by omega) (by omega) (by omega))).trans (hc j u hu)⟩⟩
end
/-- J speaks of no block from lo to hi, and of old ones alone. -/
structure Abid (lo hi : Nat) {α : Type} (J : α → World → Prop) : Prop where
  ext : ∀ {s : α} {w w' : World}, J s w → Ext w w' → J s w'
  upd : ∀ {s : α} {w w' : World} {r : Nat}, J s w → Upd r w w' → lo ≤ r ∧ r < hi → J s w'
theorem Abid.weak {lo hi lo' hi' : Nat} {α : Type} {J : α → World → Prop} (h : Abid lo hi J) (h1 : lo ≤ lo') (h2 : hi' ≤ hi) : Abid lo' hi' J := ⟨h.ext, fun hj hu hr => h.upd hj hu ⟨by omega, by omega⟩⟩
theorem repl_drop {n : Nat} (h : n ≤ 7) : (List.replicate 7 (0 : Int)).drop n = List.replicate (7 - n) 0 := List.drop_replicate ..
/-- What calls of yield do. -/
def YOk (P : Program) (l q lim : Nat) (T : List (List Int)) (J Jx : List (List Int) → World → Prop) : Prop :=
  ∀ xs x w, J xs w → xs ++ [x] <+: T → lim ≤ w.heap.size → YieldAt Fence.wide 0 P l #[ansV x] w (fun e w' => ∃ v, e = .returned v ∧ ∃ bb : Bool, v = .bool bb ∧ Cg l q l lim w w' ∧
    (bb = true → J (xs ++ [x]) w') ∧ (bb = false → Jx (xs ++ [x]) w'))
section
variable {P : Program} {a : Act} {w : World} {dst : Option Tmp} {ty : TypeId} {pos : String} {aft : Array Edge} {g : Option (Nat × Bool)}
theorem x_yield {f : Operand} {xs : Array Operand} {ts : Array TypeId} {l : Nat} {vs : Array Value} {R : Value → World → Prop} (hf : a.eval f = .func (.yield l) #[] #[]) (hv : xs.map a.eval = vs)
    (h : YieldAt Fence.wide 0 P l vs w (fun e w' => ∃ v, e = .returned v ∧ R v w')) : Ex1 P ⟨dst, .call { callee := .value f, args := xs, argTypes := ts }, ty, pos, aft, g⟩ a w R := by
  obtain ⟨fn, tmps, assign, body, hy, hR⟩ := h
  have hr : (execOp a.eval ⟨dst, .call { callee := .value f, args := xs, argTypes := ts }, ty, pos, aft, g⟩).run P w = .ok (.round l fn tmps assign body) w := by
    simp only [execOp, resolve, hf, hv, Deferred.ofValue]
    simp only [Sem.run_bind, Sem.run_pure, Result.andThen_ok, invoke]
    simpa using hy
  unfold Ex1
  rw [hr]
  exact hR
/-- One cell of a block of ints. -/
theorem x_store_int {t t' : TypeId} {x y : Operand} {b k : Nat} {v : Int} {l : List Int} (hx : a.eval x = .pointer (some ⟨b, k, none⟩)) (hy : a.eval y = .int .i64 v) (hs : (P.info? t).map (·.size) = some 1) (hb : Bk w b t' (ivs l).toArray) (hk : k < l.length) :
    Ex1 P ⟨dst, .store t x y, ty, pos, aft, g⟩ a w (fun _ w' => SetB w w' b t' (ivs (l.set k v)).toArray) :=
  x_store (n := 1) (l := [.int .i64 v]) hx hy hs hb rfl rfl (by simp [ivs]; omega) (one_cells rfl) (by simp [setCells, ivs])
end
def whos (wd : Int) : List Int := (List.range (wd + 1).toNat).map fun i : Nat => (i : Int) - 1
def pad (l : List Int) : List Int := l ++ List.replicate (7 - l.length) 0
def enum (p : List Int → Bool) (wd : Int) : Nat → List Int → List (List Int)
  | 0, pre => if p (pad pre) then [pad pre] else []
  | k + 1, pre => (whos wd).flatMap fun x => enum p wd k (pre ++ [x])
/-- What comes of the first j of them. -/
def upto (p : List Int → Bool) (wd : Int) (k : Nat) (pre : List Int) (j : Nat) : List (List Int) := ((whos wd).take j).flatMap fun x => enum p wd k (pre ++ [x])
theorem whos_len (wd : Int) : (whos wd).length = (wd + 1).toNat := by simp [whos]
theorem upto_zero (p : List Int → Bool) (wd : Int) (k : Nat) (pre : List Int) : upto p wd k pre 0 = [] := by simp [upto]
theorem upto_step (p : List Int → Bool) (wd : Int) (k : Nat) (pre : List Int) (j : Nat) (hj : j < (wd + 1).toNat) : upto p wd k pre (j + 1) = upto p wd k pre j ++ enum p wd k (pre ++ [(j : Int) - 1]) := by
  have hl : j < (whos wd).length := by rw [whos_len]; exact hj
  have he : (whos wd)[j] = (j : Int) - 1 := by simp [whos]
  unfold upto
  rw [List.take_succ_eq_append_getElem hl, List.flatMap_append, he]
  simp
theorem upto_all (p : List Int → Bool) (wd : Int) (k : Nat) (pre : List Int) (j : Nat) (hj : (wd + 1).toNat ≤ j) : upto p wd k pre j = enum p wd (k + 1) pre := by
  unfold upto
  rw [List.take_of_length_le (by rw [whos_len]; exact hj)]
  rfl
theorem upto_prefix (p : List Int → Bool) (wd : Int) (k : Nat) (pre : List Int) (j : Nat) : upto p wd k pre j <+: enum p wd (k + 1) pre := by
  refine ⟨((whos wd).drop j).flatMap fun x => enum p wd k (pre ++ [x]), ?_⟩
  unfold upto
  rw [← List.flatMap_append, List.take_append_drop]
  rfl
/-- The next call's part of the whole. -/
theorem pre_step {p : List Int → Bool} {wd : Int} {k : Nat} {pre : List Int} {xs T : List (List Int)} (h : xs ++ enum p wd (k + 1) pre <+: T) {j : Nat} (hj : j < (wd + 1).toNat) :
    (xs ++ upto p wd k pre j) ++ enum p wd k (pre ++ [(j : Int) - 1]) <+: T := by
  rw [List.append_assoc, ← upto_step p wd k pre j hj]
  exact List.IsPrefix.trans ((List.prefix_append_right_inj xs).2 (upto_prefix p wd k pre (j + 1))) h
theorem set_take {l ls : List Int} {r : Nat} {x : Int} (h : ls.take r = l.take r) (hr : r < ls.length) : (ls.set r x).take (r + 1) = l.take r ++ [x] := by
  rw [List.take_succ_eq_append_getElem (by simpa using hr), List.take_set_of_le (Nat.le_refl _), h]
  simp
theorem pad_len {l : List Int} (h : l.length ≤ 7) : (pad l).length = 7 := by simp [pad]; omega
theorem pad_take {l : List Int} {n : Nat} (hl : l.length = 7) (hn : n ≤ 7) (hd : l.drop n = List.replicate (7 - n) 0) : pad (l.take n) = l := by
  unfold pad
  have : (l.take n).length = n := by simp; omega
  rw [this, ← hd, List.take_append_drop]
theorem take_of_succ {l ls : List Int} {n : Nat} {x : Int} (h : l.take (n + 1) = ls.take n ++ [x]) (hn : n ≤ ls.length) : l.take n = ls.take n := by
  have h2 := congrArg (List.take n) h
  rw [List.take_take, Nat.min_eq_left (Nat.le_succ n), List.take_append_of_le_length (by simp; omega), List.take_take, Nat.min_self] at h2
  exact h2
/-- A list of answers is right. -/
abbrev pr (f : Fld) (out : List Int) : List Int → Bool := fun z => rightB f z out
/-- All truths without some tallies, in their order. -/
def truths (f : Fld) (out : List Int) : List (List Int) := enum (pr f out) f.wd f.rows.toNat []
theorem enum_len (p : List Int → Bool) (wd : Int) : ∀ (k : Nat) (pre : List Int), pre.length + k ≤ 7 → ∀ x ∈ enum p wd k pre, x.length = 7
  | 0, pre, h, x, hx => by
    simp only [enum] at hx
    split at hx
    · have : x = pad pre := by simpa using hx
      subst this
      simp only [pad, List.length_append, List.length_replicate]; omega
    · cases hx
  | k + 1, pre, h, x, hx => by
    simp only [enum, List.mem_flatMap] at hx
    obtain ⟨y, _, hy⟩ := hx
    exact enum_len p wd k (pre ++ [y]) (by simp; omega) x hy
theorem enum_count (p : List Int → Bool) (wd : Int) (h : wd ≤ 3) : ∀ (k : Nat) (pre : List Int), (enum p wd k pre).length ≤ 4 ^ k
  | 0, pre => by simp only [enum]; split <;> simp
  | k + 1, pre => by
    have key : ∀ l : List Int, (l.flatMap fun x => enum p wd k (pre ++ [x])).length ≤ l.length * 4 ^ k := by
      intro l
      induction l with
      | nil => simp
      | cons a l ih =>
        have := enum_count p wd h k (pre ++ [a])
        simp only [List.flatMap_cons, List.length_append, List.length_cons, Nat.add_mul, Nat.one_mul]
        omega
    have h1 := key (whos wd)
    rw [whos_len] at h1
    refine Nat.le_trans h1 ?_
    rw [Nat.pow_succ, Nat.mul_comm]
    exact Nat.mul_le_mul_left _ (by omega)
theorem getD_app {l r : List Int} {i : Nat} (h : i < l.length) : (l ++ r).getD i 0 = l.getD i 0 := by simp only [List.getD_eq_getElem?_getD, List.getElem?_append_left h]
theorem enum_bd (p : List Int → Bool) (wd : Int) (hw : 0 ≤ wd) : ∀ (k : Nat) (pre : List Int), (∀ i, i < pre.length → -1 ≤ pre.getD i 0 ∧ pre.getD i 0 ≤ wd - 1) → ∀ x ∈ enum p wd k pre, ∀ i, i < pre.length + k → -1 ≤ x.getD i 0 ∧ x.getD i 0 ≤ wd - 1
  | 0, pre, h, x, hx, i, hi => by
    simp only [enum] at hx
    split at hx
    · have : x = pad pre := by simpa using hx
      subst this
      have := h i (by omega)
      rw [show (pad pre).getD i 0 = pre.getD i 0 by unfold pad; exact getD_app (by omega)]
      exact this
    · cases hx
  | k + 1, pre, h, x, hx, i, hi => by
    simp only [enum, List.mem_flatMap] at hx
    obtain ⟨y, hy, hx⟩ := hx
    have hyb : -1 ≤ y ∧ y ≤ wd - 1 := by
      simp only [whos, List.mem_map, List.mem_range] at hy
      obtain ⟨j, hj, rfl⟩ := hy
      omega
    refine enum_bd p wd hw k (pre ++ [y]) (fun j hj => ?_) x hx i (by simp; omega)
    by_cases hjl : j < pre.length
    · rw [getD_app hjl]; exact h j hjl
    · have : j = pre.length := by simp at hj; omega
      subst this
      simpa using hyb
theorem truths_bd {f : Fld} {out : List Int} (h : 0 ≤ f.wd) : ∀ x ∈ truths f out, ∀ i, i < f.rows.toNat → -1 ≤ x.getD i 0 ∧ x.getD i 0 ≤ f.wd - 1 := fun x hx i hi =>
  enum_bd _ _ h _ [] (fun i hi => absurd hi (by simp)) x hx i (by simpa using hi)
theorem truths_len {f : Fld} {out : List Int} (h : f.rows ≤ 7) : ∀ x ∈ truths f out, x.length = 7 := enum_len _ _ _ _ (by simp; omega)
theorem truths_count {f : Fld} {out : List Int} (h : f.rows ≤ 7) (hw : f.wd ≤ 3) : (truths f out).length ≤ 16384 := by
  refine Nat.le_trans (enum_count _ _ hw _ _) ?_
  have : 4 ^ f.rows.toNat ≤ 4 ^ 7 := Nat.pow_le_pow_right (by omega) (by omega)
  exact this
theorem prefix_len {xs T : List (List Int)} {x : List Int} (h : xs ++ [x] <+: T) : xs.length + 1 ≤ T.length := by
  have := h.length_le; simpa using this
theorem prefix_mem {xs T : List (List Int)} {x : List Int} (h : xs ++ [x] <+: T) : x ∈ T := by
  obtain ⟨t, rfl⟩ := h; simp
theorem enum_no {f : Fld} {out ls : List Int} {n : Nat} (hl : ls.length = 7) (hn : n ≤ 7) (hd : ls.drop n = List.replicate (7 - n) 0) (h : rightB f ls out = false) : enum (pr f out) f.wd 0 (ls.take n) = [] := by
  simp only [enum, pad_take hl hn hd]; rw [if_neg (by simp [h])]
theorem enum_yes {f : Fld} {out ls : List Int} {n : Nat} (hl : ls.length = 7) (hn : n ≤ 7) (hd : ls.drop n = List.replicate (7 - n) 0) (h : rightB f ls out = true) : enum (pr f out) f.wd 0 (ls.take n) = [ls] := by
  simp only [enum, pad_take hl hn hd]; rw [if_pos h]
/-- There is no truth with the tallies up to the i-th. -/
def upF (f : Fld) (k : Nat) : Fld := { f with ts := f.ts.take k }
def firstP (f : Fld) (i : Nat) : Bool := !decide (truths (upF f (i + 1)) [] ≠ [])
def firstF (f : Fld) : Option Nat := (List.range f.ts.length).find? (firstP f)
theorem find_range {p : Nat → Bool} {n j : Nat} (h : ∀ i, i < j → p i = false) (hj : j < n) (hp : p j = true) : (List.range n).find? p = some j := by
  rw [List.find?_eq_some_iff_append]
  refine ⟨hp, List.range j, (List.range' (j + 1) (n - (j + 1))), ?_, fun a ha => ?_⟩
  · rw [List.range_eq_range', List.range_eq_range']
    have : n = j + (1 + (n - (j + 1))) := by omega
    conv => lhs; rw [this]
    rw [← List.range'_append_1, ← List.range'_append_1]
    simp
  · rw [h a (by simpa using ha)]; rfl
theorem find_none {p : Nat → Bool} {n : Nat} (h : ∀ i, i < n → p i = false) : (List.range n).find? p = none := by
  rw [List.find?_eq_none]
  intro a ha
  rw [h a (by simpa using ha)]; simp
theorem all_step {p : Nat → Bool} {j : Nat} (h : ∀ i, i < j → p i = false) (hj : p j = false) : ∀ i, i < j + 1 → p i = false := by
  intro i hi
  rcases Nat.lt_or_ge i j with h1 | h1
  · exact h i h1
  · obtain rfl : i = j := by omega
    exact hj
end Go.Proofs.Ythogdgkafaclaaa
end
section
namespace Go.Proofs.Ythogdgkafaclaaa
open Go.RowKit
theorem app2 (x y z : Value) : #[x] ++ #[y, z] = #[x, y, z] := rfl
theorem hp_ext {w w' : World} {k : Nat} {o : Obj} (h : w.heap[k]? = some o) (g : Ext w w') : w'.heap[k]? = some o := (g.block k (Array.getElem?_eq_some_iff.1 h).1 (by simp)).trans h
theorem hp_upd {w w' : World} {k r : Nat} {o : Obj} (h : w.heap[k]? = some o) (g : Upd r w w') (hne : k ≠ r) : w'.heap[k]? = some o := (g.block k (Array.getElem?_eq_some_iff.1 h).1 (by simpa using hne)).trans h
theorem below_cg {l q x lim B : Nat} {w0 w w' : World} (h : Below B w0 w) (g : Cg l q x lim w w') (hb : B ≤ lim ∧ B ≤ l ∧ B ≤ q ∧ B ≤ x) : Below B w0 w' :=
  ⟨g.os.trans h.os, g.tape.trans h.tape, g.output.trans h.output, Nat.le_trans h.size g.size, fun k hk => (g.block k (by omega) (by omega) (by omega) (by omega)).trans (h.block k hk)⟩
def mark (D : Nat) : List Deferred := [{ target := .collected D, args := #[] }]
abbrev X1 (D : Nat) : Ctx := ⟨none, mark D⟩
abbrev XR (r : Nat) : Ctx := ⟨some r, []⟩
def wdef (a : Act) (D : Nat) : Act := { a with defers := mark D }
theorem puts_wdef (a : Act) (D : Nat) : ∀ l : Env, puts (wdef a D) l = wdef (puts a l) D
  | [] => rfl
  | (d, v) :: l => by simp only [puts, puts_wdef a D l]; rfl
theorem St.wdef {N : Nat} {a : Act} {l : Env} (s : St X0 N a l) (D : Nat) : St (X1 D) N (wdef a D) l := ⟨s.sz, rfl, s.lt⟩
theorem St.inr {N : Nat} {a : Act} {l : Env} (s : St X0 N a l) (r : Nat) : St (XR r) N a l := ⟨s.sz, s.df, s.lt⟩
theorem upd_putObj (w : World) (r : Nat) (o : Obj) : Upd r w (w.putObj r o) :=
  ⟨rfl, rfl, rfl, by simp, fun k _ hk => World.putObj_heap_other (fun e => hk (by rw [e]))⟩
section
variable {P : Program} {N : Nat} {Q : Exit → Act → World → Prop} {a : Act} {l : Env} {w : World}
def mkLoop (a : Act) (l : Env) (fn : FuncId) (p : Nat) (assign body : Code) (D : Nat) : Loop :=
  { state := .ready, pending := none, fn, tmps := (puts a l).tmps, params := #[p], assign, body, defers := D }
structure IsLp (lp : Loop) (a : Act) (l : Env) (p : Nat) (assign body : Code) : Prop where
  st : lp.state = .ready
  pe : lp.pending = none
  tm : lp.tmps = (puts a l).tmps
  ps : lp.params = #[p]
  as_ : lp.assign = assign
  bo : lp.body = body
theorem cc_range {g : Operand} {p : Nat} {assign body : Code} {gf : FuncId} {cap : Array Value} (ho : Own P gf) (hg : ev a l g = .func (.func gf) #[] cap)
    (h : St X0 N a l → ∀ (lp : Loop) (w1 : World), IsLp lp a l p assign body → Ext w w1 → w1.heap.size = w.heap.size + 2 → w1.heap[w.heap.size]? = some (.deferred (some [])) → w1.heap[w.heap.size + 1]? = some (.loop lp) →
      Ret P gf (#[.func (.yield (w.heap.size + 1)) #[] #[]] ++ cap) w1 (fun _ w3 => ∃ r, w3.heap[w.heap.size + 1]? = some (.loop r) ∧ r.state ≠ .busy ∧
        (r.pending = none → ∀ w4, Upd (w.heap.size + 1) w3 w4 → LV (X1 w.heap.size) N Q .normal (wdef a w.heap.size) l w4) ∧
        (∀ c, r.pending = some c → ∀ w4, Upd (w.heap.size + 1) w3 w4 → CC P (X1 w.heap.size) N c Q (wdef a w.heap.size) l w4))) :
    CC P X0 N (.rangeFunc g #[p] assign body) Q a l w := fun s => by
  refine wpIn_rangeFunc (F := Fence.wide) fun fn _ => ?_
  have hev : (puts a l).eval g = .func (.func gf) #[] cap := ee s hg
  let w1 := (w.alloc (.deferred (some []))).alloc (.loop (mkLoop a l fn p assign body w.heap.size))
  have hE : Ext w w1 := Ext.trans (World.grownBy_alloc w _ _) (World.grownBy_alloc _ _ _)
  have hs1 : w1.heap.size = w.heap.size + 2 := by simp [w1]
  have hD : w1.heap[w.heap.size]? = some (.deferred (some [])) := by
    have h2 : (w.alloc (.deferred (some []))).heap[w.heap.size]? = some (.deferred (some [])) := World.alloc_heap_new w _
    exact (Below.heap_alloc _ _ _ (by simp)).trans h2
  have hl1 : w1.heap[w.heap.size + 1]? = some (.loop (mkLoop a l fn p assign body w.heap.size)) := by
    have := World.alloc_heap_new (w.alloc (.deferred (some []))) (.loop (mkLoop a l fn p assign body w.heap.size))
    simpa [w1] using this
  have hret := h s (mkLoop a l fn p assign body w.heap.size) w1 ⟨rfl, rfl, rfl, rfl, rfl, rfl⟩ hE hs1 hD hl1
  refine ⟨w.heap.size + 1, mark w.heap.size, w1, ⟨.fn (.func gf) cap, #[] ++ #[.func (.yield (w.heap.size + 1)) #[] #[]]⟩, w1, gf, #[.func (.yield (w.heap.size + 1)) #[] #[]] ++ cap, w1, run_enterLoop_outer fn _ _ _ _, ?_, fun _ _ => trivial, ?_, wd_n none, ?_⟩
  · have e2 : (#[Operand.const (.func (.yield (w.heap.size + 1)) #[] #[])]).map (puts a l).eval = #[.func (.yield (w.heap.size + 1)) #[] #[]] := am1 rfl
    simp only [resolve, hev, Deferred.ofValue, e2]
    simp only [Sem.run_bind, Sem.run_pure, Result.andThen_ok]
  · simp [invoke, run_callFunc ho]
  · have hc : CallsIn Fence.wide (0 - 1) P gf (#[.func (.yield (w.heap.size + 1)) #[] #[]] ++ cap) w1 _ := callsIn_wide.2 hret
    refine hc.mono ?_
    rintro e w3 ⟨v, rfl, r, hr, hb, hn, hs⟩
    refine ⟨r.pending, _, run_endLoop hr hb, ?_⟩
    have hd0 : mark w.heap.size ++ (puts a l).defers = mark w.heap.size := by rw [puts_defers, s.df]; rfl
    have he : ({ puts a l with defers := mark w.heap.size ++ (puts a l).defers } : Act) = puts (wdef a w.heap.size) l := by rw [puts_wdef, hd0]; rfl
    cases hp : r.pending with
    | none => simp only []; rw [he]; exact hn hp _ (upd_putObj _ _ _) (s.wdef _)
    | some c => simp only []; rw [he]; exact hs c hp _ (upd_putObj _ _ _) (s.wdef _)
/-- A round, out of the walks of the assignment and of the body. -/
theorem yield_at {r : Nat} {lp : Loop} {p : Nat} {assign body : Code} {v : Value} {R : Value → World → Prop} (s : St X0 N a l) (hr : w.heap[r]? = some (.loop lp)) (hp : IsLp lp a l p assign body)
    (h : CC P (XR r) N assign (Exit.then (fun a₁ w₁ => ∃ w₂, (Instr.beginRound r).run P w₁ = .ok () w₂ ∧ CW P (XR r).ro body (roundPost P r (fun e w' => ∃ v, e = .returned v ∧ R v w')) a₁ w₂) (fun _ _ _ => False)) a ((p, v) :: l) w) (hpN : p < N) :
    YieldAt Fence.wide 0 P r #[v] w (fun e w' => ∃ v, e = .returned v ∧ R v w') := by
  refine ⟨_, _, _, _, run_yield hr (by rw [hp.ps]; rfl), ?_⟩
  have e1 : ((lp.params.zip #[v]).foldl (fun tmps (t, a) => tmps.setIfInBounds t a) lp.tmps) = (puts a ((p, v) :: l)).tmps := by
    rw [hp.ps, hp.tm]; simp [puts, Act.put]
  rw [e1, hp.as_, hp.bo]
  refine roundIn_of_wpIn trivial ?_
  have h2 := h ((s.inr r).cons hpN v)
  have e2 : ({ tmps := (puts a ((p, v) :: l)).tmps, defers := [] } : Act) = puts a ((p, v) :: l) := by
    have : (puts a ((p, v) :: l)).defers = [] := by rw [puts_defers]; exact s.df
    rw [← this]
  rw [e2]
  exact h2
theorem lv_begin {r : Nat} {lp : Loop} {body : Code} {R : Ending → World → Prop} (hr : w.heap[r]? = some (.loop lp)) (hs : lp.state = .ready)
    (h : ∀ w', Upd r w w' → w'.heap[r]? = some (.loop { lp with state := .busy }) → CC P (XR r) N body (roundPost P r R) a l w') :
    LV (XR r) N (Exit.then (fun a₁ w₁ => ∃ w₂, (Instr.beginRound r).run P w₁ = .ok () w₂ ∧ CW P (XR r).ro body (roundPost P r R) a₁ w₂) (fun _ _ _ => False)) .normal a l w := fun s =>
  ⟨_, run_beginRound hr hs, h _ (upd_putObj _ _ _) (World.putObj_heap_same (Array.getElem?_eq_some_iff.1 hr).1) s⟩
theorem lv_rend {r : Nat} {lp : Loop} {R : Value → World → Prop} (hr : w.heap[r]? = some (.loop lp)) (h : ∀ w', Upd r w w' → w'.heap[r]? = some (.loop { lp with state := .ready, pending := none }) → R (.bool true) w') :
    LV (XR r) N (roundPost P r (fun e w' => ∃ v, e = .returned v ∧ R v w')) .normal a l w := fun _ => ⟨_, _, run_endRound none hr, _, rfl, h _ (upd_putObj _ _ _) (World.putObj_heap_same (Array.getElem?_eq_some_iff.1 hr).1)⟩
theorem lv_rend_ret {r : Nat} {lp : Loop} {R : Value → World → Prop} (hr : w.heap[r]? = some (.loop lp)) (h : ∀ w', Upd r w w' → w'.heap[r]? = some (.loop { lp with state := .done, pending := some .ret }) → R (.bool false) w') :
    LV (XR r) N (roundPost P r (fun e w' => ∃ v, e = .returned v ∧ R v w')) .ret a l w := fun _ => ⟨_, _, run_endRound (some .ret) hr, _, rfl, h _ (upd_putObj _ _ _) (World.putObj_heap_same (Array.getElem?_eq_some_iff.1 hr).1)⟩
/-- What the body of a function that holds such a statement must achieve. -/
def PM (P : Program) (fn : Func) (R : Value → World → Prop) : Exit → Act → World → Prop := bodyPostM Fence.wide 0 P fn (fun e w' => ∃ v, e = .returned v ∧ R v w')
theorem ret_of_ccm {f : FuncId} {fn : Func} {c : Code} {args : Array Value} {N : Nat} {R : Value → World → Prop} (hf : P.funcs[f]? = some fn) (hb : fn.body = some c) (hN : fn.ntmps = N) (ha : args.size ≤ N)
    (h : ∀ a : Act, a.tmps = args ++ Array.replicate (N - args.size) undef → a.defers = [] → CC P X0 N c (PM P fn R) a [] w) : Ret P f args w R := by
  refine callsIn_wide.1 (callsIn_of_wp_marks (n := 0) hf hb trivial ?_)
  rw [hN]
  exact h { tmps := args ++ Array.replicate (N - args.size) undef, defers := [] } rfl rfl ⟨by simp; omega, rfl, fun _ hp => by cases hp⟩
/-- Nothing has been deferred. -/
theorem lv_pm {fn : Func} {R : Value → World → Prop} (h : LV X0 N (bodyPost P fn (fun e w' => ∃ v, e = .returned v ∧ R v w')) .ret a l w) : LV X0 N (PM P fn R) .ret a l w := fun s => by
  obtain ⟨hd, v, hr, hR⟩ := h s
  show LeavesInM Fence.wide 0 P fn _ _ (puts a l).defers .returning w
  rw [hd]
  exact ⟨v, hr, hR⟩
/-- Behind the statement: the mark is come to, then the results are read. -/
theorem lv_pm1 {D : Nat} {fn : Func} {R : Value → World → Prop} (hD : w.heap[D]? = some (.deferred (some []))) (h : ∀ w', Upd D w w' → LV X0 N (bodyPost P fn (fun e w' => ∃ v, e = .returned v ∧ R v w')) .ret a l w') (hd : a.defers = []) :
    LV (X1 D) N (PM P fn R) .ret (wdef a D) l w := fun s => by
  obtain ⟨_, v, hr, hR⟩ := h _ (upd_putObj w D (.deferred none)) ⟨s.sz, hd, s.lt⟩
  show LeavesInM Fence.wide 0 P fn _ _ (puts (wdef a D) l).defers .returning w
  rw [puts_wdef]
  refine ⟨by simp, .inl ⟨D, _, rfl, run_takeDeferred hD, ?_⟩⟩
  exact ⟨v, hr, hR⟩
end
section
variable {P : Program} {X : Ctx} {N : Nat} {Q : Exit → Act → World → Prop} {a : Act} {l : Env} {w : World}
theorem cc_scope {c : Code} (h : CC P X0 N c (Exit.noGoto Q) a l w) : CC P X0 N (.scope c) Q a l w := fun s => wpIn_wide.2 (wp_scope_straight (wpIn_wide.1 (h s)))
theorem cc_label {k : Nat} (h : LV X N Q .normal a l w) : CC P X N (.label k) Q a l w := fun s => wpIn_label (h s)
theorem lv_ng_ret (h : LV X N Q .ret a l w) : LV X N (Exit.noGoto Q) .ret a l w := h
end
end Go.Proofs.Ythogdgkafaclaaa
end
section
namespace Go.Proofs.Ythogdgkafaclaaa
open Go.RowKit
def encT (t : Tly) : List Value := [.int .i64 t.who, .int .i64 t.fr, .int .i64 t.to, .int .i64 t.lo, .int .i64 t.hi]
theorem encT_len (t : Tly) : (encT t).length = 5 := rfl
def encR (r : Int × Int) : List Value := [.int .i64 r.1, .int .i64 r.2]
/-- Lists of answers: seven cells each. -/
theorem flat7_len : ∀ {xs : List (List Int)}, (∀ x ∈ xs, x.length = 7) → (flat ivs xs).length = xs.length * 7
  | [], _ => by simp [flat]
  | x :: xs, h => by
    have ih := flat7_len (xs := xs) (fun y hy => h y (List.mem_cons_of_mem _ hy))
    have hx := h x (List.mem_cons_self ..)
    unfold flat at *
    simp only [List.flatMap_cons, List.length_append, ivs_len, hx, ih, List.length_cons]
    omega
theorem flat7_at : ∀ {xs : List (List Int)}, (∀ x ∈ xs, x.length = 7) → ∀ {k : Nat} {x : List Int}, xs[k]? = some x → ((flat ivs xs).drop (k * 7)).take 7 = ivs x
  | [], _, k, x, hk => by simp at hk
  | y :: xs, h, 0, x, hk => by
    obtain rfl : y = x := by simpa using hk
    have hy := h y (List.mem_cons_self ..)
    simp only [flat, List.flatMap_cons, Nat.zero_mul, List.drop_zero]
    rw [List.take_append_of_le_length (by rw [ivs_len, hy]; exact Nat.le_refl _), List.take_of_length_le (by rw [ivs_len, hy]; exact Nat.le_refl _)]
  | y :: xs, h, k + 1, x, hk => by
    have ih := flat7_at (xs := xs) (fun z hz => h z (List.mem_cons_of_mem _ hz)) (k := k) (x := x) (by simpa using hk)
    have hy := h y (List.mem_cons_self ..)
    unfold flat at *
    rw [List.flatMap_cons, ← ih, List.drop_append, ivs_len, hy, List.drop_of_length_le (by rw [ivs_len, hy]; omega), List.nil_append]
    congr 2
    omega
theorem Rd.elem7 {w : World} {lo hi : Nat} {A : Option Addr} {xs : List (List Int)} (h7 : ∀ x ∈ xs, x.length = 7) (h : Rd w lo hi A (flat ivs xs)) {k : Nat} (hk : k < xs.length) :
    ∃ b o, A = some ⟨b, o, none⟩ ∧ lo ≤ b ∧ b < hi ∧ ∀ j u, (flat ivs xs)[j]? = some u → w.cell? ⟨b, o + j, none⟩ = some u := by
  have hp : 0 < (flat ivs xs).length := by rw [flat7_len h7]; omega
  exact h.at_ (k := 0) (u := (flat ivs xs)[0]) (List.getElem?_eq_getElem hp)
theorem ivs_snoc (l : List Int) (x : Int) : ivs (l ++ [x]) = ivs l ++ [.int .i64 x] := by simp [ivs]
end Go.Proofs.Ythogdgkafaclaaa
end
section
namespace Go.Proofs.Ythogdgkafaclaaa
open Go.RowKit Go.WideShapes
section
variable {P : Program} {w : World}
theorem part_int {e : TypeId} (he : One P e) (x : List Int) (i : Nat) (hi : i < x.length) : (part e (ivs x).toArray i).run P w = .ok (.int .i64 (x.getD i 0)) w := by
  have : (ivs x).toArray[i]? = some (.int .i64 (x.getD i 0)) := ivs_getA x i hi
  simp only [part, Sem.run_bind, run_isAgg_f he, Result.andThen_ok, this]
  rfl
theorem equalIn_int {e : TypeId} (hu : P.underlying e = some (.int .i64)) (d : Nat) (a b : Int) : (Op.equalIn (d + 1) e (.int .i64 a) (.int .i64 b)).run P w = .ok (a == b) w := run_equalIn_int w d e .i64 .i64 a b hu
theorem eqItems_ivs {e : TypeId} (he : One P e) (hu : P.underlying e = some (.int .i64)) (d : Nat) (x y : List Int) : ∀ is : List Nat, (∀ i ∈ is, i < x.length ∧ i < y.length) →
    (Op.eqItems (d + 1) e 1 (ivs x).toArray (ivs y).toArray is).run P w = .ok (is.all fun i => x.getD i 0 == y.getD i 0) w
  | [], _ => by simp [Op.eqItems]
  | i :: is, h => by
    have ih := eqItems_ivs he hu d x y is (fun j hj => h j (List.mem_cons_of_mem _ hj))
    obtain ⟨h1, h2⟩ := h i (List.mem_cons_self ..)
    simp only [Op.eqItems, Sem.run_bind, Nat.mul_one, part_int he x i h1, part_int he y i h2, equalIn_int hu, Result.andThen_ok, List.all_cons]
    cases hb : (x.getD i 0 == y.getD i 0)
    · simp
    · simpa using ih
theorem all_range_eq (x y : List Int) (n : Nat) (hx : x.length = n) (hy : y.length = n) : ((List.range n).all fun i => x.getD i 0 == y.getD i 0) = (x == y) := by
  rw [Bool.eq_iff_iff]
  simp only [List.all_eq_true, List.mem_range, beq_iff_eq]
  constructor
  · intro h
    apply List.ext_getElem (by omega)
    intro i h1 h2
    have := h i (by omega)
    simpa [List.getElem?_eq_getElem h1, List.getElem?_eq_getElem h2] using this
  · rintro rfl i _; rfl
/-- Two keys are held against each other. -/
def KEq (P : Program) (K : TypeId) (n : Nat) : Prop := ∀ (w : World) (x y : List Int), x.length = n → y.length = n → (Op.equal K (ansV x) (ansV y)).run P w = .ok (x == y) w
def KChk (P : Program) (K : TypeId) (n : Nat) : Prop := ∀ (w : World) (em : Bool) (x : List Int), x.length = n → (Instr.checkKey em 10000 K (ansV x)).run P w = .ok () w
def KWide (P : Program) (K : TypeId) : Prop := (match P.underlying K with | some (.array _ _) | some (.struct _) => true | _ => false) = true
theorem keq_array {K e n : Nat} (hK : P.underlying K = some (.array n e)) (he : One P e) (hu : P.underlying e = some (.int .i64)) : KEq P K n := by
  intro w x y hx hy
  obtain ⟨i, hi, hs⟩ := Option.map_eq_some_iff.1 he.2
  have h := run_equalIn_array w 9999 (ivs x).toArray (ivs y).toArray hK hi
  have hc : P.cellsOf e = 1 := by unfold Program.cellsOf; rw [hi]; simpa using hs
  rw [hc, eqItems_ivs he hu 9998 x y (List.range n) (fun i hi' => by have := List.mem_range.1 hi'; omega), all_range_eq x y n hx hy] at h
  exact h
theorem kchk_array {K e n : Nat} (hK : P.underlying K = some (.array n e)) (he : One P e) (hu : P.underlying e = some (.int .i64)) : KChk P K n := by
  intro w em x hx
  have hck : ∀ v : Int, (Instr.checkKey em 9999 e (.int .i64 v)).run P w = .ok () w := by
    intro v
    rw [show (9999 : Nat) = 9998 + 1 from rfl, Instr.checkKey]
    simp only [Sem.run_bind, run_underlying hu, Result.andThen_ok]
    rfl
  rw [show (10000 : Nat) = 9999 + 1 from rfl, ansV, Instr.checkKey]
  simp only [Sem.run_bind, run_underlying hK, Result.andThen_ok]
  simp only [Std.Legacy.Range.forIn_eq_forIn_range', Std.Legacy.Range.size, Nat.sub_zero, Nat.add_one_sub_one, Nat.div_one]
  have each : ∀ i ∈ List.range' 0 n, i < x.length := fun i hi => by have := List.mem_range'_1.1 hi; omega
  generalize List.range' 0 n = is at each
  induction is with
  | nil => simp
  | cons j is ih =>
    have hj := each j (List.mem_cons_self ..)
    simp only [List.forIn_cons, Sem.run_bind, run_size he.2, Result.andThen_ok, Nat.mul_one, part_int he x j hj, hck, Sem.run_pure]
    exact ih (fun y hy => each y (List.mem_cons_of_mem _ hy))
end
/-- A struct's fields are ints, one behind the other. -/
def fok (e : TypeId) : Nat → List Field → Bool
  | _, [] => true
  | i, f :: fs => f.name != "_" && Nat.beq f.type e && Nat.beq f.offset i && fok e (i + 1) fs
theorem fok_cons {e i : Nat} {f : Field} {fs : List Field} (h : fok e i (f :: fs) = true) : f.name ≠ "_" ∧ f.type = e ∧ f.offset = i ∧ fok e (i + 1) fs = true := by
  simp only [fok, Bool.and_eq_true] at h
  exact ⟨by simpa using h.1.1.1, Nat.eq_of_beq_eq_true h.1.1.2, Nat.eq_of_beq_eq_true h.1.2, h.2⟩
section
variable {P : Program} {w : World}
theorem eqFields_ivs {e : TypeId} (he : One P e) (hu : P.underlying e = some (.int .i64)) (d : Nat) (x y : List Int) : ∀ (fs : List Field) (i : Nat), fok e i fs = true → i + fs.length ≤ x.length → i + fs.length ≤ y.length →
    (Op.eqFields (d + 1) (ivs x).toArray (ivs y).toArray fs).run P w = .ok ((List.range' i fs.length).all fun j => x.getD j 0 == y.getD j 0) w
  | [], i, _, _, _ => by simp [Op.eqFields]
  | f :: fs, i, h, hx, hy => by
    obtain ⟨h1, h2, h3, h4⟩ := fok_cons h
    simp only [List.length_cons] at hx hy
    have ih := eqFields_ivs he hu d x y fs (i + 1) h4 (by omega) (by omega)
    simp only [Op.eqFields, h1, ne_eq, not_false_eq_true, if_true, Sem.run_bind, h2, h3, part_int he x i (by omega), part_int he y i (by omega), equalIn_int hu, Result.andThen_ok, List.length_cons, List.range'_succ, List.all_cons]
    cases hb : (x.getD i 0 == y.getD i 0)
    · simp
    · simpa using ih
theorem keq_struct {K e : Nat} {fs : Array Field} (n : Nat) (hK : P.underlying K = some (.struct fs)) (hs : P.stoodInHeld K = false) (hf : fok e 0 fs.toList = true) (hn : fs.toList.length = n) (he : One P e) (hu : P.underlying e = some (.int .i64)) : KEq P K n := by
  intro w x y hx hy
  have hfs : P.fieldsOf K = fs := by simp [Program.fieldsOf, hK]
  have h := run_equalIn_struct w 9999 K (ivs x).toArray (ivs y).toArray (by rw [hfs]; exact hK) hs
  rw [hfs, eqFields_ivs he hu 9998 x y fs.toList 0 hf (by omega) (by omega), ← List.range_eq_range', hn, all_range_eq x y n hx hy] at h
  exact h
theorem kchk_struct {K e : Nat} {fs : Array Field} (n : Nat) (hK : P.underlying K = some (.struct fs)) (hf : fok e 0 fs.toList = true) (hn : fs.toList.length = n) (he : One P e) (hu : P.underlying e = some (.int .i64)) : KChk P K n := by
  intro w em x hx
  have hck : ∀ v : Int, (Instr.checkKey em 9999 e (.int .i64 v)).run P w = .ok () w := by
    intro v
    rw [show (9999 : Nat) = 9998 + 1 from rfl, Instr.checkKey]
    simp only [Sem.run_bind, run_underlying hu, Result.andThen_ok]
    rfl
  rw [show (10000 : Nat) = 9999 + 1 from rfl, ansV, Instr.checkKey]
  simp only [Sem.run_bind, run_underlying hK, Result.andThen_ok]
  rw [← Array.forIn_toList]
  have key : ∀ (L : List Field) (i : Nat), fok e i L = true → i + L.length ≤ x.length → (forIn L PUnit.unit (fun f (_ : PUnit) => do
      if f.name ≠ "_" then
        let v ← part f.type (ivs x).toArray f.offset
        Instr.checkKey em 9999 f.type v
        pure PUnit.unit
        pure (ForInStep.yield PUnit.unit)
      else pure (ForInStep.yield PUnit.unit)) : Sem PUnit).run P w = .ok PUnit.unit w := by
    intro L
    induction L with
    | nil => intro i _ _; simp
    | cons f L ih =>
      intro i h hl
      obtain ⟨h1, h2, h3, h4⟩ := fok_cons h
      simp only [List.length_cons] at hl
      simp only [List.forIn_cons, Sem.run_bind, h1, ne_eq, not_false_eq_true, if_true, h2, h3, part_int he x i (by omega), hck, Result.andThen_ok, Sem.run_pure]
      exact ih (i + 1) h4 (by omega)
  have := key fs.toList 0 hf (by omega)
  simp at this
  simp [this]
end
/-- A map: its entries, the first one first. -/
def MapF (w : World) (r n : Nat) (L : List (List Int × Int)) : Prop :=
  ∃ es clock, w.heap[r]? = some (.map es clock) ∧ es.toList.map (fun e => (e.key, e.val)) = L.map (fun p => (ansV p.1, Value.int .i64 p.2)) ∧ ∀ p ∈ L, p.1.length = n
def mget (L : List (List Int × Int)) (k : List Int) : Option Int := (L.find? fun p => k == p.1).map (·.2)
def mput (L : List (List Int × Int)) (k : List Int) (v : Int) : List (List Int × Int) := match L.findIdx? (fun p => k == p.1) with | some i => L.set i (k, v) | none => L ++ [(k, v)]
structure NewM (w w' : World) (r n : Nat) : Prop where
  b_eq : r = w.heap.size
  sz : w'.heap.size = r + 1
  mp : MapF w' r n []
  gr : Ext w w'
structure SetM (w w' : World) (r n : Nat) (L : List (List Int × Int)) : Prop where
  sz : w'.heap.size = w.heap.size
  mp : MapF w' r n L
  gr : Upd r w w'
section
variable {w w' : World} {r n b : Nat} {L : List (List Int × Int)}
theorem MapF.lt (h : MapF w r n L) : r < w.heap.size := by obtain ⟨es, c, h, _⟩ := h; exact lt_of_block h
theorem MapF.ext (h : MapF w r n L) (g : Ext w w') : MapF w' r n L := by
  have hl := h.lt
  obtain ⟨es, c, h1, h2⟩ := h
  exact ⟨es, c, (g.block r hl (by simp)).trans h1, h2⟩
theorem MapF.upd (h : MapF w r n L) (g : Upd b w w') (hne : r ≠ b) : MapF w' r n L := by
  have hl := h.lt
  obtain ⟨es, c, h1, h2⟩ := h
  exact ⟨es, c, (g.block r hl (by simpa using hne)).trans h1, h2⟩
end
section
variable {P : Program} {a : Act} {w : World} {dst : Option Tmp} {ty : TypeId} {pos : String} {aft : Array Edge} {g : Option (Nat × Bool)} {K E T r n : Nat} {L : List (List Int × Int)} {k : List Int}
theorem findNow_agg {kind : TypeDesc} (hk : match kind with | .array _ _ | .struct _ => True | _ => False) (cs : Array Value) : ∀ (es : List MapEntry) (i : Nat), (∀ e ∈ es, ∃ ds, e.key = .agg ds) → es ≠ [] → Instr.findNow kind (.agg cs) es i = none
  | [], _, _, h => absurd rfl h
  | e :: es, i, he, _ => by
    obtain ⟨ds, hd⟩ := he e (List.mem_cons_self ..)
    unfold Instr.findNow
    rw [hd]
    cases kind <;> simp at hk <;> simp [Instr.sameNow]
theorem findAsking_run (hq : KEq P K n) (hk : k.length = n) : ∀ (es : List MapEntry) (L : List (List Int × Int)) (i : Nat), es.map (fun e => (e.key, e.val)) = L.map (fun p => (ansV p.1, Value.int .i64 p.2)) → (∀ p ∈ L, p.1.length = n) →
    (Instr.findAsking K (ansV k) es i).run P w = .ok (match L.findIdx? (fun p => k == p.1) with | some j => some (i + j, .int .i64 ((L.getD j ([], 0)).2)) | none => none) w
  | [], [], i, _, _ => by simp [Instr.findAsking]
  | [], p :: L, i, h, _ => by simp at h
  | e :: es, [], i, h, _ => by simp at h
  | e :: es, p :: L, i, h, hl => by
    simp only [List.map_cons, List.cons.injEq, Prod.mk.injEq] at h
    obtain ⟨⟨h1, h2⟩, h3⟩ := h
    have ih := findAsking_run hq hk es L (i + 1) h3 (fun q hq => hl q (List.mem_cons_of_mem _ hq))
    have he := hq w k p.1 hk (hl p (List.mem_cons_self ..))
    simp only [Instr.findAsking, Sem.run_bind, h1, he, Result.andThen_ok, List.findIdx?_cons]
    cases hb : (k == p.1)
    · simp only [Bool.false_eq_true, if_false, ih]
      cases List.findIdx? (fun p => k == p.1) L with
      | none => rfl
      | some j => simp [Nat.add_assoc, Nat.add_comm 1 j]
    · simp [h2]
theorem findKey_run (hq : KEq P K n) (hw : KWide P K) (hk : k.length = n) {es : List MapEntry} (h : es.map (fun e => (e.key, e.val)) = L.map (fun p => (ansV p.1, Value.int .i64 p.2))) (hl : ∀ p ∈ L, p.1.length = n) :
    (Instr.findKey K (ansV k) es).run P w = .ok (match L.findIdx? (fun p => k == p.1) with | some j => some (j, .int .i64 ((L.getD j ([], 0)).2)) | none => none) w := by
  unfold KWide at hw
  cases hu : P.underlying K with
  | none => simp [hu] at hw
  | some d =>
    unfold Instr.findKey
    simp only [Sem.run_bind, run_underlying hu, Result.andThen_ok]
    cases es with
    | nil =>
      have : L = [] := by cases L with | nil => rfl | cons _ _ => simp at h
      subst this
      simp [Instr.findNow]
    | cons e es =>
      have hn : Instr.findNow d (ansV k) (e :: es) 0 = none := by
        refine findNow_agg ?_ _ _ _ (fun e' he' => ?_) (by simp)
        · rw [hu] at hw; cases d <;> simp at hw <;> trivial
        · have : (e'.key, e'.val) ∈ (e :: es).map (fun e => (e.key, e.val)) := List.mem_map.2 ⟨e', he', rfl⟩
          rw [h] at this
          obtain ⟨p, _, hp⟩ := List.mem_map.1 this
          exact ⟨(ivs p.1).toArray, by simp only [Prod.mk.injEq] at hp; exact hp.1.symm⟩
      rw [hn]
      have := findAsking_run (P := P) (w := w) hq hk (e :: es) L 0 h hl
      simpa using this
theorem getObj_run {o : Obj} (h : w.heap[r]? = some o) (ho : ∀ c e f, o ≠ .cells c e f) : (getObj r).run P w = .ok o w := by
  unfold getObj
  cases o <;> first | exact absurd rfl (ho _ _ _) | (simp only [Sem.run, h])
theorem mget_idx (L : List (List Int × Int)) (k : List Int) : mget L k = (L.findIdx? (fun p => k == p.1)).map (fun j => (L.getD j ([], 0)).2) := by
  unfold mget
  induction L with
  | nil => rfl
  | cons p L ih =>
    simp only [List.find?_cons, List.findIdx?_cons]
    cases hb : (k == p.1)
    · simp only [Bool.false_eq_true, if_false, ih]
      cases List.findIdx? (fun p => k == p.1) L <;> simp
    · simp
theorem lookup_run (hT : P.underlying T = some (.map K E)) (hz : (P.info? E).bind (·.zero) = some (.int .i64 0)) (hq : KEq P K n) (hc : KChk P K n) (hw : KWide P K) (hk : k.length = n) (hm : MapF w r n L) (ok : Bool) :
    (Instr.lookup T (.map (some r)) (ansV k) ok).run P w = .ok (if ok then .tuple #[.int .i64 ((mget L k).getD 0), .bool (mget L k).isSome] else .int .i64 ((mget L k).getD 0)) w := by
  obtain ⟨es, clock, hh, he, hl⟩ := hm
  obtain ⟨i, hi, hz'⟩ := Option.bind_eq_some_iff.1 hz
  have h1 := getObj_run (P := P) hh (by intro c e f h; cases h)
  have h2 := findKey_run (P := P) (w := w) hq hw hk he hl
  have h3 : (zeroValue E).run P w = .ok (.int .i64 0) w := by simp [zeroValue, typeInfo, program, Sem.run, hi, hz']
  unfold Instr.lookup
  simp only [Sem.run_bind, run_underlying hT, Result.andThen_ok, h1, hc w es.isEmpty k hk, h2, mget_idx, Sem.run_pure]
  cases List.findIdx? (fun p => k == p.1) L with
  | none => cases ok <;> simp [h3]
  | some j => cases ok <;> simp
theorem x_lookup_ok {x y : Operand} (hT : P.underlying T = some (.map K E)) (hz : (P.info? E).bind (·.zero) = some (.int .i64 0)) (hq : KEq P K n) (hc : KChk P K n) (hw : KWide P K) (hx : a.eval x = .map (some r)) (hy : a.eval y = ansV k) (hk : k.length = n) (hm : MapF w r n L) :
    Ex1 P ⟨dst, .lookup T x y true, ty, pos, aft, g⟩ a w (fun u w' => u = .tuple #[.int .i64 ((mget L k).getD 0), .bool (mget L k).isSome] ∧ w' = w) :=
  ex1_v (S := Instr.lookup T (.map (some r)) (ansV k) true) (by simp only [execOp, hx, hy]) (lookup_run hT hz hq hc hw hk hm true)
theorem x_lookup {x y : Operand} (hT : P.underlying T = some (.map K E)) (hz : (P.info? E).bind (·.zero) = some (.int .i64 0)) (hq : KEq P K n) (hc : KChk P K n) (hw : KWide P K) (hx : a.eval x = .map (some r)) (hy : a.eval y = ansV k) (hk : k.length = n) (hm : MapF w r n L) :
    Ex1 P ⟨dst, .lookup T x y false, ty, pos, aft, g⟩ a w (fun u w' => u = .int .i64 ((mget L k).getD 0) ∧ w' = w) :=
  ex1_v (S := Instr.lookup T (.map (some r)) (ansV k) false) (by simp only [execOp, hx, hy]) (lookup_run hT hz hq hc hw hk hm false)
theorem x_makeMap {T : TypeId} : Ex1 P ⟨dst, .makeMap T none, ty, pos, aft, g⟩ a w (fun u w' => ∃ r, u = .map (some r) ∧ NewM w w' r n) := by
  unfold Ex1
  simp only [execOp, Option.map_none, Sem.run_bind, run_makeMap, Result.andThen_ok, Sem.run_pure]
  exact ⟨_, rfl, rfl, by simp, ⟨#[], 0, heap_alloc_new w _, rfl, by simp⟩, World.grownBy_alloc w _ _⟩
theorem sameBits_ivs (d : Nat) (x : List Int) : Instr.sameBits (d + 1) (ansV x) (ansV x) = true := by
  unfold ansV Instr.sameBits
  simp only [beq_self_eq_true, Bool.true_and, List.all_eq_true]
  rintro ⟨u, v⟩ h
  rw [List.mem_iff_getElem] at h
  obtain ⟨i, hi, he⟩ := h
  simp only [List.getElem_zip, Prod.mk.injEq] at he
  obtain ⟨h1, h2⟩ := he
  subst h1; subst h2
  simp only [ivs, List.getElem_map]
  cases d <;> simp [Instr.sameBits]
theorem x_mapUpdate {x y z : Operand} {v : Int} (hT : P.underlying T = some (.map K E)) (hq : KEq P K n) (hc : KChk P K n) (hw : KWide P K) (hx : a.eval x = .map (some r)) (hy : a.eval y = ansV k) (hz : a.eval z = .int .i64 v) (hk : k.length = n) (hm : MapF w r n L) :
    Ex1 P ⟨dst, .mapUpdate T x y z, ty, pos, aft, g⟩ a w (fun _ w' => SetM w w' r n (mput L k v)) := by
  have hlt := hm.lt
  obtain ⟨es, clock, hh, he, hl⟩ := hm
  have h1 := getObj_run (P := P) hh (by intro c e f h; cases h)
  have h2 := findKey_run (P := P) (w := w) hq hw hk he hl
  have hset : ∀ o : Obj, (setObj r o).run P w = .ok () { w with heap := w.heap.setIfInBounds r o } := by
    intro o; unfold setObj; simp only [Sem.run, hh]
  have hgr : ∀ o : Obj, Upd r w { w with heap := w.heap.setIfInBounds r o } := fun o => ⟨rfl, rfl, rfl, by simp, fun j _ hne => by
    have : ¬ r = j := fun e => hne (by rw [e])
    simp [Array.getElem?_setIfInBounds, this]⟩
  have hlen : es.toList.length = L.length := by have := congrArg List.length he; simpa using this
  unfold Ex1
  simp only [execOp, hx, hy, hz, Sem.run_bind, Instr.mapUpdate, run_underlying hT, Result.andThen_ok, h1, hc w false k hk, h2]
  cases hf : List.findIdx? (fun p => k == p.1) L with
  | none =>
    simp only [hset, Result.andThen_ok, Sem.run_pure]
    refine ⟨by simp, ⟨_, _, by simp [hlt]; exact ⟨rfl, rfl⟩, ?_, ?_⟩, hgr _⟩
    · simp [mput, hf, he]
    · intro p hp
      simp only [mput, hf, List.mem_append, List.mem_singleton] at hp
      rcases hp with hp | rfl
      · exact hl p hp
      · exact hk
  | some j =>
    have hj := List.findIdx?_eq_some_iff_getElem.1 hf
    obtain ⟨hjl, hjk, _⟩ := hj
    have hje : j < es.toList.length := by omega
    have hkey : (es.toList[j]).key = ansV k := by
      have := congrArg (fun l => l[j]?) he
      simp only [List.getElem?_map, List.getElem?_eq_getElem hje, List.getElem?_eq_getElem hjl, Option.map_some, Option.some.injEq, Prod.mk.injEq] at this
      rw [this.1, ← eq_of_beq hjk]
    have hgk : ((es[j]?).map (·.key)).getD (ansV k) = ansV k := by
      have hjs : j < es.size := by simpa using hje
      rw [Array.getElem?_eq_getElem hjs]
      simpa using hkey
    simp only [hgk, Instr.keyThatStays, sameBits_ivs 9999 k, if_true, Sem.run_pure, Result.andThen_ok, hset, Sem.run_bind]
    refine ⟨by simp, ⟨_, _, by simp [hlt]; exact ⟨rfl, rfl⟩, ?_, ?_⟩, hgr _⟩
    · simp only [mput, hf]
      apply List.ext_getElem
      · simp [hlen]
      · intro i h3 h4
        have hie : i < es.toList.length := by simpa using h3
        have hiL : i < L.length := by omega
        have := congrArg (fun l => l[i]?) he
        simp only [List.getElem?_map, List.getElem?_eq_getElem hie, List.getElem?_eq_getElem hiL, Option.map_some, Option.some.injEq, Prod.mk.injEq] at this
        by_cases hij : j = i
        · subst hij; simp
        · simpa [Array.getElem_modify, hij, List.getElem_set] using this
    · intro p hp
      simp only [mput, hf] at hp
      rcases List.mem_or_eq_of_mem_set hp with hp | rfl
      · exact hl p hp
      · exact hk
end
theorem MapF.t2 {w w' : World} {r ph b n : Nat} {L : List (List Int × Int)} {M : World → Prop} (h : MapF w b n L) (g : T2 w r M ph w') (hne : b ≠ r) : MapF w' b n L := h.upd (T2_upd g) hne
theorem mget_mput (L : List (List Int × Int)) (k k' : List Int) (v : Int) : mget (mput L k v) k' = if k' = k then some v else mget L k' := by
  induction L with
  | nil =>
    unfold mget mput
    by_cases h : k' = k
    · subst h; simp
    · have : (k' == k) = false := by simpa using h
      simp [h]
  | cons p L ih =>
    unfold mget mput at *
    simp only [List.findIdx?_cons]
    cases hb : (k == p.1)
    · simp only [Bool.false_eq_true, if_false]
      cases hf : List.findIdx? (fun p => k == p.1) L with
      | none =>
        rw [hf] at ih
        simp only [Option.map_none, List.cons_append, List.find?_cons]
        cases hb' : (k' == p.1)
        · simpa using ih
        · have hne : k' ≠ k := by
            intro e
            rw [e, hb] at hb'; cases hb'
          simp [hne]
      | some j =>
        rw [hf] at ih
        simp only [Option.map_some, List.set_cons_succ, List.find?_cons]
        cases hb' : (k' == p.1)
        · simpa using ih
        · have hne : k' ≠ k := by
            intro e
            rw [e, hb] at hb'; cases hb'
          simp [hne]
    · have hk := eq_of_beq hb
      simp only [if_true, List.set_cons_zero, List.find?_cons]
      by_cases h : k' = k
      · subst h; simp
      · have h1 : (k' == k) = false := by simpa using h
        have h2 : (k' == p.1) = false := by rw [← hk]; exact h1
        simp [h, h1, h2]
end Go.Proofs.Ythogdgkafaclaaa
end
section
namespace Go.Proofs.Ythogdgkafaclaaa
open Go.RowKit
/-- The slice of n elements at A owns its row, which lies behind base. -/
def OwnS (w : World) (base : Nat) (e : TypeId) (sz : Nat) (A : Option Addr) (n c : Nat) (xs : List Value) : Prop := w.ownsRow base e sz (.slice A n c) n xs
section
variable {w w' : World} {base : Nat} {e : TypeId} {sz : Nat} {A : Option Addr} {n c : Nat} {xs : List Value}
theorem OwnS.nil (w : World) (base : Nat) (e : TypeId) (sz : Nat) : OwnS w base e sz none 0 0 [] := World.ownsRow_nil w base e sz
theorem OwnS.len (h : OwnS w base e sz A n c xs) : xs.length = n * sz := h.1
theorem OwnS.rd (h : OwnS w base e sz A n c xs) : Rd w base w.heap.size A xs := by
  refine ⟨Nat.le_refl _, ?_⟩
  rcases h.2 with ⟨_, h0⟩ | ⟨g, cap, cur, hv, hbg, hg, _, _, _, _⟩
  · exact .inl (List.eq_nil_of_length_eq_zero (by rw [h.1, h0, Nat.zero_mul]))
  · refine .inr ⟨g, 0, ?_, hbg, lt_of_block hg, fun j u hu => ?_⟩
    · cases hv; rfl
    · have := World.ownsRow.cells h (g := g) (by cases hv; rfl) j u hu
      rw [addr_add] at this
      exact this
theorem OwnS.kept (h : OwnS w base e sz A n c xs) {r : Option Nat} (g : w.grownBy w' r) (hr : ∀ k, r = some k → ∀ o, A ≠ some ⟨k, o, none⟩) : OwnS w' base e sz A n c xs :=
  World.ownsRow.kept h g (by
    rcases h.2 with ⟨h0, _⟩ | ⟨b, cap, cur, hv, _⟩
    · exact .inl (by rw [h0]; rfl)
    · refine .inr ?_
      cases hv
      intro he
      exact hr b (by simpa [Value.ownBlock] using he.symm) 0 rfl)
theorem OwnS.ext (h : OwnS w base e sz A n c xs) (g : Ext w w') : OwnS w' base e sz A n c xs := h.kept g (fun _ e => by cases e)
/-- Where the row lies. -/
theorem OwnS.blk (h : OwnS w base e sz A n c xs) {k o : Nat} (hA : A = some ⟨k, o, none⟩) : base ≤ k ∧ k < w.heap.size ∧ ∃ cur, w.heap[k]? = some (.cells cur e (0, 0)) := by
  subst hA
  rcases h.2 with ⟨h0, _⟩ | ⟨g, cap, cur, hv, hb, hg, _⟩
  · cases h0
  · cases hv; exact ⟨hb, lt_of_block hg, cur, hg⟩
theorem OwnS.upd {r : Nat} (h : OwnS w base e sz A n c xs) (g : Upd r w w') (hr : r < base) : OwnS w' base e sz A n c xs := h.kept g (fun k ek o hA => by
  cases ek
  have := (h.blk hA).1; omega)
theorem OwnS.updx {r M : Nat} (h : OwnS w base e sz A n c xs) (g : Upd r w w') (hM : ∀ k o, A = some ⟨k, o, none⟩ → k < M) (hr : r < base ∨ M ≤ r) : OwnS w' base e sz A n c xs := h.kept g (fun k ek o hA => by
  cases ek
  have h1 := (h.blk hA).1
  have h2 := hM _ _ hA
  omega)
theorem bl_bw {w0 : World} {B : Nat} (h : Below w0.heap.size w0 w) (g : Below B w w') (hb : w0.heap.size ≤ B) : Below w0.heap.size w0 w' := h.trans (g.mono hb)
theorem Rd.pre {α : Type} {enc : α → List Value} {lo hi : Nat} {A : Option Addr} {xs : List α} (h : Rd w lo hi A (flat enc xs)) (k : Nat) : Rd w lo hi A (flat enc (xs.take k)) := by
  refine ⟨h.1, ?_⟩
  have e : flat enc xs = flat enc (xs.take k) ++ flat enc (xs.drop k) := by unfold flat; rw [← List.flatMap_append, List.take_append_drop]
  rcases h.2 with h0 | ⟨b, o, hA, hl, hh, hc⟩
  · refine .inl ?_
    rw [e] at h0
    exact (List.append_eq_nil_iff.1 h0).1
  · refine .inr ⟨b, o, hA, hl, hh, fun j u hu => hc j u ?_⟩
    rw [e, List.getElem?_append_left (List.getElem?_eq_some_iff.1 hu).1]
    exact hu
theorem rd_news {lo hi : Nat} {ad : Addr} {cs : List Value} (h : Rd w lo hi (some ad) cs) : ∀ j u, cs[j]? = some u → w.cell? (ad.add j) = some u := fun j u hu => by
  rcases h.2 with rfl | ⟨b, o, hA, _, _, hc⟩
  · simp at hu
  · cases hA
    rw [addr_add]; exact hc j u hu
theorem one_ivs' (l : List Int) : ∀ u ∈ ivs l, u.oneCell' = true := by simp [ivs, Value.oneCell']
theorem rd_of_bk {b : Nat} {t : TypeId} {cs : Array Value} (h : Bk w b t cs) : Rd w b (b + 1) (some ⟨b, 0, none⟩) cs.toList :=
  ⟨h.lt, .inr ⟨b, 0, rfl, Nat.le_refl _, Nat.lt_succ_self _, fun j u hu => by rw [h.cell, Nat.zero_add]; simpa using hu⟩⟩
theorem Bk.bw {b B : Nat} {t : TypeId} {cs : Array Value} (h : Bk w b t cs) (g : Below B w w') (hb : b < B) : Bk w' b t cs := (g.block b hb).trans h
theorem Rd.bw {lo hi B : Nat} {A : Option Addr} {cs : List Value} (h : Rd w lo hi A cs) (g : Below B w w') (hB : hi ≤ B) : Rd w' lo hi A cs := h.of_below g hB
/-- What the step on a row leaves as it was. -/
theorem below_row (h : OwnS w base e sz A n c xs) {B : Nat} (hB : B ≤ w.heap.size) (hb : B ≤ base) (g : w.grownBy w' (Value.ownBlock (.slice A n c))) : Below B w w' :=
  (Below.refl B w).grown g hB (fun k hk => by
    cases A with
    | none => cases hk
    | some ad =>
      have hk' : ad.block = k := by simpa [Value.ownBlock] using hk
      rcases h.2 with ⟨h0, _⟩ | ⟨g', cap, cur, hv, hbg, _⟩
      · cases h0
      · cases hv
        simp only at hk'
        omega)
/-- A block that came after the row's. -/
theorem Bk.row {b : Nat} {t : TypeId} {cs : Array Value} (h : OwnS w base e sz A n c xs) {w1 w2 : World} (hb : Bk w1 b t cs) (hn : w.heap.size ≤ b) (g : w1.grownBy w2 (Value.ownBlock (.slice A n c))) : Bk w2 b t cs :=
  (g.block b hb.lt (fun e => by
    cases A with
    | none => cases e
    | some ad =>
      have : b = ad.block := by simpa [Value.ownBlock] using e
      rcases h.2 with ⟨h0, _⟩ | ⟨g, cap, cur, hv, _, hg, _⟩
      · cases h0
      · cases hv
        have := lt_of_block hg
        simp only at *
        omega)).trans hb
end
section
variable {P : Program} {a : Act} {w : World} {dst : Option Tmp} {ty : TypeId} {pos : String} {aft : Array Edge} {g : Option (Nat × Bool)}
/-- Behind an append: the row grew where it lay, or nothing that was there has turned. -/
theorem app_ext {t e : TypeId} {i : TypeInfo} {z : Value} {sz : Nat} (ht : P.underlying t = some (.slice e)) (hi : P.info? e = some i) (hz : i.zero = some z) (hsize : i.size = sz) (hzs : z.cells.size = sz)
    {A A' : Option Addr} {n c c' base m cap : Nat} {xs news : List Value} {ad : Addr} {w' : World} (hown : OwnS w base e sz A n c xs) (hl : news.length = m * sz) (hnews : ∀ j u, news[j]? = some u → w.cell? (ad.add j) = some u) (h1 : ∀ u ∈ news, u.oneCell' = true)
    (h63 : n + m ≤ maxLen) (hbytes : (n + m) * i.bytes ≤ 140737488355328) (hr : (Builtin.append_ #[t, t] ty #[.slice A n c, .slice (some ad) m cap]).run P w = .ok (.slice A' (n + m) c') w')
    (hnil : (Value.slice A' (n + m) c' = .slice none 0 0 ↔ Value.slice A n c = .slice none 0 0 ∧ m = 0)) : Ext w w' ∨ (A' = A ∧ c' = c) := by
  subst hsize
  have hsmall : n + m ≤ 9223372036854775807 := by simp only [maxLen] at h63; omega
  have hdr : ∀ o : Obj, Ext w (w.drew.alloc o) := fun o => Ext.trans (ext_drew w) (World.grownBy_alloc _ _ _)
  rcases hown.2 with ⟨hv, h0⟩ | ⟨g', cap', cur, hv, hbg, hg, hnc, hcm, hcs, htake⟩
  · cases hv
    rcases Nat.eq_zero_or_pos m with rfl | hm
    · have := hnil.2 ⟨rfl, rfl⟩
      exact .inr (by cases this; exact ⟨rfl, rfl⟩)
    · have := run_append_nil (P := P) w t ty e i z ht hi hz ad m cap news hl hnews (by omega) (by omega) (by have hb := hbytes; simp only [Nat.zero_add] at hb; omega)
      rw [this] at hr
      injection hr with _ hw
      exact .inl (hw ▸ hdr _)
  · cases hv
    by_cases hroom : n + m ≤ c
    · have hfit : n * i.size + news.length ≤ cur.size := by rw [hl, hcs, ← Nat.add_mul]; exact Nat.mul_le_mul_right _ hroom
      have := run_append_room (P := P) w t ty e i ht hi g' n c cur hg ad m cap news hl hnews h1 hroom hfit
      rw [this] at hr
      injection hr with hv _
      exact .inr (by cases hv; exact ⟨rfl, rfl⟩)
    · have holds : ∀ j u, xs[j]? = some u → w.cell? ((⟨g', 0, none⟩ : Addr).add j) = some u := World.ownsRow.cells hown (g := g') rfl
      have := run_append_grow (P := P) w t ty e i z ht hi hz ⟨g', 0, none⟩ n c xs hown.1 holds ad m cap news hl hnews (by omega) (by omega) (growslice_fits (by omega) hbytes)
      rw [this] at hr
      injection hr with _ hw
      exact .inl (hw ▸ hdr _)
theorem x_copy7 {d s : Operand} {t e : TypeId} (ht : P.underlying t = some (.slice e)) (hs : (P.info? e).map (·.size) = some 1) {b : Nat} {t' : TypeId} {B : Option Addr} {xs : List Int} {c lo hi : Nat}
    (hd : a.eval d = .slice (some ⟨b, 0, none⟩) 7 7) (hx : a.eval s = .slice B xs.length c) (hb : Bk w b t' (ivs (List.replicate 7 0)).toArray) (hr : Rd w lo hi B (ivs xs)) (h1 : 1 ≤ xs.length) (h7 : xs.length ≤ 7) :
    Ex1 P ⟨dst, .call { callee := .builtin .copy, args := #[d, s], argTypes := #[t, t] }, ty, pos, aft, g⟩ a w (fun _ w' => SetB w w' b t' (ivs (pad xs)).toArray) := by
  obtain ⟨g', o, rfl, _, _, hc⟩ := hr.elem1 (k := 0) (by rw [ivs_len]; omega)
  have hrun := run_copy_row (P := P) w t t ty e b 0 7 7 ⟨g', o, none⟩ xs.length c (ivs (List.replicate 7 0)).toArray t' (ivs xs) ht hs hb (by rw [ivs_len]; exact (Nat.min_eq_left h7).symm) (fun j v hv => by rw [addr_add]; exact hc j v hv) (by simp [ivs]; omega) (one_ivs' xs)
  have he : ((ivs (List.replicate 7 0)).toArray.toList.take 0 ++ ivs xs ++ (ivs (List.replicate 7 0)).toArray.toList.drop (0 + (ivs xs).length)).toArray = (ivs (pad xs)).toArray := by
    have hz : ivs (List.replicate 7 0) = List.replicate 7 (.int .i64 0) := rfl
    simp only [hz, List.take_zero, List.nil_append, Nat.zero_add, ivs_len, List.drop_replicate]
    simp [pad, ivs]
  rw [he] at hrun
  have hex : (execOp a.eval ⟨dst, .call { callee := .builtin .copy, args := #[d, s], argTypes := #[t, t] }, ty, pos, aft, g⟩).run P w = .ok (.value (goInt (ivs xs).length)) (w.setRow b (ivs (pad xs)).toArray) := by
    unfold execOp
    simp only [resolve, invoke, builtin, Sem.run_bind, Sem.run_pure, Result.andThen_ok, List.map_toArray, List.map_cons, List.map_nil, hd, hx, hrun]
  unfold Ex1
  rw [hex]
  exact ⟨by simp [World.setRow], setRow_heap w b _ _ t' _ hb, ⟨rfl, rfl, rfl, by simp [World.setRow], fun k _ hk => setRow_other w b k _ (fun e => hk (by rw [e]))⟩⟩
theorem x_sliceTo {t e : TypeId} {sz : Nat} {x z : Operand} {A : Option Addr} {b o n c k : Nat} {h : Int} (ht : P.underlying t = some (.slice e)) (hs : (P.info? e).map (·.size) = some sz) (hx : a.eval x = .slice A n c) (hA : A = some ⟨b, o, none⟩) (hz : a.eval z = .int .i64 h) (hk : h = k) (h1 : k ≤ c) :
    Ex1 P ⟨dst, .slice t x none (some z) none, ty, pos, aft, g⟩ a w (fun u w' => u = .slice A k c ∧ w' = w) := by
  subst hA
  subst hk
  refine x_slice hx rfl (by simp [hz]; rfl) ?_
  have e1 : (Instr.sliceBound (.int .i64 (k : Int)) c .sliceAcap).run P w = .ok k w := by
    have := run_sliceBound (P := P) w .i64 (k : Int) c .sliceAcap (by omega) (by omega)
    simpa using this
  simp [Instr.sliceAt, Instr.slice, underlying, program, Sem.run, ht, Instr.sliceBounds, e1, run_size hs, addr_add]
/-- Append, in general. -/
theorem x_appendG {s x : Operand} {t e : TypeId} {z : Value} {sz bytes : Nat} (ht : P.underlying t = some (.slice e)) (hi : (P.info? e).map (fun i => (i.zero, i.size, i.bytes)) = some (some z, sz, bytes)) (hzs : z.cells.size = sz) (hsz : 0 < sz)
    {A : Option Addr} {n c base : Nat} {xs news : List Value} {m cap : Nat} {ad : Addr} (hs : a.eval s = .slice A n c) (hx : a.eval x = .slice (some ad) m cap) (hown : OwnS w base e sz A n c xs)
    (hnews : ∀ j u, news[j]? = some u → w.cell? (ad.add j) = some u)
    (hl : news.length = m * sz) (h1 : ∀ u ∈ news, u.oneCell' = true) (h63 : n + m ≤ maxLen) (hbytes : (n + m) * bytes ≤ 140737488355328) (hbase : base ≤ w.heap.size) :
    Ex1 P ⟨dst, .call { callee := .builtin .append, args := #[s, x], argTypes := #[t, t] }, ty, pos, aft, g⟩ a w (fun v w' => ∃ A' c', v = .slice A' (n + m) c' ∧ OwnS w' base e sz A' (n + m) c' (xs ++ news) ∧ w.grownBy w' (Value.ownBlock (.slice A n c)) ∧ (Ext w w' ∨ (A' = A ∧ c' = c)) ∧ (∀ k o, A' = some ⟨k, o, none⟩ → (∃ o', A = some ⟨k, o', none⟩) ∨ w.heap.size ≤ k)) := by
  cases hinf : P.info? e with
  | none => simp [hinf] at hi
  | some i =>
    simp only [hinf, Option.map_some, Option.some.injEq, Prod.mk.injEq] at hi
    obtain ⟨v', w', hr, h2, h3, h4, h5⟩ := run_append_own_at (P := P) w base t ty e i z sz bytes ht hinf hi.1 hi.2.1 hi.2.2 hzs hsz (.slice A n c) n xs hown ad m cap news hl hnews h1 h63 hbytes hbase
    have he : (execOp a.eval ⟨dst, .call { callee := .builtin .append, args := #[s, x], argTypes := #[t, t] }, ty, pos, aft, g⟩).run P w = .ok (.value v') w' := by
      unfold execOp
      simp only [resolve, invoke, builtin, Sem.run_bind, Sem.run_pure, Result.andThen_ok, List.map_toArray, List.map_cons, List.map_nil, hs, hx, hr]
    have key : ∃ A' c', v' = .slice A' (n + m) c' ∧ OwnS w' base e sz A' (n + m) c' (xs ++ news) := by
      rcases h2.2 with ⟨rfl, h0⟩ | ⟨g', cap', cur, rfl, _⟩
      · refine ⟨none, 0, by rw [h0], ?_⟩
        have := h2
        rw [h0] at this ⊢
        exact this
      · exact ⟨_, _, rfl, h2⟩
    obtain ⟨A', c', rfl, hO⟩ := key
    unfold Ex1
    rw [he]
    refine ⟨A', c', rfl, hO, h3, app_ext ht hinf hi.1 hi.2.1 hzs hown hl hnews h1 h63 (by rw [hi.2.2]; exact hbytes) hr h4, ?_⟩
    rintro k o rfl
    rcases h5 with h | h
    · left
      cases A with
      | none => simp [Value.ownBlock] at h
      | some ad =>
        have hk : k = ad.block := by simpa [Value.ownBlock] using h
        rcases hown.2 with ⟨hv, _⟩ | ⟨g', cap', cur, hv, _⟩
        · cases hv
        · cases hv; exact ⟨0, by rw [hk]⟩
    · right
      have : k = w.heap.size := by simpa [Value.ownBlock] using h
      omega
theorem cell_ext {w w' : World} {ad : Addr} {u : Value} (h : w.cell? ad = some u) (g : Ext w w') : w'.cell? ad = some u := by
  refine (World.cell?_of_block (g.block ad.block ?_ (by simp))).trans h
  unfold World.cell? at h
  cases hb : w.heap[ad.block]? with
  | none => simp [hb] at h
  | some o => exact (Array.getElem?_eq_some_iff.1 hb).1
/-- The value that was put to the end lies where it lay. -/
theorem cell_app {w w' : World} {b base e n c c' : Nat} {A A' : Option Addr} {xs : List Value} {u : Value} (hO : OwnS w base e 1 A n c xs) (hO2 : OwnS w' base e 1 A' (n + 1) c' (xs ++ [u])) (g : w.grownBy w' (Value.ownBlock (.slice A n c))) (hx : Ext w w' ∨ (A' = A ∧ c' = c))
    (hc : w.cell? ⟨b, 0, none⟩ = some u) : w'.cell? ⟨b, 0, none⟩ = some u := by
  rcases hx with hx | ⟨rfl, _⟩
  · exact cell_ext hc hx
  · rcases hO2.2 with ⟨h, _⟩ | ⟨g', cap', cur, hv, _⟩
    · cases h
    · cases hv
      by_cases hb : b = g'
      · subst hb
        have h2 := World.ownsRow.cells hO2 (g := b) rfl
        cases xs with
        | nil => simpa [addr_add] using h2 0 u rfl
        | cons y ys =>
          have h1 := World.ownsRow.cells hO (g := b) rfl 0 y rfl
          have h3 := h2 0 y rfl
          rw [addr_add] at h1 h3
          rw [hc] at h1
          rw [h1]; exact h3
      · refine (World.cell?_of_block (g.block b ?_ (fun e => hb (by simpa [Value.ownBlock] using e)))).trans hc
        unfold World.cell? at hc
        cases hq : w.heap[b]? with
        | none => simp [hq] at hc
        | some o => exact (Array.getElem?_eq_some_iff.1 hq).1
theorem OwnS.shrink {w : World} {base e n c : Nat} {A : Option Addr} {xs : List Value} {u : Value} (h : OwnS w base e 1 A (n + 1) c (xs ++ [u])) (hn : xs.length = n) : OwnS w base e 1 A n c xs := by
  refine ⟨by omega, ?_⟩
  rcases h.2 with ⟨hv, h0⟩ | ⟨g, cap, cur, hv, hb, hg, hnc, hcm, hcs, ht⟩
  · omega
  · cases hv
    refine .inr ⟨g, c, cur, rfl, hb, hg, by omega, hcm, hcs, ?_⟩
    have h3 : (cur.toList.take ((n + 1) * 1)).take (n * 1) = cur.toList.take (n * 1) := by rw [List.take_take, Nat.min_eq_left (by omega)]
    rw [← h3, ht, List.take_append_of_le_length (by omega), List.take_of_length_le (by omega)]
/-- The elder slice behind an append. -/
theorem OwnS.app {w w' : World} {base e n c c' : Nat} {A A' : Option Addr} {xs : List Value} {u : Value} (hO : OwnS w base e 1 A n c xs) (hO2 : OwnS w' base e 1 A' (n + 1) c' (xs ++ [u])) (hx : Ext w w' ∨ (A' = A ∧ c' = c)) : OwnS w' base e 1 A n c xs := by
  rcases hx with hx | ⟨rfl, rfl⟩
  · exact hO.ext hx
  · exact hO2.shrink (by have := hO.len; omega)
theorem OwnS.weak {w : World} {base base' e sz n c : Nat} {A : Option Addr} {xs : List Value} (h : OwnS w base e sz A n c xs) (hb : base' ≤ base) : OwnS w base' e sz A n c xs :=
  ⟨h.1, h.2.imp id fun ⟨g, cap, cur, h1, h2, h3⟩ => ⟨g, cap, cur, h1, Nat.le_trans hb h2, h3⟩⟩
theorem own_ne {w : World} {base e sz n c r : Nat} {t : TypeId} {A : Option Addr} {xs : List Value} {cs : Array Value} (h : OwnS w base e sz A n c xs) (hb : Bk w r t cs) (ht : t ≠ e) : ∀ o, A ≠ some ⟨r, o, none⟩ := fun o hA => by
  obtain ⟨_, _, cur, hc⟩ := h.blk hA
  rw [show w.heap[r]? = _ from hb] at hc
  simp at hc
  exact ht hc.2
theorem OwnS.updn {w w' : World} {base e sz n c r : Nat} {A : Option Addr} {xs : List Value} (h : OwnS w base e sz A n c xs) (g : Upd r w w') (hne : ∀ o, A ≠ some ⟨r, o, none⟩) : OwnS w' base e sz A n c xs := h.kept g (fun k ek o => by cases ek; exact hne o)
theorem up_ext {r : Nat} {w w1 w2 : World} (h : Upd r w w1) (g : Ext w1 w2) : Upd r w w2 := World.grownBy.trans h (upd_of_ext g)
theorem up_upd {r : Nat} {w w1 w2 : World} (h : Upd r w w1) (g : Upd r w1 w2) : Upd r w w2 := World.grownBy.trans h g
theorem OwnS.cgx {w w' : World} {l q x lim base e sz n c M : Nat} {A : Option Addr} {xs : List Value} (h : OwnS w base e sz A n c xs) (g : Cg l q x lim w w') (hM : ∀ k o, A = some ⟨k, o, none⟩ → k < M) (hb : M ≤ lim ∧ M ≤ l ∧ M ≤ q ∧ M ≤ x) : OwnS w' base e sz A n c xs := by
  refine ⟨h.1, ?_⟩
  rcases h.2 with h0 | ⟨b, cap, cur, hv, hbb, hg, rest⟩
  · exact .inl h0
  · have hlt : b < M := hM b 0 (by cases hv; rfl)
    exact .inr ⟨b, cap, cur, hv, hbb, (g.block b (by omega) (by omega) (by omega) (by omega)).trans hg, rest⟩
theorem MapF.cg {w w' : World} {l q x lim r n : Nat} {L : List (List Int × Int)} (h : MapF w r n L) (g : Cg l q x lim w w') (hb : r < lim ∧ r ≠ l ∧ r ≠ q ∧ r ≠ x) : MapF w' r n L := by
  obtain ⟨es, clock, h1, h2⟩ := h
  exact ⟨es, clock, (g.block r hb.1 hb.2.1 hb.2.2.1 hb.2.2.2).trans h1, h2⟩
theorem up_new {r b : Nat} {w w1 w2 : World} (h : Upd r w w1) (g : Upd b w1 w2) (hb : w.heap.size ≤ b) : Upd r w w2 :=
  ⟨g.os.trans h.os, g.tape.trans h.tape, g.output.trans h.output, Nat.le_trans h.size g.size, fun k hk hr => (g.block k (Nat.lt_of_lt_of_le hk h.size) (by simp; omega)).trans (h.block k hk hr)⟩
theorem up_cg {r l q x lim : Nat} {w w1 w2 : World} (h : Upd r w w1) (g : Cg l q x lim w1 w2) (hb : w.heap.size ≤ lim ∧ w.heap.size ≤ l ∧ w.heap.size ≤ q ∧ w.heap.size ≤ x) : Upd r w w2 :=
  ⟨g.os.trans h.os, g.tape.trans h.tape, g.output.trans h.output, Nat.le_trans h.size g.size, fun k hk hr => (g.block k (by omega) (by omega) (by omega) (by omega)).trans (h.block k hk hr)⟩
theorem ext_bw {w w1 w2 : World} (h : Ext w w1) (g : Below w.heap.size w1 w2) : Ext w w2 := ⟨g.os.trans h.os, g.tape.trans h.tape, g.output.trans h.output, Nat.le_trans h.size g.size, fun k hk _ => (g.block k hk).trans (h.block k hk (by simp))⟩
theorem okA {w w' : World} {base e n c c' : Nat} {A A' : Option Addr} {xs : List Value} {u v : Value} (hO : OwnS w base e 1 A n c xs) (hO2 : OwnS w' base e 1 A' (n + 1) c' (xs ++ [u])) (hx : Ext w w' ∨ (A' = A ∧ c' = c)) (g : w.grownBy w' (Value.ownBlock (.slice A n c))) :
    (∃ A4 c4, v = .slice A4 n c4 ∧ OwnS w base e 1 A4 n c4 xs) → ∃ A4 c4, v = .slice A4 n c4 ∧ OwnS w' base e 1 A4 n c4 xs := by
  rintro ⟨A4, c4, rfl, h⟩
  refine ⟨A4, c4, rfl, ?_⟩
  rcases h.2 with ⟨hv, h0⟩ | ⟨b, cap, cur, hv, hb, hg, h1, h2, hcs, h3⟩
  · exact ⟨h.1, .inl ⟨hv, h0⟩⟩
  · cases hv
    rcases hO.2 with ⟨hv, h0⟩ | ⟨b', cap', cur', hv, hb', hg', h1', h2', hcs', h3'⟩
    · exact h.kept g (fun k ek => by rw [hv] at ek; cases ek)
    · cases hv
      by_cases hbb : b = b'
      · subst hbb
        rw [hg] at hg'
        have : cur = cur' := by simpa using hg'
        subst this
        have : c4 = c := by omega
        subst this
        exact hO.app hO2 hx
      · exact h.kept g (fun k ek o hA => by
          have : b' = k := by simpa [Value.ownBlock] using ek
          cases hA; exact hbb this.symm)
theorem own_none {w : World} {base e sz n c : Nat} {xs : List Value} (h : OwnS w base e sz none (n + 1) c xs) : False := by
  rcases h.2 with ⟨_, h0⟩ | ⟨g, cap, cur, hv, _⟩
  · omega
  · cases hv
theorem news1 {w : World} {b : Nat} {u : Value} (h : w.cell? ⟨b, 0, none⟩ = some u) : ∀ j x, [u][j]? = some x → w.cell? ((⟨b, 0, none⟩ : Addr).add j) = some x := by
  intro j x hx
  cases j with
  | zero =>
    obtain rfl : u = x := by simpa using hx
    rw [addr_add]; exact h
  | succ j => simp at hx
theorem cell_upd {w w' : World} {b r : Nat} {k : IntKind} {i : Int} {t : TypeId} {A : Option Addr} {n c : Nat} (h : w.cell? ⟨b, 0, none⟩ = some (.int k i)) (hb : Bk w r t #[.slice A n c]) (g : Upd r w w') : w'.cell? ⟨b, 0, none⟩ = some (.int k i) := by
  have hne : b ≠ r := by
    rintro rfl
    rw [hb.cell] at h
    simp at h
  refine (World.cell?_of_block (g.block b ?_ (by simpa using hne))).trans h
  unfold World.cell? at h
  cases hq : w.heap[b]? with
  | none => simp [hq] at h
  | some o => exact (Array.getElem?_eq_some_iff.1 hq).1
theorem OwnS.new {w w' : World} {b base : Nat} {e : TypeId} {sz : Nat} (h : NewB w w' b e #[]) (hb : base ≤ w.heap.size) : OwnS w' base e sz (some ⟨b, 0, none⟩) 0 0 [] :=
  ⟨by simp, .inr ⟨b, 0, #[], rfl, by rw [h.b_eq]; exact hb, h.bk, Nat.le_refl _, by simp [maxLen], by simp, by simp⟩⟩
theorem x_eqv {x y : Operand} {t u : TypeId} {A B : Option Addr} {n c m d : Nat} {b : Bool} (hx : a.eval x = .slice A n c) (hy : a.eval y = .slice B m d) (h1 : (eqGuard .eql t x y (.slice A n c) (.slice B m d)).run P w = .ok () w) (h2 : (Op.equal t (.slice A n c) (.slice B m d)).run P w = .ok b w) : Ex1 P ⟨dst, .binOp .eql t x y u, ty, pos, aft, g⟩ a w (fun v w' => v = .bool b ∧ w' = w) :=
  ex1_value (by simp [execOp, hx, hy, binOp, h1, h2])
theorem x_append {s x : Operand} {t e : TypeId} {z : Value} {sz bytes : Nat} (ht : P.underlying t = some (.slice e)) (hi : (P.info? e).map (fun i => (i.zero, i.size, i.bytes)) = some (some z, sz, bytes)) (hzs : z.cells.size = sz) (hsz : 0 < sz)
    {A : Option Addr} {n c base : Nat} {xs : List Value} {b m cap : Nat} {t' : TypeId} {cs : Array Value} (hs : a.eval s = .slice A n c) (hx : a.eval x = .slice (some ⟨b, 0, none⟩) m cap) (hown : OwnS w base e sz A n c xs) (hb : Bk w b t' cs)
    (hl : cs.size = m * sz) (h1 : ∀ u ∈ cs.toList, u.oneCell' = true) (h63 : n + m ≤ maxLen) (hbytes : (n + m) * bytes ≤ 140737488355328) (hbase : base ≤ w.heap.size) :
    Ex1 P ⟨dst, .call { callee := .builtin .append, args := #[s, x], argTypes := #[t, t] }, ty, pos, aft, g⟩ a w (fun v w' => ∃ A' c', v = .slice A' (n + m) c' ∧ OwnS w' base e sz A' (n + m) c' (xs ++ cs.toList) ∧ w.grownBy w' (Value.ownBlock (.slice A n c))) := by
  cases hinf : P.info? e with
  | none => simp [hinf] at hi
  | some i =>
    simp only [hinf, Option.map_some, Option.some.injEq, Prod.mk.injEq] at hi
    obtain ⟨v', w', hr, h2, h3, h4, h5⟩ := run_append_own_at (P := P) w base t ty e i z sz bytes ht hinf hi.1 hi.2.1 hi.2.2 hzs hsz (.slice A n c) n xs hown ⟨b, 0, none⟩ m cap cs.toList (by simpa using hl) (fun j u hu => by
      have := hb.cell j
      simp only [addr_add, Nat.zero_add]
      rw [this]; simpa using hu) h1 h63 hbytes hbase
    have he : (execOp a.eval ⟨dst, .call { callee := .builtin .append, args := #[s, x], argTypes := #[t, t] }, ty, pos, aft, g⟩).run P w = .ok (.value v') w' := by
      unfold execOp
      simp only [resolve, invoke, builtin, Sem.run_bind, Sem.run_pure, Result.andThen_ok, List.map_toArray, List.map_cons, List.map_nil, hs, hx, hr]
    unfold Ex1
    rw [he]
    show ∃ A' c', _
    rcases h2.2 with ⟨rfl, h0⟩ | ⟨g', cap', cur, rfl, _⟩
    · refine ⟨none, 0, by rw [h0], ?_, h3⟩
      have := h2
      rw [h0] at this ⊢
      exact this
    · exact ⟨_, _, rfl, h2, h3⟩
end
theorem Cg.bw {l q x lim B : Nat} {w w' w'' : World} (h : Cg l q x lim w w') (g : Below B w' w'') (hB : lim ≤ B) : Cg l q x lim w w'' :=
  ⟨h.lo, g.os.trans h.os, g.tape.trans h.tape, g.output.trans h.output, Nat.le_trans h.size g.size, fun k hk h1 h2 h3 => (g.block k (by omega)).trans (h.block k hk h1 h2 h3)⟩
end Go.Proofs.Ythogdgkafaclaaa
end
section
namespace Go.Proofs.Ythogdgkafaclaaa
open Go.RowKit
/-- What lay on the blocks of Z lies there still, and these are blocks of Z'. -/
structure Mv (w : World) (Z : Nat → Prop) (w' : World) (Z' : Nat → Prop) : Prop where
  size : w.heap.size ≤ w'.heap.size
  stay : ∀ b, Z b → b < w.heap.size → Z' b ∧ w'.heap[b]? = w.heap[b]?
theorem Mv.refl (w : World) (Z : Nat → Prop) : Mv w Z w Z := ⟨Nat.le_refl _, fun _ h _ => ⟨h, rfl⟩⟩
theorem Mv.trans {w1 w2 w3 : World} {Z1 Z2 Z3 : Nat → Prop} (h : Mv w1 Z1 w2 Z2) (k : Mv w2 Z2 w3 Z3) : Mv w1 Z1 w3 Z3 :=
  ⟨Nat.le_trans h.size k.size, fun b hb hl => by
    obtain ⟨h1, h2⟩ := h.stay b hb hl
    obtain ⟨h3, h4⟩ := k.stay b h1 (Nat.lt_of_lt_of_le hl h.size)
    exact ⟨h3, h4.trans h2⟩⟩
theorem mv_ext {w w' : World} {Z : Nat → Prop} (h : Ext w w') : Mv w Z w' Z := ⟨h.size, fun b hb hl => ⟨hb, h.block b hl (by simp)⟩⟩
theorem mv_up {w : World} {Z Z' : Nat → Prop} (h : ∀ b, Z b → b < w.heap.size → Z' b) : Mv w Z w Z' := ⟨Nat.le_refl _, fun b hb hl => ⟨h b hb hl, rfl⟩⟩
/-- All blocks. -/
def ZA : Nat → Prop := fun _ => True
theorem mv_all {w : World} {Z : Nat → Prop} : Mv w Z w ZA := mv_up fun _ _ _ => trivial
/-- The cells of a slice at A. -/
def Rz (w : World) (Z : Nat → Prop) (A : Option Addr) (cs : List Value) : Prop :=
  cs = [] ∨ ∃ b o, A = some ⟨b, o, none⟩ ∧ Z b ∧ b < w.heap.size ∧ ∀ j u, cs[j]? = some u → w.cell? ⟨b, o + j, none⟩ = some u
theorem Rz.mv {w w' : World} {Z Z' : Nat → Prop} {A : Option Addr} {cs : List Value} (h : Rz w Z A cs) (g : Mv w Z w' Z') : Rz w' Z' A cs :=
  h.imp id fun ⟨b, o, hA, hZ, hl, hc⟩ => ⟨b, o, hA, (g.stay b hZ hl).1, Nat.lt_of_lt_of_le hl g.size, fun j u hu =>
    (World.cell?_of_block (a := ⟨b, o + j, none⟩) (g.stay b hZ hl).2).trans (hc j u hu)⟩
theorem Rz.cells {w : World} {Z : Nat → Prop} {b o : Nat} {cs : List Value} (h : Rz w Z (some ⟨b, o, none⟩) cs) : ∀ j u, cs[j]? = some u → w.cell? ⟨b, o + j, none⟩ = some u := by
  rcases h with rfl | ⟨b', o', hA, _, _, hc⟩
  · simp
  · cases hA; exact hc
theorem Rz.rd {w : World} {Z : Nat → Prop} {A : Option Addr} {cs : List Value} (h : Rz w Z A cs) : Rd w 0 w.heap.size A cs :=
  ⟨Nat.le_refl _, h.imp id fun ⟨b, o, hA, _, hl, hc⟩ => ⟨b, o, hA, Nat.zero_le _, hl, hc⟩⟩
theorem rz_of_rd {w : World} {lo hi : Nat} {A : Option Addr} {cs : List Value} {Z : Nat → Prop} (h : Rd w lo hi A cs) (hZ : ∀ b, lo ≤ b → b < hi → Z b) : Rz w Z A cs :=
  h.2.imp id fun ⟨b, o, hA, h1, h2, hc⟩ => ⟨b, o, hA, hZ b h1 h2, Nat.lt_of_lt_of_le h2 h.1, hc⟩
/-- How data of a kind lie in cells. -/
structure Enc (α : Type) where
  sz : Nat
  R : World → (Nat → Prop) → List Value → α → Prop
  len : ∀ {w Z cs x}, R w Z cs x → cs.length = sz
  one : ∀ {w Z cs x}, R w Z cs x → ∀ u ∈ cs, u.oneCell' = true
  mv : ∀ {w Z w' Z' cs x}, R w Z cs x → Mv w Z w' Z' → R w' Z' cs x
def R2 {α : Type} (e : Enc α) (w : World) (Z : Nat → Prop) : List (List Value) → List α → Prop
  | [], [] => True
  | c :: cs, x :: xs => e.R w Z c x ∧ R2 e w Z cs xs
  | _, _ => False
section
variable {α : Type} {e : Enc α} {w w' : World} {Z Z' : Nat → Prop}
theorem R2.len : ∀ {css : List (List Value)} {xs : List α}, R2 e w Z css xs → css.length = xs.length
  | [], [], _ => rfl
  | _ :: _, _ :: _, h => by simp [R2.len h.2]
  | [], _ :: _, h => h.elim
  | _ :: _, [], h => h.elim
theorem R2.mv (g : Mv w Z w' Z') : ∀ {css : List (List Value)} {xs : List α}, R2 e w Z css xs → R2 e w' Z' css xs
  | [], [], _ => trivial
  | _ :: _, _ :: _, h => ⟨e.mv h.1 g, R2.mv g h.2⟩
  | [], _ :: _, h => h.elim
  | _ :: _, [], h => h.elim
theorem R2.one : ∀ {css : List (List Value)} {xs : List α}, R2 e w Z css xs → ∀ u ∈ css.flatten, u.oneCell' = true
  | [], [], _ => by simp
  | c :: cs, _ :: _, h => by
    intro u hu
    rw [List.flatten_cons, List.mem_append] at hu
    exact hu.elim (e.one h.1 u) (R2.one h.2 u)
  | [], _ :: _, h => h.elim
  | _ :: _, [], h => h.elim
theorem R2.flen : ∀ {css : List (List Value)} {xs : List α}, R2 e w Z css xs → css.flatten.length = xs.length * e.sz
  | [], [], _ => by simp
  | c :: cs, _ :: xs, h => by
    rw [List.flatten_cons, List.length_append, e.len h.1, R2.flen h.2, List.length_cons, Nat.add_mul, Nat.one_mul, Nat.add_comm]
  | [], _ :: _, h => h.elim
  | _ :: _, [], h => h.elim
theorem R2.get : ∀ {css : List (List Value)} {xs : List α}, R2 e w Z css xs → ∀ {k : Nat} {x : α}, xs[k]? = some x → ∃ c, css[k]? = some c ∧ e.R w Z c x ∧ (css.flatten.drop (k * e.sz)).take e.sz = c
  | [], [], _, k, x, hk => by simp at hk
  | c :: cs, y :: xs, h, 0, x, hk => by
    obtain rfl : y = x := by simpa using hk
    refine ⟨c, rfl, h.1, ?_⟩
    have hl := e.len h.1
    rw [Nat.zero_mul, List.drop_zero, List.flatten_cons, List.take_append_of_le_length (by rw [hl]; exact Nat.le_refl _), List.take_of_length_le (by rw [hl]; exact Nat.le_refl _)]
  | c :: cs, y :: xs, h, k + 1, x, hk => by
    obtain ⟨c', h1, h2, h3⟩ := R2.get h.2 (k := k) (x := x) (by simpa using hk)
    refine ⟨c', by simpa using h1, h2, ?_⟩
    rw [← h3, List.flatten_cons, List.drop_append, e.len h.1, List.drop_of_length_le (by rw [e.len h.1, Nat.add_mul]; omega), List.nil_append]
    congr 2
    rw [Nat.add_mul]; omega
  | [], _ :: _, h, _, _, _ => h.elim
  | _ :: _, [], h, _, _, _ => h.elim
theorem R2.append : ∀ {css dss : List (List Value)} {xs ys : List α}, R2 e w Z css xs → R2 e w Z dss ys → R2 e w Z (css ++ dss) (xs ++ ys)
  | [], _, [], _, _, h => h
  | _ :: _, _, _ :: _, _, h, k => ⟨h.1, R2.append h.2 k⟩
  | [], _, _ :: _, _, h, _ => h.elim
  | _ :: _, _, [], _, h, _ => h.elim
theorem R2.drop : ∀ (k : Nat) {css : List (List Value)} {xs : List α}, R2 e w Z css xs → R2 e w Z (css.drop k) (xs.drop k)
  | 0, _, _, h => h
  | k + 1, [], [], _ => trivial
  | k + 1, _ :: cs, _ :: xs, h => by simpa using R2.drop k h.2
  | _ + 1, [], _ :: _, h => h.elim
  | _ + 1, _ :: _, [], h => h.elim
theorem R2.take : ∀ (k : Nat) {css : List (List Value)} {xs : List α}, R2 e w Z css xs → R2 e w Z (css.take k) (xs.take k)
  | 0, _, _, _ => trivial
  | k + 1, [], [], _ => trivial
  | k + 1, _ :: cs, _ :: xs, h => ⟨h.1, R2.take k h.2⟩
  | _ + 1, [], _ :: _, h => h.elim
  | _ + 1, _ :: _, [], h => h.elim
theorem R2.set {x : α} {c : List Value} (hx : e.R w Z c x) : ∀ (k : Nat) {css : List (List Value)} {xs : List α}, R2 e w Z css xs → R2 e w Z (css.set k c) (xs.set k x)
  | _, [], [], _ => trivial
  | 0, _ :: _, _ :: _, h => ⟨hx, h.2⟩
  | k + 1, _ :: cs, _ :: xs, h => ⟨h.1, R2.set hx k h.2⟩
  | _, [], _ :: _, h => h.elim
  | _, _ :: _, [], h => h.elim
end
/-- A slice at A, with room for c elements, that holds xs. -/
def Sl {α : Type} (e : Enc α) (w : World) (Z : Nat → Prop) (A : Option Addr) (c : Nat) (xs : List α) : Prop :=
  xs.length ≤ c ∧ (A = none → c = 0) ∧ ∃ css, R2 e w Z css xs ∧ Rz w Z A css.flatten
section
variable {α : Type} {e : Enc α} {w w' : World} {Z Z' : Nat → Prop} {A : Option Addr} {c : Nat} {xs : List α}
theorem Sl.mv (h : Sl e w Z A c xs) (g : Mv w Z w' Z') : Sl e w' Z' A c xs := ⟨h.1, h.2.1, h.2.2.imp fun _ ⟨h1, h2⟩ => ⟨h1.mv g, h2.mv g⟩⟩
theorem Sl.all (h : Sl e w Z A c xs) : Sl e w ZA A c xs := h.mv mv_all
theorem Sl.nil (e : Enc α) (w : World) (Z : Nat → Prop) : Sl e w Z none 0 [] := ⟨Nat.le_refl _, fun _ => rfl, [], trivial, .inl rfl⟩
/-- One element: where it lies, and what. -/
theorem Sl.elem (h : Sl e w Z A c xs) (h0 : 0 < e.sz) {k : Nat} {x : α} (hk : xs[k]? = some x) : ∃ b o cs, A = some ⟨b, o, none⟩ ∧ e.R w Z cs x ∧ Rz w Z (some ⟨b, o + k * e.sz, none⟩) cs := by
  obtain ⟨-, -, css, h2, h3⟩ := h
  obtain ⟨cs, hc, hR, ht⟩ := h2.get hk
  have hl := e.len hR
  have hlt : k < css.length := (List.getElem?_eq_some_iff.1 hc).1
  rcases h3 with h3 | ⟨b, o, hA, hZ, hl', hcell⟩
  · rw [h3] at ht
    simp at ht
    subst ht
    simp at hl; omega
  · refine ⟨b, o, cs, hA, hR, .inr ⟨b, _, rfl, hZ, hl', fun j u hu => ?_⟩⟩
    rw [Nat.add_assoc]
    refine hcell _ _ ?_
    subst ht
    rw [List.getElem?_take] at hu
    split at hu
    · simpa using hu
    · cases hu
theorem Sl.elem1 (h : Sl e w Z A c xs) (h1 : e.sz = 1) {k : Nat} {x : α} (hk : xs[k]? = some x) : ∃ b o cs, A = some ⟨b, o, none⟩ ∧ e.R w Z cs x ∧ Rz w Z (some ⟨b, o + k, none⟩) cs := by
  obtain ⟨b, o, cs, h2, h3, h4⟩ := h.elem (by omega) hk
  rw [h1, Nat.mul_one] at h4
  exact ⟨b, o, cs, h2, h3, h4⟩
end
def eInt (k : IntKind) : Enc Int := ⟨1, fun _ _ cs x => cs = [.int k x], fun h => by rw [h]; rfl, fun h => by rw [h]; simp [Value.oneCell'], fun h _ => h⟩
def eBool : Enc Bool := ⟨1, fun _ _ cs x => cs = [.bool x], fun h => by rw [h]; rfl, fun h => by rw [h]; simp [Value.oneCell'], fun h _ => h⟩
def eSl {α : Type} (e : Enc α) : Enc (List α) :=
  ⟨1, fun w Z cs xs => ∃ A c, cs = [.slice A xs.length c] ∧ Sl e w Z A c xs, fun ⟨_, _, h, _⟩ => by rw [h]; rfl, fun ⟨_, _, h, _⟩ => by rw [h]; simp [Value.oneCell'],
    fun ⟨A, c, h1, h2⟩ g => ⟨A, c, h1, h2.mv g⟩⟩
/-- Values as data. -/
structure VE (α : Type) where
  R : World → (Nat → Prop) → Value → α → Prop
  mv : ∀ {w Z w' Z' v x}, R w Z v x → Mv w Z w' Z' → R w' Z' v x
def vInt (k : IntKind) : VE Int := ⟨fun _ _ v x => v = .int k x, fun h _ => h⟩
def vBool : VE Bool := ⟨fun _ _ v x => v = .bool x, fun h _ => h⟩
def vSl {α : Type} (e : Enc α) : VE (List α) := ⟨fun w Z v xs => ∃ A c, v = .slice A xs.length c ∧ Sl e w Z A c xs, fun ⟨A, c, h1, h2⟩ g => ⟨A, c, h1, h2.mv g⟩⟩
def vAgg {α : Type} (e : Enc α) : VE α := ⟨fun w Z v x => ∃ cs, v = .agg cs.toArray ∧ e.R w Z cs x, fun h g => h.imp fun _ h => ⟨h.1, e.mv h.2 g⟩⟩
def vT2 {α β : Type} (a : VE α) (b : VE β) : VE (α × β) := ⟨fun w Z v x => ∃ u t, v = .tuple #[u, t] ∧ a.R w Z u x.1 ∧ b.R w Z t x.2, fun ⟨u, t, h, h1, h2⟩ g => ⟨u, t, h, a.mv h1 g, b.mv h2 g⟩⟩
def vT3 {α β γ : Type} (a : VE α) (b : VE β) (c : VE γ) : VE (α × β × γ) :=
  ⟨fun w Z v x => ∃ u t s, v = .tuple #[u, t, s] ∧ a.R w Z u x.1 ∧ b.R w Z t x.2.1 ∧ c.R w Z s x.2.2, fun ⟨u, t, s, h, h1, h2, h3⟩ g => ⟨u, t, s, h, a.mv h1 g, b.mv h2 g, c.mv h3 g⟩⟩
def Kv {α : Type} (v : VE α) (Z : Nat → Prop) (x : α) : Stb Ext := ⟨fun u w => v.R w Z u x, fun _ _ _ h g => v.mv h (mv_ext g)⟩
def ob : Option Addr → Option Nat := Option.map (·.block)
theorem ob_own (A : Option Addr) (n c : Nat) : Value.ownBlock (.slice A n c) = ob A := by cases A <;> rfl
/-- The blocks that do not turn any more: those of before, and those made since but for the ones in L. -/
def ZZ (Z : Nat → Prop) (n0 : Nat) (L : List (Option Nat)) : Nat → Prop := fun b => (Z b ∧ b < n0) ∨ (n0 ≤ b ∧ some b ∉ L)
/-- What has become of the world since the function began, and that what it owns is its own. -/
structure Hp (w0 : World) (L : List (Option Nat)) (w : World) : Prop where
  bl : Below w0.heap.size w0 w
  lo : ∀ k, some k ∈ L → w0.heap.size ≤ k ∧ k < w.heap.size
  ap : ∀ (i j : Nat) (x : Nat), i ≠ j → L[i]? = some (some x) → L[j]? ≠ some (some x)
theorem Hp.refl (w : World) : Hp w [] w := ⟨Below.refl _ _, fun _ h => (by cases h), fun _ _ _ _ h => by simp at h⟩
section
variable {w0 w w' : World} {Z : Nat → Prop} {L L' : List (Option Nat)}
theorem Hp.ext (h : Hp w0 L w) (g : Ext w w') : Hp w0 L w' := ⟨bl_ext h.bl g, fun k hk => ⟨(h.lo k hk).1, Nat.lt_of_lt_of_le (h.lo k hk).2 g.size⟩, h.ap⟩
theorem Hp.gr {r : Option Nat} (h : Hp w0 L w) (g : w.grownBy w' r) (hr : ∀ k, r = some k → w0.heap.size ≤ k) : Hp w0 L w' :=
  ⟨h.bl.grown g h.bl.size hr, fun k hk => ⟨(h.lo k hk).1, Nat.lt_of_lt_of_le (h.lo k hk).2 g.size⟩, h.ap⟩
theorem Hp.new (h : Hp w0 L w) (g : Ext w w') {b : Nat} (hb : w.heap.size ≤ b) (hs : b < w'.heap.size) : Hp w0 (some b :: L) w' := by
  have h' := h.ext g
  refine ⟨h'.bl, fun k hk => ?_, ?_⟩
  · rcases List.mem_cons.1 hk with e | hk
    · cases e; exact ⟨Nat.le_trans h.bl.size hb, hs⟩
    · exact h'.lo k hk
  · have key : ∀ (j : Nat) (x : Nat), L[j]? = some (some x) → x ≠ b := fun j x hx e => by
      have := (h.lo x (List.mem_of_getElem? hx)).2
      omega
    intro i j x hij hi hj
    cases i with
    | zero =>
      cases j with
      | zero => exact hij rfl
      | succ j =>
        have e1 : b = x := by simpa using hi
        exact key j x (by simpa using hj) e1.symm
    | succ i =>
      cases j with
      | zero =>
        have e1 : b = x := by simpa using hj
        exact key i x (by simpa using hi) e1.symm
      | succ j => exact h.ap i j x (by omega) (by simpa using hi) (by simpa using hj)
/-- A row of its own that has no block yet. -/
theorem Hp.nil (h : Hp w0 L w) : Hp w0 (none :: L) w := by
  refine ⟨h.bl, fun k hk => h.lo k (by simpa using hk), ?_⟩
  intro i j x hij hi hj
  cases i with
  | zero => simp at hi
  | succ i =>
    cases j with
    | zero => simp at hj
    | succ j => exact h.ap i j x (by omega) (by simpa using hi) (by simpa using hj)
/-- An entry has moved to a new block, or stands where it stood. -/
theorem Hp.row (h : Hp w0 L w) {r : Option Nat} (g : w.grownBy w' r) (i : Nat) {x y : Option Nat} (hi : L[i]? = some x) (hr : ∀ k, r = some k → w0.heap.size ≤ k) (hy : ∀ k, y = some k → (x = some k ∨ w.heap.size ≤ k) ∧ k < w'.heap.size) : Hp w0 (L.set i y) w' := by
  have h' := h.gr g hr
  refine ⟨h'.bl, fun k hk => ?_, ?_⟩
  · rcases List.mem_or_eq_of_mem_set hk with hk | e
    · exact h'.lo k hk
    · obtain ⟨h1, h2⟩ := hy k e.symm
      rcases h1 with h1 | h1
      · exact h'.lo k (by rw [← h1]; exact List.mem_of_getElem? hi)
      · exact ⟨Nat.le_trans h.bl.size h1, h2⟩
  · have hil : i < L.length := (List.getElem?_eq_some_iff.1 hi).1
    have key : ∀ (j z : Nat), j ≠ i → L[j]? = some (some z) → y ≠ some z := fun j z hj hz e => by
      rcases (hy z e).1 with h1 | h1
      · exact h.ap j i z hj hz (by rw [hi, h1])
      · have := (h.lo z (List.mem_of_getElem? hz)).2
        omega
    intro a b z hab ha hb
    by_cases hai : a = i
    · subst hai
      have e1 : y = some z := by simpa [List.getElem?_set, hil] using ha
      rw [List.getElem?_set_ne (by omega)] at hb
      exact key b z (by omega) hb e1
    · rw [List.getElem?_set_ne (by omega)] at ha
      by_cases hbi : b = i
      · subst hbi
        have e1 : y = some z := by simpa [List.getElem?_set, hil] using hb
        exact key a z hai ha e1
      · rw [List.getElem?_set_ne (by omega)] at hb
        exact h.ap a b z hab ha hb
theorem Hp.erase (h : Hp w0 L w) (i : Nat) : Hp w0 (L.eraseIdx i) w := by
  refine ⟨h.bl, fun k hk => h.lo k (List.mem_of_mem_eraseIdx hk), fun a b x hab ha hb => ?_⟩
  rw [List.getElem?_eraseIdx] at ha hb
  split at ha <;> split at hb
  · exact h.ap a b x hab ha hb
  · exact h.ap a (b + 1) x (by omega) ha hb
  · exact h.ap (a + 1) b x (by omega) ha hb
  · exact h.ap (a + 1) (b + 1) x (by omega) ha hb
theorem Hp.ge (h : Hp w0 L w) (i : Nat) {x : Option Nat} (hi : L[i]? = some x) : ∀ k, x = some k → w0.heap.size ≤ k := fun k e => (h.lo k (by rw [← e]; exact List.mem_of_getElem? hi)).1
theorem Hp.ne (h : Hp w0 L w) (i j : Nat) {x : Option Nat} {b : Nat} (hij : (i == j) = false) (hi : L[i]? = some (some b)) (hj : L[j]? = some x) : some b ≠ x := fun e => h.ap i j b (by simpa using hij) hi (by rw [hj, e])
/-- What stays abides a step on what is one's own. -/
theorem Hp.mv (h : Hp w0 L w) {r : Option Nat} (g : w.grownBy w' r) (i : Nat) (hi : L[i]? = some r) (hL : ∀ x ∈ L', x ∈ L ∨ ∀ k, x = some k → w.heap.size ≤ k) : Mv w (ZZ Z w0.heap.size L) w' (ZZ Z w0.heap.size L') := by
  refine ⟨g.size, fun b hb hl => ?_⟩
  have hbr : some b ≠ r := by
    rintro rfl
    rcases hb with ⟨_, h1⟩ | ⟨_, h1⟩
    · have := (h.lo b (List.mem_of_getElem? hi)).1; omega
    · exact h1 (List.mem_of_getElem? hi)
  refine ⟨hb.imp id fun ⟨h1, h2⟩ => ⟨h1, fun hm => ?_⟩, g.block b hl hbr⟩
  rcases hL _ hm with h3 | h3
  · exact h2 h3
  · have := h3 b rfl; omega
theorem Hp.mv0 (h : Hp w0 L w) {r : Option Nat} (g : w.grownBy w' r) (i : Nat) (hi : L[i]? = some r) : Mv w (ZZ Z w0.heap.size L) w' (ZZ Z w0.heap.size L) := h.mv g i hi fun _ h => .inl h
theorem Hp.mvr (h : Hp w0 L w) {r : Option Nat} (g : w.grownBy w' r) (i : Nat) (hi : L[i]? = some r) {y : Option Nat} (hy : ∀ k, y = some k → (r = some k ∨ w.heap.size ≤ k)) : Mv w (ZZ Z w0.heap.size L) w' (ZZ Z w0.heap.size (L.set i y)) :=
  h.mv g i hi fun x hx => by
    rcases List.mem_or_eq_of_mem_set hx with hx | e
    · exact .inl hx
    · subst e
      by_cases hxr : x = r
      · exact .inl (by rw [hxr]; exact List.mem_of_getElem? hi)
      · refine .inr fun k hk => ?_
        rcases hy k hk with h1 | h1
        · exact absurd (hk.trans h1.symm) hxr
        · exact h1
theorem mv_new (g : Ext w w') {b : Nat} (hb : w.heap.size ≤ b) : Mv w (ZZ Z w0.heap.size L) w' (ZZ Z w0.heap.size (some b :: L)) :=
  ⟨g.size, fun k hk hl => ⟨hk.imp id fun ⟨h1, h2⟩ => ⟨h1, fun hm => by
    rcases List.mem_cons.1 hm with e | hm
    · cases e; omega
    · exact h2 hm⟩, g.block k hl (by simp)⟩⟩
theorem mv_nil : Mv w (ZZ Z w0.heap.size L) w (ZZ Z w0.heap.size (none :: L)) := mv_up fun b hb _ => hb.imp id fun ⟨h1, h2⟩ => ⟨h1, by simpa using h2⟩
theorem mv_sub (h : ∀ x ∈ L', x ∈ L) : Mv w (ZZ Z w0.heap.size L) w (ZZ Z w0.heap.size L') := mv_up fun b hb _ => hb.imp id fun ⟨h1, h2⟩ => ⟨h1, fun hm => h2 (h _ hm)⟩
theorem mv_drop : Mv w (ZZ Z w0.heap.size L) w (ZZ Z w0.heap.size []) := mv_sub fun _ h => by cases h
theorem mv_erase (i : Nat) : Mv w (ZZ Z w0.heap.size L) w (ZZ Z w0.heap.size (L.eraseIdx i)) := mv_sub fun _ h => List.mem_of_mem_eraseIdx h
theorem mv_start (w : World) : Mv w Z w (ZZ Z w.heap.size []) := mv_up fun b hb hl => .inl ⟨hb, hl⟩
/-- What a call has made stays. -/
theorem Hp.call {w2 : World} (h : Hp w0 L w) (hs : w.heap.size ≤ w2.heap.size) : Mv w' (ZZ (ZZ Z w0.heap.size L) w2.heap.size []) w' (ZZ Z w0.heap.size L) :=
  mv_up fun b hb _ => by
    rcases hb with ⟨h1, _⟩ | ⟨h1, _⟩
    · exact h1
    · refine .inr ⟨?_, fun hm => ?_⟩
      · have := h.bl.size; omega
      · have := (h.lo b hm).2; omega
theorem Hp.fin (h : Hp w0 L w) : Ext w0 w := ext_of_below h.bl
theorem Bk.gr {b : Nat} {t : TypeId} {cs : Array Value} {r : Option Nat} (h : Bk w b t cs) (g : w.grownBy w' r) (hne : some b ≠ r) : Bk w' b t cs := (g.block b h.lt hne).trans h
end
/-- A slice that grows, its own row. -/
def OwnR {α : Type} (e : Enc α) (t : TypeId) (w0 w : World) (Z : Nat → Prop) (A : Option Addr) (c : Nat) (xs : List α) : Prop :=
  ∃ css, R2 e w Z css xs ∧ OwnS w w0.heap.size t e.sz A xs.length c css.flatten
section
variable {α : Type} {e : Enc α} {t : TypeId} {w0 w w' : World} {Z Z' : Nat → Prop} {A : Option Addr} {c : Nat} {xs : List α}
theorem OwnR.nil (e : Enc α) (t : TypeId) (w0 w : World) (Z : Nat → Prop) : OwnR e t w0 w Z none 0 [] := ⟨[], trivial, OwnS.nil _ _ _ _⟩
theorem OwnR.gr (h : OwnR e t w0 w Z A c xs) {r : Option Nat} (g : w.grownBy w' r) (hr : ∀ k, ob A = some k → some k ≠ r) (hm : Mv w Z w' Z') : OwnR e t w0 w' Z' A c xs := by
  obtain ⟨css, h1, h2⟩ := h
  exact ⟨css, h1.mv hm, h2.kept g fun k ek o hA => hr k (by rw [hA]; rfl) ek.symm⟩
theorem OwnR.ext (h : OwnR e t w0 w Z A c xs) (g : Ext w w') (hm : Mv w Z w' Z') : OwnR e t w0 w' Z' A c xs := h.gr g (fun _ _ e => by cases e) hm
theorem OwnR.up (h : OwnR e t w0 w Z A c xs) (hm : Mv w Z w Z') : OwnR e t w0 w Z' A c xs := by
  obtain ⟨css, h1, h2⟩ := h
  exact ⟨css, h1.mv hm, h2⟩
theorem OwnR.sl (h : OwnR e t w0 w Z A c xs) (hZ : ∀ k, ob A = some k → w0.heap.size ≤ k → Z k) : Sl e w Z A c xs := by
  obtain ⟨css, h1, h2⟩ := h
  have h3 := h2
  rcases h2.2 with ⟨hv, h0⟩ | ⟨g, cap, cur, hv, hbg, hg, hnc, _, _, _⟩
  · have : xs = [] := List.eq_nil_of_length_eq_zero h0
    subst this
    cases hv
    exact Sl.nil _ _ _
  · cases hv
    refine ⟨hnc, (fun e => by cases e), css, h1, ?_⟩
    refine rz_of_rd (hi := g + 1) (lo := g) ?_ (fun b h1 h2 => by
      obtain rfl : b = g := by omega
      exact hZ b rfl hbg)
    refine ⟨lt_of_block hg, .inr ⟨g, 0, rfl, Nat.le_refl _, Nat.lt_succ_self _, fun j u hu => ?_⟩⟩
    have := World.ownsRow.cells h3 (g := g) rfl j u hu
    rw [addr_add] at this
    exact this
theorem OwnR.all (h : OwnR e t w0 w Z A c xs) : Sl e w ZA A c xs := (h.up mv_all).sl fun _ _ _ => trivial
/-- At the end. -/
theorem OwnR.fin {L : List (Option Nat)} (h : OwnR e t w0 w (ZZ Z w0.heap.size L) A c xs) : Sl e w (ZZ Z w0.heap.size []) A c xs := (h.up mv_drop).sl fun k _ hk => .inr ⟨hk, by simp⟩
theorem OwnR.blk (h : OwnR e t w0 w Z A c xs) : ∀ k, ob A = some k → k < w.heap.size := by
  obtain ⟨css, h1, h2⟩ := h
  intro k hk
  rcases h2.2 with ⟨hv, h0⟩ | ⟨g, cap, cur, hv, hbg, hg, _⟩
  · obtain ⟨rfl, -, -⟩ := Value.slice.inj hv; cases hk
  · cases hv; cases hk; exact lt_of_block hg
end
def i64 (x : Int) : Option Int := if -9223372036854775808 ≤ x ∧ x ≤ 9223372036854775807 then some x else none
theorem i64_some {x y : Int} (h : i64 x = some y) : y = x ∧ fits x := by
  unfold i64 at h
  split at h
  · exact ⟨(Option.some.inj h).symm, by assumption⟩
  · cases h
theorem i64_eq {x : Int} (h0 : -9223372036854775808 ≤ x) (h1 : x ≤ 9223372036854775807) : i64 x = some x := if_pos ⟨h0, h1⟩
def idx {α : Type} (xs : List α) (i : Int) : Option α := if 0 ≤ i then xs[i.toNat]? else none
theorem idx_some {α : Type} {xs : List α} {i : Int} {x : α} (h : idx xs i = some x) : ∃ k : Nat, i = k ∧ xs[k]? = some x ∧ k < xs.length := by
  unfold idx at h
  split at h
  · exact ⟨i.toNat, by omega, h, (List.getElem?_eq_some_iff.1 h).1⟩
  · cases h
theorem idx_eq {α : Type} {xs : List α} {k : Nat} (h : k < xs.length) : idx xs (k : Int) = some xs[k] := by
  unfold idx; rw [if_pos (by omega)]; simp [h]
def quo (a b : Int) : Option Int := if 0 ≤ a ∧ 1 ≤ b then some (a / b) else none
theorem quo_some {a b y : Int} (h : quo a b = some y) : y = a / b ∧ 0 ≤ a ∧ 1 ≤ b := by
  unfold quo at h
  split at h
  · exact ⟨(Option.some.inj h).symm, by assumption⟩
  · cases h
def rem (a b : Int) : Option Int := if 0 ≤ a ∧ 1 ≤ b then some (a % b) else none
theorem rem_some {a b y : Int} (h : rem a b = some y) : y = a % b ∧ 0 ≤ a ∧ 1 ≤ b := by
  unfold rem at h
  split at h
  · exact ⟨(Option.some.inj h).symm, by assumption⟩
  · cases h
theorem i64_bind {α : Type} {x : Int} {f : Int → Option α} {r : α} (h : (i64 x).bind f = some r) : fits x ∧ f x = some r := by
  obtain ⟨y, h1, h2⟩ := Option.bind_eq_some_iff.1 h
  obtain ⟨rfl, hf⟩ := i64_some h1
  exact ⟨hf, h2⟩
theorem idx_bind {α β : Type} {xs : List α} {i : Int} {f : α → Option β} {r : β} (h : (idx xs i).bind f = some r) : ∃ (k : Nat) (x : α), i = k ∧ xs[k]? = some x ∧ k < xs.length ∧ f x = some r := by
  obtain ⟨x, h1, h2⟩ := Option.bind_eq_some_iff.1 h
  obtain ⟨k, h3, h4, h5⟩ := idx_some h1
  exact ⟨k, x, h3, h4, h5, h2⟩
theorem quo_bind {α : Type} {a b : Int} {f : Int → Option α} {r : α} (h : (quo a b).bind f = some r) : (0 ≤ a ∧ 1 ≤ b) ∧ f (a / b) = some r := by
  obtain ⟨y, h1, h2⟩ := Option.bind_eq_some_iff.1 h
  obtain ⟨rfl, hf⟩ := quo_some h1
  exact ⟨hf, h2⟩
theorem rem_bind {α : Type} {a b : Int} {f : Int → Option α} {r : α} (h : (rem a b).bind f = some r) : (0 ≤ a ∧ 1 ≤ b) ∧ f (a % b) = some r := by
  obtain ⟨y, h1, h2⟩ := Option.bind_eq_some_iff.1 h
  obtain ⟨rfl, hf⟩ := rem_some h1
  exact ⟨hf, h2⟩
/-- The fact that is wanted of numbers, or no answer. -/
def ifo (p : Prop) [Decidable p] : Option Unit := if p then some () else none
theorem ifo_bind {α : Type} {p : Prop} [Decidable p] {f : Unit → Option α} {r : α} (h : (ifo p).bind f = some r) : p ∧ f () = some r := by
  unfold ifo at h
  split at h
  · exact ⟨by assumption, h⟩
  · cases h
theorem cond_t {α : Type} {b : Bool} {x y : Option α} {r : α} (h : cond b x y = some r) (hb : b = true) : x = some r := by subst hb; exact h
theorem cond_f {α : Type} {b : Bool} {x y : Option α} {r : α} (h : cond b x y = some r) (hb : b = false) : y = some r := by subst hb; exact h
theorem bind_some {α β : Type} {x : Option α} {f : α → Option β} {r : β} (h : x.bind f = some r) : ∃ a, x = some a ∧ f a = some r := Option.bind_eq_some_iff.1 h
theorem inl_some {α β γ : Type} {x : α} {f : α → Option γ} {g : β → Option γ} {r : γ} (h : Sum.elim f g (.inl x) = some r) : f x = some r := h
theorem inr_some {α β γ : Type} {x : β} {f : α → Option γ} {g : β → Option γ} {r : γ} (h : Sum.elim f g (.inr x) = some r) : g x = some r := h
theorem cw_mono {P : Program} {ro : Option Nat} {c : Code} {Q Q' : Exit → Act → World → Prop} {a : Act} {w : World} (h : CW P ro c Q a w) (hq : ∀ e a w, Q e a w → Q' e a w) : CW P ro c Q' a w := by
  intro b k cs hro hb hrm
  obtain ⟨e, a₁, w₁, h1, h2⟩ := h b k cs hro hb hrm
  exact ⟨e, a₁, w₁, hq _ _ _ h1, h2⟩
/-- Where ways meet. -/
theorem cc_join {P : Program} {X : Ctx} {N : Nat} {c : Code} {Q : Exit → Act → World → Prop} {a : Act} {l : Env} {w : World} (J : Exit → Act → World → Prop) (h : CC P X N c J a l w) (hq : ∀ e a w, J e a w → Q e a w) : CC P X N c Q a l w :=
  fun s => cw_mono (h s) hq
theorem lv_fr {X : Ctx} {N : Nat} {Q : Exit → Act → World → Prop} {e : Exit} {a : Act} {w : World} (hsz : a.tmps.size = N) (hdf : a.defers = X.ds) (h : LV X N Q e a [] w) : Q e a w := h ⟨hsz, hdf, fun _ hp => by cases hp⟩
theorem lv_to {X : Ctx} {N : Nat} {Q : Exit → Act → World → Prop} {e : Exit} {a : Act} {l : Env} {w : World} (h : St X N a l → Q e (puts a l) w) : LV X N Q e a l w := h
section
variable {P : Program} {a : Act} {w : World} {dst : Option Tmp} {ty : TypeId} {pos : String} {aft : Array Edge} {g : Option (Nat × Bool)}
/-- A cell of an element. -/
theorem x_load_z {t : TypeId} {x : Operand} {Z : Nat → Prop} {b o k : Nat} {cs : List Value} {v : Value} (h : One P t) (hx : a.eval x = .pointer (some ⟨b, o + k, none⟩)) (hr : Rz w Z (some ⟨b, o, none⟩) cs) (hc : cs[k]? = some v) :
    Ex1 P ⟨dst, .load t x, ty, pos, aft, g⟩ a w (fun u w' => u = v ∧ w' = w) := x_load_rd h hx hr.cells hc
theorem x_load_z0 {t : TypeId} {x : Operand} {Z : Nat → Prop} {b o : Nat} {cs : List Value} {v : Value} (h : One P t) (hx : a.eval x = .pointer (some ⟨b, o, none⟩)) (hr : Rz w Z (some ⟨b, o, none⟩) cs) (hc : cs[0]? = some v) :
    Ex1 P ⟨dst, .load t x, ty, pos, aft, g⟩ a w (fun u w' => u = v ∧ w' = w) := x_load_rd (k := 0) h hx hr.cells hc
theorem x_load_zn0 {t : TypeId} {x : Operand} {Z : Nat → Prop} {n b o : Nat} {cs l : List Value} (h : Agg P t n) (hx : a.eval x = .pointer (some ⟨b, o, none⟩)) (hr : Rz w Z (some ⟨b, o, none⟩) cs)
    (hl : cs.take n = l) (hn : l.length = n) : Ex1 P ⟨dst, .load t x, ty, pos, aft, g⟩ a w (fun u w' => u = .agg l.toArray ∧ w' = w) := x_load_rdn (k := 0) h hx hr.cells (by simpa using hl) hn
/-- Append to a row of one's own. -/
theorem x_appR {α : Type} {e : Enc α} {s x : Operand} {t et : TypeId} {z : Value} {sz bytes : Nat} (ht : P.underlying t = some (.slice et)) (hi : (P.info? et).map (fun i => (i.zero, i.size, i.bytes)) = some (some z, sz, bytes)) (hzs : z.cells.size = sz) (hsz : e.sz = sz) (h0 : 0 < sz)
    {w0 : World} {Z : Nat → Prop} {A B : Option Addr} {c d n : Nat} {xs ys : List α} (hs : a.eval s = .slice A n c) (hn : xs.length = n) (hx : a.eval x = .slice B ys.length d) (hown : OwnR e et w0 w Z A c xs) (hZy : ∃ css, R2 e w Z css ys ∧ Rz w ZA B css.flatten)
    (h63 : xs.length + ys.length ≤ maxLen) (hbytes : (xs.length + ys.length) * bytes ≤ 140737488355328) (hbase : w0.heap.size ≤ w.heap.size) (hne : ys ≠ []) :
    Ex1 P ⟨dst, .call { callee := .builtin .append, args := #[s, x], argTypes := #[t, t] }, ty, pos, aft, g⟩ a w (fun v w' => ∃ A' c', v = .slice A' (xs ++ ys).length c' ∧ w.grownBy w' (ob A) ∧ (∀ k, ob A' = some k → (ob A = some k ∨ w.heap.size ≤ k) ∧ k < w'.heap.size) ∧
      ∃ css dss, R2 e w Z css xs ∧ R2 e w Z dss ys ∧ OwnS w' w0.heap.size et e.sz A' (xs ++ ys).length c' (css ++ dss).flatten) := by
  obtain ⟨css, h2, hO⟩ := hown
  obtain ⟨dss, k2, hB⟩ := hZy
  subst hsz
  subst hn
  have hB0 : dss.flatten ≠ [] := fun hh => by
    have := k2.flen; rw [hh] at this
    have hl : 0 < ys.length := List.length_pos_iff.2 hne
    have := Nat.mul_pos hl h0
    simp at *; omega
  obtain ⟨b, o, rfl, -, -, hc⟩ := hB.resolve_left hB0
  refine (x_appendG (ad := ⟨b, o, none⟩) (news := dss.flatten) (m := ys.length) ht hi hzs h0 hs hx hO (fun j u hu => by rw [addr_add]; exact hc j u hu) k2.flen k2.one h63 hbytes hbase).mono ?_
  rintro v w' ⟨A', c', rfl, hO', hg, -, hf⟩
  rw [ob_own] at hg
  refine ⟨A', c', by rw [List.length_append], hg, fun k hk => ?_, css, dss, h2, k2, by rw [List.length_append, List.flatten_append]; exact hO'⟩
  have hbl := hO'.blk (k := k) (o := 0)
  rcases hO'.2 with ⟨hv, _⟩ | ⟨g', cap', cur', hv, _, hg', _⟩
  · obtain ⟨rfl, -, -⟩ := Value.slice.inj hv; cases hk
  · cases hv
    have hkg : g' = k := by simpa [ob] using hk
    subst hkg
    refine ⟨?_, lt_of_block hg'⟩
    rcases hf g' 0 rfl with ⟨o', hA⟩ | h
    · left; rw [hA]; rfl
    · exact .inr h
theorem ownR_of {α : Type} {e : Enc α} {t : TypeId} {w0 w w' : World} {Z Z' : Nat → Prop} {A : Option Addr} {c : Nat} {xs ys : List α}
    (h : ∃ css dss, R2 e w Z css xs ∧ R2 e w Z dss ys ∧ OwnS w' w0.heap.size t e.sz A (xs ++ ys).length c (css ++ dss).flatten) (hm : Mv w Z w' Z') : OwnR e t w0 w' Z' A c (xs ++ ys) := by
  obtain ⟨css, dss, h1, h2, h3⟩ := h
  exact ⟨css ++ dss, (h1.mv hm).append (h2.mv hm), h3⟩
theorem Sl.news {α : Type} {e : Enc α} {Z : Nat → Prop} {A : Option Addr} {c : Nat} {xs : List α} (h : Sl e w Z A c xs) : ∃ css, R2 e w Z css xs ∧ Rz w ZA A css.flatten := by
  obtain ⟨_, _, css, h1, h2⟩ := h
  exact ⟨css, h1, h2.mv mv_all⟩
/-- A literal slice: its cells lie in a block of their own. -/
theorem news_bk {α : Type} {e : Enc α} {Z : Nat → Prop} {b : Nat} {t : TypeId} {cs : Array Value} {css : List (List Value)} {xs : List α} (hb : Bk w b t cs) (h : R2 e w Z css xs) (hc : css.flatten = cs.toList) : ∃ css, R2 e w Z css xs ∧ Rz w ZA (some ⟨b, 0, none⟩) css.flatten :=
  ⟨css, h, .inr ⟨b, 0, rfl, trivial, hb.lt, fun j u hu => by rw [Nat.zero_add, hb.cell]; rw [hc] at hu; simpa using hu⟩⟩
theorem sl_bk {α : Type} {e : Enc α} {Z : Nat → Prop} {b : Nat} {t : TypeId} {cs : Array Value} {css : List (List Value)} {xs : List α} (hb : Bk w b t cs) (hZ : Z b) (h : R2 e w Z css xs) (hc : css.flatten = cs.toList) {c : Nat} (hl : xs.length ≤ c) : Sl e w Z (some ⟨b, 0, none⟩) c xs :=
  ⟨hl, (fun e => by cases e), css, h, .inr ⟨b, 0, rfl, hZ, hb.lt, fun j u hu => by rw [Nat.zero_add, hb.cell]; rw [hc] at hu; simpa using hu⟩⟩
end
end Go.Proofs.Ythogdgkafaclaaa
end
section
namespace Go.Proofs.Ythogdgkafaclaaa
open Go.RowKit Go.WideShapes
section
variable {w0 w w' w'' : World} {Z : Nat → Prop} {L : List (Option Nat)}
theorem World.grownBy.but' {r : Option Nat} (h : Ext w w') : w.grownBy w' r := ⟨h.os, h.tape, h.output, h.size, fun k hk _ => h.block k hk (by simp)⟩
/-- A row that grows no more. -/
theorem Hp.frz {α : Type} {e : Enc α} {t : TypeId} {A : Option Addr} {c : Nat} {xs : List α} (h : Hp w0 L w) (i : Nat) (hi : L[i]? = some (ob A)) (hr : OwnR e t w0 w (ZZ Z w0.heap.size L) A c xs) : Sl e w (ZZ Z w0.heap.size (L.eraseIdx i)) A c xs :=
  (hr.up (mv_erase i)).sl fun k hk h0 => .inr ⟨h0, fun hm => by
    obtain ⟨j, hj⟩ := List.mem_iff_getElem?.1 hm
    rw [List.getElem?_eraseIdx] at hj
    split at hj
    · exact h.ap i j k (by omega) (by rw [hi, hk]) hj
    · exact h.ap i (j + 1) k (by omega) (by rw [hi, hk]) hj⟩
theorem Hp.lit {b : Nat} (h : Hp w0 L w) (i : Nat) (hi : L[i]? = some (some b)) : ZZ Z w0.heap.size (L.eraseIdx i) b :=
  .inr ⟨(h.lo b (List.mem_of_getElem? hi)).1, fun hm => by
    obtain ⟨j, hj⟩ := List.mem_iff_getElem?.1 hm
    rw [List.getElem?_eraseIdx] at hj
    split at hj
    · exact h.ap i j b (by omega) hi hj
    · exact h.ap i (j + 1) b (by omega) hi hj⟩
/-- A literal slice is a row of one's own. -/
theorem row_bk {α : Type} {e : Enc α} {b : Nat} {t : TypeId} {cs : Array Value} {css : List (List Value)} {xs : List α} (hb : Bk w b t cs) (hlo : w0.heap.size ≤ b) (h : R2 e w Z css xs) (hc : css.flatten = cs.toList) (hm : xs.length ≤ maxLen) : OwnR e t w0 w Z (some ⟨b, 0, none⟩) xs.length xs := by
  have hl := h.flen
  have hsz : cs.size = xs.length * e.sz := by rw [← hl, hc]; simp
  refine ⟨css, h, hl, .inr ⟨b, xs.length, cs, rfl, hlo, hb, Nat.le_refl _, hm, hsz, ?_⟩⟩
  rw [hc, List.take_of_length_le (by simp [hsz])]
def T3 (w : World) (r : Option Nat) : Nat → World → Prop
  | 0, w' => Ext w w'
  | _ + 1, w' => w.grownBy w' r
variable {r : Option Nat} {ph : Nat}
theorem T3_gr (h : T3 w r ph w') : w.grownBy w' r := by
  cases ph with
  | zero => exact World.grownBy.but' h
  | succ => exact h
theorem T3_zero (h : T3 w r ph w') (hp : ph = 0) : Ext w w' := by subst hp; exact h
theorem T3_ext (h : T3 w r ph w') (g : Ext w' w'') : T3 w r ph w'' := by
  cases ph with
  | zero => exact Ext.trans h g
  | succ => exact World.grownBy.trans (show w.grownBy w' r from h) (World.grownBy.but' g)
theorem T3_up (h : T3 w r ph w') (hp : ph = 0) (g : w'.grownBy w'' r) : T3 w r (ph + 1) w'' := by
  subst hp; exact World.grownBy.trans (World.grownBy.but' h) g
theorem T3_all (h : Ext w w') (g : w'.grownBy w'' r) : w.grownBy w'' r := World.grownBy.trans (World.grownBy.but' h) g
theorem T3_y {x y : Option Nat} (h : Ext w w') (g : ∀ k, y = some k → (x = some k ∨ w'.heap.size ≤ k) ∧ k < w''.heap.size) : ∀ k, y = some k → (x = some k ∨ w.heap.size ≤ k) ∧ k < w''.heap.size :=
  fun k hk => ⟨(g k hk).1.imp id fun h1 => Nat.le_trans h.size h1, (g k hk).2⟩
end
section
variable {P : Program} {L : List Oper} {a : Act} {l : Env} {T : Nat → Act → World → Prop} {Φ : Nat → Value → World → Prop} {sp : List Nat} {S : Nat → World → World → Prop} {k : Nat} {op : Op} {ty : TypeId} {pos : String} {aft : Array Edge} {dst : Option Nat}
theorem od {c : Value} (hs : sp.contains k = false) (hΦ : ∀ w, Φ k c w) (h : ∀ {a' w' ph}, Know L a l T Φ sp k ⟨dst, op, ty, pos, aft, none⟩ a' w' ph → Ex1 P ⟨dst, op, ty, pos, aft, none⟩ a' w' (fun u w'' => u = c ∧ w'' = w')) : ObOp P L a l S T Φ sp k ⟨dst, op, ty, pos, aft, none⟩ :=
  ob_det rfl hs hΦ fun _ _ _ K => h K
end
def RVal (P : Program) (a : Act) (l : Env) (w : World) : ResultVar → Value → Prop
  | .tmp t, v => ev a l (.tmp t) = v
  | .cell p t, v => ∃ ad, ev a l (.tmp p) = .pointer (some ad) ∧ (loadVar t ad).run P w = .ok v w
section
variable {P : Program} {N : Nat} {a : Act} {l : Env} {w : World}
theorem lv_retm2 {fn : Func} {r1 r2 : ResultVar} {v v' : Value} {R : Value → World → Prop} (hr : fn.results = #[r1, r2]) (h1 : RVal P a l w r1 v) (h2 : RVal P a l w r2 v') (h : R (.tuple #[v, v']) w) :
    LV X0 N (bodyPost P fn (fun e w' => ∃ v, e = .returned v ∧ R v w')) .ret a l w := fun s => by
  refine bodyPost_ret (v := .tuple #[v, v']) ?_ (by rw [puts_defers, s.df]) ⟨_, rfl, h⟩
  cases r1 with
  | tmp t =>
    have e1 : (puts a l).tmps.getD t undef = v := ee s h1
    simp only [Array.getD_eq_getD_getElem?] at e1
    cases r2 with
    | tmp u =>
      have e2 : (puts a l).tmps.getD u undef = v' := ee s h2
      simp only [Array.getD_eq_getD_getElem?] at e2
      simp [results, hr, e1, e2]
    | cell p t =>
      obtain ⟨ad, k1, k2⟩ := h2
      have e2 : (puts a l).tmps.getD p undef = .pointer (some ad) := ee s k1
      simp only [Array.getD_eq_getD_getElem?] at e2
      simp [results, hr, e1, e2, asAddr, k2]
  | cell q t =>
    obtain ⟨ad1, k1, k2⟩ := h1
    have e1 : (puts a l).tmps.getD q undef = .pointer (some ad1) := ee s k1
    simp only [Array.getD_eq_getD_getElem?] at e1
    cases r2 with
    | tmp u =>
      have e2 : (puts a l).tmps.getD u undef = v' := ee s h2
      simp only [Array.getD_eq_getD_getElem?] at e2
      simp [results, hr, e1, e2, asAddr, k2]
    | cell p t =>
      obtain ⟨ad, k3, k4⟩ := h2
      have e2 : (puts a l).tmps.getD p undef = .pointer (some ad) := ee s k3
      simp only [Array.getD_eq_getD_getElem?] at e2
      simp [results, hr, e1, e2, asAddr, k2, k4]
end
def shlI (a n : Int) : Int := a * 2 ^ n.toNat
def shlO (a n : Int) : Option Unit := if 0 ≤ n ∧ n < 64 ∧ -9223372036854775808 ≤ a * 2 ^ n.toNat ∧ a * 2 ^ n.toNat ≤ 9223372036854775807 then some () else none
theorem shlO_bind {α : Type} {a n : Int} {f : Unit → Option α} {r : α} (h : (shlO a n).bind f = some r) : (0 ≤ n ∧ n < 64 ∧ fits (shlI a n)) ∧ f () = some r := by
  unfold shlO at h
  split at h
  · rename_i h1; exact ⟨⟨h1.1, h1.2.1, h1.2.2⟩, h⟩
  · cases h
def shrI (a n : Int) : Int := a / 2 ^ n.toNat
def shrO (_a n : Int) : Option Unit := if 0 ≤ n ∧ n < 64 then some () else none
theorem shrO_bind {α : Type} {a n : Int} {f : Unit → Option α} {r : α} (h : (shrO a n).bind f = some r) : (0 ≤ n ∧ n < 64) ∧ f () = some r := by
  unfold shrO at h
  split at h
  · exact ⟨by assumption, h⟩
  · cases h
def bitO (a b : Int) : Option Unit := if (0 ≤ a ∧ a ≤ 9223372036854775807) ∧ (0 ≤ b ∧ b ≤ 9223372036854775807) then some () else none
theorem bitO_bind {α : Type} {a b : Int} {f : Unit → Option α} {r : α} (h : (bitO a b).bind f = some r) : ((0 ≤ a ∧ a ≤ 9223372036854775807) ∧ (0 ≤ b ∧ b ≤ 9223372036854775807)) ∧ f () = some r := by
  unfold bitO at h
  split at h
  · exact ⟨by assumption, h⟩
  · cases h
def andI (a b : Int) : Int := ((a.toNat &&& b.toNat : Nat) : Int)
def orI (a b : Int) : Int := ((a.toNat ||| b.toNat : Nat) : Int)
def andNotI (a b : Int) : Int := ((a.toNat ^^^ (a.toNat &&& b.toNat) : Nat) : Int)
def cvO (k : IntKind) (n : Int) : Option Unit := if k.wrap n = n then some () else none
theorem cvO_bind {α : Type} {k : IntKind} {n : Int} {f : Unit → Option α} {r : α} (h : (cvO k n).bind f = some r) : k.wrap n = n ∧ f () = some r := by
  unfold cvO at h
  split at h
  · exact ⟨by assumption, h⟩
  · cases h
section
variable {P : Program} {a : Act} {w : World} {dst : Option Tmp} {ty : TypeId} {pos : String} {aft : Array Edge} {g : Option (Nat × Bool)}
theorem x_quoN {x y : Operand} {m n : Int} {t t' : TypeId} (hx : a.eval x = .int .i64 m) (hy : a.eval y = .int .i64 n) (h0 : 0 ≤ m) (h1 : 1 ≤ n) (hf : fits (m / n)) : Ex1 P ⟨dst, .binOp .quo t x y t', ty, pos, aft, g⟩ a w (fun u w' => u = .int .i64 (m / n) ∧ w' = w) :=
  ex1_value (by
    have e : m.tdiv n = m / n := Int.tdiv_eq_ediv_of_nonneg h0
    have hn : ¬ n = 0 := by omega
    simp [execOp, hx, hy, eqGuard, binOp, Op.intDiv, hn, e, wrap_fit hf])
theorem x_shl {x y : Operand} {m n : Int} {k : IntKind} {t t' : TypeId} (hx : a.eval x = .int .i64 m) (hy : a.eval y = .int k n) (h : 0 ≤ n ∧ n < 64 ∧ fits (shlI m n)) : Ex1 P ⟨dst, .binOp .shl t x y t', ty, pos, aft, g⟩ a w (fun u w' => u = .int .i64 (shlI m n) ∧ w' = w) :=
  ex1_value (by
    have hn : ¬ n < 0 := by omega
    have hb : min n.toNat IntKind.i64.bits = n.toNat := by
      have : IntKind.i64.bits = 64 := rfl
      omega
    have hf : IntKind.i64.wrap (m * 2 ^ n.toNat) = m * 2 ^ n.toNat := wrap_fit h.2.2
    simp [execOp, hx, hy, eqGuard, binOp, Op.shift, hn, hb, hf, shlI])
theorem x_shr {x y : Operand} {m n : Int} {k : IntKind} {t t' : TypeId} (hx : a.eval x = .int .i64 m) (hy : a.eval y = .int k n) (h : 0 ≤ n ∧ n < 64) : Ex1 P ⟨dst, .binOp .shr t x y t', ty, pos, aft, g⟩ a w (fun u w' => u = .int .i64 (shrI m n) ∧ w' = w) :=
  ex1_value (by
    have hn : ¬ n < 0 := by omega
    have hb : min n.toNat IntKind.i64.bits = n.toNat := by
      have : IntKind.i64.bits = 64 := rfl
      omega
    have hd : m.fdiv (2 ^ n.toNat) = m / 2 ^ n.toNat := Int.fdiv_eq_ediv_of_nonneg m (Int.le_of_lt (Int.pow_pos (by decide)))
    simp [execOp, hx, hy, eqGuard, binOp, Op.shift, hn, hb, hd, shrI])
theorem bv_of {m : Int} (h0 : 0 ≤ m) (h1 : m ≤ 9223372036854775807) : (BitVec.ofInt 64 m).toNat = m.toNat := by
  rw [BitVec.toNat_ofInt]
  omega
theorem wrap_nat {k : Nat} (h : k ≤ 9223372036854775807) : IntKind.i64.wrap (k : Int) = k := wrap_fit ⟨by omega, by omega⟩
theorem x_and {x y : Operand} {m n : Int} {t t' : TypeId} (hx : a.eval x = .int .i64 m) (hy : a.eval y = .int .i64 n) (h : (0 ≤ m ∧ m ≤ 9223372036854775807) ∧ (0 ≤ n ∧ n ≤ 9223372036854775807)) : Ex1 P ⟨dst, .binOp .and t x y t', ty, pos, aft, g⟩ a w (fun u w' => u = .int .i64 (andI m n) ∧ w' = w) :=
  ex1_value (by
    have e : (BitVec.ofInt 64 m &&& BitVec.ofInt 64 n).toNat = m.toNat &&& n.toNat := by rw [BitVec.toNat_and, bv_of h.1.1 h.1.2, bv_of h.2.1 h.2.2]
    have hf : IntKind.i64.wrap ((m.toNat &&& n.toNat : Nat) : Int) = ((m.toNat &&& n.toNat : Nat) : Int) := wrap_nat (Nat.le_trans Nat.and_le_left (by omega))
    have key : (Op.intBits .and .i64 m n).run P w = .ok (.int .i64 (andI m n)) w := by
      show (pure (Value.int .i64 (IntKind.i64.wrap ((BitVec.ofInt 64 m &&& BitVec.ofInt 64 n).toNat : Int))) : Sem Value).run P w = _
      rw [e, hf]; rfl
    simp [execOp, hx, hy, eqGuard, binOp, key])
theorem x_or {x y : Operand} {m n : Int} {t t' : TypeId} (hx : a.eval x = .int .i64 m) (hy : a.eval y = .int .i64 n) (h : (0 ≤ m ∧ m ≤ 9223372036854775807) ∧ (0 ≤ n ∧ n ≤ 9223372036854775807)) : Ex1 P ⟨dst, .binOp .or t x y t', ty, pos, aft, g⟩ a w (fun u w' => u = .int .i64 (orI m n) ∧ w' = w) :=
  ex1_value (by
    have e : (BitVec.ofInt 64 m ||| BitVec.ofInt 64 n).toNat = m.toNat ||| n.toNat := by rw [BitVec.toNat_or, bv_of h.1.1 h.1.2, bv_of h.2.1 h.2.2]
    have hlt : m.toNat ||| n.toNat < 2 ^ 63 := Nat.or_lt_two_pow (by omega) (by omega)
    have hf : IntKind.i64.wrap ((m.toNat ||| n.toNat : Nat) : Int) = ((m.toNat ||| n.toNat : Nat) : Int) := wrap_nat (by omega)
    have key : (Op.intBits .or .i64 m n).run P w = .ok (.int .i64 (orI m n)) w := by
      show (pure (Value.int .i64 (IntKind.i64.wrap ((BitVec.ofInt 64 m ||| BitVec.ofInt 64 n).toNat : Int))) : Sem Value).run P w = _
      rw [e, hf]; rfl
    simp [execOp, hx, hy, eqGuard, binOp, key])
theorem bv_andNot (x y : BitVec 64) : (x &&& ~~~y).toNat = x.toNat ^^^ (x.toNat &&& y.toNat) := by
  have : x &&& ~~~y = x ^^^ (x &&& y) := by ext i hi; simp; cases x[i] <;> simp
  rw [this, BitVec.toNat_xor, BitVec.toNat_and]
theorem x_andNot {x y : Operand} {m n : Int} {t t' : TypeId} (hx : a.eval x = .int .i64 m) (hy : a.eval y = .int .i64 n) (h : (0 ≤ m ∧ m ≤ 9223372036854775807) ∧ (0 ≤ n ∧ n ≤ 9223372036854775807)) : Ex1 P ⟨dst, .binOp .andNot t x y t', ty, pos, aft, g⟩ a w (fun u w' => u = .int .i64 (andNotI m n) ∧ w' = w) :=
  ex1_value (by
    have e : (BitVec.ofInt 64 m &&& ~~~(BitVec.ofInt 64 n)).toNat = m.toNat ^^^ (m.toNat &&& n.toNat) := by rw [bv_andNot, bv_of h.1.1 h.1.2, bv_of h.2.1 h.2.2]
    have hlt : m.toNat ^^^ (m.toNat &&& n.toNat) < 2 ^ 63 := Nat.xor_lt_two_pow (by omega) (Nat.and_lt_two_pow _ (by omega))
    have hf : IntKind.i64.wrap ((m.toNat ^^^ (m.toNat &&& n.toNat) : Nat) : Int) = ((m.toNat ^^^ (m.toNat &&& n.toNat) : Nat) : Int) := wrap_nat (by omega)
    have key : (Op.intBits .andNot .i64 m n).run P w = .ok (.int .i64 (andNotI m n)) w := by
      show (pure (Value.int .i64 (IntKind.i64.wrap ((BitVec.ofInt 64 m &&& ~~~(BitVec.ofInt 64 n)).toNat : Int))) : Sem Value).run P w = _
      rw [e, hf]; rfl
    simp [execOp, hx, hy, eqGuard, binOp, key])
/-- Structs of ints, held against each other. -/
theorem x_eqA {x y : Operand} {v1 v2 : Value} {x1 x2 : List Int} {n : Nat} {t t' : TypeId} (hk : KEq P t n) (hgd : P.eqGuardType P.depth t = false) (hx : a.eval x = v1) (hy : a.eval y = v2) (h1 : v1 = ansV x1) (h2 : v2 = ansV x2) (l1 : x1.length = n) (l2 : x2.length = n) :
    Ex1 P ⟨dst, .binOp .eql t x y t', ty, pos, aft, g⟩ a w (fun u w' => u = .bool (x1 == x2) ∧ w' = w) := by
  refine x_bin hx hy ?_
  subst h1; subst h2
  have h3 := hk w x1 x2 l1 l2
  have hg : (eqGuard .eql t x y (ansV x1) (ansV x2)).run P w = .ok () w := by
    simp [eqGuard, ansV, program, Sem.run, hgd]
  simp only [Sem.run_bind, hg, Result.andThen_ok]
  show (do pure (Value.bool (← Op.equal t (ansV x1) (ansV x2))) : Sem Value).run P w = _
  simp only [Sem.run_bind, h3, Result.andThen_ok, Sem.run_pure]
theorem x_neA {x y : Operand} {v1 v2 : Value} {x1 x2 : List Int} {n : Nat} {t t' : TypeId} (hk : KEq P t n) (hgd : P.eqGuardType P.depth t = false) (hx : a.eval x = v1) (hy : a.eval y = v2) (h1 : v1 = ansV x1) (h2 : v2 = ansV x2) (l1 : x1.length = n) (l2 : x2.length = n) :
    Ex1 P ⟨dst, .binOp .neq t x y t', ty, pos, aft, g⟩ a w (fun u w' => u = .bool (x1 != x2) ∧ w' = w) := by
  refine x_bin hx hy ?_
  subst h1; subst h2
  have h3 := hk w x1 x2 l1 l2
  have hg : (eqGuard .neq t x y (ansV x1) (ansV x2)).run P w = .ok () w := by
    simp [eqGuard, ansV, program, Sem.run, hgd]
  simp only [Sem.run_bind, hg, Result.andThen_ok]
  show (do pure (Value.bool (!(← Op.equal t (ansV x1) (ansV x2)))) : Sem Value).run P w = _
  simp only [Sem.run_bind, h3, Result.andThen_ok, Sem.run_pure]
  rfl
/-- Nothing is appended. -/
theorem run_append_none {t t2 e : TypeId} (ht : P.underlying t = some (.slice e)) {i : TypeInfo} (hi : P.info? e = some i) {A B : Option Addr} {n c d : Nat} (hn : n ≤ c) (hA : A = none → n = 0) (ht2 : P.underlying t2 = some (.slice e)) :
    (Builtin.append_ #[t, t2] ty #[.slice A n c, .slice B 0 d]).run P w = .ok (.slice A n c) w := by
  have hf : (Builtin.firstCells i.size 0 (.slice B 0 d)).run P w = .ok #[] w := by
    cases B with
    | none => simp [Builtin.firstCells]
    | some ad => simp [Builtin.firstCells, loadCells, loadCellsFrom]
  cases A with
  | none => simp [Builtin.append_, run_underlying ht, run_underlying ht2, sizeOf, typeInfo, program, Sem.run, hi, Builtin.lenOf, hn, hf]
  | some ad => simp [Builtin.append_, run_underlying ht, run_underlying ht2, sizeOf, typeInfo, program, Sem.run, hi, Builtin.lenOf, hn, hf, storeCells]
/-- Append all of a slice. -/
theorem x_appS {α : Type} {e : Enc α} {s x : Operand} {t et : TypeId} {z : Value} {sz bytes : Nat} (ht : P.underlying t = some (.slice et)) (hi : (P.info? et).map (fun i => (i.zero, i.size, i.bytes)) = some (some z, sz, bytes)) (hzs : z.cells.size = sz) (hsz : e.sz = sz) (h0 : 0 < sz)
    {w0 : World} {Z : Nat → Prop} {A B : Option Addr} {c d n : Nat} {xs ys : List α} (hs : a.eval s = .slice A n c) (hn : xs.length = n) (hx : a.eval x = .slice B ys.length d) (hown : OwnR e et w0 w Z A c xs) (hy : Sl e w Z B d ys)
    (h63 : xs.length + ys.length ≤ maxLen) (hbytes : (xs.length + ys.length) * bytes ≤ 140737488355328) (hbase : w0.heap.size ≤ w.heap.size) :
    Ex1 P ⟨dst, .call { callee := .builtin .append, args := #[s, x], argTypes := #[t, t] }, ty, pos, aft, g⟩ a w (fun v w' => ∃ A' c', v = .slice A' (xs ++ ys).length c' ∧ w.grownBy w' (ob A) ∧ (∀ k, ob A' = some k → (ob A = some k ∨ w.heap.size ≤ k) ∧ k < w'.heap.size) ∧
      ∃ css dss, R2 e w Z css xs ∧ R2 e w Z dss ys ∧ OwnS w' w0.heap.size et e.sz A' (xs ++ ys).length c' (css ++ dss).flatten) := by
  by_cases hne : ys = []
  · subst hne
    subst hn
    obtain ⟨css, h2, hO⟩ := id hown
    have hnc : xs.length ≤ c ∧ (A = none → xs.length = 0) := by
      rcases hO.2 with ⟨hv, h0⟩ | ⟨g, cap, cur, hv, _, _, hnc, _⟩
      · obtain ⟨rfl, -, rfl⟩ := Value.slice.inj hv; exact ⟨by omega, fun _ => h0⟩
      · cases hv; exact ⟨hnc, fun e => by cases e⟩
    cases hinf : P.info? et with
    | none => simp [hinf] at hi
    | some i =>
      have hr := run_append_none (P := P) (w := w) (ty := ty) (B := B) (d := d) ht hinf hnc.1 hnc.2 ht
      have he : (execOp a.eval ⟨dst, .call { callee := .builtin .append, args := #[s, x], argTypes := #[t, t] }, ty, pos, aft, g⟩).run P w = .ok (.value (.slice A xs.length c)) w := by
        have hx' : a.eval x = .slice B 0 d := hx
        unfold execOp
        simp only [resolve, invoke, builtin, Sem.run_bind, Sem.run_pure, Result.andThen_ok, List.map_toArray, List.map_cons, List.map_nil, hs, hx', hr]
      unfold Ex1
      rw [he]
      refine ⟨A, c, by rw [List.append_nil], World.grownBy.refl w _, fun k hk => ⟨.inl hk, hown.blk k hk⟩, css, [], h2, trivial, ?_⟩
      rw [List.append_nil, List.append_nil]; exact hO
  · exact x_appR ht hi hzs hsz h0 hs hn hx hown hy.news h63 hbytes hbase hne
end
end Go.Proofs.Ythogdgkafaclaaa
end
