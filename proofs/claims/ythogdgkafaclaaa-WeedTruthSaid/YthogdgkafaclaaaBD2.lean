import Derived.Test.YthogdgkafaclaaaBD1
import Derived.WalkKit
import Derived.KernelRfl
import Derived.WalkSpells
import Derived.WalkLawsBesides
import Derived.Maps.AppendAt
import Derived.OrdersIn
import Derived.RangeFuncIn
import Derived.RangeFuncLeaves
import Derived.RangeFuncRecord
import Derived.RangeFuncSeq
import Derived.Scope
import Derived.DeepKeys3
import Derived.Laws.CopyRow
import Derived.Laws.OwnMore
import Derived.Test.YthogdgkafaclaaaProg
/-
  The contracts of the functions of the program and of the reference, and the logic that they are proved in: the base that several claims of this seat share.
-/
set_option linter.all false
section
namespace Go.Proofs.Ythogdgkafaclaaa
open Go.RowKit Go.WideShapes
theorem setCells_get : ∀ (l : List Value) (cs : Array Value) (o j : Nat), o + l.length ≤ cs.size → (setCells cs o l)[j]? = if o ≤ j ∧ j < o + l.length then l[j - o]? else cs[j]?
  | [], cs, o, j, _ => by
    rw [if_neg (by simp only [List.length_nil]; omega)]; rfl
  | v :: l, cs, o, j, h => by
    rw [List.length_cons] at h
    unfold setCells
    rw [setCells_get l _ (o + 1) j (by simp; omega)]
    by_cases h1 : o + 1 ≤ j ∧ j < o + 1 + l.length
    · rw [if_pos h1, if_pos (by simp; omega), show j - o = (j - (o + 1)) + 1 by omega, List.getElem?_cons_succ]
    · rw [if_neg h1, Array.getElem?_setIfInBounds]
      by_cases h2 : o = j
      · subst h2
        rw [if_pos rfl, if_pos (by omega), if_pos (by rw [List.length_cons]; omega)]; simp
      · rw [if_neg h2, if_neg (by rw [List.length_cons]; omega)]
theorem flat_set {sz : Nat} {c' : List Value} (hc : c'.length = sz) (h0 : 0 < sz) : ∀ (k : Nat) (css : List (List Value)) (j : Nat), (∀ c ∈ css, c.length = sz) → k < css.length → (css.set k c').flatten[j]? = if k * sz ≤ j ∧ j < k * sz + sz then c'[j - k * sz]? else css.flatten[j]?
  | _, [], _, _, h => by simp at h
  | 0, c :: css, j, hs, _ => by
    have h1 := hs c (List.mem_cons_self ..)
    rw [List.set_cons_zero, List.flatten_cons, List.flatten_cons]
    by_cases h : j < sz
    · rw [if_pos (by omega), List.getElem?_append_left (by omega)]; simp
    · rw [if_neg (by omega), List.getElem?_append_right (by omega), List.getElem?_append_right (by omega), hc, h1]
  | k + 1, c :: css, j, hs, h => by
    have h1 := hs c (List.mem_cons_self ..)
    rw [List.set_cons_succ, List.flatten_cons, List.flatten_cons]
    have e : (k + 1) * sz = k * sz + sz := by rw [Nat.add_mul]; omega
    by_cases hj : j < sz
    · rw [if_neg (by omega), List.getElem?_append_left (by omega), List.getElem?_append_left (by omega)]
    · rw [List.getElem?_append_right (by omega), List.getElem?_append_right (by omega), h1, flat_set hc h0 k css (j - sz) (fun c hm => hs c (List.mem_cons_of_mem _ hm)) (by simpa using h)]
      by_cases h2 : k * sz ≤ j - sz ∧ j - sz < k * sz + sz
      · rw [if_pos h2, if_pos (by omega), show j - sz - k * sz = j - (k + 1) * sz by omega]
      · rw [if_neg h2, if_neg (by omega)]
section
variable {α : Type} {e : Enc α} {w w' w0 : World} {Z Z' : Nat → Prop}
theorem R2.lens : ∀ {css : List (List Value)} {xs : List α}, R2 e w Z css xs → ∀ c ∈ css, c.length = e.sz
  | [], [], _ => by simp
  | c :: cs, _ :: _, h => by
    intro d hd
    rcases List.mem_cons.1 hd with rfl | hd
    · exact e.len h.1
    · exact R2.lens h.2 d hd
  | [], _ :: _, h => h.elim
  | _ :: _, [], h => h.elim
theorem R2.free (hfree : ∀ w Z w' Z' cs x, e.R w Z cs x → e.R w' Z' cs x) : ∀ {css : List (List Value)} {xs : List α}, R2 e w Z css xs → R2 e w' Z' css xs
  | [], [], _ => trivial
  | _ :: _, _ :: _, h => ⟨hfree _ _ _ _ _ _ h.1, R2.free hfree h.2⟩
  | [], _ :: _, h => h.elim
  | _ :: _, [], h => h.elim
end
section
variable {P : Program} {a : Act} {w : World} {dst : Option Tmp} {ty : TypeId} {pos : String} {aft : Array Edge} {g : Option (Nat × Bool)}
/-- A store into an element of one's own row. -/
theorem x_storeR {α : Type} {e : Enc α} {et t : TypeId} {x y : Operand} {n b o k p off c : Nat} {v : Value} {w0 : World} {Z : Nat → Prop} {A : Option Addr} {xs : List α} {z z' : α} {cs cs' l : List Value}
    (hown : OwnR e et w0 w Z A c xs) (hz : xs[k]? = some z) (hA : A = some ⟨b, o, none⟩) (hp : p = o + k * e.sz + off) (hx : a.eval x = .pointer (some ⟨b, p, none⟩)) (hy : a.eval y = v) (hs : (P.info? t).map (·.size) = some n) (hl : v.cells.toList = l) (hn : l.length = n)
    (hcs : ∀ c0, e.R w Z c0 z → c0 = cs) (hcl : cs.length = e.sz) (hle : off + n ≤ e.sz) (h1 : ∀ u ∈ l, u.oneCell' = true) (hc : (setCells cs.toArray off l).toList = cs') (hR : e.R w Z cs' z') :
    Ex1 P ⟨dst, .store t x y, ty, pos, aft, g⟩ a w (fun _ w' => w.grownBy w' (ob A) ∧ ∃ css, R2 e w Z css (xs.set k z') ∧ OwnS w' w0.heap.size et e.sz A (xs.set k z').length c css.flatten) := by
  obtain ⟨css, h2, hO⟩ := hown
  subst hA
  subst hp
  have hlt : k < xs.length := (List.getElem?_eq_some_iff.1 hz).1
  obtain ⟨c0, hc0, hR0, hfl⟩ := h2.get hz
  obtain rfl := hcs c0 hR0
  have hlen := h2.len
  have hlens := h2.lens
  have hcs'l : cs'.length = e.sz := e.len hR
  rcases hO.2 with ⟨hv, h0⟩ | ⟨g', cap, cur, hv, hbg, hg, hnc, hcm, hcur, htake⟩
  · omega
  · cases hv
    have hkc : k * e.sz + e.sz ≤ xs.length * e.sz := by
      have : (k + 1) * e.sz ≤ xs.length * e.sz := Nat.mul_le_mul_right _ hlt
      rw [Nat.add_mul, Nat.one_mul] at this; exact this
    have hcc : xs.length * e.sz ≤ c * e.sz := Nat.mul_le_mul_right _ hnc
    have hbk : Bk w b et cur := hg
    refine (x_store (cs' := setCells cur (0 + k * e.sz + off) l) hx hy hs hbk hl hn (by omega) h1 rfl).mono ?_
    rintro _ w' ⟨s1, s2, s3⟩
    have hset := h2.set hR k
    refine ⟨s3, _, hset, ?_⟩
    have hsz0 : 0 < e.sz ∨ e.sz = 0 := by omega
    refine ⟨by rw [hset.flen], .inr ⟨b, c, setCells cur (0 + k * e.sz + off) l, rfl, hbg, s2, by rw [List.length_set]; exact hnc, hcm, by rw [setCells_size 0]; exact hcur, ?_⟩⟩
    rw [List.length_set]
    rcases hsz0 with h0 | h0
    · refine List.ext_getElem? fun j => ?_
      rw [flat_set hcs'l h0 k css j hlens (by omega), List.getElem?_take, Array.getElem?_toList, setCells_get _ _ _ _ (by omega)]
      have hft : ∀ j : Nat, css.flatten[j]? = if j < xs.length * e.sz then cur[j]? else none := fun j => by
        rw [← htake, List.getElem?_take, Array.getElem?_toList]
      have hcell : ∀ i, i < e.sz → cur[k * e.sz + i]? = c0[i]? := fun i hi => by
        have := hft (k * e.sz + i)
        rw [if_pos (by omega)] at this
        rw [← this, ← hfl, List.getElem?_take, if_pos hi, List.getElem?_drop]
      have hcs'g : ∀ i, i < e.sz → cs'[i]? = if off ≤ i ∧ i < off + l.length then l[i - off]? else c0[i]? := fun i hi => by
        rw [← hc, Array.getElem?_toList, setCells_get _ _ _ _ (by simp; omega)]
        simp
      by_cases hj : j < xs.length * e.sz
      · rw [if_pos hj]
        by_cases hjk : k * e.sz ≤ j ∧ j < k * e.sz + e.sz
        · rw [if_pos hjk, hcs'g _ (by omega)]
          by_cases hjo : 0 + k * e.sz + off ≤ j ∧ j < 0 + k * e.sz + off + l.length
          · rw [if_pos hjo, if_pos (by omega), show j - (0 + k * e.sz + off) = j - k * e.sz - off by omega]
          · rw [if_neg hjo, if_neg (by omega), ← hcell _ (by omega), show k * e.sz + (j - k * e.sz) = j by omega]
        · rw [if_neg hjk, if_neg (by omega), hft, if_pos hj]
      · rw [if_neg hj, if_neg (by omega), hft, if_neg hj]
    · have e1 : (css.set k cs').flatten = [] := List.eq_nil_of_length_eq_zero (by rw [hset.flen, h0, Nat.mul_zero])
      rw [e1, h0, Nat.mul_zero, List.take_zero]
theorem ownR_set {α : Type} {e : Enc α} {t : TypeId} {w0 w w' : World} {Z Z' : Nat → Prop} {A : Option Addr} {c : Nat} {xs : List α}
    (h : ∃ css, R2 e w Z css xs ∧ OwnS w' w0.heap.size t e.sz A xs.length c css.flatten) (hm : Mv w Z w' Z') : OwnR e t w0 w' Z' A c xs := by
  obtain ⟨css, h1, h2⟩ := h
  exact ⟨css, h1.mv hm, h2⟩
end
def T4 (w : World) (r : Option Nat) (M : World → Prop) : Nat → World → Prop
  | 0, w' => Ext w w'
  | _ + 1, w' => w.grownBy w' r ∧ M w'
section
variable {w w' w'' : World} {r : Option Nat} {M : World → Prop} {ph : Nat}
theorem T4_gr (h : T4 w r M ph w') : w.grownBy w' r := by
  cases ph with
  | zero => exact World.grownBy.but' h
  | succ => exact h.1
theorem T4_zero (h : T4 w r M ph w') (hp : ph = 0) : Ext w w' := by subst hp; exact h
theorem T4_ext (hM : ∀ a b, M a → Ext a b → M b) (h : T4 w r M ph w') (g : Ext w' w'') : T4 w r M ph w'' := by
  cases ph with
  | zero => exact Ext.trans h g
  | succ => exact ⟨World.grownBy.trans (show w.grownBy w' r from h.1) (World.grownBy.but' g), hM _ _ h.2 g⟩
theorem T4_up (h : T4 w r M ph w') (hp : ph = 0) (g : w'.grownBy w'' r) (hM : M w'') : T4 w r M (ph + 1) w'' := by
  subst hp; exact ⟨World.grownBy.trans (World.grownBy.but' h) g, hM⟩
end
section
variable {w0 w w' : World} {L : List (Option Nat)} {Z Z' : Nat → Prop} {α : Type} {e : Enc α} {t : TypeId} {A : Option Addr} {c : Nat} {xs : List α}
/-- A row that a call has made and hands over. -/
theorem Hp.hand (h : Hp w0 L w) (g : Ext w w') (hr : OwnR e t w w' Z' A c xs) : Hp w0 (ob A :: L) w' := by
  have h3 := hr
  obtain ⟨css, h1, h2⟩ := hr
  cases A with
  | none => exact (h.ext g).nil
  | some ad =>
    rcases h2.2 with ⟨hv, _⟩ | ⟨g', cap, cur, hv, hbg, hg, _⟩
    · cases hv
    · cases hv
      exact h.new g hbg (lt_of_block hg)
theorem OwnR.hand (h : Hp w0 L w) (hr : OwnR e t w w' Z' A c xs) (hfree : ∀ w Z w' Z' cs x, e.R w Z cs x → e.R w' Z' cs x) : OwnR e t w0 w' Z A c xs := by
  obtain ⟨css, h1, h2⟩ := hr
  refine ⟨css, h1.free hfree, h2.1, ?_⟩
  rcases h2.2 with h3 | ⟨g', cap, cur, hv, hbg, h4⟩
  · exact .inl h3
  · exact .inr ⟨g', cap, cur, hv, Nat.le_trans h.bl.size hbg, h4⟩
theorem mv_hand (g : Ext w w') (hr : OwnR e t w w' Z' A c xs) : Mv w (ZZ Z w0.heap.size L) w' (ZZ Z w0.heap.size (ob A :: L)) := by
  cases A with
  | none => exact (mv_ext g).trans mv_nil
  | some ad =>
    obtain ⟨css, h1, h2⟩ := hr
    rcases h2.2 with ⟨hv, _⟩ | ⟨g', cap, cur, hv, hbg, hg, _⟩
    · cases hv
    · cases hv
      exact mv_new g hbg
end
section
variable {P : Program} {a : Act} {w : World} {dst : Option Tmp} {ty : TypeId} {pos : String} {aft : Array Edge} {g : Option (Nat × Bool)}
/-- Append to an empty literal that has just been made: a row of one's own. -/
theorem x_app0 {α : Type} {e : Enc α} {s x : Operand} {t et : TypeId} {z : Value} {sz bytes : Nat} (ht : P.underlying t = some (.slice et)) (hi : (P.info? et).map (fun i => (i.zero, i.size, i.bytes)) = some (some z, sz, bytes)) (hzs : z.cells.size = sz) (hsz : e.sz = sz) (h0 : 0 < sz)
    {w0 : World} {Z : Nat → Prop} {B : Option Addr} {b d : Nat} {ys : List α} (hs : a.eval s = .slice (some ⟨b, 0, none⟩) 0 0) (hx : a.eval x = .slice B ys.length d) (hb : Bk w b et #[]) (hlo : w0.heap.size ≤ b) (hy : Sl e w Z B d ys)
    (h63 : ys.length ≤ maxLen) (hbytes : ys.length * bytes ≤ 140737488355328) (hbase : w0.heap.size ≤ w.heap.size) :
    Ex1 P ⟨dst, .call { callee := .builtin .append, args := #[s, x], argTypes := #[t, t] }, ty, pos, aft, g⟩ a w (fun v w' => ∃ A' c', v = .slice A' ys.length c' ∧ Ext w w' ∧ OwnR e et w0 w' Z A' c' ys) := by
  subst hsz
  have hown : OwnS w w0.heap.size et e.sz (some ⟨b, 0, none⟩) 0 0 [] := ⟨by simp, .inr ⟨b, 0, #[], rfl, hlo, hb, Nat.le_refl _, by simp [maxLen], by simp, by simp⟩⟩
  by_cases hne : ys = []
  · subst hne
    cases hinf : P.info? et with
    | none => simp [hinf] at hi
    | some i =>
      have hr := run_append_none (P := P) (w := w) (ty := ty) (A := some ⟨b, 0, none⟩) (n := 0) (c := 0) (B := B) (d := d) ht hinf (Nat.le_refl _) (fun _ => rfl) ht
      have hx' : a.eval x = .slice B 0 d := hx
      have he : (execOp a.eval ⟨dst, .call { callee := .builtin .append, args := #[s, x], argTypes := #[t, t] }, ty, pos, aft, g⟩).run P w = .ok (.value (.slice (some ⟨b, 0, none⟩) 0 0)) w := by
        unfold execOp
        simp only [resolve, invoke, builtin, Sem.run_bind, Sem.run_pure, Result.andThen_ok, List.map_toArray, List.map_cons, List.map_nil, hs, hx', hr]
      unfold Ex1
      rw [he]
      exact ⟨_, _, rfl, Ext.refl _, [], trivial, hown⟩
  · obtain ⟨_, _, dss, k2, hB⟩ := hy
    have hB0 : dss.flatten ≠ [] := fun hh => by
      have := k2.flen; rw [hh] at this
      have hl : 0 < ys.length := List.length_pos_iff.2 hne
      have := Nat.mul_pos hl h0
      simp at *; omega
    obtain ⟨b', o', rfl, -, -, hc⟩ := hB.resolve_left hB0
    refine (x_appendG (ad := ⟨b', o', none⟩) (news := dss.flatten) (m := ys.length) ht hi hzs h0 hs hx hown (fun j u hu => by rw [addr_add]; exact hc j u hu) k2.flen k2.one (by omega) (by rw [Nat.zero_add]; exact hbytes) hbase).mono ?_
    rintro v w' ⟨A', c', rfl, hO', -, hor, -⟩
    rw [Nat.zero_add, List.nil_append] at hO'
    have hl : 0 < ys.length := List.length_pos_iff.2 hne
    have hext : Ext w w' := by
      rcases hor with h | ⟨rfl, rfl⟩
      · exact h
      · rcases hO'.2 with ⟨hv, h0'⟩ | ⟨g', cap', cur', hv, _, _, hnc, _⟩
        · omega
        · cases hv; omega
    exact ⟨A', c', by rw [Nat.zero_add], hext, dss, k2.mv (mv_ext hext), hO'⟩
end
end Go.Proofs.Ythogdgkafaclaaa
end
section
namespace Go.Proofs.Ythogdgkafaclaaa
open Go.RowKit Go.WideShapes
def updB (D : Nat → Bool) (i : Nat) : Nat → Bool := fun j => cond (Nat.beq j i) true (D j)
def updV (V : Nat → Value) (i : Nat) (v : Value) : Nat → Value := fun j => cond (Nat.beq j i) v (V j)
theorem updB_self (D : Nat → Bool) (i : Nat) : updB D i i = true := by unfold updB; rw [Nat.beq_refl]; rfl
theorem updB_ne (D : Nat → Bool) {i j : Nat} (h : j ≠ i) : updB D i j = D j := by
  have : Nat.beq j i = false := by
    cases hb : Nat.beq j i with
    | false => rfl
    | true => exact absurd (Nat.eq_of_beq_eq_true hb) h
  unfold updB; rw [this]; rfl
theorem updV_self (V : Nat → Value) (i : Nat) (v : Value) : updV V i v i = v := by unfold updV; rw [Nat.beq_refl]; rfl
theorem updV_ne (V : Nat → Value) {i j : Nat} (v : Value) (h : j ≠ i) : updV V i v j = V j := by
  have : Nat.beq j i = false := by
    cases hb : Nat.beq j i with
    | false => rfl
    | true => exact absurd (Nat.eq_of_beq_eq_true hb) h
  unfold updV; rw [this]; rfl
/-- What is known where the k-th operation is carried out: D says which ones are over, V what they gave. -/
structure KnowI (L : List Oper) (a : Act) (l : Env) (D : Nat → Bool) (V : Nat → Value) (k : Nat) (o : Oper) (a' : Act) : Prop where
  out : ∀ s, isDst L s = false → sl a' s = lk (sl a s) l s
  dep : ∀ j d, depL o j = true → dstAt L j = some d → sl a' d = V j
  dn : ∀ j, depL o j = true → D j = true
  me : D k = false
  down : ∀ j o', L[j]? = some o' → D j = true → ∀ k', depL o' k' = true → D k' = true
theorem KnowI.no {L : List Oper} {a : Act} {l : Env} {D : Nat → Bool} {V : Nat → Value} {k : Nat} {o : Oper} {a' : Act} (K : KnowI L a l D V k o a') (j : Nat) (o' : Oper) (hj : L[j]? = some o') (h : depL o' k = true) : D j = false := by
  cases hb : D j with
  | false => rfl
  | true => have := K.down j o' hj hb k h; rw [K.me] at this; cases this
section
variable (P : Program) (L : List Oper) (a : Act) (l : Env) (I : (Nat → Bool) → (Nat → Value) → World → Prop)
def StepI (k : Nat) (o : Oper) : Prop := o.guard = none ∧ ∀ D V a' w', KnowI L a l D V k o a' → I D V w' → Ex1 P o a' w' (fun v w'' => I (updB D k) (updV V k v) w'')
def StepsI : Nat → List Oper → Prop
  | _, [] => True
  | k, o :: R => StepI P L a l I k o ∧ StepsI (k + 1) R
/-- The slots behind the region. -/
def endI : Nat → List Oper → (Nat → Value) → Env → Env
  | _, [], _, l => l
  | k, o :: R, V, l => match o.dst with
    | some d => endI (k + 1) R V ((d, V k) :: l)
    | none => endI (k + 1) R V l
end
section
variable {P : Program} {X : Ctx} {N : Nat} {L : List Oper} {Q : Exit → Act → World → Prop} {a : Act} {l : Env} {w : World} {I : (Nat → Bool) → (Nat → Value) → World → Prop}
theorem stepsI_get : ∀ {R : List Oper} {k : Nat}, StepsI P L a l I k R → ∀ (i : Nat) (o : Oper), R[i]? = some o → StepI P L a l I (k + i) o
  | [], _, _, i, o, ho => by simp at ho
  | o' :: R, k, h, i, o, ho => by
    cases i with
    | zero => obtain rfl : o' = o := by simpa using ho
              exact h.1
    | succ i => have := stepsI_get h.2 i o (by simpa using ho)
                rw [Nat.add_assoc, Nat.add_comm 1 i] at this
                exact this
theorem endN_I {V : Nat → Value} {G : Env → Prop} {w' : World} : ∀ (R : List Oper) (k : Nat) (l' : Env), G (endI k R V l') → EndN X N a (fun k v _ => v = V k) (fun _ _ => True) G w' R.length k R l'
  | [], _, _, h => fun _ => h
  | o :: R, k, l', h => by
    simp only [EndN, List.length_cons]
    simp only [endI] at h
    cases hd : o.dst with
    | none => rw [hd] at h; exact endN_I R (k + 1) l' h
    | some d => rw [hd] at h; rintro v rfl; exact endN_I R (k + 1) _ h
theorem cc_anyI {id : Nat} (I : (Nat → Bool) → (Nat → Value) → World → Prop) (hm : P.follows .mixedOrders = true) (hk : anyOk N L [] = true) (h0 : I (fun _ => false) (fun _ => undef) w.drew)
    (hs : StepsI P L a l I 0 L) (hend : ∀ D V w', (∀ j, j < L.length → D j = true) → I D V w' → LV X N Q .normal a (endI 0 L V l) w') : CC P X N (.region id L.toArray true) Q a l w := fun st =>
  wpIn_region_any hm (by
    have hk' := hk
    simp only [anyOk, Bool.and_eq_true] at hk'
    obtain ⟨⟨hk1, hk2⟩, _⟩ := hk'
    have hdst := dstsOk_spec hk2
    have main : ∀ (fuel : Nat) (listed : Array Bool) (a' : Act) (w' : World) (D : Nat → Bool) (V : Nat → Value), listed.toList.count false ≤ fuel → listed.size = L.length → a'.tmps.size = N → a'.defers = X.ds →
        (∀ s, (∀ j, dstAt L j = some s → listed.getD j false = false) → sl a' s = lk (sl a s) l s) → (∀ j d, listed.getD j false = true → dstAt L j = some d → sl a' d = V j) → (∀ j, j < L.length → D j = listed.getD j false) →
        (∀ (j : Nat) (o : Oper), L[j]? = some o → listed.getD j false = true → ∀ e ∈ o.after, Region.binds .any e = true → listed.getD e.on false = true) → I D V w' → wpAnyIn (Wd X.ro) 0 P .any L.toArray Q fuel listed a' w' := by
      have fin : ∀ (listed : Array Bool) (a' : Act) (w' : World) (D : Nat → Bool) (V : Nat → Value), listed.size = L.length → a'.tmps.size = N → a'.defers = X.ds → (∀ s, (∀ j, dstAt L j = some s → listed.getD j false = false) → sl a' s = lk (sl a s) l s) → (∀ j d, listed.getD j false = true → dstAt L j = some d → sl a' d = V j) → (∀ j, j < L.length → D j = listed.getD j false) →
          I D V w' → (∀ j, j < L.length → listed.getD j false = true) → Q .normal a' w' := by
        intro listed a' w' D V hls hsz hdf hout hdone hD hI hall
        refine end_ofN (K := Q .normal a' w') (X := X) (N := N) (Φ := fun k v _ => v = V k) (fun _ _ => True) (fun l' => LV X N Q .normal a l' w') w' a' trivial hsz hdf (fun l' st' hG e => by rw [e]; exact hG st') L.length L 0 l st (Nat.le_refl _) (fun i d hi => (hdst i i d hi).1) (fun i j d hi hj => (hdst i j d hi).2 hj) (endN_I L 0 l (hend D V w' (fun j hj => by rw [hD j hj]; exact hall j hj) hI)) (fun i d hi hd => ?_) (fun s hs2 => ?_)
        · rw [Nat.zero_add]; exact hdone i d (hall i hi) hd
        · refine hout s fun j hj => ?_
          have hjl : j < L.length := by
            unfold dstAt at hj
            cases hq : L[j]? with
            | none => rw [hq] at hj; cases hj
            | some o => exact (List.getElem?_eq_some_iff.1 hq).1
          exact absurd hj (hs2 j hjl)
      intro fuel
      induction fuel with
      | zero =>
        intro listed a' w' D V hc hls hsz hdf hout hdone hD hdown hI
        have hall : ∀ j, j < L.length → listed.getD j false = true := fun j hj => by
          have hj' : j < listed.size := by omega
          cases hb : listed[j] with
          | true => simp [hj', hb]
          | false =>
            have : false ∈ listed.toList := by rw [← hb]; simp
            have := List.count_pos_iff.2 this
            omega
        refine ⟨?_, fin listed a' w' D V hls hsz hdf hout hdone hD hI hall⟩
        rw [List.eq_nil_iff_forall_not_mem]
        intro i hi
        obtain ⟨h0, o, ho, _⟩ := mem_ready.1 hi
        have hlt : i < L.length := by simpa using (Array.getElem?_eq_some_iff.1 ho).1
        have h1 := hall i hlt
        have hi' : i < listed.size := by omega
        simp [hi'] at h0 h1
        rw [h0] at h1; cases h1
      | succ fuel ih =>
        intro listed a' w' D V hc hls hsz hdf hout hdone hD hdown hI
        constructor
        · intro hr
          refine fin listed a' w' D V hls hsz hdf hout hdone hD hI fun j hj => ?_
          induction j using Nat.strongRecOn with
          | _ j ihj =>
            cases hb : listed.getD j false with
            | true => rfl
            | false =>
              exfalso
              have hj' : j < listed.size := by omega
              have hm : j ∈ Region.ready .any L.toArray listed := mem_ready.2 ⟨by simp [hj'] at hb ⊢; exact hb, L[j], by simp, fun e he hbe => by
                have h1 := depsBelow_spec hk1 j L[j] (List.getElem?_eq_getElem hj) e he hbe
                exact ihj e.on (by omega) (by omega)⟩
              rw [hr] at hm
              cases hm
        · intro i hi
          obtain ⟨h0, o, ho, hdeps⟩ := mem_ready.1 hi
          have ho' : L[i]? = some o := by simpa using ho
          have hiL : i < L.length := (List.getElem?_eq_some_iff.1 ho').1
          have hi' : i < listed.size := by omega
          have hun : listed.getD i false = false := by simp [hi'] at h0 ⊢; exact h0
          have hdl : ∀ j, depL o j = true → listed.getD j false = true ∧ j < L.length := fun j hj => by
            obtain ⟨e, he, hbe, hon⟩ := depL_iff.1 hj
            have h1 := hdeps e he hbe
            have h2 := depsBelow_spec hk1 i o ho' e he hbe
            rw [hon] at h1 h2
            exact ⟨h1, by omega⟩
          have hK : KnowI L a l D V i o a' := by
            refine ⟨fun s hs2 => hout s fun j hj => ?_, fun j d hj hd => hdone j d (hdl j hj).1 hd, fun j hj => by rw [hD j (hdl j hj).2]; exact (hdl j hj).1, by rw [hD i hiL]; exact hun, fun j o2 hj hDj k' hk' => ?_⟩
            · have := isDst_iff.2 ⟨j, hj⟩
              rw [hs2] at this; cases this
            · have hjl : j < L.length := (List.getElem?_eq_some_iff.1 hj).1
              rw [hD j hjl] at hDj
              obtain ⟨e, he, hbe, hon⟩ := depL_iff.1 hk'
              have h1 := hdown j o2 hj hDj e he hbe
              have h2 := depsBelow_spec hk1 j o2 hj e he hbe
              rw [hon] at h1 h2
              rw [hD k' (by omega)]; exact h1
          obtain ⟨hg, hstep⟩ := stepsI_get hs i o ho'
          have hx := hstep D V a' w' (by rw [Nat.zero_add]; exact hK) hI
          rw [Nat.zero_add] at hx
          unfold wpOpIn
          simp only [ho]
          rw [if_pos (by unfold Region.wanted; rw [hg])]
          refine hx.wp fun v w'' hI' => ?_
          have hdlt : dstAt L i = o.dst := by simp [dstAt, ho']
          have hput : ∀ s, (∀ d, o.dst = some d → d ≠ s) → sl (a'.put o.dst v) s = sl a' s := by
            intro s hs2
            cases hd : o.dst with
            | none => rfl
            | some d => exact sl_put_ne (hs2 d hd)
          refine ih _ _ _ (updB D i) (updV V i v) ?_ (by simp [hls]) ?_ ?_ ?_ ?_ ?_ ?_ hI'
          · have hlt : i < listed.toList.length := by simpa using hi'
            have hget : listed.toList[i] = false := by
              simp [hi'] at hun; simpa using hun
            have hcs : (listed.setIfInBounds i true).toList = listed.toList.set i true := by simp
            rw [hcs, List.count_set hlt, hget]
            have h1 : 0 < listed.toList.count false := List.count_pos_iff.2 (by rw [← hget]; exact List.getElem_mem hlt)
            have e1 : (if (false == false) = true then 1 else 0) = 1 := rfl
            have e2 : (if (true == false) = true then 1 else 0) = 0 := rfl
            rw [e1, e2]
            omega
          · cases o.dst <;> simp [Act.put, hsz]
          · cases o.dst <;> simp [Act.put, hdf]
          · intro s hs2
            rw [hput s (fun d hd hds => by
              subst hds
              have := hs2 i (by rw [hdlt, hd])
              rw [getD_set_self hi'] at this; cases this)]
            refine hout s fun j hj => ?_
            have := hs2 j hj
            by_cases hij : i = j
            · subst hij; exact hun
            · rwa [getD_set_ne' hij] at this
          · intro j d hj hjd
            by_cases hij : i = j
            · subst hij
              rw [hdlt] at hjd
              have hlt : d < a'.tmps.size := by rw [hsz]; exact (hdst i i d (by rw [hdlt, hjd])).1
              rw [hjd, sl_put_same hlt, updV_self]
            · rw [getD_set_ne' hij] at hj
              have : sl (a'.put o.dst v) d = sl a' d := by
                refine hput d fun d' hd' hdd => ?_
                subst hdd
                exact hij ((hdst i j d' (by rw [hdlt, hd'])).2 hjd)
              rw [this, updV_ne _ _ (Ne.symm hij)]
              exact hdone j d hj hjd
          · intro j hj
            by_cases hij : i = j
            · subst hij; rw [updB_self, getD_set_self hi']
            · rw [updB_ne _ (Ne.symm hij), getD_set_ne' hij]; exact hD j hj
          · intro j oj hj hlj e he hbe
            by_cases hie : i = e.on
            · rw [← hie]; exact getD_set_self hi'
            · rw [getD_set_ne' hie]
              by_cases hij : i = j
              · subst hij
                rw [ho'] at hj
                obtain rfl : o = oj := by simpa using hj
                exact hdeps e he hbe
              · rw [getD_set_ne' hij] at hlj
                exact hdown j oj hj hlj e he hbe
    have hf : ∀ j, (Array.replicate L.length false).getD j false = false := by
      intro j
      rw [Array.getD_eq_getD_getElem?]
      rcases Nat.lt_or_ge j L.length with h | h
      · simp [h]
      · simp [h]
    have e : L.toArray.size = L.length := by simp
    rw [e]
    refine main L.length (Array.replicate L.length false) (puts a l) w.drew (fun _ => false) (fun _ => undef) (Nat.le_trans (List.count_le_length ..) (by simp)) (by simp) (by rw [puts_size, st.sz]) (by rw [puts_defers, st.df]) (fun s _ => sl_puts st s) (fun j d h => ?_) (fun j _ => (hf j).symm) (fun j o _ h => ?_) h0
    · rw [hf j] at h; cases h
    · rw [hf j] at h; cases h)
end
section
variable {w0 w w' : World} {L : List (Option Nat)} {Z : Nat → Prop} {b b1 b2 : Nat} {t : TypeId} {n z : Array Value} {c : Bool}
theorem bk_c0 (h : c = false) (hb : Bk w b t z) : Bk w b t (cond c n z) := by subst h; exact hb
theorem bk_d0 (h : c = false) (hb : Bk w b t (cond c n z)) : Bk w b t z := by subst h; exact hb
theorem bk_d1 (h : c = true) (hb : Bk w b t (cond c n z)) : Bk w b t n := by subst h; exact hb
theorem ext_upd_new (h : Ext w0 w) (g : Upd b w w') (hb : w0.heap.size ≤ b) : Ext w0 w' :=
  ext_of_below (bl_upd (Below.refl _ _ |> fun k => bl_ext k h) g hb)
theorem Hp.new2 (h : Hp w0 L w) (g : Ext w w') (h1 : w.heap.size ≤ b1) (s1 : b1 < w'.heap.size) (h2 : w.heap.size ≤ b2) (s2 : b2 < w'.heap.size) (hne : b2 ≠ b1) : Hp w0 (some b2 :: some b1 :: L) w' := by
  have k1 := h.new g h1 s1
  refine ⟨k1.bl, fun k hk => ?_, ?_⟩
  · rcases List.mem_cons.1 hk with e | hk
    · cases e; exact ⟨Nat.le_trans h.bl.size h2, s2⟩
    · exact k1.lo k hk
  · have key : ∀ (j : Nat) (x : Nat), (some b1 :: L)[j]? = some (some x) → x ≠ b2 := fun j x hx e => by
      cases j with
      | zero => have : b1 = x := by simpa using hx
                omega
      | succ j =>
        have hx' : L[j]? = some (some x) := by simpa using hx
        have := (h.lo x (List.mem_of_getElem? hx')).2
        omega
    intro i j x hij hi hj
    cases i with
    | zero =>
      cases j with
      | zero => exact hij rfl
      | succ j =>
        have e1 : b2 = x := by simpa using hi
        exact key j x (by simpa using hj) e1.symm
    | succ i =>
      cases j with
      | zero =>
        have e1 : b2 = x := by simpa using hj
        exact key i x (by simpa using hi) e1.symm
      | succ j => exact k1.ap i j x (by omega) (by simpa using hi) (by simpa using hj)
theorem mv_new2 {n0 : Nat} (g : Ext w w') (h1 : w.heap.size ≤ b1) (h2 : w.heap.size ≤ b2) : Mv w (ZZ Z n0 L) w' (ZZ Z n0 (some b2 :: some b1 :: L)) :=
  ⟨g.size, fun k hk hl => ⟨hk.imp id fun ⟨h3, h4⟩ => ⟨h3, fun hm => by
    rcases List.mem_cons.1 hm with e | hm
    · cases e; omega
    · rcases List.mem_cons.1 hm with e | hm
      · cases e; omega
      · exact h4 hm⟩, g.block k hl (by simp)⟩⟩
end
end Go.Proofs.Ythogdgkafaclaaa
end
section
namespace Go.Proofs.Ythogdgkafaclaaa
open Go.RowKit Go.WideShapes
section
variable {P : Program} {a : Act} {w : World} {dst : Option Tmp} {ty : TypeId} {pos : String} {aft : Array Edge} {g : Option (Nat × Bool)}
theorem x_makeLit {t e : TypeId} {z : Value} {sz bytes n : Nat} {x y : Operand} {cs : Array Value} {k1 k2 : IntKind} (ht : P.underlying t = some (.slice e)) (hi : (P.info? e).map (fun i => (i.zero, i.size, i.bytes)) = some (some z, sz, bytes))
    (hx : a.eval x = .int k1 (n : Int)) (hy : a.eval y = .int k2 (n : Int)) (hb : bytes * n ≤ 281474976710656) (hn : n ≤ maxLen) (hc : madeCells z.cells (n * sz) = cs) :
    Ex1 P ⟨dst, .makeSlice t x y, ty, pos, aft, g⟩ a w (fun u w' => ∃ b, u = .slice (some ⟨b, 0, none⟩) n n ∧ NewB w w' b e cs) := by
  cases hinf : P.info? e with
  | none => simp [hinf] at hi
  | some i =>
    rw [hinf] at hi
    simp only [Option.map_some, Option.some.injEq, Prod.mk.injEq] at hi
    obtain ⟨h1, h2, h3⟩ := hi
    have hm : (n : Int) ≤ 9223372036854775807 := by
      have h := hn
      simp [maxLen] at h
      omega
    have hb2 : (i.bytes : Int) * (n : Int) ≤ 281474976710656 := by
      rw [h3]
      have h : ((bytes * n : Nat) : Int) ≤ 281474976710656 := by omega
      rwa [Int.natCast_mul] at h
    have hr := run_make (P := P) w t e i z ht hinf h1 k1 k2 n n (by omega) (Int.le_refl _) hb2 hm
    simp only [Int.toNat_natCast, h2, hc] at hr
    refine (ex1_v (S := Instr.makeSlice t (a.eval x) (a.eval y)) rfl (by rw [hx, hy]; exact hr)).mono fun u w' h => ⟨w.heap.size, h.1, by rw [h.2]; exact newB_alloc w e cs⟩
end
end Go.Proofs.Ythogdgkafaclaaa
end
section
set_option linter.unusedVariables false
set_option linter.unusedSimpArgs false
namespace Go.Proofs.Ythogdgkafaclaaa
open Go.RowKit
def eTly : Enc Tly := ⟨5, fun _ _ cs x => cs = [.int .i64 x.who, .int .i64 x.fr, .int .i64 x.to, .int .i64 x.lo, .int .i64 x.hi], fun h => by rw [h]; rfl, fun h => by rw [h]; simp [Value.oneCell'], fun h _ => h⟩
def eR : Enc (Int × Int) := ⟨2, fun _ _ cs x => cs = [.int .i64 x.1, .int .i64 x.2], fun h => by rw [h]; rfl, fun h => by rw [h]; simp [Value.oneCell'], fun h _ => h⟩
def eFld : Enc Fld := ⟨5, fun w Z cs x => ∃ A4 c4, cs = [.int .i64 x.rows, .int .i64 x.wd, .int .i64 x.lo, .int .i64 x.hi, .slice A4 x.ts.length c4] ∧ Sl eTly w Z A4 c4 x.ts, fun ⟨_, _, h, _⟩ => by rw [h]; rfl, fun ⟨_, _, h, _⟩ => by rw [h]; simp [Value.oneCell'], fun ⟨A4, c4, h, h4⟩ g => ⟨A4, c4, h, h4.mv g⟩⟩
end Go.Proofs.Ythogdgkafaclaaa
end
section
set_option linter.unusedVariables false
set_option linter.unusedSimpArgs false
namespace Go.Proofs.Ythogdgkafaclaaa
open Go.RowKit
def G_In (K_ : Nat) (p0 : Int) (p1 : Int) (p2 : Int) : Option (Bool) :=
  cond (decide (p1 ≤ p0)) (some (decide (p0 ≤ p2))) (some (false))
def G_Within (K_ : Nat) (p0 : (Int × Int)) (p1 : Int) (p2 : Int) : Option (Bool) :=
  cond (decide (p1 ≤ p0.1)) (cond (decide (p0.1 ≤ p0.2)) (some (decide (p0.2 ≤ p2))) (some (false))) (some (false))
def G_Did_L1 (p0 : List Int) (p1 : Int) (p3 : Int) : Nat → Int → Int → Option (Int)
  | 0, _, _ => none
  | m_ + 1, s1_9, s1_10 => cond (decide (s1_10 ≤ p3)) ((idx p0 s1_10).bind fun x3 => cond (x3 == p1) ((i64 (s1_9 + 1)).bind fun _ => (i64 (s1_10 + 1)).bind fun _ => G_Did_L1 p0 p1 p3 m_ (s1_9 + 1) (s1_10 + 1)) ((i64 (s1_10 + 1)).bind fun _ => G_Did_L1 p0 p1 p3 m_ s1_9 (s1_10 + 1))) (some (s1_9))
def G_Did (K_ : Nat) (p0 : List Int) (p1 : Int) (p2 : Int) (p3 : Int) : Option (Int) :=
  (G_Did_L1 p0 p1 p3 K_ (0 : Int) p2).bind fun z1 => some (z1)
def G_Many_L2 (p0 : Fld) : Nat → Int → Int → Option (Int)
  | 0, _, _ => none
  | m_ + 1, s2_3, s2_4 => cond (decide (s2_4 < p0.rows)) ((i64 (p0.wd + 1)).bind fun _ => (i64 (s2_3 * (p0.wd + 1))).bind fun _ => (i64 (s2_4 + 1)).bind fun _ => G_Many_L2 p0 m_ (s2_3 * (p0.wd + 1)) (s2_4 + 1)) (some (s2_3))
def G_Many (K_ : Nat) (p0 : Fld) : Option (Int) :=
  (G_Many_L2 p0 K_ (1 : Int) (0 : Int)).bind fun z2 => some (z2)
def G_Empty (K_ : Nat) : Option ((Int × Int)) :=
  some ((⟨1099511627776, (-1099511627776)⟩ : (Int × Int)))
def G_Wider (K_ : Nat) (p0 : (Int × Int)) (p1 : Int) : Option ((Int × Int)) :=
  some ((⟨min p0.1 p1, max p0.2 p1⟩ : (Int × Int)))
end Go.Proofs.Ythogdgkafaclaaa
end
section
set_option linter.unusedVariables false
set_option linter.unusedSimpArgs false
namespace Go.Proofs.Ythogdgkafaclaaa
open Go.RowKit
def G_Full (K_ : Nat) (p0 : Fld) : Option (Int) :=
  (cvO .u64 (p0.ts.length : Int)).bind fun _ => (shlO (1 : Int) (p0.ts.length : Int)).bind fun _ => (i64 ((shlI (1 : Int) (p0.ts.length : Int)) - 1)).bind fun _ => some ((shlI (1 : Int) (p0.ts.length : Int)) - 1)
def G_Before_L1 (p0 : List Int) (p1 : List Int) : Nat → Int → Option ((Bool) ⊕ (Unit))
  | 0, _ => none
  | m_ + 1, s1_5 => cond (decide (s1_5 < (p0.length : Int))) (cond (decide (s1_5 < (p1.length : Int))) ((idx p0 s1_5).bind fun x5 => (idx p1 s1_5).bind fun x6 => cond (x5 != x6) ((idx p0 s1_5).bind fun x9 => (idx p1 s1_5).bind fun x10 => some (.inl (decide (x9 < x10)))) ((i64 (s1_5 + 1)).bind fun _ => G_Before_L1 p0 p1 m_ (s1_5 + 1))) (some (.inr ()))) (some (.inr ()))
def G_Before (K_ : Nat) (p0 : List Int) (p1 : List Int) : Option (Bool) :=
  (G_Before_L1 p0 p1 K_ (0 : Int)).bind fun z => Sum.elim (fun q1 => some (q1)) (fun q1 => some (decide ((p0.length : Int) < (p1.length : Int)))) z
def G_Shorter (K_ : Nat) (p0 : List Int) (p1 : List Int) : Option (Bool) :=
  cond (decide ((p0.length : Int) < (p1.length : Int))) (some (true)) (cond ((p0.length : Int) == (p1.length : Int)) ((G_Before K_ p0 p1).bind fun r3 => some (r3)) (some (false)))
def G_Bits_L1 (p0 : Int) : Nat → List Int → Int → Option ((List Int))
  | 0, _, _ => none
  | m_ + 1, s1_3, s1_4 => (cvO .u64 s1_4).bind fun _ => (shrO p0 s1_4).bind fun _ => cond (decide (0 < (shrI p0 s1_4))) ((cvO .u64 s1_4).bind fun _ => (shrO p0 s1_4).bind fun _ => (rem (shrI p0 s1_4) (2 : Int)).bind fun _ => cond (((shrI p0 s1_4) % 2) == 1) ((ifo (((s1_3.length + [s1_4].length : Nat) : Int) ≤ 140737488355328 / 8)).bind fun _ => (i64 (s1_4 + 1)).bind fun _ => G_Bits_L1 p0 m_ (s1_3 ++ [s1_4]) (s1_4 + 1)) ((i64 (s1_4 + 1)).bind fun _ => G_Bits_L1 p0 m_ s1_3 (s1_4 + 1))) (some (s1_3))
def G_Bits (K_ : Nat) (p0 : Int) : Option ((List Int)) :=
  (G_Bits_L1 p0 K_ ([] : List Int) (0 : Int)).bind fun z1 => some (z1)
def G_Right (K_ : Nat) (p0 : List Int) (p1 : Tly) : Option (Bool) :=
  (G_Did K_ p0 p1.who p1.fr p1.to).bind fun r3 => (G_In K_ r3 p1.lo p1.hi).bind fun r4 => some (r4)
def G_IsAllowed_L2 (K_ : Nat) (p0 : Fld) (p1 : List Int) : Nat → Int → Option ((Bool) ⊕ (Unit))
  | 0, _ => none
  | m_ + 1, s2_5 => cond (decide (s2_5 < (p1.length : Int))) ((idx p1 s2_5).bind fun x5 => (i64 (p0.wd - 1)).bind fun _ => (G_In K_ x5 (-1) (p0.wd - 1)).bind fun r7 => cond (!r7) (some (.inl false)) ((i64 (s2_5 + 1)).bind fun _ => G_IsAllowed_L2 K_ p0 p1 m_ (s2_5 + 1))) (some (.inr ()))
def G_IsAllowed (K_ : Nat) (p0 : Fld) (p1 : List Int) : Option (Bool) :=
  (G_IsAllowed_L2 K_ p0 p1 K_ (0 : Int)).bind fun z => Sum.elim (fun q2 => some (q2)) (fun q2 => cond ((p1.length : Int) == p0.rows) ((i64 (p0.rows - 1)).bind fun _ => (G_Did K_ p1 (-1) 0 (p0.rows - 1)).bind fun r15 => (G_In K_ r15 p0.lo p0.hi).bind fun r16 => some (r16)) (some (false))) z
def G_IsTruth_L7 (K_ : Nat) (p0 : Fld) (p1 : List Int) : Nat → Int → Option ((Bool) ⊕ (Unit))
  | 0, _ => none
  | m_ + 1, s7_5 => cond (decide (s7_5 < (p0.ts.length : Int))) ((idx p0.ts s7_5).bind fun x9 => (G_Right K_ p1 x9).bind fun r10 => cond (!r10) (some (.inl false)) ((i64 (s7_5 + 1)).bind fun _ => G_IsTruth_L7 K_ p0 p1 m_ (s7_5 + 1))) (some (.inr ()))
def G_IsTruth (K_ : Nat) (p0 : Fld) (p1 : List Int) : Option (Bool) :=
  (G_IsAllowed K_ p0 p1).bind fun r2 => cond (!r2) (some (false)) ((G_IsTruth_L7 K_ p0 p1 K_ (0 : Int)).bind fun z => Sum.elim (fun q7 => some (q7)) (fun q7 => some (true)) z)
def G_Can_L1 (p0 : List Int) (p1 : Int) : Nat → Int → Option ((Bool) ⊕ (Unit))
  | 0, _ => none
  | m_ + 1, s1_5 => cond (decide (s1_5 < (p0.length : Int))) ((idx p0 s1_5).bind fun x3 => (bitO x3 p1).bind fun _ => cond ((andI x3 p1) == p1) (some (.inl true)) ((i64 (s1_5 + 1)).bind fun _ => G_Can_L1 p0 p1 m_ (s1_5 + 1))) (some (.inr ()))
def G_Can (K_ : Nat) (p0 : List Int) (p1 : Int) : Option (Bool) :=
  (G_Can_L1 p0 p1 K_ (0 : Int)).bind fun z => Sum.elim (fun q1 => some (q1)) (fun q1 => some (false)) z
def G_Fault_L12 (K_ : Nat) (p0 : Fld) : Nat → Int → Option ((Int) ⊕ (Unit))
  | 0, _ => none
  | m_ + 1, s12_3 => cond (decide (s12_3 < (p0.ts.length : Int))) ((idx p0.ts s12_3).bind fun x14 => (i64 (p0.wd - 1)).bind fun _ => (G_In K_ x14.who 0 (p0.wd - 1)).bind fun r18 => cond (!r18) (some (.inl (1 : Int))) ((i64 (p0.rows - 1)).bind fun _ => (G_In K_ x14.fr 0 (p0.rows - 1)).bind fun r24 => cond (!r24) (some (.inl (1 : Int))) ((i64 (p0.rows - 1)).bind fun _ => (G_In K_ x14.to x14.fr (p0.rows - 1)).bind fun r30 => cond (!r30) (some (.inl (1 : Int))) ((G_Within K_ (⟨x14.lo, x14.hi⟩ : (Int × Int)) 0 p0.rows).bind fun r35 => cond (!r35) (some (.inl (1 : Int))) ((i64 (s12_3 + 1)).bind fun _ => G_Fault_L12 K_ p0 m_ (s12_3 + 1)))))) (some (.inr ()))
def G_Fault (K_ : Nat) (p0 : Fld) : Option (Int) :=
  cond (decide (7 < p0.rows)) (some (3)) (cond (decide (3 < p0.wd)) (some (3)) (cond (decide (5 < (p0.ts.length : Int))) (some (3)) (cond (decide (p0.rows < 1)) (some (1)) (cond (decide (p0.wd < 1)) (some (1)) ((G_Within K_ (⟨p0.lo, p0.hi⟩ : (Int × Int)) 0 p0.rows).bind fun r7 => cond (!r7) (some (1)) ((G_Fault_L12 K_ p0 K_ (0 : Int)).bind fun z => Sum.elim (fun q12 => some (q12)) (fun q12 => (G_Many K_ p0).bind fun r41 => cond (decide (2500 < r41)) (some (3)) (some (0))) z))))))
end Go.Proofs.Ythogdgkafaclaaa
end
section
set_option linter.unusedVariables false
set_option linter.unusedSimpArgs false
namespace Go.Proofs.Ythogdgkafaclaaa
open Go.RowKit
def G_Nth_L2 (p0 : Fld) : Nat → Int → List Int → Int → Option ((List Int))
  | 0, _, _, _ => none
  | m_ + 1, s2_1, s2_5, s2_6 => cond (decide (s2_6 < p0.rows)) ((i64 (p0.wd + 1)).bind fun _ => (rem s2_1 (p0.wd + 1)).bind fun _ => (i64 ((s2_1 % (p0.wd + 1)) - 1)).bind fun _ => (ifo (((s2_5.length + [(s2_1 % (p0.wd + 1)) - 1].length : Nat) : Int) ≤ 140737488355328 / 8)).bind fun _ => (i64 (p0.wd + 1)).bind fun _ => (quo s2_1 (p0.wd + 1)).bind fun _ => (i64 (s2_1 / (p0.wd + 1))).bind fun _ => (i64 (s2_6 + 1)).bind fun _ => G_Nth_L2 p0 m_ (s2_1 / (p0.wd + 1)) (s2_5 ++ [(s2_1 % (p0.wd + 1)) - 1]) (s2_6 + 1)) (some (s2_5))
def G_Nth (K_ : Nat) (p0 : Fld) (p1 : Int) : Option ((List Int)) :=
  (G_Nth_L2 p0 K_ p1 ([] : List Int) (0 : Int)).bind fun z2 => some (z2)
def G_Same_L1 (p0 : List (List Int)) (p1 : Int) (p2 : Int) : Nat → List (List Int) → Int → Option ((List (List Int)))
  | 0, _, _ => none
  | m_ + 1, s1_7, s1_8 => cond (decide (s1_8 < (p0.length : Int))) ((idx p0 s1_8).bind fun x4 => (idx x4 p1).bind fun x5 => cond (x5 == p2) ((idx p0 s1_8).bind fun x7 => (ifo (((s1_7.length + [x7].length : Nat) : Int) ≤ 140737488355328 / 24)).bind fun _ => (i64 (s1_8 + 1)).bind fun _ => G_Same_L1 p0 p1 p2 m_ (s1_7 ++ [x7]) (s1_8 + 1)) ((i64 (s1_8 + 1)).bind fun _ => G_Same_L1 p0 p1 p2 m_ s1_7 (s1_8 + 1))) (some (s1_7))
def G_Same (K_ : Nat) (p0 : List (List Int)) (p1 : Int) (p2 : Int) : Option ((List (List Int))) :=
  (G_Same_L1 p0 p1 p2 K_ ([] : List (List Int)) (0 : Int)).bind fun z1 => some (z1)
def G_Done_L6 (K_ : Nat) (p0 : List (List Int)) (p1 : Int) : Nat → Int → Int → Int → Option (Int × Int)
  | 0, _, _, _ => none
  | m_ + 1, s6_6, s6_b40, s6_b41 => cond (decide (s6_6 < (p0.length : Int))) ((idx p0 s6_6).bind fun x9 => (idx p0 s6_6).bind fun x10 => (i64 ((x10.length : Int) - 1)).bind fun _ => (G_Did K_ x9 p1 0 ((x10.length : Int) - 1)).bind fun r12 => (G_Wider K_ (⟨s6_b40, s6_b41⟩ : (Int × Int)) r12).bind fun r13 => (i64 (s6_6 + 1)).bind fun _ => G_Done_L6 K_ p0 p1 m_ (s6_6 + 1) r13.1 r13.2) (some ((s6_b40, s6_b41)))
def G_Done (K_ : Nat) (p0 : List (List Int)) (p1 : Int) : Option ((Int × Int)) :=
  (G_Empty K_).bind fun r2 => (G_Done_L6 K_ p0 p1 K_ (0 : Int) r2.1 r2.2).bind fun z6 => some (z6)
def G_Who_L5 (p1 : List (List Int)) (p2 : Int) (s2_8 : Int) : Nat → Bool → Int → Option (Bool)
  | 0, _, _ => none
  | m_ + 1, s5_9, s5_10 => cond (decide (s5_10 < (p1.length : Int))) (cond (s5_9) ((i64 (s5_10 + 1)).bind fun _ => G_Who_L5 p1 p2 s2_8 m_ true (s5_10 + 1)) ((idx p1 s5_10).bind fun x9 => (idx x9 p2).bind fun x10 => (i64 (s5_10 + 1)).bind fun _ => G_Who_L5 p1 p2 s2_8 m_ (x10 == s2_8) (s5_10 + 1))) (some (s5_9))
def G_Who_L2 (K_ : Nat) (p0 : Fld) (p1 : List (List Int)) (p2 : Int) : Nat → List Int → Int → Option ((List Int))
  | 0, _, _ => none
  | m_ + 1, s2_7, s2_8 => cond (decide (s2_8 < p0.wd)) ((G_Who_L5 p1 p2 s2_8 K_ false (0 : Int)).bind fun z5 => cond (z5) ((ifo (((s2_7.length + [s2_8].length : Nat) : Int) ≤ 140737488355328 / 8)).bind fun _ => (i64 (s2_8 + 1)).bind fun _ => G_Who_L2 K_ p0 p1 p2 m_ (s2_7 ++ [s2_8]) (s2_8 + 1)) ((i64 (s2_8 + 1)).bind fun _ => G_Who_L2 K_ p0 p1 p2 m_ s2_7 (s2_8 + 1))) (some (s2_7))
def G_Who (K_ : Nat) (p0 : Fld) (p1 : List (List Int)) (p2 : Int) : Option ((List Int)) :=
  (G_Who_L2 K_ p0 p1 p2 K_ ([] : List Int) (-1)).bind fun z2 => some (z2)
end Go.Proofs.Ythogdgkafaclaaa
end
section
set_option linter.unusedVariables false
set_option linter.unusedSimpArgs false
namespace Go.Proofs.Ythogdgkafaclaaa
open Go.RowKit
def G_Truths_L2 (K_ : Nat) (p0 : Fld) : Nat → List (List Int) → Int → Option ((List (List Int)))
  | 0, _, _ => none
  | m_ + 1, s2_3, s2_4 => (G_Many K_ p0).bind fun r4 => cond (decide (s2_4 < r4)) ((G_Nth K_ p0 s2_4).bind fun r7 => (G_IsTruth K_ p0 r7).bind fun r9 => cond (r9) ((ifo (((s2_3.length + [r7].length : Nat) : Int) ≤ 140737488355328 / 24)).bind fun _ => (i64 (s2_4 + 1)).bind fun _ => G_Truths_L2 K_ p0 m_ (s2_3 ++ [r7]) (s2_4 + 1)) ((i64 (s2_4 + 1)).bind fun _ => G_Truths_L2 K_ p0 m_ s2_3 (s2_4 + 1))) (some (s2_3))
def G_Truths (K_ : Nat) (p0 : Fld) : Option ((List (List Int))) :=
  (G_Truths_L2 K_ p0 K_ ([] : List (List Int)) (0 : Int)).bind fun z2 => some (z2)
def G_All_L15 (K_ : Nat) (p0 : Fld) (r7 : (List Int)) : Nat → Int → Int → Option (Int)
  | 0, _, _ => none
  | m_ + 1, s15_6, s15_7 => cond (decide (s15_7 < (p0.ts.length : Int))) ((idx p0.ts s15_7).bind fun x17 => (G_Right K_ r7 x17).bind fun r18 => cond (r18) ((cvO .u64 s15_7).bind fun _ => (shlO (1 : Int) s15_7).bind fun _ => (bitO s15_6 (shlI (1 : Int) s15_7)).bind fun _ => (i64 (s15_7 + 1)).bind fun _ => G_All_L15 K_ p0 r7 m_ (orI s15_6 (shlI (1 : Int) s15_7)) (s15_7 + 1)) ((i64 (s15_7 + 1)).bind fun _ => G_All_L15 K_ p0 r7 m_ s15_6 (s15_7 + 1))) (some (s15_6))
def G_All_L2 (K_ : Nat) (p0 : Fld) : Nat → List Int → Int → Option ((List Int))
  | 0, _, _ => none
  | m_ + 1, s2_3, s2_4 => (G_Many K_ p0).bind fun r4 => cond (decide (s2_4 < r4)) ((G_Nth K_ p0 s2_4).bind fun r7 => (G_IsAllowed K_ p0 r7).bind fun r9 => cond (!r9) ((i64 (s2_4 + 1)).bind fun _ => G_All_L2 K_ p0 m_ s2_3 (s2_4 + 1)) ((G_All_L15 K_ p0 r7 K_ (0 : Int) (0 : Int)).bind fun z15 => (ifo (((s2_3.length + [z15].length : Nat) : Int) ≤ 140737488355328 / 8)).bind fun _ => (i64 (s2_4 + 1)).bind fun _ => G_All_L2 K_ p0 m_ (s2_3 ++ [z15]) (s2_4 + 1))) (some (s2_3))
def G_All (K_ : Nat) (p0 : Fld) : Option ((List Int)) :=
  (G_All_L2 K_ p0 K_ ([] : List Int) (0 : Int)).bind fun z2 => some (z2)
def G_Leave_L6 (K_ : Nat) (p0 : Fld) (p1 : List Int) : Nat → List Int → Int → Option ((List Int))
  | 0, _, _ => none
  | m_ + 1, s6_5, s6_6 => (G_Full K_ p0).bind fun r7 => cond (decide (s6_6 ≤ r7)) ((G_Bits K_ s6_6).bind fun r10 => (G_Shorter K_ r10 s6_5).bind fun r12 => cond (r12) ((G_Full K_ p0).bind fun r15 => (bitO r15 s6_6).bind fun _ => (G_Can K_ p1 (andNotI r15 s6_6)).bind fun r18 => cond (r18) ((i64 (s6_6 + 1)).bind fun _ => G_Leave_L6 K_ p0 p1 m_ r10 (s6_6 + 1)) ((i64 (s6_6 + 1)).bind fun _ => G_Leave_L6 K_ p0 p1 m_ s6_5 (s6_6 + 1))) ((i64 (s6_6 + 1)).bind fun _ => G_Leave_L6 K_ p0 p1 m_ s6_5 (s6_6 + 1))) (some (s6_5))
def G_Leave (K_ : Nat) (p0 : Fld) (p1 : List Int) : Option ((List Int)) :=
  (G_Full K_ p0).bind fun r2 => (G_Bits K_ r2).bind fun r4 => (G_Leave_L6 K_ p0 p1 K_ r4 (0 : Int)).bind fun z6 => some (z6)
def G_First_L2 (K_ : Nat) (p0 : Fld) (p1 : List Int) : Nat → Int → Option ((Int) ⊕ (Unit))
  | 0, _ => none
  | m_ + 1, s2_5 => cond (decide (s2_5 < (p0.ts.length : Int))) ((cvO .u64 s2_5).bind fun _ => (shlO (2 : Int) s2_5).bind fun _ => (i64 ((shlI (2 : Int) s2_5) - 1)).bind fun _ => (G_Can K_ p1 ((shlI (2 : Int) s2_5) - 1)).bind fun r7 => cond (!r7) (some (.inl s2_5)) ((i64 (s2_5 + 1)).bind fun _ => G_First_L2 K_ p0 p1 m_ (s2_5 + 1))) (some (.inr ()))
def G_First (K_ : Nat) (p0 : Fld) (p1 : List Int) : Option (Int) :=
  (G_First_L2 K_ p0 p1 K_ (0 : Int)).bind fun z => Sum.elim (fun q2 => some (q2)) (fun q2 => some ((-1))) z
end Go.Proofs.Ythogdgkafaclaaa
end
section
set_option linter.unusedVariables false
set_option linter.unusedSimpArgs false
namespace Go.Proofs.Ythogdgkafaclaaa
open Go.RowKit
def G_Settles_L14 (p0 : List (List Int)) (p2 : Int) (s1_7 : Int) (s3_8 : Int) : Nat → Bool → Int → Option (Bool)
  | 0, _, _ => none
  | m_ + 1, s14_9, s14_10 => (idx p0 s1_7).bind fun x15 => cond (decide (s14_10 < (x15.length : Int))) (cond (s14_9) ((cvO .u64 s14_10).bind fun _ => (shrO p2 s14_10).bind fun _ => (rem (shrI p2 s14_10) (2 : Int)).bind fun _ => cond (((shrI p2 s14_10) % 2) == 0) ((i64 (s14_10 + 1)).bind fun _ => G_Settles_L14 p0 p2 s1_7 s3_8 m_ true (s14_10 + 1)) ((idx p0 s1_7).bind fun x24 => (idx x24 s14_10).bind fun x25 => (idx p0 s3_8).bind fun x26 => (idx x26 s14_10).bind fun x27 => (i64 (s14_10 + 1)).bind fun _ => G_Settles_L14 p0 p2 s1_7 s3_8 m_ (x25 == x27) (s14_10 + 1))) (some (s14_9))) (some (s14_9))
def G_Settles_L3 (K_ : Nat) (p0 : List (List Int)) (p1 : Int) (p2 : Int) (s1_7 : Int) : Nat → Int → Option ((Bool) ⊕ (Unit))
  | 0, _ => none
  | m_ + 1, s3_8 => cond (decide (s3_8 < s1_7)) ((idx p0 s1_7).bind fun x6 => (idx p0 s1_7).bind fun x7 => (i64 ((x7.length : Int) - 1)).bind fun _ => (G_Did K_ x6 p1 0 ((x7.length : Int) - 1)).bind fun r9 => (idx p0 s3_8).bind fun x10 => (idx p0 s3_8).bind fun x11 => (i64 ((x11.length : Int) - 1)).bind fun _ => (G_Did K_ x10 p1 0 ((x11.length : Int) - 1)).bind fun r13 => (G_Settles_L14 p0 p2 s1_7 s3_8 K_ (r9 != r13) (0 : Int)).bind fun z14 => cond (z14) (some (.inl false)) ((i64 (s3_8 + 1)).bind fun _ => G_Settles_L3 K_ p0 p1 p2 s1_7 m_ (s3_8 + 1))) (some (.inr ()))
def G_Settles_L1 (K_ : Nat) (p0 : List (List Int)) (p1 : Int) (p2 : Int) : Nat → Int → Option ((Bool) ⊕ (Unit))
  | 0, _ => none
  | m_ + 1, s1_7 => cond (decide (s1_7 < (p0.length : Int))) ((G_Settles_L3 K_ p0 p1 p2 s1_7 K_ (0 : Int)).bind fun z => Sum.elim (fun q3 => some (.inl q3)) (fun q3 => (i64 (s1_7 + 1)).bind fun _ => G_Settles_L1 K_ p0 p1 p2 m_ (s1_7 + 1)) z) (some (.inr ()))
def G_Settles (K_ : Nat) (p0 : List (List Int)) (p1 : Int) (p2 : Int) : Option (Bool) :=
  (G_Settles_L1 K_ p0 p1 p2 K_ (0 : Int)).bind fun z => Sum.elim (fun q1 => some (q1)) (fun q1 => some (true)) z
def G_Ask_L7 (K_ : Nat) (p0 : Fld) (p1 : List (List Int)) (p2 : Int) : Nat → List Int → Int → Option ((List Int))
  | 0, _, _ => none
  | m_ + 1, s7_7, s7_8 => (cvO .u64 p0.rows).bind fun _ => (shlO (1 : Int) p0.rows).bind fun _ => cond (decide (s7_8 < (shlI (1 : Int) p0.rows))) ((G_Bits K_ s7_8).bind fun r11 => (G_Shorter K_ r11 s7_7).bind fun r13 => cond (r13) ((G_Settles K_ p1 p2 s7_8).bind fun r16 => cond (r16) ((i64 (s7_8 + 1)).bind fun _ => G_Ask_L7 K_ p0 p1 p2 m_ r11 (s7_8 + 1)) ((i64 (s7_8 + 1)).bind fun _ => G_Ask_L7 K_ p0 p1 p2 m_ s7_7 (s7_8 + 1))) ((i64 (s7_8 + 1)).bind fun _ => G_Ask_L7 K_ p0 p1 p2 m_ s7_7 (s7_8 + 1))) (some (s7_7))
def G_Ask (K_ : Nat) (p0 : Fld) (p1 : List (List Int)) (p2 : Int) : Option ((List Int)) :=
  (cvO .u64 p0.rows).bind fun _ => (shlO (1 : Int) p0.rows).bind fun _ => (i64 ((shlI (1 : Int) p0.rows) - 1)).bind fun _ => (G_Bits K_ ((shlI (1 : Int) p0.rows) - 1)).bind fun r5 => (G_Ask_L7 K_ p0 p1 p2 K_ r5 (0 : Int)).bind fun z7 => some (z7)
def G_IsRows_L2 (K_ : Nat) (p0 : Fld) (p1 : List Int) : Nat → Int → Int → Option ((Int × Bool) ⊕ (Int))
  | 0, _, _ => none
  | m_ + 1, s2_6, s2_7 => cond (decide (s2_7 < (p1.length : Int))) ((idx p1 s2_7).bind fun x5 => (i64 (p0.rows - 1)).bind fun _ => (G_In K_ x5 0 (p0.rows - 1)).bind fun r7 => cond (!r7) (some (.inl ((0 : Int), false))) (cond (decide (0 < s2_7)) ((idx p1 s2_7).bind fun x12 => (i64 (s2_7 - 1)).bind fun _ => (idx p1 (s2_7 - 1)).bind fun x14 => cond (decide (x12 ≤ x14)) (some (.inl ((0 : Int), false))) ((idx p1 s2_7).bind fun x16 => (cvO .u64 x16).bind fun _ => (shlO (1 : Int) x16).bind fun _ => (bitO s2_6 (shlI (1 : Int) x16)).bind fun _ => (i64 (s2_7 + 1)).bind fun _ => G_IsRows_L2 K_ p0 p1 m_ (orI s2_6 (shlI (1 : Int) x16)) (s2_7 + 1))) ((idx p1 s2_7).bind fun x21 => (cvO .u64 x21).bind fun _ => (shlO (1 : Int) x21).bind fun _ => (bitO s2_6 (shlI (1 : Int) x21)).bind fun _ => (i64 (s2_7 + 1)).bind fun _ => G_IsRows_L2 K_ p0 p1 m_ (orI s2_6 (shlI (1 : Int) x21)) (s2_7 + 1)))) (some (.inr s2_6))
def G_IsRows (K_ : Nat) (p0 : Fld) (p1 : List Int) : Option (Int × Bool) :=
  (G_IsRows_L2 K_ p0 p1 K_ (0 : Int) (0 : Int)).bind fun z => Sum.elim (fun q2 => some ((q2.1, q2.2))) (fun q2 => some ((q2, true))) z
def G_fault (K_ : Nat) (p0 : Fld) : Option (Int) :=
  (G_Fault K_ p0).bind fun r2 => some (r2)
def G_Thin (K_ : Nat) (p0 : Fld) : Option (Bool) :=
  cond (decide ((p0.ts.length : Int) ≤ 7)) ((G_Fault K_ p0).bind fun r3 => cond (r3 != 0) (some (true)) ((G_Many K_ p0).bind fun r6 => some (decide (r6 ≤ 250)))) (some (false))
def G_to (K_ : Nat) (p0 : (Int × Int)) : Option ((Int × Int)) :=
  some (p0)
def G_same_L2 (p0 : List Int) (p1 : List Int) : Nat → Int → Option ((Bool) ⊕ (Unit))
  | 0, _ => none
  | m_ + 1, s2_5 => cond (decide (s2_5 < (p0.length : Int))) ((idx p0 s2_5).bind fun x5 => (idx p1 s2_5).bind fun x6 => cond (x5 != x6) (some (.inl false)) ((i64 (s2_5 + 1)).bind fun _ => G_same_L2 p0 p1 m_ (s2_5 + 1))) (some (.inr ()))
def G_same (K_ : Nat) (p0 : List Int) (p1 : List Int) : Option (Bool) :=
  cond ((p0.length : Int) != (p1.length : Int)) (some (false)) ((G_same_L2 p0 p1 K_ (0 : Int)).bind fun z => Sum.elim (fun q2 => some (q2)) (fun q2 => some (true)) z)
def G_ready (K_ : Nat) (p0 : Fld) : Option (Bool) :=
  (G_Thin K_ p0).bind fun r2 => cond (r2) ((G_fault K_ p0).bind fun r5 => some (r5 == 0)) (some (false))
def G_inside (K_ : Nat) (p0 : (Int × Int)) (p1 : (Int × Int)) : Option (Bool) :=
  cond (decide (p1.1 ≤ p0.1)) (some (decide (p0.2 ≤ p1.2))) (some (false))
def G_has_L1 (p0 : List Int) (p1 : Int) : Nat → Int → Option ((Bool) ⊕ (Unit))
  | 0, _ => none
  | m_ + 1, s1_5 => cond (decide (s1_5 < (p0.length : Int))) ((idx p0 s1_5).bind fun x3 => cond (x3 == p1) (some (.inl true)) ((i64 (s1_5 + 1)).bind fun _ => G_has_L1 p0 p1 m_ (s1_5 + 1))) (some (.inr ()))
def G_has (K_ : Nat) (p0 : List Int) (p1 : Int) : Option (Bool) :=
  (G_has_L1 p0 p1 K_ (0 : Int)).bind fun z => Sum.elim (fun q1 => some (q1)) (fun q1 => some (false)) z
def G_between (K_ : Nat) (p0 : Int) (p1 : Int) : Option ((Int × Int)) :=
  some ((⟨p0, p1⟩ : (Int × Int)))
def G_in_ (K_ : Nat) (p0 : Int) (p1 : (Int × Int)) : Option (Bool) :=
  cond (decide (p1.1 ≤ p0)) (some (decide (p0 ≤ p1.2))) (some (false))
def G_word (K_ : Nat) (p0 : List Int) (p1 : Int) : Option (Int) :=
  cond ((p0.length : Int) == 0) (some (0)) ((rem p1 (p0.length : Int)).bind fun _ => (idx p0 (p1 % (p0.length : Int))).bind fun x3 => (cvO .i64 x3).bind fun _ => some (x3))
def G_sure (K_ : Nat) (p0 : Fld) : Option ((List (List Int)) × Int) :=
  (G_fault K_ p0).bind fun r2 => cond (r2 != 0) (some ((([] : List (List Int)), r2))) ((G_Truths K_ p0).bind fun r5 => cond ((r5.length : Int) == 0) (some ((([] : List (List Int)), 11))) (some ((r5, 0))))
end Go.Proofs.Ythogdgkafaclaaa
end
section
set_option linter.unusedVariables false
set_option linter.unusedSimpArgs false
namespace Go.Proofs.Ythogdgkafaclaaa
open Go.RowKit
def G_list (K_ : Nat) (p0 : List Int) : Option ((List Int)) :=
  (ifo (((([] : List Int).length + p0.length : Nat) : Int) ≤ 140737488355328 / 8)).bind fun _ => some (([] : List Int) ++ p0)
def G_some__L6 (p0 : Fld) (p1 : Int) : Nat → Int → List Tly → Option ((List Tly))
  | 0, _, _ => none
  | m_ + 1, s6_6, s6_b34 => cond (decide (s6_6 < (p0.ts.length : Int))) ((cvO .u64 s6_6).bind fun _ => (shrO p1 s6_6).bind fun _ => (rem (shrI p1 s6_6) (2 : Int)).bind fun _ => cond (((shrI p1 s6_6) % 2) == 1) ((idx p0.ts s6_6).bind fun x14 => (ifo (((s6_b34.length + [x14].length : Nat) : Int) ≤ 140737488355328 / 40)).bind fun _ => (i64 (s6_6 + 1)).bind fun _ => G_some__L6 p0 p1 m_ (s6_6 + 1) (s6_b34 ++ [x14])) ((i64 (s6_6 + 1)).bind fun _ => G_some__L6 p0 p1 m_ (s6_6 + 1) s6_b34)) (some (s6_b34))
def G_some_ (K_ : Nat) (p0 : Fld) (p1 : Int) : Option (Fld) :=
  (G_some__L6 p0 p1 K_ (0 : Int) ([] : List Tly)).bind fun z6 => some ((⟨p0.rows, p0.wd, p0.lo, p0.hi, z6⟩ : Fld))
def G_answered_L10 (p0 : Fld) (p1 : Int) (p2 : Int) : Nat → Int → List Tly → Option ((List Tly))
  | 0, _, _ => none
  | m_ + 1, s10_8, s10_b34 => cond (decide (s10_8 < p0.wd)) (cond (s10_8 == p2) ((ifo (((s10_b34.length + [(⟨s10_8, p1, p1, 1, 1⟩ : Tly)].length : Nat) : Int) ≤ 140737488355328 / 40)).bind fun _ => cond (decide (p2 < 0)) ((ifo ((((s10_b34 ++ [(⟨s10_8, p1, p1, 1, 1⟩ : Tly)]).length + [(⟨s10_8, p1, p1, 0, 0⟩ : Tly)].length : Nat) : Int) ≤ 140737488355328 / 40)).bind fun _ => (i64 (s10_8 + 1)).bind fun _ => G_answered_L10 p0 p1 p2 m_ (s10_8 + 1) ((s10_b34 ++ [(⟨s10_8, p1, p1, 1, 1⟩ : Tly)]) ++ [(⟨s10_8, p1, p1, 0, 0⟩ : Tly)])) ((i64 (s10_8 + 1)).bind fun _ => G_answered_L10 p0 p1 p2 m_ (s10_8 + 1) (s10_b34 ++ [(⟨s10_8, p1, p1, 1, 1⟩ : Tly)]))) (cond (decide (p2 < 0)) ((ifo (((s10_b34.length + [(⟨s10_8, p1, p1, 0, 0⟩ : Tly)].length : Nat) : Int) ≤ 140737488355328 / 40)).bind fun _ => (i64 (s10_8 + 1)).bind fun _ => G_answered_L10 p0 p1 p2 m_ (s10_8 + 1) (s10_b34 ++ [(⟨s10_8, p1, p1, 0, 0⟩ : Tly)])) ((i64 (s10_8 + 1)).bind fun _ => G_answered_L10 p0 p1 p2 m_ (s10_8 + 1) s10_b34))) (some (s10_b34))
def G_answered (K_ : Nat) (p0 : Fld) (p1 : Int) (p2 : Int) : Option (Fld) :=
  (ifo (((([] : List Tly).length + p0.ts.length : Nat) : Int) ≤ 140737488355328 / 40)).bind fun _ => (G_answered_L10 p0 p1 p2 K_ (0 : Int) (([] : List Tly) ++ p0.ts)).bind fun z10 => some ((⟨p0.rows, p0.wd, p0.lo, p0.hi, z10⟩ : Fld))
def G_Field_L7 (K_ : Nat) (p0 : Fld) : Nat → Int → List Tly → Option ((List Tly))
  | 0, _, _ => none
  | m_ + 1, s7_4, s7_bb3_84 => cond (decide (s7_4 < (p0.ts.length : Int))) ((idx p0.ts s7_4).bind fun x10 => (G_to K_ (⟨x10.lo, x10.hi⟩ : (Int × Int))).bind fun r14 => (ifo (((s7_bb3_84.length + [(⟨x10.who, x10.fr, x10.to, r14.1, r14.2⟩ : Tly)].length : Nat) : Int) ≤ 140737488355328 / 40)).bind fun _ => (i64 (s7_4 + 1)).bind fun _ => G_Field_L7 K_ p0 m_ (s7_4 + 1) (s7_bb3_84 ++ [(⟨x10.who, x10.fr, x10.to, r14.1, r14.2⟩ : Tly)])) (some (s7_bb3_84))
def G_Field (K_ : Nat) (p0 : Fld) : Option (Fld) :=
  (G_to K_ (⟨p0.lo, p0.hi⟩ : (Int × Int))).bind fun r4 => (G_Field_L7 K_ p0 K_ (0 : Int) ([] : List Tly)).bind fun z7 => some ((⟨p0.rows, p0.wd, r4.1, r4.2, z7⟩ : Fld))
end Go.Proofs.Ythogdgkafaclaaa
end
section
set_option linter.unusedVariables false
set_option linter.unusedSimpArgs false
namespace Go.Proofs.Ythogdgkafaclaaa
open Go.RowKit
def G_Next_L13 (K_ : Nat) (p0 : Fld) (p1 : List (List Int)) (p2 : Int) (rec_ : Fld → (List (List Int)) → Int → Option (Int × Int)) (s7_10 : Int) (s7_11 : Int) : Nat → Int → Int → Option (Int)
  | 0, _, _ => none
  | m_ + 1, s13_12, s13_13 => cond (decide (s13_13 < p0.wd)) ((i64 (s13_12 + 1)).bind fun _ => cond (decide ((s13_12 + 1) < s7_10)) ((G_Same K_ p1 s7_11 s13_13).bind fun r17 => cond (decide (0 < (r17.length : Int))) ((rec_ p0 r17 p2).bind fun r20 => (i64 (s13_13 + 1)).bind fun _ => G_Next_L13 K_ p0 p1 p2 rec_ s7_10 s7_11 m_ (max s13_12 r20.2) (s13_13 + 1)) ((i64 (s13_13 + 1)).bind fun _ => G_Next_L13 K_ p0 p1 p2 rec_ s7_10 s7_11 m_ s13_12 (s13_13 + 1))) (some (s13_12))) (some (s13_12))
def G_Next_L7 (K_ : Nat) (p0 : Fld) (p1 : List (List Int)) (p2 : Int) (rec_ : Fld → (List (List Int)) → Int → Option (Int × Int)) : Nat → Int → Int → Int → Option (Int × Int)
  | 0, _, _, _ => none
  | m_ + 1, s7_9, s7_10, s7_11 => cond (decide (s7_11 < p0.rows)) ((G_Who K_ p0 p1 s7_11).bind fun r9 => cond (decide ((r9.length : Int) < 2)) ((i64 (s7_11 + 1)).bind fun _ => G_Next_L7 K_ p0 p1 p2 rec_ m_ s7_9 s7_10 (s7_11 + 1)) ((G_Next_L13 K_ p0 p1 p2 rec_ s7_10 s7_11 K_ (0 : Int) (-1)).bind fun z13 => (i64 (z13 + 1)).bind fun _ => cond (decide ((z13 + 1) < s7_10)) ((i64 (z13 + 1)).bind fun _ => (i64 (s7_11 + 1)).bind fun _ => G_Next_L7 K_ p0 p1 p2 rec_ m_ s7_11 (z13 + 1) (s7_11 + 1)) ((i64 (s7_11 + 1)).bind fun _ => G_Next_L7 K_ p0 p1 p2 rec_ m_ s7_9 s7_10 (s7_11 + 1)))) (some ((s7_9, s7_10)))
def G_Next (K_ : Nat) : Nat → Fld → (List (List Int)) → Int → Option (Int × Int)
  | 0, _, _, _ => none
  | k_ + 1, p0, p1, p2 => (G_Done K_ p1 p2).bind fun r2 => cond (r2.1 == r2.2) (some (((-1), 0))) ((G_Next_L7 K_ p0 p1 p2 (G_Next K_ k_) K_ (-1) (100 : Int) (0 : Int)).bind fun z7 => some ((z7.1, z7.2)))
end Go.Proofs.Ythogdgkafaclaaa
end
section
set_option linter.unusedVariables false
set_option linter.unusedSimpArgs false
namespace Go.Proofs.Ythogdgkafaclaaa
open Go.RowKit
def G_four (K_ : Nat) (p0 : List Tly) : Option (Fld) :=
  (G_between K_ 2 3).bind fun r2 => (G_between K_ 1 2).bind fun r5 => (ifo ((([(⟨0, 0, 2, r2.1, r2.2⟩ : Tly), (⟨1, 2, 3, r5.1, r5.2⟩ : Tly)].length + p0.length : Nat) : Int) ≤ 140737488355328 / 40)).bind fun _ => some ((⟨4, 2, 0, 0, [(⟨0, 0, 2, r2.1, r2.2⟩ : Tly), (⟨1, 2, 3, r5.1, r5.2⟩ : Tly)] ++ p0⟩ : Fld))
def G_two (K_ : Nat) : Option (Tly) :=
  (G_between K_ 2 2).bind fun r2 => some ((⟨0, 0, 1, r2.1, r2.2⟩ : Tly))
def G_wrong (K_ : Nat) : Option (Tly) :=
  (G_between K_ 2 2).bind fun r2 => some ((⟨1, 0, 1, r2.1, r2.2⟩ : Tly))
end Go.Proofs.Ythogdgkafaclaaa
end
section
set_option linter.unusedVariables false
set_option linter.unusedSimpArgs false
namespace Go.Proofs.Ythogdgkafaclaaa
open Go.RowKit
def G_Told_L16 (K_ : Nat) (p0 : Fld) (p2 : List Int) (r7 : (List Int)) : Nat → Int → List Tly → Option ((List Tly))
  | 0, _, _ => none
  | m_ + 1, s16_11, s16_b84 => (G_word K_ p2 0).bind fun r18 => (rem r18 (6 : Int)).bind fun _ => cond (decide (s16_11 < (r18 % 6))) ((i64 (s16_11 + 1)).bind fun _ => (G_word K_ p2 (s16_11 + 1)).bind fun r23 => (rem r23 p0.wd).bind fun _ => (quo r23 (4 : Int)).bind fun _ => (i64 (r23 / 4)).bind fun _ => (rem (r23 / 4) p0.rows).bind fun _ => (quo r23 (32 : Int)).bind fun _ => (i64 (r23 / 32)).bind fun _ => (i64 (p0.rows - ((r23 / 4) % p0.rows))).bind fun _ => (rem (r23 / 32) (p0.rows - ((r23 / 4) % p0.rows))).bind fun _ => (i64 (((r23 / 4) % p0.rows) + ((r23 / 32) % (p0.rows - ((r23 / 4) % p0.rows))))).bind fun _ => (G_Did K_ r7 (r23 % p0.wd) ((r23 / 4) % p0.rows) (((r23 / 4) % p0.rows) + ((r23 / 32) % (p0.rows - ((r23 / 4) % p0.rows))))).bind fun r39 => (quo r23 (256 : Int)).bind fun _ => (i64 (r23 / 256)).bind fun _ => (rem (r23 / 256) (2 : Int)).bind fun _ => (i64 (r39 - ((r23 / 256) % 2))).bind fun _ => (quo r23 (512 : Int)).bind fun _ => (i64 (r23 / 512)).bind fun _ => (rem (r23 / 512) (2 : Int)).bind fun _ => (i64 (r39 + ((r23 / 512) % 2))).bind fun _ => (ifo (((s16_b84.length + [(⟨r23 % p0.wd, (r23 / 4) % p0.rows, ((r23 / 4) % p0.rows) + ((r23 / 32) % (p0.rows - ((r23 / 4) % p0.rows))), max (0 : Int) (r39 - ((r23 / 256) % 2)), min p0.rows (r39 + ((r23 / 512) % 2))⟩ : Tly)].length : Nat) : Int) ≤ 140737488355328 / 40)).bind fun _ => (i64 (s16_11 + 1)).bind fun _ => G_Told_L16 K_ p0 p2 r7 m_ (s16_11 + 1) (s16_b84 ++ [(⟨r23 % p0.wd, (r23 / 4) % p0.rows, ((r23 / 4) % p0.rows) + ((r23 / 32) % (p0.rows - ((r23 / 4) % p0.rows))), max (0 : Int) (r39 - ((r23 / 256) % 2)), min p0.rows (r39 + ((r23 / 512) % 2))⟩ : Tly)])) (some (s16_b84))
def G_Told (K_ : Nat) (p0 : Fld) (p1 : Int) (p2 : List Int) : Option (Fld × (List Int)) :=
  (cvO .i64 p1).bind fun _ => (G_Many K_ p0).bind fun r5 => (rem p1 r5).bind fun _ => (G_Nth K_ p0 (p1 % r5)).bind fun r7 => (i64 (p0.rows - 1)).bind fun _ => (G_Did K_ r7 (-1) 0 (p0.rows - 1)).bind fun r11 => (G_Told_L16 K_ p0 p2 r7 K_ (0 : Int) ([] : List Tly)).bind fun z16 => some (((⟨p0.rows, p0.wd, min p0.lo r11, max p0.hi r11, z16⟩ : Fld), r7))
end Go.Proofs.Ythogdgkafaclaaa
end
section
namespace Go.Proofs.Ythogdgkafaclaaa
theorem mixed : Try.prog.follows .mixedOrders = true := by kernel_rfl
theorem fz_33_0 (b : Nat) (w : World) : (Instr.fieldAt 33 (.pointer (some ⟨b, 0, none⟩)) 0).run Try.prog w = .ok (.pointer (some ⟨b, 0, none⟩)) w := by kernel_rfl
theorem one_3 : One Try.prog 3 := by unfold One; exact ⟨by kernel_rfl, by kernel_rfl⟩
theorem fz_33_1 (b : Nat) (w : World) : (Instr.fieldAt 33 (.pointer (some ⟨b, 0, none⟩)) 1).run Try.prog w = .ok (.pointer (some ⟨b, 1, none⟩)) w := by kernel_rfl
theorem own_102 : Own Try.prog 102 := by unfold Own; kernel_rfl
theorem fz_36_0 (b : Nat) (w : World) : (Instr.fieldAt 36 (.pointer (some ⟨b, 0, none⟩)) 0).run Try.prog w = .ok (.pointer (some ⟨b, 0, none⟩)) w := by kernel_rfl
theorem fz_36_1 (b : Nat) (w : World) : (Instr.fieldAt 36 (.pointer (some ⟨b, 0, none⟩)) 1).run Try.prog w = .ok (.pointer (some ⟨b, 1, none⟩)) w := by kernel_rfl
theorem agg_36 : Agg Try.prog 36 5 := by unfold Agg; exact ⟨by kernel_rfl, by kernel_rfl⟩
theorem fz_95_0 (b : Nat) (w : World) : (Instr.fieldAt 95 (.pointer (some ⟨b, 0, none⟩)) 0).run Try.prog w = .ok (.pointer (some ⟨b, 0, none⟩)) w := by kernel_rfl
theorem own_77 : Own Try.prog 77 := by unfold Own; kernel_rfl
theorem fz_95_1 (b : Nat) (w : World) : (Instr.fieldAt 95 (.pointer (some ⟨b, 0, none⟩)) 1).run Try.prog w = .ok (.pointer (some ⟨b, 1, none⟩)) w := by kernel_rfl
theorem own_73 : Own Try.prog 73 := by unfold Own; kernel_rfl
theorem fz_95_2 (b : Nat) (w : World) : (Instr.fieldAt 95 (.pointer (some ⟨b, 0, none⟩)) 2).run Try.prog w = .ok (.pointer (some ⟨b, 2, none⟩)) w := by kernel_rfl
theorem fz_95_3 (b : Nat) (w : World) : (Instr.fieldAt 95 (.pointer (some ⟨b, 0, none⟩)) 3).run Try.prog w = .ok (.pointer (some ⟨b, 3, none⟩)) w := by kernel_rfl
theorem agg_33 : Agg Try.prog 33 2 := by unfold Agg; exact ⟨by kernel_rfl, by kernel_rfl⟩
theorem own_91 : Own Try.prog 91 := by unfold Own; kernel_rfl
theorem one_125 : One Try.prog 125 := by unfold One; exact ⟨by kernel_rfl, by kernel_rfl⟩
theorem agg_95 : Agg Try.prog 95 5 := by unfold Agg; exact ⟨by kernel_rfl, by kernel_rfl⟩
theorem own_90 : Own Try.prog 90 := by unfold Own; kernel_rfl
theorem sz_95 : (Try.prog.info? 95).map (·.size) = some 5 := by kernel_rfl
theorem own_111 : Own Try.prog 111 := by unfold Own; kernel_rfl
theorem own_132 : Own Try.prog 132 := by unfold Own; kernel_rfl
theorem own_110 : Own Try.prog 110 := by unfold Own; kernel_rfl
theorem fz_36_3 (b : Nat) (w : World) : (Instr.fieldAt 36 (.pointer (some ⟨b, 0, none⟩)) 3).run Try.prog w = .ok (.pointer (some ⟨b, 4, none⟩)) w := by kernel_rfl
theorem one_34 : One Try.prog 34 := by unfold One; exact ⟨by kernel_rfl, by kernel_rfl⟩
theorem fz_36_2 (b : Nat) (w : World) : (Instr.fieldAt 36 (.pointer (some ⟨b, 0, none⟩)) 2).run Try.prog w = .ok (.pointer (some ⟨b, 2, none⟩)) w := by kernel_rfl
theorem own_92 : Own Try.prog 92 := by unfold Own; kernel_rfl
theorem sz_3 : (Try.prog.info? 3).map (·.size) = some 1 := by kernel_rfl
theorem agg_105 : Agg Try.prog 105 7 := by unfold Agg; exact ⟨by kernel_rfl, by kernel_rfl⟩
theorem own_100 : Own Try.prog 100 := by unfold Own; kernel_rfl
theorem zero_3 : (Try.prog.info? 3).bind (·.zero) = some (I 0) := by kernel_rfl
theorem kwide_105 : KWide Try.prog 105 := by unfold KWide; kernel_rfl
theorem keq_105 : KEq Try.prog 105 7 := keq_array Try.underlying105 one_3 Try.underlying3
theorem kchk_105 : KChk Try.prog 105 7 := kchk_array Try.underlying105 one_3 Try.underlying3
theorem kwide_145 : KWide Try.prog 145 := by unfold KWide; kernel_rfl
theorem keq_145 : KEq Try.prog 145 3 := keq_struct 3 Try.underlying145 (by kernel_rfl) rfl rfl one_3 Try.underlying3
theorem kchk_145 : KChk Try.prog 145 3 := kchk_struct 3 Try.underlying145 rfl rfl one_3 Try.underlying3
theorem own_134 : Own Try.prog 134 := by unfold Own; kernel_rfl
theorem zero_95 : (Try.prog.info? 95).bind (·.zero) = some (.agg #[I 0, I 0, I 0, I 0, I 0]) := by kernel_rfl
theorem zero_145 : (Try.prog.info? 145).bind (·.zero) = some (.agg #[I 0, I 0, I 0]) := by kernel_rfl
theorem sz_145 : (Try.prog.info? 145).map (·.size) = some 3 := by kernel_rfl
theorem agg_145 : Agg Try.prog 145 3 := by unfold Agg; exact ⟨by kernel_rfl, by kernel_rfl⟩
theorem own_114 : Own Try.prog 114 := by unfold Own; kernel_rfl
theorem own_115 : Own Try.prog 115 := by unfold Own; kernel_rfl
theorem own_68 : Own Try.prog 68 := by unfold Own; kernel_rfl
theorem one_43 : One Try.prog 43 := by unfold One; exact ⟨by kernel_rfl, by kernel_rfl⟩
theorem own_95 : Own Try.prog 95 := by unfold Own; kernel_rfl
theorem one_140 : One Try.prog 140 := by unfold One; exact ⟨by kernel_rfl, by kernel_rfl⟩
theorem one_109 : One Try.prog 109 := by unfold One; exact ⟨by kernel_rfl, by kernel_rfl⟩
theorem own_117 : Own Try.prog 117 := by unfold Own; kernel_rfl
theorem zero_105 : (Try.prog.info? 105).bind (·.zero) = some (.agg #[I 0, I 0, I 0, I 0, I 0, I 0, I 0]) := by kernel_rfl
theorem zero_109 : (Try.prog.info? 109).bind (·.zero) = some (.nilFunc) := by kernel_rfl
theorem sz_109 : (Try.prog.info? 109).map (·.size) = some 1 := by kernel_rfl
theorem zero_4 : (Try.prog.info? 4).bind (·.zero) = some (.bool false) := by kernel_rfl
theorem own_99 : Own Try.prog 99 := by unfold Own; kernel_rfl
theorem own_116 : Own Try.prog 116 := by unfold Own; kernel_rfl
theorem sz_4 : (Try.prog.info? 4).map (·.size) = some 1 := by kernel_rfl
theorem one_4 : One Try.prog 4 := by unfold One; exact ⟨by kernel_rfl, by kernel_rfl⟩
theorem info_105 : (Try.prog.info? 105).map (fun i => (i.zero, i.size, i.bytes)) = some (some (.agg #[I 0, I 0, I 0, I 0, I 0, I 0, I 0]), 7, 56) := by kernel_rfl
theorem own_51 : Own Try.prog 51 := by unfold Own; kernel_rfl
theorem zero_97 : (Try.prog.info? 97).bind (·.zero) = some (.pointer none) := by kernel_rfl
theorem sz_97 : (Try.prog.info? 97).map (·.size) = some 1 := by kernel_rfl
theorem sz_105 : (Try.prog.info? 105).map (·.size) = some 7 := by kernel_rfl
theorem one_97 : One Try.prog 97 := by unfold One; exact ⟨by kernel_rfl, by kernel_rfl⟩
theorem fz_102_1 (b : Nat) (w : World) : (Instr.fieldAt 102 (.pointer (some ⟨b, 0, none⟩)) 1).run Try.prog w = .ok (.pointer (some ⟨b, 5, none⟩)) w := by kernel_rfl
theorem one_100 : One Try.prog 100 := by unfold One; exact ⟨by kernel_rfl, by kernel_rfl⟩
theorem bx_100 (a b c d e f g : Int) (w : World) : (Instr.buildSlice 100 1 #[(0, ansV [a, b, c, d, e, f, g])]).run Try.prog w = .ok (.slice (some ⟨w.heap.size, 0, none⟩) 1 1) (w.alloc (.cells (ivs [a, b, c, d, e, f, g]).toArray 105)) := by kernel_rfl
theorem bs_100 (x : List Int) (h : x.length = 7) (w : World) : (Instr.buildSlice 100 1 #[(0, ansV x)]).run Try.prog w = .ok (.slice (some ⟨w.heap.size, 0, none⟩) 1 1) (w.alloc (.cells (ivs x).toArray 105)) :=
  match x, h with
  | [a, b, c, d, e, f, g], _ => bx_100 a b c d e f g w
theorem sz_100 : (Try.prog.info? 100).map (·.size) = some 1 := by kernel_rfl
theorem own_118 : Own Try.prog 118 := by unfold Own; kernel_rfl
theorem zero_33 : (Try.prog.info? 33).bind (·.zero) = some (.agg #[I 0, I 0]) := by kernel_rfl
theorem own_101 : Own Try.prog 101 := by unfold Own; kernel_rfl
theorem sz_33 : (Try.prog.info? 33).map (·.size) = some 2 := by kernel_rfl
theorem own_67 : Own Try.prog 67 := by unfold Own; kernel_rfl
theorem own_66 : Own Try.prog 66 := by unfold Own; kernel_rfl
theorem fz_102_0 (b : Nat) (w : World) : (Instr.fieldAt 102 (.pointer (some ⟨b, 0, none⟩)) 0).run Try.prog w = .ok (.pointer (some ⟨b, 0, none⟩)) w := by kernel_rfl
theorem own_69 : Own Try.prog 69 := by unfold Own; kernel_rfl
theorem info_33 : (Try.prog.info? 33).map (fun i => (i.zero, i.size, i.bytes)) = some (some (.agg #[I 0, I 0]), 2, 16) := by kernel_rfl
theorem eqnf_43 (ad : Addr) (n c : Nat) (w : World) : (Op.equal 43 (.slice (some ad) n c) (.slice none 0 0)).run Try.prog w = .ok false w := by kernel_rfl
theorem info_3 : (Try.prog.info? 3).map (fun i => (i.zero, i.size, i.bytes)) = some (some (I 0), 1, 8) := by kernel_rfl
theorem eqnt_43 (n c : Nat) (w : World) : (Op.equal 43 (.slice none n c) (.slice none 0 0)).run Try.prog w = .ok true w := by kernel_rfl
theorem sz_43 : (Try.prog.info? 43).map (·.size) = some 1 := by kernel_rfl
theorem one_117 : One Try.prog 117 := by unfold One; exact ⟨by kernel_rfl, by kernel_rfl⟩
theorem one_142 : One Try.prog 142 := by unfold One; exact ⟨by kernel_rfl, by kernel_rfl⟩
theorem own_109 : Own Try.prog 109 := by unfold Own; kernel_rfl
theorem own_108 : Own Try.prog 108 := by unfold Own; kernel_rfl
theorem zero_43 : (Try.prog.info? 43).bind (·.zero) = some (.slice none 0 0) := by kernel_rfl
theorem zero_142 : (Try.prog.info? 142).bind (·.zero) = some (.nilFunc) := by kernel_rfl
theorem sz_142 : (Try.prog.info? 142).map (·.size) = some 1 := by kernel_rfl
theorem fz_124_0 (b : Nat) (w : World) : (Instr.fieldAt 124 (.pointer (some ⟨b, 0, none⟩)) 0).run Try.prog w = .ok (.pointer (some ⟨b, 0, none⟩)) w := by kernel_rfl
theorem one_121 : One Try.prog 121 := by unfold One; exact ⟨by kernel_rfl, by kernel_rfl⟩
theorem own_87 : Own Try.prog 87 := by unfold Own; kernel_rfl
theorem own_86 : Own Try.prog 86 := by unfold Own; kernel_rfl
theorem zero_124 : (Try.prog.info? 124).bind (·.zero) = some (.agg #[.nilFunc]) := by kernel_rfl
theorem sz_124 : (Try.prog.info? 124).map (·.size) = some 1 := by kernel_rfl
theorem own_88 : Own Try.prog 88 := by unfold Own; kernel_rfl
theorem own_81 : Own Try.prog 81 := by unfold Own; kernel_rfl
theorem own_80 : Own Try.prog 80 := by unfold Own; kernel_rfl
theorem own_97 : Own Try.prog 97 := by unfold Own; kernel_rfl
theorem own_94 : Own Try.prog 94 := by unfold Own; kernel_rfl
theorem own_113 : Own Try.prog 113 := by unfold Own; kernel_rfl
theorem own_133 : Own Try.prog 133 := by unfold Own; kernel_rfl
theorem own_112 : Own Try.prog 112 := by unfold Own; kernel_rfl
theorem sla_105 (b : Nat) (w : World) : (Instr.sliceAt 105 (.pointer (some ⟨b, 0, none⟩)) none none none).run Try.prog w = .ok (.slice (some ⟨b, 0, none⟩) 7 7) w := by kernel_rfl
theorem own_93 : Own Try.prog 93 := by unfold Own; kernel_rfl
theorem zero_36 : (Try.prog.info? 36).bind (·.zero) = some (.agg #[I 0, I 0, I 0, I 0, .slice none 0 0]) := by kernel_rfl
theorem sz_36 : (Try.prog.info? 36).map (·.size) = some 5 := by kernel_rfl
theorem sz_34 : (Try.prog.info? 34).map (·.size) = some 1 := by kernel_rfl
theorem one_111 : One Try.prog 111 := by unfold One; exact ⟨by kernel_rfl, by kernel_rfl⟩
theorem fz_114_0 (b : Nat) (w : World) : (Instr.fieldAt 114 (.pointer (some ⟨b, 0, none⟩)) 0).run Try.prog w = .ok (.pointer (some ⟨b, 0, none⟩)) w := by kernel_rfl
theorem fz_114_1 (b : Nat) (w : World) : (Instr.fieldAt 114 (.pointer (some ⟨b, 0, none⟩)) 1).run Try.prog w = .ok (.pointer (some ⟨b, 1, none⟩)) w := by kernel_rfl
theorem own_106 : Own Try.prog 106 := by unfold Own; kernel_rfl
theorem own_131 : Own Try.prog 131 := by unfold Own; kernel_rfl
theorem own_141 : Own Try.prog 141 := by unfold Own; kernel_rfl
theorem own_130 : Own Try.prog 130 := by unfold Own; kernel_rfl
theorem zero_157 : (Try.prog.info? 157).bind (·.zero) = some (.agg #[.slice none 0 0, .slice none 0 0, .slice none 0 0, .slice none 0 0]) := by kernel_rfl
theorem agg_157 : Agg Try.prog 157 4 := by unfold Agg; exact ⟨by kernel_rfl, by kernel_rfl⟩
theorem fz_114_2 (b : Nat) (w : World) : (Instr.fieldAt 114 (.pointer (some ⟨b, 0, none⟩)) 2).run Try.prog w = .ok (.pointer (some ⟨b, 2, none⟩)) w := by kernel_rfl
theorem one_112 : One Try.prog 112 := by unfold One; exact ⟨by kernel_rfl, by kernel_rfl⟩
theorem own_78 : Own Try.prog 78 := by unfold Own; kernel_rfl
theorem own_105 : Own Try.prog 105 := by unfold Own; kernel_rfl
theorem own_107 : Own Try.prog 107 := by unfold Own; kernel_rfl
theorem own_72 : Own Try.prog 72 := by unfold Own; kernel_rfl
theorem own_74 : Own Try.prog 74 := by unfold Own; kernel_rfl
theorem own_75 : Own Try.prog 75 := by unfold Own; kernel_rfl
theorem own_76 : Own Try.prog 76 := by unfold Own; kernel_rfl
end Go.Proofs.Ythogdgkafaclaaa
end
section
set_option linter.unusedVariables false
set_option linter.unusedSimpArgs false
namespace Go.Proofs.Ythogdgkafaclaaa
open Go.RowKit
attribute [local irreducible] Ex1 WL CC CW LV Ret ObOp Agg One Own
theorem c102 (n a b : Int) (w : World) :
    Ret Try.prog 102 #[I n, I a, I b] w (fun v w' => v = .bool (inR n a b) ∧ w' = w) := by
  refine ret_of_cc (N := 15) Try.func102 rfl rfl (by simp) ?_
  intro fr0 ha hdf
  have hp0 := sl_arg (i := 0) (v := I n) ha rfl
  have hp1 := sl_arg (i := 1) (v := I a) ha rfl
  have hp2 := sl_arg (i := 2) (v := I b) ha rfl
  clear ha
  refine cc_seq <| cc_region <| wa rfl (v := .bool false) rfl <| wl_end <| lv_next <| cc_seq <| cc_region <| wm rfl (v := I a) hp1 <| wm rfl (v := I n) hp0 <| wd rfl (fun st => x_leq (ee st rfl) (ee st rfl)) <| wm rfl (v := .bool (decide (a ≤ n))) rfl ?_
  rcases bool_cases (decide (a ≤ n)) with hg1 | hg1
  · skip
    have hg1p := hg1
    have hg1p := of_decide_eq_true hg1p
    refine wl_detg rfl rfl (guard_eq rfl hg1) rfl (by decide) (fun st => x_move (v := I n) (ee st hp0)) <| wl_detg rfl rfl (guard_eq rfl hg1) rfl (by decide) (fun st => x_move (v := I b) (ee st hp2)) <| wl_detg rfl rfl (guard_eq rfl hg1) rfl (by decide) (fun st => x_leq (ee st rfl) (ee st rfl)) <| wd rfl (fun st => x_pick_t (v := .bool (decide (n ≤ b))) (ee st rfl) hg1 (ee st rfl)) <| wa rfl (v := .bool (decide (n ≤ b))) rfl <| wl_end <| lv_next <| cc_ret <| lv_ret1 rfl rfl ?_
    exact ⟨vbool (by simp [inR, *]), rfl⟩
  · skip
    have hg1p := hg1
    have hg1p := of_decide_eq_false hg1p
    refine wl_skip (c := false) rfl rfl (guard_eq rfl hg1) (by decide) rfl (by decide) <| wl_skip (c := false) rfl rfl (guard_eq rfl hg1) (by decide) rfl (by decide) <| wl_skip (c := false) rfl rfl (guard_eq rfl hg1) (by decide) rfl (by decide) <| wd rfl (fun st => x_pick_f (v := .bool false) (ee st rfl) hg1 (ee st rfl)) <| wa rfl (v := .bool false) rfl <| wl_end <| lv_next <| cc_ret <| lv_ret1 rfl rfl ?_
    exact ⟨vbool (by simp [inR, *]), rfl⟩
theorem c115 (n a b : Int) (w : World) :
    Ret Try.prog 115 #[.agg #[I a, I b], I n] w (fun v w' => v = .bool (inR n a b) ∧ Ext w w') := by
  refine ret_of_cc (N := 11) Try.func115 rfl rfl (by simp) ?_
  intro fr0 ha hdf
  have hp0 := sl_arg (i := 0) (v := .agg #[I a, I b]) ha rfl
  have hp1 := sl_arg (i := 1) (v := I n) ha rfl
  clear ha
  refine cc_seq <| cc_region <| we rfl (fun st => x_box (v := .agg #[I a, I b]) (cs := #[I a, I b]) (ee st hp0) rfl) ?_
  rintro _ w1 ⟨b1, rfl, nb1⟩
  have lo1 : w.heap.size ≤ b1 := by rw [nb1.b_eq]; exact (Below.refl w.heap.size w).size
  refine wa rfl (v := .bool false) rfl <| wl_end <| lv_next <| cc_seq <| cc_region <| wm rfl (v := I n) hp1 <| wd rfl (fun st => x_fieldAddr (ee st rfl) (fz_33_0 _ _)) <| wd rfl (fun st => x_load1 (v := I a) one_3 (ee st rfl) nb1.bk rfl) <| wd rfl (fun st => x_fieldAddr (ee st rfl) (fz_33_1 _ _)) <| wd rfl (fun st => x_load1 (v := I b) one_3 (ee st rfl) nb1.bk rfl) <| we rfl (fun st => x_call0 own_102 (ee st rfl) (am3 (ee st rfl) (ee st rfl) (ee st rfl)) (c102 n a b _)) ?_
  rintro _ _ ⟨rfl, rfl⟩
  refine wa rfl (v := .bool (inR n a b)) rfl <| wl_end <| lv_next <| cc_ret <| lv_ret1 rfl rfl ?_
  have hB_w1 := (bl_ext (Below.refl w.heap.size w) nb1.gr)
  exact ⟨rfl, ext_of_below hB_w1⟩
theorem c73 (f : Fld) (A : Option Addr) (c : Nat) (n : Int) (w : World) (h0 : 0 ≤ f.rows) (h1 : f.rows ≤ 7) :
    Ret Try.prog 73 #[.agg #[I f.rows, I f.wd, I f.lo, I f.hi, .slice A f.ts.length c], I n] w (fun v w' => v = .bool (inR n 0 (f.rows - 1)) ∧ Ext w w') := by
  refine ret_of_cc (N := 10) Try.func73 rfl rfl (by simp) ?_
  intro fr0 ha hdf
  have hp0 := sl_arg (i := 0) (v := .agg #[I f.rows, I f.wd, I f.lo, I f.hi, .slice A f.ts.length c]) ha rfl
  have hp1 := sl_arg (i := 1) (v := I n) ha rfl
  clear ha
  refine cc_seq <| cc_region <| we rfl (fun st => x_box (v := .agg #[I f.rows, I f.wd, I f.lo, I f.hi, .slice A f.ts.length c]) (cs := #[I f.rows, I f.wd, I f.lo, I f.hi, .slice A f.ts.length c]) (ee st hp0) rfl) ?_
  rintro _ w1 ⟨b1, rfl, nb1⟩
  have lo1 : w.heap.size ≤ b1 := by rw [nb1.b_eq]; exact (Below.refl w.heap.size w).size
  refine wa rfl (v := .bool false) rfl <| wl_end <| lv_next <| cc_seq <| cc_region <| wm rfl (v := I n) hp1 <| wd rfl (fun st => x_fieldAddr (ee st rfl) (fz_36_0 _ _)) <| wd rfl (fun st => x_load1 (v := I f.rows) one_3 (ee st rfl) nb1.bk rfl) <| wd rfl (fun st => x_sub (ee st rfl) (ee st rfl) ⟨by omega, by omega⟩) <| we rfl (fun st => x_call0 own_102 (ee st rfl) (am3 (ee st rfl) (ee st rfl) (ee st rfl)) (c102 n 0 (f.rows - 1) _)) ?_
  rintro _ _ ⟨rfl, rfl⟩
  refine wa rfl (v := .bool (inR n 0 (f.rows - 1))) rfl <| wl_end <| lv_next <| cc_ret <| lv_ret1 rfl rfl ?_
  have hB_w1 := (bl_ext (Below.refl w.heap.size w) nb1.gr)
  exact ⟨rfl, ext_of_below hB_w1⟩
theorem c77 (f : Fld) (A : Option Addr) (c : Nat) (n : Int) (w : World) (h0 : 0 ≤ f.wd) (h1 : f.wd ≤ 7) :
    Ret Try.prog 77 #[.agg #[I f.rows, I f.wd, I f.lo, I f.hi, .slice A f.ts.length c], I n] w (fun v w' => v = .bool (inR n 0 (f.wd - 1)) ∧ Ext w w') := by
  refine ret_of_cc (N := 10) Try.func77 rfl rfl (by simp) ?_
  intro fr0 ha hdf
  have hp0 := sl_arg (i := 0) (v := .agg #[I f.rows, I f.wd, I f.lo, I f.hi, .slice A f.ts.length c]) ha rfl
  have hp1 := sl_arg (i := 1) (v := I n) ha rfl
  clear ha
  refine cc_seq <| cc_region <| we rfl (fun st => x_box (v := .agg #[I f.rows, I f.wd, I f.lo, I f.hi, .slice A f.ts.length c]) (cs := #[I f.rows, I f.wd, I f.lo, I f.hi, .slice A f.ts.length c]) (ee st hp0) rfl) ?_
  rintro _ w1 ⟨b1, rfl, nb1⟩
  have lo1 : w.heap.size ≤ b1 := by rw [nb1.b_eq]; exact (Below.refl w.heap.size w).size
  refine wa rfl (v := .bool false) rfl <| wl_end <| lv_next <| cc_seq <| cc_region <| wm rfl (v := I n) hp1 <| wd rfl (fun st => x_fieldAddr (ee st rfl) (fz_36_1 _ _)) <| wd rfl (fun st => x_load1 (v := I f.wd) one_3 (ee st rfl) nb1.bk rfl) <| wd rfl (fun st => x_sub (ee st rfl) (ee st rfl) ⟨by omega, by omega⟩) <| we rfl (fun st => x_call0 own_102 (ee st rfl) (am3 (ee st rfl) (ee st rfl) (ee st rfl)) (c102 n 0 (f.wd - 1) _)) ?_
  rintro _ _ ⟨rfl, rfl⟩
  refine wa rfl (v := .bool (inR n 0 (f.wd - 1))) rfl <| wl_end <| lv_next <| cc_ret <| lv_ret1 rfl rfl ?_
  have hB_w1 := (bl_ext (Below.refl w.heap.size w) nb1.gr)
  exact ⟨rfl, ext_of_below hB_w1⟩
theorem c91 (f : Fld) (A : Option Addr) (c : Nat) (lo hi : Int) (w : World) :
    Ret Try.prog 91 #[.agg #[I f.rows, I f.wd, I f.lo, I f.hi, .slice A f.ts.length c], .agg #[I lo, I hi]] w (fun v w' => v = .bool (rngOk f lo hi) ∧ Ext w w') := by
  refine ret_of_cc (N := 22) Try.func91 rfl rfl (by simp) ?_
  intro fr0 ha hdf
  have hp0 := sl_arg (i := 0) (v := .agg #[I f.rows, I f.wd, I f.lo, I f.hi, .slice A f.ts.length c]) ha rfl
  have hp1 := sl_arg (i := 1) (v := .agg #[I lo, I hi]) ha rfl
  clear ha
  refine cc_seq <| cc_region <| we rfl (fun st => x_box (v := .agg #[I f.rows, I f.wd, I f.lo, I f.hi, .slice A f.ts.length c]) (cs := #[I f.rows, I f.wd, I f.lo, I f.hi, .slice A f.ts.length c]) (ee st hp0) rfl) ?_
  rintro _ w1 ⟨b1, rfl, nb1⟩
  have lo1 : w.heap.size ≤ b1 := by rw [nb1.b_eq]; exact (Below.refl w.heap.size w).size
  refine we rfl (fun st => x_box (v := .agg #[I lo, I hi]) (cs := #[I lo, I hi]) (ee st hp1) rfl) ?_
  rintro _ w2 ⟨b2, rfl, nb2⟩
  have hB_w1 := (bl_ext (Below.refl w.heap.size w) nb1.gr)
  have lo2 : w.heap.size ≤ b2 := by rw [nb2.b_eq]; exact hB_w1.size
  have ltb1_2 : b1 < b2 := by rw [nb2.b_eq]; exact nb1.bk.lt
  refine wa rfl (v := .bool false) rfl <| wl_end <| lv_next <| cc_seq <| cc_region <| wd rfl (fun st => x_fieldAddr (ee st rfl) (fz_33_0 _ _)) <| wd rfl (fun st => x_load1 (v := I lo) one_3 (ee st rfl) nb2.bk rfl) <| wd rfl (fun st => x_leq (ee st rfl) (ee st rfl)) <| wm rfl (v := .bool (decide (0 ≤ lo))) rfl ?_
  rcases bool_cases (decide (0 ≤ lo)) with hg3 | hg3
  · skip
    have hg3p := hg3
    have hg3p := of_decide_eq_true hg3p
    refine wl_detg rfl rfl (guard_eq rfl hg3) rfl (by decide) (fun st => x_fieldAddr (ee st rfl) (fz_33_0 _ _)) <| wl_detg rfl rfl (guard_eq rfl hg3) rfl (by decide) (fun st => x_load1 (v := I lo) one_3 (ee st rfl) nb2.bk rfl) <| wl_detg rfl rfl (guard_eq rfl hg3) rfl (by decide) (fun st => x_fieldAddr (ee st rfl) (fz_33_1 _ _)) <| wl_detg rfl rfl (guard_eq rfl hg3) rfl (by decide) (fun st => x_load1 (v := I hi) one_3 (ee st rfl) nb2.bk rfl) <| wl_detg rfl rfl (guard_eq rfl hg3) rfl (by decide) (fun st => x_leq (ee st rfl) (ee st rfl)) <| wd rfl (fun st => x_pick_t (v := .bool (decide (lo ≤ hi))) (ee st rfl) hg3 (ee st rfl)) <| wm rfl (v := .bool (decide (lo ≤ hi))) rfl ?_
    rcases bool_cases (decide (lo ≤ hi)) with hg4 | hg4
    · skip
      have hg4p := hg4
      have hg4p := of_decide_eq_true hg4p
      refine wl_detg rfl rfl (guard_eq rfl hg4) rfl (by decide) (fun st => x_fieldAddr (ee st rfl) (fz_33_1 _ _)) <| wl_detg rfl rfl (guard_eq rfl hg4) rfl (by decide) (fun st => x_load1 (v := I hi) one_3 (ee st rfl) nb2.bk rfl) <| wl_detg rfl rfl (guard_eq rfl hg4) rfl (by decide) (fun st => x_fieldAddr (ee st rfl) (fz_36_0 _ _)) ?_
      have bk1_w2 := (nb1.bk.ext nb2.gr)
      refine wl_detg rfl rfl (guard_eq rfl hg4) rfl (by decide) (fun st => x_load1 (v := I f.rows) one_3 (ee st rfl) bk1_w2 rfl) <| wl_detg rfl rfl (guard_eq rfl hg4) rfl (by decide) (fun st => x_leq (ee st rfl) (ee st rfl)) <| wd rfl (fun st => x_pick_t (v := .bool (decide (hi ≤ f.rows))) (ee st rfl) hg4 (ee st rfl)) <| wa rfl (v := .bool (decide (hi ≤ f.rows))) rfl <| wl_end <| lv_next <| cc_ret <| lv_ret1 rfl rfl ?_
      have hB_w2 := (bl_ext hB_w1 nb2.gr)
      exact ⟨vbool (by simp [rngOk, *]), ext_of_below hB_w2⟩
    · skip
      have hg4p := hg4
      have hg4p := of_decide_eq_false hg4p
      refine wl_skip (c := false) rfl rfl (guard_eq rfl hg4) (by decide) rfl (by decide) <| wl_skip (c := false) rfl rfl (guard_eq rfl hg4) (by decide) rfl (by decide) <| wl_skip (c := false) rfl rfl (guard_eq rfl hg4) (by decide) rfl (by decide) <| wl_skip (c := false) rfl rfl (guard_eq rfl hg4) (by decide) rfl (by decide) <| wl_skip (c := false) rfl rfl (guard_eq rfl hg4) (by decide) rfl (by decide) <| wd rfl (fun st => x_pick_f (v := .bool false) (ee st rfl) hg4 (ee st rfl)) <| wa rfl (v := .bool false) rfl <| wl_end <| lv_next <| cc_ret <| lv_ret1 rfl rfl ?_
      have hB_w2 := (bl_ext hB_w1 nb2.gr)
      exact ⟨vbool (by simp [rngOk, *]), ext_of_below hB_w2⟩
  · skip
    have hg3p := hg3
    have hg3p := of_decide_eq_false hg3p
    refine wl_skip (c := false) rfl rfl (guard_eq rfl hg3) (by decide) rfl (by decide) <| wl_skip (c := false) rfl rfl (guard_eq rfl hg3) (by decide) rfl (by decide) <| wl_skip (c := false) rfl rfl (guard_eq rfl hg3) (by decide) rfl (by decide) <| wl_skip (c := false) rfl rfl (guard_eq rfl hg3) (by decide) rfl (by decide) <| wl_skip (c := false) rfl rfl (guard_eq rfl hg3) (by decide) rfl (by decide) <| wd rfl (fun st => x_pick_f (v := .bool false) (ee st rfl) hg3 (ee st rfl)) <| wm rfl (v := .bool false) rfl <| wl_skip rfl rfl rfl (by decide) rfl (by decide) <| wl_skip rfl rfl rfl (by decide) rfl (by decide) <| wl_skip rfl rfl rfl (by decide) rfl (by decide) <| wl_skip rfl rfl rfl (by decide) rfl (by decide) <| wl_skip rfl rfl rfl (by decide) rfl (by decide) <| wd rfl (fun st => x_pick_f (v := .bool false) (ee st rfl) rfl (ee st rfl)) <| wa rfl (v := .bool false) rfl <| wl_end <| lv_next <| cc_ret <| lv_ret1 rfl rfl ?_
    have hB_w2 := (bl_ext hB_w1 nb2.gr)
    exact ⟨vbool (by simp [rngOk, *]), ext_of_below hB_w2⟩
theorem c90 (f : Fld) (A : Option Addr) (c : Nat) (t : Tly) (w : World) (h0 : 0 ≤ f.rows) (h1 : f.rows ≤ 7) (h2 : 0 ≤ f.wd) (h3 : f.wd ≤ 7) :
    Ret Try.prog 90 #[.agg #[I f.rows, I f.wd, I f.lo, I f.hi, .slice A f.ts.length c], .agg #[I t.who, I t.fr, I t.to, I t.lo, I t.hi]] w (fun v w' => v = .bool (talOk f t) ∧ Ext w w') := by
  refine ret_of_cc (N := 34) Try.func90 rfl rfl (by simp) ?_
  intro fr0 ha hdf
  have hp0 := sl_arg (i := 0) (v := .agg #[I f.rows, I f.wd, I f.lo, I f.hi, .slice A f.ts.length c]) ha rfl
  have hp1 := sl_arg (i := 1) (v := .agg #[I t.who, I t.fr, I t.to, I t.lo, I t.hi]) ha rfl
  clear ha
  refine cc_seq <| cc_region <| we rfl (fun st => x_box (v := .agg #[I f.rows, I f.wd, I f.lo, I f.hi, .slice A f.ts.length c]) (cs := #[I f.rows, I f.wd, I f.lo, I f.hi, .slice A f.ts.length c]) (ee st hp0) rfl) ?_
  rintro _ w1 ⟨b1, rfl, nb1⟩
  have lo1 : w.heap.size ≤ b1 := by rw [nb1.b_eq]; exact (Below.refl w.heap.size w).size
  refine we rfl (fun st => x_box (v := .agg #[I t.who, I t.fr, I t.to, I t.lo, I t.hi]) (cs := #[I t.who, I t.fr, I t.to, I t.lo, I t.hi]) (ee st hp1) rfl) ?_
  rintro _ w2 ⟨b2, rfl, nb2⟩
  have hB_w1 := (bl_ext (Below.refl w.heap.size w) nb1.gr)
  have lo2 : w.heap.size ≤ b2 := by rw [nb2.b_eq]; exact hB_w1.size
  have ltb1_2 : b1 < b2 := by rw [nb2.b_eq]; exact nb1.bk.lt
  refine wa rfl (v := .bool false) rfl <| wl_end <| lv_next <| cc_seq <| cc_region ?_
  have bk1_w2 := (nb1.bk.ext nb2.gr)
  refine wd rfl (fun st => x_loadn (l := [I f.rows, I f.wd, I f.lo, I f.hi, .slice A f.ts.length c]) agg_36 (ee st rfl) bk1_w2 rfl rfl) <| wd rfl (fun st => x_fieldAddr (ee st rfl) (fz_95_0 _ _)) <| wd rfl (fun st => x_load1 (v := I t.who) one_3 (ee st rfl) nb2.bk rfl) <| we rfl (fun st => x_call0 own_77 (ee st rfl) (am2 (ee st rfl) (ee st rfl)) (c77 f A c t.who _ (by omega) (by omega))) ?_
  rintro _ w3 ⟨rfl, hx3⟩
  refine wm rfl (v := .bool (inR t.who 0 (f.wd - 1))) rfl ?_
  rcases bool_cases (inR t.who 0 (f.wd - 1)) with hg4 | hg4
  · skip
    have bk1_w3 := (bk1_w2.ext hx3)
    refine wl_detg rfl rfl (guard_eq rfl hg4) rfl (by decide) (fun st => x_loadn (l := [I f.rows, I f.wd, I f.lo, I f.hi, .slice A f.ts.length c]) agg_36 (ee st rfl) bk1_w3 rfl rfl) <| wl_detg rfl rfl (guard_eq rfl hg4) rfl (by decide) (fun st => x_fieldAddr (ee st rfl) (fz_95_1 _ _)) ?_
    have bk2_w3 := (nb2.bk.ext hx3)
    refine wl_detg rfl rfl (guard_eq rfl hg4) rfl (by decide) (fun st => x_load1 (v := I t.fr) one_3 (ee st rfl) bk2_w3 rfl) <| wl_exg rfl rfl (guard_eq rfl hg4) rfl (by decide) (fun st => x_call0 own_73 (ee st rfl) (am2 (ee st rfl) (ee st rfl)) (c73 f A c t.fr _ (by omega) (by omega))) ?_
    rintro _ w5 ⟨rfl, hx5⟩
    refine wd rfl (fun st => x_pick_t (v := .bool (inR t.fr 0 (f.rows - 1))) (ee st rfl) hg4 (ee st rfl)) <| wm rfl (v := .bool (inR t.fr 0 (f.rows - 1))) rfl ?_
    rcases bool_cases (inR t.fr 0 (f.rows - 1)) with hg6 | hg6
    · skip
      have bk1_w5 := (bk1_w3.ext hx5)
      refine wl_detg rfl rfl (guard_eq rfl hg6) rfl (by decide) (fun st => x_loadn (l := [I f.rows, I f.wd, I f.lo, I f.hi, .slice A f.ts.length c]) agg_36 (ee st rfl) bk1_w5 rfl rfl) <| wl_detg rfl rfl (guard_eq rfl hg6) rfl (by decide) (fun st => x_fieldAddr (ee st rfl) (fz_95_2 _ _)) ?_
      have bk2_w5 := (bk2_w3.ext hx5)
      refine wl_detg rfl rfl (guard_eq rfl hg6) rfl (by decide) (fun st => x_load1 (v := I t.to) one_3 (ee st rfl) bk2_w5 rfl) <| wl_exg rfl rfl (guard_eq rfl hg6) rfl (by decide) (fun st => x_call0 own_73 (ee st rfl) (am2 (ee st rfl) (ee st rfl)) (c73 f A c t.to _ (by omega) (by omega))) ?_
      rintro _ w7 ⟨rfl, hx7⟩
      refine wd rfl (fun st => x_pick_t (v := .bool (inR t.to 0 (f.rows - 1))) (ee st rfl) hg6 (ee st rfl)) <| wm rfl (v := .bool (inR t.to 0 (f.rows - 1))) rfl ?_
      rcases bool_cases (inR t.to 0 (f.rows - 1)) with hg8 | hg8
      · skip
        refine wl_detg rfl rfl (guard_eq rfl hg8) rfl (by decide) (fun st => x_fieldAddr (ee st rfl) (fz_95_1 _ _)) ?_
        have bk2_w7 := (bk2_w5.ext hx7)
        refine wl_detg rfl rfl (guard_eq rfl hg8) rfl (by decide) (fun st => x_load1 (v := I t.fr) one_3 (ee st rfl) bk2_w7 rfl) <| wl_detg rfl rfl (guard_eq rfl hg8) rfl (by decide) (fun st => x_fieldAddr (ee st rfl) (fz_95_2 _ _)) <| wl_detg rfl rfl (guard_eq rfl hg8) rfl (by decide) (fun st => x_load1 (v := I t.to) one_3 (ee st rfl) bk2_w7 rfl) <| wl_detg rfl rfl (guard_eq rfl hg8) rfl (by decide) (fun st => x_leq (ee st rfl) (ee st rfl)) <| wd rfl (fun st => x_pick_t (v := .bool (decide (t.fr ≤ t.to))) (ee st rfl) hg8 (ee st rfl)) <| wm rfl (v := .bool (decide (t.fr ≤ t.to))) rfl ?_
        rcases bool_cases (decide (t.fr ≤ t.to)) with hg9 | hg9
        · skip
          have hg9p := hg9
          have hg9p := of_decide_eq_true hg9p
          have bk1_w7 := (bk1_w5.ext hx7)
          refine wl_detg rfl rfl (guard_eq rfl hg9) rfl (by decide) (fun st => x_loadn (l := [I f.rows, I f.wd, I f.lo, I f.hi, .slice A f.ts.length c]) agg_36 (ee st rfl) bk1_w7 rfl rfl) <| wl_detg rfl rfl (guard_eq rfl hg9) rfl (by decide) (fun st => x_fieldAddr (ee st rfl) (fz_95_3 _ _)) <| wl_detg rfl rfl (guard_eq rfl hg9) rfl (by decide) (fun st => x_loadn (l := [I t.lo, I t.hi]) agg_33 (ee st rfl) bk2_w7 rfl rfl) <| wl_exg rfl rfl (guard_eq rfl hg9) rfl (by decide) (fun st => x_call0 own_91 (ee st rfl) (am2 (ee st rfl) (ee st rfl)) (c91 f A c t.lo t.hi _)) ?_
          rintro _ w10 ⟨rfl, hx10⟩
          refine wd rfl (fun st => x_pick_t (v := .bool (rngOk f t.lo t.hi)) (ee st rfl) hg9 (ee st rfl)) <| wa rfl (v := .bool (rngOk f t.lo t.hi)) rfl <| wl_end <| lv_next <| cc_ret <| lv_ret1 rfl rfl ?_
          have hB_w10 := (bl_ext (bl_ext (bl_ext (bl_ext (bl_ext hB_w1 nb2.gr) hx3) hx5) hx7) hx10)
          exact ⟨vbool (by simp [talOk, *]), ext_of_below hB_w10⟩
        · skip
          have hg9p := hg9
          have hg9p := of_decide_eq_false hg9p
          refine wl_skip (c := false) rfl rfl (guard_eq rfl hg9) (by decide) rfl (by decide) <| wl_skip (c := false) rfl rfl (guard_eq rfl hg9) (by decide) rfl (by decide) <| wl_skip (c := false) rfl rfl (guard_eq rfl hg9) (by decide) rfl (by decide) <| wl_skip (c := false) rfl rfl (guard_eq rfl hg9) (by decide) rfl (by decide) <| wd rfl (fun st => x_pick_f (v := .bool false) (ee st rfl) hg9 (ee st rfl)) <| wa rfl (v := .bool false) rfl <| wl_end <| lv_next <| cc_ret <| lv_ret1 rfl rfl ?_
          have hB_w7 := (bl_ext (bl_ext (bl_ext (bl_ext hB_w1 nb2.gr) hx3) hx5) hx7)
          exact ⟨vbool (by simp [talOk, *]), ext_of_below hB_w7⟩
      · skip
        refine wl_skip (c := false) rfl rfl (guard_eq rfl hg8) (by decide) rfl (by decide) <| wl_skip (c := false) rfl rfl (guard_eq rfl hg8) (by decide) rfl (by decide) <| wl_skip (c := false) rfl rfl (guard_eq rfl hg8) (by decide) rfl (by decide) <| wl_skip (c := false) rfl rfl (guard_eq rfl hg8) (by decide) rfl (by decide) <| wl_skip (c := false) rfl rfl (guard_eq rfl hg8) (by decide) rfl (by decide) <| wd rfl (fun st => x_pick_f (v := .bool false) (ee st rfl) hg8 (ee st rfl)) <| wm rfl (v := .bool false) rfl <| wl_skip rfl rfl rfl (by decide) rfl (by decide) <| wl_skip rfl rfl rfl (by decide) rfl (by decide) <| wl_skip rfl rfl rfl (by decide) rfl (by decide) <| wl_skip rfl rfl rfl (by decide) rfl (by decide) <| wd rfl (fun st => x_pick_f (v := .bool false) (ee st rfl) rfl (ee st rfl)) <| wa rfl (v := .bool false) rfl <| wl_end <| lv_next <| cc_ret <| lv_ret1 rfl rfl ?_
        have hB_w7 := (bl_ext (bl_ext (bl_ext (bl_ext hB_w1 nb2.gr) hx3) hx5) hx7)
        exact ⟨vbool (by simp [talOk, *]), ext_of_below hB_w7⟩
    · skip
      refine wl_skip (c := false) rfl rfl (guard_eq rfl hg6) (by decide) rfl (by decide) <| wl_skip (c := false) rfl rfl (guard_eq rfl hg6) (by decide) rfl (by decide) <| wl_skip (c := false) rfl rfl (guard_eq rfl hg6) (by decide) rfl (by decide) <| wl_skip (c := false) rfl rfl (guard_eq rfl hg6) (by decide) rfl (by decide) <| wd rfl (fun st => x_pick_f (v := .bool false) (ee st rfl) hg6 (ee st rfl)) <| wm rfl (v := .bool false) rfl <| wl_skip rfl rfl rfl (by decide) rfl (by decide) <| wl_skip rfl rfl rfl (by decide) rfl (by decide) <| wl_skip rfl rfl rfl (by decide) rfl (by decide) <| wl_skip rfl rfl rfl (by decide) rfl (by decide) <| wl_skip rfl rfl rfl (by decide) rfl (by decide) <| wd rfl (fun st => x_pick_f (v := .bool false) (ee st rfl) rfl (ee st rfl)) <| wm rfl (v := .bool false) rfl <| wl_skip rfl rfl rfl (by decide) rfl (by decide) <| wl_skip rfl rfl rfl (by decide) rfl (by decide) <| wl_skip rfl rfl rfl (by decide) rfl (by decide) <| wl_skip rfl rfl rfl (by decide) rfl (by decide) <| wd rfl (fun st => x_pick_f (v := .bool false) (ee st rfl) rfl (ee st rfl)) <| wa rfl (v := .bool false) rfl <| wl_end <| lv_next <| cc_ret <| lv_ret1 rfl rfl ?_
      have hB_w5 := (bl_ext (bl_ext (bl_ext hB_w1 nb2.gr) hx3) hx5)
      exact ⟨vbool (by simp [talOk, *]), ext_of_below hB_w5⟩
  · skip
    refine wl_skip (c := false) rfl rfl (guard_eq rfl hg4) (by decide) rfl (by decide) <| wl_skip (c := false) rfl rfl (guard_eq rfl hg4) (by decide) rfl (by decide) <| wl_skip (c := false) rfl rfl (guard_eq rfl hg4) (by decide) rfl (by decide) <| wl_skip (c := false) rfl rfl (guard_eq rfl hg4) (by decide) rfl (by decide) <| wd rfl (fun st => x_pick_f (v := .bool false) (ee st rfl) hg4 (ee st rfl)) <| wm rfl (v := .bool false) rfl <| wl_skip rfl rfl rfl (by decide) rfl (by decide) <| wl_skip rfl rfl rfl (by decide) rfl (by decide) <| wl_skip rfl rfl rfl (by decide) rfl (by decide) <| wl_skip rfl rfl rfl (by decide) rfl (by decide) <| wd rfl (fun st => x_pick_f (v := .bool false) (ee st rfl) rfl (ee st rfl)) <| wm rfl (v := .bool false) rfl <| wl_skip rfl rfl rfl (by decide) rfl (by decide) <| wl_skip rfl rfl rfl (by decide) rfl (by decide) <| wl_skip rfl rfl rfl (by decide) rfl (by decide) <| wl_skip rfl rfl rfl (by decide) rfl (by decide) <| wl_skip rfl rfl rfl (by decide) rfl (by decide) <| wd rfl (fun st => x_pick_f (v := .bool false) (ee st rfl) rfl (ee st rfl)) <| wm rfl (v := .bool false) rfl <| wl_skip rfl rfl rfl (by decide) rfl (by decide) <| wl_skip rfl rfl rfl (by decide) rfl (by decide) <| wl_skip rfl rfl rfl (by decide) rfl (by decide) <| wl_skip rfl rfl rfl (by decide) rfl (by decide) <| wd rfl (fun st => x_pick_f (v := .bool false) (ee st rfl) rfl (ee st rfl)) <| wa rfl (v := .bool false) rfl <| wl_end <| lv_next <| cc_ret <| lv_ret1 rfl rfl ?_
    have hB_w3 := (bl_ext (bl_ext hB_w1 nb2.gr) hx3)
    exact ⟨vbool (by simp [talOk, *]), ext_of_below hB_w3⟩
end Go.Proofs.Ythogdgkafaclaaa
end
section
set_option linter.unusedVariables false
set_option linter.unusedSimpArgs false
namespace Go.Proofs.Ythogdgkafaclaaa
open Go.RowKit
attribute [local irreducible] Ex1 WL CC CW LV Ret ObOp Agg One Own
theorem c111 (f : Fld) (A : Option Addr) (c : Nat) (t : Tly) (bb : Nat) (w : World) (h0 : 0 ≤ f.rows) (h1 : f.rows ≤ 7) (h2 : 0 ≤ f.wd) (h3 : f.wd ≤ 7) (hbb : Bk w bb 125 #[.func (.func 90) #[.agg #[I f.rows, I f.wd, I f.lo, I f.hi, .slice A f.ts.length c]] #[]]) :
    Ret Try.prog 111 #[.agg #[I t.who, I t.fr, I t.to, I t.lo, I t.hi], pt bb 0] w (fun v w' => v = .bool (!talOk f t) ∧ Ext w w') := by
  refine ret_of_cc (N := 8) Try.func111 rfl rfl (by simp) ?_
  intro fr0 ha hdf
  have hp0 := sl_arg (i := 0) (v := .agg #[I t.who, I t.fr, I t.to, I t.lo, I t.hi]) ha rfl
  have hp1 := sl_arg (i := 1) (v := pt bb 0) ha rfl
  clear ha
  refine cc_seq <| cc_region <| we rfl (fun st => x_box (v := .agg #[I t.who, I t.fr, I t.to, I t.lo, I t.hi]) (cs := #[I t.who, I t.fr, I t.to, I t.lo, I t.hi]) (ee st hp0) rfl) ?_
  rintro _ w1 ⟨b1, rfl, nb1⟩
  have lo1 : w.heap.size ≤ b1 := by rw [nb1.b_eq]; exact (Below.refl w.heap.size w).size
  refine wa rfl (v := .bool false) rfl <| wl_end <| lv_next <| cc_seq <| cc_region ?_
  have hbb_w1 := (hbb.ext nb1.gr)
  refine wd rfl (fun st => x_load1 (v := .func (.func 90) #[.agg #[I f.rows, I f.wd, I f.lo, I f.hi, .slice A f.ts.length c]] #[]) one_125 (ee st hp1) hbb_w1 rfl) <| wd rfl (fun st => x_loadn (l := [I t.who, I t.fr, I t.to, I t.lo, I t.hi]) agg_95 (ee st rfl) nb1.bk rfl rfl) <| we rfl (fun st => x_call (first := #[.agg #[I f.rows, I f.wd, I f.lo, I f.hi, .slice A f.ts.length c]]) (cap := #[]) (vs := #[.agg #[I t.who, I t.fr, I t.to, I t.lo, I t.hi]]) (all := #[.agg #[I f.rows, I f.wd, I f.lo, I f.hi, .slice A f.ts.length c], .agg #[I t.who, I t.fr, I t.to, I t.lo, I t.hi]]) own_90 (ee st rfl) (am1 (ee st rfl)) (by simp) (c90 f A c t _ (by omega) (by omega) (by omega) (by omega))) ?_
  rintro _ w2 ⟨rfl, hx2⟩
  refine wd rfl (fun st => x_not (ee st rfl)) <| wa rfl (v := .bool (!(talOk f t))) rfl <| wl_end <| lv_next <| cc_ret <| lv_ret1 rfl rfl ?_
  have hB_w2 := (bl_ext (bl_ext (Below.refl w.heap.size w) nb1.gr) hx2)
  exact ⟨rfl, ext_of_below hB_w2⟩
theorem c132 (f : Fld) (A : Option Addr) (c : Nat) (ts : List Tly) (B : Option Addr) (d : Nat) (bb : Nat) (w : World) (h0 : 0 ≤ f.rows) (h1 : f.rows ≤ 7) (h2 : 0 ≤ f.wd) (h3 : f.wd ≤ 7) (hl : ts.length ≤ 100000) (hs : Rd w 0 w.heap.size B (flat encT ts)) (hbb : Bk w bb 125 #[.func (.func 90) #[.agg #[I f.rows, I f.wd, I f.lo, I f.hi, .slice A f.ts.length c]] #[]]) :
    Ret Try.prog 132 #[.slice B ts.length d, .func (.func 111) #[] #[pt bb 0]] w (fun v w' => v = .int .i64 (fidx (fun y => !talOk f y) ts) ∧ Ext w w') := by
  refine ret_of_cc (N := 19) Try.func132 rfl rfl (by simp) ?_
  intro fr0 ha hdf
  have hp0 := sl_arg (i := 0) (v := .slice B ts.length d) ha rfl
  have hp1 := sl_arg (i := 1) (v := .func (.func 111) #[] #[pt bb 0]) ha rfl
  clear ha
  refine cc_seq <| cc_region <| wa rfl (v := I 0) rfl <| wl_end <| lv_next <| cc_seq <| cc_seq <| cc_region <| wm rfl (v := .slice B ts.length d) hp0 <| wd rfl (fun st => x_len Try.underlying34 (ee st rfl)) <| wm rfl (v := I 0) rfl <| wl_end <| lv_next <| cc_block ?_
  refine cc_loop (fun (m_ : Nat) (fr_ : Act) (w_ : World) => ∃ (k : Nat), m_ = ts.length - k ∧ (k ≤ ts.length) ∧ (∀ y ∈ ts.take k, (fun y => !talOk f y) y = false) ∧ fr_.tmps.size = 19 ∧ fr_.defers = [] ∧ sl fr_ 0 = .slice B ts.length d ∧ sl fr_ 1 = .func (.func 111) #[] #[pt bb 0] ∧ sl fr_ 6 = .slice B ts.length d ∧ sl fr_ 7 = I ((ts.length : Nat) : Int) ∧ sl fr_ 8 = I ((k : Nat) : Int) ∧ Below w.heap.size w w_ ∧ Rd w_ 0 w.heap.size B (flat encT ts) ∧ Bk w_ bb 125 #[.func (.func 90) #[.agg #[I f.rows, I f.wd, I f.lo, I f.hi, .slice A f.ts.length c]] #[]]) (ts.length - 0) ?init1 ?round1
  case init1 =>
    intro st
    exact ⟨0, rfl, by omega, by simp, (puts_size _ _).trans st.sz, (puts_defers _ _).trans st.df, (sl_puts st 0).trans hp0, (sl_puts st 1).trans hp1, (sl_puts st 6).trans rfl, (sl_puts st 7).trans rfl, (sl_puts st 8).trans (vint (by omega)), (Below.refl w.heap.size w), hs, hbb⟩
  case round1 =>
    rintro m_ fr1 w1 ⟨k, rfl, hk, hn, hsz1, hdf1, hs1_0, hs1_1, hs1_6, hs1_7, hs1_8, hB_w1, hs_w1, hbb_w1⟩
    refine round_cc (N := 19) hsz1 hdf1 <| cc_seq <| cc_region <| wd rfl (fun st => x_lss (ee st hs1_8) (ee st hs1_7)) <| wl_end <| lv_next <| cc_seq ?_
    rcases bool_cases (decide (((k : Nat) : Int) < ((ts.length : Nat) : Int))) with hc2 | hc2
    · refine cc_cond_t rfl hc2 ?_
      have hc2p := hc2
      have hc2p := of_decide_eq_true hc2p
      refine cc_skip <| lv_next <| cc_seq <| cc_block <| cc_seq <| cc_region <| wm rfl (v := I ((k : Nat) : Int)) hs1_8 <| wa rfl (v := I ((k : Nat) : Int)) rfl <| wl_end <| lv_next <| cc_seq <| cc_region <| wm rfl (v := .func (.func 111) #[] #[pt bb 0]) hs1_1 <| wm rfl (v := .slice B ts.length d) hs1_0 <| wm rfl (v := I ((k : Nat) : Int)) rfl ?_
      obtain ⟨bq3, oq3, hA3, -, -, -⟩ := Rd.elem encT_len (by decide) hs_w1 (k := k) (by omega)
      obtain ⟨x4, hx4⟩ : ∃ x, (ts)[k]? = some x := ⟨_, List.getElem?_eq_getElem (by omega)⟩
      refine wd rfl (fun st => x_indexAddrN (k := k) Try.underlying34 sz_95 (ee st rfl) hA3 (ee st rfl) rfl (by omega)) <| wd rfl (fun st => x_load_rdn (l := [I x4.who, I x4.fr, I x4.to, I x4.lo, I x4.hi]) agg_95 (ee st rfl) (hs_w1.cells hA3) (flat_at encT 5 encT_len ts k _ hx4) rfl) <| we rfl (fun st => x_call (first := #[]) (cap := #[pt bb 0]) (vs := #[.agg #[I x4.who, I x4.fr, I x4.to, I x4.lo, I x4.hi]]) (all := #[.agg #[I x4.who, I x4.fr, I x4.to, I x4.lo, I x4.hi], pt bb 0]) own_111 (ee st rfl) (am1 (ee st rfl)) (by simp) (c111 f A c x4 bb _ (by omega) (by omega) (by omega) (by omega) hbb_w1)) ?_
      rintro _ w5 ⟨rfl, hx5⟩
      refine wl_end <| lv_next ?_
      rcases bool_cases (!(talOk f x4)) with hc6 | hc6
      · refine cc_cond_t rfl hc6 ?_
        have hc6p := hc6
        have hc6p := not_t hc6p
        have hc6_7 : (talOk f x4) = false := by simpa using hc6
        refine cc_seq <| cc_region <| wm rfl (v := I ((k : Nat) : Int)) rfl <| wa rfl (v := I ((k : Nat) : Int)) rfl <| wl_end <| lv_next <| cc_ret <| lv_block_ret <| lv_then_ret <| lv_then_ret <| lv_block_ret <| lv_then_ret <| lv_ret1 rfl rfl ?_
        have hB_w5 := (bl_ext hB_w1 hx5)
        exact ⟨vint (fidx_some (p := (fun y => !talOk f y)) hx4 hc6 hn).symm, ext_of_below hB_w5⟩
      · refine cc_cond_f rfl hc6 ?_
        have hc6p := hc6
        have hc6p := not_f hc6p
        have hc6_8 : (talOk f x4) = true := by simpa using hc6
        refine cc_skip <| lv_block <| lv_next <| cc_region <| wd rfl (fun st => x_add (ee st hs1_8) (ee st rfl) ⟨by omega, by omega⟩) <| wm rfl (v := I (((k : Nat) : Int) + 1)) rfl <| wl_end ?_
        have hB_w5 := (bl_ext hB_w1 hx5)
        have hs_w5 := (hs_w1.ext hx5)
        have hbb_w5 := (hbb_w1.ext hx5)
        refine lv_round (ts.length - (k + 1)) (by omega) (fun st => ?_)
        exact ⟨(k + 1), rfl, by omega, take_step (p := (fun y => !talOk f y)) hn hx4 hc6, (puts_size _ _).trans st.sz, (puts_defers _ _).trans st.df, (sl_puts st 0).trans hs1_0, (sl_puts st 1).trans hs1_1, (sl_puts st 6).trans hs1_6, (sl_puts st 7).trans hs1_7, (sl_puts st 8).trans (vint (by omega)), hB_w5, hs_w5, hbb_w5⟩
    · refine cc_cond_f rfl hc2 ?_
      have hc2p := hc2
      have hc2p := of_decide_eq_false hc2p
      refine cc_exit <| lv_then_exit <| lv_then_exit <| lv_block_hit <| lv_next <| cc_seq <| cc_region <| wa rfl (v := I (-1)) rfl <| wl_end <| lv_next <| cc_ret <| lv_ret1 rfl rfl ?_
      exact ⟨vint (fidx_none (p := (fun y => !talOk f y)) (take_done hn (by omega))).symm, ext_of_below hB_w1⟩
theorem c110 (f : Fld) (A : Option Addr) (c : Nat) (ts : List Tly) (B : Option Addr) (d : Nat) (bb : Nat) (w : World) (h0 : 0 ≤ f.rows) (h1 : f.rows ≤ 7) (h2 : 0 ≤ f.wd) (h3 : f.wd ≤ 7) (hl : ts.length ≤ 100000) (hs : Rd w 0 w.heap.size B (flat encT ts)) (hbb : Bk w bb 125 #[.func (.func 90) #[.agg #[I f.rows, I f.wd, I f.lo, I f.hi, .slice A f.ts.length c]] #[]]) :
    Ret Try.prog 110 #[.slice B ts.length d, .func (.func 111) #[] #[pt bb 0]] w (fun v w' => v = .bool (ts.any (fun y => !talOk f y)) ∧ Ext w w') := by
  refine ret_of_cc (N := 9) Try.func110 rfl rfl (by simp) ?_
  intro fr0 ha hdf
  have hp0 := sl_arg (i := 0) (v := .slice B ts.length d) ha rfl
  have hp1 := sl_arg (i := 1) (v := .func (.func 111) #[] #[pt bb 0]) ha rfl
  clear ha
  refine cc_seq <| cc_region <| wa rfl (v := .bool false) rfl <| wl_end <| lv_next <| cc_seq <| cc_region <| wm rfl (v := .slice B ts.length d) hp0 <| wm rfl (v := .func (.func 111) #[] #[pt bb 0]) hp1 <| we rfl (fun st => x_call0 own_132 (ee st rfl) (am2 (ee st rfl) (ee st rfl)) (c132 f A c ts B d bb _ (by assumption) (by assumption) (by assumption) (by assumption) (by omega)  hs.wide hbb)) ?_
  rintro _ w1 ⟨rfl, hx1⟩
  refine wd rfl (fun st => x_geq (ee st rfl) (ee st rfl)) <| wa rfl (v := .bool (decide (0 ≤ (fidx (fun y => !talOk f y) ts)))) rfl <| wl_end <| lv_next <| cc_ret <| lv_ret1 rfl rfl ?_
  have hB_w1 := (bl_ext (Below.refl w.heap.size w) hx1)
  exact ⟨vbool (fidx_ge _ _), ext_of_below hB_w1⟩
theorem c92 (f : Fld) (A : Option Addr) (c : Nat) (ts : List Tly) (B : Option Addr) (d : Nat) (w : World) (h0 : 0 ≤ f.rows) (h1 : f.rows ≤ 7) (h2 : 0 ≤ f.wd) (h3 : f.wd ≤ 7) (hl : ts.length ≤ 100000) (hs : Rd w 0 w.heap.size B (flat encT ts)) :
    Ret Try.prog 92 #[.slice B ts.length d, .func (.func 90) #[.agg #[I f.rows, I f.wd, I f.lo, I f.hi, .slice A f.ts.length c]] #[]] w (fun v w' => v = .bool (ts.all (talOk f)) ∧ Ext w w') := by
  refine ret_of_cc (N := 9) Try.func92 rfl rfl (by simp) ?_
  intro fr0 ha hdf
  have hp0 := sl_arg (i := 0) (v := .slice B ts.length d) ha rfl
  have hp1 := sl_arg (i := 1) (v := .func (.func 90) #[.agg #[I f.rows, I f.wd, I f.lo, I f.hi, .slice A f.ts.length c]] #[]) ha rfl
  clear ha
  refine cc_seq <| cc_region <| we rfl (fun st => x_box (v := .func (.func 90) #[.agg #[I f.rows, I f.wd, I f.lo, I f.hi, .slice A f.ts.length c]] #[]) (cs := #[.func (.func 90) #[.agg #[I f.rows, I f.wd, I f.lo, I f.hi, .slice A f.ts.length c]] #[]]) (ee st hp1) rfl) ?_
  rintro _ w1 ⟨b1, rfl, nb1⟩
  have lo1 : w.heap.size ≤ b1 := by rw [nb1.b_eq]; exact (Below.refl w.heap.size w).size
  refine wa rfl (v := .bool false) rfl <| wl_end <| lv_next <| cc_seq <| cc_region <| wm rfl (v := .slice B ts.length d) hp0 <| wd rfl (fun st => x_makeFunc (vs := #[]) (us := #[pt b1 0]) am0 (am1 (ee st rfl))) ?_
  have hs_w1 := (hs.ext nb1.gr)
  refine we rfl (fun st => x_call0 own_110 (ee st rfl) (am2 (ee st rfl) (ee st rfl)) (c110 f A c ts B d b1 _ (by assumption) (by assumption) (by assumption) (by assumption) (by omega)  hs_w1.wide nb1.bk)) ?_
  rintro _ w2 ⟨rfl, hx2⟩
  refine wd rfl (fun st => x_not (ee st rfl)) <| wa rfl (v := .bool (!(ts.any (fun y => !talOk f y)))) rfl <| wl_end <| lv_next <| cc_ret <| lv_ret1 rfl rfl ?_
  have hB_w2 := (bl_ext (bl_ext (Below.refl w.heap.size w) nb1.gr) hx2)
  exact ⟨vbool (not_any_not _ _), ext_of_below hB_w2⟩
end Go.Proofs.Ythogdgkafaclaaa
end
section
set_option linter.unusedVariables false
set_option linter.unusedSimpArgs false
namespace Go.Proofs.Ythogdgkafaclaaa
open Go.RowKit
attribute [local irreducible] Ex1 WL CC CW LV Ret ObOp Agg One Own
theorem c51 (f : Fld) (A : Option Addr) (c : Nat) (w : World) (hT : Rd w 0 w.heap.size A (flat encT f.ts)) :
    Ret Try.prog 51 #[.agg #[I f.rows, I f.wd, I f.lo, I f.hi, .slice A f.ts.length c]] w (fun v w' => v = .int .i64 (check f) ∧ Ext w w') := by
  refine ret_of_cc (N := 57) Try.func51 rfl rfl (by simp) ?_
  intro fr0 ha hdf
  have hp0 := sl_arg (i := 0) (v := .agg #[I f.rows, I f.wd, I f.lo, I f.hi, .slice A f.ts.length c]) ha rfl
  clear ha
  refine cc_seq <| cc_region <| we rfl (fun st => x_box (v := .agg #[I f.rows, I f.wd, I f.lo, I f.hi, .slice A f.ts.length c]) (cs := #[I f.rows, I f.wd, I f.lo, I f.hi, .slice A f.ts.length c]) (ee st hp0) rfl) ?_
  rintro _ w1 ⟨b1, rfl, nb1⟩
  have lo1 : w.heap.size ≤ b1 := by rw [nb1.b_eq]; exact (Below.refl w.heap.size w).size
  refine wa rfl (v := I 0) rfl <| wl_end <| lv_next <| cc_seq <| cc_region <| wd rfl (fun st => x_loadn (l := [I f.rows, I f.wd, I f.lo, I f.hi, .slice A f.ts.length c]) agg_36 (ee st rfl) nb1.bk rfl rfl) <| wd rfl (fun st => x_makeFunc (vs := #[.agg #[I f.rows, I f.wd, I f.lo, I f.hi, .slice A f.ts.length c]]) (us := #[]) (am1 (ee st rfl)) am0) <| wa rfl (v := .func (.func 90) #[.agg #[I f.rows, I f.wd, I f.lo, I f.hi, .slice A f.ts.length c]] #[]) rfl <| wl_end <| lv_next <| cc_seq <| cc_block <| cc_seq <| cc_region <| wd rfl (fun st => x_fieldAddr (ee st rfl) (fz_36_0 _ _)) <| wd rfl (fun st => x_load1 (v := I f.rows) one_3 (ee st rfl) nb1.bk rfl) <| wd rfl (fun st => x_gtr (ee st rfl) (ee st rfl)) <| wm rfl (v := .bool (decide (7 < f.rows))) rfl ?_
  rcases bool_cases (decide (7 < f.rows)) with hg2 | hg2
  · skip
    have hg2p := hg2
    have hg2p := of_decide_eq_true hg2p
    refine wl_skip (c := true) rfl rfl (guard_eq rfl hg2) (by decide) rfl (by decide) <| wl_skip (c := true) rfl rfl (guard_eq rfl hg2) (by decide) rfl (by decide) <| wl_skip (c := true) rfl rfl (guard_eq rfl hg2) (by decide) rfl (by decide) <| wd rfl (fun st => x_pick_t (v := .bool true) (ee st rfl) hg2 (ee st rfl)) <| wm rfl (v := .bool true) rfl <| wl_skip rfl rfl rfl (by decide) rfl (by decide) <| wl_skip rfl rfl rfl (by decide) rfl (by decide) <| wl_skip rfl rfl rfl (by decide) rfl (by decide) <| wl_skip rfl rfl rfl (by decide) rfl (by decide) <| wd rfl (fun st => x_pick_t (v := .bool true) (ee st rfl) rfl (ee st rfl)) <| wa rfl (v := .bool true) rfl <| wl_end <| lv_next <| cc_cond_t rfl rfl <| cc_seq <| cc_region <| wa rfl (v := I 3) rfl <| wl_end <| lv_next <| cc_ret <| lv_block_ret <| lv_then_ret <| lv_ret1 rfl rfl ?_
    have hB_w1 := (bl_ext (Below.refl w.heap.size w) nb1.gr)
    exact ⟨vint (by simp [check, big, bad, *]), ext_of_below hB_w1⟩
  · skip
    have hg2p := hg2
    have hg2p := of_decide_eq_false hg2p
    refine wl_detg rfl rfl (guard_eq rfl hg2) rfl (by decide) (fun st => x_fieldAddr (ee st rfl) (fz_36_1 _ _)) <| wl_detg rfl rfl (guard_eq rfl hg2) rfl (by decide) (fun st => x_load1 (v := I f.wd) one_3 (ee st rfl) nb1.bk rfl) <| wl_detg rfl rfl (guard_eq rfl hg2) rfl (by decide) (fun st => x_gtr (ee st rfl) (ee st rfl)) <| wd rfl (fun st => x_pick_f (v := .bool (decide (3 < f.wd))) (ee st rfl) hg2 (ee st rfl)) <| wm rfl (v := .bool (decide (3 < f.wd))) rfl ?_
    rcases bool_cases (decide (3 < f.wd)) with hg3 | hg3
    · skip
      have hg3p := hg3
      have hg3p := of_decide_eq_true hg3p
      refine wl_skip (c := true) rfl rfl (guard_eq rfl hg3) (by decide) rfl (by decide) <| wl_skip (c := true) rfl rfl (guard_eq rfl hg3) (by decide) rfl (by decide) <| wl_skip (c := true) rfl rfl (guard_eq rfl hg3) (by decide) rfl (by decide) <| wl_skip (c := true) rfl rfl (guard_eq rfl hg3) (by decide) rfl (by decide) <| wd rfl (fun st => x_pick_t (v := .bool true) (ee st rfl) hg3 (ee st rfl)) <| wa rfl (v := .bool true) rfl <| wl_end <| lv_next <| cc_cond_t rfl rfl <| cc_seq <| cc_region <| wa rfl (v := I 3) rfl <| wl_end <| lv_next <| cc_ret <| lv_block_ret <| lv_then_ret <| lv_ret1 rfl rfl ?_
      have hB_w1 := (bl_ext (Below.refl w.heap.size w) nb1.gr)
      exact ⟨vint (by simp [check, big, bad, *]), ext_of_below hB_w1⟩
    · skip
      have hg3p := hg3
      have hg3p := of_decide_eq_false hg3p
      refine wl_detg rfl rfl (guard_eq rfl hg3) rfl (by decide) (fun st => x_fieldAddr (ee st rfl) (fz_36_3 _ _)) <| wl_detg rfl rfl (guard_eq rfl hg3) rfl (by decide) (fun st => x_load1 (v := .slice A f.ts.length c) one_34 (ee st rfl) nb1.bk rfl) <| wl_detg rfl rfl (guard_eq rfl hg3) rfl (by decide) (fun st => x_len Try.underlying34 (ee st rfl)) <| wl_detg rfl rfl (guard_eq rfl hg3) rfl (by decide) (fun st => x_gtr (ee st rfl) (ee st rfl)) <| wd rfl (fun st => x_pick_f (v := .bool (decide (5 < ((f.ts.length : Nat) : Int)))) (ee st rfl) hg3 (ee st rfl)) <| wa rfl (v := .bool (decide (5 < ((f.ts.length : Nat) : Int)))) rfl <| wl_end <| lv_next ?_
      rcases bool_cases (decide (5 < ((f.ts.length : Nat) : Int))) with hc4 | hc4
      · refine cc_cond_t rfl hc4 ?_
        have hc4p := hc4
        have hc4p := of_decide_eq_true hc4p
        refine cc_seq <| cc_region <| wa rfl (v := I 3) rfl <| wl_end <| lv_next <| cc_ret <| lv_block_ret <| lv_then_ret <| lv_ret1 rfl rfl ?_
        have hB_w1 := (bl_ext (Below.refl w.heap.size w) nb1.gr)
        exact ⟨vint (by simp [check, big, bad, *]), ext_of_below hB_w1⟩
      · refine cc_cond_f rfl hc4 ?_
        have hc4p := hc4
        have hc4p := of_decide_eq_false hc4p
        refine cc_seq <| cc_region <| wd rfl (fun st => x_fieldAddr (ee st rfl) (fz_36_0 _ _)) <| wd rfl (fun st => x_load1 (v := I f.rows) one_3 (ee st rfl) nb1.bk rfl) <| wd rfl (fun st => x_lss (ee st rfl) (ee st rfl)) <| wm rfl (v := .bool (decide (f.rows < 1))) rfl ?_
        rcases bool_cases (decide (f.rows < 1)) with hg5 | hg5
        · skip
          have hg5p := hg5
          have hg5p := of_decide_eq_true hg5p
          refine wl_skip (c := true) rfl rfl (guard_eq rfl hg5) (by decide) rfl (by decide) <| wl_skip (c := true) rfl rfl (guard_eq rfl hg5) (by decide) rfl (by decide) <| wl_skip (c := true) rfl rfl (guard_eq rfl hg5) (by decide) rfl (by decide) <| wd rfl (fun st => x_pick_t (v := .bool true) (ee st rfl) hg5 (ee st rfl)) <| wm rfl (v := .bool true) rfl <| wl_skip rfl rfl rfl (by decide) rfl (by decide) <| wl_skip rfl rfl rfl (by decide) rfl (by decide) <| wl_skip rfl rfl rfl (by decide) rfl (by decide) <| wl_skip rfl rfl rfl (by decide) rfl (by decide) <| wl_skip rfl rfl rfl (by decide) rfl (by decide) <| wd rfl (fun st => x_pick_t (v := .bool true) (ee st rfl) rfl (ee st rfl)) <| wm rfl (v := .bool true) rfl <| wl_skip rfl rfl rfl (by decide) rfl (by decide) <| wl_skip rfl rfl rfl (by decide) rfl (by decide) <| wl_skip rfl rfl rfl (by decide) rfl (by decide) <| wl_skip rfl rfl rfl (by decide) rfl (by decide) <| wl_skip rfl rfl rfl (by decide) rfl (by decide) <| wd rfl (fun st => x_pick_t (v := .bool true) (ee st rfl) rfl (ee st rfl)) <| wa rfl (v := .bool true) rfl <| wl_end <| lv_next <| cc_cond_t rfl rfl <| cc_seq <| cc_region <| wa rfl (v := I 1) rfl <| wl_end <| lv_next <| cc_ret <| lv_block_ret <| lv_then_ret <| lv_ret1 rfl rfl ?_
          have hB_w1 := (bl_ext (Below.refl w.heap.size w) nb1.gr)
          exact ⟨vint (by simp [check, big, bad, *]), ext_of_below hB_w1⟩
        · skip
          have hg5p := hg5
          have hg5p := of_decide_eq_false hg5p
          refine wl_detg rfl rfl (guard_eq rfl hg5) rfl (by decide) (fun st => x_fieldAddr (ee st rfl) (fz_36_1 _ _)) <| wl_detg rfl rfl (guard_eq rfl hg5) rfl (by decide) (fun st => x_load1 (v := I f.wd) one_3 (ee st rfl) nb1.bk rfl) <| wl_detg rfl rfl (guard_eq rfl hg5) rfl (by decide) (fun st => x_lss (ee st rfl) (ee st rfl)) <| wd rfl (fun st => x_pick_f (v := .bool (decide (f.wd < 1))) (ee st rfl) hg5 (ee st rfl)) <| wm rfl (v := .bool (decide (f.wd < 1))) rfl ?_
          rcases bool_cases (decide (f.wd < 1)) with hg6 | hg6
          · skip
            have hg6p := hg6
            have hg6p := of_decide_eq_true hg6p
            refine wl_skip (c := true) rfl rfl (guard_eq rfl hg6) (by decide) rfl (by decide) <| wl_skip (c := true) rfl rfl (guard_eq rfl hg6) (by decide) rfl (by decide) <| wl_skip (c := true) rfl rfl (guard_eq rfl hg6) (by decide) rfl (by decide) <| wl_skip (c := true) rfl rfl (guard_eq rfl hg6) (by decide) rfl (by decide) <| wl_skip (c := true) rfl rfl (guard_eq rfl hg6) (by decide) rfl (by decide) <| wd rfl (fun st => x_pick_t (v := .bool true) (ee st rfl) hg6 (ee st rfl)) <| wm rfl (v := .bool true) rfl <| wl_skip rfl rfl rfl (by decide) rfl (by decide) <| wl_skip rfl rfl rfl (by decide) rfl (by decide) <| wl_skip rfl rfl rfl (by decide) rfl (by decide) <| wl_skip rfl rfl rfl (by decide) rfl (by decide) <| wl_skip rfl rfl rfl (by decide) rfl (by decide) <| wd rfl (fun st => x_pick_t (v := .bool true) (ee st rfl) rfl (ee st rfl)) <| wa rfl (v := .bool true) rfl <| wl_end <| lv_next <| cc_cond_t rfl rfl <| cc_seq <| cc_region <| wa rfl (v := I 1) rfl <| wl_end <| lv_next <| cc_ret <| lv_block_ret <| lv_then_ret <| lv_ret1 rfl rfl ?_
            have hB_w1 := (bl_ext (Below.refl w.heap.size w) nb1.gr)
            exact ⟨vint (by simp [check, big, bad, *]), ext_of_below hB_w1⟩
          · skip
            have hg6p := hg6
            have hg6p := of_decide_eq_false hg6p
            refine wl_detg rfl rfl (guard_eq rfl hg6) rfl (by decide) (fun st => x_loadn (l := [I f.rows, I f.wd, I f.lo, I f.hi, .slice A f.ts.length c]) agg_36 (ee st rfl) nb1.bk rfl rfl) <| wl_detg rfl rfl (guard_eq rfl hg6) rfl (by decide) (fun st => x_fieldAddr (ee st rfl) (fz_36_2 _ _)) <| wl_detg rfl rfl (guard_eq rfl hg6) rfl (by decide) (fun st => x_loadn (l := [I f.lo, I f.hi]) agg_33 (ee st rfl) nb1.bk rfl rfl) <| wl_exg rfl rfl (guard_eq rfl hg6) rfl (by decide) (fun st => x_call0 own_91 (ee st rfl) (am2 (ee st rfl) (ee st rfl)) (c91 f A c f.lo f.hi _)) ?_
            rintro _ w7 ⟨rfl, hx7⟩
            refine wl_detg rfl rfl (guard_eq rfl hg6) rfl (by decide) (fun st => x_not (ee st rfl)) <| wd rfl (fun st => x_pick_f (v := .bool (!(rngOk f f.lo f.hi))) (ee st rfl) hg6 (ee st rfl)) <| wm rfl (v := .bool (!(rngOk f f.lo f.hi))) rfl ?_
            rcases bool_cases (!(rngOk f f.lo f.hi)) with hg8 | hg8
            · skip
              have hg8p := hg8
              have hg8p := not_t hg8p
              have hg8_9 : (rngOk f f.lo f.hi) = false := by simpa using hg8
              refine wl_skip (c := true) rfl rfl (guard_eq rfl hg8) (by decide) rfl (by decide) <| wl_skip (c := true) rfl rfl (guard_eq rfl hg8) (by decide) rfl (by decide) <| wl_skip (c := true) rfl rfl (guard_eq rfl hg8) (by decide) rfl (by decide) <| wl_skip (c := true) rfl rfl (guard_eq rfl hg8) (by decide) rfl (by decide) <| wl_skip (c := true) rfl rfl (guard_eq rfl hg8) (by decide) rfl (by decide) <| wd rfl (fun st => x_pick_t (v := .bool true) (ee st rfl) hg8 (ee st rfl)) <| wa rfl (v := .bool true) rfl <| wl_end <| lv_next <| cc_cond_t rfl rfl <| cc_seq <| cc_region <| wa rfl (v := I 1) rfl <| wl_end <| lv_next <| cc_ret <| lv_block_ret <| lv_then_ret <| lv_ret1 rfl rfl ?_
              have hB_w7 := (bl_ext (bl_ext (Below.refl w.heap.size w) nb1.gr) hx7)
              exact ⟨vint (by simp [check, big, bad, *]), ext_of_below hB_w7⟩
            · skip
              have hg8p := hg8
              have hg8p := not_f hg8p
              have hg8_10 : (rngOk f f.lo f.hi) = true := by simpa using hg8
              refine wl_detg rfl rfl (guard_eq rfl hg8) rfl (by decide) (fun st => x_fieldAddr (ee st rfl) (fz_36_3 _ _)) ?_
              have bk1_w7 := (nb1.bk.ext hx7)
              refine wl_detg rfl rfl (guard_eq rfl hg8) rfl (by decide) (fun st => x_load1 (v := .slice A f.ts.length c) one_34 (ee st rfl) bk1_w7 rfl) <| wl_detg rfl rfl (guard_eq rfl hg8) rfl (by decide) (fun st => x_move (v := .func (.func 90) #[.agg #[I f.rows, I f.wd, I f.lo, I f.hi, .slice A f.ts.length c]] #[]) (ee st rfl)) ?_
              have hT_w7 := ((hT.ext nb1.gr).ext hx7)
              refine wl_exg rfl rfl (guard_eq rfl hg8) rfl (by decide) (fun st => x_call0 own_92 (ee st rfl) (am2 (ee st rfl) (ee st rfl)) (c92 f A c f.ts A c _ (by first | omega | assumption) (by first | omega | assumption) (by first | omega | assumption) (by first | omega | assumption) (by omega)  hT_w7.wide)) ?_
              rintro _ w11 ⟨rfl, hx11⟩
              refine wl_detg rfl rfl (guard_eq rfl hg8) rfl (by decide) (fun st => x_not (ee st rfl)) <| wd rfl (fun st => x_pick_f (v := .bool (!(f.ts.all (talOk f)))) (ee st rfl) hg8 (ee st rfl)) <| wa rfl (v := .bool (!(f.ts.all (talOk f)))) rfl <| wl_end <| lv_next ?_
              rcases bool_cases (!(f.ts.all (talOk f))) with hc12 | hc12
              · refine cc_cond_t rfl hc12 ?_
                have hc12p := hc12
                have hc12p := not_t hc12p
                have hc12_13 : (f.ts.all (talOk f)) = false := by simpa using hc12
                refine cc_seq <| cc_region <| wa rfl (v := I 1) rfl <| wl_end <| lv_next <| cc_ret <| lv_block_ret <| lv_then_ret <| lv_ret1 rfl rfl ?_
                have hB_w11 := (bl_ext (bl_ext (bl_ext (Below.refl w.heap.size w) nb1.gr) hx7) hx11)
                exact ⟨vint (by simp [check, big, bad, *]), ext_of_below hB_w11⟩
              · refine cc_cond_f rfl hc12 ?_
                have hc12p := hc12
                have hc12p := not_f hc12p
                have hc12_14 : (f.ts.all (talOk f)) = true := by simpa using hc12
                refine cc_skip <| lv_block <| lv_next <| cc_seq <| cc_region <| wa rfl (v := I 1) rfl <| wl_end <| lv_next <| cc_seq <| cc_seq <| cc_region <| wd rfl (fun st => x_fieldAddr (ee st rfl) (fz_36_0 _ _)) ?_
                have bk1_w11 := (bk1_w7.ext hx11)
                refine wd rfl (fun st => x_load1 (v := I f.rows) one_3 (ee st rfl) bk1_w11 rfl) <| wm rfl (v := I 0) rfl <| wl_end <| lv_next <| cc_block ?_
                refine cc_loop (fun (m_ : Nat) (fr_ : Act) (w_ : World) => ∃ (k : Nat), m_ = f.rows.toNat - k ∧ ((k : Int) ≤ f.rows) ∧ fr_.tmps.size = 57 ∧ fr_.defers = [] ∧ sl fr_ 0 = .agg #[I f.rows, I f.wd, I f.lo, I f.hi, .slice A f.ts.length c] ∧ sl fr_ 1 = pt b1 0 ∧ sl fr_ 2 = I 0 ∧ sl fr_ 3 = .func (.func 90) #[.agg #[I f.rows, I f.wd, I f.lo, I f.hi, .slice A f.ts.length c]] #[] ∧ sl fr_ 5 = .agg #[I f.rows, I f.wd, I f.lo, I f.hi, .slice A f.ts.length c] ∧ sl fr_ 6 = .func (.func 90) #[.agg #[I f.rows, I f.wd, I f.lo, I f.hi, .slice A f.ts.length c]] #[] ∧ sl fr_ 7 = .bool (decide (5 < ((f.ts.length : Nat) : Int))) ∧ sl fr_ 8 = pt b1 0 ∧ sl fr_ 9 = I f.rows ∧ sl fr_ 10 = .bool (decide (7 < f.rows)) ∧ sl fr_ 11 = .bool (decide (7 < f.rows)) ∧ sl fr_ 12 = pt b1 1 ∧ sl fr_ 13 = I f.wd ∧ sl fr_ 14 = .bool (decide (3 < f.wd)) ∧ sl fr_ 15 = .bool (decide (3 < f.wd)) ∧ sl fr_ 16 = .bool (decide (3 < f.wd)) ∧ sl fr_ 17 = pt b1 4 ∧ sl fr_ 18 = .slice A f.ts.length c ∧ sl fr_ 19 = I ((f.ts.length : Nat) : Int) ∧ sl fr_ 20 = .bool (decide (5 < ((f.ts.length : Nat) : Int))) ∧ sl fr_ 21 = .bool (decide (5 < ((f.ts.length : Nat) : Int))) ∧ sl fr_ 22 = .bool (!(f.ts.all (talOk f))) ∧ sl fr_ 23 = pt b1 0 ∧ sl fr_ 24 = I f.rows ∧ sl fr_ 25 = .bool (decide (f.rows < 1)) ∧ sl fr_ 26 = .bool (decide (f.rows < 1)) ∧ sl fr_ 27 = pt b1 1 ∧ sl fr_ 28 = I f.wd ∧ sl fr_ 29 = .bool (decide (f.wd < 1)) ∧ sl fr_ 30 = .bool (decide (f.wd < 1)) ∧ sl fr_ 31 = .bool (decide (f.wd < 1)) ∧ sl fr_ 32 = .agg #[I f.rows, I f.wd, I f.lo, I f.hi, .slice A f.ts.length c] ∧ sl fr_ 33 = pt b1 2 ∧ sl fr_ 34 = .agg #[I f.lo, I f.hi] ∧ sl fr_ 35 = .bool (rngOk f f.lo f.hi) ∧ sl fr_ 36 = .bool (!(rngOk f f.lo f.hi)) ∧ sl fr_ 37 = .bool (!(rngOk f f.lo f.hi)) ∧ sl fr_ 38 = .bool (!(rngOk f f.lo f.hi)) ∧ sl fr_ 39 = pt b1 4 ∧ sl fr_ 40 = .slice A f.ts.length c ∧ sl fr_ 41 = .func (.func 90) #[.agg #[I f.rows, I f.wd, I f.lo, I f.hi, .slice A f.ts.length c]] #[] ∧ sl fr_ 42 = .bool (f.ts.all (talOk f)) ∧ sl fr_ 43 = .bool (!(f.ts.all (talOk f))) ∧ sl fr_ 44 = .bool (!(f.ts.all (talOk f))) ∧ sl fr_ 45 = pt b1 0 ∧ sl fr_ 46 = I f.rows ∧ sl fr_ 4 = I ((f.wd + 1) ^ k) ∧ sl fr_ 47 = I ((k : Nat) : Int) ∧ w11 = w_) (f.rows.toNat - 0) ?init15 ?round15
                case init15 =>
                  intro st
                  exact ⟨0, rfl, by omega, (puts_size _ _).trans st.sz, (puts_defers _ _).trans st.df, (sl_puts st 0).trans hp0, (sl_puts st 1).trans rfl, (sl_puts st 2).trans rfl, (sl_puts st 3).trans rfl, (sl_puts st 5).trans rfl, (sl_puts st 6).trans rfl, (sl_puts st 7).trans rfl, (sl_puts st 8).trans rfl, (sl_puts st 9).trans rfl, (sl_puts st 10).trans rfl, (sl_puts st 11).trans rfl, (sl_puts st 12).trans rfl, (sl_puts st 13).trans rfl, (sl_puts st 14).trans rfl, (sl_puts st 15).trans rfl, (sl_puts st 16).trans rfl, (sl_puts st 17).trans rfl, (sl_puts st 18).trans rfl, (sl_puts st 19).trans rfl, (sl_puts st 20).trans rfl, (sl_puts st 21).trans rfl, (sl_puts st 22).trans rfl, (sl_puts st 23).trans rfl, (sl_puts st 24).trans rfl, (sl_puts st 25).trans rfl, (sl_puts st 26).trans rfl, (sl_puts st 27).trans rfl, (sl_puts st 28).trans rfl, (sl_puts st 29).trans rfl, (sl_puts st 30).trans rfl, (sl_puts st 31).trans rfl, (sl_puts st 32).trans rfl, (sl_puts st 33).trans rfl, (sl_puts st 34).trans rfl, (sl_puts st 35).trans rfl, (sl_puts st 36).trans rfl, (sl_puts st 37).trans rfl, (sl_puts st 38).trans rfl, (sl_puts st 39).trans rfl, (sl_puts st 40).trans rfl, (sl_puts st 41).trans rfl, (sl_puts st 42).trans rfl, (sl_puts st 43).trans rfl, (sl_puts st 44).trans rfl, (sl_puts st 45).trans rfl, (sl_puts st 46).trans rfl, (sl_puts st 4).trans (vint (by simp)), (sl_puts st 47).trans (vint (by omega)), rfl⟩
                case round15 =>
                  rintro m_ fr15 _ ⟨k, rfl, hk, hsz15, hdf15, hs15_0, hs15_1, hs15_2, hs15_3, hs15_5, hs15_6, hs15_7, hs15_8, hs15_9, hs15_10, hs15_11, hs15_12, hs15_13, hs15_14, hs15_15, hs15_16, hs15_17, hs15_18, hs15_19, hs15_20, hs15_21, hs15_22, hs15_23, hs15_24, hs15_25, hs15_26, hs15_27, hs15_28, hs15_29, hs15_30, hs15_31, hs15_32, hs15_33, hs15_34, hs15_35, hs15_36, hs15_37, hs15_38, hs15_39, hs15_40, hs15_41, hs15_42, hs15_43, hs15_44, hs15_45, hs15_46, hs15_4, hs15_47, rfl⟩
                  refine round_cc (N := 57) hsz15 hdf15 ?_
                  have hpw := pow_bd7 (f.wd + 1) (by omega) (by omega) k (by omega)
                  have hpw2 := pow_bd7 (f.wd + 1) (by omega) (by omega) (k + 1) (by omega)
                  rw [Int.pow_succ] at hpw2
                  refine cc_seq <| cc_region <| wd rfl (fun st => x_lss (ee st hs15_47) (ee st hs15_46)) <| wl_end <| lv_next <| cc_seq ?_
                  rcases bool_cases (decide (((k : Nat) : Int) < f.rows)) with hc16 | hc16
                  · refine cc_cond_t rfl hc16 ?_
                    have hc16p := hc16
                    have hc16p := of_decide_eq_true hc16p
                    refine cc_skip <| lv_next <| cc_seq <| cc_block <| cc_region <| wm rfl (v := I ((f.wd + 1) ^ k)) hs15_4 <| wd rfl (fun st => x_fieldAddr (ee st hs15_1) (fz_36_1 _ _)) <| wd rfl (fun st => x_load1 (v := I f.wd) one_3 (ee st rfl) bk1_w11 rfl) <| wd rfl (fun st => x_add (ee st rfl) (ee st rfl) ⟨by omega, by omega⟩) <| wd rfl (fun st => x_mul (ee st rfl) (ee st rfl) ⟨by omega, by omega⟩) <| wa rfl (v := I (((f.wd + 1) ^ k) * (f.wd + 1))) rfl <| wl_end <| lv_block <| lv_next <| cc_region <| wd rfl (fun st => x_add (ee st hs15_47) (ee st rfl) ⟨by omega, by omega⟩) <| wm rfl (v := I (((k : Nat) : Int) + 1)) rfl <| wl_end ?_
                    refine lv_round (f.rows.toNat - (k + 1)) (by omega) (fun st => ?_)
                    exact ⟨(k + 1), rfl, by omega, (puts_size _ _).trans st.sz, (puts_defers _ _).trans st.df, (sl_puts st 0).trans hs15_0, (sl_puts st 1).trans hs15_1, (sl_puts st 2).trans hs15_2, (sl_puts st 3).trans hs15_3, (sl_puts st 5).trans hs15_5, (sl_puts st 6).trans hs15_6, (sl_puts st 7).trans hs15_7, (sl_puts st 8).trans hs15_8, (sl_puts st 9).trans hs15_9, (sl_puts st 10).trans hs15_10, (sl_puts st 11).trans hs15_11, (sl_puts st 12).trans hs15_12, (sl_puts st 13).trans hs15_13, (sl_puts st 14).trans hs15_14, (sl_puts st 15).trans hs15_15, (sl_puts st 16).trans hs15_16, (sl_puts st 17).trans hs15_17, (sl_puts st 18).trans hs15_18, (sl_puts st 19).trans hs15_19, (sl_puts st 20).trans hs15_20, (sl_puts st 21).trans hs15_21, (sl_puts st 22).trans hs15_22, (sl_puts st 23).trans hs15_23, (sl_puts st 24).trans hs15_24, (sl_puts st 25).trans hs15_25, (sl_puts st 26).trans hs15_26, (sl_puts st 27).trans hs15_27, (sl_puts st 28).trans hs15_28, (sl_puts st 29).trans hs15_29, (sl_puts st 30).trans hs15_30, (sl_puts st 31).trans hs15_31, (sl_puts st 32).trans hs15_32, (sl_puts st 33).trans hs15_33, (sl_puts st 34).trans hs15_34, (sl_puts st 35).trans hs15_35, (sl_puts st 36).trans hs15_36, (sl_puts st 37).trans hs15_37, (sl_puts st 38).trans hs15_38, (sl_puts st 39).trans hs15_39, (sl_puts st 40).trans hs15_40, (sl_puts st 41).trans hs15_41, (sl_puts st 42).trans hs15_42, (sl_puts st 43).trans hs15_43, (sl_puts st 44).trans hs15_44, (sl_puts st 45).trans hs15_45, (sl_puts st 46).trans hs15_46, (sl_puts st 4).trans (vint (Int.pow_succ _ _).symm), (sl_puts st 47).trans (vint (by omega)), rfl⟩
                  · refine cc_cond_f rfl hc16 ?_
                    have hc16p := hc16
                    have hc16p := of_decide_eq_false hc16p
                    refine cc_exit <| lv_then_exit <| lv_then_exit <| lv_block_hit <| lv_next <| cc_seq <| cc_seq <| cc_region <| wm rfl (v := I ((f.wd + 1) ^ k)) hs15_4 <| wd rfl (fun st => x_gtr (ee st rfl) (ee st rfl)) <| wl_end <| lv_next ?_
                    rcases bool_cases (decide (2500 < ((f.wd + 1) ^ k))) with hc17 | hc17
                    · refine cc_cond_t rfl hc17 ?_
                      have hc17p := hc17
                      have hc17p := of_decide_eq_true hc17p
                      refine cc_seq <| cc_region <| wa rfl (v := I 3) rfl <| wl_end <| lv_next <| cc_ret <| lv_then_ret <| lv_ret1 rfl rfl ?_
                      have hkr : k = f.rows.toNat := by omega
                      subst hkr
                      have hB_w11 := (bl_ext (bl_ext (bl_ext (Below.refl w.heap.size w) nb1.gr) hx7) hx11)
                      exact ⟨vint (by simp only [check, big, bad, many]; simp [*]), ext_of_below hB_w11⟩
                    · refine cc_cond_f rfl hc17 ?_
                      have hc17p := hc17
                      have hc17p := of_decide_eq_false hc17p
                      refine cc_skip <| lv_next <| cc_seq <| cc_region <| wa rfl (v := I 0) rfl <| wl_end <| lv_next <| cc_ret <| lv_ret1 rfl rfl ?_
                      have hkr : k = f.rows.toNat := by omega
                      subst hkr
                      have hB_w11 := (bl_ext (bl_ext (bl_ext (Below.refl w.heap.size w) nb1.gr) hx7) hx11)
                      exact ⟨vint (by simp only [check, big, bad, many]; simp [*]), ext_of_below hB_w11⟩
end Go.Proofs.Ythogdgkafaclaaa
end
section
set_option linter.unusedVariables false
set_option linter.unusedSimpArgs false
namespace Go.Proofs.Ythogdgkafaclaaa
open Go.RowKit
attribute [local irreducible] Ex1 WL CC CW LV Ret ObOp Agg One Own
theorem c100 (l : List Int) (who fr to : Int) (w : World) (HL : l.length = 7) (h0 : 0 ≤ fr) (h1 : fr ≤ to + 1) (h2 : to ≤ 6) (h3 : fr ≤ 6) :
    Ret Try.prog 100 #[ansV l, I who, I fr, I to] w (fun v w' => v = .int .i64 (cnt who ((l.drop fr.toNat).take ((to + 1).toNat - fr.toNat))) ∧ Ext w w') := by
  refine ret_of_cc (N := 27) Try.func100 rfl rfl (by simp) ?_
  intro fr0 ha hdf
  have hp0 := sl_arg (i := 0) (v := ansV l) ha rfl
  have hp1 := sl_arg (i := 1) (v := I who) ha rfl
  have hp2 := sl_arg (i := 2) (v := I fr) ha rfl
  have hp3 := sl_arg (i := 3) (v := I to) ha rfl
  clear ha
  refine cc_seq <| cc_region <| we rfl (fun st => x_box (v := ansV l) (cs := (ivs l).toArray) (ee st hp0) rfl) ?_
  rintro _ w1 ⟨b1, rfl, nb1⟩
  have lo1 : w.heap.size ≤ b1 := by rw [nb1.b_eq]; exact (Below.refl w.heap.size w).size
  refine wa rfl (v := I 0) rfl <| wl_end <| lv_next <| cc_seq <| cc_seq <| cc_region <| wm rfl (v := I fr) hp2 <| wm rfl (v := I to) hp3 <| wd rfl (fun st => x_add (ee st rfl) (ee st rfl) ⟨by omega, by omega⟩) <| wd rfl (fun st => x_sliceA Try.underlying105 sz_3 (ee st rfl) (ee st rfl) (ee st rfl) (by omega) (by omega) (by omega) (by omega)) ?_
  have rs2 := rd_stretch nb1.bk fr.toNat ((to + 1).toNat - fr.toNat)
  refine wd rfl (fun st => x_len Try.underlying43 (ee st rfl)) <| wm rfl (v := I 0) rfl <| wl_end <| lv_next <| cc_block ?_
  have HM : ((l.drop fr.toNat).take ((to + 1).toNat - fr.toNat)).length = (to + 1).toNat - fr.toNat := by simp; omega
  refine cc_loop (fun (m_ : Nat) (fr_ : Act) (w_ : World) => ∃ (k : Nat), m_ = (to + 1).toNat - fr.toNat - k ∧ (k ≤ (to + 1).toNat - fr.toNat) ∧ fr_.tmps.size = 27 ∧ fr_.defers = [] ∧ sl fr_ 0 = ansV l ∧ sl fr_ 1 = I who ∧ sl fr_ 2 = I fr ∧ sl fr_ 3 = I to ∧ sl fr_ 4 = pt b1 0 ∧ sl fr_ 11 = I fr ∧ sl fr_ 12 = I to ∧ sl fr_ 13 = I (to + 1) ∧ sl fr_ 14 = .slice (some ⟨b1, fr.toNat, none⟩) ((to + 1).toNat - fr.toNat) (7 - fr.toNat) ∧ sl fr_ 15 = I (((to + 1).toNat - fr.toNat : Nat) : Int) ∧ sl fr_ 8 = I ((cnt who (((l.drop fr.toNat).take ((to + 1).toNat - fr.toNat)).take k) : Nat) : Int) ∧ sl fr_ 16 = I ((k : Nat) : Int) ∧ w1 = w_) ((to + 1).toNat - fr.toNat - 0) ?init3 ?round3
  case init3 =>
    intro st
    exact ⟨0, rfl, by omega, (puts_size _ _).trans st.sz, (puts_defers _ _).trans st.df, (sl_puts st 0).trans hp0, (sl_puts st 1).trans hp1, (sl_puts st 2).trans hp2, (sl_puts st 3).trans hp3, (sl_puts st 4).trans rfl, (sl_puts st 11).trans rfl, (sl_puts st 12).trans rfl, (sl_puts st 13).trans rfl, (sl_puts st 14).trans rfl, (sl_puts st 15).trans rfl, (sl_puts st 8).trans (vint (by simp [cnt])), (sl_puts st 16).trans (vint (by omega)), rfl⟩
  case round3 =>
    rintro m_ fr3 _ ⟨k, rfl, hk, hsz3, hdf3, hs3_0, hs3_1, hs3_2, hs3_3, hs3_4, hs3_11, hs3_12, hs3_13, hs3_14, hs3_15, hs3_8, hs3_16, rfl⟩
    refine round_cc (N := 27) hsz3 hdf3 ?_
    have hcl := cnt_le who (((l.drop fr.toNat).take ((to + 1).toNat - fr.toNat)).take k)
    have hcl2 : (((l.drop fr.toNat).take ((to + 1).toNat - fr.toNat)).take k).length ≤ k := List.length_take_le _ _
    refine cc_seq <| cc_region <| wd rfl (fun st => x_lss (ee st hs3_16) (ee st hs3_15)) <| wl_end <| lv_next <| cc_seq ?_
    rcases bool_cases (decide (((k : Nat) : Int) < (((to + 1).toNat - fr.toNat : Nat) : Int))) with hc4 | hc4
    · refine cc_cond_t rfl hc4 ?_
      have hc4p := hc4
      have hc4p := of_decide_eq_true hc4p
      refine cc_skip <| lv_next <| cc_seq <| cc_block <| cc_seq <| cc_region ?_
      obtain ⟨bq5, oq5, hA5, -, -, -⟩ := Rd.elem1 rs2 (k := k) (by rw [ivs_len]; exact (by omega))
      refine wd rfl (fun st => x_indexAddr1 (k := k) Try.underlying43 sz_3 (ee st hs3_14) hA5 (ee st hs3_16) rfl (by omega)) <| wd rfl (fun st => x_load_rd (v := I (((l.drop fr.toNat).take ((to + 1).toNat - fr.toNat)).getD k 0)) one_3 (ee st rfl) (rs2.cells hA5) (ivs_get ((l.drop fr.toNat).take ((to + 1).toNat - fr.toNat)) k (by omega))) <| wa rfl (v := I (((l.drop fr.toNat).take ((to + 1).toNat - fr.toNat)).getD k 0)) rfl <| wl_end <| lv_next <| cc_seq <| cc_region <| wm rfl (v := I (((l.drop fr.toNat).take ((to + 1).toNat - fr.toNat)).getD k 0)) rfl <| wm rfl (v := I who) hs3_1 <| wd rfl (fun st => x_eql (ee st rfl) (ee st rfl)) <| wl_end <| lv_next ?_
      rcases bool_cases ((((l.drop fr.toNat).take ((to + 1).toNat - fr.toNat)).getD k 0) == who) with hc6 | hc6
      · refine cc_cond_t rfl hc6 ?_
        have hc6p := hc6
        have hc6p := eq_of_beq hc6p
        have hcs := cnt_step who ((l.drop fr.toNat).take ((to + 1).toNat - fr.toNat)) k (by omega)
        refine cc_region <| wm rfl (v := I ((cnt who (((l.drop fr.toNat).take ((to + 1).toNat - fr.toNat)).take k) : Nat) : Int)) hs3_8 <| wd rfl (fun st => x_add (ee st rfl) (ee st rfl) ⟨by omega, by omega⟩) <| wa rfl (v := I (((cnt who (((l.drop fr.toNat).take ((to + 1).toNat - fr.toNat)).take k) : Nat) : Int) + 1)) rfl <| wl_end <| lv_block <| lv_next <| cc_region <| wd rfl (fun st => x_add (ee st hs3_16) (ee st rfl) ⟨by omega, by omega⟩) <| wm rfl (v := I (((k : Nat) : Int) + 1)) rfl <| wl_end ?_
        refine lv_round ((to + 1).toNat - fr.toNat - (k + 1)) (by omega) (fun st => ?_)
        exact ⟨(k + 1), rfl, by omega, (puts_size _ _).trans st.sz, (puts_defers _ _).trans st.df, (sl_puts st 0).trans hs3_0, (sl_puts st 1).trans hs3_1, (sl_puts st 2).trans hs3_2, (sl_puts st 3).trans hs3_3, (sl_puts st 4).trans hs3_4, (sl_puts st 11).trans hs3_11, (sl_puts st 12).trans hs3_12, (sl_puts st 13).trans hs3_13, (sl_puts st 14).trans hs3_14, (sl_puts st 15).trans hs3_15, (sl_puts st 8).trans (vint (by rw [hcs, if_pos (by omega)]; omega)), (sl_puts st 16).trans (vint (by omega)), rfl⟩
      · refine cc_cond_f rfl hc6 ?_
        have hc6p := hc6
        have hc6p := ne_of_beq_false hc6p
        have hcs := cnt_step who ((l.drop fr.toNat).take ((to + 1).toNat - fr.toNat)) k (by omega)
        refine cc_skip <| lv_block <| lv_next <| cc_region <| wd rfl (fun st => x_add (ee st hs3_16) (ee st rfl) ⟨by omega, by omega⟩) <| wm rfl (v := I (((k : Nat) : Int) + 1)) rfl <| wl_end ?_
        refine lv_round ((to + 1).toNat - fr.toNat - (k + 1)) (by omega) (fun st => ?_)
        exact ⟨(k + 1), rfl, by omega, (puts_size _ _).trans st.sz, (puts_defers _ _).trans st.df, (sl_puts st 0).trans hs3_0, (sl_puts st 1).trans hs3_1, (sl_puts st 2).trans hs3_2, (sl_puts st 3).trans hs3_3, (sl_puts st 4).trans hs3_4, (sl_puts st 11).trans hs3_11, (sl_puts st 12).trans hs3_12, (sl_puts st 13).trans hs3_13, (sl_puts st 14).trans hs3_14, (sl_puts st 15).trans hs3_15, (sl_puts st 8).trans (hs3_8.trans (vint (by rw [hcs, if_neg (by omega)]; omega))), (sl_puts st 16).trans (vint (by omega)), rfl⟩
    · refine cc_cond_f rfl hc4 ?_
      have hc4p := hc4
      have hc4p := of_decide_eq_false hc4p
      refine cc_exit <| lv_then_exit <| lv_then_exit <| lv_block_hit <| lv_next <| cc_seq <| cc_region <| wm rfl (v := I ((cnt who (((l.drop fr.toNat).take ((to + 1).toNat - fr.toNat)).take k) : Nat) : Int)) hs3_8 <| wa rfl (v := I ((cnt who (((l.drop fr.toNat).take ((to + 1).toNat - fr.toNat)).take k) : Nat) : Int)) rfl <| wl_end <| lv_next <| cc_ret <| lv_ret1 rfl rfl ?_
      rw [List.take_of_length_le (by omega)]
      have hB_w1 := (bl_ext (Below.refl w.heap.size w) nb1.gr)
      exact ⟨rfl, ext_of_below hB_w1⟩
theorem c68 (f : Fld) (A : Option Addr) (c : Nat) (l : List Int) (who : Int) (w : World) (h0 : 1 ≤ f.rows) (h1 : f.rows ≤ 7) (HL : l.length = 7) :
    Ret Try.prog 68 #[.agg #[I f.rows, I f.wd, I f.lo, I f.hi, .slice A f.ts.length c], ansV l, I who] w (fun v w' => v = .int .i64 (cnt who (l.take f.rows.toNat)) ∧ Ext w w') := by
  refine ret_of_cc (N := 13) Try.func68 rfl rfl (by simp) ?_
  intro fr0 ha hdf
  have hp0 := sl_arg (i := 0) (v := .agg #[I f.rows, I f.wd, I f.lo, I f.hi, .slice A f.ts.length c]) ha rfl
  have hp1 := sl_arg (i := 1) (v := ansV l) ha rfl
  have hp2 := sl_arg (i := 2) (v := I who) ha rfl
  clear ha
  refine cc_seq <| cc_region <| we rfl (fun st => x_box (v := .agg #[I f.rows, I f.wd, I f.lo, I f.hi, .slice A f.ts.length c]) (cs := #[I f.rows, I f.wd, I f.lo, I f.hi, .slice A f.ts.length c]) (ee st hp0) rfl) ?_
  rintro _ w1 ⟨b1, rfl, nb1⟩
  have lo1 : w.heap.size ≤ b1 := by rw [nb1.b_eq]; exact (Below.refl w.heap.size w).size
  refine we rfl (fun st => x_box (v := ansV l) (cs := (ivs l).toArray) (ee st hp1) rfl) ?_
  rintro _ w2 ⟨b2, rfl, nb2⟩
  have hB_w1 := (bl_ext (Below.refl w.heap.size w) nb1.gr)
  have lo2 : w.heap.size ≤ b2 := by rw [nb2.b_eq]; exact hB_w1.size
  have ltb1_2 : b1 < b2 := by rw [nb2.b_eq]; exact nb1.bk.lt
  refine wa rfl (v := I 0) rfl <| wl_end <| lv_next <| cc_seq <| cc_region <| wd rfl (fun st => x_load_all agg_105 (ee st rfl) nb2.bk (by simp [ivs, HL])) <| wm rfl (v := I who) hp2 <| wd rfl (fun st => x_fieldAddr (ee st rfl) (fz_36_0 _ _)) ?_
  have bk1_w2 := (nb1.bk.ext nb2.gr)
  refine wd rfl (fun st => x_load1 (v := I f.rows) one_3 (ee st rfl) bk1_w2 rfl) <| wd rfl (fun st => x_sub (ee st rfl) (ee st rfl) ⟨by omega, by omega⟩) <| we rfl (fun st => x_call0 own_100 (ee st rfl) (am4 (ee st rfl) (ee st rfl) (ee st rfl) (ee st rfl)) (c100 l who 0 (f.rows - 1) _ HL (by omega) (by omega) (by omega) (by omega))) ?_
  rintro _ w3 ⟨rfl, hx3⟩
  refine wa rfl (v := I ((cnt who ((l.drop (0 : Int).toNat).take (((f.rows - 1) + 1).toNat - (0 : Int).toNat)) : Nat) : Int)) rfl <| wl_end <| lv_next <| cc_ret <| lv_ret1 rfl rfl ?_
  have hB_w3 := (bl_ext (bl_ext hB_w1 nb2.gr) hx3)
  refine ⟨vint ?_, ext_of_below hB_w3⟩
  simp
end Go.Proofs.Ythogdgkafaclaaa
end
section
set_option linter.unusedVariables false
set_option linter.unusedSimpArgs false
namespace Go.Proofs.Ythogdgkafaclaaa
open Go.RowKit
attribute [local irreducible] Ex1 WL CC CW LV Ret ObOp Agg One Own
theorem c134 (xs : List Int) (B : Option Addr) (d : Nat) (x : Int) (w : World) (hl : xs.length ≤ 100000) (hs : Rd w 0 w.heap.size B (ivs xs)) :
    Ret Try.prog 134 #[.slice B xs.length d, I x] w (fun v w' => v = .int .i64 (fidx (fun y => x == y) xs) ∧ w' = w) := by
  refine ret_of_cc (N := 19) Try.func134 rfl rfl (by simp) ?_
  intro fr0 ha hdf
  have hp0 := sl_arg (i := 0) (v := .slice B xs.length d) ha rfl
  have hp1 := sl_arg (i := 1) (v := I x) ha rfl
  clear ha
  refine cc_seq <| cc_region <| wa rfl (v := I 0) rfl <| wl_end <| lv_next <| cc_seq <| cc_seq <| cc_region <| wm rfl (v := .slice B xs.length d) hp0 <| wd rfl (fun st => x_len Try.underlying43 (ee st rfl)) <| wm rfl (v := I 0) rfl <| wl_end <| lv_next <| cc_block ?_
  refine cc_loop (fun (m_ : Nat) (fr_ : Act) (w_ : World) => ∃ (k : Nat), m_ = xs.length - k ∧ (k ≤ xs.length) ∧ (∀ y ∈ xs.take k, (x == y) = false) ∧ fr_.tmps.size = 19 ∧ fr_.defers = [] ∧ sl fr_ 0 = .slice B xs.length d ∧ sl fr_ 1 = I x ∧ sl fr_ 6 = .slice B xs.length d ∧ sl fr_ 7 = I ((xs.length : Nat) : Int) ∧ sl fr_ 8 = I ((k : Nat) : Int) ∧ w = w_) (xs.length - 0) ?init1 ?round1
  case init1 =>
    intro st
    exact ⟨0, rfl, by omega, by simp, (puts_size _ _).trans st.sz, (puts_defers _ _).trans st.df, (sl_puts st 0).trans hp0, (sl_puts st 1).trans hp1, (sl_puts st 6).trans rfl, (sl_puts st 7).trans rfl, (sl_puts st 8).trans (vint (by omega)), rfl⟩
  case round1 =>
    rintro m_ fr1 _ ⟨k, rfl, hk, hn, hsz1, hdf1, hs1_0, hs1_1, hs1_6, hs1_7, hs1_8, rfl⟩
    refine round_cc (N := 19) hsz1 hdf1 <| cc_seq <| cc_region <| wd rfl (fun st => x_lss (ee st hs1_8) (ee st hs1_7)) <| wl_end <| lv_next <| cc_seq ?_
    rcases bool_cases (decide (((k : Nat) : Int) < ((xs.length : Nat) : Int))) with hc2 | hc2
    · refine cc_cond_t rfl hc2 ?_
      have hc2p := hc2
      have hc2p := of_decide_eq_true hc2p
      refine cc_skip <| lv_next <| cc_seq <| cc_block <| cc_seq <| cc_region <| wm rfl (v := I ((k : Nat) : Int)) hs1_8 <| wa rfl (v := I ((k : Nat) : Int)) rfl <| wl_end <| lv_next <| cc_seq <| cc_region <| wm rfl (v := I x) hs1_1 <| wm rfl (v := .slice B xs.length d) hs1_0 <| wm rfl (v := I ((k : Nat) : Int)) rfl ?_
      obtain ⟨bq3, oq3, hA3, -, -, -⟩ := Rd.elem1 hs (k := k) (by rw [ivs_len]; exact (by omega))
      refine wd rfl (fun st => x_indexAddr1 (k := k) Try.underlying43 sz_3 (ee st rfl) hA3 (ee st rfl) rfl (by omega)) <| wd rfl (fun st => x_load_rd (v := I (xs.getD k 0)) one_3 (ee st rfl) (hs.cells hA3) (ivs_get xs k (by omega))) <| wd rfl (fun st => x_eql (ee st rfl) (ee st rfl)) <| wl_end <| lv_next ?_
      rcases bool_cases (x == (xs.getD k 0)) with hc4 | hc4
      · refine cc_cond_t rfl hc4 ?_
        have hc4p := hc4
        have hc4p := eq_of_beq hc4p
        refine cc_seq <| cc_region <| wm rfl (v := I ((k : Nat) : Int)) rfl <| wa rfl (v := I ((k : Nat) : Int)) rfl <| wl_end <| lv_next <| cc_ret <| lv_block_ret <| lv_then_ret <| lv_then_ret <| lv_block_ret <| lv_then_ret <| lv_ret1 rfl rfl ?_
        exact ⟨vint (fidx_some (p := fun y => x == y) (getD_some (by omega)) hc4 hn).symm, rfl⟩
      · refine cc_cond_f rfl hc4 ?_
        have hc4p := hc4
        have hc4p := ne_of_beq_false hc4p
        refine cc_skip <| lv_block <| lv_next <| cc_region <| wd rfl (fun st => x_add (ee st hs1_8) (ee st rfl) ⟨by omega, by omega⟩) <| wm rfl (v := I (((k : Nat) : Int) + 1)) rfl <| wl_end ?_
        refine lv_round (xs.length - (k + 1)) (by omega) (fun st => ?_)
        exact ⟨(k + 1), rfl, by omega, take_step (p := fun y => x == y) hn (getD_some (by omega)) hc4, (puts_size _ _).trans st.sz, (puts_defers _ _).trans st.df, (sl_puts st 0).trans hs1_0, (sl_puts st 1).trans hs1_1, (sl_puts st 6).trans hs1_6, (sl_puts st 7).trans hs1_7, (sl_puts st 8).trans (vint (by omega)), rfl⟩
    · refine cc_cond_f rfl hc2 ?_
      have hc2p := hc2
      have hc2p := of_decide_eq_false hc2p
      refine cc_exit <| lv_then_exit <| lv_then_exit <| lv_block_hit <| lv_next <| cc_seq <| cc_region <| wa rfl (v := I (-1)) rfl <| wl_end <| lv_next <| cc_ret <| lv_ret1 rfl rfl ?_
      exact ⟨vint (fidx_none (p := fun y => x == y) (take_done hn (by omega))).symm, rfl⟩
theorem c114 (xs : List Int) (B : Option Addr) (d : Nat) (x : Int) (w : World) (hl : xs.length ≤ 100000) (hs : Rd w 0 w.heap.size B (ivs xs)) :
    Ret Try.prog 114 #[.slice B xs.length d, I x] w (fun v w' => v = .bool (xs.contains x) ∧ w' = w) := by
  refine ret_of_cc (N := 9) Try.func114 rfl rfl (by simp) ?_
  intro fr0 ha hdf
  have hp0 := sl_arg (i := 0) (v := .slice B xs.length d) ha rfl
  have hp1 := sl_arg (i := 1) (v := I x) ha rfl
  clear ha
  refine cc_seq <| cc_region <| wa rfl (v := .bool false) rfl <| wl_end <| lv_next <| cc_seq <| cc_region <| wm rfl (v := .slice B xs.length d) hp0 <| wm rfl (v := I x) hp1 <| we rfl (fun st => x_call0 own_134 (ee st rfl) (am2 (ee st rfl) (ee st rfl)) (c134 xs B d x _ (by omega) hs.wide)) ?_
  rintro _ _ ⟨rfl, rfl⟩
  refine wd rfl (fun st => x_geq (ee st rfl) (ee st rfl)) <| wa rfl (v := .bool (decide (0 ≤ (fidx (fun y => x == y) xs)))) rfl <| wl_end <| lv_next <| cc_ret <| lv_ret1 rfl rfl ?_
  exact ⟨vbool (by rw [fidx_ge, any_beq]), rfl⟩
theorem c95 (f : Fld) (A : Option Addr) (c : Nat) (l out : List Int) (B : Option Addr) (d : Nat) (w : World) (h0 : 1 ≤ f.rows) (h1 : f.rows ≤ 7) (h5 : f.ts.length ≤ 5) (hok : ∀ t ∈ f.ts, talOk f t = true) (HL : l.length = 7) (ho : out.length ≤ 100000) (hT : Rd w 0 w.heap.size A (flat encT f.ts)) (hO : Rd w 0 w.heap.size B (ivs out)) :
    Ret Try.prog 95 #[.agg #[I f.rows, I f.wd, I f.lo, I f.hi, .slice A f.ts.length c], ansV l, .slice B out.length d] w (fun v w' => v = .bool (rightB f l out) ∧ Ext w w') := by
  refine ret_of_cc (N := 67) Try.func95 rfl rfl (by simp) ?_
  intro fr0 ha hdf
  have hp0 := sl_arg (i := 0) (v := .agg #[I f.rows, I f.wd, I f.lo, I f.hi, .slice A f.ts.length c]) ha rfl
  have hp1 := sl_arg (i := 1) (v := ansV l) ha rfl
  have hp2 := sl_arg (i := 2) (v := .slice B out.length d) ha rfl
  clear ha
  refine cc_seq <| cc_region <| we rfl (fun st => x_box (v := .agg #[I f.rows, I f.wd, I f.lo, I f.hi, .slice A f.ts.length c]) (cs := #[I f.rows, I f.wd, I f.lo, I f.hi, .slice A f.ts.length c]) (ee st hp0) rfl) ?_
  rintro _ w1 ⟨b1, rfl, nb1⟩
  have lo1 : w.heap.size ≤ b1 := by rw [nb1.b_eq]; exact (Below.refl w.heap.size w).size
  refine we rfl (fun st => x_box (v := ansV l) (cs := (ivs l).toArray) (ee st hp1) rfl) ?_
  rintro _ w2 ⟨b2, rfl, nb2⟩
  have hB_w1 := (bl_ext (Below.refl w.heap.size w) nb1.gr)
  have lo2 : w.heap.size ≤ b2 := by rw [nb2.b_eq]; exact hB_w1.size
  have ltb1_2 : b1 < b2 := by rw [nb2.b_eq]; exact nb1.bk.lt
  refine wa rfl (v := .bool false) rfl <| wl_end <| lv_next <| cc_seq <| cc_region <| we rfl (fun st => x_makeMap (n := 3)) ?_
  rintro _ w3 ⟨r3, rfl, nb3⟩
  have hB_w2 := (bl_ext hB_w1 nb2.gr)
  have lo3 : w.heap.size ≤ r3 := by rw [nb3.b_eq]; exact hB_w2.size
  have bk1_w2 := (nb1.bk.ext nb2.gr)
  have ltb1_3 : b1 < r3 := by rw [nb3.b_eq]; exact bk1_w2.lt
  have ltb2_3 : b2 < r3 := by rw [nb3.b_eq]; exact nb2.bk.lt
  refine wa rfl (v := .map (some r3)) rfl <| wl_end <| lv_next <| cc_seq <| cc_seq <| cc_region <| wd rfl (fun st => x_fieldAddr (ee st rfl) (fz_36_3 _ _)) ?_
  have bk1_w3 := (bk1_w2.ext nb3.gr)
  refine wd rfl (fun st => x_load1 (v := .slice A f.ts.length c) one_34 (ee st rfl) bk1_w3 rfl) <| wd rfl (fun st => x_len Try.underlying34 (ee st rfl)) <| wm rfl (v := I 0) rfl <| wl_end <| lv_next <| cc_block ?_
  have hT_w3 := (((hT.ext nb1.gr).ext nb2.gr).ext nb3.gr)
  have hO_w3 := (((hO.ext nb1.gr).ext nb2.gr).ext nb3.gr)
  have bk2_w3 := (nb2.bk.ext nb3.gr)
  have hB_w3 := (bl_ext hB_w2 nb3.gr)
  refine cc_loop (fun (m_ : Nat) (fr_ : Act) (w_ : World) => ∃ (k : Nat), ∃ (L : List (List Int × Int)), m_ = f.ts.length - k ∧ (k ≤ f.ts.length) ∧ (∀ key v, mget L key = some v → v = didK l key) ∧ (allAt l out 0 (f.ts.take k) = true) ∧ fr_.tmps.size = 67 ∧ fr_.defers = [] ∧ sl fr_ 0 = .agg #[I f.rows, I f.wd, I f.lo, I f.hi, .slice A f.ts.length c] ∧ sl fr_ 1 = ansV l ∧ sl fr_ 2 = .slice B out.length d ∧ sl fr_ 3 = pt b1 0 ∧ sl fr_ 4 = pt b2 0 ∧ sl fr_ 7 = .map (some r3) ∧ sl fr_ 13 = .map (some r3) ∧ sl fr_ 14 = pt b1 4 ∧ sl fr_ 15 = .slice A f.ts.length c ∧ sl fr_ 16 = I ((f.ts.length : Nat) : Int) ∧ sl fr_ 17 = I ((k : Nat) : Int) ∧ Below w.heap.size w w_ ∧ Rd w_ 0 w.heap.size A (flat encT f.ts) ∧ Rd w_ 0 w.heap.size B (ivs out) ∧ Bk w_ b1 36 #[I f.rows, I f.wd, I f.lo, I f.hi, .slice A f.ts.length c] ∧ Bk w_ b2 105 ((ivs l).toArray) ∧ MapF w_ r3 3 L) (f.ts.length - 0) ?init4 ?round4
  case init4 =>
    intro st
    exact ⟨0, [], rfl, by omega, by simp [mget], rfl, (puts_size _ _).trans st.sz, (puts_defers _ _).trans st.df, (sl_puts st 0).trans hp0, (sl_puts st 1).trans hp1, (sl_puts st 2).trans hp2, (sl_puts st 3).trans rfl, (sl_puts st 4).trans rfl, (sl_puts st 7).trans rfl, (sl_puts st 13).trans rfl, (sl_puts st 14).trans rfl, (sl_puts st 15).trans rfl, (sl_puts st 16).trans rfl, (sl_puts st 17).trans (vint (by omega)), hB_w3, hT_w3, hO_w3, bk1_w3, bk2_w3, nb3.mp⟩
  case round4 =>
    rintro m_ fr4 w4 ⟨k, L, rfl, hk, hL, ha, hsz4, hdf4, hs4_0, hs4_1, hs4_2, hs4_3, hs4_4, hs4_7, hs4_13, hs4_14, hs4_15, hs4_16, hs4_17, hB_w4, hT_w4, hO_w4, bk1_w4, bk2_w4, mpr3_w4⟩
    refine round_cc (N := 67) hsz4 hdf4 <| cc_seq <| cc_region <| wd rfl (fun st => x_lss (ee st hs4_17) (ee st hs4_16)) <| wl_end <| lv_next <| cc_seq ?_
    rcases bool_cases (decide (((k : Nat) : Int) < ((f.ts.length : Nat) : Int))) with hc5 | hc5
    · refine cc_cond_t rfl hc5 ?_
      have hc5p := hc5
      have hc5p := of_decide_eq_true hc5p
      refine cc_skip <| lv_next <| cc_seq <| cc_block <| cc_seq <| cc_region <| wm rfl (v := I ((k : Nat) : Int)) hs4_17 ?_
      obtain ⟨bq6, oq6, hA6, -, -, -⟩ := Rd.elem encT_len (by decide) hT_w4 (k := k) (by omega)
      obtain ⟨x7, hx7⟩ : ∃ x, (f.ts)[k]? = some x := ⟨_, List.getElem?_eq_getElem (by omega)⟩
      refine wd rfl (fun st => x_indexAddrN (k := k) Try.underlying34 sz_95 (ee st hs4_15) hA6 (ee st hs4_17) rfl (by omega)) <| wd rfl (fun st => x_load_rdn (l := [I x7.who, I x7.fr, I x7.to, I x7.lo, I x7.hi]) agg_95 (ee st rfl) (hT_w4.cells hA6) (flat_at encT 5 encT_len f.ts k _ hx7) rfl) <| we rfl (fun st => x_alloc (cs := #[I 0, I 0, I 0, I 0, I 0]) zero_95 rfl) ?_
      rintro _ w8 ⟨b8, rfl, nb8⟩
      have lo8 : w.heap.size ≤ b8 := by rw [nb8.b_eq]; exact hB_w4.size
      have ltb1_8 : b1 < b8 := by rw [nb8.b_eq]; exact bk1_w4.lt
      have ltb2_8 : b2 < b8 := by rw [nb8.b_eq]; exact bk2_w4.lt
      have ltr3_8 : r3 < b8 := by rw [nb8.b_eq]; exact mpr3_w4.lt
      refine wa rfl (v := I ((k : Nat) : Int)) rfl <| wl_ex0 rfl rfl (fun st => x_store (n := 5) (l := [I x7.who, I x7.fr, I x7.to, I x7.lo, I x7.hi]) (cs' := #[I x7.who, I x7.fr, I x7.to, I x7.lo, I x7.hi]) (ee st rfl) (ee st rfl) sz_95 nb8.bk rfl rfl (show 0 + 5 ≤ 5 by decide) (one_cells rfl) rfl) ?_
      rintro _ w9 sb9
      refine wl_end <| lv_next <| cc_seq <| cc_region <| wd rfl (fun st => x_fieldAddr (ee st rfl) (fz_95_0 _ _)) <| wd rfl (fun st => x_load1 (v := I x7.who) one_3 (ee st rfl) sb9.bk rfl) <| wd rfl (fun st => x_fieldAddr (ee st rfl) (fz_95_1 _ _)) <| wd rfl (fun st => x_load1 (v := I x7.fr) one_3 (ee st rfl) sb9.bk rfl) <| wd rfl (fun st => x_fieldAddr (ee st rfl) (fz_95_2 _ _)) <| wd rfl (fun st => x_load1 (v := I x7.to) one_3 (ee st rfl) sb9.bk rfl) <| wd rfl (fun st => x_build (vs := #[(0, I x7.who), (1, I x7.fr), (2, I x7.to)]) (v := .agg #[I x7.who, I x7.fr, I x7.to]) (pm3 (ee st rfl) (ee st rfl) (ee st rfl)) (by kernel_rfl)) <| we rfl (fun st => x_alloc (cs := #[I 0, I 0, I 0]) zero_145 rfl) ?_
      rintro _ w11 ⟨b11, rfl, nb11⟩
      have hB_w9 := (bl_upd (bl_ext hB_w4 nb8.gr) sb9.gr (by omega))
      have lo11 : w.heap.size ≤ b11 := by rw [nb11.b_eq]; exact hB_w9.size
      have bk1_w9 := ((bk1_w4.ext nb8.gr).upd sb9.gr (by omega))
      have ltb1_11 : b1 < b11 := by rw [nb11.b_eq]; exact bk1_w9.lt
      have bk2_w9 := ((bk2_w4.ext nb8.gr).upd sb9.gr (by omega))
      have ltb2_11 : b2 < b11 := by rw [nb11.b_eq]; exact bk2_w9.lt
      have mpr3_w9 := ((mpr3_w4.ext nb8.gr).upd sb9.gr (by omega))
      have ltr3_11 : r3 < b11 := by rw [nb11.b_eq]; exact mpr3_w9.lt
      have ltb8_11 : b8 < b11 := by rw [nb11.b_eq]; exact sb9.bk.lt
      refine wl_ex0 rfl rfl (fun st => x_store (n := 3) (l := [I x7.who, I x7.fr, I x7.to]) (cs' := #[I x7.who, I x7.fr, I x7.to]) (ee st rfl) (ee st rfl) sz_145 nb11.bk rfl rfl (show 0 + 3 ≤ 3 by decide) (one_cells rfl) rfl) ?_
      rintro _ w12 sb12
      refine wl_end ?_
      obtain ⟨hb1, hb2, hb3⟩ := talOk_bd (hok x7 (List.mem_of_getElem? hx7))
      refine lv_next <| cc_seq <| cc_seq <| cc_region <| wm rfl (v := .map (some r3)) hs4_7 <| wd rfl (fun st => x_loadn (l := [I x7.who, I x7.fr, I x7.to]) agg_145 (ee st rfl) sb12.bk rfl rfl) ?_
      have mpr3_w12 := ((mpr3_w9.ext nb11.gr).upd sb12.gr (by omega))
      refine wd rfl (fun st => x_lookup_ok (k := [x7.who, x7.fr, x7.to]) Try.underlying143 zero_3 keq_145 kchk_145 kwide_145 (ee st rfl) (ee st rfl) rfl mpr3_w12) <| wm rfl (v := .tuple #[I ((mget L [x7.who, x7.fr, x7.to]).getD 0), .bool ((mget L [x7.who, x7.fr, x7.to]).isSome)]) rfl <| wd rfl (fun st => x_extract (v := I ((mget L [x7.who, x7.fr, x7.to]).getD 0)) (ee st rfl) rfl) <| wd rfl (fun st => x_extract (v := .bool ((mget L [x7.who, x7.fr, x7.to]).isSome)) (ee st rfl) rfl) <| wa rfl (v := I ((mget L [x7.who, x7.fr, x7.to]).getD 0)) rfl <| wa rfl (v := .bool ((mget L [x7.who, x7.fr, x7.to]).isSome)) rfl <| wl_end <| lv_next <| cc_seq <| cc_region <| wm rfl (v := .bool ((mget L [x7.who, x7.fr, x7.to]).isSome)) rfl <| wd rfl (fun st => x_not (ee st rfl)) <| wl_end <| lv_next ?_
      rcases bool_cases (!((mget L [x7.who, x7.fr, x7.to]).isSome)) with hc13 | hc13
      · refine cc_cond_t rfl hc13 ?_
        have hc13p := hc13
        have hc13p := not_t hc13p
        have hc13_14 : ((mget L [x7.who, x7.fr, x7.to]).isSome) = false := by simpa using hc13
        have bk2_w12 := ((bk2_w9.ext nb11.gr).upd sb12.gr (by omega))
        have bk8_w12 := ((sb9.bk.ext nb11.gr).upd sb12.gr (by omega))
        refine cc_any (fun _ _ => True) (T2 w12 r3 (fun w_ => MapF w_ r3 3 (mput L [x7.who, x7.fr, x7.to] ((cnt x7.who ((l.drop x7.fr.toNat).take ((x7.to + 1).toNat - x7.fr.toNat)) : Nat) : Int)))) [10] [Kc (.map (some r3)), Kc (.agg #[I x7.who, I x7.fr, I x7.to]), Kc (ansV l), Kc (pt b8 0), Kc (I x7.who), Kc (pt b8 1), Kc (I x7.fr), Kc (pt b8 2), Kc (I x7.to), Kc (I ((cnt x7.who ((l.drop x7.fr.toNat).take ((x7.to + 1).toNat - x7.fr.toNat)) : Nat) : Int)), Kt] mixed rfl (fun _ _ _ => trivial) (T2_ext (fun _ _ h g => h.ext g)) (ext_drew w12)
            (obs_cons (ob_det rfl rfl (fun _ => rfl) (fun a' w' ph K => x_move (v := .map (some r3)) (es (t := 7) (v := .map (some r3)) ((K.out 7 rfl).trans hs4_7))))
            (obs_cons (ob_det rfl rfl (fun _ => rfl) (fun a' w' ph K => x_loadn (l := [I x7.who, I x7.fr, I x7.to]) agg_145 (es (t := 10) (v := pt b11 0) ((K.out 10 rfl).trans rfl)) (sb12.bk.t2 K.phT (by omega)) rfl rfl))
            (obs_cons (ob_det rfl rfl (fun _ => rfl) (fun a' w' ph K => x_load_all agg_105 (es (t := 4) (v := pt b2 0) ((K.out 4 rfl).trans hs4_4)) (bk2_w12.t2 K.phT (by omega)) (by simp [ivs, HL])))
            (obs_cons (ob_det rfl rfl (fun _ => rfl) (fun a' w' ph K => x_fieldAddr (es (t := 9) (v := pt b8 0) ((K.out 9 rfl).trans rfl)) (fz_95_0 _ _)))
            (obs_cons (ob_det rfl rfl (fun _ => rfl) (fun a' w' ph K => x_load1 (v := I x7.who) one_3 (es (t := 40) (v := pt b8 0) (K.dep 3 40 rfl rfl)) (bk8_w12.t2 K.phT (by omega)) rfl))
            (obs_cons (ob_det rfl rfl (fun _ => rfl) (fun a' w' ph K => x_fieldAddr (es (t := 9) (v := pt b8 0) ((K.out 9 rfl).trans rfl)) (fz_95_1 _ _)))
            (obs_cons (ob_det rfl rfl (fun _ => rfl) (fun a' w' ph K => x_load1 (v := I x7.fr) one_3 (es (t := 42) (v := pt b8 1) (K.dep 5 42 rfl rfl)) (bk8_w12.t2 K.phT (by omega)) rfl))
            (obs_cons (ob_det rfl rfl (fun _ => rfl) (fun a' w' ph K => x_fieldAddr (es (t := 9) (v := pt b8 0) ((K.out 9 rfl).trans rfl)) (fz_95_2 _ _)))
            (obs_cons (ob_det rfl rfl (fun _ => rfl) (fun a' w' ph K => x_load1 (v := I x7.to) one_3 (es (t := 44) (v := pt b8 2) (K.dep 7 44 rfl rfl)) (bk8_w12.t2 K.phT (by omega)) rfl))
            (obs_cons (ob_ext rfl rfl (fun a' w' ph K => (x_call0 own_100 rfl (am4 (es (t := 39) (v := ansV l) (K.dep 2 39 rfl rfl)) (es (t := 41) (v := I x7.who) (K.dep 4 41 rfl rfl)) (es (t := 43) (v := I x7.fr) (K.dep 6 43 rfl rfl)) (es (t := 45) (v := I x7.to) (K.dep 8 45 rfl rfl))) (c100 l x7.who x7.fr x7.to _ HL (by omega) (by omega) (by omega) (by omega))).mono (fun _ _ h => h)))
            (obs_cons (ob_spec rfl rfl (fun a' w' ph K => (x_mapUpdate (k := [x7.who, x7.fr, x7.to]) Try.underlying143 keq_145 kchk_145 kwide_145 (es (t := 37) (v := .map (some r3)) (K.dep 0 37 rfl rfl)) (es (t := 38) (v := .agg #[I x7.who, I x7.fr, I x7.to]) (K.dep 1 38 rfl rfl)) (es (t := 46) (v := I ((cnt x7.who ((l.drop x7.fr.toNat).take ((x7.to + 1).toNat - x7.fr.toNat)) : Nat) : Int)) (K.dep 9 46 rfl rfl)) rfl (mpr3_w12.ext (T2_zero K.phT (K.spi 0 rfl)))).mono (fun _ _ h => ⟨trivial, trivial, T2_up K.phT (K.spi 0 rfl) h.gr h.mp⟩)))
            (obs_nil _)))))))))))) ?_
        rintro w15 ⟨hx15, hm15⟩
        rintro _ rfl _ rfl _ rfl _ rfl _ rfl _ rfl _ rfl _ rfl _ rfl _ rfl
        refine lv_next <| cc_seq ?_
        have hmg : mget (mput L [x7.who, x7.fr, x7.to] (didK l [x7.who, x7.fr, x7.to])) [x7.who, x7.fr, x7.to] = some (didK l [x7.who, x7.fr, x7.to]) := by rw [mget_mput, if_pos rfl]
        have hL2 : ∀ key v, mget (mput L [x7.who, x7.fr, x7.to] (didK l [x7.who, x7.fr, x7.to])) key = some v → v = didK l key := by
          intro key v h
          rw [mget_mput] at h
          split at h
          · rename_i e; rw [e]; exact (Option.some.inj h).symm
          · exact hL key v h
        have hmp2 : MapF w15 r3 3 (mput L [x7.who, x7.fr, x7.to] (didK l [x7.who, x7.fr, x7.to])) := hm15
        rcases bool_cases (out.contains ((k : Nat) : Int)) with hk17 | hk17
        · skip
          have hO_w15 := (((((hO_w4.ext nb8.gr).upd sb9.gr (by omega)).ext nb11.gr).upd sb12.gr (by omega)).upd hx15 (by omega))
          refine cc_any0 [Kc (.slice B out.length d), Kc (I ((k : Nat) : Int)), Kc (.bool (out.contains ((k : Nat) : Int))), Kc (.bool (!(out.contains ((k : Nat) : Int)))), Kc (.bool (!(out.contains ((k : Nat) : Int)))), Kc undef, Kc undef, Kc undef, Kc undef, Kc undef, Kc undef, Kc undef, Kc (.bool false)] mixed rfl
              (obs_cons (ob_det rfl rfl (fun _ => rfl) (fun a' w' ph K => x_move (v := .slice B out.length d) (es (t := 2) (v := .slice B out.length d) ((K.out 2 rfl).trans hs4_2))))
              (obs_cons (ob_det rfl rfl (fun _ => rfl) (fun a' w' ph K => x_move (v := I ((k : Nat) : Int)) (es (t := 8) (v := I ((k : Nat) : Int)) ((K.out 8 rfl).trans rfl))))
              (obs_cons (ob_ext rfl rfl (fun a' w' ph K => (x_call0 own_114 rfl (am2 (es (t := 47) (v := .slice B out.length d) (K.dep 0 47 rfl rfl)) (es (t := 48) (v := I ((k : Nat) : Int)) (K.dep 1 48 rfl rfl))) (c114 out B d ((k : Nat) : Int) _ (by omega) (hO_w15.ext K.phT).wide)).mono (fun _ _ h => ⟨h.1, by rw [h.2]; exact Ext.refl _⟩)))
              (obs_cons (ob_det rfl rfl (fun _ => rfl) (fun a' w' ph K => x_not (es (t := 49) (v := .bool (out.contains ((k : Nat) : Int))) (K.dep 2 49 rfl rfl))))
              (obs_cons (ob_det rfl rfl (fun _ => rfl) (fun a' w' ph K => x_move (v := .bool (!(out.contains ((k : Nat) : Int)))) (es (t := 50) (v := .bool (!(out.contains ((k : Nat) : Int)))) (K.dep 3 50 rfl rfl))))
              (obs_cons (ob_skip (c := false) rfl rfl rfl (by decide) (fun a' w' ph K => (guard_eq (show sl a' 51 = .bool (!(out.contains ((k : Nat) : Int))) from K.dep 4 51 rfl rfl) (bn_f hk17))) (fun _ => rfl))
              (obs_cons (ob_skip (c := false) rfl rfl rfl (by decide) (fun a' w' ph K => (guard_eq (show sl a' 51 = .bool (!(out.contains ((k : Nat) : Int))) from K.dep 4 51 rfl rfl) (bn_f hk17))) (fun _ => rfl))
              (obs_cons (ob_skip (c := false) rfl rfl rfl (by decide) (fun a' w' ph K => (guard_eq (show sl a' 51 = .bool (!(out.contains ((k : Nat) : Int))) from K.dep 4 51 rfl rfl) (bn_f hk17))) (fun _ => rfl))
              (obs_cons (ob_skip (c := false) rfl rfl rfl (by decide) (fun a' w' ph K => (guard_eq (show sl a' 51 = .bool (!(out.contains ((k : Nat) : Int))) from K.dep 4 51 rfl rfl) (bn_f hk17))) (fun _ => rfl))
              (obs_cons (ob_skip (c := false) rfl rfl rfl (by decide) (fun a' w' ph K => (guard_eq (show sl a' 51 = .bool (!(out.contains ((k : Nat) : Int))) from K.dep 4 51 rfl rfl) (bn_f hk17))) (fun _ => rfl))
              (obs_cons (ob_skip (c := false) rfl rfl rfl (by decide) (fun a' w' ph K => (guard_eq (show sl a' 51 = .bool (!(out.contains ((k : Nat) : Int))) from K.dep 4 51 rfl rfl) (bn_f hk17))) (fun _ => rfl))
              (obs_cons (ob_skip (c := false) rfl rfl rfl (by decide) (fun a' w' ph K => (guard_eq (show sl a' 51 = .bool (!(out.contains ((k : Nat) : Int))) from K.dep 4 51 rfl rfl) (bn_f hk17))) (fun _ => rfl))
              (obs_cons (ob_det rfl rfl (fun _ => rfl) (fun a' w' ph K => x_pick_f (v := .bool false) (es (t := 51) (v := .bool (!(out.contains ((k : Nat) : Int)))) (K.dep 4 51 rfl rfl)) (bn_f hk17) (ec (v := .bool false))))
              (obs_nil _)))))))))))))) ?_
          intro w18 hx18
          rintro _ rfl _ rfl _ rfl _ rfl _ rfl _ rfl _ rfl _ rfl _ rfl _ rfl _ rfl _ rfl _ rfl
          refine lv_next <| cc_cond_f rfl rfl <| cc_skip <| lv_block <| lv_next <| cc_region <| wd rfl (fun st => x_add (ee st hs4_17) (ee st rfl) ⟨by omega, by omega⟩) <| wm rfl (v := I (((k : Nat) : Int) + 1)) rfl <| wl_end ?_
          have hB_w18 := (bl_ext (bl_upd (bl_upd (bl_ext hB_w9 nb11.gr) sb12.gr (by omega)) hx15 (by omega)) hx18)
          have hT_w18 := ((((((hT_w4.ext nb8.gr).upd sb9.gr (by omega)).ext nb11.gr).upd sb12.gr (by omega)).upd hx15 (by omega)).ext hx18)
          have hO_w18 := (hO_w15.ext hx18)
          have bk1_w18 := ((((bk1_w9.ext nb11.gr).upd sb12.gr (by omega)).upd hx15 (by omega)).ext hx18)
          have bk2_w18 := ((bk2_w12.upd hx15 (by omega)).ext hx18)
          have mpr3_w18 := (hmp2.ext hx18)
          refine lv_round (f.ts.length - (k + 1)) (by omega) (fun st => ?_)
          exact ⟨(k + 1), (mput L [x7.who, x7.fr, x7.to] (didK l [x7.who, x7.fr, x7.to])), rfl, by omega, hL2, by rw [allAt_take l out f.ts 0 k x7 hx7, ha, Nat.zero_add, okAt_l hk17]; rfl, (puts_size _ _).trans st.sz, (puts_defers _ _).trans st.df, (sl_puts st 0).trans hs4_0, (sl_puts st 1).trans hs4_1, (sl_puts st 2).trans hs4_2, (sl_puts st 3).trans hs4_3, (sl_puts st 4).trans hs4_4, (sl_puts st 7).trans hs4_7, (sl_puts st 13).trans hs4_13, (sl_puts st 14).trans hs4_14, (sl_puts st 15).trans hs4_15, (sl_puts st 16).trans hs4_16, (sl_puts st 17).trans (vint (by omega)), hB_w18, hT_w18, hO_w18, bk1_w18, bk2_w18, mpr3_w18⟩
        · skip
          have hO_w15 := (((((hO_w4.ext nb8.gr).upd sb9.gr (by omega)).ext nb11.gr).upd sb12.gr (by omega)).upd hx15 (by omega))
          have bk8_w15 := (bk8_w12.upd hx15 (by omega))
          have bk11_w15 := (sb12.bk.upd hx15 (by omega))
          refine cc_any0 [Kc (.slice B out.length d), Kc (I ((k : Nat) : Int)), Kc (.bool (out.contains ((k : Nat) : Int))), Kc (.bool (!(out.contains ((k : Nat) : Int)))), Kc (.bool (!(out.contains ((k : Nat) : Int)))), Kc (pt b8 3), Kc (.agg #[I x7.lo, I x7.hi]), Kc (.map (some r3)), Kc (.agg #[I x7.who, I x7.fr, I x7.to]), Kc (I ((mget (mput L [x7.who, x7.fr, x7.to] (didK l [x7.who, x7.fr, x7.to])) [x7.who, x7.fr, x7.to]).getD 0)), Kc (.bool (inR ((mget (mput L [x7.who, x7.fr, x7.to] (didK l [x7.who, x7.fr, x7.to])) [x7.who, x7.fr, x7.to]).getD 0) x7.lo x7.hi)), Kc (.bool (!(inR ((mget (mput L [x7.who, x7.fr, x7.to] (didK l [x7.who, x7.fr, x7.to])) [x7.who, x7.fr, x7.to]).getD 0) x7.lo x7.hi))), Kc (.bool (!(inR ((mget (mput L [x7.who, x7.fr, x7.to] (didK l [x7.who, x7.fr, x7.to])) [x7.who, x7.fr, x7.to]).getD 0) x7.lo x7.hi)))] mixed rfl
              (obs_cons (ob_det rfl rfl (fun _ => rfl) (fun a' w' ph K => x_move (v := .slice B out.length d) (es (t := 2) (v := .slice B out.length d) ((K.out 2 rfl).trans hs4_2))))
              (obs_cons (ob_det rfl rfl (fun _ => rfl) (fun a' w' ph K => x_move (v := I ((k : Nat) : Int)) (es (t := 8) (v := I ((k : Nat) : Int)) ((K.out 8 rfl).trans rfl))))
              (obs_cons (ob_ext rfl rfl (fun a' w' ph K => (x_call0 own_114 rfl (am2 (es (t := 47) (v := .slice B out.length d) (K.dep 0 47 rfl rfl)) (es (t := 48) (v := I ((k : Nat) : Int)) (K.dep 1 48 rfl rfl))) (c114 out B d ((k : Nat) : Int) _ (by omega) (hO_w15.ext K.phT).wide)).mono (fun _ _ h => ⟨h.1, by rw [h.2]; exact Ext.refl _⟩)))
              (obs_cons (ob_det rfl rfl (fun _ => rfl) (fun a' w' ph K => x_not (es (t := 49) (v := .bool (out.contains ((k : Nat) : Int))) (K.dep 2 49 rfl rfl))))
              (obs_cons (ob_det rfl rfl (fun _ => rfl) (fun a' w' ph K => x_move (v := .bool (!(out.contains ((k : Nat) : Int)))) (es (t := 50) (v := .bool (!(out.contains ((k : Nat) : Int)))) (K.dep 3 50 rfl rfl))))
              (obs_cons (ob_detg rfl rfl rfl (fun _ => rfl) (fun a' w' ph K => (guard_eq (show sl a' 51 = .bool (!(out.contains ((k : Nat) : Int))) from K.dep 4 51 rfl rfl) (bn_t hk17))) (fun a' w' ph K => x_fieldAddr (es (t := 9) (v := pt b8 0) ((K.out 9 rfl).trans rfl)) (fz_95_3 _ _)))
              (obs_cons (ob_detg rfl rfl rfl (fun _ => rfl) (fun a' w' ph K => (guard_eq (show sl a' 51 = .bool (!(out.contains ((k : Nat) : Int))) from K.dep 4 51 rfl rfl) (bn_t hk17))) (fun a' w' ph K => x_loadn (l := [I x7.lo, I x7.hi]) agg_33 (es (t := 52) (v := pt b8 3) (K.dep 5 52 rfl rfl)) (bk8_w15.ext K.phT) rfl rfl))
              (obs_cons (ob_detg rfl rfl rfl (fun _ => rfl) (fun a' w' ph K => (guard_eq (show sl a' 51 = .bool (!(out.contains ((k : Nat) : Int))) from K.dep 4 51 rfl rfl) (bn_t hk17))) (fun a' w' ph K => x_move (v := .map (some r3)) (es (t := 7) (v := .map (some r3)) ((K.out 7 rfl).trans hs4_7))))
              (obs_cons (ob_detg rfl rfl rfl (fun _ => rfl) (fun a' w' ph K => (guard_eq (show sl a' 51 = .bool (!(out.contains ((k : Nat) : Int))) from K.dep 4 51 rfl rfl) (bn_t hk17))) (fun a' w' ph K => x_loadn (l := [I x7.who, I x7.fr, I x7.to]) agg_145 (es (t := 10) (v := pt b11 0) ((K.out 10 rfl).trans rfl)) (bk11_w15.ext K.phT) rfl rfl))
              (obs_cons (ob_detg rfl rfl rfl (fun _ => rfl) (fun a' w' ph K => (guard_eq (show sl a' 51 = .bool (!(out.contains ((k : Nat) : Int))) from K.dep 4 51 rfl rfl) (bn_t hk17))) (fun a' w' ph K => x_lookup (k := [x7.who, x7.fr, x7.to]) Try.underlying143 zero_3 keq_145 kchk_145 kwide_145 (es (t := 54) (v := .map (some r3)) (K.dep 7 54 rfl rfl)) (es (t := 55) (v := .agg #[I x7.who, I x7.fr, I x7.to]) (K.dep 8 55 rfl rfl)) rfl (hmp2.ext K.phT)))
              (obs_cons (ob_extg rfl rfl rfl (fun a' w' ph K => (guard_eq (show sl a' 51 = .bool (!(out.contains ((k : Nat) : Int))) from K.dep 4 51 rfl rfl) (bn_t hk17))) (fun a' w' ph K => (x_call0 own_115 rfl (am2 (es (t := 53) (v := .agg #[I x7.lo, I x7.hi]) (K.dep 6 53 rfl rfl)) (es (t := 56) (v := I ((mget (mput L [x7.who, x7.fr, x7.to] (didK l [x7.who, x7.fr, x7.to])) [x7.who, x7.fr, x7.to]).getD 0)) (K.dep 9 56 rfl rfl))) (c115 ((mget (mput L [x7.who, x7.fr, x7.to] (didK l [x7.who, x7.fr, x7.to])) [x7.who, x7.fr, x7.to]).getD 0) x7.lo x7.hi _)).mono (fun _ _ h => h)))
              (obs_cons (ob_detg rfl rfl rfl (fun _ => rfl) (fun a' w' ph K => (guard_eq (show sl a' 51 = .bool (!(out.contains ((k : Nat) : Int))) from K.dep 4 51 rfl rfl) (bn_t hk17))) (fun a' w' ph K => x_not (es (t := 57) (v := .bool (inR ((mget (mput L [x7.who, x7.fr, x7.to] (didK l [x7.who, x7.fr, x7.to])) [x7.who, x7.fr, x7.to]).getD 0) x7.lo x7.hi)) (K.dep 10 57 rfl rfl))))
              (obs_cons (ob_det rfl rfl (fun _ => rfl) (fun a' w' ph K => x_pick_t (v := .bool (!(inR ((mget (mput L [x7.who, x7.fr, x7.to] (didK l [x7.who, x7.fr, x7.to])) [x7.who, x7.fr, x7.to]).getD 0) x7.lo x7.hi))) (es (t := 51) (v := .bool (!(out.contains ((k : Nat) : Int)))) (K.dep 4 51 rfl rfl)) (bn_t hk17) (es (t := 58) (v := .bool (!(inR ((mget (mput L [x7.who, x7.fr, x7.to] (didK l [x7.who, x7.fr, x7.to])) [x7.who, x7.fr, x7.to]).getD 0) x7.lo x7.hi))) (K.dep 11 58 rfl rfl))))
              (obs_nil _)))))))))))))) ?_
          intro w19 hx19
          rintro _ rfl _ rfl _ rfl _ rfl _ rfl _ rfl _ rfl _ rfl _ rfl _ rfl _ rfl _ rfl _ rfl
          refine lv_next ?_
          rcases bool_cases (!(inR ((mget (mput L [x7.who, x7.fr, x7.to] (didK l [x7.who, x7.fr, x7.to])) [x7.who, x7.fr, x7.to]).getD 0) x7.lo x7.hi)) with hc20 | hc20
          · refine cc_cond_t rfl hc20 ?_
            have hc20p := hc20
            have hc20p := not_t hc20p
            have hc20_21 : (inR ((mget (mput L [x7.who, x7.fr, x7.to] (didK l [x7.who, x7.fr, x7.to])) [x7.who, x7.fr, x7.to]).getD 0) x7.lo x7.hi) = false := by simpa using hc20
            refine cc_seq <| cc_region <| wa rfl (v := .bool false) rfl <| wl_end <| lv_next <| cc_ret <| lv_block_ret <| lv_then_ret <| lv_then_ret <| lv_block_ret <| lv_then_ret <| lv_ret1 rfl rfl ?_
            have hB_w19 := (bl_ext (bl_upd (bl_upd (bl_ext hB_w9 nb11.gr) sb12.gr (by omega)) hx15 (by omega)) hx19)
            exact ⟨vbool (by rw [rightB, allAt_false l out f.ts k x7 hx7 (okAt_f hk17 (by have h := hc20_21; rw [hmg] at h; exact h))]; rfl), ext_of_below hB_w19⟩
          · refine cc_cond_f rfl hc20 ?_
            have hc20p := hc20
            have hc20p := not_f hc20p
            have hc20_22 : (inR ((mget (mput L [x7.who, x7.fr, x7.to] (didK l [x7.who, x7.fr, x7.to])) [x7.who, x7.fr, x7.to]).getD 0) x7.lo x7.hi) = true := by simpa using hc20
            refine cc_skip <| lv_block <| lv_next <| cc_region <| wd rfl (fun st => x_add (ee st hs4_17) (ee st rfl) ⟨by omega, by omega⟩) <| wm rfl (v := I (((k : Nat) : Int) + 1)) rfl <| wl_end ?_
            have hB_w19 := (bl_ext (bl_upd (bl_upd (bl_ext hB_w9 nb11.gr) sb12.gr (by omega)) hx15 (by omega)) hx19)
            have hT_w19 := ((((((hT_w4.ext nb8.gr).upd sb9.gr (by omega)).ext nb11.gr).upd sb12.gr (by omega)).upd hx15 (by omega)).ext hx19)
            have hO_w19 := (hO_w15.ext hx19)
            have bk1_w19 := ((((bk1_w9.ext nb11.gr).upd sb12.gr (by omega)).upd hx15 (by omega)).ext hx19)
            have bk2_w19 := ((bk2_w12.upd hx15 (by omega)).ext hx19)
            have mpr3_w19 := (hmp2.ext hx19)
            refine lv_round (f.ts.length - (k + 1)) (by omega) (fun st => ?_)
            exact ⟨(k + 1), (mput L [x7.who, x7.fr, x7.to] (didK l [x7.who, x7.fr, x7.to])), rfl, by omega, hL2, by rw [allAt_take l out f.ts 0 k x7 hx7, ha, Nat.zero_add, (okAt_r (by have h := hc20_22; rw [hmg] at h; exact h))]; rfl, (puts_size _ _).trans st.sz, (puts_defers _ _).trans st.df, (sl_puts st 0).trans hs4_0, (sl_puts st 1).trans hs4_1, (sl_puts st 2).trans hs4_2, (sl_puts st 3).trans hs4_3, (sl_puts st 4).trans hs4_4, (sl_puts st 7).trans hs4_7, (sl_puts st 13).trans hs4_13, (sl_puts st 14).trans hs4_14, (sl_puts st 15).trans hs4_15, (sl_puts st 16).trans hs4_16, (sl_puts st 17).trans (vint (by omega)), hB_w19, hT_w19, hO_w19, bk1_w19, bk2_w19, mpr3_w19⟩
      · refine cc_cond_f rfl hc13 ?_
        have hc13p := hc13
        have hc13p := not_f hc13p
        have hc13_23 : ((mget L [x7.who, x7.fr, x7.to]).isSome) = true := by simpa using hc13
        refine cc_skip <| lv_next <| cc_seq ?_
        have hmg : mget L [x7.who, x7.fr, x7.to] = some (didK l [x7.who, x7.fr, x7.to]) := by
          have h := hc13_23
          cases hg : mget L [x7.who, x7.fr, x7.to] with
          | none => rw [hg] at h; cases h
          | some v => rw [hL _ _ hg]
        rcases bool_cases (out.contains ((k : Nat) : Int)) with hk25 | hk25
        · skip
          have hO_w12 := ((((hO_w4.ext nb8.gr).upd sb9.gr (by omega)).ext nb11.gr).upd sb12.gr (by omega))
          refine cc_any0 [Kc (.slice B out.length d), Kc (I ((k : Nat) : Int)), Kc (.bool (out.contains ((k : Nat) : Int))), Kc (.bool (!(out.contains ((k : Nat) : Int)))), Kc (.bool (!(out.contains ((k : Nat) : Int)))), Kc undef, Kc undef, Kc undef, Kc undef, Kc undef, Kc undef, Kc undef, Kc (.bool false)] mixed rfl
              (obs_cons (ob_det rfl rfl (fun _ => rfl) (fun a' w' ph K => x_move (v := .slice B out.length d) (es (t := 2) (v := .slice B out.length d) ((K.out 2 rfl).trans hs4_2))))
              (obs_cons (ob_det rfl rfl (fun _ => rfl) (fun a' w' ph K => x_move (v := I ((k : Nat) : Int)) (es (t := 8) (v := I ((k : Nat) : Int)) ((K.out 8 rfl).trans rfl))))
              (obs_cons (ob_ext rfl rfl (fun a' w' ph K => (x_call0 own_114 rfl (am2 (es (t := 47) (v := .slice B out.length d) (K.dep 0 47 rfl rfl)) (es (t := 48) (v := I ((k : Nat) : Int)) (K.dep 1 48 rfl rfl))) (c114 out B d ((k : Nat) : Int) _ (by omega) (hO_w12.ext K.phT).wide)).mono (fun _ _ h => ⟨h.1, by rw [h.2]; exact Ext.refl _⟩)))
              (obs_cons (ob_det rfl rfl (fun _ => rfl) (fun a' w' ph K => x_not (es (t := 49) (v := .bool (out.contains ((k : Nat) : Int))) (K.dep 2 49 rfl rfl))))
              (obs_cons (ob_det rfl rfl (fun _ => rfl) (fun a' w' ph K => x_move (v := .bool (!(out.contains ((k : Nat) : Int)))) (es (t := 50) (v := .bool (!(out.contains ((k : Nat) : Int)))) (K.dep 3 50 rfl rfl))))
              (obs_cons (ob_skip (c := false) rfl rfl rfl (by decide) (fun a' w' ph K => (guard_eq (show sl a' 51 = .bool (!(out.contains ((k : Nat) : Int))) from K.dep 4 51 rfl rfl) (bn_f hk25))) (fun _ => rfl))
              (obs_cons (ob_skip (c := false) rfl rfl rfl (by decide) (fun a' w' ph K => (guard_eq (show sl a' 51 = .bool (!(out.contains ((k : Nat) : Int))) from K.dep 4 51 rfl rfl) (bn_f hk25))) (fun _ => rfl))
              (obs_cons (ob_skip (c := false) rfl rfl rfl (by decide) (fun a' w' ph K => (guard_eq (show sl a' 51 = .bool (!(out.contains ((k : Nat) : Int))) from K.dep 4 51 rfl rfl) (bn_f hk25))) (fun _ => rfl))
              (obs_cons (ob_skip (c := false) rfl rfl rfl (by decide) (fun a' w' ph K => (guard_eq (show sl a' 51 = .bool (!(out.contains ((k : Nat) : Int))) from K.dep 4 51 rfl rfl) (bn_f hk25))) (fun _ => rfl))
              (obs_cons (ob_skip (c := false) rfl rfl rfl (by decide) (fun a' w' ph K => (guard_eq (show sl a' 51 = .bool (!(out.contains ((k : Nat) : Int))) from K.dep 4 51 rfl rfl) (bn_f hk25))) (fun _ => rfl))
              (obs_cons (ob_skip (c := false) rfl rfl rfl (by decide) (fun a' w' ph K => (guard_eq (show sl a' 51 = .bool (!(out.contains ((k : Nat) : Int))) from K.dep 4 51 rfl rfl) (bn_f hk25))) (fun _ => rfl))
              (obs_cons (ob_skip (c := false) rfl rfl rfl (by decide) (fun a' w' ph K => (guard_eq (show sl a' 51 = .bool (!(out.contains ((k : Nat) : Int))) from K.dep 4 51 rfl rfl) (bn_f hk25))) (fun _ => rfl))
              (obs_cons (ob_det rfl rfl (fun _ => rfl) (fun a' w' ph K => x_pick_f (v := .bool false) (es (t := 51) (v := .bool (!(out.contains ((k : Nat) : Int)))) (K.dep 4 51 rfl rfl)) (bn_f hk25) (ec (v := .bool false))))
              (obs_nil _)))))))))))))) ?_
          intro w26 hx26
          rintro _ rfl _ rfl _ rfl _ rfl _ rfl _ rfl _ rfl _ rfl _ rfl _ rfl _ rfl _ rfl _ rfl
          refine lv_next <| cc_cond_f rfl rfl <| cc_skip <| lv_block <| lv_next <| cc_region <| wd rfl (fun st => x_add (ee st hs4_17) (ee st rfl) ⟨by omega, by omega⟩) <| wm rfl (v := I (((k : Nat) : Int) + 1)) rfl <| wl_end ?_
          have hB_w26 := (bl_ext (bl_upd (bl_ext hB_w9 nb11.gr) sb12.gr (by omega)) hx26)
          have hT_w26 := (((((hT_w4.ext nb8.gr).upd sb9.gr (by omega)).ext nb11.gr).upd sb12.gr (by omega)).ext hx26)
          have hO_w26 := (hO_w12.ext hx26)
          have bk1_w26 := (((bk1_w9.ext nb11.gr).upd sb12.gr (by omega)).ext hx26)
          have bk2_w26 := (((bk2_w9.ext nb11.gr).upd sb12.gr (by omega)).ext hx26)
          have mpr3_w26 := (mpr3_w12.ext hx26)
          refine lv_round (f.ts.length - (k + 1)) (by omega) (fun st => ?_)
          exact ⟨(k + 1), L, rfl, by omega, hL, by rw [allAt_take l out f.ts 0 k x7 hx7, ha, Nat.zero_add, okAt_l hk25]; rfl, (puts_size _ _).trans st.sz, (puts_defers _ _).trans st.df, (sl_puts st 0).trans hs4_0, (sl_puts st 1).trans hs4_1, (sl_puts st 2).trans hs4_2, (sl_puts st 3).trans hs4_3, (sl_puts st 4).trans hs4_4, (sl_puts st 7).trans hs4_7, (sl_puts st 13).trans hs4_13, (sl_puts st 14).trans hs4_14, (sl_puts st 15).trans hs4_15, (sl_puts st 16).trans hs4_16, (sl_puts st 17).trans (vint (by omega)), hB_w26, hT_w26, hO_w26, bk1_w26, bk2_w26, mpr3_w26⟩
        · skip
          have hO_w12 := ((((hO_w4.ext nb8.gr).upd sb9.gr (by omega)).ext nb11.gr).upd sb12.gr (by omega))
          have bk8_w12 := ((sb9.bk.ext nb11.gr).upd sb12.gr (by omega))
          refine cc_any0 [Kc (.slice B out.length d), Kc (I ((k : Nat) : Int)), Kc (.bool (out.contains ((k : Nat) : Int))), Kc (.bool (!(out.contains ((k : Nat) : Int)))), Kc (.bool (!(out.contains ((k : Nat) : Int)))), Kc (pt b8 3), Kc (.agg #[I x7.lo, I x7.hi]), Kc (.map (some r3)), Kc (.agg #[I x7.who, I x7.fr, I x7.to]), Kc (I ((mget L [x7.who, x7.fr, x7.to]).getD 0)), Kc (.bool (inR ((mget L [x7.who, x7.fr, x7.to]).getD 0) x7.lo x7.hi)), Kc (.bool (!(inR ((mget L [x7.who, x7.fr, x7.to]).getD 0) x7.lo x7.hi))), Kc (.bool (!(inR ((mget L [x7.who, x7.fr, x7.to]).getD 0) x7.lo x7.hi)))] mixed rfl
              (obs_cons (ob_det rfl rfl (fun _ => rfl) (fun a' w' ph K => x_move (v := .slice B out.length d) (es (t := 2) (v := .slice B out.length d) ((K.out 2 rfl).trans hs4_2))))
              (obs_cons (ob_det rfl rfl (fun _ => rfl) (fun a' w' ph K => x_move (v := I ((k : Nat) : Int)) (es (t := 8) (v := I ((k : Nat) : Int)) ((K.out 8 rfl).trans rfl))))
              (obs_cons (ob_ext rfl rfl (fun a' w' ph K => (x_call0 own_114 rfl (am2 (es (t := 47) (v := .slice B out.length d) (K.dep 0 47 rfl rfl)) (es (t := 48) (v := I ((k : Nat) : Int)) (K.dep 1 48 rfl rfl))) (c114 out B d ((k : Nat) : Int) _ (by omega) (hO_w12.ext K.phT).wide)).mono (fun _ _ h => ⟨h.1, by rw [h.2]; exact Ext.refl _⟩)))
              (obs_cons (ob_det rfl rfl (fun _ => rfl) (fun a' w' ph K => x_not (es (t := 49) (v := .bool (out.contains ((k : Nat) : Int))) (K.dep 2 49 rfl rfl))))
              (obs_cons (ob_det rfl rfl (fun _ => rfl) (fun a' w' ph K => x_move (v := .bool (!(out.contains ((k : Nat) : Int)))) (es (t := 50) (v := .bool (!(out.contains ((k : Nat) : Int)))) (K.dep 3 50 rfl rfl))))
              (obs_cons (ob_detg rfl rfl rfl (fun _ => rfl) (fun a' w' ph K => (guard_eq (show sl a' 51 = .bool (!(out.contains ((k : Nat) : Int))) from K.dep 4 51 rfl rfl) (bn_t hk25))) (fun a' w' ph K => x_fieldAddr (es (t := 9) (v := pt b8 0) ((K.out 9 rfl).trans rfl)) (fz_95_3 _ _)))
              (obs_cons (ob_detg rfl rfl rfl (fun _ => rfl) (fun a' w' ph K => (guard_eq (show sl a' 51 = .bool (!(out.contains ((k : Nat) : Int))) from K.dep 4 51 rfl rfl) (bn_t hk25))) (fun a' w' ph K => x_loadn (l := [I x7.lo, I x7.hi]) agg_33 (es (t := 52) (v := pt b8 3) (K.dep 5 52 rfl rfl)) (bk8_w12.ext K.phT) rfl rfl))
              (obs_cons (ob_detg rfl rfl rfl (fun _ => rfl) (fun a' w' ph K => (guard_eq (show sl a' 51 = .bool (!(out.contains ((k : Nat) : Int))) from K.dep 4 51 rfl rfl) (bn_t hk25))) (fun a' w' ph K => x_move (v := .map (some r3)) (es (t := 7) (v := .map (some r3)) ((K.out 7 rfl).trans hs4_7))))
              (obs_cons (ob_detg rfl rfl rfl (fun _ => rfl) (fun a' w' ph K => (guard_eq (show sl a' 51 = .bool (!(out.contains ((k : Nat) : Int))) from K.dep 4 51 rfl rfl) (bn_t hk25))) (fun a' w' ph K => x_loadn (l := [I x7.who, I x7.fr, I x7.to]) agg_145 (es (t := 10) (v := pt b11 0) ((K.out 10 rfl).trans rfl)) (sb12.bk.ext K.phT) rfl rfl))
              (obs_cons (ob_detg rfl rfl rfl (fun _ => rfl) (fun a' w' ph K => (guard_eq (show sl a' 51 = .bool (!(out.contains ((k : Nat) : Int))) from K.dep 4 51 rfl rfl) (bn_t hk25))) (fun a' w' ph K => x_lookup (k := [x7.who, x7.fr, x7.to]) Try.underlying143 zero_3 keq_145 kchk_145 kwide_145 (es (t := 54) (v := .map (some r3)) (K.dep 7 54 rfl rfl)) (es (t := 55) (v := .agg #[I x7.who, I x7.fr, I x7.to]) (K.dep 8 55 rfl rfl)) rfl (mpr3_w12.ext K.phT)))
              (obs_cons (ob_extg rfl rfl rfl (fun a' w' ph K => (guard_eq (show sl a' 51 = .bool (!(out.contains ((k : Nat) : Int))) from K.dep 4 51 rfl rfl) (bn_t hk25))) (fun a' w' ph K => (x_call0 own_115 rfl (am2 (es (t := 53) (v := .agg #[I x7.lo, I x7.hi]) (K.dep 6 53 rfl rfl)) (es (t := 56) (v := I ((mget L [x7.who, x7.fr, x7.to]).getD 0)) (K.dep 9 56 rfl rfl))) (c115 ((mget L [x7.who, x7.fr, x7.to]).getD 0) x7.lo x7.hi _)).mono (fun _ _ h => h)))
              (obs_cons (ob_detg rfl rfl rfl (fun _ => rfl) (fun a' w' ph K => (guard_eq (show sl a' 51 = .bool (!(out.contains ((k : Nat) : Int))) from K.dep 4 51 rfl rfl) (bn_t hk25))) (fun a' w' ph K => x_not (es (t := 57) (v := .bool (inR ((mget L [x7.who, x7.fr, x7.to]).getD 0) x7.lo x7.hi)) (K.dep 10 57 rfl rfl))))
              (obs_cons (ob_det rfl rfl (fun _ => rfl) (fun a' w' ph K => x_pick_t (v := .bool (!(inR ((mget L [x7.who, x7.fr, x7.to]).getD 0) x7.lo x7.hi))) (es (t := 51) (v := .bool (!(out.contains ((k : Nat) : Int)))) (K.dep 4 51 rfl rfl)) (bn_t hk25) (es (t := 58) (v := .bool (!(inR ((mget L [x7.who, x7.fr, x7.to]).getD 0) x7.lo x7.hi))) (K.dep 11 58 rfl rfl))))
              (obs_nil _)))))))))))))) ?_
          intro w27 hx27
          rintro _ rfl _ rfl _ rfl _ rfl _ rfl _ rfl _ rfl _ rfl _ rfl _ rfl _ rfl _ rfl _ rfl
          refine lv_next ?_
          rcases bool_cases (!(inR ((mget L [x7.who, x7.fr, x7.to]).getD 0) x7.lo x7.hi)) with hc28 | hc28
          · refine cc_cond_t rfl hc28 ?_
            have hc28p := hc28
            have hc28p := not_t hc28p
            have hc28_29 : (inR ((mget L [x7.who, x7.fr, x7.to]).getD 0) x7.lo x7.hi) = false := by simpa using hc28
            refine cc_seq <| cc_region <| wa rfl (v := .bool false) rfl <| wl_end <| lv_next <| cc_ret <| lv_block_ret <| lv_then_ret <| lv_then_ret <| lv_block_ret <| lv_then_ret <| lv_ret1 rfl rfl ?_
            have hB_w27 := (bl_ext (bl_upd (bl_ext hB_w9 nb11.gr) sb12.gr (by omega)) hx27)
            exact ⟨vbool (by rw [rightB, allAt_false l out f.ts k x7 hx7 (okAt_f hk25 (by have h := hc28_29; rw [hmg] at h; exact h))]; rfl), ext_of_below hB_w27⟩
          · refine cc_cond_f rfl hc28 ?_
            have hc28p := hc28
            have hc28p := not_f hc28p
            have hc28_30 : (inR ((mget L [x7.who, x7.fr, x7.to]).getD 0) x7.lo x7.hi) = true := by simpa using hc28
            refine cc_skip <| lv_block <| lv_next <| cc_region <| wd rfl (fun st => x_add (ee st hs4_17) (ee st rfl) ⟨by omega, by omega⟩) <| wm rfl (v := I (((k : Nat) : Int) + 1)) rfl <| wl_end ?_
            have hB_w27 := (bl_ext (bl_upd (bl_ext hB_w9 nb11.gr) sb12.gr (by omega)) hx27)
            have hT_w27 := (((((hT_w4.ext nb8.gr).upd sb9.gr (by omega)).ext nb11.gr).upd sb12.gr (by omega)).ext hx27)
            have hO_w27 := (hO_w12.ext hx27)
            have bk1_w27 := (((bk1_w9.ext nb11.gr).upd sb12.gr (by omega)).ext hx27)
            have bk2_w27 := (((bk2_w9.ext nb11.gr).upd sb12.gr (by omega)).ext hx27)
            have mpr3_w27 := (mpr3_w12.ext hx27)
            refine lv_round (f.ts.length - (k + 1)) (by omega) (fun st => ?_)
            exact ⟨(k + 1), L, rfl, by omega, hL, by rw [allAt_take l out f.ts 0 k x7 hx7, ha, Nat.zero_add, (okAt_r (by have h := hc28_30; rw [hmg] at h; exact h))]; rfl, (puts_size _ _).trans st.sz, (puts_defers _ _).trans st.df, (sl_puts st 0).trans hs4_0, (sl_puts st 1).trans hs4_1, (sl_puts st 2).trans hs4_2, (sl_puts st 3).trans hs4_3, (sl_puts st 4).trans hs4_4, (sl_puts st 7).trans hs4_7, (sl_puts st 13).trans hs4_13, (sl_puts st 14).trans hs4_14, (sl_puts st 15).trans hs4_15, (sl_puts st 16).trans hs4_16, (sl_puts st 17).trans (vint (by omega)), hB_w27, hT_w27, hO_w27, bk1_w27, bk2_w27, mpr3_w27⟩
    · refine cc_cond_f rfl hc5 ?_
      have hc5p := hc5
      have hc5p := of_decide_eq_false hc5p
      refine cc_exit <| lv_then_exit <| lv_then_exit <| lv_block_hit <| lv_next <| cc_seq ?_
      refine cc_any0 [Kc (pt b1 2), Kc (.agg #[I f.lo, I f.hi]), Kc (.agg #[I f.rows, I f.wd, I f.lo, I f.hi, .slice A f.ts.length c]), Kc (ansV l), Kc (I ((cnt (-1) (l.take f.rows.toNat) : Nat) : Int)), Kc (.bool (inR ((cnt (-1) (l.take f.rows.toNat) : Nat) : Int) f.lo f.hi)), Kc (.bool (inR ((cnt (-1) (l.take f.rows.toNat) : Nat) : Int) f.lo f.hi))] mixed rfl
          (obs_cons (ob_det rfl rfl (fun _ => rfl) (fun a' w' ph K => x_fieldAddr (es (t := 3) (v := pt b1 0) ((K.out 3 rfl).trans hs4_3)) (fz_36_2 _ _)))
          (obs_cons (ob_det rfl rfl (fun _ => rfl) (fun a' w' ph K => x_loadn (l := [I f.lo, I f.hi]) agg_33 (es (t := 61) (v := pt b1 2) (K.dep 0 61 rfl rfl)) (bk1_w4.ext K.phT) rfl rfl))
          (obs_cons (ob_det rfl rfl (fun _ => rfl) (fun a' w' ph K => x_loadn (l := [I f.rows, I f.wd, I f.lo, I f.hi, .slice A f.ts.length c]) agg_36 (es (t := 3) (v := pt b1 0) ((K.out 3 rfl).trans hs4_3)) (bk1_w4.ext K.phT) rfl rfl))
          (obs_cons (ob_det rfl rfl (fun _ => rfl) (fun a' w' ph K => x_load_all agg_105 (es (t := 4) (v := pt b2 0) ((K.out 4 rfl).trans hs4_4)) (bk2_w4.ext K.phT) (by simp [ivs, HL])))
          (obs_cons (ob_ext rfl rfl (fun a' w' ph K => (x_call0 own_68 rfl (am3 (es (t := 63) (v := .agg #[I f.rows, I f.wd, I f.lo, I f.hi, .slice A f.ts.length c]) (K.dep 2 63 rfl rfl)) (es (t := 64) (v := ansV l) (K.dep 3 64 rfl rfl)) (ec (v := I (-1)))) (c68 f A c l (-1) _ (by omega) (by omega) HL)).mono (fun _ _ h => h)))
          (obs_cons (ob_ext rfl rfl (fun a' w' ph K => (x_call0 own_115 rfl (am2 (es (t := 62) (v := .agg #[I f.lo, I f.hi]) (K.dep 1 62 rfl rfl)) (es (t := 65) (v := I ((cnt (-1) (l.take f.rows.toNat) : Nat) : Int)) (K.dep 4 65 rfl rfl))) (c115 ((cnt (-1) (l.take f.rows.toNat) : Nat) : Int) f.lo f.hi _)).mono (fun _ _ h => h)))
          (obs_cons (ob_det rfl rfl (fun _ => rfl) (fun a' w' ph K => x_assign (v := .bool (inR ((cnt (-1) (l.take f.rows.toNat) : Nat) : Int) f.lo f.hi)) (es (t := 66) (v := .bool (inR ((cnt (-1) (l.take f.rows.toNat) : Nat) : Int) f.lo f.hi)) (K.dep 5 66 rfl rfl))))
          (obs_nil _)))))))) ?_
      intro w31 hx31
      rintro _ rfl _ rfl _ rfl _ rfl _ rfl _ rfl _ rfl
      refine lv_next <| cc_ret <| lv_ret1 rfl rfl ?_
      rw [List.take_of_length_le (by omega)] at ha
      have hB_w31 := (bl_ext hB_w4 hx31)
      exact ⟨vbool (by rw [rightB, ha]; rfl), ext_of_below hB_w31⟩
end Go.Proofs.Ythogdgkafaclaaa
end
section
set_option linter.unusedVariables false
set_option linter.unusedSimpArgs false
namespace Go.Proofs.Ythogdgkafaclaaa
open Go.RowKit
attribute [local irreducible] Ex1 WL CC CW LV Ret ObOp Agg One Own
def Ch (f : Fld) (A : Option Addr) (c : Nat) (out : List Int) (B : Option Addr) (d : Nat) (h1 q fb ob lr yb ab cb lim : Nat) (T : List (List Int)) (J Jx : List (List Int) → World → Prop) (k : Nat) : Prop :=
  ∀ (row : Int) (ls : List Int) (xs : List (List Int)) (w : World), 0 ≤ row → row + k = f.rows → ls.length = 7 → ls.drop f.rows.toNat = List.replicate (7 - f.rows.toNat) 0 → xs ++ enum (pr f out) f.wd k (ls.take row.toNat) <+: T → lim ≤ w.heap.size → Rd w 0 h1 A (flat encT f.ts) → Rd w 0 h1 B (ivs out) → Bk w fb 36 #[I f.rows, I f.wd, I f.lo, I f.hi, .slice A f.ts.length c] → Bk w ob 43 #[.slice B out.length d] → Bk w yb 140 #[.func (.yield lr) #[] #[]] → Bk w cb 109 #[.func (.func 117) #[] #[pt fb 0, pt ab 0, pt ob 0, pt yb 0, pt cb 0]] → Bk w ab 105 ((ivs ls).toArray) → J xs w →
    Ret Try.prog 117 #[.int .i64 row, pt fb 0, pt ab 0, pt ob 0, pt yb 0, pt cb 0] w (fun v w' => ∃ bb : Bool, v = .bool bb ∧ Cg lr q ab lim w w' ∧ (∃ l2, l2.length = 7 ∧ l2.take row.toNat = ls.take row.toNat ∧ l2.drop f.rows.toNat = List.replicate (7 - f.rows.toNat) 0 ∧ Bk w' ab 105 (ivs l2).toArray) ∧ (bb = true → J (xs ++ enum (pr f out) f.wd k (ls.take row.toNat)) w') ∧ (bb = false → ∃ ys, ys <+: T ∧ Jx ys w'))
theorem c117s (f : Fld) (A : Option Addr) (c : Nat) (out : List Int) (B : Option Addr) (d : Nat) (h1 q fb ob lr yb ab cb lim : Nat) (T : List (List Int)) (J Jx : List (List Int) → World → Prop) (k : Nat) (ih : ∀ k2, k2 < k → Ch f A c out B d h1 q fb ob lr yb ab cb lim T J Jx k2) (row : Int) (ls : List Int) (xs : List (List Int)) (w : World) (hr0 : 1 ≤ f.rows) (hr1 : f.rows ≤ 7) (hw0 : 1 ≤ f.wd) (hw1 : f.wd ≤ 3) (h5 : f.ts.length ≤ 5) (hok : ∀ t ∈ f.ts, talOk f t = true) (hout : out.length ≤ 100000) (ho : h1 ≤ q ∧ q < fb ∧ fb < ob ∧ ob < lr ∧ lr < yb ∧ yb < ab ∧ ab < cb ∧ cb < lim) (hA : Abid yb lim J) (hY : YOk Try.prog lr q lim T J Jx) (h0 : 0 ≤ row) (hk : row + k = f.rows) (HL : ls.length = 7) (hd : ls.drop f.rows.toNat = List.replicate (7 - f.rows.toNat) 0) (hpre : xs ++ enum (pr f out) f.wd k (ls.take row.toNat) <+: T) (hlim : lim ≤ w.heap.size) (hT : Rd w 0 h1 A (flat encT f.ts)) (hO : Rd w 0 h1 B (ivs out)) (hfb : Bk w fb 36 #[I f.rows, I f.wd, I f.lo, I f.hi, .slice A f.ts.length c]) (hob : Bk w ob 43 #[.slice B out.length d]) (hyb : Bk w yb 140 #[.func (.yield lr) #[] #[]]) (hcb : Bk w cb 109 #[.func (.func 117) #[] #[pt fb 0, pt ab 0, pt ob 0, pt yb 0, pt cb 0]]) (hab : Bk w ab 105 ((ivs ls).toArray)) (hJ : J xs w) :
    Ret Try.prog 117 #[I row, pt fb 0, pt ab 0, pt ob 0, pt yb 0, pt cb 0] w (fun v w' => ∃ bb : Bool, v = .bool bb ∧ Cg lr q ab lim w w' ∧ (∃ l2, l2.length = 7 ∧ l2.take row.toNat = ls.take row.toNat ∧ l2.drop f.rows.toNat = List.replicate (7 - f.rows.toNat) 0 ∧ Bk w' ab 105 (ivs l2).toArray) ∧ (bb = true → J (xs ++ enum (pr f out) f.wd k (ls.take row.toNat)) w') ∧ (bb = false → ∃ ys, ys <+: T ∧ Jx ys w')) := by
  refine ret_of_cc (N := 39) Try.func117 rfl rfl (by simp) ?_
  intro fr0 ha hdf
  have hp0 := sl_arg (i := 0) (v := I row) ha rfl
  have hp1 := sl_arg (i := 1) (v := pt fb 0) ha rfl
  have hp2 := sl_arg (i := 2) (v := pt ab 0) ha rfl
  have hp3 := sl_arg (i := 3) (v := pt ob 0) ha rfl
  have hp4 := sl_arg (i := 4) (v := pt yb 0) ha rfl
  have hp5 := sl_arg (i := 5) (v := pt cb 0) ha rfl
  clear ha
  refine cc_seq <| cc_region <| wa rfl (v := .bool false) rfl <| wl_end <| lv_next <| cc_seq <| cc_seq <| cc_region <| wm rfl (v := I row) hp0 <| wd rfl (fun st => x_fieldAddr (ee st hp1) (fz_36_0 _ _)) <| wd rfl (fun st => x_load1 (v := I f.rows) one_3 (ee st rfl) hfb rfl) <| wd rfl (fun st => x_eql (ee st rfl) (ee st rfl)) <| wl_end <| lv_next ?_
  rcases bool_cases (row == f.rows) with hc1 | hc1
  · refine cc_cond_t rfl hc1 ?_
    have hc1p := hc1
    have hc1p := eq_of_beq hc1p
    obtain rfl : k = 0 := by omega
    have hdk : ls.drop row.toNat = List.replicate (7 - row.toNat) 0 := by rw [hc1p]; exact hd
    refine cc_seq <| cc_region <| wd rfl (fun st => x_loadn (l := [I f.rows, I f.wd, I f.lo, I f.hi, .slice A f.ts.length c]) agg_36 (ee st hp1) hfb rfl rfl) <| wd rfl (fun st => x_load_all agg_105 (ee st hp2) hab (by simp [ivs, HL])) <| wd rfl (fun st => x_load1 (v := .slice B out.length d) one_43 (ee st hp3) hob rfl) <| we rfl (fun st => x_call0 own_95 (ee st rfl) (am3 (ee st rfl) (ee st rfl) (ee st rfl)) (c95 f A c ls out B d _ (by omega) (by omega) (by omega) hok HL (by first | omega | simp) hT.wide hO.wide)) ?_
    rintro _ w2 ⟨rfl, hx2⟩
    refine wd rfl (fun st => x_not (ee st rfl)) <| wm rfl (v := .bool (!(rightB f ls out))) rfl ?_
    rcases bool_cases (!(rightB f ls out)) with hg3 | hg3
    · skip
      have hg3p := hg3
      have hg3p := not_t hg3p
      have hg3_4 : (rightB f ls out) = false := by simpa using hg3
      refine wl_skip (c := true) rfl rfl (guard_eq rfl hg3) (by decide) rfl (by decide) <| wl_skip (c := true) rfl rfl (guard_eq rfl hg3) (by decide) rfl (by decide) <| wl_skip (c := true) rfl rfl (guard_eq rfl hg3) (by decide) rfl (by decide) <| wd rfl (fun st => x_pick_t (v := .bool true) (ee st rfl) hg3 (ee st rfl)) <| wa rfl (v := .bool true) rfl <| wl_end <| lv_next <| cc_ret <| lv_then_ret <| lv_ret1 rfl rfl ?_
      have hB_w2 : Cg lr q ab lim w w2 := ((show Cg lr q ab lim w w from Cg.refl hlim).ext hx2)
      have hab_w2 := (hab.ext hx2)
      have hJ_w2 := (hA.ext hJ hx2)
      have hle := enum_no (f := f) (out := out) HL (by omega) hdk hg3_4
      exact ⟨true, rfl, hB_w2, ⟨ls, HL, rfl, hd, hab_w2⟩, fun _ => by rw [hle, List.append_nil]; exact hJ_w2, fun h => by cases h⟩
    · skip
      have hg3p := hg3
      have hg3p := not_f hg3p
      have hg3_5 : (rightB f ls out) = true := by simpa using hg3
      have hyb_w2 := (hyb.ext hx2)
      refine wl_detg rfl rfl (guard_eq rfl hg3) rfl (by decide) (fun st => x_load1 (v := .func (.yield lr) #[] #[]) one_140 (ee st hp4) hyb_w2 rfl) ?_
      have hab_w2 := (hab.ext hx2)
      refine wl_detg rfl rfl (guard_eq rfl hg3) rfl (by decide) (fun st => x_load_all agg_105 (ee st hp2) hab_w2 (by simp [ivs, HL])) ?_
      have hle := enum_yes (f := f) (out := out) HL (by omega) (hdk) hg3_5
      rw [hle] at hpre
      have hJ_w2 := (hA.ext hJ hx2)
      have hB_w2 : Cg lr q ab lim w w2 := ((show Cg lr q ab lim w w from Cg.refl hlim).ext hx2)
      refine wl_exg rfl rfl (guard_eq rfl hg3) rfl (by decide) (fun st => x_yield (ee st rfl) (am1 (ee st rfl)) (hY xs ls _ hJ_w2 hpre hB_w2.le)) ?_
      rintro _ w6 ⟨bb6, rfl, hcg6, hbt6, hbf6⟩
      have hcw6 : Cg lr q ab lim w2 w6 := hcg6.wide (Nat.le_refl _)
      refine wd rfl (fun st => x_pick_f (v := .bool bb6) (ee st rfl) hg3 (ee st rfl)) <| wa rfl (v := .bool bb6) rfl <| wl_end <| lv_next <| cc_ret <| lv_then_ret <| lv_ret1 rfl rfl ?_
      have hab_w6 := (hab_w2.cg hcg6 (by omega))
      exact ⟨bb6, rfl, (hB_w2.trans hcw6), ⟨ls, HL, rfl, hd, hab_w6⟩, fun h => by rw [hle]; exact hbt6 h, fun h => ⟨_, hpre, hbf6 h⟩⟩
  · refine cc_cond_f rfl hc1 ?_
    have hc1p := hc1
    have hc1p := ne_of_beq_false hc1p
    obtain ⟨k2, rfl⟩ : ∃ k2, k = k2 + 1 := ⟨k - 1, by omega⟩
    refine cc_skip <| lv_next <| cc_seq <| cc_seq <| cc_region <| wd rfl (fun st => x_fieldAddr (ee st hp1) (fz_36_1 _ _)) <| wd rfl (fun st => x_load1 (v := I f.wd) one_3 (ee st rfl) hfb rfl) <| wd rfl (fun st => x_add (ee st rfl) (ee st rfl) ⟨by omega, by omega⟩) <| wm rfl (v := I 0) rfl <| wl_end <| lv_next <| cc_block ?_
    refine cc_loop (fun (m_ : Nat) (fr_ : Act) (w_ : World) => ∃ (j : Nat), ∃ (l2 : List Int), m_ = (f.wd + 1).toNat - j ∧ (j ≤ (f.wd + 1).toNat) ∧ (l2.length = 7) ∧ (l2.take row.toNat = ls.take row.toNat) ∧ (l2.drop f.rows.toNat = List.replicate (7 - f.rows.toNat) 0) ∧ fr_.tmps.size = 39 ∧ fr_.defers = [] ∧ sl fr_ 0 = I row ∧ sl fr_ 1 = pt fb 0 ∧ sl fr_ 2 = pt ab 0 ∧ sl fr_ 3 = pt ob 0 ∧ sl fr_ 4 = pt yb 0 ∧ sl fr_ 5 = pt cb 0 ∧ sl fr_ 9 = I row ∧ sl fr_ 10 = pt fb 0 ∧ sl fr_ 11 = I f.rows ∧ sl fr_ 12 = .bool (row == f.rows) ∧ sl fr_ 23 = pt fb 1 ∧ sl fr_ 24 = I f.wd ∧ sl fr_ 25 = I (f.wd + 1) ∧ sl fr_ 26 = I ((j : Nat) : Int) ∧ Cg lr q ab lim w w_ ∧ Rd w_ 0 h1 A (flat encT f.ts) ∧ Rd w_ 0 h1 B (ivs out) ∧ Bk w_ fb 36 #[I f.rows, I f.wd, I f.lo, I f.hi, .slice A f.ts.length c] ∧ Bk w_ ob 43 #[.slice B out.length d] ∧ Bk w_ yb 140 #[.func (.yield lr) #[] #[]] ∧ Bk w_ cb 109 #[.func (.func 117) #[] #[pt fb 0, pt ab 0, pt ob 0, pt yb 0, pt cb 0]] ∧ Bk w_ ab 105 ((ivs l2).toArray) ∧ J (xs ++ upto (pr f out) f.wd k2 (ls.take row.toNat) j) w_) ((f.wd + 1).toNat - 0) ?init7 ?round7
    case init7 =>
      intro st
      exact ⟨0, ls, rfl, by omega, HL, rfl, hd, (puts_size _ _).trans st.sz, (puts_defers _ _).trans st.df, (sl_puts st 0).trans hp0, (sl_puts st 1).trans hp1, (sl_puts st 2).trans hp2, (sl_puts st 3).trans hp3, (sl_puts st 4).trans hp4, (sl_puts st 5).trans hp5, (sl_puts st 9).trans rfl, (sl_puts st 10).trans rfl, (sl_puts st 11).trans rfl, (sl_puts st 12).trans rfl, (sl_puts st 23).trans rfl, (sl_puts st 24).trans rfl, (sl_puts st 25).trans rfl, (sl_puts st 26).trans (vint (by omega)), (show Cg lr q ab lim w w from Cg.refl hlim), hT, hO, hfb, hob, hyb, hcb, hab, (by rw [upto_zero, List.append_nil]; exact hJ)⟩
    case round7 =>
      rintro m_ fr7 w7 ⟨j, l2, rfl, hj, hl2, ht2, hd2, hsz7, hdf7, hs7_0, hs7_1, hs7_2, hs7_3, hs7_4, hs7_5, hs7_9, hs7_10, hs7_11, hs7_12, hs7_23, hs7_24, hs7_25, hs7_26, hB_w7, hT_w7, hO_w7, hfb_w7, hob_w7, hyb_w7, hcb_w7, hab_w7, hJ2_w7⟩
      refine round_cc (N := 39) hsz7 hdf7 <| cc_seq <| cc_region <| wd rfl (fun st => x_lss (ee st hs7_26) (ee st hs7_25)) <| wl_end <| lv_next <| cc_seq ?_
      rcases bool_cases (decide (((j : Nat) : Int) < (f.wd + 1))) with hc8 | hc8
      · refine cc_cond_t rfl hc8 ?_
        have hc8p := hc8
        have hc8p := of_decide_eq_true hc8p
        refine cc_skip <| lv_next <| cc_seq <| cc_block <| cc_seq <| cc_region <| wm rfl (v := I ((j : Nat) : Int)) hs7_26 <| wa rfl (v := I ((j : Nat) : Int)) rfl <| wl_end <| lv_next <| cc_seq <| cc_region <| wm rfl (v := I row) hs7_0 <| wm rfl (v := I ((j : Nat) : Int)) rfl <| wd rfl (fun st => x_sub (ee st rfl) (ee st rfl) ⟨by omega, by omega⟩) <| wd rfl (fun st => x_indexAddrA1 (k := (row).toNat) Try.underlying105 sz_3 (ee st hs7_2) (ee st rfl) (by omega) (by omega)) <| wl_ex0 rfl rfl (fun st => x_store_int (ee st rfl) (ee st rfl) sz_3 hab_w7 (by rw [hl2]; omega)) ?_
        rintro _ w9 sb9
        refine wl_end <| lv_next <| cc_seq <| cc_region ?_
        have hcb_w9 := (hcb_w7.upd sb9.gr (by omega))
        refine wd rfl (fun st => x_load1 (v := .func (.func 117) #[] #[pt fb 0, pt ab 0, pt ob 0, pt yb 0, pt cb 0]) one_109 (ee st hs7_5) hcb_w9 rfl) <| wm rfl (v := I row) hs7_0 <| wd rfl (fun st => x_add (ee st rfl) (ee st rfl) ⟨by omega, by omega⟩) ?_
        have hJ2_w9 := (hA.upd hJ2_w7 sb9.gr (by omega))
        have hB_w9 : Cg lr q ab lim w w9 := (hB_w7.upd sb9.gr (by omega))
        have hT_w9 := (hT_w7.upd sb9.gr (by omega))
        have hO_w9 := (hO_w7.upd sb9.gr (by omega))
        have hfb_w9 := (hfb_w7.upd sb9.gr (by omega))
        have hob_w9 := (hob_w7.upd sb9.gr (by omega))
        have hyb_w9 := (hyb_w7.upd sb9.gr (by omega))
        have hpr := pre_step hpre (j := j) (by omega)
        have hst := set_take (x := ((j : Nat) : Int) - 1) ht2 (r := row.toNat) (by omega)
        have hrn : (row + 1).toNat = row.toNat + 1 := by omega
        refine we rfl (fun st => x_call (first := #[]) (cap := #[pt fb 0, pt ab 0, pt ob 0, pt yb 0, pt cb 0]) (vs := #[I (row + 1)]) (all := #[I (row + 1), pt fb 0, pt ab 0, pt ob 0, pt yb 0, pt cb 0]) own_117 (ee st rfl) (am1 (ee st rfl)) (by simp) (ih k2 (by omega) (row + 1) (l2.set ((row).toNat) (((j : Nat) : Int) - 1)) _ _ (by omega) (by omega) (by simpa using hl2) (by rw [List.drop_set_of_lt (by omega)]; exact hd2) (by rw [hrn, hst]; exact hpr) hB_w9.le hT_w9 hO_w9 hfb_w9 hob_w9 hyb_w9 hcb_w9 sb9.bk hJ2_w9)) ?_
        rintro _ w10 ⟨bb10, rfl, hcg10, ⟨l3, hl3, ht3, hd3, hb3⟩, hbt, hbf⟩
        rw [hrn, hst] at ht3 hbt
        refine wd rfl (fun st => x_not (ee st rfl)) <| wl_end <| lv_next ?_
        rcases bool_cases (!bb10) with hc11 | hc11
        · refine cc_cond_t rfl hc11 ?_
          have hc11p := hc11
          have hc11p := not_t hc11p
          have hc11_12 : bb10 = false := by simpa using hc11
          refine cc_seq <| cc_region <| wa rfl (v := .bool false) rfl <| wl_end <| lv_next <| cc_ret <| lv_block_ret <| lv_then_ret <| lv_then_ret <| lv_block_ret <| lv_then_ret <| lv_ret1 rfl rfl ?_
          have hB_w10 : Cg lr q ab lim w w10 := (hB_w9.trans hcg10)
          exact ⟨false, rfl, hB_w10, ⟨l3, hl3, take_of_succ ht3 (by omega), hd3, hb3⟩, fun h => (by cases h), fun _ => hbf hc11_12⟩
        · refine cc_cond_f rfl hc11 ?_
          have hc11p := hc11
          have hc11p := not_f hc11p
          have hc11_13 : bb10 = true := by simpa using hc11
          refine cc_skip <| lv_block <| lv_next <| cc_region <| wd rfl (fun st => x_add (ee st hs7_26) (ee st rfl) ⟨by omega, by omega⟩) <| wm rfl (v := I (((j : Nat) : Int) + 1)) rfl <| wl_end ?_
          have hB_w10 : Cg lr q ab lim w w10 := (hB_w9.trans hcg10)
          have hT_w10 := (hT_w9.cg hcg10 (by omega))
          have hO_w10 := (hO_w9.cg hcg10 (by omega))
          have hfb_w10 := (hfb_w9.cg hcg10 (by omega))
          have hob_w10 := (hob_w9.cg hcg10 (by omega))
          have hyb_w10 := (hyb_w9.cg hcg10 (by omega))
          have hcb_w10 := (hcb_w9.cg hcg10 (by omega))
          refine lv_round ((f.wd + 1).toNat - (j + 1)) (by omega) (fun st => ?_)
          exact ⟨(j + 1), l3, rfl, by omega, hl3, take_of_succ ht3 (by omega), hd3, (puts_size _ _).trans st.sz, (puts_defers _ _).trans st.df, (sl_puts st 0).trans hs7_0, (sl_puts st 1).trans hs7_1, (sl_puts st 2).trans hs7_2, (sl_puts st 3).trans hs7_3, (sl_puts st 4).trans hs7_4, (sl_puts st 5).trans hs7_5, (sl_puts st 9).trans hs7_9, (sl_puts st 10).trans hs7_10, (sl_puts st 11).trans hs7_11, (sl_puts st 12).trans hs7_12, (sl_puts st 23).trans hs7_23, (sl_puts st 24).trans hs7_24, (sl_puts st 25).trans hs7_25, (sl_puts st 26).trans (vint (by omega)), hB_w10, hT_w10, hO_w10, hfb_w10, hob_w10, hyb_w10, hcb_w10, hb3, (by rw [upto_step _ _ _ _ _ (by omega), ← List.append_assoc]; exact hbt hc11_13)⟩
      · refine cc_cond_f rfl hc8 ?_
        have hc8p := hc8
        have hc8p := of_decide_eq_false hc8p
        refine cc_exit <| lv_then_exit <| lv_then_exit <| lv_block_hit <| lv_next <| cc_seq <| cc_region <| wa rfl (v := .bool true) rfl <| wl_end <| lv_next <| cc_ret <| lv_ret1 rfl rfl ?_
        rw [upto_all _ _ _ _ _ (by omega)] at hJ2_w7
        exact ⟨true, rfl, hB_w7, ⟨l2, hl2, ht2, hd2, hab_w7⟩, fun _ => hJ2_w7, fun h => by cases h⟩
theorem c117 (f : Fld) (A : Option Addr) (c : Nat) (out : List Int) (B : Option Addr) (d : Nat) (h1 q fb ob lr yb ab cb lim : Nat) (T : List (List Int)) (J Jx : List (List Int) → World → Prop) (hr0 : 1 ≤ f.rows) (hr1 : f.rows ≤ 7) (hw0 : 1 ≤ f.wd) (hw1 : f.wd ≤ 3) (h5 : f.ts.length ≤ 5) (hok : ∀ t ∈ f.ts, talOk f t = true) (hout : out.length ≤ 100000) (ho : h1 ≤ q ∧ q < fb ∧ fb < ob ∧ ob < lr ∧ lr < yb ∧ yb < ab ∧ ab < cb ∧ cb < lim) (hA : Abid yb lim J) (hY : YOk Try.prog lr q lim T J Jx) (k : Nat) : Ch f A c out B d h1 q fb ob lr yb ab cb lim T J Jx k := by
  induction k using Nat.strongRecOn with
  | _ k ih =>
    intro row ls xs w h0 hk HL hd hpre hlim hT hO hfb hob hyb hcb hab hJ
    exact c117s f A c out B d h1 q fb ob lr yb ab cb lim T J Jx k ih row ls xs w hr0 hr1 hw0 hw1 h5 hok hout ho hA hY h0 hk HL hd hpre hlim hT hO hfb hob hyb hcb hab hJ
theorem c116 (f : Fld) (A : Option Addr) (c : Nat) (out : List Int) (B : Option Addr) (d : Nat) (h1 q fb ob lr : Nat) (J Jx : List (List Int) → World → Prop) (w : World) (hr0 : 1 ≤ f.rows) (hr1 : f.rows ≤ 7) (hw0 : 1 ≤ f.wd) (hw1 : f.wd ≤ 3) (h5 : f.ts.length ≤ 5) (hok : ∀ t ∈ f.ts, talOk f t = true) (hout : out.length ≤ 100000) (ho : h1 ≤ q ∧ q < fb ∧ fb < ob ∧ ob < lr ∧ lr < w.heap.size) (hA : Abid w.heap.size (w.heap.size + 3) J) (hY : YOk Try.prog lr q (w.heap.size + 3) (truths f out) J Jx) (hT : Rd w 0 h1 A (flat encT f.ts)) (hO : Rd w 0 h1 B (ivs out)) (hfb : Bk w fb 36 #[I f.rows, I f.wd, I f.lo, I f.hi, .slice A f.ts.length c]) (hob : Bk w ob 43 #[.slice B out.length d]) (hJ : J [] w) :
    Ret Try.prog 116 #[.func (.yield lr) #[] #[], pt fb 0, pt ob 0] w (fun v w' => v = .tuple #[] ∧ Cg lr q lr w.heap.size w w' ∧ (J (truths f out) w' ∨ ∃ ys, ys <+: truths f out ∧ Jx ys w')) := by
  refine ret_of_cc (N := 9) Try.func116 rfl rfl (by simp) ?_
  intro fr0 ha hdf
  have hp0 := sl_arg (i := 0) (v := .func (.yield lr) #[] #[]) ha rfl
  have hp1 := sl_arg (i := 1) (v := pt fb 0) ha rfl
  have hp2 := sl_arg (i := 2) (v := pt ob 0) ha rfl
  clear ha
  refine cc_seq <| cc_region <| we rfl (fun st => x_box (v := .func (.yield lr) #[] #[]) (cs := #[.func (.yield lr) #[] #[]]) (ee st hp0) rfl) ?_
  rintro _ w1 ⟨b1, rfl, nb1⟩
  have lo1 : w.heap.size ≤ b1 := by rw [nb1.b_eq]; exact (show Cg lr q lr w.heap.size w w from Cg.refl (Nat.le_refl _)).size
  have eq1 := nb1.b_eq; have sz1 := nb1.sz
  refine wl_end <| lv_next <| cc_seq <| cc_region <| we rfl (fun st => x_alloc (cs := #[I 0, I 0, I 0, I 0, I 0, I 0, I 0]) zero_105 rfl) ?_
  rintro _ w2 ⟨b2, rfl, nb2⟩
  have hB_w1 : Cg lr q lr w.heap.size w w1 := ((show Cg lr q lr w.heap.size w w from Cg.refl (Nat.le_refl _)).ext nb1.gr)
  have lo2 : w.heap.size ≤ b2 := by rw [nb2.b_eq]; exact hB_w1.size
  have ltb1_2 : b1 < b2 := by rw [nb2.b_eq]; exact nb1.bk.lt
  have eq2 := nb2.b_eq; have sz2 := nb2.sz
  refine wl_end <| lv_next <| cc_seq <| cc_region <| we rfl (fun st => x_alloc (cs := #[.nilFunc]) zero_109 rfl) ?_
  rintro _ w3 ⟨b3, rfl, nb3⟩
  have hB_w2 : Cg lr q lr w.heap.size w w2 := (hB_w1.ext nb2.gr)
  have lo3 : w.heap.size ≤ b3 := by rw [nb3.b_eq]; exact hB_w2.size
  have bk1_w2 := (nb1.bk.ext nb2.gr)
  have ltb1_3 : b1 < b3 := by rw [nb3.b_eq]; exact bk1_w2.lt
  have ltb2_3 : b2 < b3 := by rw [nb3.b_eq]; exact nb2.bk.lt
  have eq3 := nb3.b_eq; have sz3 := nb3.sz
  refine wl_end <| lv_next <| cc_seq <| cc_region <| wd rfl (fun st => x_makeFunc (vs := #[]) (us := #[pt fb 0, pt b2 0, pt ob 0, pt b1 0, pt b3 0]) am0 (am5 (ee st hp1) (ee st rfl) (ee st hp2) (ee st rfl) (ee st rfl))) <| wl_ex0 rfl rfl (fun st => x_store (n := 1) (l := [.func (.func 117) #[] #[pt fb 0, pt b2 0, pt ob 0, pt b1 0, pt b3 0]]) (cs' := #[.func (.func 117) #[] #[pt fb 0, pt b2 0, pt ob 0, pt b1 0, pt b3 0]]) (ee st rfl) (ee st rfl) sz_109 nb3.bk rfl rfl (show 0 + 1 ≤ 1 by decide) (one_cells rfl) rfl) ?_
  rintro _ w4 sb4
  have sz4 := sb4.sz
  refine wl_end <| lv_next <| cc_region <| wd rfl (fun st => x_load1 (v := .func (.func 117) #[] #[pt fb 0, pt b2 0, pt ob 0, pt b1 0, pt b3 0]) one_109 (ee st rfl) sb4.bk rfl) ?_
  have hB_w4 : Cg lr q lr w.heap.size w w4 := ((hB_w2.ext nb3.gr).upd sb4.gr (by omega))
  have hT_w4 := ((((hT.ext nb1.gr).ext nb2.gr).ext nb3.gr).upd sb4.gr (by omega))
  have hO_w4 := ((((hO.ext nb1.gr).ext nb2.gr).ext nb3.gr).upd sb4.gr (by omega))
  have hfb_w4 := ((((hfb.ext nb1.gr).ext nb2.gr).ext nb3.gr).upd sb4.gr (by omega))
  have hob_w4 := ((((hob.ext nb1.gr).ext nb2.gr).ext nb3.gr).upd sb4.gr (by omega))
  have bk1_w4 := ((bk1_w2.ext nb3.gr).upd sb4.gr (by omega))
  have bk2_w4 := ((nb2.bk.ext nb3.gr).upd sb4.gr (by omega))
  have hJ_w4 := (hA.upd (hA.ext (hA.ext (hA.ext hJ nb1.gr) nb2.gr) nb3.gr) sb4.gr (by omega))
  refine we rfl (fun st => x_call (first := #[]) (cap := #[pt fb 0, pt b2 0, pt ob 0, pt b1 0, pt b3 0]) (vs := #[I 0]) (all := #[I 0, pt fb 0, pt b2 0, pt ob 0, pt b1 0, pt b3 0]) own_117 (ee st rfl) (am1 (ee st rfl)) (by simp) (c117 f A c out B d h1 q fb ob lr b1 b2 b3 (w.heap.size + 3) (truths f out) J Jx hr0 hr1 hw0 hw1 h5 hok hout (by omega) (hA.weak (by omega) (by omega)) hY f.rows.toNat 0 (List.replicate 7 0) [] _ (by omega) (by omega) rfl (repl_drop (by omega)) (List.prefix_refl _) (by omega) hT_w4 hO_w4 hfb_w4 hob_w4 bk1_w4 sb4.bk bk2_w4 hJ_w4)) ?_
  rintro _ w5 ⟨bb5, rfl, hcg5, -, hbt, hbf⟩
  have hcb : Cg lr q lr w.heap.size w4 w5 := hcg5.behind (by omega) (by omega)
  refine wl_end <| lv_end0 rfl ?_
  refine ⟨rfl, (hB_w4.trans hcb), ?_⟩
  rcases bool_cases bb5 with h | h
  · exact .inl (hbt h)
  · exact .inr (hbf h)
theorem c99 (f : Fld) (A : Option Addr) (c : Nat) (out : List Int) (B : Option Addr) (d : Nat) (w : World) :
    Ret Try.prog 99 #[.agg #[I f.rows, I f.wd, I f.lo, I f.hi, .slice A f.ts.length c], .slice B out.length d] w (fun v w' => ∃ fb ob, v = .func (.func 116) #[] #[.pointer (some ⟨fb, 0, none⟩), .pointer (some ⟨ob, 0, none⟩)] ∧ fb = w.heap.size ∧ ob = w.heap.size + 1 ∧ w'.heap.size = w.heap.size + 2 ∧ Bk w' fb 36 #[I f.rows, I f.wd, I f.lo, I f.hi, .slice A f.ts.length c] ∧ Bk w' ob 43 #[.slice B out.length d] ∧ Ext w w') := by
  refine ret_of_cc (N := 6) Try.func99 rfl rfl (by simp) ?_
  intro fr0 ha hdf
  have hp0 := sl_arg (i := 0) (v := .agg #[I f.rows, I f.wd, I f.lo, I f.hi, .slice A f.ts.length c]) ha rfl
  have hp1 := sl_arg (i := 1) (v := .slice B out.length d) ha rfl
  clear ha
  refine cc_seq <| cc_region <| we rfl (fun st => x_box (v := .agg #[I f.rows, I f.wd, I f.lo, I f.hi, .slice A f.ts.length c]) (cs := #[I f.rows, I f.wd, I f.lo, I f.hi, .slice A f.ts.length c]) (ee st hp0) rfl) ?_
  rintro _ w1 ⟨b1, rfl, nb1⟩
  have lo1 : w.heap.size ≤ b1 := by rw [nb1.b_eq]; exact (Below.refl w.heap.size w).size
  have eq1 := nb1.b_eq; have sz1 := nb1.sz
  refine we rfl (fun st => x_box (v := .slice B out.length d) (cs := #[.slice B out.length d]) (ee st hp1) rfl) ?_
  rintro _ w2 ⟨b2, rfl, nb2⟩
  have hB_w1 := (bl_ext (Below.refl w.heap.size w) nb1.gr)
  have lo2 : w.heap.size ≤ b2 := by rw [nb2.b_eq]; exact hB_w1.size
  have ltb1_2 : b1 < b2 := by rw [nb2.b_eq]; exact nb1.bk.lt
  have eq2 := nb2.b_eq; have sz2 := nb2.sz
  refine wa rfl (v := .nilFunc) rfl <| wl_end <| lv_next <| cc_seq <| cc_region <| wd rfl (fun st => x_makeFunc (vs := #[]) (us := #[pt b1 0, pt b2 0]) am0 (am2 (ee st rfl) (ee st rfl))) <| wa rfl (v := .func (.func 116) #[] #[pt b1 0, pt b2 0]) rfl <| wl_end <| lv_next <| cc_ret <| lv_ret1 rfl rfl ?_
  have bk1_w2 := (nb1.bk.ext nb2.gr)
  have hB_w2 := (bl_ext hB_w1 nb2.gr)
  exact ⟨_, _, rfl, by omega, by omega, by omega, bk1_w2, nb2.bk, ext_of_below hB_w2⟩
end Go.Proofs.Ythogdgkafaclaaa
end
section
set_option linter.unusedVariables false
set_option linter.unusedSimpArgs false
namespace Go.Proofs.Ythogdgkafaclaaa
open Go.RowKit
attribute [local irreducible] Ex1 WL CC CW LV Ret ObOp Agg One Own
def J80 (q r D : Nat) (o : Obj) : List (List Int) → World → Prop := fun xs w => xs = [] ∧ Bk w q 4 #[.bool false] ∧ w.heap[r]? = some o ∧ w.heap[D]? = some (.deferred (some []))
def Jx80 (q r D : Nat) : List (List Int) → World → Prop := fun xs w => xs ≠ [] ∧ Bk w q 4 #[.bool true] ∧ (∃ lp : Loop, w.heap[r]? = some (.loop lp) ∧ lp.state = .done ∧ lp.pending = some .ret) ∧ w.heap[D]? = some (.deferred (some []))
theorem abid80 {q r D lo hi : Nat} {o : Obj} (h : q < lo ∧ r < lo ∧ D < lo) : Abid lo hi (J80 q r D o) :=
  ⟨fun ⟨a, b, c, d⟩ g => ⟨a, b.ext g, hp_ext c g, hp_ext d g⟩, fun ⟨a, b, c, d⟩ g hr => ⟨a, b.upd g (by omega), hp_upd c g (by omega), hp_upd d g (by omega)⟩⟩
theorem c80 (f : Fld) (A : Option Addr) (c : Nat) (out : List Int) (B : Option Addr) (d : Nat) (w : World) (hr0 : 1 ≤ f.rows) (hr1 : f.rows ≤ 7) (hw0 : 1 ≤ f.wd) (hw1 : f.wd ≤ 3) (h5 : f.ts.length ≤ 5) (hok : ∀ t ∈ f.ts, talOk f t = true) (hout : out.length ≤ 100000) (hT : Rd w 0 w.heap.size A (flat encT f.ts)) (hO : Rd w 0 w.heap.size B (ivs out)) :
    Ret Try.prog 80 #[.agg #[I f.rows, I f.wd, I f.lo, I f.hi, .slice A f.ts.length c], .slice B out.length d] w (fun v w' => v = .bool (decide (truths f out ≠ [])) ∧ Ext w w') := by
  refine ret_of_ccm (N := 9) Try.func80 rfl rfl (by simp) ?_
  intro fr0 ha hdf
  have hp0 := sl_arg (i := 0) (v := .agg #[I f.rows, I f.wd, I f.lo, I f.hi, .slice A f.ts.length c]) ha rfl
  have hp1 := sl_arg (i := 1) (v := .slice B out.length d) ha rfl
  clear ha
  refine cc_seq <| cc_region <| we rfl (fun st => x_box (v := .agg #[I f.rows, I f.wd, I f.lo, I f.hi, .slice A f.ts.length c]) (cs := #[I f.rows, I f.wd, I f.lo, I f.hi, .slice A f.ts.length c]) (ee st hp0) rfl) ?_
  rintro _ w1 ⟨b1, rfl, nb1⟩
  have lo1 : w.heap.size ≤ b1 := by rw [nb1.b_eq]; exact (Below.refl w.heap.size w).size
  refine we rfl (fun st => x_alloc (cs := #[.bool false]) zero_4 rfl) ?_
  rintro _ w2 ⟨b2, rfl, nb2⟩
  have hB_w1 := (bl_ext (Below.refl w.heap.size w) nb1.gr)
  have lo2 : w.heap.size ≤ b2 := by rw [nb2.b_eq]; exact hB_w1.size
  have ltb1_2 : b1 < b2 := by rw [nb2.b_eq]; exact nb1.bk.lt
  refine wl_end <| lv_next <| cc_seq <| cc_seq <| cc_region ?_
  have bk1_w2 := (nb1.bk.ext nb2.gr)
  refine wd rfl (fun st => x_loadn (l := [I f.rows, I f.wd, I f.lo, I f.hi, .slice A f.ts.length c]) agg_36 (ee st rfl) bk1_w2 rfl rfl) <| wm rfl (v := .slice B out.length d) hp1 <| we rfl (fun st => x_call0 own_99 (ee st rfl) (am2 (ee st rfl) (ee st rfl)) (c99 f A c out B d _)) ?_
  rintro _ w3 ⟨fb3, ob3, rfl, hfb3, hob3, hsz3, bkf3, bko3, hx3⟩
  have ltb1_3 : b1 < fb3 := by rw [hfb3]; exact bk1_w2.lt
  have ltb2_3 : b2 < fb3 := by rw [hfb3]; exact nb2.bk.lt
  have hB_w2 := (bl_ext hB_w1 nb2.gr)
  have lof3 : w.heap.size ≤ fb3 := by rw [hfb3]; exact hB_w2.size
  refine wl_end <| lv_next <| cc_block ?_
  have hszq := hsz3
  refine cc_range (gf := 116) own_116 rfl ?_
  intro sT lp0 wE hlp hxE hszE hD hL
  obtain ⟨D, hDq⟩ : ∃ D, D = w3.heap.size := ⟨_, rfl⟩
  rw [← hDq] at hszE hD hL ⊢
  have ltD : ob3 < D := by omega
  rw [app2]
  have bk2_wE := ((nb2.bk.ext hx3).ext hxE)
  have hT_wE := ((((hT.ext nb1.gr).ext nb2.gr).ext hx3).ext hxE)
  have hO_wE := ((((hO.ext nb1.gr).ext nb2.gr).ext hx3).ext hxE)
  have hfb_wE := (bkf3.ext hxE)
  have hob_wE := (bko3.ext hxE)
  refine (c116 f A c out B d w.heap.size b2 fb3 ob3 (D + 1) (J80 b2 (D + 1) D (.loop lp0)) (Jx80 b2 (D + 1) D) wE (by omega) (by omega) (by omega) (by omega) (by omega) hok (by first | omega | simp) (by omega) ?hA ?hY hT_wE hO_wE hfb_wE hob_wE ?hJ).mono ?_
  case hA => exact abid80 ⟨by omega, by omega, by omega⟩
  case hJ => exact ⟨rfl, bk2_wE, hL, hD⟩
  case hY =>
    rintro _ x wY ⟨rfl, hq5, hL5, hD5⟩ hpx hlim
    refine yield_at (R := fun v wR => ∃ bb : Bool, v = .bool bb ∧ Cg (D + 1) b2 (D + 1) (wE.heap.size + 3) wY wR ∧ (bb = true → J80 b2 (D + 1) D (.loop lp0) ([] ++ [x]) wR) ∧ (bb = false → Jx80 b2 (D + 1) D ([] ++ [x]) wR)) sT hL5 hlp ?_ (by decide)
    have hc5 : Cg (D + 1) b2 (D + 1) (wE.heap.size + 3) wY wY := Cg.refl hlim
    refine cc_skip <| lv_begin hL5 hlp.st ?_
    intro w4 hu4 hn4
    refine cc_block <| cc_seq <| cc_region ?_
    have hq_w4 := (hq5.upd hu4 (by omega))
    refine wl_ex0 rfl rfl (fun st => x_store (n := 1) (l := [.bool true]) (cs' := #[.bool true]) (ee st rfl) (ee st rfl) sz_4 hq_w4 rfl rfl (show 0 + 1 ≤ 1 by decide) (one_cells rfl) rfl) ?_
    rintro _ w5 sb5
    refine wl_end <| lv_next <| cc_ret <| lv_block_ret ?_
    have hL_w5 := (hp_upd hn4 sb5.gr (by omega))
    refine lv_rend_ret hL_w5 ?_
    intro w6 hu6 hn6
    have hB_w6 : Cg (D + 1) b2 (D + 1) (wE.heap.size + 3) wY w6 := (((hc5.upd hu4 (by omega)).upd sb5.gr (by omega)).upd hu6 (by omega))
    have hq_w6 := (sb5.bk.upd hu6 (by omega))
    have hD_w6 := (hp_upd (hp_upd (hp_upd hD5 hu4 (by omega)) sb5.gr (by omega)) hu6 (by omega))
    exact ⟨false, rfl, hB_w6, fun h => (by cases h), fun _ => ⟨by simp, hq_w6, ⟨_, hn6, rfl, rfl⟩, hD_w6⟩⟩
  rintro _ wZ ⟨-, hcg7, hres⟩
  have hB_wE := (bl_ext (bl_ext hB_w2 hx3) hxE)
  have hB_wZ := below_cg hB_wE hcg7 (by omega)
  rcases hres with ⟨hnil, hq7, hL7, hD7⟩ | ⟨ys, hys, hne, hq7, ⟨lp7, hL7, hst7, hpd7⟩, hD7⟩
  · skip
    refine ⟨_, hL7, by rw [hlp.st]; simp, fun _ => ?_, fun c hc => (by rw [hlp.pe] at hc; cases hc)⟩
    intro w7 hu7
    refine lv_block <| lv_next <| cc_seq <| cc_region ?_
    have hq_w7 := (hq7.upd hu7 (by omega))
    refine wl_ex0 rfl rfl (fun st => x_store (n := 1) (l := [.bool false]) (cs' := #[.bool false]) (ee st rfl) (ee st rfl) sz_4 hq_w7 rfl rfl (show 0 + 1 ≤ 1 by decide) (one_cells rfl) rfl) ?_
    rintro _ w8 sb8
    refine wl_end <| lv_next <| cc_ret ?_
    have hD_w8 := (hp_upd (hp_upd hD7 hu7 (by omega)) sb8.gr (by omega))
    refine lv_pm1 hD_w8 ?_ hdf
    intro w9 hu9
    have hq_w9 := (sb8.bk.upd hu9 (by omega))
    refine lv_retc (v := .bool false) rfl rfl (run_load1 one_4 ((hq_w9.cell 0).trans rfl)) ?_
    have hB_w9 := (bl_upd (bl_upd (bl_upd hB_wZ hu7 (by omega)) sb8.gr (by omega)) hu9 (by omega))
    exact ⟨vbool (by simp [hnil]), ext_of_below hB_w9⟩
  · skip
    refine ⟨lp7, hL7, by rw [hst7]; simp, fun hp => (by rw [hpd7] at hp; cases hp), fun c hc => ?_⟩
    rw [hpd7] at hc
    obtain rfl : c = .ret := by simpa using hc.symm
    intro w10 hu10
    refine cc_ret <| lv_block_ret <| lv_then_ret ?_
    have hD_w10 := (hp_upd hD7 hu10 (by omega))
    refine lv_pm1 hD_w10 ?_ hdf
    intro w11 hu11
    have hq_w11 := ((hq7.upd hu10 (by omega)).upd hu11 (by omega))
    refine lv_retc (v := .bool true) rfl rfl (run_load1 one_4 ((hq_w11.cell 0).trans rfl)) ?_
    have hB_w11 := (bl_upd (bl_upd hB_wZ hu10 (by omega)) hu11 (by omega))
    exact ⟨vbool (decide_eq_true (by intro e; rw [e] at hys; exact hne (List.prefix_nil.1 hys))).symm, ext_of_below hB_w11⟩
end Go.Proofs.Ythogdgkafaclaaa
end
section
set_option linter.unusedVariables false
set_option linter.unusedSimpArgs false
namespace Go.Proofs.Ythogdgkafaclaaa
open Go.RowKit
attribute [local irreducible] Ex1 WL CC CW LV Ret ObOp Agg One Own
/-- What asked finds out: an error, or none. -/
def askE (f : Fld) (bb : Bool) : Int := if check f ≠ 0 then check f else if bb = false then 2 else if truths f [] = [] then 11 else 0
def wk (f : Fld) (A : Option Addr) (c : Nat) (sv : Value) : Array Value := #[I f.rows, I f.wd, I f.lo, I f.hi, .slice A f.ts.length c, sv]
def J66 (f : Fld) (A : Option Addr) (c : Nat) (pb q r D lim : Nat) (o : Obj) : List (List Int) → World → Prop := fun xs w => Bk w pb 97 #[.pointer (some ⟨q, 0, none⟩)] ∧
  (∃ A' c', Bk w q 102 (wk f A c (.slice A' xs.length c')) ∧ OwnS w lim 105 7 A' xs.length c' (flat ivs xs)) ∧ w.heap[r]? = some o ∧ w.heap[D]? = some (.deferred (some []))
theorem abid66 {f : Fld} {A : Option Addr} {c : Nat} {pb q r D lim lo hi : Nat} {o : Obj} (h : pb < lo ∧ q < lo ∧ r < lo ∧ D < lo ∧ hi ≤ lim) : Abid lo hi (J66 f A c pb q r D lim o) :=
  ⟨fun ⟨a, ⟨A', c', b1, b2⟩, d, e⟩ g => ⟨a.ext g, ⟨A', c', b1.ext g, b2.ext g⟩, hp_ext d g, hp_ext e g⟩,
   fun ⟨a, ⟨A', c', b1, b2⟩, d, e⟩ g hr => ⟨a.upd g (by omega), ⟨A', c', b1.upd g (by omega), b2.upd g (by omega)⟩, hp_upd d g (by omega), hp_upd e g (by omega)⟩⟩
/-- The worlds within a round. -/
def T66 (f : Fld) (A : Option Addr) (c : Nat) (w0 : World) (pb q b8 r D lim n : Nat) (A1 : Option Addr) (c1 : Nat) (o : Obj) (x : List Int) (cs : List Value) : Nat → World → Prop
  | 0, w => Ext w0 w
  | 1, w => Bk w pb 97 #[.pointer (some ⟨q, 0, none⟩)] ∧ Bk w q 102 (wk f A c (.slice A1 n c1)) ∧ Bk w b8 105 (ivs x).toArray ∧ w.heap[r]? = some o ∧ w.heap[D]? = some (.deferred (some [])) ∧ Cg r q r lim w0 w
  | _ + 2, w => Bk w pb 97 #[.pointer (some ⟨q, 0, none⟩)] ∧ (∃ A' c', Bk w q 102 (wk f A c (.slice A' (n + 1) c')) ∧ OwnS w lim 105 7 A' (n + 1) c' cs) ∧ Bk w b8 105 (ivs x).toArray ∧ w.heap[r]? = some o ∧ w.heap[D]? = some (.deferred (some [])) ∧ Cg r q r lim w0 w
section
variable {f : Fld} {A : Option Addr} {c : Nat} {w0 : World} {pb q b8 r D lim n : Nat} {A1 : Option Addr} {c1 : Nat} {o : Obj} {x : List Int} {cs : List Value}
theorem T66_ext : ∀ k a b, T66 f A c w0 pb q b8 r D lim n A1 c1 o x cs k a → Ext a b → T66 f A c w0 pb q b8 r D lim n A1 c1 o x cs k b
  | 0, _, _, h, g => Ext.trans h g
  | 1, _, _, ⟨h1, h2, h3, h4, h5, h6⟩, g => ⟨h1.ext g, h2.ext g, h3.ext g, hp_ext h4 g, hp_ext h5 g, h6.ext g⟩
  | _ + 2, _, _, ⟨h1, ⟨A', c', h2, h2'⟩, h3, h4, h5, h6⟩, g => ⟨h1.ext g, ⟨A', c', h2.ext g, h2'.ext g⟩, h3.ext g, hp_ext h4 g, hp_ext h5 g, h6.ext g⟩
theorem T66_pb {k : Nat} {w : World} (hb : Bk w0 pb 97 #[.pointer (some ⟨q, 0, none⟩)]) (h : T66 f A c w0 pb q b8 r D lim n A1 c1 o x cs k w) : Bk w pb 97 #[.pointer (some ⟨q, 0, none⟩)] := by
  match k, h with
  | 0, h => exact hb.ext h
  | 1, h => exact h.1
  | _ + 2, h => exact h.1
theorem T66_b8 {k : Nat} {w : World} (hb : Bk w0 b8 105 (ivs x).toArray) (h : T66 f A c w0 pb q b8 r D lim n A1 c1 o x cs k w) : Bk w b8 105 (ivs x).toArray := by
  match k, h with
  | 0, h => exact hb.ext h
  | 1, h => exact h.2.2.1
  | _ + 2, h => exact h.2.2.1
theorem T66_q0 {k : Nat} {w : World} (hb : Bk w0 q 102 (wk f A c (.slice A1 n c1))) (h : T66 f A c w0 pb q b8 r D lim n A1 c1 o x cs k w) (hk : k = 0) : Ext w0 w := by subst hk; exact h
theorem T66_q1 {k : Nat} {w : World} (h : T66 f A c w0 pb q b8 r D lim n A1 c1 o x cs k w) (hk : k = 1) : T66 f A c w0 pb q b8 r D lim n A1 c1 o x cs 1 w := by subst hk; exact h
/-- The row's step. -/
theorem T66_app {w1 w2 wY : World} {cs0 : List Value} (ho0 : OwnS wY lim 105 7 A1 n c1 cs0) (hord : q < lim ∧ pb < lim ∧ r < lim ∧ D < lim ∧ wY.heap.size ≤ b8 ∧ lim ≤ wY.heap.size) (hown : OwnS w1 lim 105 7 A1 n c1 cs0) (hlim : lim ≤ w0.heap.size)
    (h1 : Bk w0 pb 97 #[.pointer (some ⟨q, 0, none⟩)]) (h2 : Bk w0 q 102 (wk f A c (.slice A1 n c1))) (h3 : Bk w0 b8 105 (ivs x).toArray) (h4 : w0.heap[r]? = some o) (h5 : w0.heap[D]? = some (.deferred (some [])))
    (g0 : Ext w0 w1) (g : w1.grownBy w2 (Value.ownBlock (.slice A1 n c1))) : T66 f A c w0 pb q b8 r D lim n A1 c1 o x cs 1 w2 := by
  have hl1 : lim ≤ w1.heap.size := Nat.le_trans hlim g0.size
  have hB := below_row hown hl1 (Nat.le_refl _) g
  exact ⟨(h1.ext g0).bw hB (by omega), (h2.ext g0).bw hB (by omega), Bk.row ho0 (h3.ext g0) hord.2.2.2.2.1 g, (hB.block r (by omega)).trans (hp_ext h4 g0), (hB.block D (by omega)).trans (hp_ext h5 g0), (Cg.ext (Cg.refl hlim) g0).bw hB (Nat.le_refl _)⟩
theorem T66_set {w1 w2 : World} {A' : Option Addr} {c' : Nat} (hord : q < lim ∧ pb < q ∨ q < lim ∧ q < pb) (hr : r ≠ q ∧ D ≠ q ∧ b8 ≠ q) (h : T66 f A c w0 pb q b8 r D lim n A1 c1 o x cs 1 w1) (hs : SetB w1 w2 q 102 (wk f A c (.slice A' (n + 1) c'))) (ho : OwnS w1 lim 105 7 A' (n + 1) c' cs) :
    T66 f A c w0 pb q b8 r D lim n A1 c1 o x cs 2 w2 := by
  obtain ⟨h1, h2, h3, h4, h5, h6⟩ := h
  exact ⟨h1.upd hs.gr (by omega), ⟨A', c', hs.bk, ho.upd hs.gr (by omega)⟩, h3.upd hs.gr (by omega), hp_upd h4 hs.gr (by omega), hp_upd h5 hs.gr (by omega), h6.upd hs.gr (by omega)⟩
end
theorem c66 (f : Fld) (A : Option Addr) (c : Nat) (k : FuncId) (cap : Array Value) (bb : Bool) (w : World) (hown : Own Try.prog k) (hfine : check f = 0 → ∀ w1, Ext w w1 → Ret Try.prog k cap w1 (fun v w2 => v = .bool bb ∧ Ext w1 w2)) (hT : Rd w 0 w.heap.size A (flat encT f.ts)) :
    Ret Try.prog 66 #[.agg #[I f.rows, I f.wd, I f.lo, I f.hi, .slice A f.ts.length c], (.func (.func k) #[] cap)] w (fun v w' => Ext w w' ∧ (askE f bb ≠ 0 → v = .tuple #[.pointer none, .int .i64 (askE f bb)]) ∧ (askE f bb = 0 → ∃ q A' c', v = .tuple #[.pointer (some ⟨q, 0, none⟩), .int .i64 0] ∧ w.heap.size ≤ q ∧ Bk w' q 102 (wk f A c (.slice A' (truths f []).length c')) ∧ OwnS w' w.heap.size 105 7 A' (truths f []).length c' (flat ivs (truths f [])))) := by
  refine ret_of_ccm (N := 42) Try.func66 rfl rfl (by simp) ?_
  intro fr0 ha hdf
  have hp0 := sl_arg (i := 0) (v := .agg #[I f.rows, I f.wd, I f.lo, I f.hi, .slice A f.ts.length c]) ha rfl
  have hp1 := sl_arg (i := 1) (v := (.func (.func k) #[] cap)) ha rfl
  clear ha
  refine cc_seq <| cc_region <| we rfl (fun st => x_box (v := .agg #[I f.rows, I f.wd, I f.lo, I f.hi, .slice A f.ts.length c]) (cs := #[I f.rows, I f.wd, I f.lo, I f.hi, .slice A f.ts.length c]) (ee st hp0) rfl) ?_
  rintro _ w1 ⟨b1, rfl, nb1⟩
  have lo1 : w.heap.size ≤ b1 := by rw [nb1.b_eq]; exact (Below.refl w.heap.size w).size
  refine wa rfl (v := .pointer none) rfl <| wa rfl (v := I 0) rfl <| wl_end <| lv_next <| cc_seq <| cc_seq <| cc_region <| wd rfl (fun st => x_loadn (l := [I f.rows, I f.wd, I f.lo, I f.hi, .slice A f.ts.length c]) agg_36 (ee st rfl) nb1.bk rfl rfl) ?_
  have hT_w1 := (hT.ext nb1.gr)
  refine we rfl (fun st => x_call0 own_51 (ee st rfl) (am1 (ee st rfl)) (c51 f A c _ hT_w1.wide)) ?_
  rintro _ w2 ⟨rfl, hx2⟩
  refine wa rfl (v := I (check f)) rfl <| wl_end <| lv_next <| cc_block <| cc_seq <| cc_region <| wm rfl (v := I (check f)) rfl <| wd rfl (fun st => x_neq (ee st rfl) (ee st rfl)) <| wa rfl (v := .bool ((check f) != 0)) rfl <| wl_end <| lv_next ?_
  rcases bool_cases ((check f) != 0) with hc3 | hc3
  · refine cc_cond_t rfl hc3 ?_
    have hc3p := hc3
    have hc3p := bne_t hc3p
    refine cc_seq <| cc_region <| wm rfl (v := I (check f)) rfl <| wa rfl (v := .pointer none) rfl <| wa rfl (v := I (check f)) rfl <| wl_end <| lv_next <| cc_ret <| lv_block_ret <| lv_then_ret <| lv_pm <| lv_ret2 rfl rfl rfl ?_
    have he : askE f bb = check f := if_pos hc3p
    have hB_w2 := (bl_ext (bl_ext (Below.refl w.heap.size w) nb1.gr) hx2)
    exact ⟨ext_of_below hB_w2, fun _ => (congrArg (fun z => Value.tuple #[.pointer none, .int .i64 z]) he).symm, fun h => absurd (he.symm.trans h) hc3p⟩
  · refine cc_cond_f rfl hc3 ?_
    have hc3p := hc3
    have hc3p := bne_f hc3p
    have hck : check f = 0 := hc3p
    obtain ⟨⟨hr0, hr1⟩, ⟨hw0, hw1⟩, h5, hok, -, -⟩ := check_ok hck
    refine cc_seq <| cc_region <| wm rfl (v := (.func (.func k) #[] cap)) hp1 ?_
    have hB_w2 := (bl_ext (bl_ext (Below.refl w.heap.size w) nb1.gr) hx2)
    refine we rfl (fun st => x_call hown (ee st rfl) am0 (all := cap) (by simp) (hfine hck _ (ext_of_below hB_w2))) ?_
    rintro _ w4 ⟨rfl, hx4⟩
    refine wd rfl (fun st => x_not (ee st rfl)) <| wa rfl (v := .bool !bb) rfl <| wl_end <| lv_next ?_
    rcases bool_cases (!bb) with hc5 | hc5
    · refine cc_cond_t rfl hc5 ?_
      have hc5p := hc5
      have hc5p := not_t hc5p
      have hc5_6 : bb = false := by simpa using hc5
      refine cc_seq <| cc_region <| wa rfl (v := .pointer none) rfl <| wa rfl (v := I 2) rfl <| wl_end <| lv_next <| cc_ret <| lv_block_ret <| lv_then_ret <| lv_pm <| lv_ret2 rfl rfl rfl ?_
      have he : askE f bb = 2 := by unfold askE; rw [if_neg (by omega), if_pos hc5_6]
      have hB_w4 := (bl_ext hB_w2 hx4)
      exact ⟨ext_of_below hB_w4, fun _ => (congrArg (fun z => Value.tuple #[.pointer none, .int .i64 z]) he).symm, fun h => by omega⟩
    · refine cc_cond_f rfl hc5 ?_
      have hc5p := hc5
      have hc5p := not_f hc5p
      have hc5_7 : bb = true := by simpa using hc5
      refine cc_skip <| lv_block <| lv_next <| cc_seq <| cc_region ?_
      have bk1_w4 := ((nb1.bk.ext hx2).ext hx4)
      refine wd rfl (fun st => x_loadn (l := [I f.rows, I f.wd, I f.lo, I f.hi, .slice A f.ts.length c]) agg_36 (ee st rfl) bk1_w4 rfl rfl) <| wd rfl (fun st => x_build (vs := #[(0, .agg #[I f.rows, I f.wd, I f.lo, I f.hi, .slice A f.ts.length c])]) (v := .agg #[I f.rows, I f.wd, I f.lo, I f.hi, .slice A f.ts.length c, .slice none 0 0]) (pm1 (ee st rfl)) (by kernel_rfl)) <| we rfl (fun st => x_box (v := .agg #[I f.rows, I f.wd, I f.lo, I f.hi, .slice A f.ts.length c, .slice none 0 0]) (cs := #[I f.rows, I f.wd, I f.lo, I f.hi, .slice A f.ts.length c, .slice none 0 0]) (ee st rfl) rfl) ?_
      rintro _ w9 ⟨b9, rfl, nb9⟩
      have hB_w4 := (bl_ext hB_w2 hx4)
      have lo9 : w.heap.size ≤ b9 := by rw [nb9.b_eq]; exact hB_w4.size
      have ltb1_9 : b1 < b9 := by rw [nb9.b_eq]; exact bk1_w4.lt
      refine we rfl (fun st => x_alloc (cs := #[.pointer none]) zero_97 rfl) ?_
      rintro _ w10 ⟨b10, rfl, nb10⟩
      have hB_w9 := (bl_ext hB_w4 nb9.gr)
      have lo10 : w.heap.size ≤ b10 := by rw [nb10.b_eq]; exact hB_w9.size
      have bk1_w9 := (bk1_w4.ext nb9.gr)
      have ltb1_10 : b1 < b10 := by rw [nb10.b_eq]; exact bk1_w9.lt
      have ltb9_10 : b9 < b10 := by rw [nb10.b_eq]; exact nb9.bk.lt
      refine wl_ex0 rfl rfl (fun st => x_store (n := 1) (l := [pt b9 0]) (cs' := #[pt b9 0]) (ee st rfl) (ee st rfl) sz_97 nb10.bk rfl rfl (show 0 + 1 ≤ 1 by decide) (one_cells rfl) rfl) ?_
      rintro _ w11 sb11
      refine wl_end <| lv_next <| cc_seq <| cc_seq ?_
      have hOn : Rd w 0 w.heap.size none (ivs []) := Rd.nil (Nat.le_refl _)
      refine cc_region ?_
      have bk1_w11 := ((bk1_w9.ext nb10.gr).upd sb11.gr (by omega))
      refine wd rfl (fun st => x_loadn (l := [I f.rows, I f.wd, I f.lo, I f.hi, .slice A f.ts.length c]) agg_36 (ee st rfl) bk1_w11 rfl rfl) <| we rfl (fun st => x_call0 own_99 (ee st rfl) (am2 (ee st rfl) (ee st rfl)) (c99 f A c [] none 0 _)) ?_
      rintro _ w12 ⟨fb12, ob12, rfl, hfb12, hob12, hsz12, bkf12, bko12, hx12⟩
      have ltb1_12 : b1 < fb12 := by rw [hfb12]; exact bk1_w11.lt
      have bk9_w11 := ((nb9.bk.ext nb10.gr).upd sb11.gr (by omega))
      have ltb9_12 : b9 < fb12 := by rw [hfb12]; exact bk9_w11.lt
      have ltb10_12 : b10 < fb12 := by rw [hfb12]; exact sb11.bk.lt
      have hB_w11 := (bl_upd (bl_ext hB_w9 nb10.gr) sb11.gr (by omega))
      have lof12 : w.heap.size ≤ fb12 := by rw [hfb12]; exact hB_w11.size
      refine wl_end <| lv_next <| cc_block ?_
      have hszq := hsz12
      refine cc_range (gf := 116) own_116 rfl ?_
      intro sT lp0 wE hlp hxE hszE hD hL
      obtain ⟨D, hDq⟩ : ∃ D, D = w12.heap.size := ⟨_, rfl⟩
      rw [← hDq] at hszE hD hL ⊢
      have ltD : ob12 < D := by omega
      rw [app2]
      have bk9_wE := ((bk9_w11.ext hx12).ext hxE)
      have bk10_wE := ((sb11.bk.ext hx12).ext hxE)
      have hT_wE := (((((((hT_w1.ext hx2).ext hx4).ext nb9.gr).ext nb10.gr).upd sb11.gr (by omega)).ext hx12).ext hxE)
      have hOn_wE := ((((((((hOn.ext nb1.gr).ext hx2).ext hx4).ext nb9.gr).ext nb10.gr).upd sb11.gr (by omega)).ext hx12).ext hxE)
      have hfb_wE := (bkf12.ext hxE)
      have hob_wE := (bko12.ext hxE)
      refine (c116 f A c [] none 0 w.heap.size b9 fb12 ob12 (D + 1) (J66 f A c b10 b9 (D + 1) D (wE.heap.size + 3) (.loop lp0)) (fun _ _ => False) wE (by omega) (by omega) (by omega) (by omega) (by omega) hok (by first | omega | simp) (by omega) ?hA ?hY hT_wE hOn_wE hfb_wE hob_wE ?hJ).mono ?_
      case hA => exact abid66 ⟨by omega, by omega, by omega, by omega, by omega⟩
      case hJ => exact ⟨bk10_wE, ⟨none, 0, bk9_wE, OwnS.nil _ _ _ _⟩, hL, hD⟩
      case hY =>
        rintro xs x wY ⟨hpbY, ⟨A1, c1, hqY, hrowY⟩, hLY, hDY⟩ hpx hlim0
        have hx7 : x.length = 7 := truths_len (by omega) x (prefix_mem hpx)
        have hcnt := truths_count (f := f) (out := []) (by omega) (by omega)
        have hcnt2 := prefix_len hpx
        obtain ⟨lim, hlimq⟩ : ∃ n, n = wE.heap.size + 3 := ⟨_, rfl⟩
        rw [← hlimq] at hrowY hlim0 ⊢
        refine yield_at (R := fun v wR => ∃ bb : Bool, v = .bool bb ∧ Cg (D + 1) b9 (D + 1) lim wY wR ∧ (bb = true → J66 f A c b10 b9 (D + 1) D lim (.loop lp0) (xs ++ [x]) wR) ∧ (bb = false → False)) sT hLY hlp ?_ (by decide)
        have hltY : ∀ k o, A1 = some ⟨k, o, none⟩ → k < wY.heap.size := fun k o h => (hrowY.blk h).2.1
        have hcY : Cg (D + 1) b9 (D + 1) lim wY wY := Cg.refl hlim0
        refine cc_region <| we rfl (fun st => x_alloc (cs := #[I 0, I 0, I 0, I 0, I 0, I 0, I 0]) zero_105 rfl) ?_
        rintro _ w13 ⟨b13, rfl, nb13⟩
        have lo13 : wY.heap.size ≤ b13 := by rw [nb13.b_eq]; exact hcY.size
        refine wl_ex0 rfl rfl (fun st => x_store_all (n := 7) (cs' := (ivs x).toArray) (ee st rfl) (ee st rfl) sz_105 nb13.bk rfl (by simp [ivs, hx7]) rfl (one_ivs x)) ?_
        rintro _ w14 sb14
        refine wl_end ?_
        have hL_w14 := (hp_upd (hp_ext hLY nb13.gr) sb14.gr (by omega))
        refine lv_begin hL_w14 hlp.st ?_
        intro w15 hu15 hn15
        refine cc_block ?_
        have hB_w15 : Cg (D + 1) b9 (D + 1) lim wY w15 := (((hcY.ext nb13.gr).upd sb14.gr (by omega)).upd hu15 (by omega))
        have hl15 : lim ≤ w15.heap.size := hB_w15.le
        have hpb_w15 := (((hpbY.ext nb13.gr).upd sb14.gr (by omega)).upd hu15 (by omega))
        have hq_w15 := (((hqY.ext nb13.gr).upd sb14.gr (by omega)).upd hu15 (by omega))
        have bk13_w15 := (sb14.bk.upd hu15 (by omega))
        have hD_w15 := (hp_upd (hp_upd (hp_ext hDY nb13.gr) sb14.gr (by omega)) hu15 (by omega))
        have hrow_w15 := (((hrowY.ext nb13.gr).updx sb14.gr hltY (by omega)).updx hu15 hltY (by omega))
        refine cc_anys (T66 f A c w15 b10 b9 b13 (D + 1) D lim xs.length A1 c1 _ x (flat ivs xs ++ ivs x)) [7, 10] [Kc (pt b9 0), Kc (pt b9 0), Kc (pt b9 0), Kc (pt b9 5), Kc (.slice A1 xs.length c1), Kc (ansV x), Kn w15.heap.size (fun b => .slice (some ⟨b, 0, none⟩) 1 1) 105 (ivs x).toArray, ⟨fun v w => ∃ A2 c2, v = .slice A2 (xs.length + 1) c2 ∧ OwnS w lim 105 7 A2 (xs.length + 1) c2 (flat ivs xs ++ ivs x), fun _ _ _ ⟨A2, c2, h1, h2⟩ g => ⟨A2, c2, h1, h2.ext g⟩⟩, Kc (pt b9 0), Kc (pt b9 5), Kt] mixed rfl
            T66_ext (ext_drew _)
            (obs_cons (ob_det rfl rfl (fun _ => rfl) (fun a' w' ph K => x_load1 (v := pt b9 0) one_97 (es (t := 7) (v := pt b10 0) ((K.out 7 rfl).trans rfl)) (T66_pb hpb_w15 K.phT) rfl))
            (obs_cons (ob_det rfl rfl (fun _ => rfl) (fun a' w' ph K => x_load1 (v := pt b9 0) one_97 (es (t := 7) (v := pt b10 0) ((K.out 7 rfl).trans rfl)) (T66_pb hpb_w15 K.phT) rfl))
            (obs_cons (ob_det rfl rfl (fun _ => rfl) (fun a' w' ph K => x_nilCheck (es (t := 26) (v := pt b9 0) (K.dep 1 26 rfl rfl))))
            (obs_cons (ob_det rfl rfl (fun _ => rfl) (fun a' w' ph K => x_fieldAddr (es (t := 27) (v := pt b9 0) (K.dep 2 27 rfl rfl)) (fz_102_1 _ _)))
            (obs_cons (ob_det rfl rfl (fun _ => rfl) (fun a' w' ph K => x_load1 (v := .slice A1 xs.length c1) one_100 (es (t := 28) (v := pt b9 5) (K.dep 3 28 rfl rfl)) (hq_w15.ext (T66_q0 hq_w15 K.phT (Nat.le_zero.1 (K.lat 0 7 _ rfl rfl rfl)))) rfl))
            (obs_cons (ob_det rfl rfl (fun _ => rfl) (fun a' w' ph K => x_load_all agg_105 (es (t := 8) (v := pt b13 0) ((K.out 8 rfl).trans rfl)) (T66_b8 bk13_w15 K.phT) (by simp [ivs, hx7])))
            (obs_cons (ob_ext rfl rfl (fun a' w' ph K => (x_buildSlice (e := 105) (cs := (ivs x).toArray) (pm1 (es (t := 30) (v := ansV x) (K.dep 5 30 rfl rfl))) (bs_100 x hx7 _)).mono (fun u w'' hh => kn_mk ((T66_q0 hq_w15 K.phT (Nat.le_zero.1 (K.lat 0 7 _ rfl rfl rfl)))).size hh)))
            (obs_cons (ob_spec rfl rfl (fun a' w' ph K => match K.dep 6 31 rfl rfl with | ⟨bb6, e6, l6, k6⟩ => (x_append Try.underlying100 info_105 rfl (by decide) (es (t := 29) (v := .slice A1 xs.length c1) (K.dep 4 29 rfl rfl)) (es (t := 31) (v := .slice (some ⟨bb6, 0, none⟩) 1 1) e6) (hrow_w15.ext (T66_q0 hq_w15 K.phT (K.spi 0 rfl))) k6 (by simp [ivs, hx7]) (one_ivs x) (by simp [maxLen]; omega) (by omega) (Nat.le_trans hl15 ((T66_q0 hq_w15 K.phT (K.spi 0 rfl))).size)).mono (fun v w'' ⟨A2, c2, hv, hO2, hg⟩ => ⟨⟨A2, c2, hv, hO2⟩, sk_of ⟨fun _ _ h => h, fun _ _ h => h, fun _ _ h => h, fun _ _ h => h, fun _ _ h => h, fun _ _ h => h, fun _ _ ⟨b, h1, h2, h3⟩ => ⟨b, h1, h2, Bk.row hrow_w15 h3 h2 hg⟩, fun h => absurd rfl h, fun _ _ h => h, fun _ _ h => h, fun _ _ h => h, trivial⟩, by have e := K.spi 0 rfl; subst e; exact T66_app hrowY ⟨by omega, by omega, by omega, by omega, by omega, by omega⟩ (hrow_w15.ext (T66_q0 hq_w15 K.phT (K.spi 0 rfl))) hl15 hpb_w15 hq_w15 bk13_w15 hn15 hD_w15 (T66_q0 hq_w15 K.phT (K.spi 0 rfl)) hg⟩)))
            (obs_cons (ob_det rfl rfl (fun _ => rfl) (fun a' w' ph K => match K.dep 6 31 rfl rfl with | ⟨bb6, e6, l6, k6⟩ => match K.dep 7 32 rfl rfl with | ⟨A2, c2, e7, k7⟩ => x_nilCheck (es (t := 25) (v := pt b9 0) (K.dep 0 25 rfl rfl))))
            (obs_cons (ob_det rfl rfl (fun _ => rfl) (fun a' w' ph K => match K.dep 6 31 rfl rfl with | ⟨bb6, e6, l6, k6⟩ => match K.dep 7 32 rfl rfl with | ⟨A2, c2, e7, k7⟩ => x_fieldAddr (es (t := 33) (v := pt b9 0) (K.dep 8 33 rfl rfl)) (fz_102_1 _ _)))
            (obs_cons (ob_spec rfl rfl (fun a' w' ph K => match K.dep 6 31 rfl rfl with | ⟨bb6, e6, l6, k6⟩ => match K.dep 7 32 rfl rfl with | ⟨A2, c2, e7, k7⟩ => (x_store (n := 1) (l := [.slice A2 (xs.length + 1) c2]) (cs' := wk f A c (.slice A2 (xs.length + 1) c2)) (es (t := 34) (v := pt b9 5) (K.dep 9 34 rfl rfl)) (es (t := 32) (v := .slice A2 (xs.length + 1) c2) e7) sz_100 (T66_q1 K.phT (K.spi 1 rfl)).2.1 rfl rfl (show 5 + 1 ≤ 6 by decide) (one_cells rfl) rfl).mono (fun v w'' hs => ⟨trivial, sk_of ⟨fun _ _ h => h, fun _ _ h => h, fun _ _ h => h, fun _ _ h => h, fun _ _ h => h, fun _ _ h => h, fun _ _ ⟨b, h1, h2, h3⟩ => ⟨b, h1, h2, h3.upd hs.gr (by omega)⟩, fun _ _ ⟨A2, c2, h1, h2⟩ => ⟨A2, c2, h1, h2.upd hs.gr (by omega)⟩, fun _ _ h => h, fun _ _ h => h, fun _ _ h => h, trivial⟩, by have e := K.spi 1 rfl; subst e; exact T66_set (by omega) ⟨by omega, by omega, by omega⟩ K.phT hs k7⟩)))
            (obs_nil _)))))))))))) ?_
        intro w16 hx16
        rintro _ rfl _ rfl _ rfl _ rfl _ rfl _ rfl _ ⟨bb6, rfl, lobb6, bkbb6⟩ _ ⟨A2, c2, rfl, hO2⟩ _ rfl _ rfl
        obtain ⟨hpb9, ⟨A9, c9, hq9, hrow9⟩, -, hL9, hD9, hcg9⟩ := hx16
        refine lv_block <| lv_rend hL9 ?_
        intro w17 hu17 hn17
        have hB_w17 : Cg (D + 1) b9 (D + 1) lim wY w17 := ((hB_w15.trans hcg9).upd hu17 (by omega))
        have hLf : w17.heap[D + 1]? = some (.loop lp0) := by rw [hn17]; have h1 := hlp.st; have h2 := hlp.pe; cases lp0; simp only at h1 h2; subst h1; subst h2; rfl
        have hpb_w17 := (hpb9.upd hu17 (by omega))
        have hq_w17 := (hq9.upd hu17 (by omega))
        have hrow_w17 := (hrow9.upd hu17 (by omega))
        have hD_w17 := (hp_upd hD9 hu17 (by omega))
        exact ⟨true, rfl, hB_w17, fun _ => ⟨hpb_w17, ⟨A9, c9, by rw [List.length_append]; exact hq_w17, by rw [List.length_append, flat_snoc]; exact hrow_w17⟩, hLf, hD_w17⟩, fun h => by cases h⟩
      rintro _ wZ ⟨-, hcg7, hres⟩
      have hB_wE := (bl_ext (bl_ext hB_w11 hx12) hxE)
      have hB_wZ := below_cg hB_wE hcg7 (by omega)
      obtain ⟨hpbZ, ⟨A1, c1, hqZ, hrowZ⟩, hLZ, hDZ⟩ := hres.resolve_right (by rintro ⟨_, _, hf⟩; exact hf)
      refine ⟨_, hLZ, by rw [hlp.st]; simp, fun _ => ?_, fun c hc => (by rw [hlp.pe] at hc; cases hc)⟩
      intro w18 hu18
      refine lv_block <| lv_next <| cc_seq <| cc_seq <| cc_region ?_
      have hpb_w18 := (hpbZ.upd hu18 (by omega))
      refine wd rfl (fun st => x_load1 (v := pt b9 0) one_97 (ee st rfl) hpb_w18 rfl) <| wd rfl (fun st => x_nilCheck (ee st rfl)) <| wd rfl (fun st => x_fieldAddr (ee st rfl) (fz_102_1 _ _)) ?_
      have hq_w18 := (hqZ.upd hu18 (by omega))
      refine wd rfl (fun st => x_load1 (v := .slice A1 ((truths f []).length) c1) one_100 (ee st rfl) hq_w18 rfl) <| wd rfl (fun st => x_len Try.underlying100 (ee st rfl)) <| wd rfl (fun st => x_eql (ee st rfl) (ee st rfl)) <| wl_end <| lv_next ?_
      rcases bool_cases ((((truths f []).length : Nat) : Int) == 0) with hc19 | hc19
      · refine cc_cond_t rfl hc19 ?_
        have hc19p := hc19
        have hc19p := eq_of_beq hc19p
        refine cc_seq <| cc_region <| wa rfl (v := .pointer none) rfl <| wa rfl (v := I 11) rfl <| wl_end <| lv_next <| cc_ret <| lv_then_ret ?_
        have hD_w18 := (hp_upd hDZ hu18 (by omega))
        refine lv_pm1 hD_w18 ?_ hdf
        intro w20 hu20
        refine lv_ret2 rfl rfl rfl ?_
        have hb0 : ¬ bb = false := by rw [hc5_7]; simp
        have hT0 : truths f [] = [] := List.eq_nil_of_length_eq_zero (by omega)
        have he : askE f bb = 11 := by unfold askE; rw [if_neg (by omega), if_neg hb0, if_pos hT0]
        have hB_w20 := (bl_upd (bl_upd hB_wZ hu18 (by omega)) hu20 (by omega))
        exact ⟨ext_of_below hB_w20, fun _ => (congrArg (fun z => Value.tuple #[.pointer none, .int .i64 z]) he).symm, fun h => by omega⟩
      · refine cc_cond_f rfl hc19 ?_
        have hc19p := hc19
        have hc19p := ne_of_beq_false hc19p
        refine cc_skip <| lv_next <| cc_seq <| cc_region <| wd rfl (fun st => x_load1 (v := pt b9 0) one_97 (ee st rfl) hpb_w18 rfl) <| wa rfl (v := pt b9 0) rfl <| wa rfl (v := I 0) rfl <| wl_end <| lv_next <| cc_ret ?_
        have hD_w18 := (hp_upd hDZ hu18 (by omega))
        refine lv_pm1 hD_w18 ?_ hdf
        intro w21 hu21
        refine lv_ret2 rfl rfl rfl ?_
        have hb0 : ¬ bb = false := by rw [hc5_7]; simp
        have hq_w21 := (hq_w18.upd hu21 (by omega))
        have hrow_w21 := ((hrowZ.upd hu18 (by omega)).upd hu21 (by omega))
        have hT0 : truths f [] ≠ [] := fun h => by rw [h] at hc19p; simp at hc19p
        have he : askE f bb = 0 := by unfold askE; rw [if_neg (by omega), if_neg hb0, if_neg hT0]
        have hB_w21 := (bl_upd (bl_upd hB_wZ hu18 (by omega)) hu21 (by omega))
        exact ⟨ext_of_below hB_w21, fun h => absurd he h, fun _ => ⟨b9, A1, c1, rfl, by omega, hq_w21, hrow_w21.weak (by omega)⟩⟩
end Go.Proofs.Ythogdgkafaclaaa
end
section
set_option linter.unusedVariables false
set_option linter.unusedSimpArgs false
namespace Go.Proofs.Ythogdgkafaclaaa
open Go.RowKit
attribute [local irreducible] Ex1 WL CC CW LV Ret ObOp Agg One Own
theorem c118 (xs : List Int) (B : Option Addr) (d : Nat) (w : World) (h1 : 1 ≤ xs.length) (hl : xs.length ≤ 100000) (hs : Rd w 0 w.heap.size B (ivs xs)) :
    Ret Try.prog 118 #[.slice B xs.length d] w (fun v w' => v = .int .i64 (minL xs) ∧ w' = w) := by
  refine ret_of_cc (N := 25) Try.func118 rfl rfl (by simp) ?_
  intro fr0 ha hdf
  have hp0 := sl_arg (i := 0) (v := .slice B xs.length d) ha rfl
  clear ha
  refine cc_seq <| cc_region <| wa rfl (v := I 0) rfl <| wl_end <| lv_next <| cc_seq <| cc_seq <| cc_region <| wm rfl (v := .slice B xs.length d) hp0 <| wd rfl (fun st => x_len Try.underlying43 (ee st rfl)) <| wd rfl (fun st => x_lss (ee st rfl) (ee st rfl)) <| wl_end <| lv_next ?_
  rcases bool_cases (decide (((xs.length : Nat) : Int) < 1)) with hc1 | hc1
  · refine cc_cond_t rfl hc1 ?_
    have hc1p := hc1
    have hc1p := of_decide_eq_true hc1p
    exfalso
    omega
  · refine cc_cond_f rfl hc1 ?_
    have hc1p := hc1
    have hc1p := of_decide_eq_false hc1p
    refine cc_skip <| lv_next <| cc_seq <| cc_region <| wm rfl (v := .slice B xs.length d) hp0 ?_
    obtain ⟨bq2, oq2, hA2, -, -, -⟩ := Rd.elem1 hs (k := 0) (by rw [ivs_len]; exact (by omega))
    refine wd rfl (fun st => x_indexAddr1 (k := 0) Try.underlying43 sz_3 (ee st rfl) hA2 (ee st rfl) rfl (by omega)) <| wd rfl (fun st => x_load_rd (v := I (xs.getD 0 0)) one_3 (ee st rfl) (hs.cells hA2) (ivs_get xs 0 (by omega))) <| wa rfl (v := I (xs.getD 0 0)) rfl <| wl_end <| lv_next <| cc_seq <| cc_seq <| cc_region <| wa rfl (v := I 1) rfl <| wl_end <| lv_next <| cc_block ?_
    refine cc_loop (fun (m_ : Nat) (fr_ : Act) (w_ : World) => ∃ (k : Nat), m_ = xs.length - k ∧ (1 ≤ k ∧ k ≤ xs.length) ∧ fr_.tmps.size = 25 ∧ fr_.defers = [] ∧ sl fr_ 0 = .slice B xs.length d ∧ sl fr_ 2 = I 0 ∧ sl fr_ 5 = .slice B xs.length d ∧ sl fr_ 6 = I ((xs.length : Nat) : Int) ∧ sl fr_ 7 = .bool (decide (((xs.length : Nat) : Int) < 1)) ∧ sl fr_ 9 = .slice B xs.length d ∧ sl fr_ 10 = pt bq2 (oq2 + 0) ∧ sl fr_ 11 = I (xs.getD 0 0) ∧ sl fr_ 3 = I (minL (xs.take k)) ∧ sl fr_ 4 = I ((k : Nat) : Int) ∧ w = w_) (xs.length - 1) ?init3 ?round3
    case init3 =>
      intro st
      exact ⟨1, rfl, by omega, (puts_size _ _).trans st.sz, (puts_defers _ _).trans st.df, (sl_puts st 0).trans hp0, (sl_puts st 2).trans rfl, (sl_puts st 5).trans rfl, (sl_puts st 6).trans rfl, (sl_puts st 7).trans rfl, (sl_puts st 9).trans rfl, (sl_puts st 10).trans rfl, (sl_puts st 11).trans rfl, (sl_puts st 3).trans (vint (minL_one xs h1).symm), (sl_puts st 4).trans (rfl), rfl⟩
    case round3 =>
      rintro m_ fr3 _ ⟨k, rfl, hk, hsz3, hdf3, hs3_0, hs3_2, hs3_5, hs3_6, hs3_7, hs3_9, hs3_10, hs3_11, hs3_3, hs3_4, rfl⟩
      refine round_cc (N := 25) hsz3 hdf3 <| cc_seq <| cc_seq <| cc_region <| wm rfl (v := I ((k : Nat) : Int)) hs3_4 <| wm rfl (v := .slice B xs.length d) hs3_0 <| wd rfl (fun st => x_len Try.underlying43 (ee st rfl)) <| wd rfl (fun st => x_lss (ee st rfl) (ee st rfl)) <| wl_end <| lv_next ?_
      rcases bool_cases (decide (((k : Nat) : Int) < ((xs.length : Nat) : Int))) with hc4 | hc4
      · refine cc_cond_t rfl hc4 ?_
        have hc4p := hc4
        have hc4p := of_decide_eq_true hc4p
        refine cc_skip <| lv_next <| cc_seq <| cc_block <| cc_region <| wm rfl (v := I (minL (xs.take k))) hs3_3 <| wm rfl (v := .slice B xs.length d) hs3_0 <| wm rfl (v := I ((k : Nat) : Int)) hs3_4 <| wd rfl (fun st => x_indexAddr1 (k := k) Try.underlying43 sz_3 (ee st rfl) hA2 (ee st rfl) rfl (by omega)) <| wd rfl (fun st => x_load_rd (v := I (xs.getD k 0)) one_3 (ee st rfl) (hs.cells hA2) (ivs_get xs k (by omega))) <| wd rfl (fun st => x_min (ee st rfl) (ee st rfl)) <| wa rfl (v := I (min (minL (xs.take k)) (xs.getD k 0))) rfl <| wl_end <| lv_block <| lv_next <| cc_region <| wm rfl (v := I ((k : Nat) : Int)) hs3_4 <| wd rfl (fun st => x_add (ee st rfl) (ee st rfl) ⟨by omega, by omega⟩) <| wa rfl (v := I (((k : Nat) : Int) + 1)) rfl <| wl_end ?_
        refine lv_round (xs.length - (k + 1)) (by omega) (fun st => ?_)
        exact ⟨(k + 1), rfl, by omega, (puts_size _ _).trans st.sz, (puts_defers _ _).trans st.df, (sl_puts st 0).trans hs3_0, (sl_puts st 2).trans hs3_2, (sl_puts st 5).trans hs3_5, (sl_puts st 6).trans hs3_6, (sl_puts st 7).trans hs3_7, (sl_puts st 9).trans hs3_9, (sl_puts st 10).trans hs3_10, (sl_puts st 11).trans hs3_11, (sl_puts st 3).trans (vint (minL_step xs k hk.1 (by omega)).symm), (sl_puts st 4).trans (vint (by omega)), rfl⟩
      · refine cc_cond_f rfl hc4 ?_
        have hc4p := hc4
        have hc4p := of_decide_eq_false hc4p
        refine cc_exit <| lv_then_exit <| lv_then_exit <| lv_block_hit <| lv_next <| cc_seq <| cc_region <| wm rfl (v := I (minL (xs.take k))) hs3_3 <| wa rfl (v := I (minL (xs.take k))) rfl <| wl_end <| lv_next <| cc_ret <| lv_ret1 rfl rfl ?_
        rw [List.take_of_length_le (by omega)]
        exact ⟨rfl, rfl⟩
theorem c101 (xs : List Int) (B : Option Addr) (d : Nat) (w : World) (h1 : 1 ≤ xs.length) (hl : xs.length ≤ 100000) (hs : Rd w 0 w.heap.size B (ivs xs)) :
    Ret Try.prog 101 #[.slice B xs.length d] w (fun v w' => v = .int .i64 (minL xs) ∧ w' = w) := by
  refine ret_of_cc (N := 5) Try.func101 rfl rfl (by simp) ?_
  intro fr0 ha hdf
  have hp0 := sl_arg (i := 0) (v := .slice B xs.length d) ha rfl
  clear ha
  refine cc_seq <| cc_region <| wa rfl (v := I 0) rfl <| wl_end <| lv_next <| cc_seq <| cc_region <| wm rfl (v := .slice B xs.length d) hp0 <| we rfl (fun st => x_call0 own_118 (ee st rfl) (am1 (ee st rfl)) (c118 xs B d _ (by omega) (by omega) hs.wide)) ?_
  rintro _ _ ⟨rfl, rfl⟩
  refine wa rfl (v := I (minL xs)) rfl <| wl_end <| lv_next <| cc_ret <| lv_ret1 rfl rfl ?_
  exact ⟨rfl, rfl⟩
theorem c69 (lo hi n : Int) (w : World) :
    Ret Try.prog 69 #[.agg #[I lo, I hi], I n] w (fun v w' => v = .agg #[.int .i64 (minL [lo, n]), .int .i64 (max hi n)] ∧ Ext w w') := by
  refine ret_of_cc (N := 15) Try.func69 rfl rfl (by simp) ?_
  intro fr0 ha hdf
  have hp0 := sl_arg (i := 0) (v := .agg #[I lo, I hi]) ha rfl
  have hp1 := sl_arg (i := 1) (v := I n) ha rfl
  clear ha
  refine cc_seq <| cc_region <| we rfl (fun st => x_box (v := .agg #[I lo, I hi]) (cs := #[I lo, I hi]) (ee st hp0) rfl) ?_
  rintro _ w1 ⟨b1, rfl, nb1⟩
  have lo1 : w.heap.size ≤ b1 := by rw [nb1.b_eq]; exact (Below.refl w.heap.size w).size
  refine we rfl (fun st => x_alloc (cs := #[I 0, I 0]) zero_33 rfl) ?_
  rintro _ w2 ⟨b2, rfl, nb2⟩
  have hB_w1 := (bl_ext (Below.refl w.heap.size w) nb1.gr)
  have lo2 : w.heap.size ≤ b2 := by rw [nb2.b_eq]; exact hB_w1.size
  have ltb1_2 : b1 < b2 := by rw [nb2.b_eq]; exact nb1.bk.lt
  refine wl_end <| lv_next <| cc_seq ?_
  have bk1_w2 := (nb1.bk.ext nb2.gr)
  have ltr3 : b2 < w2.heap.size := nb2.bk.lt
  refine cc_anys (T2 w2 b2 (fun w_ => Bk w_ b2 33 #[I (minL [lo, n]), I (max hi n)])) [10] [Kc (pt b1 0), Kc (I lo), Kc (I n), Kn w2.heap.size (fun b => .slice (some ⟨b, 0, none⟩) 2 2) 3 #[I lo, I n], Kc (I (minL [lo, n])), Kc (pt b1 1), Kc (I hi), Kc (I n), Kc (I (max hi n)), Kc (.agg #[I (minL [lo, n]), I (max hi n)]), Kt] mixed rfl (T2_ext (fun _ _ h g => h.ext g)) (ext_drew w2)
      (obs_cons (ob_det rfl rfl (fun _ => rfl) (fun a' w' ph K => x_fieldAddr (es (t := 2) (v := pt b1 0) ((K.out 2 rfl).trans rfl)) (fz_33_0 _ _)))
      (obs_cons (ob_det rfl rfl (fun _ => rfl) (fun a' w' ph K => x_load1 (v := I lo) one_3 (es (t := 5) (v := pt b1 0) (K.dep 0 5 rfl rfl)) (bk1_w2.t2 K.phT (by omega)) rfl))
      (obs_cons (ob_det rfl rfl (fun _ => rfl) (fun a' w' ph K => x_move (v := I n) (es (t := 1) (v := I n) ((K.out 1 rfl).trans hp1))))
      (obs_cons (ob_ext rfl rfl (fun a' w' ph K => (x_buildSlice (e := 3) (vs := #[(0, I lo), (1, I n)]) (cs := #[I lo, I n]) (pm2 (es (t := 6) (v := I lo) (K.dep 1 6 rfl rfl)) (es (t := 7) (v := I n) (K.dep 2 7 rfl rfl))) (by kernel_rfl)).mono (fun u w'' hh => kn_mk (T2_upd K.phT).size hh)))
      (obs_cons (ob_ext rfl rfl (fun a' w' ph K => match K.dep 3 8 rfl rfl with | ⟨bb3_3, e3, l3, k3⟩ => (x_call0 own_101 rfl (am1 (es (t := 8) (v := .slice (some ⟨bb3_3, 0, none⟩) 2 2) e3)) (c101 [lo, n] (some ⟨bb3_3, 0, none⟩) 2 _ (by simp) (by simp) (rd_of_bk k3).wide)).mono (fun _ _ h => ⟨h.1, by rw [h.2]; exact Ext.refl _⟩)))
      (obs_cons (ob_det rfl rfl (fun _ => rfl) (fun a' w' ph K => x_fieldAddr (es (t := 2) (v := pt b1 0) ((K.out 2 rfl).trans rfl)) (fz_33_1 _ _)))
      (obs_cons (ob_det rfl rfl (fun _ => rfl) (fun a' w' ph K => x_load1 (v := I hi) one_3 (es (t := 10) (v := pt b1 1) (K.dep 5 10 rfl rfl)) (bk1_w2.t2 K.phT (by omega)) rfl))
      (obs_cons (ob_det rfl rfl (fun _ => rfl) (fun a' w' ph K => x_move (v := I n) (es (t := 1) (v := I n) ((K.out 1 rfl).trans hp1))))
      (obs_cons (ob_det rfl rfl (fun _ => rfl) (fun a' w' ph K => x_max (es (t := 11) (v := I hi) (K.dep 6 11 rfl rfl)) (es (t := 12) (v := I n) (K.dep 7 12 rfl rfl))))
      (obs_cons (ob_det rfl rfl (fun _ => rfl) (fun a' w' ph K => x_build (vs := #[(0, I (minL [lo, n])), (1, I (max hi n))]) (v := .agg #[I (minL [lo, n]), I (max hi n)]) (pm2 (es (t := 9) (v := I (minL [lo, n])) (K.dep 4 9 rfl rfl)) (es (t := 13) (v := I (max hi n)) (K.dep 8 13 rfl rfl))) (by kernel_rfl)))
      (obs_cons (ob_spec rfl rfl (fun a' w' ph K => match K.dep 3 8 rfl rfl with | ⟨bb3_3, e3, l3, k3⟩ => (x_store (n := 2) (l := [I (minL [lo, n]), I (max hi n)]) (cs' := #[I (minL [lo, n]), I (max hi n)]) (es (t := 4) (v := pt b2 0) ((K.out 4 rfl).trans rfl)) (es (t := 14) (v := .agg #[I (minL [lo, n]), I (max hi n)]) (K.dep 9 14 rfl rfl)) sz_33 (nb2.bk.ext (T2_zero K.phT (K.spi 0 rfl))) rfl rfl (show 0 + 2 ≤ 2 by decide) (one_cells rfl) rfl).mono (fun _ _ h => ⟨trivial, sk_of ⟨fun _ _ h => h, fun _ _ h => h, fun _ _ h => h, fun _ _ ⟨b, h1, h2, h3⟩ => ⟨b, h1, h2, h3.upd h.gr (by omega)⟩, fun _ _ h => h, fun _ _ h => h, fun _ _ h => h, fun _ _ h => h, fun _ _ h => h, fun _ _ h => h, fun _ _ h => h, trivial⟩, T2_up K.phT (K.spi 0 rfl) h.gr h.bk⟩)))
      (obs_nil _)))))))))))) ?_
  rintro w3 ⟨hx3, hm3⟩
  rintro _ rfl _ rfl _ rfl _ ⟨bb3_3, rfl, lobb3_3, bkbb3_3⟩ _ rfl _ rfl _ rfl _ rfl _ rfl _ rfl
  refine lv_next <| cc_ret <| lv_retc (v := .agg #[I (minL [lo, n]), I (max hi n)]) rfl rfl (run_loadn_bk agg_33 hm3 rfl rfl) ?_
  have hB_w3 := (bl_upd (bl_ext hB_w1 nb2.gr) hx3 (by omega))
  exact ⟨rfl, ext_of_below hB_w3⟩
theorem c67  (w : World) :
    Ret Try.prog 67 #[] w (fun v w' => v = .bool true ∧ Ext w w') := by
  refine ret_of_cc (N := 1) Try.func67 rfl rfl (by simp) ?_
  intro fr0 ha hdf
  clear ha
  refine cc_seq <| cc_region <| wa rfl (v := .bool false) rfl <| wl_end <| lv_next <| cc_seq <| cc_region <| wa rfl (v := .bool true) rfl <| wl_end <| lv_next <| cc_ret <| lv_ret1 rfl rfl ?_
  exact ⟨rfl, ext_of_below (Below.refl w.heap.size w)⟩
end Go.Proofs.Ythogdgkafaclaaa
end
