import Derived.WalkKit
import Derived.KernelRfl
import Derived.WalkSpells
import Derived.WalkLawsBesides
import Derived.Maps.AppendAt
import Derived.OrdersIn
import Derived.RangeFuncIn
import Derived.RangeFuncLeaves
import Derived.RangeFuncRecord
import Derived.RangeFuncSeq
import Derived.Scope
import Derived.DeepKeys3
import Derived.Laws.CopyRow
import Derived.Laws.OwnMore
import Derived.Laws.MakeOwn
import Derived.Laws.IdiomCopy
/-
  The contracts of the functions of the program and of the reference, and the logic that they are proved in: the base that several claims of this seat share.
-/
set_option linter.all false
section
namespace Go.Proofs.YtbhofkcbfblijaaGreat
open Go.RowKit
abbrev Env:=List (Nat×Value)
def Cf(a:Act):Env→Act
 |[]=>a
 |(d,v)::l=>(Cf a l).put (some d) v
def sl(a:Act)(s:Nat):Value:=a.tmps.getD s undef
def lk(b:Value):Env→Nat→Value
 |[],_=>b
 |(d,v)::l,s=>match Nat.beq d s with|true=>v|false=>lk b l s
def ev(a:Act)(l:Env):Operand→Value
 |.tmp t=>lk (sl a t) l t
 |.const v=>v
 |.global g=>.pointer (some ⟨g,0,none⟩)
 |.func f=>.func (.func f) #[] #[]
structure Ctx where
 ro:Option Nat
 ds:List Deferred
abbrev X0:Ctx:=⟨none,[]⟩
def Wd:Option Nat→Fence
 |none=>Fence.wide
 |some r=>Fence.wide.inRound r
theorem ON(ro:Option Nat)(f:FuncId):(Wd ro).fn f:=by cases ro<;>trivial
theorem Vo(ro:Option Nat):(Wd ro).depth=none:=by cases ro<;>rfl
theorem Vp(ro:Option Nat){n:Nat}:(Wd ro).depth.isSome=true→1≤n:=fun h=>by rw[Vo] at h;cases h
structure St(X:Ctx)(N:Nat)(a:Act)(l:Env):Prop where
 sz:a.tmps.size=N
 df:a.defers=X.ds
 lt:∀p∈l,p.1<N
theorem K1(a:Act)(l:Env):(Cf a l).tmps.size=a.tmps.size:=by
 induction l with
 |nil=>rfl
 |cons p l ih=>simp[Cf,Act.put,ih]
theorem EE(a:Act)(l:Env):(Cf a l).defers=a.defers:=by
 induction l with
 |nil=>rfl
 |cons p l ih=>simp[Cf,Act.put,ih]
theorem St.cons{X:Ctx}{N:Nat}{a:Act}{l:Env}(h:St X N a l){d:Nat}(c:d<N)(v:Value):St X N a ((d,v)::l):=
 ⟨h.sz,h.df,fun p b=>by
  rcases List.mem_cons.1 b with rfl|b
  ·exact c
  ·exact h.lt p b⟩
theorem Ln{X:Ctx}{N:Nat}{a:Act}:∀{l:Env},St X N a l→∀s,sl (Cf a l) s=lk (sl a s) l s
 |[],_,_=>rfl
 |(d,v)::l,h,s=>by
  have c:St X N a l:=⟨h.sz,h.df,fun p e=>h.lt p (List.mem_cons_of_mem _ e)⟩;have ih:=Ln c s;have f:d<N:=h.lt (d,v) (List.mem_cons_self ..);unfold sl at*;simp only[Cf,Act.put,lk];cases hb:Nat.beq d s with
  |true=>
   obtain rfl:d=s:=Nat.eq_of_beq_eq_true hb;simp[K1,h.sz,f]
  |false=>
   have b:d≠s:=Nat.ne_of_beq_eq_false hb;rw[←ih];simp[Array.getElem?_setIfInBounds_ne b]
theorem Xe{X:Ctx}{N:Nat}{a:Act}{l:Env}(h:St X N a l)(x:Operand):(Cf a l).eval x=ev a l x:=by
 cases x with
 |tmp t=>exact Ln h t
 |_=>rfl
theorem ee{X:Ctx}{N:Nat}{a:Act}{l:Env}{x:Operand}{v:Value}(h:St X N a l)(b:ev a l x=v):(Cf a l).eval x=v:=(Xe h x).trans b
def Cg (P:Program) (o:Oper) (a:Act) (w:World) (R:Value→World→Prop):Prop:=
 match (execOp a.eval o).run P w with
 |.ok (.value v) w'=>R v w'
 |.ok .skip w'=>R undef w'
 |.ok (.enter f args) w'=>Calls P f args w' (fun e BI=>∃v,e=.returned v∧R v BI)
 |.ok (.round l f tmps assign body) w'=>RoundIn Fence.wide 0 P l f tmps assign body w' (fun e BI=>∃v,e=.returned v∧R v BI)
 |_=>False
theorem Cg.Xf{P:Program}{o:Oper}{a:Act}{w:World}{R:Value→World→Prop}(h:Cg P o a w R):∀c,o.op≠.defer c:=by
 intro c b;unfold Cg at h;have he:execOp a.eval o=(do pure (.defer (←resolve a.eval c o.type))):=by
  unfold execOp;rw[b]
 rw[he,Sem.run_bind] at h;cases hr:(resolve a.eval c o.type).run P w<;>simp[hr,Result.andThen] at h
theorem Cg.wp{P:Program}{ro:Option Nat}{o:Oper}{a:Act}{w:World}{R:Value→World→Prop}{K:Act→World→Prop}{Q:Exit→Act→World→Prop}
  (h:Cg P o a w R)(hk:∀v w',R v w'→K (a.put o.dst v) w'):o.wpIn (Wd ro) 0 P a w K Q:=by
 refine⟨fun f _=>ON ro f,?_⟩;rw[Oper.semAt_eq _ _ _ h.Xf];unfold Cg at h;generalize (execOp a.eval o).run P w=r at*;cases r with
 |ok n w'=>
  cases n<;>simp only[Oper.uponIn] at h⊢
  case value=>exact hk _ _ h
  case skip=>exact hk _ _ h
  case enter f args=>
   refine⟨Vp ro,?_⟩;have b:CallsIn Fence.wide (0-1) P f args w' (fun e BI=>∃v,e=.returned v∧R v BI):=callsIn_wide.2 h;have c:CallsIn (Wd ro) (0-1) P f args w' (fun e BI=>∃v,e=.returned v∧R v BI):=by cases ro<;>exact b
   refine c.mono ?_;rintro e BI ⟨v,rfl,hr⟩;exact hk _ _ hr
  case round l f tmps assign body=>
   refine⟨Vp ro,?_⟩;have b:RoundIn (Wd ro) (0-1) P l f tmps assign body w' (fun e BI=>∃v,e=.returned v∧R v BI):=by cases ro<;>exact h
   refine b.mono ?_;rintro e BI ⟨v,rfl,hr⟩;exact hk _ _ hr
 |halt=>exact h.elim
theorem Cg.mono{P:Program}{o:Oper}{a:Act}{w:World}{R R':Value→World→Prop}(h:Cg P o a w R)(hr:∀v w',R v w'→R' v w'):Cg P o a w R':=by
 unfold Cg at*;generalize (execOp a.eval o).run P w=r at*;cases r with
 |ok n w'=>
  cases n<;>simp only[] at h⊢
  case value=>exact hr _ _ h
  case skip=>exact hr _ _ h
  case enter f args=>
   refine h.mono ?_;rintro e BI ⟨v,rfl,b⟩;exact⟨v,rfl,hr _ _ b⟩
  case round=>
   refine h.mono ?_;rintro e BI ⟨v,rfl,b⟩;exact⟨v,rfl,hr _ _ b⟩
 |halt=>exact h.elim
def WL(P:Program)(X:Ctx)(N:Nat)(ops:Array Oper)(Q:Exit→Act→World→Prop)(rest:List Oper)(a:Act)(l:Env)(w:World):Prop:=
 St X N a l→wpListIn (Wd X.ro) 0 P ops Q rest (Cf a l) w
section
variable{P:Program}{X:Ctx}{N:Nat}{ops:Array Oper}{Q:Exit→Act→World→Prop}{rest:List Oper}{a:Act}{l:Env}{w:World}{o:Oper}
theorem WO{R:Value→World→Prop}{d:Nat}(b:o.guard=none)(c:o.dst=some d)(e:d<N)
  (f:St X N a l→Cg P o (Cf a l) w R)(hk:∀v w',R v w'→WL P X N ops Q rest a ((d,v)::l) w'):WL P X N ops Q (o::rest) a l w:=fun s=>
 wpListIn_plain b fun K hK=>(f s).wp fun v w' hr=>hK _ _ (by rw[c];exact hk v w' hr (s.cons e v))
theorem BD{R:Value→World→Prop}(b:o.guard=none)(c:o.dst=none)
  (d:St X N a l→Cg P o (Cf a l) w R)(hk:∀v w',R v w'→WL P X N ops Q rest a l w'):WL P X N ops Q (o::rest) a l w:=fun s=>
 wpListIn_plain b fun K hK=>(d s).wp fun v w' hr=>hK _ _ (by rw[c];exact hk v w' hr s)
theorem Zv {d:Nat} {v:Value} {w':World} (b:o.guard=none) (c:o.dst=some d) (e:d<N)
  (f:St X N a l→Cg P o (Cf a l) w (fun u BI=>u=v∧BI=w')) (hk:WL P X N ops Q rest a ((d,v)::l) w'):WL P X N ops Q (o::rest) a l w:=
 WO b c e f (by rintro _ _ ⟨rfl,rfl⟩;exact hk)
theorem OO{j d:Nat}{b:Bool}(s:St X N a l)(hj:(ops[j]?).bind (·.dst)=some d)(f:ev a l (.tmp d)=.bool b):yielded ops (Cf a l).tmps j=some b:=by
 have h:=ee s f;unfold yielded;simp only[hj,Option.bind_some];have c:(Cf a l).tmps.getD d undef=.bool b:=h;rw[Array.getD_eq_getD_getElem?] at c;cases e:(Cf a l).tmps[d]? with
 |none=>rw[e] at c;simp[undef] at c
 |some u=>rw[e] at c;simp at c;rw[c]
theorem QI {R:Value→World→Prop} {d j dj:Nat} {b:Bool} (c:o.guard=some (j,b)) (hj:(ops[j]?).bind (·.dst)=some dj) (e:ev a l (.tmp dj)=.bool b)
  (f:o.dst=some d) (g:d<N) (h:St X N a l→Cg P o (Cf a l) w R) (hk:∀v w',R v w'→WL P X N ops Q rest a ((d,v)::l) w'):WL P X N ops Q (o::rest) a l w:=fun s=>by
 have hw:Region.wanted o (yielded ops (Cf a l).tmps)=true:=by
  unfold Region.wanted;rw[c];simp[OO s hj e]
 exact wpListIn_step fun K hK=>by rw[if_pos hw];exact(h s).wp fun v w' hr=>hK _ _ (by rw[f];exact hk v w' hr (s.cons g v))
theorem Gv{d j dj:Nat}{b:Bool}{v:Value}{w':World}(c:o.guard=some (j,b))(hj:(ops[j]?).bind (·.dst)=some dj)(e:ev a l (.tmp dj)=.bool b)
  (f:o.dst=some d)(g:d<N)(h:St X N a l→Cg P o (Cf a l) w (fun u BI=>u=v∧BI=w'))(hk:WL P X N ops Q rest a ((d,v)::l) w'):WL P X N ops Q (o::rest) a l w:=
 QI c hj e f g h (by rintro _ _ ⟨rfl,rfl⟩;exact hk)
theorem Sw {d j dj:Nat} {b c:Bool} (e:o.guard=some (j,b)) (hj:(ops[j]?).bind (·.dst)=some dj) (g:ev a l (.tmp dj)=.bool c) (h:c≠b)
  (i:o.dst=some d) (k:d<N) (hk:WL P X N ops Q rest a ((d,undef)::l) w):WL P X N ops Q (o::rest) a l w:=fun s=>by
 have hw:Region.wanted o (yielded ops (Cf a l).tmps)=false:=by
  unfold Region.wanted;rw[e];simp[OO s hj g,h]
 exact wpListIn_step fun K hK=>by rw[if_neg (by rw[hw];simp)];exact⟨fun f _=>ON X.ro f,hK _ _ (by rw[i];exact hk (s.cons k undef))⟩
theorem E9 {d j dj:Nat} {b:Bool} (e:o.guard=some (j,b)) (hj:(ops[j]?).bind (·.dst)=some dj) (g:ev a l (.tmp dj)=undef)
  (i:o.dst=some d) (k:d<N) (hk:WL P X N ops Q rest a ((d,undef)::l) w):WL P X N ops Q (o::rest) a l w:=fun s=>by
 have hw:Region.wanted o (yielded ops (Cf a l).tmps)=false:=by
  have h:=ee s g;have m:yielded ops (Cf a l).tmps j=none:=by
   unfold yielded;simp only[hj,Option.bind_some];have c:(Cf a l).tmps.getD dj undef=undef:=h;rw[Array.getD_eq_getD_getElem?] at c;cases n:(Cf a l).tmps[dj]? with
   |none=>rfl
   |some u=>rw[n] at c;simp at c;rw[c];rfl
  unfold Region.wanted;rw[e];simp[m]
 exact wpListIn_step fun K hK=>by rw[if_neg (by rw[hw];simp)];exact⟨fun f _=>ON X.ro f,hK _ _ (by rw[i];exact hk (s.cons k undef))⟩
end
def CW(P:Program)(ro:Option Nat)(c:Code)(Q:Exit→Act→World→Prop)(a:Act)(w:World):Prop:=c.wpIn (Wd ro) 0 P Q a w
def CC(P:Program)(X:Ctx)(N:Nat)(c:Code)(Q:Exit→Act→World→Prop)(a:Act)(l:Env)(w:World):Prop:=
 St X N a l→CW P X.ro c Q (Cf a l) w
section
variable{P:Program}{X:Ctx}{N:Nat}{Q:Exit→Act→World→Prop}{a:Act}{l:Env}{w:World}
def LV (X:Ctx) (N:Nat) (Q:Exit→Act→World→Prop) (e:Exit) (a:Act) (l:Env) (w:World):Prop:=St X N a l→Q e (Cf a l) w
theorem Af{x y:Code}(h:CC P X N x (Exit.then (CW P X.ro y Q) Q) a l w):CC P X N (.seq x y) Q a l w:=fun s=>wpIn_seq (h s)
theorem Ai{id:Nat}{L:List Oper}(h:WL P X N L.toArray Q L a l w):CC P X N (.region id L.toArray false) Q a l w:=fun s=>wpIn_region_lit (h s)
theorem Bc{ops:Array Oper}(h:LV X N Q .normal a l w):WL P X N ops Q [] a l w:=fun s=>wpListIn_nil (h s)
theorem Ce(h:LV X N Q .normal a l w):CC P X N .skip Q a l w:=fun s=>wpIn_skip (h s)
theorem Ma{id:Nat}(h:LV X N Q (.exit id) a l w):CC P X N (.exit id) Q a l w:=fun s=>wpIn_exit (h s)
theorem Ap(h:LV X N Q .ret a l w):CC P X N .ret Q a l w:=fun s=>wpIn_ret (h s)
theorem AI{id:Nat}{c:Code}(h:CC P X N c (Exit.inBlock id Q) a l w):CC P X N (.block id c) Q a l w:=fun s=>wpIn_block (h s)
theorem Ah{c:Operand}{x y:Code}{t:Bool}(b:ev a l c=.bool t)(h:t=true)(d:CC P X N x Q a l w):CC P X N (.cond c x y) Q a l w:=fun s=>wpIn_cond_true (by rw[ee s b,h]) (d s)
theorem Ao{c:Operand}{x y:Code}{t:Bool}(b:ev a l c=.bool t)(h:t=false)(d:CC P X N y Q a l w):CC P X N (.cond c x y) Q a l w:=fun s=>wpIn_cond_false (by rw[ee s b,h]) (d s)
theorem BM {y:Code} (h:CC P X N y Q a l w):LV X N (Exit.then (CW P X.ro y Q) Q) .normal a l w:=fun s=>h s
theorem Hz{K:Act→World→Prop}{id:Nat}(h:LV X N Q (.exit id) a l w):LV X N (Exit.then K Q) (.exit id) a l w:=h
theorem AG{K:Act→World→Prop}(h:LV X N Q .ret a l w):LV X N (Exit.then K Q) .ret a l w:=h
theorem JG{id:Nat}(h:LV X N Q .normal a l w):LV X N (Exit.inBlock id Q) .normal a l w:=h
theorem JH{id:Nat}(h:LV X N Q .ret a l w):LV X N (Exit.inBlock id Q) .ret a l w:=h
theorem Be{id:Nat}(h:LV X N Q .normal a l w):LV X N (Exit.inBlock id Q) (.exit id) a l w:=fun s=>by
 show(if id=id then Q .normal _ _ else Q (.exit id) _ _);rw[if_pos rfl];exact h s
theorem MX{id k:Nat}(b:k≠id)(h:LV X N Q (.exit k) a l w):LV X N (Exit.inBlock id Q) (.exit k) a l w:=fun s=>by
 show(if k=id then Q .normal _ _ else Q (.exit k) _ _);rw[if_neg b];exact h s
theorem Ud {c:Code} (I:Nat→Act→World→Prop) (m:Nat) (h0:I m a w)
  (hr:∀m a w,I m a w→CW P X.ro c (Exit.then (fun a' w'=>∃j,j<m∧I j a' w') Q) a w):CW P X.ro (Code.loop c) Q a w:=by
 intro b k cs p hb i;have key:∀n a w,I n a w→∃e a' w',Q e a' w'∧ArrivesIn (Machine.fenced P (Wd X.ro)) P (lone (b.atR a (.code c::.inLoop c::k)) cs w) b k cs e a' w':=by
  intro n
  induction n using Nat.strongRecOn with
  |_ n ih=>
   intro a w t;obtain⟨e,g,h,f,d⟩:=hr n a w t b (.inLoop c::k) cs p hb i;cases e with
   |normal=>
    obtain⟨j,q,r⟩:=f;obtain⟨u,v,y,s,o⟩:=ih j q g h r;exact⟨u,v,y,s,.of_steps (StepsIn.trans d (.one (fenced_calm hb i rfl) stepR_inLoop)) o⟩
   |exit id=>exact⟨_,g,h,f,.pass (x:=.inLoop c) rfl (fun _ _=>.inl (by simp)) d⟩
   |goto l=>exact⟨_,g,h,f,.pass (x:=.inLoop c) rfl (fun _ _=>.inl (by simp)) d⟩
   |ret=>exact⟨_,g,h,f,.pass (x:=.inLoop c) rfl (fun _ _=>.inl (by simp)) d⟩
   |panic ch=>exact⟨_,g,h,f,.pass (x:=.inLoop c) rfl (fun _ _=>.inl (by simp)) d⟩
   |outgrown=>exact⟨_,g,h,f,.pass (x:=.inLoop c) rfl (fun _ _=>.inl (by simp)) d⟩
 obtain⟨e,a',w',f,d⟩:=key m a w h0;exact⟨e,a',w',f,.of_steps (.one (fenced_calm hb i rfl) stepR_loop) d⟩
theorem BP{c:Code}(I:Nat→Act→World→Prop)(m:Nat)(h0:St X N a l→I m (Cf a l) w)
  (hr:∀m a w,I m a w→CW P X.ro c (Exit.then (fun a' w'=>∃b,b<m∧I b a' w') Q) a w):CC P X N (.loop c) Q a l w:=fun s=>
 Ud I m (h0 s) hr
theorem Vq {c:Code} (b:a.tmps.size=N) (d:a.defers=X.ds) (h:CC P X N c Q a [] w):CW P X.ro c Q a w:=
 h ⟨b,d,fun _ e=>by cases e⟩
theorem Br{I:Nat→Act→World→Prop}{m:Nat}(b:Nat)(c:b<m)(h:St X N a l→I b (Cf a l) w):LV X N (Exit.then (fun a' w'=>∃b,b<m∧I b a' w') Q) .normal a l w:=
 fun s=>⟨b,c,h s⟩
end
def Bk (w:World) (b:Nat) (t:TypeId) (cs:Array Value):Prop:=w.heap[b]?=some (.cells cs t (0,0))
abbrev Ext (w w':World):Prop:=w.grownBy w' none
abbrev J2 (b:Nat) (w w':World):Prop:=w.grownBy w' (some b)
structure Ms(w w':World)(b:Nat)(t:TypeId)(cs:Array Value):Prop where
 FI:b=w.heap.size
 sz:w'.heap.size=b+1
 bk:Bk w' b t cs
 gr:Ext w w'
structure QJ(w w':World)(b:Nat)(t:TypeId)(cs:Array Value):Prop where
 sz:w'.heap.size=w.heap.size
 bk:Bk w' b t cs
 gr:J2 b w w'
section
variable{w w':World}{b b':Nat}{t:TypeId}{cs:Array Value}
theorem Bk.lt(h:Bk w b t cs):b<w.heap.size:=lt_of_block h
theorem Bk.cell(h:Bk w b t cs)(i:Nat):w.cell? ⟨b,i,none⟩=cs[i]?:=cell_of_row w b i cs t (0,0) h
theorem Bk.frozen(h:Bk w b t cs)(i:Nat):w.frozen? ⟨b,i,none⟩=false:=frozen_of_row w b i cs t h
theorem Bk.ext(h:Bk w b t cs)(g:Ext w w'):Bk w' b t cs:=(g.block b h.lt (by simp)).trans h
theorem Bk.QK(h:Bk w b t cs)(g:J2 b' w w')(a:b≠b'):Bk w' b t cs:=(g.block b h.lt (by simpa using a)).trans h
theorem M4(h:Ext w w'):Below w.heap.size w w':=⟨h.os,h.tape,h.output,h.size,fun k hk=>h.block k hk (by simp)⟩
theorem Ext.refl(w:World):Ext w w:=World.grownBy.refl w _
theorem Ext.trans{a b c:World}(h:Ext a b)(k:Ext b c):Ext a c:=World.grownBy.trans h k
theorem Li(w:World)(t:TypeId)(cs:Array Value):Ms w (w.alloc (.cells cs t)) w.heap.size t cs:=
 ⟨rfl,by simp,heap_alloc_new w _,World.grownBy_alloc w _ _⟩
def Rd (w:World) (lo hi:Nat) (A:Option Addr) (cs:List Value):Prop:=
 hi≤w.heap.size∧(cs=[]∨∃b o,A=some ⟨b,o,none⟩∧lo≤b∧b<hi∧∀j u,cs[j]?=some u→w.cell? ⟨b,o+j,none⟩=some u)
section
variable{lo hi:Nat}{A:Option Addr}{cs:List Value}
theorem Rd.le(h:Rd w lo hi A cs):hi≤w.heap.size:=h.1
theorem Rd.ext(h:Rd w lo hi A cs)(g:Ext w w'):Rd w' lo hi A cs:=
 ⟨Nat.le_trans h.1 g.size,h.2.imp id fun⟨b,o,c,hl,hh,d⟩=>⟨b,o,c,hl,hh,fun j u hu=>
  (World.cell?_of_block (a:=⟨b,o+j,none⟩) (g.block b (Nat.lt_of_lt_of_le hh h.1) (by simp))).trans (d j u hu)⟩⟩
theorem Rd.QK(h:Rd w lo hi A cs)(g:J2 b' w w')(e:b'<lo∨hi≤b'):Rd w' lo hi A cs:=
 ⟨Nat.le_trans h.1 g.size,h.2.imp id fun⟨b,o,c,hl,hh,d⟩=>⟨b,o,c,hl,hh,fun j u hu=>
  (World.cell?_of_block (a:=⟨b,o+j,none⟩) (g.block b (Nat.lt_of_lt_of_le hh h.1) (by simp;omega))).trans (d j u hu)⟩⟩
theorem Rd.mono{c a:Nat}(h:Rd w lo hi A cs)(hl:c≤lo)(hh:hi≤a)(hs:a≤w.heap.size):Rd w c a A cs:=
 ⟨hs,h.2.imp id fun⟨b,o,d,h1,h2,e⟩=>⟨b,o,d,by omega,by omega,e⟩⟩
theorem Rd.wide(h:Rd w lo hi A cs):Rd w 0 w.heap.size A cs:=h.mono (Nat.zero_le _) h.le (Nat.le_refl _)
theorem Rd.nil{A:Option Addr}(hh:hi≤w.heap.size):Rd w lo hi A []:=⟨hh,.inl rfl⟩
theorem Rd.QL{w0:World}(h:Rd w0 lo hi A cs){B:Nat}(g:Below B w0 w')(a:hi≤B):Rd w' lo hi A cs:=
 ⟨Nat.le_trans h.1 g.size,h.2.imp id fun⟨b,o,c,hl,hh,d⟩=>⟨b,o,c,hl,hh,fun j u hu=>
  (g.cell (p:=⟨b,o+j,none⟩) (Nat.lt_of_lt_of_le hh a)).trans (d j u hu)⟩⟩
theorem Bk.QL{w0:World}{xs:Array Value}(h:Bk w0 b t xs){B:Nat}(g:Below B w0 w')(a:b<B):Bk w' b t xs:=(g.block b a).trans h
theorem Rd.cells(h:Rd w lo hi A cs){b o:Nat}(c:A=some ⟨b,o,none⟩):∀j u,cs[j]?=some u→w.cell? ⟨b,o+j,none⟩=some u:=by
 rcases h.2 with rfl|⟨b',o',a,_,_,d⟩
 ·simp
 ·rw[c] at a;injection a with a
  injection a with h1 h2
  subst h1;subst h2;exact d
theorem Rd.at_ (h:Rd w lo hi A cs) {k:Nat} {u:Value} (hu:cs[k]?=some u):∃b o,A=some ⟨b,o,none⟩∧lo≤b∧b<hi∧∀j u,cs[j]?=some u→w.cell? ⟨b,o+j,none⟩=some u:=by
 rcases h.2 with rfl|h
 ·simp at hu
 ·exact h
end
end
section
variable{P:Program}{a:Act}{w:World}{dst:Option Tmp}{ty:TypeId}{pos:String}{Cc:Array Edge}{g:Option (Nat×Bool)}
theorem De{o:Oper}{v:Value}{w':World}(h:(execOp a.eval o).run P w=.ok (.value v) w'):Cg P o a w (fun u BI=>u=v∧BI=w'):=by
 unfold Cg;rw[h];exact⟨rfl,rfl⟩
theorem AA{x:Operand}{v:Value}(b:a.eval x=v):Cg P ⟨dst,.move x,ty,pos,Cc,g⟩ a w (fun u w'=>u=v∧w'=w):=⟨b,rfl⟩
theorem KF{x:Operand}{v:Value}(b:a.eval x=v):Cg P ⟨dst,.assign x,ty,pos,Cc,g⟩ a w (fun u w'=>u=v∧w'=w):=⟨b,rfl⟩
theorem AR{c x y:Operand}{t:Bool}{v:Value}(b:a.eval c=.bool t)(d:t=true)(e:a.eval x=v):Cg P ⟨dst,.pick c x y,ty,pos,Cc,g⟩ a w (fun u w'=>u=v∧w'=w):=
 De (by subst d;simp[execOp,b,asBool,e])
theorem Bg{c x y:Operand}{t:Bool}{v:Value}(b:a.eval c=.bool t)(d:t=false)(e:a.eval y=v):Cg P ⟨dst,.pick c x y,ty,pos,Cc,g⟩ a w (fun u w'=>u=v∧w'=w):=
 De (by subst d;simp[execOp,b,asBool,e])
theorem BZ{e:TypeId}{z:Value}{cs:Array Value}(d:(P.info? e).bind (·.zero)=some z)(f:z.cells=cs):
  Cg P ⟨dst,.alloc e,ty,pos,Cc,g⟩ a w (fun u w'=>∃b,u=.pointer (some ⟨b,0,none⟩)∧Ms w w' b e cs):=by
 have h:(Instr.alloc e true (.tuple #[])).run P w=.ok (.pointer (some ⟨w.heap.size,0,none⟩)) (w.alloc (.cells cs e)):=by
  obtain⟨i,hi,c⟩:=Option.bind_eq_some_iff.1 d;simp[Instr.alloc,zeroValue,typeInfo,hi,c,newVar,newRow,newObj,program,Sem.run,f]
 unfold Cg;simp only[execOp,Sem.run_bind,h,Result.andThen_ok,Sem.run_pure];exact⟨_,rfl,Li w e cs⟩
theorem BL{e:TypeId}{x:Operand}{v:Value}{cs:Array Value}(c:a.eval x=v)(d:v.cells=cs):
  Cg P ⟨dst,.box e x,ty,pos,Cc,g⟩ a w (fun u w'=>∃b,u=.pointer (some ⟨b,0,none⟩)∧Ms w w' b e cs):=by
 have h:(Instr.box e (a.eval x)).run P w=.ok (.pointer (some ⟨w.heap.size,0,none⟩)) (w.alloc (.cells cs e)):=by
  simp[Instr.box,newVar,newRow,newObj,Sem.run,c,d]
 unfold Cg;simp only[execOp,Sem.run_bind,h,Result.andThen_ok,Sem.run_pure];exact⟨_,rfl,Li w e cs⟩
theorem Lj{o:Oper}{S:Sem Value}{v:Value}{w':World}(b:execOp a.eval o=(do pure (.value (←S))))(h:S.run P w=.ok v w'):Cg P o a w (fun u BI=>u=v∧BI=w'):=
 De (by rw[b];simp[h])
theorem Dz{t:TypeId}{ps:Array (Nat×Operand)}{vs:Array (Nat×Value)}{v:Value}(b:ps.map (fun(i,x)=>(i,a.eval x))=vs)(h:(Instr.build t vs).run P w=.ok v w):
  Cg P ⟨dst,.build t ps,ty,pos,Cc,g⟩ a w (fun u w'=>u=v∧w'=w):=Lj (S:=Instr.build t vs) (by simp only[execOp];rw[b]) h
theorem B1{t e:TypeId}{n:Nat}{ps:Array (Nat×Operand)}{vs:Array (Nat×Value)}{cs:Array Value}(c:ps.map (fun(i,x)=>(i,a.eval x))=vs)
  (h:(Instr.buildSlice t n vs).run P w=.ok (.slice (some ⟨w.heap.size,0,none⟩) n n) (w.alloc (.cells cs e))):
  Cg P ⟨dst,.buildSlice t n ps,ty,pos,Cc,g⟩ a w (fun u w'=>∃b,u=.slice (some ⟨b,0,none⟩) n n∧Ms w w' b e cs):=
 (Lj (S:=Instr.buildSlice t n vs) (by simp only[execOp];rw[c]) h).mono fun u w' ⟨hu,hw⟩=>⟨_,hu,by rw[hw];exact Li w e cs⟩
def EX(P:Program)(t:TypeId)(n:Nat):Prop:=(match P.underlying t with|some (.struct _)|some (.array ..)=>true|_=>false)=true∧(P.info? t).map (·.size)=some n
def One(P:Program)(t:TypeId):Prop:=(match P.underlying t with|some (.struct _)|some (.array ..)|none=>false|_=>true)=true∧(P.info? t).map (·.size)=some 1
theorem Se{t:TypeId}{n:Nat}(h:EX P t n):(isAgg t).run P w=.ok true w:=by
 unfold isAgg;cases hu:P.underlying t with
 |none=>simp[EX,hu] at h
 |some d=>cases d<;>simp[EX,hu] at h<;>simp[underlying,program,Sem.run,hu]
theorem N4{t:TypeId}(h:One P t):(isAgg t).run P w=.ok false w:=by
 unfold isAgg;cases hu:P.underlying t with
 |none=>simp[One,hu] at h
 |some d=>cases d<;>simp[One,hu] at h<;>simp[underlying,program,Sem.run,hu]
theorem Kg{t:TypeId}{n:Nat}(h:(P.info? t).map (·.size)=some n):(sizeOf t).run P w=.ok n w:=by
 obtain⟨i,hi,hs⟩:=Option.map_eq_some_iff.1 h;simp[sizeOf,typeInfo,program,Sem.run,hi,hs]
theorem GQ(b o j:Nat):(⟨b,o,none⟩:Addr).add j=⟨b,o+j,none⟩:=by unfold Addr.add;split<;>simp_all
theorem Ga{t:TypeId}{ad:Addr}{v:Value}(h:One P t)(a:w.cell? ad=some v):(loadVar t ad).run P w=.ok v w:=by
 simp[loadVar,N4 h,load,Sem.run,a]
theorem M5{t:TypeId}{n b o:Nat}{cs:List Value}(h:EX P t n)(a:cs.length=n)(c:∀j u,cs[j]?=some u→w.cell? ⟨b,o+j,none⟩=some u):(loadVar t ⟨b,o,none⟩).run P w=.ok (.agg cs.toArray) w:=by
 have h1:=run_loadCells_list (P:=P) (w:=w) ⟨b,o,none⟩ cs (fun j v d=>by rw[GQ];exact c j v d);subst a;simp[loadVar,Se h,Kg h.2,h1]
theorem OP{t:TypeId}{x:Operand}{ad:Addr}{v:Value}(b:a.eval x=.pointer (some ad))(h:(loadVar t ad).run P w=.ok v w):Cg P ⟨dst,.load t x,ty,pos,Cc,g⟩ a w (fun u w'=>u=v∧w'=w):=
 Lj (S:=Instr.loadAt t (a.eval x)) rfl (by simp[Instr.loadAt,Instr.sureAddr,b,h])
theorem Ag {t c:TypeId} {x:Operand} {b o:Nat} {cs:Array Value} {v:Value} (h:One P t) (d:a.eval x=.pointer (some ⟨b,o,none⟩)) (hb:Bk w b c cs) (e:cs.toList[o]?=some v):
  Cg P ⟨dst,.load t x,ty,pos,Cc,g⟩ a w (fun u w'=>u=v∧w'=w):=OP d (Ga h ((hb.cell o).trans (by simpa using e)))
theorem AO {t c:TypeId} {x:Operand} {n b o:Nat} {cs:Array Value} {l:List Value} (h:EX P t n) (d:a.eval x=.pointer (some ⟨b,o,none⟩)) (hb:Bk w b c cs) (hl:(cs.toList.drop o).take n=l) (e:l.length=n):
  Cg P ⟨dst,.load t x,ty,pos,Cc,g⟩ a w (fun u w'=>u=.agg l.toArray∧w'=w):=OP d (M5 h e fun j u hu=>by
 rw[hb.cell];subst hl;rw[List.getElem?_take] at hu;split at hu
 ·simpa using hu
 ·cases hu)
theorem P5 {t:TypeId} {x:Operand} {b o k:Nat} {cs:List Value} {v:Value} (h:One P t) (c:a.eval x=.pointer (some ⟨b,o+k,none⟩)) (hr:∀j u,cs[j]?=some u→w.cell? ⟨b,o+j,none⟩=some u) (d:cs[k]?=some v):
  Cg P ⟨dst,.load t x,ty,pos,Cc,g⟩ a w (fun u w'=>u=v∧w'=w):=OP c (Ga h (hr k v d))
theorem OQ {t:TypeId} {x:Operand} {n b o k:Nat} {cs l:List Value} (h:EX P t n) (c:a.eval x=.pointer (some ⟨b,o+k,none⟩)) (hr:∀j u,cs[j]?=some u→w.cell? ⟨b,o+j,none⟩=some u)
  (hl:(cs.drop k).take n=l) (d:l.length=n):Cg P ⟨dst,.load t x,ty,pos,Cc,g⟩ a w (fun u w'=>u=.agg l.toArray∧w'=w):=OP c (M5 h d fun j u hu=>by
 rw[Nat.add_assoc];refine hr _ _ ?_;subst hl;rw[List.getElem?_take] at hu;split at hu
 ·simpa using hu
 ·cases hu)
def setCells(cs:Array Value)(o:Nat):List Value→Array Value
 |[]=>cs
 |v::l=>setCells (cs.setIfInBounds o v) (o+1) l
theorem MY(o:Nat):∀(l:List Value) (cs:Array Value) (o:Nat),(setCells cs o l).size=cs.size
 |[],_,_=>rfl
 |v::l,cs,o=>by simp[setCells,MY o l]
theorem Lh{b:Nat}{t:TypeId}{o:Nat}:∀(l:List Value) (i:Nat) (cs:Array Value) (w:World),Bk w b t cs→o+i+l.length≤cs.size→(∀u∈l,u.oneCell'=true)→
  ∃w',(storeCells ⟨b,o,none⟩ l i).run P w=.ok () w'∧QJ w w' b t (setCells cs (o+i) l)
 |[],i,cs,w,h,_,_=>⟨w,by simp[storeCells],rfl,h,World.grownBy.refl w _⟩
 |v::l,i,cs,w,h,hle,h1=>by
  have c:o+i<cs.size:=by simp at hle;omega
  have f:=h1 v (List.mem_cons_self ..);have a:w.cell? ⟨b,o+i,none⟩=some cs[o+i]:=by rw[h.cell];simp[c]
  have d:(store ((⟨b,o,none⟩:Addr).add i) v).run P w=.ok () (w.setCell ⟨b,o+i,none⟩ v):=by
   rw[GQ];cases v<;>simp[Value.oneCell'] at f<;>simp[store,Sem.run,a,h.frozen]
  have hb:Bk (w.setCell ⟨b,o+i,none⟩ v) b t (cs.setIfInBounds (o+i) v):=by
   unfold Bk at h⊢;simp[World.setCell,Array.getElem?_modify,h]
  obtain⟨w',hr,s1,s2,g⟩:=Lh (o:=o) l (i+1) _ _ hb (by simp at hle⊢;omega) (fun u hu=>h1 u (List.mem_cons_of_mem _ hu));refine⟨w',?_,by rw[s1];simp,s2,?_⟩
  ·simp only[storeCells,Sem.run_bind,d,Result.andThen_ok,hr]
  ·have g1:J2 b w (w.setCell ⟨b,o+i,none⟩ v):=⟨rfl,rfl,rfl,by simp,fun k _ e=>Below.heap_setCell w ⟨b,o+i,none⟩ v k (by simpa using e)⟩;exact World.grownBy.trans g1 g
theorem Bt{t d:TypeId}{x y:Operand}{n b o:Nat}{v:Value}{cs Cm:Array Value}{l:List Value}(f:a.eval x=.pointer (some ⟨b,o,none⟩))(i:a.eval y=v)(hs:(P.info? t).map (·.size)=some n)(hb:Bk w b d cs)
  (hl:v.cells.toList=l)(j:l.length=n)(hle:o+n≤cs.size)(h1:∀u∈l,u.oneCell'=true)(k:setCells cs o l=Cm):
  Cg P ⟨dst,.store t x y,ty,pos,Cc,g⟩ a w (fun _ w'=>QJ w w' b d Cm):=by
 obtain⟨w',hr,c⟩:=Lh (P:=P) (t:=d) (o:=o) l 0 cs w hb (by omega) h1;have e:v.cells.size=n:=by rw[←j,←hl];simp
 have h:(Instr.storeAt t (a.eval x) (a.eval y)).run P w=.ok () w':=by
  simp[Instr.storeAt,Instr.sureAddr,f,i,storeVar,Kg hs,e,hl,hr]
 unfold Cg;simp only[execOp,Sem.run_bind,h,Result.andThen_ok,Sem.run_pure];rw[Nat.add_zero,k] at c;exact c
theorem CB{x:Operand}{ad:Addr}(b:a.eval x=.pointer (some ad)):Cg P ⟨dst,.nilCheck x,ty,pos,Cc,g⟩ a w (fun u w'=>u=.pointer (some ad)∧w'=w):=
 De (by simp[execOp,b])
def fits(x:Int):Prop:=-9223372036854775808≤x∧x≤9223372036854775807
theorem KG{x:Int}(h:fits x):IntKind.i64.wrap x=x:=by
 rw[IntKind.wrap_i64];unfold fits at h;omega
theorem BK{x y:Operand}{m n:Int}{t b:TypeId}(c:a.eval x=.int .i64 m)(d:a.eval y=.int .i64 n)(e:fits (m+n)):Cg P ⟨dst,.binOp .add t x y b,ty,pos,Cc,g⟩ a w (fun u w'=>u=.int .i64 (m+n)∧w'=w):=
 De (by simp[execOp,c,d,eqGuard,binOp,Op.intArith,KG e])
theorem Fi{x y:Operand}{m n:Int}{t b:TypeId}(c:a.eval x=.int .i64 m)(d:a.eval y=.int .i64 n)(e:fits (m-n)):Cg P ⟨dst,.binOp .sub t x y b,ty,pos,Cc,g⟩ a w (fun u w'=>u=.int .i64 (m-n)∧w'=w):=
 De (by simp[execOp,c,d,eqGuard,binOp,Op.intArith,KG e])
theorem LU{x y:Operand}{m n:Int}{t b:TypeId}(c:a.eval x=.int .i64 m)(d:a.eval y=.int .i64 n)(e:fits (m*n)):Cg P ⟨dst,.binOp .mul t x y b,ty,pos,Cc,g⟩ a w (fun u w'=>u=.int .i64 (m*n)∧w'=w):=
 De (by simp[execOp,c,d,eqGuard,binOp,Op.intArith,KG e])
theorem QB{x y:Operand}{k:IntKind}{m n:Int}{t b:TypeId}(c:a.eval x=.int k m)(d:a.eval y=.int k n)(h0:0≤m)(h1:1≤n):Cg P ⟨dst,.binOp .rem t x y b,ty,pos,Cc,g⟩ a w (fun u w'=>u=.int k (m%n)∧w'=w):=
 De (by
  have e:m.tmod n=m%n:=Int.tmod_eq_emod_of_nonneg h0;have f:¬n=0:=by omega
  simp[execOp,c,d,eqGuard,binOp,Op.intDiv,f,e])
theorem Sx(op:BinOp)(t:TypeId)(x y:Operand)(k:IntKind)(m n:Int):(eqGuard op t x y (.int k m) (.int k n)).run P w=.ok () w:=by
 unfold eqGuard;cases op<;>rfl
theorem Dt{x y:Operand}{k:IntKind}{m n:Int}{t b:TypeId}(c:a.eval x=.int k m)(d:a.eval y=.int k n):Cg P ⟨dst,.binOp .eql t x y b,ty,pos,Cc,g⟩ a w (fun u w'=>u=.bool (m==n)∧w'=w):=
 De (by simp[execOp,c,d,Sx,binOp,Op.intCmp])
theorem Cx{x y:Operand}{k:IntKind}{m n:Int}{t b:TypeId}(c:a.eval x=.int k m)(d:a.eval y=.int k n):Cg P ⟨dst,.binOp .neq t x y b,ty,pos,Cc,g⟩ a w (fun u w'=>u=.bool (m !=n)∧w'=w):=
 De (by simp[execOp,c,d,Sx,binOp,Op.intCmp])
theorem B8{x y:Operand}{k:IntKind}{m n:Int}{t b:TypeId}(c:a.eval x=.int k m)(d:a.eval y=.int k n):Cg P ⟨dst,.binOp .lss t x y b,ty,pos,Cc,g⟩ a w (fun u w'=>u=.bool (decide (m<n))∧w'=w):=
 De (by simp[execOp,c,d,Sx,binOp,Op.intCmp])
theorem HS{x y:Operand}{k:IntKind}{m n:Int}{t b:TypeId}(c:a.eval x=.int k m)(d:a.eval y=.int k n):Cg P ⟨dst,.binOp .leq t x y b,ty,pos,Cc,g⟩ a w (fun u w'=>u=.bool (decide (m≤n))∧w'=w):=
 De (by simp[execOp,c,d,Sx,binOp,Op.intCmp])
theorem Fj{x y:Operand}{k:IntKind}{m n:Int}{t b:TypeId}(c:a.eval x=.int k m)(d:a.eval y=.int k n):Cg P ⟨dst,.binOp .gtr t x y b,ty,pos,Cc,g⟩ a w (fun u w'=>u=.bool (decide (n<m))∧w'=w):=
 De (by simp[execOp,c,d,Sx,binOp,Op.intCmp])
theorem HT{x y:Operand}{k:IntKind}{m n:Int}{t b:TypeId}(c:a.eval x=.int k m)(d:a.eval y=.int k n):Cg P ⟨dst,.binOp .geq t x y b,ty,pos,Cc,g⟩ a w (fun u w'=>u=.bool (decide (n≤m))∧w'=w):=
 De (by simp[execOp,c,d,Sx,binOp,Op.intCmp])
theorem QC {op:BinOp} {x y:Operand} {v v1 v2:Value} {t b:TypeId} (c:a.eval x=v1) (d:a.eval y=v2) (h:(do eqGuard op t x y v1 v2;binOp op t v1 v2:Sem Value).run P w=.ok v w):Cg P ⟨dst,.binOp op t x y b,ty,pos,Cc,g⟩ a w (fun u w'=>u=v∧w'=w):=
 Lj (S:=do eqGuard op t x y v1 v2;binOp op t v1 v2) (by simp only[execOp,c,d]) h
theorem Ca{x:Operand}{b:Bool}{t:TypeId}(c:a.eval x=.bool b):Cg P ⟨dst,.unOp .not t x,ty,pos,Cc,g⟩ a w (fun u w'=>u=.bool (!b)∧w'=w):=
 De (by simp[execOp,c,Op.unary])
theorem Kp{s t:TypeId}{k k':IntKind}{x:Operand}{n:Int}(hs:(P.underlying s).isSome=true)(b:P.underlying t=some (.int k))(c:a.eval x=.int k' n)(e:k.wrap n=n):Cg P ⟨dst,.convert s t x,ty,pos,Cc,g⟩ a w (fun u w'=>u=.int k n∧w'=w):=by
 obtain⟨d,f⟩:=Option.isSome_iff_exists.1 hs;exact De (by cases d<;>simp[execOp,c,convert,underlying,program,Sem.run,f,b,Conv.intToInt,e])
theorem Dl{fn:Fn}{b cs:Array Operand}{vs us:Array Value}(c:b.map a.eval=vs)(d:cs.map a.eval=us):Cg P ⟨dst,.makeFunc fn b cs,ty,pos,Cc,g⟩ a w (fun u w'=>u=.func fn vs us∧w'=w):=
 De (by simp[execOp,Instr.makeFunc,c,d])
theorem Ad{s:TypeId}{x:Operand}{i:Nat}{ad b:Addr}(c:a.eval x=.pointer (some ad))(h:(Instr.fieldAt s (.pointer (some ad)) i).run P w=.ok (.pointer (some b)) w):Cg P ⟨dst,.fieldAddr s x i,ty,pos,Cc,g⟩ a w (fun u w'=>u=.pointer (some b)∧w'=w):=
 Lj (S:=Instr.fieldAt s (.pointer (some ad)) i) (by simp only[execOp,c]) h
theorem Sy{s:TypeId}{x:Operand}{i:Nat}{v v':Value}(b:a.eval x=v)(h:(Instr.field s v i).run P w=.ok v' w):Cg P ⟨dst,.field s x i,ty,pos,Cc,g⟩ a w (fun u w'=>u=v'∧w'=w):=
 Lj (S:=Instr.field s v i) (by simp only[execOp,b]) h
theorem Bs{x:Operand}{i:Nat}{vs:Array Value}{v:Value}(b:a.eval x=.tuple vs)(h:vs[i]?=some v):Cg P ⟨dst,.extract x i,ty,pos,Cc,g⟩ a w (fun u w'=>u=v∧w'=w):=
 De (by simp[execOp,b,Instr.extract,h])
theorem Pw{t:TypeId}{x:Operand}{lo hi:Option Operand}{v:Value}{b c:Option Value}{v':Value}(d:a.eval x=v)(hl:lo.map a.eval=b)(hh:hi.map a.eval=c)(h:(Instr.sliceAt t v b c none).run P w=.ok v' w):Cg P ⟨dst,.slice t x lo hi none,ty,pos,Cc,g⟩ a w (fun u w'=>u=v'∧w'=w):=
 Lj (S:=Instr.sliceAt t v b c none) (by simp only[execOp,d,hl,hh,Option.map_none]) h
theorem N5 {t e:TypeId} {x y:Operand} {sz b o n c k:Nat} {i:Int} {d:IntKind} (f:P.underlying t=some (.slice e)) (hs:(P.info? e).map (·.size)=some sz) (h:a.eval x=.slice (some ⟨b,o,none⟩) n c) (j:a.eval y=.int d i)
  (hi:i=k) (hk:k<n):Cg P ⟨dst,.indexAddr t x y,ty,pos,Cc,g⟩ a w (fun u w'=>u=.pointer (some ⟨b,o+k*sz,none⟩)∧w'=w):=
 De (by
  subst hi;have h2:(0:Int)≤k∧(k:Int)<n:=⟨by omega,by omega⟩;have l:¬n≤k:=by omega
  simp[execOp,h,j,Instr.indexAt,asIntOf,underlying,program,Sem.run,f,h2,Kg hs,GQ,hk,l])
theorem QM {t e:TypeId} {x y:Operand} {sz b o n k:Nat} {i:Int} {c:IntKind} (d:P.underlying t=some (.array n e)) (hs:(P.info? e).map (·.size)=some sz) (f:a.eval x=.pointer (some ⟨b,o,none⟩)) (h:a.eval y=.int c i)
  (hi:i=k) (hk:k<n):Cg P ⟨dst,.indexAddr t x y,ty,pos,Cc,g⟩ a w (fun u w'=>u=.pointer (some ⟨b,o+k*sz,none⟩)∧w'=w):=
 De (by
  subst hi;have h2:(0:Int)≤k∧(k:Int)<n:=⟨by omega,by omega⟩;have j:¬n≤k:=by omega
  simp[execOp,f,h,Instr.indexAt,asIntOf,underlying,program,Sem.run,d,h2,Kg hs,GQ,Instr.sureAddr,hk,j])
theorem Bn{t e:TypeId}{x:Operand}{A:Option Addr}{n c:Nat}(b:P.underlying t=some (.slice e))(d:a.eval x=.slice A n c):Cg P ⟨dst,.call {callee:=.builtin .len,args:= #[x],argTypes:= #[t]},ty,pos,Cc,g⟩ a w (fun u w'=>u=.int .i64 n∧w'=w):=
 De (by simp[execOp,resolve,invoke,builtin,Builtin.len_,d,underlying,program,Sem.run,b,goInt])
theorem WQ{x y:Operand}{m n:Int}{t b:TypeId}(c:a.eval x=.int .i64 m)(d:a.eval y=.int .i64 n):Cg P ⟨dst,.call {callee:=.builtin .max,args:= #[x,y],argTypes:= #[t,b]},ty,pos,Cc,g⟩ a w (fun u w'=>u=.int .i64 (max m n)∧w'=w):=
 De (by
  have e:(if m<n then n else m)=max m n:=by omega
  simp[execOp,resolve,invoke,builtin,Builtin.max_,c,d,Builtin.max2,e])
theorem TF{x y:Operand}{m n:Int}{t b:TypeId}(c:a.eval x=.int .i64 m)(d:a.eval y=.int .i64 n):Cg P ⟨dst,.call {callee:=.builtin .min,args:= #[x,y],argTypes:= #[t,b]},ty,pos,Cc,g⟩ a w (fun u w'=>u=.int .i64 (min m n)∧w'=w):=
 De (by
  have e:(if n<m then n else m)=min m n:=by omega
  simp[execOp,resolve,invoke,builtin,Builtin.min_,c,d,Builtin.min2,e])
def BN (P:Program) (f:FuncId) (args:Array Value) (w:World) (R:Value→World→Prop):Prop:=Calls P f args w (fun e w'=>∃v,e=.returned v∧R v w')
theorem BN.mono{f:FuncId}{args:Array Value}{R R':Value→World→Prop}(h:BN P f args w R)(hr:∀v w',R v w'→R' v w'):BN P f args w R':=
 Calls.mono h fun _ _ ⟨v,he,a⟩=>⟨v,he,hr _ _ a⟩
def Ba (P:Program) (f:FuncId):Prop:=(match P.funcs[f]? with|some fn=>fn.name !="runtime.NumGoroutine"&&fn.body.isSome|none=>false)=true
theorem M6{f:FuncId}(h:Ba P f)(args:Array Value):(callFunc f args).run P w=.ok (.enter f args) w:=by
 unfold Ba at h;unfold callFunc;cases a:P.funcs[f]? with
 |none=>simp[a] at h
 |some fn=>
  simp only[a,Bool.and_eq_true,bne_iff_ne,ne_eq] at h;obtain⟨h1,h2⟩:=h;have c:fn.body.isNone=false:=by cases hb:fn.body<;>simp_all
  have b:¬fn.body=none:=by intro h;simp[h] at h2
  simp[program,Sem.run,a,h1,b]
theorem JI{f:Operand}{xs:Array Operand}{b:Array TypeId}{fn:FuncId}{first cap vs all:Array Value}{R:Value→World→Prop}(c:Ba P fn)(d:a.eval f=.func (.func fn) first cap)(e:xs.map a.eval=vs)(ha:first++vs++cap=all)
  (h:BN P fn all w R):Cg P ⟨dst,.call {callee:=.value f,args:=xs,argTypes:=b},ty,pos,Cc,g⟩ a w R:=by
 have hr:(execOp a.eval ⟨dst,.call {callee:=.value f,args:=xs,argTypes:=b},ty,pos,Cc,g⟩).run P w=.ok (.enter fn all) w:=by
  simp only[execOp,resolve,d,e,Deferred.ofValue];simp only[Sem.run_bind,Sem.run_pure,Result.andThen_ok,invoke,M6 c,ha]
 unfold Cg;rw[hr];exact h
theorem F6{f:Operand→Value}:(#[]:Array Operand).map f= #[]:=by simp
theorem Cd{f:Operand→Value}{a:Operand}{v0:Value}(h0:f a=v0): #[a].map f= #[v0]:=by simp[h0]
theorem Ci{f:Operand→Value}{a x1:Operand}{v0 v1:Value}(h0:f a=v0)(h1:f x1=v1): #[a,x1].map f= #[v0,v1]:=by simp[h0,h1]
theorem DX{f:Operand→Value}{a x1 x2:Operand}{v0 v1 v2:Value}(h0:f a=v0)(h1:f x1=v1)(h2:f x2=v2): #[a,x1,x2].map f= #[v0,v1,v2]:=by simp[h0,h1,h2]
theorem WR{f:Operand→Value}{a x1 x2 b:Operand}{v0 v1 v2 v3:Value}(h0:f a=v0)(h1:f x1=v1)(h2:f x2=v2)(c:f b=v3): #[a,x1,x2,b].map f= #[v0,v1,v2,v3]:=by simp[h0,h1,h2,c]
theorem QN{f:Operand→Value}:(#[]:Array (Nat×Operand)).map (fun(i,x)=>(i,f x))= #[]:=by simp
theorem IP{f:Operand→Value}{i0:Nat}{a:Operand}{v0:Value}(h0:f a=v0): #[(i0,a)].map (fun(i,x)=>(i,f x))= #[(i0,v0)]:=by simp[h0]
theorem Hv{f:Operand→Value}{i0 i1:Nat}{a x1:Operand}{v0 v1:Value}(h0:f a=v0)(h1:f x1=v1): #[(i0,a),(i1,x1)].map (fun(i,x)=>(i,f x))= #[(i0,v0),(i1,v1)]:=by simp[h0,h1]
theorem pm3{f:Operand→Value}{i0 i1 i2:Nat}{a x1 x2:Operand}{v0 v1 v2:Value}(h0:f a=v0)(h1:f x1=v1)(h2:f x2=v2): #[(i0,a),(i1,x1),(i2,x2)].map (fun(i,x)=>(i,f x))= #[(i0,v0),(i1,v1),(i2,v2)]:=by simp[h0,h1,h2]
theorem Ue {f:FuncId} {fn:Func} {c:Code} {args:Array Value} {N:Nat} {R:Value→World→Prop} (b:P.funcs[f]?=some fn) (hb:fn.body=some c) (d:fn.ntmps=N) (ha:args.size≤N)
  (h:∀a:Act,a.tmps=args++Array.replicate (N-args.size) undef→a.defers=[]→CC P X0 N c (bodyPost P fn (fun e w'=>∃v,e=.returned v∧R v w')) a [] w):BN P f args w R:=by
 refine calls_of_wp b hb ?_;rw[d];have:=h {tmps:=args++Array.replicate (N-args.size) undef,defers:=[]} rfl rfl;exact wpIn_wide.1 (this ⟨by simp;omega,rfl,fun _ g=>by cases g⟩)
theorem Mb{a:Act}{args:Array Value}{n i:Nat}{v:Value}(h:a.tmps=args++Array.replicate n undef)(hi:args[i]?=some v):sl a i=v:=by
 obtain⟨b,he⟩:=Array.getElem?_eq_some_iff.1 hi;unfold sl;rw[h,Array.getD_eq_getD_getElem?,Array.getElem?_append_left b,hi];rfl
theorem Au {fn:Func} {N t:Nat} {a:Act} {l:Env} {v:Value} {R:Value→World→Prop} (hr:fn.results= #[.tmp t]) (b:ev a l (.tmp t)=v) (h:R v w):LV X0 N (bodyPost P fn (fun e w'=>∃v,e=.returned v∧R v w')) .ret a l w:=fun s=>
 bodyPost_ret (results_tmp hr _ _ _) (by rw[EE,s.df]) ⟨_,rfl,by rw[show(Cf a l).tmps.getD t undef=v from ee s b];exact h⟩
theorem C0{fn:Func}{N t u:Nat}{a:Act}{l:Env}{v v':Value}{R:Value→World→Prop}(hr:fn.results= #[.tmp t,.tmp u])(b:ev a l (.tmp t)=v)(hu:ev a l (.tmp u)=v')(h:R (.tuple #[v,v']) w):
  LV X0 N (bodyPost P fn (fun e w'=>∃v,e=.returned v∧R v w')) .ret a l w:=fun s=>
 bodyPost_ret (results_tmp2 hr _ _ _) (by rw[EE,s.df]) ⟨_,rfl,by rw[show(Cf a l).tmps.getD t undef=v from ee s b,show(Cf a l).tmps.getD u undef=v' from ee s hu];exact h⟩
theorem FD {fn:Func} {N p:Nat} {t:TypeId} {a:Act} {l:Env} {ad:Addr} {v:Value} {R:Value→World→Prop} (hr:fn.results= #[.cell p t]) (c:ev a l (.tmp p)=.pointer (some ad)) (hl:(loadVar t ad).run P w=.ok v w) (h:R v w):
  LV X0 N (bodyPost P fn (fun e w'=>∃v,e=.returned v∧R v w')) .ret a l w:=fun s=>by
 have b:(Cf a l).tmps.getD p undef=.pointer (some ad):=ee s c;refine bodyPost_ret (v:=v) ?_ (by rw[EE,s.df]) ⟨_,rfl,h⟩;simp only[Array.getD_eq_getD_getElem?] at b;simp[results,hr,b,asAddr,hl]
theorem NL{fn:Func}{N:Nat}{a:Act}{l:Env}{R:Value→World→Prop}(hr:fn.results= #[])(h:R (.tuple #[]) w):LV X0 N (bodyPost P fn (fun e w'=>∃v,e=.returned v∧R v w')) .normal a l w:=fun s=>
 bodyPost_end (results_none hr _ _ _) (by rw[EE,s.df]) ⟨_,rfl,h⟩
end
section
variable{P:Program}{a:Act}{w:World}{dst:Option Tmp}{ty:TypeId}{pos:String}{Cc:Array Edge}{g:Option (Nat×Bool)}
def JA(l:List Int):List Value:=l.map (Value.int .i64)
def FJ(l:List Int):Value:=.agg (JA l).toArray
theorem Xg(l:List Int)(k:Nat)(h:k<l.length):(JA l)[k]?=some (.int .i64 (l.getD k 0)):=by
 simp[JA,List.getElem?_eq_getElem h]
theorem Vr(l:List Int)(k:Nat)(h:k<l.length):(JA l).toArray[k]?=some (.int .i64 (l.getD k 0)):=by
 simpa using Xg l k h
theorem C4{t a:TypeId}{n b o:Nat}{cs:Array Value}{l:List Value}(h:EX P t n)(hb:Bk w b a cs)(hl:(cs.toList.drop o).take n=l)(c:l.length=n):(loadVar t ⟨b,o,none⟩).run P w=.ok (.agg l.toArray) w:=
 M5 h c fun j u hu=>by
  rw[hb.cell];subst hl;rw[List.getElem?_take] at hu;split at hu
  ·simpa using hu
  ·cases hu
theorem Ak{f:Operand}{xs:Array Operand}{b:Array TypeId}{fn:FuncId}{vs:Array Value}{R:Value→World→Prop}(c:Ba P fn)(d:a.eval f=.func (.func fn) #[] #[])(e:xs.map a.eval=vs)
  (h:BN P fn vs w R):Cg P ⟨dst,.call {callee:=.value f,args:=xs,argTypes:=b},ty,pos,Cc,g⟩ a w R:=
 JI c d e (by simp) h
theorem G7 {t e:TypeId} {x y:Operand} {b n k:Nat} {i:Int} {c:IntKind} (d:P.underlying t=some (.array n e)) (hs:(P.info? e).map (·.size)=some 1) (f:a.eval x=.pointer (some ⟨b,0,none⟩)) (h:a.eval y=.int c i)
  (hi:i=k) (hk:k<n):Cg P ⟨dst,.indexAddr t x y,ty,pos,Cc,g⟩ a w (fun u w'=>u=.pointer (some ⟨b,k,none⟩)∧w'=w):=by
 have:=QM (P:=P) (a:=a) (w:=w) (dst:=dst) (ty:=ty) (pos:=pos) (Cc:=Cc) (g:=g) d hs f h hi hk;simpa using this
theorem BA{t e:TypeId}{x y:Operand}{b o n c k:Nat}{A:Option Addr}{i:Int}{d:IntKind}(f:P.underlying t=some (.slice e))(hs:(P.info? e).map (·.size)=some 1)(h:a.eval x=.slice A n c)(j:A=some ⟨b,o,none⟩)(l:a.eval y=.int d i)
  (hi:i=k)(hk:k<n):Cg P ⟨dst,.indexAddr t x y,ty,pos,Cc,g⟩ a w (fun u w'=>u=.pointer (some ⟨b,o+k,none⟩)∧w'=w):=by
 subst j;have:=N5 (P:=P) (a:=a) (w:=w) (dst:=dst) (ty:=ty) (pos:=pos) (Cc:=Cc) (g:=g) f hs h l hi hk;simpa using this
theorem BC{t e:TypeId}{x y:Operand}{sz b o n c k:Nat}{A:Option Addr}{i:Int}{d:IntKind}(f:P.underlying t=some (.slice e))(hs:(P.info? e).map (·.size)=some sz)(h:a.eval x=.slice A n c)(j:A=some ⟨b,o,none⟩)(l:a.eval y=.int d i)
  (hi:i=k)(hk:k<n):Cg P ⟨dst,.indexAddr t x y,ty,pos,Cc,g⟩ a w (fun u w'=>u=.pointer (some ⟨b,o+k*sz,none⟩)∧w'=w):=by
 subst j;exact N5 f hs h l hi hk
theorem Ae(b:Bool):b=true∨b=false:=by cases b<;>simp
theorem AY{l:List Value}(h:l.all (·.oneCell')=true):∀u∈l,u.oneCell'=true:=by simpa using h
theorem ec{a:Act}{v:Value}:a.eval (.const v)=v:=rfl
theorem es{a:Act}{t:Nat}{v:Value}(h:sl a t=v):a.eval (.tmp t)=v:=h
theorem JJ{v:Value}{b c:Bool}(h:v=.bool b)(hb:b=c):v=.bool c:=by rw[h,hb]
theorem Vs{fn:Func}{N:Nat}{a:Act}{l:Env}{R:Value→World→Prop}(hr:fn.results= #[])(h:R (.tuple #[]) w):LV X0 N (bodyPost P fn (fun e w'=>∃v,e=.returned v∧R v w')) .ret a l w:=fun s=>
 bodyPost_ret (results_none hr _ _ _) (by rw[EE,s.df]) ⟨_,rfl,h⟩
def flat{α:Type}(enc:α→List Value)(xs:List α):List Value:=xs.flatMap enc
theorem QO{α:Type}(enc:α→List Value)(sz:Nat)(he:∀x,(enc x).length=sz):∀xs:List α,(flat enc xs).length=xs.length*sz
 |[]=>by simp[flat]
 |x::xs=>by
  have:=QO enc sz he xs;unfold flat at*;simp only[List.flatMap_cons,List.length_append,he,this,List.length_cons,Nat.add_mul,Nat.one_mul];omega
theorem Rd.elem {α:Type} {enc:α→List Value} {sz:Nat} (he:∀x,(enc x).length=sz) (a:0<sz) {w:World} {lo hi:Nat} {A:Option Addr} {xs:List α} (h:Rd w lo hi A (flat enc xs)) {k:Nat} (hk:k<xs.length):
  ∃b o,A=some ⟨b,o,none⟩∧lo≤b∧b<hi∧∀j u,(flat enc xs)[j]?=some u→w.cell? ⟨b,o+j,none⟩=some u:=by
 have hl:=QO enc sz he xs;have c:0<(flat enc xs).length:=by rw[hl];exact Nat.mul_pos (by omega) a
 exact h.at_ (k:=0) (u:=(flat enc xs)[0]) (List.getElem?_eq_getElem c)
theorem Rd.CR{w:World}{lo hi:Nat}{A:Option Addr}{cs:List Value}(h:Rd w lo hi A cs){k:Nat}(hk:k<cs.length):
  ∃b o,A=some ⟨b,o,none⟩∧lo≤b∧b<hi∧∀j u,cs[j]?=some u→w.cell? ⟨b,o+j,none⟩=some u:=h.at_ (List.getElem?_eq_getElem hk)
end
def FY(o:Oper)(j:Nat):Bool:=o.after.toList.any fun e=>Region.binds .any e&&Nat.beq e.on j
def Cq(L:List Oper)(j:Nat):Option Nat:=(L[j]?).bind (·.dst)
def isDst(L:List Oper)(s:Nat):Bool:=L.any fun o=>match o.dst with|some d=>Nat.beq d s|none=>false
def K2:Nat→List Oper→Bool
 |_,[]=>true
 |k,o::L=>(o.after.toList.all fun e=> !Region.binds .any e||Nat.blt e.on k)&&K2 (k+1) L
def M7(N:Nat):List Oper→Bool
 |[]=>true
 |o::L=>(match o.dst with|some d=>Nat.blt d N&& !isDst L d|none=>true)&&M7 N L
def Mc(L:List Oper):List Nat→Bool
 |[]=>true
 |[k]=>Nat.blt k L.length
 |k::j::r=>Nat.blt k j&&(match L[j]? with|some o=>FY o k|none=>false)&&Mc L (j::r)
def NM(N:Nat)(L:List Oper)(sp:List Nat):Bool:=K2 0 L&&M7 N L&&Mc L sp
theorem M8{L:List Oper}{s:Nat}:isDst L s=true↔∃j,Cq L j=some s:=by
 unfold isDst Cq;rw[List.any_eq_true];constructor
 ·rintro⟨o,a,h⟩;obtain⟨j,hj,rfl⟩:=List.mem_iff_getElem.1 a;refine⟨j,?_⟩;rw[List.getElem?_eq_getElem hj];cases b:L[j].dst with
  |none=>simp[b] at h
  |some d=>simp only[b] at h;simp[b,Nat.eq_of_beq_eq_true h]
 ·rintro⟨j,hj⟩;cases a:L[j]? with
  |none=>simp[a] at hj
  |some o=>
   refine⟨o,List.mem_of_getElem? a,?_⟩;simp only[a,Option.bind_some] at hj;simp[hj]
theorem KR{N:Nat}:∀{L:List Oper},M7 N L=true→∀i j d,Cq L i=some d→d<N∧(Cq L j=some d→i=j)
 |[],_,i,j,d,hi=>by simp[Cq] at hi
 |o::L,h,i,j,d,hi=>by
  simp only[M7,Bool.and_eq_true] at h;obtain⟨h1,h2⟩:=h;have ih:=KR h2;have b:∀d,o.dst=some d→d<N∧∀j,Cq L j≠some d:=by
   intro d c;rw[c] at h1;simp only[Bool.and_eq_true,Bool.not_eq_true'] at h1;refine⟨by simpa[Nat.blt_eq] using h1.1,fun j hj=>?_⟩;have:=M8.2 ⟨j,hj⟩;rw[this] at h1;cases h1.2
  cases i with
  |zero=>
   have a:o.dst=some d:=by simpa[Cq] using hi
   refine⟨(b d a).1,fun hj=>?_⟩;cases j with
   |zero=>rfl
   |succ j=>exact absurd (by simpa[Cq] using hj) ((b d a).2 j)
  |succ i=>
   have a:Cq L i=some d:=by simpa[Cq] using hi
   cases j with
   |zero=>
    refine⟨(ih i i d a).1,fun hj=>?_⟩;exact absurd a ((b d (by simpa[Cq] using hj)).2 i)
   |succ j=>
    refine⟨(ih i j d a).1,fun hj=>?_⟩;rw[(ih i j d a).2 (by simpa[Cq] using hj)]
theorem FZ:∀{L:List Oper} {k:Nat},K2 k L=true→∀i o,L[i]?=some o→∀e∈o.after,Region.binds .any e=true→e.on<k+i
 |[],_,_,i,o,a=>by simp at a
 |o'::L,k,h,i,o,a=>by
  simp only[K2,Bool.and_eq_true,List.all_eq_true] at h;cases i with
  |zero=>
   obtain rfl:o'=o:=by simpa using a
   intro e he hb;have:=h.1 e (by simpa using he);simp only[Bool.or_eq_true,Bool.not_eq_true',hb,Bool.true_eq_false,false_or] at this;simpa[Nat.blt_eq] using this
  |succ i=>
   intro e he hb;have:=FZ h.2 i o (by simpa using a) e he hb;omega
theorem Gu{o:Oper}{j:Nat}:FY o j=true↔∃e∈o.after,Region.binds .any e=true∧e.on=j:=by
 unfold FY;rw[List.any_eq_true];constructor
 ·rintro⟨e,he,h⟩;simp only[Bool.and_eq_true] at h;exact⟨e,by simpa using he,h.1,Nat.eq_of_beq_eq_true h.2⟩
 ·rintro⟨e,he,hb,rfl⟩;exact⟨e,by simpa using he,by simp[hb]⟩
theorem M9{L:List Oper}:∀{sp:List Nat},Mc L sp=true→
  (∀(i k j:Nat),sp[i]?=some k→sp[i+1]?=some j→∃o,L[j]?=some o∧FY o k=true)∧(∀(i j k:Nat),sp[i]?=some k→sp[j]?=some k→i=j)∧(∀k∈sp,k<L.length)∧(∀k∈sp,∀(e:Nat),sp[0]?=some e→e≤k)
 |[],_=>⟨by simp,by simp,by simp,by simp⟩
 |[k],h=>by
  have hk:k<L.length:=by simpa[Mc,Nat.blt_eq] using h
  refine⟨by simp,?_,by simpa using hk,by simp⟩;intro i j x hi hj;cases i<;>cases j<;>simp_all
 |k::j::r,h=>by
  simp only[Mc,Bool.and_eq_true] at h;obtain⟨⟨h1,h2⟩,n⟩:=h;obtain⟨a1,a2,a3,a4⟩:=M9 n;have p:k<j:=by simpa[Nat.blt_eq] using h1
  refine⟨?_,?_,?_,?_⟩
  ·intro i x y a f;cases i with
   |zero=>
    obtain rfl:k=x:=by simpa using a
    obtain rfl:j=y:=by simpa using f
    cases g:L[j]? with
    |none=>simp[g] at h2
    |some o=>exact⟨o,rfl,by simpa[g] using h2⟩
   |succ i=>exact a1 i x y (by simpa using a) (by simpa using f)
  ·intro i b x a c;have d:∀m,(j::r)[m]?=some x→j≤x:=fun m hm=>a4 x (List.mem_of_getElem? hm) j (by simp);cases i with
   |zero=>
    obtain rfl:k=x:=by simpa using a
    cases b with
    |zero=>rfl
    |succ b=>have:=d b (by simpa using c);omega
   |succ i=>
    cases b with
    |zero=>
     obtain rfl:k=x:=by simpa using c
     have:=d i (by simpa using a);omega
    |succ b=>rw[a2 i b x (by simpa using a) (by simpa using c)]
  ·intro x a;rcases List.mem_cons.1 a with rfl|a
   ·have:=a3 j (by simp);omega
   ·exact a3 x a
  ·intro x a e l;obtain rfl:k=e:=by simpa using l
   rcases List.mem_cons.1 a with rfl|a
   ·exact Nat.le_refl _
   ·have:=a4 x a j (by simp);omega
section
variable(P:Program)(X:Ctx)(N:Nat)(L:List Oper)(a:Act)(l:Env)(S:Nat→World→World→Prop)(T:Nat→Act→World→Prop)(Φ:Nat→Value→World→Prop)(sp:List Nat)
structure Iv (k:Nat) (o:Oper) (a':Act) (w':World) (ph:Nat):Prop where
 out:∀s,isDst L s=false→sl a' s=lk (sl a s) l s
 later:∀(j d:Nat) (o':Oper),L[j]?=some o'→o'.dst=some d→FY o' k=true→sl a' d=lk (sl a d) l d
 WS:∀(j d:Nat),FY o j=true→Cq L j=some d→Φ j (sl a' d) w'
 AV:T ph a' w'
 Zw:∀(i:Nat),sp[i]?=some k→ph=i
 lat:∀(i j:Nat) (o':Oper),sp[i]?=some j→L[j]?=some o'→FY o' k=true→ph≤i
def Hb(k:Nat)(o:Oper):Prop:=∀a' w' ph,Iv L a l T Φ sp k o a' w' ph→
 (Region.wanted o (yielded L.toArray a'.tmps)=true∧Cg P o a' w' (fun v BI=>Φ k v BI∧(if k∈sp then S k w' BI∧T (ph+1) (a'.put o.dst v) BI else Ext w' BI)))∨
 (Region.wanted o (yielded L.toArray a'.tmps)=false∧Φ k undef w'∧k∉sp)
def Na:Nat→Nat→List Oper→Prop
 |0,_,_=>True
 |_+1,_,[]=>True
 |m+1,k,o::R=>Hb P L a l S T Φ sp k o∧Na m (k+1) R
end
def Mt(X:Ctx)(N:Nat)(a:Act)(Φ:Nat→Value→World→Prop)(b:Act→World→Prop)(G:Env→Prop)(w':World):Nat→Nat→List Oper→Env→Prop
 |0,_,_,l'=>b (Cf a l') w'→G l'
 |_+1,_,[],l'=>b (Cf a l') w'→G l'
 |m+1,k,o::R,l'=>match o.dst with
  |some d=>∀v,Φ k v w'→Mt X N a Φ b G w' m (k+1) R ((d,v)::l')
  |none=>Mt X N a Φ b G w' m (k+1) R l'
def okD (L:List Oper) (sp:List Nat) (D:Nat→List Nat):Bool:=
 (List.range (sp.length+1)).all fun ph=>(D ph).all fun s=>(List.range L.length).all fun i=>match Cq L i with
  |some d=> !Nat.beq d s||(sp.take ph).any fun k=>Nat.beq k i||(match L[k]? with|some o=>FY o i|none=>false)
  |none=>true
theorem Vt{L:List Oper}{sp:List Nat}{D:Nat→List Nat}(h:okD L sp D=true){ph:Nat}(e:ph≤sp.length){i s:Nat}(hs:s∈D ph)(hi:Cq L i=some s):
  ∃m k,m<ph∧sp[m]?=some k∧(k=i∨∃o,L[k]?=some o∧FY o i=true):=by
 have b:i<L.length:=by
  rcases Nat.lt_or_ge i L.length with h|h
  ·exact h
  ·simp[Cq,List.getElem?_eq_none h] at hi
 simp only[okD,List.all_eq_true,List.mem_range] at h;have:=h ph (by omega) s hs i b;rw[hi] at this;simp only[Nat.beq_refl,Bool.not_true,Bool.false_or,List.any_eq_true] at this;obtain⟨k,hk,hh⟩:=this;obtain⟨m,hm,c⟩:=List.mem_iff_getElem.1 hk;have a:m<ph∧m<sp.length:=by simp at hm;omega
 refine⟨m,k,a.1,?_,?_⟩
 ·rw[←c,List.getElem_take,List.getElem?_eq_getElem a.2]
 ·rcases Bool.or_eq_true _ _▸hh with h1|h1
  ·exact .inl (Nat.eq_of_beq_eq_true h1)
  ·cases d:L[k]? with
   |none=>simp[d] at h1
   |some o=>exact .inr ⟨o,rfl,by simpa[d] using h1⟩
section
variable{P:Program}{X:Ctx}{N:Nat}{L:List Oper}{a:Act}{l:Env}{S:Nat→World→World→Prop}{T:Nat→Act→World→Prop}{Φ:Nat→Value→World→Prop}{sp:List Nat}{Q:Exit→Act→World→Prop}{w:World}{k:Nat}{o:Oper}{R:List Oper}
structure Inv(listed:Array Bool)(a':Act)(w':World):Prop where
 QP:listed.size=L.length
 sz:a'.tmps.size=N
 df:a'.defers=X.ds
 out:∀s,(∀j,Cq L j=some s→listed.getD j false=false)→sl a' s=lk (sl a s) l s
 done:∀(j d:Nat),listed.getD j false=true→Cq L j=some d→Φ j (sl a' d) w'
 down:∀(j:Nat) (o:Oper),L[j]?=some o→listed.getD j false=true→∀e∈o.after,Region.binds .any e=true→listed.getD e.on false=true
 ph:∃ph,T ph a' w'∧ph≤sp.length∧∀(i k:Nat),sp[i]?=some k→(listed.getD k false=true↔i<ph)
theorem Xh{x y:Act}(hs:x.tmps.size=y.tmps.size)(a:x.defers=y.defers)(h:∀s,sl x s=sl y s):x=y:=by
 obtain⟨t,d⟩:=x;obtain⟨b,d'⟩:=y;simp only at a hs;subst a;have:t=b:=by
  apply Array.ext hs;intro i h1 h2;have:=h i;unfold sl at this;simp only[Array.getD_eq_getD_getElem?,Array.getElem?_eq_getElem h1,Array.getElem?_eq_getElem h2,Option.getD_some] at this;exact this
 rw[this]
theorem NN(p:Act→World→Prop)(G:Env→Prop)(w':World)(a':Act)(b:p a' w')(c:a'.tmps.size=N)(e:a'.defers=X.ds){K:Prop}(t:∀l',St X N a l'→G l'→a'=Cf a l'→K):
  ∀(m:Nat) (R:List Oper) (k:Nat) (l':Env),St X N a l'→m≤R.length→(∀i d,Cq R i=some d→d<N)→(∀i j d,Cq R i=some d→Cq R j=some d→i=j)→Mt X N a Φ p G w' m k R l'→
   (∀i d,i<m→Cq R i=some d→Φ (k+i) (sl a' d) w')→(∀s,(∀i,i<m→Cq R i≠some s)→sl a' s=lk (sl a s) l' s)→K
 |0,R,k,l',st,_,_,_,h,_,f=>by
  have:a'=Cf a l':=Xh (by rw[K1,st.sz,c]) (by rw[EE,st.df,e]) (fun s=>by rw[Ln st s];exact f s (fun i hi=>absurd hi (by omega)));exact t l' st (h (by rw[←this];exact b)) this
 |m+1,[],k,l',st,hm,_,_,h,_,f=>by simp at hm
 |m+1,o::R,k,l',st,hm,q,u,h,v,f=>by
  have g:∀i d,Cq R i=some d→d<N:=fun i d hi=>q (i+1) d (by simpa[Cq] using hi);have l:∀i j d,Cq R i=some d→Cq R j=some d→i=j:=fun i j d hi hj=>by
   have:=u (i+1) (j+1) d (by simpa[Cq] using hi) (by simpa[Cq] using hj);omega
  have r:∀i d,i<m→Cq R i=some d→Φ (k+1+i) (sl a' d) w':=fun i d w hi=>by
   have:=v (i+1) d (by omega) (by simpa[Cq] using hi);rw[show k+1+i=k+(i+1) from by omega];exact this
  simp only[Mt] at h;cases n:o.dst with
  |none=>
   rw[n] at h;refine NN p G w' a' b c e t m R (k+1) l' st (by simpa using hm) g l h r fun s hs=>f s fun i hi=>?_;cases i with
   |zero=>simp[Cq,n]
   |succ i=>simpa[Cq] using hs i (by omega)
  |some d=>
   rw[n] at h;have h0:Cq (o::R) 0=some d:=by simp[Cq,n]
   refine NN p G w' a' b c e t m R (k+1) _ (st.cons (q 0 d h0) (sl a' d)) (by simpa using hm) g l (h _ (v 0 d (by omega) h0)) r fun s hs=>?_;simp only[lk];cases hb:Nat.beq d s with
   |true=>
    obtain rfl:d=s:=Nat.eq_of_beq_eq_true hb;rfl
   |false=>
    refine f s fun i hi=>?_;cases i with
    |zero=>simp[Cq,n,Nat.ne_of_beq_eq_false hb]
    |succ i=>simpa[Cq] using hs i (by omega)
theorem QQ:∀{m:Nat} {R:List Oper} {k:Nat},Na P L a l S T Φ sp m k R→∀(i:Nat) (o:Oper),i<m→R[i]?=some o→Hb P L a l S T Φ sp (k+i) o
 |0,_,_,_,i,o,hi,_=>absurd hi (by omega)
 |_+1,[],_,_,i,o,_,b=>by simp at b
 |m+1,o'::R,k,h,i,o,hi,b=>by
  cases i with
  |zero=>
   obtain rfl:o'=o:=by simpa using b
   exact h.1
  |succ i=>
   have:=QQ h.2 i o (by omega) (by simpa using b);rw[Nat.add_assoc,Nat.add_comm 1 i] at this;exact this
variable(P) in
theorem BR:Na P L a l S T Φ sp 0 k R:=trivial
theorem Aa{m:Nat}(h:Hb P L a l S T Φ sp k o)(hr:Na P L a l S T Φ sp m (k+1) R):Na P L a l S T Φ sp (m+1) k (o::R):=⟨h,hr⟩
theorem N6{x:Act}{d:Nat}{v:Value}(h:d<x.tmps.size):sl (x.put (some d) v) d=v:=by
 unfold sl Act.put;simp[h]
theorem Nb{x:Act}{d s:Nat}{v:Value}(h:d≠s):sl (x.put (some d) v) s=sl x s:=by
 unfold sl Act.put;simp[Array.getElem?_setIfInBounds_ne h]
theorem HX{listed:Array Bool}{i:Nat}(h:i<listed.size):(listed.setIfInBounds i true).getD i false=true:=by simp[h]
theorem Eu{listed:Array Bool}{i j:Nat}(h:i≠j):(listed.setIfInBounds i true).getD j false=listed.getD j false:=by
 simp[Array.getElem?_setIfInBounds_ne h]
inductive QR (L:List Oper):Nat→Nat→Prop
 |one {i j:Nat} {o:Oper}:L[i]?=some o→FY o j=true→QR L i j
 |step {i d j:Nat} {o:Oper}:L[i]?=some o→FY o d=true→QR L d j→QR L i j
theorem Mu{L:List Oper}{p:Nat→Prop}(a:∀d o,L[d]?=some o→p d→∀k,FY o k=true→p k){i j:Nat}(h:QR L i j):(∀o,L[i]?=some o→∀k,FY o k=true→p k)→p j:=by
 induction h with
 |one b c=>exact fun hi=>hi _ b _ c
 |step b c _ ih=>exact fun hi=>ih fun o' e k hk=>a _ o' e (hi _ b _ c) k hk
def TG (acc:List Nat) (m:Nat) (e:Edge):Nat:=if Region.binds .any e then m|||(2^e.on|||acc.getD e.on 0) else m
def OR(acc:List Nat)(o:Oper):Nat:=o.after.toList.foldl (TG acc) 0
def QD:List Oper→List Nat→List Nat
 |[],acc=>acc
 |o::R,acc=>QD R (acc++[OR acc o])
def Lw (L:List Oper) (m:Nat):Bool:=(List.range L.length).all fun i=>Nat.blt i m||(List.range i).all fun j=>(match L[i]? with|some o=>FY o j|none=>false)||((QD L []).getD i 0).testBit j
theorem TH{acc:List Nat}{o:Oper}{j:Nat}(h:(OR acc o).testBit j=true):∃d,FY o d=true∧(d=j∨(acc.getD d 0).testBit j=true):=by
 have key:∀(es:List Edge) (m:Nat),(es.foldl (TG acc) m).testBit j=true→m.testBit j=true∨∃e∈es,Region.binds .any e=true∧(e.on=j∨(acc.getD e.on 0).testBit j=true):=by
  intro es
  induction es with
  |nil=>intro m h;exact .inl h
  |cons e es ih=>
   intro m h;rw[List.foldl_cons] at h;rcases ih _ h with h1|⟨b,a,h1⟩
   ·unfold TG at h1;split at h1
    ·rename_i hb
     rw[Nat.testBit_or,Nat.testBit_or,Bool.or_eq_true,Bool.or_eq_true,Nat.testBit_two_pow,decide_eq_true_eq] at h1;rcases h1 with h1|h1
     ·exact .inl h1
     ·exact .inr ⟨e,List.mem_cons_self ..,hb,h1⟩
    ·exact .inl h1
   ·exact .inr ⟨b,List.mem_cons_of_mem _ a,h1⟩
 rcases key _ _ h with h1|⟨e,he,hb,h1⟩
 ·simp at h1
 ·exact⟨e.on,Gu.2 ⟨e,by simpa using he,hb,rfl⟩,h1⟩
theorem OS{L:List Oper}:∀(R:List Oper) (acc:List Nat),L.drop acc.length=R→(∀i j,(acc.getD i 0).testBit j=true→QR L i j)→∀i j,((QD R acc).getD i 0).testBit j=true→QR L i j
 |[],acc,_,h=>h
 |o::R,acc,a,h=>by
  unfold QD;have b:L[acc.length]?=some o:=by
   have:(L.drop acc.length)[0]?=some o:=by rw[a];rfl
   simpa using this
  refine OS R _ (by rw[List.length_append,List.length_singleton,←List.tail_drop,a];rfl) fun i j hb=>?_;rcases Nat.lt_trichotomy i acc.length with hi|hi|hi
  ·rw[List.getD_eq_getElem?_getD,List.getElem?_append_left hi,←List.getD_eq_getElem?_getD] at hb;exact h i j hb
  ·subst hi;have:(acc++[OR acc o]).getD acc.length 0=OR acc o:=by simp
   rw[this] at hb;obtain⟨d,c,h1⟩:=TH hb;rcases h1 with rfl|h1
   ·exact .one b c
   ·exact .step b c (h d j h1)
  ·have:(acc++[OR acc o]).getD i 0=0:=by
    rw[List.getD_eq_getElem?_getD,List.getElem?_eq_none (by simp;omega)];rfl
   rw[this] at hb;simp at hb
theorem L6{L:List Oper}{m:Nat}(h:Lw L m=true){i:Nat}{o:Oper}(a:L[i]?=some o)(hi:m≤i):∀j,j<i→QR L i j:=by
 have b:i<L.length:=(List.getElem?_eq_some_iff.1 a).1;simp only[Lw,List.all_eq_true,List.mem_range] at h;have h1:=h i b;rw[Bool.or_eq_true] at h1;rcases h1 with h1|h1
 ·have:i<m:=by simpa[Nat.blt_eq] using h1
  omega
 ·simp only[List.all_eq_true,List.mem_range,a,Bool.or_eq_true] at h1;exact fun j hj=>(h1 j hj).elim (fun h=>.one a h) fun h=>OS L [] rfl (fun i j hb=>by simp at hb) i j h
theorem QS {m:Nat} (aK:Lw L m=true) (c:K2 0 L=true):∀(rest:List Oper) (j fuel:Nat) (listed:Array Bool) (a':Act) (w':World),L.drop j=rest→m≤j→rest.length≤fuel→listed.size=L.length→(∀i,i<L.length→(listed.getD i false=true↔i<j))→
  wpListIn (Wd X.ro) 0 P L.toArray Q rest a' w'→wpAnyIn (Wd X.ro) 0 P .any L.toArray Q fuel listed a' w':=by
 intro rest
 induction rest with
 |nil=>
  intro j fuel listed a' w' g hm s n hl h;have u:L.length≤j:=List.drop_eq_nil_iff.1 g;have hr:Region.ready .any L.toArray listed=[]:=by
   rw[List.eq_nil_iff_forall_not_mem];intro i hi;obtain⟨h0,o,l,_⟩:=mem_ready.1 hi;have q:i<L.length:=by simpa using(Array.getElem?_eq_some_iff.1 l).1
   have h1:=(hl i q).2 (by omega);have f:i<listed.size:=by omega
   simp[f] at h0 h1;rw[h0] at h1;cases h1
  cases fuel with
  |zero=>exact⟨hr,h⟩
  |succ fuel=>exact⟨fun _=>h,fun i hi=>by rw[hr] at hi;cases hi⟩
 |cons o rest ih=>
  intro j fuel listed a' w' g hm s n hl h;have u:j<L.length:=by
   rcases Nat.lt_or_ge j L.length with h|h
   ·exact h
   ·rw[List.drop_of_length_le h] at g;cases g
  have l:L[j]?=some o:=by
   have:(L.drop j)[0]?=some o:=by rw[g];rfl
   simpa using this
  have v:L.drop (j+1)=rest:=by rw[←List.tail_drop,g];rfl
  cases fuel with
  |zero=>simp at s
  |succ fuel=>
   refine⟨fun hr=>?_,fun i hi=>?_⟩
   ·exfalso;have hm:j∈Region.ready .any L.toArray listed:=mem_ready.2 ⟨by
     have:listed.getD j false=false:=by
      cases hb:listed.getD j false with
      |false=>rfl
      |true=>have:=(hl j u).1 hb;omega
     have aE:j<listed.size:=by omega
     simp[aE] at this⊢;exact this,o,by simpa using l,fun e he b=>by
      rcases Nat.lt_or_ge e.on L.length with q|aF
      ·refine(hl e.on q).2 ?_;exact FZ c j o l e he b|>fun h=>by omega
      ·have:=FZ c j o l e he b;omega⟩
    rw[hr] at hm;cases hm
   ·obtain⟨h0,o',y,t⟩:=mem_ready.1 hi;have aG:i<L.length:=by simpa using(Array.getElem?_eq_some_iff.1 y).1
    have f:i<listed.size:=by omega
    have z:listed.getD i false=false:=by simp[f] at h0⊢;exact h0
    have aF:j≤i:=by
     rcases Nat.lt_or_ge i j with h1|h1
     ·rw[(hl i aG).2 h1] at z;cases z
     ·exact h1
    have aH:i=j:=by
     rcases Nat.lt_or_ge j i with h1|h1
     ·have r:L[i]?=some o':=by simpa using y
      have:=Mu (p:=fun x=>x<j) (fun d od aI aN k hk=>by
       obtain⟨e,he,b,aA⟩:=Gu.1 hk;have:=FZ c d od aI e he b;omega) (L6 aK r (by omega) j h1) (fun aL aB k hk=>by
       rw[r] at aB;obtain rfl:o'=aL:=by simpa using aB
       obtain⟨e,he,b,aA⟩:=Gu.1 hk;have h2:=t e he b;rw[aA] at h2;have aO:=FZ c i o' r e he b;exact(hl k (by omega)).1 h2)
      omega
     ·omega
    subst aH;unfold wpOpIn;have aJ:L.toArray[i]?=some o:=by simpa using l
    simp only[aJ];unfold wpListIn at h;have aC:∀x,x<L.length→((listed.setIfInBounds i true).getD x false=true↔x<i+1):=by
     intro x aM
     by_cases aD:i=x
     ·subst aD;simp only[HX f,true_iff];omega
     ·rw[Eu aD,hl x aM];omega
    split
    ·rename_i hw
     rw[if_pos hw] at h;exact Oper.wpIn_mono (fun a w hh=>ih (i+1) fuel _ a w v (by omega) (by simpa using s) (by simpa using n) aC hh) h
    ·rename_i hw
     rw[if_neg hw] at h;exact⟨h.1,ih (i+1) fuel _ _ _ v (by omega) (by simpa using s) (by simpa using n) aC h.2⟩
theorem Vu{m:Nat}(bH:m≤L.length)(bA:Lw L m=true)(bE:(sp.all fun k=>Nat.blt k m)=true)(aV:∀k w w',Ext w w'→S k w w')(b6:∀k j v w w',j≠k→(∀o,L[j]?=some o→FY o k=false)→Φ j v w→S k w w'→Φ j v w')(D:Nat→List Nat)(b7:okD L sp D=true)(b8:∀k x w y w',T k x w→Ext w w'→(∀s,s∈D k→sl y s=sl x s)→T k y w')(hk:NM N L sp=true)(bI:St X N a l)
  (bJ:Na P L a l S T Φ sp m 0 L)(bF:∀w',Mt X N a Φ (T sp.length) (fun l'=>WL P X N L.toArray Q (L.drop m) a l' w') w' m 0 L l):
  ∀(fuel:Nat) (listed:Array Bool) (a':Act) (w':World),listed.toList.count false≤fuel→Inv (X:=X) (N:=N) (L:=L) (a:=a) (l:=l) (T:=T) (Φ:=Φ) (sp:=sp) listed a' w'→(∀j,m≤j→listed.getD j false=false)→
   wpAnyIn (Wd X.ro) 0 P .any L.toArray Q fuel listed a' w':=by
 simp only[NM,Bool.and_eq_true] at hk;obtain⟨⟨bB,bK⟩,bL⟩:=hk;obtain⟨bM,cF,cG,_⟩:=M9 bL;have aC:=KR bK
 
 have fin:∀(fuel:Nat) (listed:Array Bool) (a':Act) (w':World),listed.toList.count false≤fuel→Inv (X:=X) (N:=N) (L:=L) (a:=a) (l:=l) (T:=T) (Φ:=Φ) (sp:=sp) listed a' w'→(∀j,m≤j→listed.getD j false=false)→(∀j,j<m→listed.getD j false=true)→wpAnyIn (Wd X.ro) 0 P .any L.toArray Q fuel listed a' w':=by
  intro fuel listed a' w' aW b n aN;obtain⟨ph,aQ,hle,u⟩:=b.ph;have aX:ph=sp.length:=by
   rcases Nat.lt_or_ge ph sp.length with r|aY
   ·have bN:sp[ph]<m:=by
     have:=List.all_eq_true.1 bE sp[ph] (List.getElem_mem r);simpa[Nat.blt_eq] using this
    have a7:=(u ph sp[ph] (List.getElem?_eq_getElem r)).1 (aN _ bN);omega
   ·omega
  subst aX;have bO:wpListIn (Wd X.ro) 0 P L.toArray Q (L.drop m) a' w':=by
   refine NN (T sp.length) (fun l'=>WL P X N L.toArray Q (L.drop m) a l' w') w' a' aQ b.sz b.df (fun l' st b9 e=>by rw[e];exact b9 st) m L 0 l bI bH (fun i d hi=>(aC i i d hi).1) (fun i j d hi hj=>(aC i j d hi).2 hj) (bF w') (fun i d aZ hi=>?_) (fun s hs=>?_)
   ·rw[Nat.zero_add];exact b.done i d (aN i aZ) hi
   ·refine b.out s fun j hj=>?_;rcases Nat.lt_or_ge j m with h|h
    ·exact absurd hj (hs j h)
    ·exact n j h
  refine QS bA bB (L.drop m) m fuel listed a' w' rfl (Nat.le_refl _) ?_ b.QP (fun i hi=>?_) bO
  ·
   refine Nat.le_trans ?_ aW;have cH:listed.toList.length=L.length:=by simpa using b.QP
   have e:listed.toList.drop m=List.replicate (L.length-m) false:=by
    apply List.ext_getElem
    ·simp[b.QP]
    ·intro i h1 h2;simp at h1;have:=n (m+i) (by omega);rw[Array.getD_eq_getD_getElem?,Array.getElem?_eq_getElem (by omega)] at this;simpa using this
   have h2:(listed.toList.drop m).count false≤listed.toList.count false:=(List.drop_sublist m listed.toList).count_le false;rw[e,List.count_replicate_self] at h2;simpa using h2
  ·rcases Nat.lt_or_ge i m with h|h
   ·simp[aN i h,h]
   ·simp only[n i h];constructor
    ·intro hh;cases hh
    ·intro hh;omega
 intro fuel
 induction fuel with
 |zero=>
  intro listed a' w' aW b n;refine fin 0 listed a' w' aW b n fun j hj=>?_;have aK:j<listed.size:=by rw[b.QP];omega
  cases hb:listed[j] with
  |true=>simp[aK,hb]
  |false=>
   have:false∈listed.toList:=by rw[←hb];simp
   have:=List.count_pos_iff.2 this;omega
 |succ fuel ih=>
  intro listed a' w' aW b n
  by_cases aR:∀j,j<m→listed.getD j false=true
  ·exact fin (fuel+1) listed a' w' aW b n aR
  have hex:∃j,j<m∧listed.getD j false=false:=by
   false_or_by_contra
   rename_i bP
   refine aR fun j hj=>?_;cases hb:listed.getD j false with
   |true=>rfl
   |false=>exact absurd ⟨j,hj,hb⟩ bP
  constructor
  ·intro hr;exfalso;obtain⟨j,hj,hb⟩:=hex;refine absurd hb ?_;rw[Bool.not_eq_false];clear hb
   induction j using Nat.strongRecOn with
   |_ j bQ=>
    cases hb:listed.getD j false with
    |true=>rfl
    |false=>
     exfalso;have aK:j<listed.size:=by rw[b.QP];omega
     have hm:j∈Region.ready .any L.toArray listed:=mem_ready.2 ⟨by simp[aK] at hb⊢;exact hb,L[j],by simp,fun e he c=>by
      have h1:=FZ bB j L[j] (List.getElem?_eq_getElem (by omega)) e he c;exact bQ e.on (by omega) (by omega)⟩
     rw[hr] at hm;cases hm
  ·intro i hi;obtain⟨h0,o,bR,aB⟩:=mem_ready.1 hi;have z:L[i]?=some o:=by simpa using bR
   have bS:i<L.length:=(List.getElem?_eq_some_iff.1 z).1;have aH:i<listed.size:=by rw[b.QP];exact bS
   have aA:listed.getD i false=false:=by simp[aH] at h0⊢;exact h0
   have aZ:i<m:=by
    rcases Nat.lt_or_ge i m with h|h
    ·exact h
    ·obtain⟨j,hj,hb⟩:=hex;have:=Mu (p:=fun x=>listed.getD x false=true) (fun d od bT aI k hk=>by
      obtain⟨e,he,c,g⟩:=Gu.1 hk;have:=b.down d od bT aI e he c
      rwa[g] at this) (L6 bA z h j (by omega)) (fun cA bC k hk=>by
      rw[z] at bC;obtain rfl:o=cA:=by simpa using bC
      obtain⟨e,he,c,g⟩:=Gu.1 hk;have:=aB e he c
      rwa[g] at this)
     rw[hb] at this;cases this
   obtain⟨ph,aQ,hle,u⟩:=b.ph;have aJ:∀q,sp[q]?=some i→ph=q:=by
    intro q aO;have aY:¬q<ph:=fun r=>by
     have:=(u q i aO).2 r;rw[aA] at this;cases this
    cases q with
    |zero=>omega
    |succ m=>
     have hm:m<sp.length:=by
      have:=(List.getElem?_eq_some_iff.1 aO).1;omega
     obtain⟨bG,aS,bU⟩:=bM m sp[m] i (List.getElem?_eq_getElem hm) aO;rw[z] at aS;obtain rfl:o=bG:=by simpa using aS
     obtain⟨e,he,c,g⟩:=Gu.1 bU;have:=aB e he c;rw[g] at this;have:=(u m sp[m] (List.getElem?_eq_getElem hm)).1 this;omega
   have a8:Iv L a l T Φ sp i o a' w' ph:=by
    refine⟨fun s hs=>b.out s fun j hj=>?_,fun j d o' hj aP aD=>?_,fun j d hj aE=>?_,aQ,aJ,fun q j o' bV hj aD=>?_⟩
    rotate_left 3
    ·rcases Nat.lt_or_ge q ph with r|aY
     ·have aT:=(u q j bV).2 r;obtain⟨e,he,c,g⟩:=Gu.1 aD;have:=b.down j o' hj aT e he c;rw[g,aA] at this;cases this
     ·exact aY
    ·have:=M8.2 ⟨j,hj⟩;rw[hs] at this;cases this
    ·have bW:Cq L j=some d:=by simp[Cq,hj,aP]
     refine b.out d fun cB aK=>?_;obtain rfl:=(aC j cB d bW).2 aK;cases hb:listed.getD j false with
     |false=>rfl
     |true=>
      obtain⟨e,he,c,g⟩:=Gu.1 aD;have:=b.down j o' hj hb e he c;rw[g,aA] at this;cases this
    ·obtain⟨e,he,c,g⟩:=Gu.1 hj;have:=aB e he c;rw[g] at this;exact b.done j d this aE
   
   have step:∀v BI,Φ i v BI→S i w' BI→(∃aF,T aF (a'.put o.dst v) BI∧aF≤sp.length∧∀(q k:Nat),sp[q]?=some k→((listed.setIfInBounds i true).getD k false=true↔q<aF))→
     wpAnyIn (Wd X.ro) 0 P .any L.toArray Q fuel (listed.setIfInBounds i true) (a'.put o.dst v) BI:=by
    intro v BI a9 cC aX;have aI:Cq L i=o.dst:=by simp[Cq,z]
    refine ih _ _ _ ?_ ?_ (fun j hj=>by rw[Eu (by omega)];exact n j hj)
    ·have r:i<listed.toList.length:=by simpa using aH
     have a0:listed.toList[i]=false:=by
      simp[aH] at aA;simpa using aA
     have bX:(listed.setIfInBounds i true).toList=listed.toList.set i true:=by simp
     rw[bX,List.count_set r,a0];have h1:0<listed.toList.count false:=List.count_pos_iff.2 (by rw[←a0];exact List.getElem_mem r);have cD:(if (false==false)=true then 1 else 0)=1:=rfl;have cE:(if (true==false)=true then 1 else 0)=0:=rfl;rw[cD,cE];omega
    ·have a2:∀s,(∀d,o.dst=some d→d≠s)→sl (a'.put o.dst v) s=sl a' s:=by
      intro s hs;cases aP:o.dst with
      |none=>rfl
      |some d=>exact Nb (hs d aP)
     refine⟨by simp[b.QP],?_,?_,?_,?_,?_,aX⟩
     ·cases o.dst<;>simp[Act.put,b.sz]
     ·cases o.dst<;>simp[Act.put,b.df]
     ·intro s hs;rw[a2 s (fun d aP a3=>by
       subst a3;have:=hs i (by rw[aI,aP]);rw[HX aH] at this;cases this)]
      refine b.out s fun j hj=>?_;have:=hs j hj
      by_cases t:i=j
      ·subst t;exact aA
      ·rwa[Eu t] at this
     ·intro j d hj aE
      by_cases t:i=j
      ·subst t;rw[aI] at aE;have r:d<a'.tmps.size:=by rw[b.sz];exact(aC i i d (by rw[aI,aE])).1
       rw[aE,N6 r];exact a9
      ·rw[Eu t] at hj;have h1:=b6 i j _ _ _ (Ne.symm t) (fun a4 bY=>by
        cases a5:FY a4 i with
        |false=>rfl
        |true=>
         obtain⟨e,he,c,g⟩:=Gu.1 a5;have:=b.down j a4 bY hj e he c;rw[g,aA] at this;cases this) (b.done j d hj aE) cC
       have:sl (a'.put o.dst v) d=sl a' d:=by
        refine a2 d fun d' bZ a5=>?_;subst a5;exact t ((aC i j d' (by rw[aI,bZ])).2 aE)
       rw[this];exact h1
     ·intro j a4 hj aT e he c
      by_cases bD:i=e.on
      ·rw[←bD];exact HX aH
      ·rw[Eu bD]
       by_cases t:i=j
       ·subst t;rw[z] at hj;obtain rfl:o=a4:=by simpa using hj
        exact aB e he c
       ·rw[Eu t] at aT;exact b.down j a4 hj aT e he c
   have a6:∀v BI,Ext w' BI→i∉sp→∃aF,T aF (a'.put o.dst v) BI∧aF≤sp.length∧∀(q k:Nat),sp[q]?=some k→((listed.setIfInBounds i true).getD k false=true↔q<aF):=by
    intro v BI a7 aL;refine⟨ph,b8 _ _ _ _ _ aQ a7 (fun s hs=>?_),hle,fun q k aG=>?_⟩
    ·cases aP:o.dst with
     |none=>rfl
     |some d=>
      refine Nb fun a3=>?_;subst a3;obtain⟨m,k,hm,hk,b4⟩:=Vt b7 hle hs (i:=i) (by simp[Cq,z,aP]);have b5:=(u m k hk).2 hm;rcases b4 with rfl|⟨bG,aS,aD⟩
      ·exact aL (List.mem_of_getElem? hk)
      ·obtain⟨e,he,c,g⟩:=Gu.1 aD;have:=b.down k bG aS b5 e he c;rw[g,aA] at this;cases this
    rw[Eu (fun aM=>aL (by rw[aM];exact List.mem_of_getElem? aG))];exact u q k aG
   unfold wpOpIn;simp only[bR];rcases QQ bJ i o aZ z a' w' ph (by rw[Nat.zero_add];exact a8) with⟨hw,a7⟩|⟨hw,hu,aL⟩
   ·rw[if_pos hw];refine(a7.wp fun v BI hr=>?_);rw[Nat.zero_add] at hr;obtain⟨a9,hr⟩:=hr
    by_cases hs:i∈sp
    ·rw[if_pos hs] at hr;refine step v BI a9 hr.1 ⟨ph+1,hr.2,?_,fun q k aG=>?_⟩
     ·obtain⟨m,hm,aU⟩:=List.mem_iff_getElem.1 hs;have:=aJ m (by rw[List.getElem?_eq_getElem hm,aU]);omega
     ·by_cases aM:i=k
      ·subst aM;have:=aJ q aG;simp only[HX aH,true_iff];omega
      ·rw[Eu aM,u q k aG];have cI:q≠ph:=by
        intro e;obtain⟨m,hm,aU⟩:=List.mem_iff_getElem.1 hs;have h1:=aJ m (by rw[List.getElem?_eq_getElem hm,aU]);rw[e,h1,List.getElem?_eq_getElem hm,aU] at aG;exact aM (by simpa using aG)
       omega
    ·rw[if_neg hs] at hr;exact step v BI a9 (aV _ _ _ hr) (a6 v BI hr hs)
   ·rw[if_neg (by rw[hw];simp)];rw[Nat.zero_add] at hu aL;exact⟨fun f _=>ON X.ro f,step undef w' hu (aV _ _ _ (Ext.refl _)) (a6 undef w' (Ext.refl _) aL)⟩
structure N7 (S:World→World→Prop) where
 p:Value→World→Prop
 st:∀v w w',p v w→S w w'→p v w'
def Kc {S:World→World→Prop} (c:Value):N7 S:=⟨fun v _=>v=c,fun _ _ _ h _=>h⟩
def Kt{S:World→World→Prop}:N7 S:=⟨fun _ _=>True,fun _ _ _ h _=>h⟩
def Mw{S:World→World→Prop}(a:List (N7 S))(j:Nat):Value→World→Prop:=(a.getD j Kt).p
theorem C5(w:World):Ext w w.drew:=⟨rfl,rfl,rfl,Nat.le_refl _,fun _ _ _=>rfl⟩
theorem Sz(L:List Oper)(sp:List Nat):okD L sp (fun _=>[])=true:=by simp[okD]
def QT (L:List Oper) (k:Nat) (w w':World):Nat→List (N7 Ext)→Prop
 |_,[]=>True
 |i,x::xs=>(i≠k→(∀o,L[i]?=some o→FY o k=false)→∀v,x.p v w→x.p v w')∧QT L k w w' (i+1) xs
def WT(L:List Oper)(a:List (N7 Ext))(k:Nat)(w w':World):Prop:=∀j,j≠k→(∀o,L[j]?=some o→FY o k=false)→∀v,Mw a j v w→Mw a j v w'
theorem Zx{a:List (N7 Ext)}{k:Nat}{w w':World}(h:QT L k w w' 0 a):WT L a k w w':=by
 have key:∀(a:List (N7 Ext)) (i:Nat),QT L k w w' i a→∀j,i+j≠k→(∀o,L[i+j]?=some o→FY o k=false)→∀v,(a.getD j Kt).p v w→(a.getD j Kt).p v w':=by
  intro a
  induction a with
  |nil=>intro i _ j _ _ v h;simpa[Kt] using h
  |cons x xs ih=>
   intro i h j hj b v c;cases j with
   |zero=>exact h.1 hj b v c
   |succ j=>exact ih (i+1) h.2 j (by omega) (by rw[show i+1+j=i+(j+1) by omega];exact b) v c
 exact fun j hj b v c=>key a 0 h j (by omega) (by rw[Nat.zero_add];exact b) v c
theorem SA {id:Nat} (m:Nat) (T:Nat→Act→World→Prop) (D:Nat→List Nat) (sp:List Nat) (c:List (N7 Ext)) (hm:P.follows .mixedOrders=true) (hk:NM N L sp=true) (b:(Nat.ble m L.length&&Lw L m&&(sp.all fun k=>Nat.blt k m))=true)
  (u:okD L sp D=true) (z:∀k x w y w',T k x w→Ext w w'→(∀s,s∈D k→sl y s=sl x s)→T k y w') (q:St X N a l→T 0 (Cf a l) w.drew)
  (r:Na P L a l (WT L c) T (Mw c) sp m 0 L) (n:∀w',Mt X N a (Mw c) (T sp.length) (fun l'=>WL P X N L.toArray Q (L.drop m) a l' w') w' m 0 L l):CC P X N (.region id L.toArray true) Q a l w:=fun st=>
 wpIn_region_any hm (by
  simp only[Bool.and_eq_true] at b;have aA:Inv (X:=X) (N:=N) (L:=L) (a:=a) (l:=l) (T:=T) (Φ:=Mw c) (sp:=sp) (Array.replicate L.length false) (Cf a l) w.drew:=by
   have p:∀j,(Array.replicate L.length false).getD j false=false:=by
    intro j;rw[Array.getD_eq_getD_getElem?];rcases Nat.lt_or_ge j L.length with h|h
    ·simp[h]
    ·simp[h]
   refine⟨by simp,by rw[K1,st.sz],by rw[EE,st.df],fun s _=>Ln st s,fun j d h=>?_,fun j o _ h=>?_,⟨0,q st,Nat.zero_le _,fun i k _=>?_⟩⟩
   ·rw[p j] at h;cases h
   ·rw[p j] at h;cases h
   ·rw[p k];simp
  have f:=Vu (m:=m) (by simpa[Nat.ble_eq] using b.1.1) b.1.2 b.2 (S:=WT L c) (fun _ w w' g j _ _ v=>fun h=>(c.getD j Kt).st v w w' h g) (fun k j v w w' t aB h hs=>hs j t aB v h) D u z hk st r n L.length (Array.replicate L.length false) (Cf a l) w.drew (by
   refine Nat.le_trans (List.count_le_length ..) (by simp)) aA (fun j _=>by
    rw[Array.getD_eq_getD_getElem?];rcases Nat.lt_or_ge j L.length with h|h
    ·simp[h]
    ·simp[h])
  have e:L.toArray.size=L.length:=by simp
  rw[e];exact f)
theorem BW {id:Nat} (m:Nat) (b:List (N7 Ext)) (hm:P.follows .mixedOrders=true) (hk:NM N L []=true) (d:(Nat.ble m L.length&&Lw L m&&true)=true)
  (e:Na P L a l (WT L b) (fun _ _ w'=>Ext w w') (Mw b) [] m 0 L) (c:∀w',Mt X N a (Mw b) (fun _ w'=>Ext w w') (fun l'=>WL P X N L.toArray Q (L.drop m) a l' w') w' m 0 L l):CC P X N (.region id L.toArray true) Q a l w:=
 SA m (fun _ _ w'=>Ext w w') (fun _=>[]) [] b hm hk d (Sz L []) (fun _ _ _ _ _ h g _=>Ext.trans h g) (fun _=>C5 w) e c
theorem JK{k:Nat}{o:Oper}(b:o.guard=none)(hs:sp.contains k=false)(h:∀a' w' ph,Iv L a l T Φ sp k o a' w' ph→Cg P o a' w' (fun v BI=>Φ k v BI∧Ext w' BI)):Hb P L a l S T Φ sp k o:=fun a' w' ph hK=>
 .inl ⟨by unfold Region.wanted;rw[b],(h a' w' ph hK).mono fun v BI hr=>⟨hr.1,by
  have:k∉sp:=by simpa using hs
  rw[if_neg this];exact hr.2⟩⟩
theorem Zy{k:Nat}{o:Oper}{c:Value}(b:o.guard=none)(hs:sp.contains k=false)(d:∀w,Φ k c w)(h:∀a' w' ph,Iv L a l T Φ sp k o a' w' ph→Cg P o a' w' (fun u BI=>u=c∧BI=w')):Hb P L a l S T Φ sp k o:=
 JK b hs fun a' w' ph hK=>(h a' w' ph hK).mono (by rintro _ _ ⟨rfl,rfl⟩;exact⟨d _,Ext.refl _⟩)
theorem Xi{k:Nat}{o:Oper}(b:o.guard=none)(hs:sp.contains k=true)(h:∀a' w' ph,Iv L a l T Φ sp k o a' w' ph→Cg P o a' w' (fun v BI=>Φ k v BI∧S k w' BI∧T (ph+1) (a'.put o.dst v) BI)):Hb P L a l S T Φ sp k o:=fun a' w' ph hK=>
 .inl ⟨by unfold Region.wanted;rw[b],(h a' w' ph hK).mono fun v BI hr=>⟨hr.1,by
  have:k∈sp:=by simpa using hs
  rw[if_pos this];exact hr.2⟩⟩
theorem N8{a':Act}{j d:Nat}{b:Bool}(hj:Cq L j=some d)(a:sl a' d=.bool b):yielded L.toArray a'.tmps j=some b:=by
 unfold yielded;unfold Cq at hj;have c:((L.toArray)[j]?).bind (·.dst)=some d:=by simpa using hj
 simp only[c,Option.bind_some];unfold sl at a;rw[Array.getD_eq_getD_getElem?] at a;cases e:a'.tmps[d]? with
 |none=>rw[e] at a;simp[undef] at a
 |some u=>rw[e] at a;simp at a;rw[a]
theorem KH{k j d:Nat}{o:Oper}{b:Bool}(c:o.guard=some (j,b))(hj:Cq L j=some d)(hs:sp.contains k=false)(e:∀a' w' ph,Iv L a l T Φ sp k o a' w' ph→sl a' d=.bool b)
  (h:∀a' w' ph,Iv L a l T Φ sp k o a' w' ph→Cg P o a' w' (fun v BI=>Φ k v BI∧Ext w' BI)):Hb P L a l S T Φ sp k o:=fun a' w' ph hK=>
 .inl ⟨by unfold Region.wanted;rw[c];simp[N8 hj (e a' w' ph hK)],(h a' w' ph hK).mono fun v BI hr=>⟨hr.1,by
  have:k∉sp:=by simpa using hs
  rw[if_neg this];exact hr.2⟩⟩
theorem Xj{k j d:Nat}{o:Oper}{b:Bool}{c:Value}(e:o.guard=some (j,b))(hj:Cq L j=some d)(hs:sp.contains k=false)(f:∀w,Φ k c w)(g:∀a' w' ph,Iv L a l T Φ sp k o a' w' ph→sl a' d=.bool b)
  (h:∀a' w' ph,Iv L a l T Φ sp k o a' w' ph→Cg P o a' w' (fun u BI=>u=c∧BI=w')):Hb P L a l S T Φ sp k o:=
 KH e hj hs g fun a' w' ph hK=>(h a' w' ph hK).mono (by rintro _ _ ⟨rfl,rfl⟩;exact⟨f _,Ext.refl _⟩)
theorem SC{k j d:Nat}{o:Oper}{b c:Bool}(e:o.guard=some (j,b))(hj:Cq L j=some d)(hs:sp.contains k=false)(f:c≠b)(g:∀a' w' ph,Iv L a l T Φ sp k o a' w' ph→sl a' d=.bool c)(h:∀w,Φ k undef w):Hb P L a l S T Φ sp k o:=fun a' w' ph hK=>
 .inr ⟨by unfold Region.wanted;rw[e];simp[N8 hj (g a' w' ph hK),f],h _,by simpa using hs⟩
theorem Qy{a':Act}{j d:Nat}(hj:Cq L j=some d)(a:sl a' d=undef):yielded L.toArray a'.tmps j=none:=by
 unfold yielded;unfold Cq at hj;have b:((L.toArray)[j]?).bind (·.dst)=some d:=by simpa using hj
 simp only[b,Option.bind_some];unfold sl at a;rw[Array.getD_eq_getD_getElem?] at a;cases c:a'.tmps[d]? with
 |none=>rfl
 |some u=>rw[c] at a;simp at a;rw[a];rfl
theorem Uf{k j d:Nat}{o:Oper}{b:Bool}(c:o.guard=some (j,b))(hj:Cq L j=some d)(hs:sp.contains k=false)(e:∀a' w' ph,Iv L a l T Φ sp k o a' w' ph→sl a' d=undef)(f:∀w,Φ k undef w):Hb P L a l S T Φ sp k o:=fun a' w' ph hK=>
 .inr ⟨by unfold Region.wanted;rw[c];simp[Qy hj (e a' w' ph hK)],f _,by simpa using hs⟩
end
def T2 (w:World) (r:Nat) (M:World→Prop):Nat→World→Prop
 |0,w'=>Ext w w'
 |_+1,w'=>J2 r w w'∧M w'
theorem TI{a b:World}{r:Nat}(h:Ext a b):J2 r a b:=⟨h.os,h.tape,h.output,h.size,fun k hk _=>h.block k hk (by simp)⟩
theorem QU{w w':World}{r ph:Nat}{M:World→Prop}(h:T2 w r M ph w'):J2 r w w':=by
 cases ph with
 |zero=>exact TI h
 |succ=>exact h.1
theorem Bk.t2{w w':World}{r ph b:Nat}{t:TypeId}{cs:Array Value}{M:World→Prop}(h:Bk w b t cs)(g:T2 w r M ph w')(a:b≠r):Bk w' b t cs:=h.QK (QU g) a
theorem Rd.t2{w w':World}{r ph lo hi:Nat}{A:Option Addr}{cs:List Value}{M:World→Prop}(h:Rd w lo hi A cs)(g:T2 w r M ph w')(a:r<lo∨hi≤r):Rd w' lo hi A cs:=h.QK (QU g) a
abbrev I(n:Int):Value:=.int .i64 n
abbrev pt(b o:Nat):Value:=.pointer (some ⟨b,o,none⟩)
section
variable{P:Program}{X:Ctx}{N:Nat}{ops:Array Oper}{Q:Exit→Act→World→Prop}{rest:List Oper}{a:Act}{l:Env}{w:World}{op:Op}{ty:TypeId}{pos:String}{Cc:Array Edge}{d:Nat}
theorem wd{v:Value}{w':World}(b:Nat.blt d N=true)(c:St X N a l→Cg P ⟨some d,op,ty,pos,Cc,none⟩ (Cf a l) w (fun u BI=>u=v∧BI=w'))(hk:WL P X N ops Q rest a ((d,v)::l) w'):WL P X N ops Q (⟨some d,op,ty,pos,Cc,none⟩::rest) a l w:=
 Zv rfl rfl (by simpa[Nat.blt_eq] using b) c hk
theorem wm{x:Operand}{v:Value}(b:Nat.blt d N=true)(c:ev a l x=v)(hk:WL P X N ops Q rest a ((d,v)::l) w):WL P X N ops Q (⟨some d,.move x,ty,pos,Cc,none⟩::rest) a l w:=
 wd b (fun st=>AA (ee st c)) hk
theorem wa{x:Operand}{v:Value}(b:Nat.blt d N=true)(c:ev a l x=v)(hk:WL P X N ops Q rest a ((d,v)::l) w):WL P X N ops Q (⟨some d,.assign x,ty,pos,Cc,none⟩::rest) a l w:=
 wd b (fun st=>KF (ee st c)) hk
theorem we{R:Value→World→Prop}(b:Nat.blt d N=true)(c:St X N a l→Cg P ⟨some d,op,ty,pos,Cc,none⟩ (Cf a l) w R)(hk:∀v w',R v w'→WL P X N ops Q rest a ((d,v)::l) w'):WL P X N ops Q (⟨some d,op,ty,pos,Cc,none⟩::rest) a l w:=
 WO rfl rfl (by simpa[Nat.blt_eq] using b) c hk
end
section
variable{P:Program}{a:Act}{w:World}{dst:Option Tmp}{ty:TypeId}{pos:String}{Cc:Array Edge}{g:Option (Nat×Bool)}
theorem Xk{f:Operand}{xs:Array Operand}{b:Array TypeId}{l:Nat}{vs:Array Value}{R:Value→World→Prop}(c:a.eval f=.func (.yield l) #[] #[])(d:xs.map a.eval=vs)
  (h:YieldAt Fence.wide 0 P l vs w (fun e w'=>∃v,e=.returned v∧R v w')):Cg P ⟨dst,.call {callee:=.value f,args:=xs,argTypes:=b},ty,pos,Cc,g⟩ a w R:=by
 obtain⟨fn,tmps,assign,body,i,j⟩:=h;have hr:(execOp a.eval ⟨dst,.call {callee:=.value f,args:=xs,argTypes:=b},ty,pos,Cc,g⟩).run P w=.ok (.round l fn tmps assign body) w:=by
  simp only[execOp,resolve,c,d,Deferred.ofValue];simp only[Sem.run_bind,Sem.run_pure,Result.andThen_ok,invoke];simpa using i
 unfold Cg;rw[hr];exact j
end
theorem GR{w w':World}{k:Nat}{o:Obj}(h:w.heap[k]?=some o)(g:Ext w w'):w'.heap[k]?=some o:=(g.block k (Array.getElem?_eq_some_iff.1 h).1 (by simp)).trans h
def mark(D:Nat):List Deferred:=[{target:=.collected D,args:= #[]}]
abbrev X1(D:Nat):Ctx:=⟨none,mark D⟩
abbrev XR(r:Nat):Ctx:=⟨some r,[]⟩
def Ly(a:Act)(D:Nat):Act:={a with defers:=mark D}
theorem P6(a:Act)(D:Nat):∀l:Env,Cf (Ly a D) l=Ly (Cf a l) D
 |[]=>rfl
 |(d,v)::l=>by simp only[Cf,P6 a D l];rfl
theorem St.Ly{N:Nat}{a:Act}{l:Env}(s:St X0 N a l)(D:Nat):St (X1 D) N (Ly a D) l:=⟨s.sz,rfl,s.lt⟩
theorem St.inr{N:Nat}{a:Act}{l:Env}(s:St X0 N a l)(r:Nat):St (XR r) N a l:=⟨s.sz,s.df,s.lt⟩
theorem JS(w:World)(r:Nat)(o:Obj):J2 r w (w.putObj r o):=
 ⟨rfl,rfl,rfl,by simp,fun k _ hk=>World.putObj_heap_other (fun e=>hk (by rw[e]))⟩
section
variable{P:Program}{N:Nat}{Q:Exit→Act→World→Prop}{a:Act}{l:Env}{w:World}
def OT(a:Act)(l:Env)(fn:FuncId)(ps:Array Nat)(assign body:Code)(D:Nat):Loop:=
 {state:=.ready,pending:=none,fn,tmps:=(Cf a l).tmps,params:=ps,assign,body,defers:=D}
structure QV(lp:Loop)(a:Act)(l:Env)(qs:Array Nat)(assign body:Code):Prop where
 st:lp.state=.ready
 pe:lp.pending=none
 tm:lp.tmps=(Cf a l).tmps
 ps:lp.params=qs
 as_:lp.assign=assign
 bo:lp.body=body
theorem Vv{g:Operand}{p:Array Nat}{assign body:Code}{b:FuncId}{cap:Array Value}(q:Ba P b)(t:ev a l g=.func (.func b) #[] cap)
  (h:St X0 N a l→∀(lp:Loop) (w1:World),QV lp a l p assign body→Ext w w1→w1.heap.size=w.heap.size+2→w1.heap[w.heap.size]?=some (.deferred (some []))→w1.heap[w.heap.size+1]?=some (.loop lp)→
   BN P b (#[.func (.yield (w.heap.size+1)) #[] #[]]++cap) w1 (fun _ f=>∃r,f.heap[w.heap.size+1]?=some (.loop r)∧r.state≠.busy∧
    (r.pending=none→∀d,J2 (w.heap.size+1) f d→LV (X1 w.heap.size) N Q .normal (Ly a w.heap.size) l d)∧
    (∀c,r.pending=some c→∀d,J2 (w.heap.size+1) f d→CC P (X1 w.heap.size) N c Q (Ly a w.heap.size) l d))):
  CC P X0 N (.rangeFunc g p assign body) Q a l w:=fun s=>by
 refine wpIn_rangeFunc (F:=Fence.wide) fun fn _=>?_;have j:(Cf a l).eval g=.func (.func b) #[] cap:=ee s t
 let w1:=(w.alloc (.deferred (some []))).alloc (.loop (OT a l fn p assign body w.heap.size))
 have u:Ext w w1:=Ext.trans (World.grownBy_alloc w _ _) (World.grownBy_alloc _ _ _);have k:w1.heap.size=w.heap.size+2:=by simp[w1]
 have x:w1.heap[w.heap.size]?=some (.deferred (some [])):=by
  have h2:(w.alloc (.deferred (some []))).heap[w.heap.size]?=some (.deferred (some [])):=World.alloc_heap_new w _;exact(Below.heap_alloc _ _ _ (by simp)).trans h2
 have m:w1.heap[w.heap.size+1]?=some (.loop (OT a l fn p assign body w.heap.size)):=by
  have:=World.alloc_heap_new (w.alloc (.deferred (some []))) (.loop (OT a l fn p assign body w.heap.size));simpa[w1] using this
 have i:=h s (OT a l fn p assign body w.heap.size) w1 ⟨rfl,rfl,rfl,rfl,rfl,rfl⟩ u k x m;refine⟨w.heap.size+1,mark w.heap.size,w1,⟨.fn (.func b) cap, #[]++ #[.func (.yield (w.heap.size+1)) #[] #[]]⟩,w1,b, #[.func (.yield (w.heap.size+1)) #[] #[]]++cap,w1,run_enterLoop_outer fn _ _ _ _,?_,fun _ _=>trivial,?_,Vp none,?_⟩
 ·have y:(#[Operand.const (.func (.yield (w.heap.size+1)) #[] #[])]).map (Cf a l).eval= #[.func (.yield (w.heap.size+1)) #[] #[]]:=Cd rfl;simp only[resolve,j,Deferred.ofValue,y];simp only[Sem.run_bind,Sem.run_pure,Result.andThen_ok]
 ·simp[invoke,M6 q]
 ·have z:CallsIn Fence.wide (0-1) P b (#[.func (.yield (w.heap.size+1)) #[] #[]]++cap) w1 _:=callsIn_wide.2 i;refine z.mono ?_;rintro e f ⟨v,rfl,r,hr,hb,aA,hs⟩;refine⟨r.pending,_,run_endLoop hr hb,?_⟩;have n:mark w.heap.size++(Cf a l).defers=mark w.heap.size:=by rw[EE,s.df];rfl
  have he:({Cf a l with defers:=mark w.heap.size++(Cf a l).defers}:Act)=Cf (Ly a w.heap.size) l:=by rw[P6,n];rfl
  cases o:r.pending with
  |none=>simp only[];rw[he];exact aA o _ (JS _ _ _) (s.Ly _)
  |some c=>simp only[];rw[he];exact hs c o _ (JS _ _ _) (s.Ly _)
theorem Vw {r:Nat} {lp:Loop} {p:Nat} {assign body:Code} {v:Value} {R:Value→World→Prop} (s:St X0 N a l) (hr:w.heap[r]?=some (.loop lp)) (b:QV lp a l #[p] assign body)
  (h:CC P (XR r) N assign (Exit.then (fun f g=>∃c,(Instr.beginRound r).run P g=.ok () c∧CW P (XR r).ro body (roundPost P r (fun e w'=>∃v,e=.returned v∧R v w')) f c) (fun _ _ _=>False)) a ((p,v)::l) w) (d:p<N):
  YieldAt Fence.wide 0 P r #[v] w (fun e w'=>∃v,e=.returned v∧R v w'):=by
 refine⟨_,_,_,_,run_yield hr (by rw[b.ps];rfl),?_⟩;have i:((lp.params.zip #[v]).foldl (fun tmps (t,a)=>tmps.setIfInBounds t a) lp.tmps)=(Cf a ((p,v)::l)).tmps:=by
  rw[b.ps,b.tm];simp[Cf,Act.put]
 rw[i,b.as_,b.bo];refine roundIn_of_wpIn trivial ?_;have h2:=h ((s.inr r).cons d v);have j:({tmps:=(Cf a ((p,v)::l)).tmps,defers:=[]}:Act)=Cf a ((p,v)::l):=by
  have:(Cf a ((p,v)::l)).defers=[]:=by rw[EE];exact s.df
  rw[←this]
 rw[j];exact h2
theorem Nc{r:Nat}{lp:Loop}{p q:Nat}{assign body:Code}{v u:Value}{R:Value→World→Prop}(s:St X0 N a l)(hr:w.heap[r]?=some (.loop lp))(b:QV lp a l #[p,q] assign body)
  (h:CC P (XR r) N assign (Exit.then (fun g i=>∃c,(Instr.beginRound r).run P i=.ok () c∧CW P (XR r).ro body (roundPost P r (fun e w'=>∃v,e=.returned v∧R v w')) g c) (fun _ _ _=>False)) a ((q,u)::(p,v)::l) w)(d:p<N)(f:q<N):
  YieldAt Fence.wide 0 P r #[v,u] w (fun e w'=>∃v,e=.returned v∧R v w'):=by
 refine⟨_,_,_,_,run_yield hr (by rw[b.ps];rfl),?_⟩;have j:((lp.params.zip #[v,u]).foldl (fun tmps (t,a)=>tmps.setIfInBounds t a) lp.tmps)=(Cf a ((q,u)::(p,v)::l)).tmps:=by
  rw[b.ps,b.tm];simp[Cf,Act.put]
 rw[j,b.as_,b.bo];refine roundIn_of_wpIn trivial ?_;have h2:=h (((s.inr r).cons d v).cons f u);have k:({tmps:=(Cf a ((q,u)::(p,v)::l)).tmps,defers:=[]}:Act)=Cf a ((q,u)::(p,v)::l):=by
  have:(Cf a ((q,u)::(p,v)::l)).defers=[]:=by rw[EE];exact s.df
  rw[←this]
 rw[k];exact h2
theorem Mx{r:Nat}{lp:Loop}{body:Code}{R:Ending→World→Prop}(hr:w.heap[r]?=some (.loop lp))(hs:lp.state=.ready)
  (h:∀w',J2 r w w'→w'.heap[r]?=some (.loop {lp with state:=.busy})→CC P (XR r) N body (roundPost P r R) a l w'):
  LV (XR r) N (Exit.then (fun c d=>∃b,(Instr.beginRound r).run P d=.ok () b∧CW P (XR r).ro body (roundPost P r R) c b) (fun _ _ _=>False)) .normal a l w:=fun s=>
 ⟨_,run_beginRound hr hs,h _ (JS _ _ _) (World.putObj_heap_same (Array.getElem?_eq_some_iff.1 hr).1) s⟩
theorem KI{r:Nat}{lp:Loop}{R:Value→World→Prop}(hr:w.heap[r]?=some (.loop lp))(h:∀w',J2 r w w'→w'.heap[r]?=some (.loop {lp with state:=.ready,pending:=none})→R (.bool true) w'):
  LV (XR r) N (roundPost P r (fun e w'=>∃v,e=.returned v∧R v w')) .normal a l w:=fun _=>⟨_,_,run_endRound none hr,_,rfl,h _ (JS _ _ _) (World.putObj_heap_same (Array.getElem?_eq_some_iff.1 hr).1)⟩
theorem N9{r:Nat}{lp:Loop}{R:Value→World→Prop}(hr:w.heap[r]?=some (.loop lp))(h:∀w',J2 r w w'→w'.heap[r]?=some (.loop {lp with state:=.done,pending:=some .ret})→R (.bool false) w'):
  LV (XR r) N (roundPost P r (fun e w'=>∃v,e=.returned v∧R v w')) .ret a l w:=fun _=>⟨_,_,run_endRound (some .ret) hr,_,rfl,h _ (JS _ _ _) (World.putObj_heap_same (Array.getElem?_eq_some_iff.1 hr).1)⟩
def PM (P:Program) (fn:Func) (R:Value→World→Prop):Exit→Act→World→Prop:=bodyPostM Fence.wide 0 P fn (fun e w'=>∃v,e=.returned v∧R v w')
theorem Lk{f:FuncId}{fn:Func}{c:Code}{args:Array Value}{N:Nat}{R:Value→World→Prop}(b:P.funcs[f]?=some fn)(hb:fn.body=some c)(d:fn.ntmps=N)(ha:args.size≤N)
  (h:∀a:Act,a.tmps=args++Array.replicate (N-args.size) undef→a.defers=[]→CC P X0 N c (PM P fn R) a [] w):BN P f args w R:=by
 refine callsIn_wide.1 (callsIn_of_wp_marks (n:=0) b hb trivial ?_);rw[d];exact h {tmps:=args++Array.replicate (N-args.size) undef,defers:=[]} rfl rfl ⟨by simp;omega,rfl,fun _ e=>by cases e⟩
theorem AaX {fn:Func} {R:Value→World→Prop} (h:LV X0 N (bodyPost P fn (fun e w'=>∃v,e=.returned v∧R v w')) .ret a l w):LV X0 N (PM P fn R) .ret a l w:=fun s=>by
 obtain⟨b,v,hr,c⟩:=h s;show LeavesInM Fence.wide 0 P fn _ _ (Cf a l).defers .returning w;rw[b];exact⟨v,hr,c⟩
end
section
variable{P:Program}{X:Ctx}{N:Nat}{Q:Exit→Act→World→Prop}{a:Act}{l:Env}{w:World}
theorem Vx{c:Code}(h:CC P X0 N c (Exit.noGoto Q) a l w):CC P X0 N (.scope c) Q a l w:=fun s=>wpIn_wide.2 (wp_scope_straight (wpIn_wide.1 (h s)))
theorem Vy{k:Nat}(h:LV X N Q .normal a l w):CC P X N (.label k) Q a l w:=fun s=>wpIn_label (h s)
theorem Ug(h:LV X N Q .ret a l w):LV X N (Exit.noGoto Q) .ret a l w:=h
end
theorem KJ{lp:Loop}{a:Act}{l:Env}{p:Array Nat}{assign body:Code}(h:QV lp a l p assign body):({{lp with state:=.busy} with state:=.ready,pending:=none}:Loop)=lp:=by
 obtain⟨h1,h2,_⟩:=h;cases lp;simp only at h1 h2;subst h1;subst h2;rfl
section
variable{P:Program}{N:Nat}{Q:Exit→Act→World→Prop}{a:Act}{l:Env}{w:World}
theorem LW {g:Operand} {p:Array Nat} {assign body:Code} {d:FuncId} {cap:Array Value} (i:Ba P d) (j:ev a l g=.func (.func d) #[] cap)
  (h:St X0 N a l→∀(lp:Loop) (w1:World) (D lo:Nat),QV lp a l p assign body→Ext w w1→w.heap.size≤D→D<w1.heap.size→w.heap.size≤lo→lo<w1.heap.size→lo≠D→w1.heap[D]?=some (.deferred (some []))→w1.heap[lo]?=some (.loop lp)→
   BN P d (#[.func (.yield lo) #[] #[]]++cap) w1 (fun _ e=>∃r,e.heap[lo]?=some (.loop r)∧r.state≠.busy∧
    (r.pending=none→∀b,J2 lo e b→LV (X1 D) N Q .normal (Ly a D) l b)∧
    (∀c,r.pending=some c→∀b,J2 lo e b→CC P (X1 D) N c Q (Ly a D) l b))):
  CC P X0 N (.rangeFunc g p assign body) Q a l w:=
 Vv i j fun s lp w1 f k hs m hl=>h s lp w1 w.heap.size (w.heap.size+1) f k (Nat.le_refl _) (by omega) (by omega) (by omega) (by omega) m hl
end
end Go.Proofs.YtbhofkcbfblijaaGreat
end
section
namespace Go.Proofs.YtbhofkcbfblijaaGreat
open Go.RowKit Go.WideShapes
section
variable{P:Program}{w:World}
theorem Lz{e:TypeId}(he:One P e)(x:List Int)(i:Nat)(hi:i<x.length):(part e (JA x).toArray i).run P w=.ok (.int .i64 (x.getD i 0)) w:=by
 have:(JA x).toArray[i]?=some (.int .i64 (x.getD i 0)):=Vr x i hi;simp only[part,Sem.run_bind,N4 he,Result.andThen_ok,this];rfl
theorem Oa{e:TypeId}(hu:P.underlying e=some (.int .i64))(d:Nat)(a b:Int):(Op.equalIn (d+1) e (.int .i64 a) (.int .i64 b)).run P w=.ok (a==b) w:=run_equalIn_int w d e .i64 .i64 a b hu
theorem Ob{e:TypeId}(he:One P e)(hu:P.underlying e=some (.int .i64))(d:Nat)(x y:List Int):∀is:List Nat,(∀i∈is,i<x.length∧i<y.length)→
  (Op.eqItems (d+1) e 1 (JA x).toArray (JA y).toArray is).run P w=.ok (is.all fun i=>x.getD i 0==y.getD i 0) w
 |[],_=>by simp[Op.eqItems]
 |i::is,h=>by
  have ih:=Ob he hu d x y is (fun j hj=>h j (List.mem_cons_of_mem _ hj));obtain⟨h1,h2⟩:=h i (List.mem_cons_self ..);simp only[Op.eqItems,Sem.run_bind,Nat.mul_one,Lz he x i h1,Lz he y i h2,Oa hu,Result.andThen_ok,List.all_cons];cases hb:(x.getD i 0==y.getD i 0)
  ·simp
  ·simpa using ih
theorem Nd(x y:List Int)(n:Nat)(a:x.length=n)(b:y.length=n):((List.range n).all fun i=>x.getD i 0==y.getD i 0)=(x==y):=by
 rw[Bool.eq_iff_iff];simp only[List.all_eq_true,List.mem_range,beq_iff_eq];constructor
 ·intro h;apply List.ext_getElem (by omega);intro i h1 h2;have:=h i (by omega);simpa[List.getElem?_eq_getElem h1,List.getElem?_eq_getElem h2] using this
 ·rintro rfl i _;rfl
def MZ (P:Program) (K:TypeId) (n:Nat):Prop:=∀(w:World) (x y:List Int),x.length=n→y.length=n→(Op.equal K (FJ x) (FJ y)).run P w=.ok (x==y) w
def QW(P:Program)(K:TypeId)(n:Nat):Prop:=∀(w:World) (em:Bool) (x:List Int),x.length=n→(Instr.checkKey em 10000 K (FJ x)).run P w=.ok () w
def My(P:Program)(K:TypeId):Prop:=(match P.underlying K with|some (.array _ _)|some (.struct _)=>true|_=>false)=true
theorem Uh{K e n:Nat}(hK:P.underlying K=some (.array n e))(he:One P e)(hu:P.underlying e=some (.int .i64)):MZ P K n:=by
 intro w x y b c;obtain⟨i,hi,hs⟩:=Option.map_eq_some_iff.1 he.2;have h:=run_equalIn_array w 9999 (JA x).toArray (JA y).toArray hK hi;have d:P.cellsOf e=1:=by unfold Program.cellsOf;rw[hi];simpa using hs
 rw[d,Ob he hu 9998 x y (List.range n) (fun i a=>by have:=List.mem_range.1 a;omega),Nd x y n b c] at h;exact h
end
def P7 (e:TypeId):Nat→List Field→Bool
 |_,[]=>true
 |i,f::a=>f.name !="_"&&Nat.beq f.type e&&Nat.beq f.offset i&&P7 e (i+1) a
theorem QX{e i:Nat}{f:Field}{a:List Field}(h:P7 e i (f::a)=true):f.name≠"_"∧f.type=e∧f.offset=i∧P7 e (i+1) a=true:=by
 simp only[P7,Bool.and_eq_true] at h;exact⟨by simpa using h.1.1.1,Nat.eq_of_beq_eq_true h.1.1.2,Nat.eq_of_beq_eq_true h.1.2,h.2⟩
section
variable{P:Program}{w:World}
theorem Nf{e:TypeId}(he:One P e)(hu:P.underlying e=some (.int .i64))(d:Nat)(x y:List Int):∀(a:List Field) (i:Nat),P7 e i a=true→i+a.length≤x.length→i+a.length≤y.length→
  (Op.eqFields (d+1) (JA x).toArray (JA y).toArray a).run P w=.ok ((List.range' i a.length).all fun j=>x.getD j 0==y.getD j 0) w
 |[],i,_,_,_=>by simp[Op.eqFields]
 |f::a,i,h,b,c=>by
  obtain⟨h1,h2,g,k⟩:=QX h;simp only[List.length_cons] at b c;have ih:=Nf he hu d x y a (i+1) k (by omega) (by omega);simp only[Op.eqFields,h1,ne_eq,not_false_eq_true,if_true,Sem.run_bind,h2,g,Lz he x i (by omega),Lz he y i (by omega),Oa hu,Result.andThen_ok,List.length_cons,List.range'_succ,List.all_cons];cases hb:(x.getD i 0==y.getD i 0)
  ·simp
  ·simpa using ih
theorem OU{K e:Nat}{a:Array Field}(n:Nat)(hK:P.underlying K=some (.struct a))(hs:P.stoodInHeld K=false)(c:P7 e 0 a.toList=true)(d:a.toList.length=n)(he:One P e)(hu:P.underlying e=some (.int .i64)):MZ P K n:=by
 intro w x y f g;have b:P.fieldsOf K=a:=by simp[Program.fieldsOf,hK]
 have h:=run_equalIn_struct w 9999 K (JA x).toArray (JA y).toArray (by rw[b];exact hK) hs;rw[b,Nf he hu 9998 x y a.toList 0 c (by omega) (by omega),←List.range_eq_range',d,Nd x y n f g] at h;exact h
theorem Sf{K e:Nat}{a:Array Field}(n:Nat)(hK:P.underlying K=some (.struct a))(c:P7 e 0 a.toList=true)(j:a.toList.length=n)(he:One P e)(hu:P.underlying e=some (.int .i64)):QW P K n:=by
 intro w em x k;have b:∀v:Int,(Instr.checkKey em 9999 e (.int .i64 v)).run P w=.ok () w:=by
  intro v;rw[show(9999:Nat)=9998+1 from rfl,Instr.checkKey];simp only[Sem.run_bind,run_underlying hu,Result.andThen_ok];rfl
 rw[show(10000:Nat)=9999+1 from rfl,FJ,Instr.checkKey];simp only[Sem.run_bind,run_underlying hK,Result.andThen_ok];rw[←Array.forIn_toList];have key:∀(L:List Field) (i:Nat),P7 e i L=true→i+L.length≤x.length→(forIn L PUnit.unit (fun f (_:PUnit)=>do
   if f.name≠"_"then
    let v←part f.type (JA x).toArray f.offset
    Instr.checkKey em 9999 f.type v
    pure PUnit.unit
    pure (ForInStep.yield PUnit.unit)
   else pure (ForInStep.yield PUnit.unit)):Sem PUnit).run P w=.ok PUnit.unit w:=by
  intro L
  induction L with
  |nil=>intro i _ _;simp
  |cons f L ih=>
   intro i h hl;obtain⟨h1,h2,d,g⟩:=QX h;simp only[List.length_cons] at hl;simp only[List.forIn_cons,Sem.run_bind,h1,ne_eq,not_false_eq_true,if_true,h2,d,Lz he x i (by omega),b,Result.andThen_ok,Sem.run_pure];exact ih (i+1) g (by omega)
 have:=key a.toList 0 c (by omega);simp at this;simp[this]
end
def LA (w:World) (r n:Nat) (L:List (List Int×Int)):Prop:=
 ∃es clock,w.heap[r]?=some (.map es clock)∧es.toList.map (fun e=>(e.key,e.val))=L.map (fun p=>(FJ p.1,Value.int .i64 p.2))∧∀p∈L,p.1.length=n
section
variable{w w':World}{r n b:Nat}{L:List (List Int×Int)}
theorem LA.lt(h:LA w r n L):r<w.heap.size:=by obtain⟨es,c,h,_⟩:=h;exact lt_of_block h
theorem LA.ext(h:LA w r n L)(g:Ext w w'):LA w' r n L:=by
 have hl:=h.lt;obtain⟨es,c,h1,h2⟩:=h;exact⟨es,c,(g.block r hl (by simp)).trans h1,h2⟩
theorem LA.QK(h:LA w r n L)(g:J2 b w w')(a:r≠b):LA w' r n L:=by
 have hl:=h.lt;obtain⟨es,c,h1,h2⟩:=h;exact⟨es,c,(g.block r hl (by simpa using a)).trans h1,h2⟩
end
section
variable{P:Program}{a:Act}{w:World}{dst:Option Tmp}{ty:TypeId}{pos:String}{Cc:Array Edge}{g:Option (Nat×Bool)}{K E T r n:Nat}{L:List (List Int×Int)}{k:List Int}
theorem Sg{kind:TypeDesc}(hk:match kind with|.array _ _|.struct _=>True|_=>False)(cs:Array Value):∀(es:List MapEntry) (i:Nat),(∀e∈es,∃ds,e.key=.agg ds)→es≠[]→Instr.findNow kind (.agg cs) es i=none
 |[],_,_,h=>absurd rfl h
 |e::es,i,he,_=>by
  obtain⟨ds,a⟩:=he e (List.mem_cons_self ..);unfold Instr.findNow;rw[a];cases kind<;>simp at hk<;>simp[Instr.sameNow]
theorem OV{o:Obj}(h:w.heap[r]?=some o)(a:∀c e f,o≠.cells c e f):(getObj r).run P w=.ok o w:=by
 unfold getObj;cases o<;>first|exact absurd rfl (a _ _ _)|(simp only[Sem.run,h])
theorem QY(d:Nat)(x:List Int):Instr.sameBits (d+1) (FJ x) (FJ x)=true:=by
 unfold FJ Instr.sameBits;simp only[beq_self_eq_true,Bool.true_and,List.all_eq_true];rintro⟨u,v⟩ h;rw[List.mem_iff_getElem] at h;obtain⟨i,hi,he⟩:=h;simp only[List.getElem_zip,Prod.mk.injEq] at he;obtain⟨h1,h2⟩:=he;subst h1;subst h2;simp only[JA,List.getElem_map];cases d<;>simp[Instr.sameBits]
end
theorem LA.t2{w w':World}{r ph b n:Nat}{L:List (List Int×Int)}{M:World→Prop}(h:LA w b n L)(g:T2 w r M ph w')(a:b≠r):LA w' b n L:=h.QK (QU g) a
end Go.Proofs.YtbhofkcbfblijaaGreat
end
section
namespace Go.Proofs.YtbhofkcbfblijaaGreat
open Go.RowKit
def Fm (w:World) (base:Nat) (e:TypeId) (sz:Nat) (A:Option Addr) (n c:Nat) (xs:List Value):Prop:=w.ownsRow base e sz (.slice A n c) n xs
section
variable{w w':World}{base:Nat}{e:TypeId}{sz:Nat}{A:Option Addr}{n c:Nat}{xs:List Value}
theorem Fm.nil(w:World)(base:Nat)(e:TypeId)(sz:Nat):Fm w base e sz none 0 0 []:=World.ownsRow_nil w base e sz
theorem Fm.len(h:Fm w base e sz A n c xs):xs.length=n*sz:=h.1
theorem Fm.rd(h:Fm w base e sz A n c xs):Rd w base w.heap.size A xs:=by
 refine⟨Nat.le_refl _,?_⟩;rcases h.2 with⟨_,h0⟩|⟨g,cap,cur,a,b,d,_,_,_,_⟩
 ·exact .inl (List.eq_nil_of_length_eq_zero (by rw[h.1,h0,Nat.zero_mul]))
 ·refine .inr ⟨g,0,?_,b,lt_of_block d,fun j u hu=>?_⟩
  ·cases a;rfl
  ·have:=World.ownsRow.cells h (g:=g) (by cases a;rfl) j u hu;rw[GQ] at this;exact this
theorem Fm.kept(h:Fm w base e sz A n c xs){r:Option Nat}(g:w.grownBy w' r)(hr:∀k,r=some k→∀o,A≠some ⟨k,o,none⟩):Fm w' base e sz A n c xs:=
 World.ownsRow.kept h g (by
  rcases h.2 with⟨h0,_⟩|⟨b,cap,cur,a,_⟩
  ·exact .inl (by rw[h0];rfl)
  ·refine .inr ?_;cases a;intro he;exact hr b (by simpa[Value.ownBlock] using he.symm) 0 rfl)
theorem Fm.ext(h:Fm w base e sz A n c xs)(g:Ext w w'):Fm w' base e sz A n c xs:=h.kept g (fun _ e=>by cases e)
theorem Fm.KD (h:Fm w base e sz A n c xs) {k o:Nat} (b:A=some ⟨k,o,none⟩):base≤k∧k<w.heap.size∧∃cur,w.heap[k]?=some (.cells cur e (0,0)):=by
 subst b;rcases h.2 with⟨h0,_⟩|⟨g,cap,cur,d,hb,a,_⟩
 ·cases h0
 ·cases d;exact⟨hb,lt_of_block a,cur,a⟩
theorem Fm.QK{r:Nat}(h:Fm w base e sz A n c xs)(g:J2 r w w')(hr:r<base):Fm w' base e sz A n c xs:=h.kept g (fun k a o b=>by
 cases a;have:=(h.KD b).1;omega)
theorem Bk.bw{b B:Nat}{t:TypeId}{cs:Array Value}(h:Bk w b t cs)(g:Below B w w')(hb:b<B):Bk w' b t cs:=(g.block b hb).trans h
theorem Rd.bw{lo hi B:Nat}{A:Option Addr}{cs:List Value}(h:Rd w lo hi A cs)(g:Below B w w')(a:hi≤B):Rd w' lo hi A cs:=h.QL g a
theorem Bk.row {b:Nat} {t:TypeId} {cs:Array Value} (h:Fm w base e sz A n c xs) {w1 w2:World} (hb:Bk w1 b t cs) (f:w.heap.size≤b) (g:w1.grownBy w2 (Value.ownBlock (.slice A n c))):Bk w2 b t cs:=
 (g.block b hb.lt (fun e=>by
  cases A with
  |none=>cases e
  |some ad=>
   have:b=ad.block:=by simpa[Value.ownBlock] using e
   rcases h.2 with⟨h0,_⟩|⟨g,cap,cur,a,_,d,_⟩
   ·cases h0
   ·cases a;have:=lt_of_block d;simp only at*;omega)).trans hb
end
section
variable{P:Program}{a:Act}{w:World}{dst:Option Tmp}{ty:TypeId}{pos:String}{Cc:Array Edge}{g:Option (Nat×Bool)}
theorem Xl {t e:TypeId} {i:TypeInfo} {z:Value} {sz:Nat} (q:P.underlying t=some (.slice e)) (hi:P.info? e=some i) (y:i.zero=some z) (k:i.size=sz) (aG:z.cells.size=sz)
  {A r:Option Addr} {n c s base m cap:Nat} {xs news:List Value} {ad:Addr} {w':World} (d:Fm w base e sz A n c xs) (hl:news.length=m*sz) (a:∀j u,news[j]?=some u→w.cell? (ad.add j)=some u) (h1:∀u∈news,u.oneCell'=true)
  (aA:n+m≤maxLen) (b:(n+m)*i.bytes≤140737488355328) (hr:(Builtin.append_ #[t,t] ty #[.slice A n c,.slice (some ad) m cap]).run P w=.ok (.slice r (n+m) s) w')
  (v:(Value.slice r (n+m) s=.slice none 0 0↔Value.slice A n c=.slice none 0 0∧m=0)):Ext w w'∨(r=A∧s=c):=by
 subst k;have aB:n+m≤9223372036854775807:=by simp only[maxLen] at aA;omega
 have p:∀o:Obj,Ext w (w.drew.alloc o):=fun o=>Ext.trans (C5 w) (World.grownBy_alloc _ _ _);rcases d.2 with⟨h,h0⟩|⟨l,aE,cur,h,aH,aF,aI,aJ,aC,aD⟩
 ·cases h;rcases Nat.eq_zero_or_pos m with rfl|hm
  ·have:=v.2 ⟨rfl,rfl⟩;exact .inr (by cases this;exact⟨rfl,rfl⟩)
  ·have:=run_append_nil (P:=P) w t ty e i z q hi y ad m cap news hl a (by omega) (by omega) (by have hb:=b;simp only[Nat.zero_add] at hb;omega);rw[this] at hr;injection hr with _ hw
   exact .inl (hw▸p _)
 ·cases h
  by_cases f:n+m≤c
  ·have x:n*i.size+news.length≤cur.size:=by rw[hl,aC,←Nat.add_mul];exact Nat.mul_le_mul_right _ f
   have:=run_append_room (P:=P) w t ty e i q hi l n c cur aF ad m cap news hl a h1 f x;rw[this] at hr;injection hr with h _
   exact .inr (by cases h;exact⟨rfl,rfl⟩)
  ·have holds:∀j u,xs[j]?=some u→w.cell? ((⟨l,0,none⟩:Addr).add j)=some u:=World.ownsRow.cells d (g:=l) rfl;have:=run_append_grow (P:=P) w t ty e i z q hi y ⟨l,0,none⟩ n c xs d.1 holds ad m cap news hl a (by omega) (by omega) (growslice_fits (by omega) b);rw[this] at hr;injection hr with _ hw
   exact .inl (hw▸p _)
theorem Ui {s x:Operand} {t e:TypeId} {z:Value} {sz bytes:Nat} (aD:P.underlying t=some (.slice e)) (hi:(P.info? e).map (fun i=>(i.zero,i.size,i.bytes))=some (some z,sz,bytes)) (y:z.cells.size=sz) (aE:0<sz)
  {A:Option Addr} {n c base:Nat} {xs news:List Value} {m cap:Nat} {ad:Addr} (hs:a.eval s=.slice A n c) (aF:a.eval x=.slice (some ad) m cap) (p:Fm w base e sz A n c xs)
  (q:∀j u,news[j]?=some u→w.cell? (ad.add j)=some u)
  (hl:news.length=m*sz) (h1:∀u∈news,u.oneCell'=true) (aA:n+m≤maxLen) (f:(n+m)*bytes≤140737488355328) (r:base≤w.heap.size):
  Cg P ⟨dst,.call {callee:=.builtin .append,args:= #[s,x],argTypes:= #[t,t]},ty,pos,Cc,g⟩ a w (fun v w'=>∃b l,v=.slice b (n+m) l∧Fm w' base e sz b (n+m) l (xs++news)∧w.grownBy w' (Value.ownBlock (.slice A n c))∧(Ext w w'∨(b=A∧l=c))∧(∀k o,b=some ⟨k,o,none⟩→(∃o',A=some ⟨k,o',none⟩)∨w.heap.size≤k)):=by
 cases d:P.info? e with
 |none=>simp[d] at hi
 |some i=>
  simp only[d,Option.map_some,Option.some.injEq,Prod.mk.injEq] at hi;obtain⟨v',w',hr,h2,aG,aH,aI⟩:=run_append_own_at (P:=P) w base t ty e i z sz bytes aD d hi.1 hi.2.1 hi.2.2 y aE (.slice A n c) n xs p ad m cap news hl q h1 aA f r;have he:(execOp a.eval ⟨dst,.call {callee:=.builtin .append,args:= #[s,x],argTypes:= #[t,t]},ty,pos,Cc,g⟩).run P w=.ok (.value v') w':=by
   unfold execOp;simp only[resolve,invoke,builtin,Sem.run_bind,Sem.run_pure,Result.andThen_ok,List.map_toArray,List.map_cons,List.map_nil,hs,aF,hr]
  have key:∃b l,v'=.slice b (n+m) l∧Fm w' base e sz b (n+m) l (xs++news):=by
   rcases h2.2 with⟨rfl,h0⟩|⟨aJ,aB,cur,rfl,_⟩
   ·refine⟨none,0,by rw[h0],?_⟩;have:=h2;rw[h0] at this⊢;exact this
   ·exact⟨_,_,rfl,h2⟩
  obtain⟨b,l,rfl,aK⟩:=key;unfold Cg;rw[he];refine⟨b,l,rfl,aK,aG,Xl aD d hi.1 hi.2.1 y p hl q h1 aA (by rw[hi.2.2];exact f) hr aH,?_⟩;rintro k o rfl;rcases aI with h|h
  ·left;cases A with
   |none=>simp[Value.ownBlock] at h
   |some ad=>
    have hk:k=ad.block:=by simpa[Value.ownBlock] using h
    rcases p.2 with⟨aC,_⟩|⟨aJ,aB,cur,aC,_⟩
    ·cases aC
    ·cases aC;exact⟨0,by rw[hk]⟩
  ·right;have:k=w.heap.size:=by simpa[Value.ownBlock] using h
   omega
theorem Fm.new{w w':World}{b base:Nat}{e:TypeId}{sz:Nat}(h:Ms w w' b e #[])(hb:base≤w.heap.size):Fm w' base e sz (some ⟨b,0,none⟩) 0 0 []:=
 ⟨by simp,.inr ⟨b,0, #[],rfl,by rw[h.FI];exact hb,h.bk,Nat.le_refl _,by simp[maxLen],by simp,by simp⟩⟩
theorem WU{x y:Operand}{t u:TypeId}{A B:Option Addr}{n c m d:Nat}{b:Bool}(e:a.eval x=.slice A n c)(f:a.eval y=.slice B m d)(h1:(eqGuard .eql t x y (.slice A n c) (.slice B m d)).run P w=.ok () w)(h2:(Op.equal t (.slice A n c) (.slice B m d)).run P w=.ok b w):Cg P ⟨dst,.binOp .eql t x y u,ty,pos,Cc,g⟩ a w (fun v w'=>v=.bool b∧w'=w):=
 De (by simp[execOp,e,f,binOp,h1,h2])
end
structure Mv (w:World) (Z:Nat→Prop) (w':World) (Z':Nat→Prop):Prop where
 size:w.heap.size≤w'.heap.size
 stay:∀b,Z b→b<w.heap.size→Z' b∧w'.heap[b]?=w.heap[b]?
theorem Mv.refl(w:World)(Z:Nat→Prop):Mv w Z w Z:=⟨Nat.le_refl _,fun _ h _=>⟨h,rfl⟩⟩
theorem Mv.trans{w1 w2 a:World}{c d e:Nat→Prop}(h:Mv w1 c w2 d)(k:Mv w2 d a e):Mv w1 c a e:=
 ⟨Nat.le_trans h.size k.size,fun b hb hl=>by
  obtain⟨h1,h2⟩:=h.stay b hb hl;obtain⟨f,g⟩:=k.stay b h1 (Nat.lt_of_lt_of_le hl h.size);exact⟨f,g.trans h2⟩⟩
theorem Ac{w w':World}{Z:Nat→Prop}(h:Ext w w'):Mv w Z w' Z:=⟨h.size,fun b hb hl=>⟨hb,h.block b hl (by simp)⟩⟩
theorem Ll{w:World}{Z Z':Nat→Prop}(h:∀b,Z b→b<w.heap.size→Z' b):Mv w Z w Z':=⟨Nat.le_refl _,fun b hb hl=>⟨h b hb hl,rfl⟩⟩
def ZA:Nat→Prop:=fun _=>True
theorem Ng{w:World}{Z:Nat→Prop}:Mv w Z w ZA:=Ll fun _ _ _=>trivial
def Rz (w:World) (Z:Nat→Prop) (A:Option Addr) (cs:List Value):Prop:=
 cs=[]∨∃b o,A=some ⟨b,o,none⟩∧Z b∧b<w.heap.size∧∀j u,cs[j]?=some u→w.cell? ⟨b,o+j,none⟩=some u
theorem Rz.mv{w w':World}{Z Z':Nat→Prop}{A:Option Addr}{cs:List Value}(h:Rz w Z A cs)(g:Mv w Z w' Z'):Rz w' Z' A cs:=
 h.imp id fun⟨b,o,d,c,hl,e⟩=>⟨b,o,d,(g.stay b c hl).1,Nat.lt_of_lt_of_le hl g.size,fun j u hu=>
  (World.cell?_of_block (a:=⟨b,o+j,none⟩) (g.stay b c hl).2).trans (e j u hu)⟩
theorem Rz.cells{w:World}{Z:Nat→Prop}{b o:Nat}{cs:List Value}(h:Rz w Z (some ⟨b,o,none⟩) cs):∀j u,cs[j]?=some u→w.cell? ⟨b,o+j,none⟩=some u:=by
 rcases h with rfl|⟨b',o',a,_,_,c⟩
 ·simp
 ·cases a;exact c
theorem Rz.rd{w:World}{Z:Nat→Prop}{A:Option Addr}{cs:List Value}(h:Rz w Z A cs):Rd w 0 w.heap.size A cs:=
 ⟨Nat.le_refl _,h.imp id fun⟨b,o,a,_,hl,c⟩=>⟨b,o,a,Nat.zero_le _,hl,c⟩⟩
theorem QZ{w:World}{lo hi:Nat}{A:Option Addr}{cs:List Value}{Z:Nat→Prop}(h:Rd w lo hi A cs)(a:∀b,lo≤b→b<hi→Z b):Rz w Z A cs:=
 h.2.imp id fun⟨b,o,c,h1,h2,d⟩=>⟨b,o,c,a b h1 h2,Nat.lt_of_lt_of_le h2 h.1,d⟩
structure CD (α:Type) where
 sz:Nat
 R:World→(Nat→Prop)→List Value→α→Prop
 len:∀{w Z cs x},R w Z cs x→cs.length=sz
 one:∀{w Z cs x},R w Z cs x→∀u∈cs,u.oneCell'=true
 mv:∀{w Z w' Z' cs x},R w Z cs x→Mv w Z w' Z'→R w' Z' cs x
def R2{α:Type}(e:CD α)(w:World)(Z:Nat→Prop):List (List Value)→List α→Prop
 |[],[]=>True
 |c::cs,x::xs=>e.R w Z c x∧R2 e w Z cs xs
 |_,_=>False
section
variable{α:Type}{e:CD α}{w w':World}{Z Z':Nat→Prop}
theorem R2.len:∀{BJ:List (List Value)} {xs:List α},R2 e w Z BJ xs→BJ.length=xs.length
 |[],[],_=>rfl
 |_::_,_::_,h=>by simp[R2.len h.2]
 |[],_::_,h=>h.elim
 |_::_,[],h=>h.elim
theorem R2.mv(g:Mv w Z w' Z'):∀{BJ:List (List Value)} {xs:List α},R2 e w Z BJ xs→R2 e w' Z' BJ xs
 |[],[],_=>trivial
 |_::_,_::_,h=>⟨e.mv h.1 g,R2.mv g h.2⟩
 |[],_::_,h=>h.elim
 |_::_,[],h=>h.elim
theorem R2.one:∀{BJ:List (List Value)} {xs:List α},R2 e w Z BJ xs→∀u∈BJ.flatten,u.oneCell'=true
 |[],[],_=>by simp
 |c::cs,_::_,h=>by
  intro u hu;rw[List.flatten_cons,List.mem_append] at hu;exact hu.elim (e.one h.1 u) (R2.one h.2 u)
 |[],_::_,h=>h.elim
 |_::_,[],h=>h.elim
theorem R2.L7:∀{BJ:List (List Value)} {xs:List α},R2 e w Z BJ xs→BJ.flatten.length=xs.length*e.sz
 |[],[],_=>by simp
 |c::cs,_::xs,h=>by
  rw[List.flatten_cons,List.length_append,e.len h.1,R2.L7 h.2,List.length_cons,Nat.add_mul,Nat.one_mul,Nat.add_comm]
 |[],_::_,h=>h.elim
 |_::_,[],h=>h.elim
theorem R2.get:∀{BJ:List (List Value)} {xs:List α},R2 e w Z BJ xs→∀{k:Nat} {x:α},xs[k]?=some x→∃c,BJ[k]?=some c∧e.R w Z c x∧(BJ.flatten.drop (k*e.sz)).take e.sz=c
 |[],[],_,k,x,hk=>by simp at hk
 |c::cs,y::xs,h,0,x,hk=>by
  obtain rfl:y=x:=by simpa using hk
  refine⟨c,rfl,h.1,?_⟩;have hl:=e.len h.1;rw[Nat.zero_mul,List.drop_zero,List.flatten_cons,List.take_append_of_le_length (by rw[hl];exact Nat.le_refl _),List.take_of_length_le (by rw[hl];exact Nat.le_refl _)]
 |c::cs,y::xs,h,k+1,x,hk=>by
  obtain⟨a,h1,h2,b⟩:=R2.get h.2 (k:=k) (x:=x) (by simpa using hk);refine⟨a,by simpa using h1,h2,?_⟩;rw[←b,List.flatten_cons,List.drop_append,e.len h.1,List.drop_of_length_le (by rw[e.len h.1,Nat.add_mul];omega),List.nil_append]
  congr 2
  rw[Nat.add_mul];omega
 |[],_::_,h,_,_,_=>h.elim
 |_::_,[],h,_,_,_=>h.elim
theorem R2.append:∀{BJ a:List (List Value)} {xs ys:List α},R2 e w Z BJ xs→R2 e w Z a ys→R2 e w Z (BJ++a) (xs++ys)
 |[],_,[],_,_,h=>h
 |_::_,_,_::_,_,h,k=>⟨h.1,R2.append h.2 k⟩
 |[],_,_::_,_,h,_=>h.elim
 |_::_,_,[],_,h,_=>h.elim
theorem R2.drop:∀(k:Nat) {BJ:List (List Value)} {xs:List α},R2 e w Z BJ xs→R2 e w Z (BJ.drop k) (xs.drop k)
 |0,_,_,h=>h
 |k+1,[],[],_=>trivial
 |k+1,_::cs,_::xs,h=>by simpa using R2.drop k h.2
 |_+1,[],_::_,h=>h.elim
 |_+1,_::_,[],h=>h.elim
theorem R2.take:∀(k:Nat) {BJ:List (List Value)} {xs:List α},R2 e w Z BJ xs→R2 e w Z (BJ.take k) (xs.take k)
 |0,_,_,_=>trivial
 |k+1,[],[],_=>trivial
 |k+1,_::cs,_::xs,h=>⟨h.1,R2.take k h.2⟩
 |_+1,[],_::_,h=>h.elim
 |_+1,_::_,[],h=>h.elim
theorem R2.set{x:α}{c:List Value}(a:e.R w Z c x):∀(k:Nat) {BJ:List (List Value)} {xs:List α},R2 e w Z BJ xs→R2 e w Z (BJ.set k c) (xs.set k x)
 |_,[],[],_=>trivial
 |0,_::_,_::_,h=>⟨a,h.2⟩
 |k+1,_::cs,_::xs,h=>⟨h.1,R2.set a k h.2⟩
 |_,[],_::_,h=>h.elim
 |_,_::_,[],h=>h.elim
theorem R2.WV(h0:0<e.sz):∀(k:Nat) {BJ:List (List Value)} {xs:List α},R2 e w Z BJ xs→BJ.flatten.drop (k*e.sz)=(BJ.drop k).flatten
 |0,_,_,_=>by simp
 |k+1,[],[],_=>by simp
 |k+1,c::cs,_::xs,h=>by
  rw[List.drop_succ_cons,←R2.WV h0 k h.2,List.flatten_cons,List.drop_append,e.len h.1,List.drop_of_length_le (by rw[e.len h.1,Nat.add_mul];omega),List.nil_append]
  congr 1
  rw[Nat.add_mul];omega
 |_+1,[],_::_,h=>h.elim
 |_+1,_::_,[],h=>h.elim
end
def Sl {α:Type} (e:CD α) (w:World) (Z:Nat→Prop) (A:Option Addr) (c:Nat) (xs:List α):Prop:=
 xs.length≤c∧(A=none→c=0)∧∃BJ,R2 e w Z BJ xs∧Rz w Z A BJ.flatten
section
variable{α:Type}{e:CD α}{w w':World}{Z Z':Nat→Prop}{A:Option Addr}{c:Nat}{xs:List α}
theorem Sl.mv(h:Sl e w Z A c xs)(g:Mv w Z w' Z'):Sl e w' Z' A c xs:=⟨h.1,h.2.1,h.2.2.imp fun _ ⟨h1,h2⟩=>⟨h1.mv g,h2.mv g⟩⟩
theorem Sl.all(h:Sl e w Z A c xs):Sl e w ZA A c xs:=h.mv Ng
theorem Sl.nil(e:CD α)(w:World)(Z:Nat→Prop):Sl e w Z none 0 []:=⟨Nat.le_refl _,fun _=>rfl,[],trivial,.inl rfl⟩
theorem Sl.elem (h:Sl e w Z A c xs) (h0:0<e.sz) {k:Nat} {x:α} (hk:xs[k]?=some x):∃b o cs,A=some ⟨b,o,none⟩∧e.R w Z cs x∧Rz w Z (some ⟨b,o+k*e.sz,none⟩) cs:=by
 obtain⟨-,-,BJ,h2,f⟩:=h;obtain⟨cs,l,g,a⟩:=h2.get hk;have hl:=e.len g;have p:k<BJ.length:=(List.getElem?_eq_some_iff.1 l).1;rcases f with f|⟨b,o,m,n,i,d⟩
 ·rw[f] at a;simp at a;subst a;simp at hl;omega
 ·refine⟨b,o,cs,m,g,.inr ⟨b,_,rfl,n,i,fun j u hu=>?_⟩⟩;rw[Nat.add_assoc];refine d _ _ ?_;subst a;rw[List.getElem?_take] at hu;split at hu
  ·simpa using hu
  ·cases hu
theorem Sl.CR(h:Sl e w Z A c xs)(h1:e.sz=1){k:Nat}{x:α}(hk:xs[k]?=some x):∃b o cs,A=some ⟨b,o,none⟩∧e.R w Z cs x∧Rz w Z (some ⟨b,o+k,none⟩) cs:=by
 obtain⟨b,o,cs,h2,d,a⟩:=h.elem (by omega) hk;rw[h1,Nat.mul_one] at a;exact⟨b,o,cs,h2,d,a⟩
end
def Al(k:IntKind):CD Int:=⟨1,fun _ _ cs x=>cs=[.int k x],fun h=>by rw[h];rfl,fun h=>by rw[h];simp[Value.oneCell'],fun h _=>h⟩
def AaY:CD Bool:=⟨1,fun _ _ cs x=>cs=[.bool x],fun h=>by rw[h];rfl,fun h=>by rw[h];simp[Value.oneCell'],fun h _=>h⟩
def Bx{α:Type}(e:CD α):CD (List α):=
 ⟨1,fun w Z cs xs=>∃A c,cs=[.slice A xs.length c]∧Sl e w Z A c xs,fun⟨_,_,h,_⟩=>by rw[h];rfl,fun⟨_,_,h,_⟩=>by rw[h];simp[Value.oneCell'],
  fun⟨A,c,h1,h2⟩ g=>⟨A,c,h1,h2.mv g⟩⟩
structure VE (α:Type) where
 R:World→(Nat→Prop)→Value→α→Prop
 mv:∀{w Z w' Z' v x},R w Z v x→Mv w Z w' Z'→R w' Z' v x
def Dk(k:IntKind):VE Int:=⟨fun _ _ v x=>v=.int k x,fun h _=>h⟩
def BE:VE Bool:=⟨fun _ _ v x=>v=.bool x,fun h _=>h⟩
def FE{α:Type}(e:CD α):VE (List α):=⟨fun w Z v xs=>∃A c,v=.slice A xs.length c∧Sl e w Z A c xs,fun⟨A,c,h1,h2⟩ g=>⟨A,c,h1,h2.mv g⟩⟩
def DB{α:Type}(e:CD α):VE α:=⟨fun w Z v x=>∃cs,v=.agg cs.toArray∧e.R w Z cs x,fun h g=>h.imp fun _ h=>⟨h.1,e.mv h.2 g⟩⟩
def Md{α β:Type}(a:VE α)(b:VE β):VE (α×β):=⟨fun w Z v x=>∃u t,v=.tuple #[u,t]∧a.R w Z u x.1∧b.R w Z t x.2,fun⟨u,t,h,h1,h2⟩ g=>⟨u,t,h,a.mv h1 g,b.mv h2 g⟩⟩
def vT3{α β e:Type}(a:VE α)(b:VE β)(c:VE e):VE (α×β×e):=
 ⟨fun w Z v x=>∃u t s,v=.tuple #[u,t,s]∧a.R w Z u x.1∧b.R w Z t x.2.1∧c.R w Z s x.2.2,fun⟨u,t,s,h,h1,h2,d⟩ g=>⟨u,t,s,h,a.mv h1 g,b.mv h2 g,c.mv d g⟩⟩
def Kv{α:Type}(v:VE α)(Z:Nat→Prop)(x:α):N7 Ext:=⟨fun u w=>v.R w Z u x,fun _ _ _ h g=>v.mv h (Ac g)⟩
def ob:Option Addr→Option Nat:=Option.map (·.block)
theorem Zz(A:Option Addr)(n c:Nat):Value.ownBlock (.slice A n c)=ob A:=by cases A<;>rfl
def FN:Nat→Prop:=fun _=>False
def FU (F:Nat→Prop) (M:List (Option Nat)):Nat→Prop:=fun k=>F k∨some k∈M
structure BX (D:Nat→Prop) (w w':World):Prop where
 os:w'.os=w.os
 tape:w'.tape=w.tape
 output:w'.output=w.output
 size:w.heap.size≤w'.heap.size
 block:∀k,k<w.heap.size→¬D k→w'.heap[k]?=w.heap[k]?
section
variable{D D' F F':Nat→Prop}{M M':List (Option Nat)}{w w' BI:World}
theorem BX.refl(D:Nat→Prop)(w:World):BX D w w:=⟨rfl,rfl,rfl,Nat.le_refl _,fun _ _ _=>rfl⟩
theorem BX.trans(h:BX D w w')(k:BX D w' BI):BX D w BI:=
 ⟨k.os.trans h.os,k.tape.trans h.tape,k.output.trans h.output,Nat.le_trans h.size k.size,fun b hb a=>(k.block b (Nat.lt_of_lt_of_le hb h.size) a).trans (h.block b hb a)⟩
theorem BX.mono(h:BX D w w')(a:∀k,D k→D' k):BX D' w w':=⟨h.os,h.tape,h.output,h.size,fun b hb c=>h.block b hb fun d=>c (a b d)⟩
theorem LB{r:Option Nat}(g:w.grownBy w' r)(hr:∀k,r=some k→D k):BX D w w':=⟨g.os,g.tape,g.output,g.size,fun b hb a=>g.block b hb fun e=>a (hr b e.symm)⟩
theorem Gd(g:Ext w w'):BX D w w':=LB g fun _ e=>by cases e
theorem BX.gr{r:Option Nat}(g:BX (fun k=>some k=r) w w'):w.grownBy w' r:=⟨g.os,g.tape,g.output,g.size,fun b hb a=>g.block b hb a⟩
theorem BX.ext(g:BX (FU FN []) w w'):Ext w w':=⟨g.os,g.tape,g.output,g.size,fun b hb _=>g.block b hb (by rintro(h|h);exact h;cases h)⟩
theorem BX.fl{M2:List (Option Nat)}(g:BX (FU (FU F M) M2) w w'):BX (FU F (M++M2)) w w':=g.mono fun k h=>by
 rcases h with(h|h)|h
 ·exact .inl h
 ·exact .inr (List.mem_append_left _ h)
 ·exact .inr (List.mem_append_right _ h)
theorem Bk.Cn{b:Nat}{t:TypeId}{cs:Array Value}(h:Bk w b t cs)(g:BX D w w')(a:¬D b):Bk w' b t cs:=(g.block b h.lt a).trans h
theorem Bk.gr{b:Nat}{t:TypeId}{cs:Array Value}{r:Option Nat}(h:Bk w b t cs)(g:w.grownBy w' r)(a:some b≠r):Bk w' b t cs:=(g.block b h.lt a).trans h
end
def ZZ (F:Nat→Prop) (B:List (Option Nat)) (Z:Nat→Prop) (n0:Nat) (L:List (Option Nat)):Nat→Prop:=fun b=>(b<n0∧Z b∧¬F b∧some b∉B)∨(n0≤b∧some b∉L)
def ZC (F:Nat→Prop) (M:List (Option Nat)):Nat→Prop:=fun b=>¬F b∧some b∉M
theorem Gs{F:Nat→Prop}{M:List (Option Nat)}:∀b,ZC F M b→¬F b∧some b∉M:=fun _ h=>h
def IC (L:List (Option Nat)):List Nat→List (Option Nat)→Prop
 |[],[]=>True
 |j::a,m::M=>L[j]?=some m∧IC L a M
 |_,_=>False
theorem IC.mem{L:List (Option Nat)}:∀{b:List Nat} {M:List (Option Nat)},IC L b M→∀x∈M,∃j∈b,L[j]?=some x
 |[],[],_,x,a=>by cases a
 |j::b,m::M,h,x,a=>by
  rcases List.mem_cons.1 a with rfl|a
  ·exact⟨j,List.mem_cons_self ..,h.1⟩
  ·obtain⟨i,hi,he⟩:=IC.mem h.2 x a;exact⟨i,List.mem_cons_of_mem _ hi,he⟩
 |[],_::_,h,_,_=>h.elim
 |_::_,[],h,_,_=>h.elim
theorem IC.get{L:List (Option Nat)}:∀{b:List Nat} {M:List (Option Nat)},IC L b M→∀(i:Nat) x,M[i]?=some x→∃j,b[i]?=some j∧L[j]?=some x
 |[],[],_,i,x,a=>by simp at a
 |j::b,m::M,h,0,x,a=>by
  obtain rfl:m=x:=by simpa using a
  exact⟨j,rfl,h.1⟩
 |j::b,m::M,h,i+1,x,a=>by
  obtain⟨k,hk,he⟩:=IC.get h.2 i x (by simpa using a);exact⟨k,by simpa using hk,he⟩
 |[],_::_,h,_,_,_=>h.elim
 |_::_,[],h,_,_,_=>h.elim
theorem IC.sub{L:List (Option Nat)}{a:List Nat}{M:List (Option Nat)}(h:IC L a M):∀x∈M,x∈L:=fun x b=>by
 obtain⟨j,_,he⟩:=h.mem x b;exact List.mem_of_getElem? he
def Me:List Nat→Bool
 |[]=>true
 |x::l=>l.all (fun y=> !Nat.beq x y)&&Me l
theorem Mz:∀{l:List Nat},Me l=true→∀(i j k:Nat),l[i]?=some k→l[j]?=some k→i=j
 |[],_,i,j,k,hi,_=>by simp at hi
 |x::l,h,i,j,k,hi,hj=>by
  simp only[Me,Bool.and_eq_true,List.all_eq_true] at h;have key:∀(m:Nat),l[m]?=some x→False:=fun m hm=>by
   have:=h.1 x (List.mem_of_getElem? hm);rw[Nat.beq_refl] at this;cases this
  cases i with
  |zero=>
   obtain rfl:x=k:=by simpa using hi
   cases j with
   |zero=>rfl
   |succ j=>exact(key j (by simpa using hj)).elim
  |succ i=>
   cases j with
   |zero=>
    obtain rfl:x=k:=by simpa using hj
    exact(key i (by simpa using hi)).elim
   |succ j=>rw[Mz h.2 i j k (by simpa using hi) (by simpa using hj)]
structure Bw (F:Nat→Prop) (B:List (Option Nat)) (w:World):Prop where
 lt:∀k,some k∈B→k<w.heap.size∧¬F k
 ap:∀(i j:Nat) (x:Nat),i≠j→B[i]?=some (some x)→B[j]?≠some (some x)
 ff:∀k,F k→k<w.heap.size
theorem Bw.none(w:World):Bw FN [] w:=⟨fun _ h=>(by cases h),fun _ _ _ _ h=>by simp at h,fun _ h=>h.elim⟩
theorem Bw.grow{F:Nat→Prop}{B:List (Option Nat)}{w w':World}(h:Bw F B w)(hs:w.heap.size≤w'.heap.size):Bw F B w':=
 ⟨fun k hk=>⟨Nat.lt_of_lt_of_le (h.lt k hk).1 hs,(h.lt k hk).2⟩,h.ap,fun k hk=>Nat.lt_of_lt_of_le (h.ff k hk) hs⟩
structure Hp (F:Nat→Prop) (B:List (Option Nat)) (w0:World) (L:List (Option Nat)) (w:World):Prop where
 ch:BX (FU F B) w0 w
 lo:∀k,some k∈L→k<w.heap.size∧¬F k∧(k<w0.heap.size→some k∈B)
 ap:∀(i j:Nat) (x:Nat),i≠j→L[i]?=some (some x)→L[j]?≠some (some x)
 ff:∀k,F k→k<w0.heap.size
theorem Hp.start{F:Nat→Prop}{B:List (Option Nat)}{w:World}(h:Bw F B w):Hp F B w B w:=⟨BX.refl _ _,fun k hk=>⟨(h.lt k hk).1,(h.lt k hk).2,fun _=>hk⟩,h.ap,h.ff⟩
section
variable{F F':Nat→Prop}{B:List (Option Nat)}{w0 w w':World}{Z Z':Nat→Prop}{L L' M:List (Option Nat)}
theorem Hp.sz(h:Hp F B w0 L w):w0.heap.size≤w.heap.size:=h.ch.size
theorem Hp.Cn(h:Hp F B w0 L w){D:Nat→Prop}(g:BX D w w')(b:∀k,D k→F k∨some k∈L):Hp F B w0 L w':=by
 refine⟨⟨g.os.trans h.ch.os,g.tape.trans h.ch.tape,g.output.trans h.ch.output,Nat.le_trans h.sz g.size,fun k hk a=>?_⟩,fun k hk=>⟨Nat.lt_of_lt_of_le (h.lo k hk).1 g.size,(h.lo k hk).2⟩,h.ap,h.ff⟩;refine(g.block k (Nat.lt_of_lt_of_le hk h.sz) fun c=>?_).trans (h.ch.block k hk a);rcases b k c with h1|h1
 ·exact a (.inl h1)
 ·exact a (.inr ((h.lo k h1).2.2 hk))
theorem Hp.ext(h:Hp F B w0 L w)(g:Ext w w'):Hp F B w0 L w':=h.Cn (D:=FN) (Gd g) fun _ h=>h.elim
theorem Hp.gr(h:Hp F B w0 L w){r:Option Nat}(g:w.grownBy w' r)(i:Nat)(hi:L[i]?=some r):Hp F B w0 L w':=
 h.Cn (D:=fun k=>some k=r) (LB g fun _ e=>e.symm) fun k e=>.inr (by rw[e];exact List.mem_of_getElem? hi)
theorem Hp.new(h:Hp F B w0 L w)(g:Ext w w'){b:Nat}(hb:w.heap.size≤b)(hs:b<w'.heap.size):Hp F B w0 (some b::L) w':=by
 have c:=h.ext g;refine⟨c.ch,fun k hk=>?_,?_,h.ff⟩
 ·rcases List.mem_cons.1 hk with e|hk
  ·cases e;exact⟨hs,fun f=>absurd (h.ff _ f) (by have:=h.sz;omega),fun hl=>absurd hl (by have:=h.sz;omega)⟩
  ·exact c.lo k hk
 ·have key:∀(j:Nat) (x:Nat),L[j]?=some (some x)→x≠b:=fun j x l e=>by
   have:=(h.lo x (List.mem_of_getElem? l)).1;omega
  intro i j x d hi hj;cases i with
  |zero=>
   cases j with
   |zero=>exact d rfl
   |succ j=>
    have a:b=x:=by simpa using hi
    exact key j x (by simpa using hj) a.symm
  |succ i=>
   cases j with
   |zero=>
    have a:b=x:=by simpa using hj
    exact key i x (by simpa using hi) a.symm
   |succ j=>exact h.ap i j x (by omega) (by simpa using hi) (by simpa using hj)
theorem Hp.nil(h:Hp F B w0 L w):Hp F B w0 (none::L) w:=by
 refine⟨h.ch,fun k hk=>h.lo k (by simpa using hk),?_,h.ff⟩;intro i j x a hi hj;cases i with
 |zero=>simp at hi
 |succ i=>
  cases j with
  |zero=>simp at hj
  |succ j=>exact h.ap i j x (by omega) (by simpa using hi) (by simpa using hj)
theorem Hp.EF (h:Hp F B w0 L w) {D:Nat→Prop} (g:BX D w w') (q:∀k,D k→F k∨some k∈L) (i:Nat) {x y:Option Nat} (hi:L[i]?=some x) (m:∀k,y=some k→(x=some k∨w.heap.size≤k)∧k<w'.heap.size):Hp F B w0 (L.set i y) w':=by
 have f:=h.Cn g q;refine⟨f.ch,fun k hk=>?_,?_,h.ff⟩
 ·rcases List.mem_or_eq_of_mem_set hk with hk|e
  ·exact f.lo k hk
  ·obtain⟨h1,h2⟩:=m k e.symm;rcases h1 with h1|h1
   ·exact f.lo k (by rw[←h1];exact List.mem_of_getElem? hi)
   ·exact⟨h2,fun r=>absurd (h.ff _ r) (by have:=h.sz;omega),fun hl=>absurd hl (by have:=h.sz;omega)⟩
 ·have c:i<L.length:=(List.getElem?_eq_some_iff.1 hi).1;have key:∀(j z:Nat),j≠i→L[j]?=some (some z)→y≠some z:=fun j z hj n e=>by
   rcases(m z e).1 with h1|h1
   ·exact h.ap j i z hj n (by rw[hi,h1])
   ·have:=(h.lo z (List.mem_of_getElem? n)).1;omega
  intro a b z o ha hb
  by_cases d:a=i
  ·subst d;have l:y=some z:=by simpa[List.getElem?_set,c] using ha
   rw[List.getElem?_set_ne (by omega)] at hb;exact key b z (by omega) hb l
  ·rw[List.getElem?_set_ne (by omega)] at ha
   by_cases p:b=i
   ·subst p;have l:y=some z:=by simpa[List.getElem?_set,c] using hb
    exact key a z d ha l
   ·rw[List.getElem?_set_ne (by omega)] at hb;exact h.ap a b z o ha hb
theorem Hp.row(h:Hp F B w0 L w){x:Option Nat}(g:w.grownBy w' x)(i:Nat){y:Option Nat}(hi:L[i]?=some x)(a:∀k,y=some k→(x=some k∨w.heap.size≤k)∧k<w'.heap.size):Hp F B w0 (L.set i y) w':=
 h.EF (D:=fun k=>some k=x) (LB g fun _ e=>e.symm) (fun k e=>.inr (by rw[e];exact List.mem_of_getElem? hi)) i hi a
theorem Hp.erase(h:Hp F B w0 L w)(i:Nat):Hp F B w0 (L.eraseIdx i) w:=by
 refine⟨h.ch,fun k hk=>h.lo k (List.mem_of_mem_eraseIdx hk),fun a b x c ha hb=>?_,h.ff⟩;rw[List.getElem?_eraseIdx] at ha hb;split at ha<;>split at hb
 ·exact h.ap a b x c ha hb
 ·exact h.ap a (b+1) x (by omega) ha hb
 ·exact h.ap (a+1) b x (by omega) ha hb
 ·exact h.ap (a+1) (b+1) x (by omega) ha hb
theorem Hp.ne(h:Hp F B w0 L w)(i j:Nat){x:Option Nat}{b:Nat}(a:(i==j)=false)(hi:L[i]?=some (some b))(hj:L[j]?=some x):some b≠x:=fun e=>h.ap i j b (by simpa using a) hi (by rw[hj,e])
theorem Hp.CI (h:Hp F B w0 L w) (i:Nat) {b:Nat} (hi:L[i]?=some (some b)) (a:List Nat) (hj:(a.all fun j=> !Nat.beq i j)=true) (d:IC L a M) (f:∀k,F' k→F k):¬FU F' M b:=by
 rintro(h1|h1)
 ·exact(h.lo b (List.mem_of_getElem? hi)).2.1 (f b h1)
 ·obtain⟨j,c,he⟩:=d.mem _ h1;have:=List.all_eq_true.1 hj j c;refine h.ap i j b (fun e=>?_) hi he;rw[e,Nat.beq_refl] at this;cases this
theorem ZB(a:∀x∈M,x∈L)(b:∀k,F' k→F k):∀k,FU F' M k→F k∨some k∈L:=fun k h=>h.imp (b k) (a _)
theorem Hp.CH (h:Hp F B w0 L w) (c g:List Nat) {C:List (Option Nat)} (l:Me (c++g)=true) (d:IC L c M) (m:IC L g C) (n:∀k,F' k→F k∨some k∈C):Bw F' M w:=by
 refine⟨fun k hk=>⟨(h.lo k (d.sub _ hk)).1,fun z=>?_⟩,fun i j x o hi hj=>?_,fun k hk=>?_⟩
 ·rcases n k z with h1|h1
  ·exact(h.lo k (d.sub _ hk)).2.1 h1
  ·obtain⟨i,hi⟩:=List.mem_iff_getElem?.1 hk;obtain⟨p,q⟩:=List.mem_iff_getElem?.1 h1;obtain⟨j,hj,he⟩:=d.get i _ hi;obtain⟨r,s,t⟩:=m.get p _ q;have e:j=r:=by
    refine Decidable.byContradiction fun f=>h.ap j r k f he t
   subst e;have u:i<c.length:=(List.getElem?_eq_some_iff.1 hj).1;have h2:=Mz l i (c.length+p) j (by rw[List.getElem?_append_left u];exact hj) (by rw[List.getElem?_append_right (by omega)];simpa using s);omega
 ·obtain⟨a,ha,v⟩:=d.get i _ hi;obtain⟨b,hb,y⟩:=d.get j _ hj;have e:a=b:=Decidable.byContradiction fun f=>h.ap a b x f v y;subst e;have aA:i<c.length:=(List.getElem?_eq_some_iff.1 ha).1;have aB:j<c.length:=(List.getElem?_eq_some_iff.1 hb).1;exact o (Mz l i j a (by rw[List.getElem?_append_left aA];exact ha) (by rw[List.getElem?_append_left aB];exact hb))
 ·rcases n k hk with h1|h1
  ·exact Nat.lt_of_lt_of_le (h.ff k h1) h.sz
  ·exact(h.lo k (m.sub _ h1)).1
theorem Hp.Uj (h:Hp F B w0 L w) {D:Nat→Prop} (c:∀k,D k→F k∨some k∈L):∀b,ZZ F B Z w0.heap.size L b→¬D b:=fun b hb d=>by
 rcases hb with⟨h1,h2,e,f⟩|⟨h1,h2⟩
 ·rcases c b d with a|a
  ·exact e a
  ·exact f ((h.lo b a).2.2 h1)
 ·rcases c b d with a|a
  ·have:=h.ff b a;omega
  ·exact h2 a
theorem Hp.zc(h:Hp F B w0 L w)(a:∀x∈M,x∈L)(c:∀k,F' k→F k∨some k∈L):∀b,ZZ F B Z w0.heap.size L b→¬F' b∧some b∉M:=fun b hb=>
 ⟨h.Uj (D:=F') c b hb,fun hm=>h.Uj (D:=fun k=>some k∈M) (fun k hk=>.inr (a _ hk)) b hb hm⟩
theorem En(h:∀b,Z b→Z' b):Mv w Z w Z':=Ll fun b hb _=>h b hb
theorem Hp.Em (h:Hp F B w0 L w) {D:Nat→Prop} (g:BX D w w') (a:∀k,D k→F k∨some k∈L):Mv w (ZZ F B Z w0.heap.size L) w' (ZZ F B Z w0.heap.size L):=
 ⟨g.size,fun b hb hl=>⟨hb,g.block b hl (h.Uj a b hb)⟩⟩
theorem Hp.By(h:Hp F B w0 L w){r:Option Nat}(g:w.grownBy w' r)(i:Nat)(hi:L[i]?=some r):Mv w (ZZ F B Z w0.heap.size L) w' (ZZ F B Z w0.heap.size L):=
 h.Em (D:=fun k=>some k=r) (LB g fun _ e=>e.symm) fun k e=>.inr (by rw[e];exact List.mem_of_getElem? hi)
theorem Hp.HY(h:Hp F B w0 L w){D:Nat→Prop}(g:BX D w w')(c:∀k,D k→F k∨some k∈L)(i:Nat){x:Option Nat}(hi:L[i]?=some x){y:Option Nat}(d:∀k,y=some k→(x=some k∨w.heap.size≤k)):Mv w (ZZ F B Z w0.heap.size L) w' (ZZ F B Z w0.heap.size (L.set i y)):=
 ⟨g.size,fun b hb hl=>⟨hb.imp id fun⟨h1,h2⟩=>⟨h1,fun hm=>by
  rcases List.mem_or_eq_of_mem_set hm with hm|e
  ·exact h2 hm
  ·rcases d b e.symm with a|a
   ·exact h2 (by rw[←a];exact List.mem_of_getElem? hi)
   ·omega⟩,g.block b hl (h.Uj c b hb)⟩⟩
theorem Hp.CL(h:Hp F B w0 L w){r:Option Nat}(g:w.grownBy w' r)(i:Nat)(hi:L[i]?=some r){y:Option Nat}(a:∀k,y=some k→(r=some k∨w.heap.size≤k)):Mv w (ZZ F B Z w0.heap.size L) w' (ZZ F B Z w0.heap.size (L.set i y)):=
 h.HY (D:=fun k=>some k=r) (LB g fun _ e=>e.symm) (fun k e=>.inr (by rw[e];exact List.mem_of_getElem? hi)) i hi a
theorem Nh{n0:Nat}(g:Ext w w'){b:Nat}(hb:w.heap.size≤b):Mv w (ZZ F B Z n0 L) w' (ZZ F B Z n0 (some b::L)):=
 ⟨g.size,fun k hk hl=>⟨hk.imp id fun⟨h1,h2⟩=>⟨h1,fun hm=>by
  rcases List.mem_cons.1 hm with e|hm
  ·cases e;omega
  ·exact h2 hm⟩,g.block k hl (by simp)⟩⟩
theorem Bv{n0:Nat}:Mv w (ZZ F B Z n0 L) w (ZZ F B Z n0 (none::L)):=Ll fun b hb _=>hb.imp id fun⟨h1,h2⟩=>⟨h1,by simpa using h2⟩
theorem ZD{n0:Nat}(h:∀x∈L',x∈L):Mv w (ZZ F B Z n0 L) w (ZZ F B Z n0 L'):=Ll fun b hb _=>hb.imp id fun⟨h1,h2⟩=>⟨h1,fun hm=>h2 (h _ hm)⟩
theorem AH{n0:Nat}(i:Nat):Mv w (ZZ F B Z n0 L) w (ZZ F B Z n0 (L.eraseIdx i)):=ZD fun _ h=>List.mem_of_mem_eraseIdx h
theorem AS(a:∀b,Z b→¬F b∧some b∉B)(w:World):Mv w Z w (ZZ F B Z w.heap.size L):=Ll fun b hb hl=>.inl ⟨hl,hb,a b hb⟩
theorem AX {n0:Nat} (a:∀x∈M,x∈L):Mv w (ZZ F B Z n0 L) w (ZZ FN [] Z n0 M):=Ll fun b hb _=>by
 rcases hb with⟨h1,h2,_⟩|⟨h1,h2⟩
 ·exact .inl ⟨h1,h2,id,by simp⟩
 ·exact .inr ⟨h1,fun hm=>h2 (a _ hm)⟩
theorem Hp.call (h:Hp F B w0 L w) {c:Nat} (hs:w.heap.size≤c) (i:∀k,some k∈M→some k∈L∨c≤k) (e:∀x∈L',x∈L∨x∈M):Mv w' (ZZ FN [] (ZZ F B Z w0.heap.size L) c M) w' (ZZ F B Z w0.heap.size L'):=
 Ll fun b hb _=>by
  have h0:=h.sz;rcases hb with⟨h1,h2,_⟩|⟨h1,h2⟩
  ·rcases h2 with d|⟨d,f⟩
   ·exact .inl d
   ·refine .inr ⟨d,fun hm=>?_⟩;rcases e _ hm with a|a
    ·exact f a
    ·rcases i b a with g|g
     ·exact f g
     ·omega
  ·refine .inr ⟨by omega,fun hm=>?_⟩;rcases e _ hm with a|a
   ·have:=(h.lo b a).1;omega
   ·exact h2 a
theorem Hp.DQ(h:Hp F B w0 L w){a:Nat}(hs:w.heap.size≤a):Mv w' (ZZ FN [] (ZZ F B Z w0.heap.size L) a []) w' (ZZ F B Z w0.heap.size L):=h.call hs (fun _ h=>by cases h) (fun _ h=>.inl h)
theorem Hp.fin(h:Hp F B w0 L w):BX (FU F B) w0 w:=h.ch
theorem Hp.AZ(h:Hp FN [] w0 L w):Ext w0 w:=h.ch.ext
theorem Hp.lit{b:Nat}(h:Hp F B w0 L w)(i:Nat)(hi:L[i]?=some (some b))(a:w0.heap.size≤b):ZZ F B Z w0.heap.size (L.eraseIdx i) b:=
 .inr ⟨a,fun hm=>by
  obtain⟨j,hj⟩:=List.mem_iff_getElem?.1 hm;rw[List.getElem?_eraseIdx] at hj;split at hj
  ·exact h.ap i j b (by omega) hi hj
  ·exact h.ap i (j+1) b (by omega) hi hj⟩
theorem Hp.own {b:Nat} (h:Hp F B w0 L w) (i:Nat) (hi:L[i]?=some (some b)) (a:some b∉B):w0.heap.size≤b:=by
 rcases Nat.lt_or_ge b w0.heap.size with h1|h1
 ·exact absurd ((h.lo b (List.mem_of_getElem? hi)).2.2 h1) a
 ·exact h1
end
def Bp {α:Type} (e:CD α) (t:TypeId) (n0:Nat) (w:World) (Z:Nat→Prop) (A:Option Addr) (c:Nat) (xs:List α):Prop:=
 ∃BJ,R2 e w Z BJ xs∧Fm w n0 t e.sz A xs.length c BJ.flatten
section
variable{α:Type}{e:CD α}{t:TypeId}{n0:Nat}{w w':World}{Z Z':Nat→Prop}{A:Option Addr}{c:Nat}{xs:List α}
theorem Bp.nil(e:CD α)(t:TypeId)(n0:Nat)(w:World)(Z:Nat→Prop):Bp e t n0 w Z none 0 []:=⟨[],trivial,Fm.nil _ _ _ _⟩
theorem Bp.gr(h:Bp e t n0 w Z A c xs){r:Option Nat}(g:w.grownBy w' r)(hr:∀k,ob A=some k→some k≠r)(hm:Mv w Z w' Z'):Bp e t n0 w' Z' A c xs:=by
 obtain⟨BJ,h1,h2⟩:=h;exact⟨BJ,h1.mv hm,h2.kept g fun k a o b=>hr k (by rw[b];rfl) a.symm⟩
theorem Bp.ext(h:Bp e t n0 w Z A c xs)(g:Ext w w')(hm:Mv w Z w' Z'):Bp e t n0 w' Z' A c xs:=h.gr g (fun _ _ e=>by cases e) hm
theorem Bp.up(h:Bp e t n0 w Z A c xs)(hm:Mv w Z w Z'):Bp e t n0 w Z' A c xs:=by
 obtain⟨BJ,h1,h2⟩:=h;exact⟨BJ,h1.mv hm,h2⟩
theorem Bp.sl(h:Bp e t n0 w Z A c xs)(i:∀k,ob A=some k→n0≤k→Z k):Sl e w Z A c xs:=by
 obtain⟨BJ,h1,h2⟩:=h;have l:=h2;rcases h2.2 with⟨a,h0⟩|⟨g,cap,cur,a,d,m,f,_,_,_⟩
 ·have:xs=[]:=List.eq_nil_of_length_eq_zero h0;subst this;cases a;exact Sl.nil _ _ _
 ·cases a;refine⟨f,(fun e=>by cases e),BJ,h1,?_⟩;refine QZ (hi:=g+1) (lo:=g) ?_ (fun b h1 h2=>by
   obtain rfl:b=g:=by omega
   exact i b rfl d)
  refine⟨lt_of_block m,.inr ⟨g,0,rfl,Nat.le_refl _,Nat.lt_succ_self _,fun j u hu=>?_⟩⟩;have:=World.ownsRow.cells l (g:=g) rfl j u hu;rw[GQ] at this;exact this
theorem Bp.all(h:Bp e t n0 w Z A c xs):Sl e w ZA A c xs:=(h.up Ng).sl fun _ _ _=>trivial
theorem Bp.KD(h:Bp e t n0 w Z A c xs):∀k,ob A=some k→k<w.heap.size:=by
 obtain⟨BJ,h1,h2⟩:=h;intro k hk;rcases h2.2 with⟨a,h0⟩|⟨g,cap,cur,a,d,b,_⟩
 ·obtain⟨rfl,-,-⟩:=Value.slice.inj a;cases hk
 ·cases a;cases hk;exact lt_of_block b
end
section
variable{α:Type}{e:CD α}{t:TypeId}{F F':Nat→Prop}{B L M:List (Option Nat)}{n0 n1:Nat}{w0 w w':World}{Z Z':Nat→Prop}{A:Option Addr}{c:Nat}{xs:List α}
theorem Bp.Cn(h:Bp e t n0 w Z A c xs){D:Nat→Prop}(g:BX D w w')(hr:∀k,ob A=some k→¬D k)(hm:Mv w Z w' Z'):Bp e t n0 w' Z' A c xs:=by
 obtain⟨BJ,h1,h2⟩:=h;refine⟨BJ,h1.mv hm,h2.1,h2.2.imp id ?_⟩;rintro⟨b,cap,cur,a,hb,d,f⟩;refine⟨b,cap,cur,a,hb,?_,f⟩;cases a;exact(g.block b (lt_of_block d) (hr b rfl)).trans d
theorem Bp.base(h:Bp e t n0 w Z A c xs)(hb:∀k,ob A=some k→n1≤k):Bp e t n1 w Z A c xs:=by
 obtain⟨BJ,h1,h2⟩:=h;refine⟨BJ,h1,h2.1,h2.2.imp id ?_⟩;rintro⟨b,cap,cur,a,_,d⟩;cases a;exact⟨b,_,cur,rfl,hb b rfl,d⟩
theorem Bp.ge(h:Bp e t n0 w Z A c xs):∀k,ob A=some k→n0≤k:=by
 obtain⟨BJ,h1,h2⟩:=h;intro k hk;rcases h2.2 with⟨a,_⟩|⟨b,cap,cur,a,hb,_⟩
 ·obtain⟨rfl,-,-⟩:=Value.slice.inj a;cases hk
 ·cases a;cases hk;exact hb
theorem Hp.P8 (h:Hp F B w0 L w) (i:Nat) (hi:L[i]?=some (ob A)) (hr:Bp e t w0.heap.size w (ZZ F B Z w0.heap.size L) A c xs):Sl e w (ZZ F B Z w0.heap.size (L.eraseIdx i)) A c xs:=
 (hr.up (AH i)).sl fun k hk h0=>.inr ⟨h0,fun hm=>by
  obtain⟨j,hj⟩:=List.mem_iff_getElem?.1 hm;rw[List.getElem?_eraseIdx] at hj;split at hj
  ·exact h.ap i j k (by omega) (by rw[hi,hk]) hj
  ·exact h.ap i (j+1) k (by omega) (by rw[hi,hk]) hj⟩
theorem Hp.Jz (h:Hp F B w0 L w) (i:Nat) (hi:L[i]?=some (ob A)) (a:List Nat) (hj:(a.all fun j=> !Nat.beq i j)=true) (b:IC L a M) (hr:Bp e t w0.heap.size w (ZZ F B Z w0.heap.size L) A c xs):Sl e w (ZZ FN [] Z w0.heap.size M) A c xs:=
 (hr.up (AX b.sub)).sl fun k hk h0=>.inr ⟨h0,fun hm=>h.CI (F':=FN) i (by rw[hi,hk]) a hj b (fun _ h=>h.elim) (.inr hm)⟩
theorem Hp.kn{b:Nat}(h:Hp F B w0 L w)(hb:w.heap.size≤b):ZZ F B Z w0.heap.size L b:=
 .inr ⟨Nat.le_trans h.sz hb,fun hm=>absurd (h.lo b hm).1 (Nat.not_lt.2 hb)⟩
theorem K3 {b:Nat} {cs:Array Value} {BJ:List (List Value)} (hb:Bk w b t cs) (c:n0≤b) (h:R2 e w Z BJ xs) (d:BJ.flatten=cs.toList) (hm:xs.length≤maxLen):Bp e t n0 w Z (some ⟨b,0,none⟩) xs.length xs:=by
 have hl:=h.L7;have a:cs.size=xs.length*e.sz:=by rw[←hl,d];simp
 refine⟨BJ,h,hl,.inr ⟨b,xs.length,cs,rfl,c,hb,Nat.le_refl _,hm,a,?_⟩⟩;rw[d,List.take_of_length_le (by simp[a])]
theorem Hp.hand (h:Hp F B w0 L w) {D:Nat→Prop} (g:BX D w w') (m:∀k,D k→F k∨some k∈L) (hr:Bp e t w.heap.size w' Z' A c xs):Hp F B w0 (ob A::L) w':=by
 have h1:=h.Cn g m;cases d:ob A with
 |none=>exact h1.nil
 |some k=>
  have hk:=hr.ge k d;have f:=hr.KD k d;refine⟨h1.ch,fun x a=>?_,?_,h.ff⟩
  ·rcases List.mem_cons.1 a with e|a
   ·cases e;have hs:=h.sz;exact⟨f,fun n=>absurd (h.ff _ n) (by omega),fun hl=>absurd hl (by omega)⟩
   ·exact h1.lo x a
  ·have key:∀(j:Nat) (x:Nat),L[j]?=some (some x)→x≠k:=fun j x a e=>by
    have:=(h.lo x (List.mem_of_getElem? a)).1;omega
   intro i j x l hi hj;cases i with
   |zero=>
    cases j with
    |zero=>exact l rfl
    |succ j=>
     have b:k=x:=by simpa using hi
     exact key j x (by simpa using hj) b.symm
   |succ i=>
    cases j with
    |zero=>
     have b:k=x:=by simpa using hj
     exact key i x (by simpa using hi) b.symm
    |succ j=>exact h.ap i j x (by omega) (by simpa using hi) (by simpa using hj)
theorem Hp.Q0(h:Hp F B w0 L w){D:Nat→Prop}(g:BX D w w')(d:∀k,D k→F k∨some k∈L)(hr:Bp e t w.heap.size w' Z' A c xs){a:Nat→Prop}:Mv w (ZZ F B a w0.heap.size L) w' (ZZ F B a w0.heap.size (ob A::L)):=by
 refine⟨g.size,fun b hb hl=>⟨hb.imp id fun⟨h1,h2⟩=>⟨h1,fun hm=>?_⟩,g.block b hl (h.Uj d b hb)⟩⟩;rcases List.mem_cons.1 hm with e|hm
 ·have:=hr.ge b e.symm;omega
 ·exact h2 hm
end
def i64(x:Int):Option Int:=if-9223372036854775808≤x∧x≤9223372036854775807 then some x else none
theorem Vz{x y:Int}(h:i64 x=some y):y=x∧fits x:=by
 unfold i64 at h;split at h
 ·exact⟨(Option.some.inj h).symm,by assumption⟩
 ·cases h
theorem ZE{x:Int}(h0:-9223372036854775808≤x)(h1:x≤9223372036854775807):i64 x=some x:=if_pos ⟨h0,h1⟩
def idx{α:Type}(xs:List α)(i:Int):Option α:=if 0≤i then xs[i.toNat]? else none
theorem VA{α:Type}{xs:List α}{i:Int}{x:α}(h:idx xs i=some x):∃k:Nat,i=k∧xs[k]?=some x∧k<xs.length:=by
 unfold idx at h;split at h
 ·exact⟨i.toNat,by omega,h,(List.getElem?_eq_some_iff.1 h).1⟩
 ·cases h
theorem idx_eq{α:Type}{xs:List α}{k:Nat}(h:k<xs.length):idx xs (k:Int)=some xs[k]:=by
 unfold idx;rw[if_pos (by omega)];simp[h]
def quo(a b:Int):Option Int:=if 0≤a∧1≤b then some (a/b) else none
theorem VB{a b y:Int}(h:quo a b=some y):y=a/b∧0≤a∧1≤b:=by
 unfold quo at h;split at h
 ·exact⟨(Option.some.inj h).symm,by assumption⟩
 ·cases h
def rem(a b:Int):Option Int:=if 0≤a∧1≤b then some (a%b) else none
theorem VC{a b y:Int}(h:rem a b=some y):y=a%b∧0≤a∧1≤b:=by
 unfold rem at h;split at h
 ·exact⟨(Option.some.inj h).symm,by assumption⟩
 ·cases h
theorem AJ{α:Type}{x:Int}{f:Int→Option α}{r:α}(h:(i64 x).bind f=some r):fits x∧f x=some r:=by
 obtain⟨y,h1,h2⟩:=Option.bind_eq_some_iff.1 h;obtain⟨rfl,a⟩:=Vz h1;exact⟨a,h2⟩
theorem Bi{α β:Type}{xs:List α}{i:Int}{f:α→Option β}{r:β}(h:(idx xs i).bind f=some r):∃(k:Nat) (x:α),i=k∧xs[k]?=some x∧k<xs.length∧f x=some r:=by
 obtain⟨x,h1,h2⟩:=Option.bind_eq_some_iff.1 h;obtain⟨k,a,b,c⟩:=VA h1;exact⟨k,x,a,b,c,h2⟩
theorem On{α:Type}{a b:Int}{f:Int→Option α}{r:α}(h:(quo a b).bind f=some r):(0≤a∧1≤b)∧f (a/b)=some r:=by
 obtain⟨y,h1,h2⟩:=Option.bind_eq_some_iff.1 h;obtain⟨rfl,c⟩:=VB h1;exact⟨c,h2⟩
theorem MA{α:Type}{a b:Int}{f:Int→Option α}{r:α}(h:(rem a b).bind f=some r):(0≤a∧1≤b)∧f (a%b)=some r:=by
 obtain⟨y,h1,h2⟩:=Option.bind_eq_some_iff.1 h;obtain⟨rfl,c⟩:=VC h1;exact⟨c,h2⟩
def ED (p:Prop) [Decidable p]:Option Unit:=if p then some () else none
theorem B9{α:Type}{p:Prop}[Decidable p]{f:Unit→Option α}{r:α}(h:(ED p).bind f=some r):p∧f ()=some r:=by
 unfold ED at h;split at h
 ·exact⟨by assumption,h⟩
 ·cases h
theorem Am{α:Type}{b:Bool}{x y:Option α}{r:α}(h:cond b x y=some r)(hb:b=true):x=some r:=by subst hb;exact h
theorem An{α:Type}{b:Bool}{x y:Option α}{r:α}(h:cond b x y=some r)(hb:b=false):y=some r:=by subst hb;exact h
theorem bind_some{α β:Type}{x:Option α}{f:α→Option β}{r:β}(h:x.bind f=some r):∃a,x=some a∧f a=some r:=Option.bind_eq_some_iff.1 h
theorem CM{α β a:Type}{x:α}{f:α→Option a}{g:β→Option a}{r:a}(h:Sum.elim f g (.inl x)=some r):f x=some r:=h
theorem CN{α β a:Type}{x:β}{f:α→Option a}{g:β→Option a}{r:a}(h:Sum.elim f g (.inr x)=some r):g x=some r:=h
theorem Xm{P:Program}{ro:Option Nat}{c:Code}{Q d:Exit→Act→World→Prop}{a:Act}{w:World}(h:CW P ro c Q a w)(i:∀e a w,Q e a w→d e a w):CW P ro c d a w:=by
 intro b k cs f hb g;obtain⟨e,j,l,h1,h2⟩:=h b k cs f hb g;exact⟨e,j,l,i _ _ _ h1,h2⟩
theorem BQ {P:Program} {X:Ctx} {N:Nat} {c:Code} {Q:Exit→Act→World→Prop} {a:Act} {l:Env} {w:World} (d:Exit→Act→World→Prop) (h:CC P X N c d a l w) (b:∀e a w,d e a w→Q e a w):CC P X N c Q a l w:=
 fun s=>Xm (h s) b
theorem AaZ{X:Ctx}{N:Nat}{Q:Exit→Act→World→Prop}{e:Exit}{a:Act}{w:World}(b:a.tmps.size=N)(c:a.defers=X.ds)(h:LV X N Q e a [] w):Q e a w:=h ⟨b,c,fun _ d=>by cases d⟩
theorem BG{X:Ctx}{N:Nat}{Q:Exit→Act→World→Prop}{e:Exit}{a:Act}{l:Env}{w:World}(h:St X N a l→Q e (Cf a l) w):LV X N Q e a l w:=h
section
variable{P:Program}{a:Act}{w:World}{dst:Option Tmp}{ty:TypeId}{pos:String}{Cc:Array Edge}{g:Option (Nat×Bool)}
theorem EG {t:TypeId} {x:Operand} {Z:Nat→Prop} {b o k:Nat} {cs:List Value} {v:Value} (h:One P t) (c:a.eval x=.pointer (some ⟨b,o+k,none⟩)) (hr:Rz w Z (some ⟨b,o,none⟩) cs) (d:cs[k]?=some v):
  Cg P ⟨dst,.load t x,ty,pos,Cc,g⟩ a w (fun u w'=>u=v∧w'=w):=P5 h c hr.cells d
theorem BF{t:TypeId}{x:Operand}{Z:Nat→Prop}{b o:Nat}{cs:List Value}{v:Value}(h:One P t)(c:a.eval x=.pointer (some ⟨b,o,none⟩))(hr:Rz w Z (some ⟨b,o,none⟩) cs)(d:cs[0]?=some v):
  Cg P ⟨dst,.load t x,ty,pos,Cc,g⟩ a w (fun u w'=>u=v∧w'=w):=P5 (k:=0) h c hr.cells d
theorem Ni{t:TypeId}{x:Operand}{Z:Nat→Prop}{n b o k:Nat}{cs l:List Value}(h:EX P t n)(c:a.eval x=.pointer (some ⟨b,o+k,none⟩))(hr:Rz w Z (some ⟨b,o,none⟩) cs)
  (hl:(cs.drop k).take n=l)(d:l.length=n):Cg P ⟨dst,.load t x,ty,pos,Cc,g⟩ a w (fun u w'=>u=.agg l.toArray∧w'=w):=OQ h c hr.cells hl d
theorem Cv{t:TypeId}{x:Operand}{Z:Nat→Prop}{n b o:Nat}{cs l:List Value}(h:EX P t n)(c:a.eval x=.pointer (some ⟨b,o,none⟩))(hr:Rz w Z (some ⟨b,o,none⟩) cs)
  (hl:cs.take n=l)(d:l.length=n):Cg P ⟨dst,.load t x,ty,pos,Cc,g⟩ a w (fun u w'=>u=.agg l.toArray∧w'=w):=OQ (k:=0) h c hr.cells (by simpa using hl) d
theorem IZ {α:Type} {e:CD α} {s x:Operand} {t r:TypeId} {z:Value} {sz bytes:Nat} (aO:P.underlying t=some (.slice r)) (hi:(P.info? r).map (fun i=>(i.zero,i.size,i.bytes))=some (some z,sz,bytes)) (aE:z.cells.size=sz) (aF:e.sz=sz) (h0:0<sz)
  {n0:Nat} {Z:Nat→Prop} {A B:Option Addr} {c d n:Nat} {xs ys:List α} (hs:a.eval s=.slice A n c) (aP:xs.length=n) (aQ:a.eval x=.slice B ys.length d) (aC:Bp e r n0 w Z A c xs) (aG:∃BJ,R2 e w Z BJ ys∧Rz w ZA B BJ.flatten)
  (aH:xs.length+ys.length≤maxLen) (l:(xs.length+ys.length)*bytes≤140737488355328) (y:n0≤w.heap.size) (aI:ys≠[]):
  Cg P ⟨dst,.call {callee:=.builtin .append,args:= #[s,x],argTypes:= #[t,t]},ty,pos,Cc,g⟩ a w (fun v w'=>∃p aA,v=.slice p (xs++ys).length aA∧w.grownBy w' (ob A)∧(∀k,ob p=some k→(ob A=some k∨w.heap.size≤k)∧k<w'.heap.size)∧
   ∃BJ f,R2 e w Z BJ xs∧R2 e w Z f ys∧Fm w' n0 r e.sz p (xs++ys).length aA (BJ++f).flatten):=by
 obtain⟨BJ,h2,aR⟩:=aC;obtain⟨f,aB,aS⟩:=aG;subst aF;subst aP;have aJ:f.flatten≠[]:=fun hh=>by
  have:=aB.L7;rw[hh] at this;have hl:0<ys.length:=List.length_pos_iff.2 aI;have:=Nat.mul_pos hl h0;simp at*;omega
 obtain⟨b,o,rfl,-,-,aT⟩:=aS.resolve_left aJ;refine(Ui (ad:=⟨b,o,none⟩) (news:=f.flatten) (m:=ys.length) aO hi aE h0 hs aQ aR (fun j u hu=>by rw[GQ];exact aT j u hu) aB.L7 aB.one aH l y).mono ?_;rintro v w' ⟨p,aA,rfl,q,aK,-,aU⟩;rw[Zz] at aK;refine⟨p,aA,by rw[List.length_append],aK,fun k hk=>?_,BJ,f,h2,aB,by rw[List.length_append,List.flatten_append];exact q⟩;have aY:=q.KD (k:=k) (o:=0);rcases q.2 with⟨aD,_⟩|⟨aL,aV,aW,aD,_,aM,_⟩
 ·obtain⟨rfl,-,-⟩:=Value.slice.inj aD;cases hk
 ·cases aD;have aN:aL=k:=by simpa[ob] using hk
  subst aN;refine⟨?_,lt_of_block aM⟩;rcases aU aL 0 rfl with⟨o',aX⟩|h
  ·left;rw[aX];rfl
  ·exact .inr h
theorem Ed{α:Type}{e:CD α}{t:TypeId}{n0:Nat}{w w':World}{Z Z':Nat→Prop}{A:Option Addr}{c:Nat}{xs ys:List α}
  (h:∃BJ a,R2 e w Z BJ xs∧R2 e w Z a ys∧Fm w' n0 t e.sz A (xs++ys).length c (BJ++a).flatten)(hm:Mv w Z w' Z'):Bp e t n0 w' Z' A c (xs++ys):=by
 obtain⟨BJ,a,h1,h2,b⟩:=h;exact⟨BJ++a,(h1.mv hm).append (h2.mv hm),b⟩
theorem Sl.news{α:Type}{e:CD α}{Z:Nat→Prop}{A:Option Addr}{c:Nat}{xs:List α}(h:Sl e w Z A c xs):∃BJ,R2 e w Z BJ xs∧Rz w ZA A BJ.flatten:=by
 obtain⟨_,_,BJ,h1,h2⟩:=h;exact⟨BJ,h1,h2.mv Ng⟩
theorem I0 {α:Type} {e:CD α} {Z:Nat→Prop} {b:Nat} {t:TypeId} {cs:Array Value} {BJ:List (List Value)} {xs:List α} (hb:Bk w b t cs) (h:R2 e w Z BJ xs) (a:BJ.flatten=cs.toList):∃BJ,R2 e w Z BJ xs∧Rz w ZA (some ⟨b,0,none⟩) BJ.flatten:=
 ⟨BJ,h,.inr ⟨b,0,rfl,trivial,hb.lt,fun j u hu=>by rw[Nat.zero_add,hb.cell];rw[a] at hu;simpa using hu⟩⟩
theorem GS{α:Type}{e:CD α}{Z:Nat→Prop}{b:Nat}{t:TypeId}{cs:Array Value}{BJ:List (List Value)}{xs:List α}(hb:Bk w b t cs)(a:Z b)(h:R2 e w Z BJ xs)(d:BJ.flatten=cs.toList){c:Nat}(hl:xs.length≤c):Sl e w Z (some ⟨b,0,none⟩) c xs:=
 ⟨hl,(fun e=>by cases e),BJ,h,.inr ⟨b,0,rfl,a,hb.lt,fun j u hu=>by rw[Nat.zero_add,hb.cell];rw[d] at hu;simpa using hu⟩⟩
end
def MB(D:Nat→Bool)(i:Nat):Nat→Bool:=fun j=>cond (Nat.beq j i) true (D j)
def MC(V:Nat→Value)(i:Nat)(v:Value):Nat→Value:=fun j=>cond (Nat.beq j i) v (V j)
theorem Uk(D:Nat→Bool)(i:Nat):MB D i i=true:=by unfold MB;rw[Nat.beq_refl];rfl
theorem Xn(D:Nat→Bool){i j:Nat}(h:j≠i):MB D i j=D j:=by
 have:Nat.beq j i=false:=by
  cases hb:Nat.beq j i with
  |false=>rfl
  |true=>exact absurd (Nat.eq_of_beq_eq_true hb) h
 unfold MB;rw[this];rfl
theorem Ul(V:Nat→Value)(i:Nat)(v:Value):MC V i v i=v:=by unfold MC;rw[Nat.beq_refl];rfl
theorem Xo(V:Nat→Value){i j:Nat}(v:Value)(h:j≠i):MC V i v j=V j:=by
 have:Nat.beq j i=false:=by
  cases hb:Nat.beq j i with
  |false=>rfl
  |true=>exact absurd (Nat.eq_of_beq_eq_true hb) h
 unfold MC;rw[this];rfl
structure KS (L:List Oper) (a:Act) (l:Env) (D:Nat→Bool) (V:Nat→Value) (k:Nat) (o:Oper) (a':Act):Prop where
 out:∀s,isDst L s=false→sl a' s=lk (sl a s) l s
 WS:∀j d,FY o j=true→Cq L j=some d→sl a' d=V j
 dn:∀j,FY o j=true→D j=true
 me:D k=false
 down:∀j o',L[j]?=some o'→D j=true→∀k',FY o' k'=true→D k'=true
theorem KS.no{L:List Oper}{a:Act}{l:Env}{D:Nat→Bool}{V:Nat→Value}{k:Nat}{o:Oper}{a':Act}(K:KS L a l D V k o a')(j:Nat)(o':Oper)(hj:L[j]?=some o')(h:FY o' k=true):D j=false:=by
 cases hb:D j with
 |false=>rfl
 |true=>have:=K.down j o' hj hb k h;rw[K.me] at this;cases this
theorem KS.later {N:Nat} {L:List Oper} {a:Act} {l:Env} {D:Nat→Bool} {V:Nat→Value} {k:Nat} {o:Oper} {a':Act} (K:KS L a l D V k o a') (f:M7 N L=true) (e:∀s,(∀j,Cq L j=some s→D j=false)→sl a' s=lk (sl a s) l s)
  (j d:Nat) (o':Oper) (hj:L[j]?=some o') (b:o'.dst=some d) (c:FY o' k=true):sl a' d=lk (sl a d) l d:=e d fun i hi=>by
 have h1:Cq L j=some d:=by simp[Cq,hj,b]
 obtain rfl:=(KR f j i d h1).2 hi;exact K.no j o' hj c
section
variable(P:Program)(L:List Oper)(a:Act)(l:Env)(I:(Nat→Bool)→(Nat→Value)→World→Prop)
structure TJ (D:Nat→Bool) (V:Nat→Value) (k:Nat) (o:Oper) (a':Act):Prop extends KS L a l D V k o a' where
 later:∀(j d:Nat) (o':Oper),L[j]?=some o'→o'.dst=some d→FY o' k=true→sl a' d=lk (sl a d) l d
def TK(k:Nat)(o:Oper):Prop:=∀D V a' w',TJ L a l D V k o a'→I D V w'→
 (Region.wanted o (yielded L.toArray a'.tmps)=true∧Cg P o a' w' (fun v BI=>I (MB D k) (MC V k v) BI))∨
 (Region.wanted o (yielded L.toArray a'.tmps)=false∧I (MB D k) (MC V k undef) w')
def Q1:Nat→Nat→List Oper→Prop
 |0,_,_=>True
 |_+1,_,[]=>True
 |m+1,k,o::R=>TK P L a l I k o∧Q1 m (k+1) R
def Q2:Nat→Nat→List Oper→(Nat→Value)→Env→Env
 |0,_,_,_,l=>l
 |_+1,_,[],_,l=>l
 |m+1,k,o::R,V,l=>match o.dst with
  |some d=>Q2 m (k+1) R V ((d,V k)::l)
  |none=>Q2 m (k+1) R V l
end
section
variable{P:Program}{X:Ctx}{N:Nat}{L:List Oper}{Q:Exit→Act→World→Prop}{a:Act}{l:Env}{w:World}{I:(Nat→Bool)→(Nat→Value)→World→Prop}{k:Nat}{o:Oper}
theorem sj(b:o.guard=none)(h:∀D V a' w',TJ L a l D V k o a'→I D V w'→Cg P o a' w' (fun v BI=>I (MB D k) (MC V k v) BI)):TK P L a l I k o:=
 fun D V a' w' K c=>.inl ⟨by unfold Region.wanted;rw[b],h D V a' w' K c⟩
theorem OW:∀{m:Nat} {R:List Oper} {k:Nat},Q1 P L a l I m k R→∀(i:Nat) (o:Oper),i<m→R[i]?=some o→TK P L a l I (k+i) o
 |0,_,_,_,i,o,hi,_=>absurd hi (by omega)
 |_+1,[],_,_,i,o,_,b=>by simp at b
 |m+1,o'::R,k,h,i,o,hi,b=>by
  cases i with
  |zero=>
   obtain rfl:o'=o:=by simpa using b
   exact h.1
  |succ i=>
   have:=OW h.2 i o (by omega) (by simpa using b);rw[Nat.add_assoc,Nat.add_comm 1 i] at this;exact this
theorem Q3{V:Nat→Value}{G:Env→Prop}{w':World}:∀(m:Nat) (R:List Oper) (k:Nat) (l':Env),G (Q2 m k R V l')→Mt X N a (fun k v _=>v=V k) (fun _ _=>True) G w' m k R l'
 |0,_,_,_,h=>fun _=>h
 |_+1,[],_,_,h=>fun _=>h
 |m+1,o::R,k,l',h=>by
  simp only[Mt];simp only[Q2] at h;cases b:o.dst with
  |none=>rw[b] at h;exact Q3 m R (k+1) l' h
  |some d=>rw[b] at h;rintro v rfl;exact Q3 m R (k+1) _ h
theorem JT{id:Nat}(m:Nat)(I:(Nat→Bool)→(Nat→Value)→World→Prop)(hm:P.follows .mixedOrders=true)(hk:NM N L []=true)(aZ:(Nat.ble m L.length&&Lw L m)=true)(h0:I (fun _=>false) (fun _=>undef) w.drew)
  (hs:Q1 P L a l I m 0 L)(a8:∀D V w',(∀j,Nat.blt j m=true→D j=true)→I D V w'→WL P X N L.toArray Q (L.drop m) a (Q2 m 0 L V l) w'):CC P X N (.region id L.toArray true) Q a l w:=fun st=>
 wpIn_region_any hm (by
  have aM:=hk;simp only[NM,Bool.and_eq_true] at aM;obtain⟨⟨aN,a0⟩,_⟩:=aM;rw[Bool.and_eq_true] at aZ;obtain⟨a9,a2⟩:=aZ;have bA:m≤L.length:=Nat.le_of_ble_eq_true a9;have aE:=KR a0;have fin:∀(fuel:Nat) (listed:Array Bool) (a':Act) (w':World) (D:Nat→Bool) (V:Nat→Value),listed.toList.count false≤fuel→listed.size=L.length→a'.tmps.size=N→a'.defers=X.ds→
    (∀s,(∀j,Cq L j=some s→listed.getD j false=false)→sl a' s=lk (sl a s) l s)→(∀j d,listed.getD j false=true→Cq L j=some d→sl a' d=V j)→(∀j,j<L.length→D j=listed.getD j false)→
    I D V w'→(∀j,m≤j→listed.getD j false=false)→(∀j,j<m→listed.getD j false=true)→wpAnyIn (Wd X.ro) 0 P .any L.toArray Q fuel listed a' w':=by
   intro fuel listed a' w' D V aS u y aC q n z aR b aK;have bB:wpListIn (Wd X.ro) 0 P L.toArray Q (L.drop m) a' w':=by
    refine NN (K:=wpListIn (Wd X.ro) 0 P L.toArray Q (L.drop m) a' w') (X:=X) (N:=N) (Φ:=fun k v _=>v=V k) (fun _ _=>True) (fun l'=>WL P X N L.toArray Q (L.drop m) a l' w') w' a' trivial y aC (fun l' bC bQ e=>by rw[e];exact bQ bC) m L 0 l st bA (fun i d hi=>(aE i i d hi).1) (fun i j d hi hj=>(aE i j d hi).2 hj)
     (Q3 m L 0 l (a8 D V w' (fun j hj=>by
      have aH:j<m:=by simpa[Nat.blt_eq] using hj
      rw[z j (by omega)];exact aK j aH) aR)) (fun i d aT aL=>?_) (fun s r=>?_)
    ·rw[Nat.zero_add];exact n i d (aK i aT) aL
    ·refine q s fun j hj=>?_;rcases Nat.lt_or_ge j m with h|h
     ·exact absurd hj (r j h)
     ·exact b j h
   refine QS a2 aN (L.drop m) m fuel listed a' w' rfl (Nat.le_refl _) ?_ u (fun i hi=>?_) bB
   ·refine Nat.le_trans ?_ aS;have e:listed.toList.drop m=List.replicate (L.length-m) false:=by
     apply List.ext_getElem
     ·simp[u]
     ·intro i h1 h2;simp at h1;have:=b (m+i) (by omega);rw[Array.getD_eq_getD_getElem?,Array.getElem?_eq_getElem (by omega)] at this;simpa using this
    have h2:(listed.toList.drop m).count false≤listed.toList.count false:=(List.drop_sublist m listed.toList).count_le false;rw[e,List.count_replicate_self] at h2;simpa using h2
   ·rcases Nat.lt_or_ge i m with h|h
    ·simp[aK i h,h]
    ·simp only[b i h];constructor
     ·intro hh;cases hh
     ·intro hh;omega
  have main:∀(fuel:Nat) (listed:Array Bool) (a':Act) (w':World) (D:Nat→Bool) (V:Nat→Value),listed.toList.count false≤fuel→listed.size=L.length→a'.tmps.size=N→a'.defers=X.ds→
    (∀s,(∀j,Cq L j=some s→listed.getD j false=false)→sl a' s=lk (sl a s) l s)→(∀j d,listed.getD j false=true→Cq L j=some d→sl a' d=V j)→(∀j,j<L.length→D j=listed.getD j false)→
    (∀(j:Nat) (o:Oper),L[j]?=some o→listed.getD j false=true→∀e∈o.after,Region.binds .any e=true→listed.getD e.on false=true)→I D V w'→(∀j,m≤j→listed.getD j false=false)→wpAnyIn (Wd X.ro) 0 P .any L.toArray Q fuel listed a' w':=by
   intro fuel
   induction fuel with
   |zero=>
    intro listed a' w' D V aS u y aC q n z t aR b;refine fin 0 listed a' w' D V aS u y aC q n z aR b fun j hj=>?_;have aH:j<listed.size:=by omega
    cases hb:listed[j] with
    |true=>simp[aH,hb]
    |false=>
     have:false∈listed.toList:=by rw[←hb];simp
     have:=List.count_pos_iff.2 this;omega
   |succ fuel ih=>
    intro listed a' w' D V aS u y aC q n z t aR b
    by_cases aO:∀j,j<m→listed.getD j false=true
    ·exact fin (fuel+1) listed a' w' D V aS u y aC q n z aR b aO
    have hex:∃j,j<m∧listed.getD j false=false:=by
     false_or_by_contra
     rename_i bD
     refine aO fun j hj=>?_;cases hb:listed.getD j false with
     |true=>rfl
     |false=>exact absurd ⟨j,hj,hb⟩ bD
    constructor
    ·intro hr;exfalso;obtain⟨j,hj,hb⟩:=hex;refine absurd hb ?_;rw[Bool.not_eq_false];clear hb
     induction j using Nat.strongRecOn with
     |_ j bE=>
      cases hb:listed.getD j false with
      |true=>rfl
      |false=>
       exfalso;have aH:j<listed.size:=by omega
       have hm:j∈Region.ready .any L.toArray listed:=mem_ready.2 ⟨by simp[aH] at hb⊢;exact hb,L[j],by simp,fun e he c=>by
        have h1:=FZ aN j L[j] (List.getElem?_eq_getElem (by omega)) e he c;exact bE e.on (by omega) (by omega)⟩
       rw[hr] at hm;cases hm
    ·intro i hi;obtain⟨h0,o,bF,aF⟩:=mem_ready.1 hi;have aA:L[i]?=some o:=by simpa using bF
     have bG:i<L.length:=(List.getElem?_eq_some_iff.1 aA).1;have aD:i<listed.size:=by omega
     have aP:listed.getD i false=false:=by simp[aD] at h0⊢;exact h0
     have aT:i<m:=by
      rcases Nat.lt_or_ge i m with h|h
      ·exact h
      ·obtain⟨j,hj,hb⟩:=hex;have:=Mu (p:=fun x=>listed.getD x false=true) (fun d od bH aI k hk=>by
        obtain⟨e,he,c,aB⟩:=Gu.1 hk;have:=t d od bH aI e he c
        rwa[aB] at this) (L6 a2 aA h j (by omega)) (fun bR a3 k hk=>by
        rw[aA] at a3;obtain rfl:o=bR:=by simpa using a3
        obtain⟨e,he,c,aB⟩:=Gu.1 hk;have:=aF e he c
        rwa[aB] at this)
       rw[hb] at this;cases this
     have aI:∀j,FY o j=true→listed.getD j false=true∧j<L.length:=fun j hj=>by
      obtain⟨e,he,c,aB⟩:=Gu.1 hj;have h1:=aF e he c;have h2:=FZ aN i o aA e he c;rw[aB] at h1 h2;exact⟨h1,by omega⟩
     have a4:KS L a l D V i o a':=by
      refine⟨fun s r=>q s fun j hj=>?_,fun j d hj aL=>n j d (aI j hj).1 aL,fun j hj=>by rw[z j (aI j hj).2];exact(aI j hj).1,by rw[z i bG];exact aP,fun j bI hj a5 k' aM=>?_⟩
      ·have:=M8.2 ⟨j,hj⟩;rw[r] at this;cases this
      ·have aU:j<L.length:=(List.getElem?_eq_some_iff.1 hj).1;rw[z j aU] at a5;obtain⟨e,he,c,aB⟩:=Gu.1 aM;have h1:=t j bI hj a5 e he c;have h2:=FZ aN j bI hj e he c;rw[aB] at h1 h2;rw[z k' (by omega)];exact h1
     have hK:TJ L a l D V i o a':=⟨a4,a4.later a0 fun s r=>q s fun j hj=>by
      have aU:j<L.length:=by
       unfold Cq at hj;cases bJ:L[j]? with
       |none=>rw[bJ] at hj;cases hj
       |some o=>exact(List.getElem?_eq_some_iff.1 bJ).1
      rw[←z j aU];exact r j hj⟩
     have aG:Cq L i=o.dst:=by simp[Cq,aA]
     have step:∀v BI,I (MB D i) (MC V i v) BI→wpAnyIn (Wd X.ro) 0 P .any L.toArray Q fuel (listed.setIfInBounds i true) (a'.put o.dst v) BI:=by
      intro v BI aV;have aW:∀s,(∀d,o.dst=some d→d≠s)→sl (a'.put o.dst v) s=sl a' s:=by
       intro s r;cases aL:o.dst with
       |none=>rfl
       |some d=>exact Nb (r d aL)
      refine ih _ _ _ (MB D i) (MC V i v) ?_ (by simp[u]) ?_ ?_ ?_ ?_ ?_ ?_ aV (fun j hj=>by rw[Eu (by omega)];exact b j hj)
      ·have aQ:i<listed.toList.length:=by simpa using aD
       have aX:listed.toList[i]=false:=by
        simp[aD] at aP;simpa using aP
       have bK:(listed.setIfInBounds i true).toList=listed.toList.set i true:=by simp
       rw[bK,List.count_set aQ,aX];have h1:0<listed.toList.count false:=List.count_pos_iff.2 (by rw[←aX];exact List.getElem_mem aQ);have bS:(if (false==false)=true then 1 else 0)=1:=rfl;have bT:(if (true==false)=true then 1 else 0)=0:=rfl;rw[bS,bT];omega
      ·cases o.dst<;>simp[Act.put,y]
      ·cases o.dst<;>simp[Act.put,aC]
      ·intro s r;rw[aW s (fun d aL bL=>by
        subst bL;have:=r i (by rw[aG,aL]);rw[HX aD] at this;cases this)]
       refine q s fun j hj=>?_;have:=r j hj
       by_cases g:i=j
       ·subst g;exact aP
       ·rwa[Eu g] at this
      ·intro j d hj aJ
       by_cases g:i=j
       ·subst g;rw[aG] at aJ;have aQ:d<a'.tmps.size:=by rw[y];exact(aE i i d (by rw[aG,aJ])).1
        rw[aJ,N6 aQ,Ul]
       ·rw[Eu g] at hj;have:sl (a'.put o.dst v) d=sl a' d:=by
         refine aW d fun d' bM bN=>?_;subst bN;exact g ((aE i j d' (by rw[aG,bM])).2 aJ)
        rw[this,Xo _ _ (Ne.symm g)];exact n j d hj aJ
      ·intro j hj
       by_cases g:i=j
       ·subst g;rw[Uk,HX aD]
       ·rw[Xn _ (Ne.symm g),Eu g];exact z j hj
      ·intro j bO hj a6 e he c
       by_cases a7:i=e.on
       ·rw[←a7];exact HX aD
       ·rw[Eu a7]
        by_cases g:i=j
        ·subst g;rw[aA] at hj;obtain rfl:o=bO:=by simpa using hj
         exact aF e he c
        ·rw[Eu g] at a6;exact t j bO hj a6 e he c
     have bU:=OW hs i o aT aA;unfold wpOpIn;simp only[bF];rcases bU D V a' w' (by rw[Nat.zero_add];exact hK) aR with⟨hw,bP⟩|⟨hw,hu⟩
     ·rw[if_pos hw];rw[Nat.zero_add] at bP;exact bP.wp fun v BI aV=>step v BI aV
     ·rw[if_neg (by rw[hw];simp)];rw[Nat.zero_add] at hu;exact⟨fun f _=>ON X.ro f,step undef w' hu⟩
  have aY:∀j,(Array.replicate L.length false).getD j false=false:=by
   intro j;rw[Array.getD_eq_getD_getElem?];rcases Nat.lt_or_ge j L.length with h|h
   ·simp[h]
   ·simp[h]
  have e:L.toArray.size=L.length:=by simp
  rw[e];refine main L.length (Array.replicate L.length false) (Cf a l) w.drew (fun _=>false) (fun _=>undef) (Nat.le_trans (List.count_le_length ..) (by simp)) (by simp) (by rw[K1,st.sz]) (by rw[EE,st.df]) (fun s _=>Ln st s) (fun j d h=>?_) (fun j _=>(aY j).symm) (fun j o h hh=>?_) h0 (fun j _=>aY j)
  ·rw[aY j] at h;cases h
  ·rw[aY j] at hh;cases hh)
end
end Go.Proofs.YtbhofkcbfblijaaGreat
end
section
namespace Go.Proofs.YtbhofkcbfblijaaGreat
open Go.RowKit Go.WideShapes
section
variable{P:Program}{L:List Oper}{a:Act}{l:Env}{T:Nat→Act→World→Prop}{Φ:Nat→Value→World→Prop}{sp:List Nat}{S:Nat→World→World→Prop}{k:Nat}{op:Op}{ty:TypeId}{pos:String}{Cc:Array Edge}{dst:Option Nat}
theorem od{c:Value}(hs:sp.contains k=false)(b:∀w,Φ k c w)(h:∀{a' w' ph},Iv L a l T Φ sp k ⟨dst,op,ty,pos,Cc,none⟩ a' w' ph→Cg P ⟨dst,op,ty,pos,Cc,none⟩ a' w' (fun u BI=>u=c∧BI=w')):Hb P L a l S T Φ sp k ⟨dst,op,ty,pos,Cc,none⟩:=
 Zy rfl hs b fun _ _ _ K=>h K
end
def Q4(P:Program)(a:Act)(l:Env)(w:World):ResultVar→Value→Prop
 |.tmp t,v=>ev a l (.tmp t)=v
 |.cell p t,v=>∃ad,ev a l (.tmp p)=.pointer (some ad)∧(loadVar t ad).run P w=.ok v w
section
variable{P:Program}{N:Nat}{a:Act}{l:Env}{w:World}
theorem Kh{fn:Func}{g d:ResultVar}{v v':Value}{R:Value→World→Prop}(hr:fn.results= #[g,d])(h1:Q4 P a l w g v)(h2:Q4 P a l w d v')(h:R (.tuple #[v,v']) w):
  LV X0 N (bodyPost P fn (fun e w'=>∃v,e=.returned v∧R v w')) .ret a l w:=fun s=>by
 refine bodyPost_ret (v:=.tuple #[v,v']) ?_ (by rw[EE,s.df]) ⟨_,rfl,h⟩;cases g with
 |tmp t=>
  have c:(Cf a l).tmps.getD t undef=v:=ee s h1;simp only[Array.getD_eq_getD_getElem?] at c;cases d with
  |tmp u=>
   have b:(Cf a l).tmps.getD u undef=v':=ee s h2;simp only[Array.getD_eq_getD_getElem?] at b;simp[results,hr,c,b]
  |cell p t=>
   obtain⟨ad,i,f⟩:=h2;have b:(Cf a l).tmps.getD p undef=.pointer (some ad):=ee s i;simp only[Array.getD_eq_getD_getElem?] at b;simp[results,hr,c,b,asAddr,f]
 |cell q t=>
  obtain⟨j,i,f⟩:=h1;have c:(Cf a l).tmps.getD q undef=.pointer (some j):=ee s i;simp only[Array.getD_eq_getD_getElem?] at c;cases d with
  |tmp u=>
   have b:(Cf a l).tmps.getD u undef=v':=ee s h2;simp only[Array.getD_eq_getD_getElem?] at b;simp[results,hr,c,b,asAddr,f]
  |cell p t=>
   obtain⟨ad,k,m⟩:=h2;have b:(Cf a l).tmps.getD p undef=.pointer (some ad):=ee s k;simp only[Array.getD_eq_getD_getElem?] at b;simp[results,hr,c,b,asAddr,f,m]
end
def HZ(a n:Int):Int:=a*2^n.toNat
def LC(a n:Int):Option Unit:=if 0≤n∧n<64∧-9223372036854775808≤a*2^n.toNat∧a*2^n.toNat≤9223372036854775807 then some () else none
theorem K4{α:Type}{a n:Int}{f:Unit→Option α}{r:α}(h:(LC a n).bind f=some r):(0≤n∧n<64∧fits (HZ a n))∧f ()=some r:=by
 unfold LC at h;split at h
 ·rename_i h1;exact⟨⟨h1.1,h1.2.1,h1.2.2⟩,h⟩
 ·cases h
def J0(a n:Int):Int:=a/2^n.toNat
def Oo(a n:Int):Option Unit:=if 0≤n∧n<64 then some () else none
theorem LX{α:Type}{a n:Int}{f:Unit→Option α}{r:α}(h:(Oo a n).bind f=some r):(0≤n∧n<64)∧f ()=some r:=by
 unfold Oo at h;split at h
 ·exact⟨by assumption,h⟩
 ·cases h
def Px(a b:Int):Option Unit:=if (0≤a∧a≤9223372036854775807)∧(0≤b∧b≤9223372036854775807) then some () else none
theorem Nj{α:Type}{a b:Int}{f:Unit→Option α}{r:α}(h:(Px a b).bind f=some r):((0≤a∧a≤9223372036854775807)∧(0≤b∧b≤9223372036854775807))∧f ()=some r:=by
 unfold Px at h;split at h
 ·exact⟨by assumption,h⟩
 ·cases h
def Mf(a b:Int):Int:=((a.toNat|||b.toNat:Nat):Int)
def LD(k:IntKind)(n:Int):Option Unit:=if k.wrap n=n then some () else none
theorem Je{α:Type}{k:IntKind}{n:Int}{f:Unit→Option α}{r:α}(h:(LD k n).bind f=some r):k.wrap n=n∧f ()=some r:=by
 unfold LD at h;split at h
 ·exact⟨by assumption,h⟩
 ·cases h
section
variable{P:Program}{a:Act}{w:World}{dst:Option Tmp}{ty:TypeId}{pos:String}{Cc:Array Edge}{g:Option (Nat×Bool)}
theorem Q5{x y:Operand}{m n:Int}{t b:TypeId}(c:a.eval x=.int .i64 m)(d:a.eval y=.int .i64 n)(h0:0≤m)(h1:1≤n)(f:fits (m/n)):Cg P ⟨dst,.binOp .quo t x y b,ty,pos,Cc,g⟩ a w (fun u w'=>u=.int .i64 (m/n)∧w'=w):=
 De (by
  have e:m.tdiv n=m/n:=Int.tdiv_eq_ediv_of_nonneg h0;have h:¬n=0:=by omega
  simp[execOp,c,d,eqGuard,binOp,Op.intDiv,h,e,KG f])
theorem OX{x y:Operand}{m n:Int}{k:IntKind}{t b:TypeId}(c:a.eval x=.int .i64 m)(d:a.eval y=.int k n)(h:0≤n∧n<64∧fits (HZ m n)):Cg P ⟨dst,.binOp .shl t x y b,ty,pos,Cc,g⟩ a w (fun u w'=>u=.int .i64 (HZ m n)∧w'=w):=
 De (by
  have e:¬n<0:=by omega
  have hb:min n.toNat IntKind.i64.bits=n.toNat:=by
   have:IntKind.i64.bits=64:=rfl;omega
  have f:IntKind.i64.wrap (m*2^n.toNat)=m*2^n.toNat:=KG h.2.2;simp[execOp,c,d,eqGuard,binOp,Op.shift,e,hb,f,HZ])
theorem QE{x y:Operand}{m n:Int}{k:IntKind}{t b:TypeId}(c:a.eval x=.int .i64 m)(d:a.eval y=.int k n)(h:0≤n∧n<64):Cg P ⟨dst,.binOp .shr t x y b,ty,pos,Cc,g⟩ a w (fun u w'=>u=.int .i64 (J0 m n)∧w'=w):=
 De (by
  have e:¬n<0:=by omega
  have hb:min n.toNat IntKind.i64.bits=n.toNat:=by
   have:IntKind.i64.bits=64:=rfl;omega
  have f:m.fdiv (2^n.toNat)=m/2^n.toNat:=Int.fdiv_eq_ediv_of_nonneg m (Int.le_of_lt (Int.pow_pos (by decide)));simp[execOp,c,d,eqGuard,binOp,Op.shift,e,hb,f,J0])
theorem WW{m:Int}(h0:0≤m)(h1:m≤9223372036854775807):(BitVec.ofInt 64 m).toNat=m.toNat:=by
 rw[BitVec.toNat_ofInt];omega
theorem VD{k:Nat}(h:k≤9223372036854775807):IntKind.i64.wrap (k:Int)=k:=KG ⟨by omega,by omega⟩
theorem VF{x y:Operand}{m n:Int}{t b:TypeId}(c:a.eval x=.int .i64 m)(d:a.eval y=.int .i64 n)(h:(0≤m∧m≤9223372036854775807)∧(0≤n∧n≤9223372036854775807)):Cg P ⟨dst,.binOp .or t x y b,ty,pos,Cc,g⟩ a w (fun u w'=>u=.int .i64 (Mf m n)∧w'=w):=
 De (by
  have e:(BitVec.ofInt 64 m|||BitVec.ofInt 64 n).toNat=m.toNat|||n.toNat:=by rw[BitVec.toNat_or,WW h.1.1 h.1.2,WW h.2.1 h.2.2]
  have i:m.toNat|||n.toNat<2^63:=Nat.or_lt_two_pow (by omega) (by omega);have f:IntKind.i64.wrap ((m.toNat|||n.toNat:Nat):Int)=((m.toNat|||n.toNat:Nat):Int):=VD (by omega);have key:(Op.intBits .or .i64 m n).run P w=.ok (.int .i64 (Mf m n)) w:=by
   show(pure (Value.int .i64 (IntKind.i64.wrap ((BitVec.ofInt 64 m|||BitVec.ofInt 64 n).toNat:Int))):Sem Value).run P w=_;rw[e,f];rfl
  simp[execOp,c,d,eqGuard,binOp,key])
theorem NO {x y:Operand} {v1 v2:Value} {x1 x2:List Int} {n:Nat} {t c:TypeId} (hk:MZ P t n) (b:P.eqGuardType P.depth t=false) (d:a.eval x=v1) (e:a.eval y=v2) (h1:v1=FJ x1) (h2:v2=FJ x2) (f:x1.length=n) (h:x2.length=n):
  Cg P ⟨dst,.binOp .eql t x y c,ty,pos,Cc,g⟩ a w (fun u w'=>u=.bool (x1==x2)∧w'=w):=by
 refine QC d e ?_;subst h1;subst h2;have i:=hk w x1 x2 f h;have j:(eqGuard .eql t x y (FJ x1) (FJ x2)).run P w=.ok () w:=by
  simp[eqGuard,FJ,program,Sem.run,b]
 simp only[Sem.run_bind,j,Result.andThen_ok];show(do pure (Value.bool (←Op.equal t (FJ x1) (FJ x2))):Sem Value).run P w=_;simp only[Sem.run_bind,i,Result.andThen_ok,Sem.run_pure]
theorem LY{x y:Operand}{v1 v2:Value}{x1 x2:List Int}{n:Nat}{t c:TypeId}(hk:MZ P t n)(b:P.eqGuardType P.depth t=false)(d:a.eval x=v1)(e:a.eval y=v2)(h1:v1=FJ x1)(h2:v2=FJ x2)(f:x1.length=n)(h:x2.length=n):
  Cg P ⟨dst,.binOp .neq t x y c,ty,pos,Cc,g⟩ a w (fun u w'=>u=.bool (x1 !=x2)∧w'=w):=by
 refine QC d e ?_;subst h1;subst h2;have i:=hk w x1 x2 f h;have j:(eqGuard .neq t x y (FJ x1) (FJ x2)).run P w=.ok () w:=by
  simp[eqGuard,FJ,program,Sem.run,b]
 simp only[Sem.run_bind,j,Result.andThen_ok];show(do pure (Value.bool (!(←Op.equal t (FJ x1) (FJ x2)))):Sem Value).run P w=_;simp only[Sem.run_bind,i,Result.andThen_ok,Sem.run_pure];rfl
theorem OY {t t2 e:TypeId} (b:P.underlying t=some (.slice e)) {i:TypeInfo} (hi:P.info? e=some i) {A B:Option Addr} {n c d:Nat} (f:n≤c) (h:A=none→n=0) (a:P.underlying t2=some (.slice e)):
  (Builtin.append_ #[t,t2] ty #[.slice A n c,.slice B 0 d]).run P w=.ok (.slice A n c) w:=by
 have g:(Builtin.firstCells i.size 0 (.slice B 0 d)).run P w=.ok #[] w:=by
  cases B with
  |none=>simp[Builtin.firstCells]
  |some ad=>simp[Builtin.firstCells,loadCells,loadCellsFrom]
 cases A with
 |none=>simp[Builtin.append_,run_underlying b,run_underlying a,sizeOf,typeInfo,program,Sem.run,hi,Builtin.lenOf,f,g]
 |some ad=>simp[Builtin.append_,run_underlying b,run_underlying a,sizeOf,typeInfo,program,Sem.run,hi,Builtin.lenOf,f,g,storeCells]
theorem ZF {α:Type} {e:CD α} {s x:Operand} {t h:TypeId} {z:Value} {sz bytes:Nat} (q:P.underlying t=some (.slice h)) (hi:(P.info? h).map (fun i=>(i.zero,i.size,i.bytes))=some (some z,sz,bytes)) (y:z.cells.size=sz) (aA:e.sz=sz) (h0:0<sz)
  {n0:Nat} {Z:Nat→Prop} {A B:Option Addr} {c d n:Nat} {xs ys:List α} (hs:a.eval s=.slice A n c) (aB:xs.length=n) (aC:a.eval x=.slice B ys.length d) (b:Bp e h n0 w Z A c xs) (aH:Sl e w Z B d ys)
  (aD:xs.length+ys.length≤maxLen) (j:(xs.length+ys.length)*bytes≤140737488355328) (m:n0≤w.heap.size):
  Cg P ⟨dst,.call {callee:=.builtin .append,args:= #[s,x],argTypes:= #[t,t]},ty,pos,Cc,g⟩ a w (fun v w'=>∃r aE,v=.slice r (xs++ys).length aE∧w.grownBy w' (ob A)∧(∀k,ob r=some k→(ob A=some k∨w.heap.size≤k)∧k<w'.heap.size)∧
   ∃BJ o,R2 e w Z BJ xs∧R2 e w Z o ys∧Fm w' n0 h e.sz r (xs++ys).length aE (BJ++o).flatten):=by
 by_cases p:ys=[]
 ·subst p;subst aB;obtain⟨BJ,h2,aF⟩:=id b;have f:xs.length≤c∧(A=none→xs.length=0):=by
   rcases aF.2 with⟨u,h0⟩|⟨g,cap,cur,u,_,_,f,_⟩
   ·obtain⟨rfl,-,rfl⟩:=Value.slice.inj u;exact⟨by omega,fun _=>h0⟩
   ·cases u;exact⟨f,fun e=>by cases e⟩
  cases l:P.info? h with
  |none=>simp[l] at hi
  |some i=>
   have hr:=OY (P:=P) (w:=w) (ty:=ty) (B:=B) (d:=d) q l f.1 f.2 q;have he:(execOp a.eval ⟨dst,.call {callee:=.builtin .append,args:= #[s,x],argTypes:= #[t,t]},ty,pos,Cc,g⟩).run P w=.ok (.value (.slice A xs.length c)) w:=by
    have aG:a.eval x=.slice B 0 d:=aC;unfold execOp;simp only[resolve,invoke,builtin,Sem.run_bind,Sem.run_pure,Result.andThen_ok,List.map_toArray,List.map_cons,List.map_nil,hs,aG,hr]
   unfold Cg;rw[he];refine⟨A,c,by rw[List.append_nil],World.grownBy.refl w _,fun k hk=>⟨.inl hk,b.KD k hk⟩,BJ,[],h2,trivial,?_⟩;rw[List.append_nil,List.append_nil];exact aF
 ·exact IZ q hi y aA h0 hs aB aC b aH.news aD j m p
end
theorem Nk:∀(l:List Value) (cs:Array Value) (o j:Nat),o+l.length≤cs.size→(setCells cs o l)[j]?=if o≤j∧j<o+l.length then l[j-o]? else cs[j]?
 |[],cs,o,j,_=>by
  rw[if_neg (by simp only[List.length_nil];omega)];rfl
 |v::l,cs,o,j,h=>by
  rw[List.length_cons] at h;unfold setCells;rw[Nk l _ (o+1) j (by simp;omega)]
  by_cases h1:o+1≤j∧j<o+1+l.length
  ·rw[if_pos h1,if_pos (by simp;omega),show j-o=(j-(o+1))+1 by omega,List.getElem?_cons_succ]
  ·rw[if_neg h1,Array.getElem?_setIfInBounds]
   by_cases h2:o=j
   ·subst h2;rw[if_pos rfl,if_pos (by omega),if_pos (by rw[List.length_cons];omega)];simp
   ·rw[if_neg h2,if_neg (by rw[List.length_cons];omega)]
theorem Q6{sz:Nat}{a:List Value}(b:a.length=sz)(h0:0<sz):∀(k:Nat) (BJ:List (List Value)) (j:Nat),(∀c∈BJ,c.length=sz)→k<BJ.length→(BJ.set k a).flatten[j]?=if k*sz≤j∧j<k*sz+sz then a[j-k*sz]? else BJ.flatten[j]?
 |_,[],_,_,h=>by simp at h
 |0,c::BJ,j,hs,_=>by
  have h1:=hs c (List.mem_cons_self ..);rw[List.set_cons_zero,List.flatten_cons,List.flatten_cons]
  by_cases h:j<sz
  ·rw[if_pos (by omega),List.getElem?_append_left (by omega)];simp
  ·rw[if_neg (by omega),List.getElem?_append_right (by omega),List.getElem?_append_right (by omega),b,h1]
 |k+1,c::BJ,j,hs,h=>by
  have h1:=hs c (List.mem_cons_self ..);rw[List.set_cons_succ,List.flatten_cons,List.flatten_cons];have e:(k+1)*sz=k*sz+sz:=by rw[Nat.add_mul];omega
  by_cases hj:j<sz
  ·rw[if_neg (by omega),List.getElem?_append_left (by omega),List.getElem?_append_left (by omega)]
  ·rw[List.getElem?_append_right (by omega),List.getElem?_append_right (by omega),h1,Q6 b h0 k BJ (j-sz) (fun c hm=>hs c (List.mem_cons_of_mem _ hm)) (by simpa using h)]
   by_cases h2:k*sz≤j-sz∧j-sz<k*sz+sz
   ·rw[if_pos h2,if_pos (by omega),show j-sz-k*sz=j-(k+1)*sz by omega]
   ·rw[if_neg h2,if_neg (by omega)]
section
variable{α:Type}{e:CD α}{n0:Nat}{w w':World}{Z Z':Nat→Prop}
theorem R2.lens:∀{BJ:List (List Value)} {xs:List α},R2 e w Z BJ xs→∀c∈BJ,c.length=e.sz
 |[],[],_=>by simp
 |c::cs,_::_,h=>by
  intro d a;rcases List.mem_cons.1 a with rfl|a
  ·exact e.len h.1
  ·exact R2.lens h.2 d a
 |[],_::_,h=>h.elim
 |_::_,[],h=>h.elim
theorem R2.free(a:∀w Z w' Z' cs x,e.R w Z cs x→e.R w' Z' cs x):∀{BJ:List (List Value)} {xs:List α},R2 e w Z BJ xs→R2 e w' Z' BJ xs
 |[],[],_=>trivial
 |_::_,_::_,h=>⟨a _ _ _ _ _ _ h.1,R2.free a h.2⟩
 |[],_::_,h=>h.elim
 |_::_,[],h=>h.elim
end
section
variable{P:Program}{a:Act}{w:World}{dst:Option Tmp}{ty:TypeId}{pos:String}{Cc:Array Edge}{g:Option (Nat×Bool)}
theorem VG{α:Type}{e:CD α}{t:TypeId}{n0:Nat}{w w':World}{Z Z':Nat→Prop}{A:Option Addr}{c:Nat}{xs:List α}
  (h:∃BJ,R2 e w Z BJ xs∧Fm w' n0 t e.sz A xs.length c BJ.flatten)(hm:Mv w Z w' Z'):Bp e t n0 w' Z' A c xs:=by
 obtain⟨BJ,h1,h2⟩:=h;exact⟨BJ,h1.mv hm,h2⟩
end
def MD (P:Program) (fv:Value) (vs:Array Value) (w:World) (R:Value→World→Prop):Prop:=
 ∀(a:Act) (dst:Option Tmp) (f:Operand) (xs:Array Operand) (b:Array TypeId) (ty:TypeId) (pos:String) (Cc:Array Edge) (g:Option (Nat×Bool)),a.eval f=fv→xs.map a.eval=vs→
  Cg P ⟨dst,.call {callee:=.value f,args:=xs,argTypes:=b},ty,pos,Cc,g⟩ a w R
section
variable{P:Program}{fv:Value}{vs:Array Value}{w:World}{R R':Value→World→Prop}
theorem EY{fn:FuncId}{first cap all:Array Value}(a:Ba P fn)(ha:first++vs++cap=all)(h:BN P fn all w R):MD P (.func (.func fn) first cap) vs w R:=fun _ _ _ _ _ _ _ _ _ b c=>JI a b c ha h
theorem KT{l:Nat}(h:YieldAt Fence.wide 0 P l vs w (fun e w'=>∃v,e=.returned v∧R v w')):MD P (.func (.yield l) #[] #[]) vs w R:=fun _ _ _ _ _ _ _ _ _ a b=>Xk a b h
theorem MD.mono(h:MD P fv vs w R)(hr:∀v w',R v w'→R' v w'):MD P fv vs w R':=fun a dst f xs b ty pos Cc g c d=>(h a dst f xs b ty pos Cc g c d).mono hr
theorem FK{F:Nat→Prop}{M:List (Option Nat)}{b:Nat}(h:¬FU F M b):¬F b∧some b∉M:=⟨fun h1=>h (.inl h1),fun h1=>h (.inr h1)⟩
theorem F1{a:Act}{dst:Option Tmp}{f:Operand}{xs:Array Operand}{b:Array TypeId}{ty:TypeId}{pos:String}{Cc:Array Edge}{g:Option (Nat×Bool)}(h:MD P fv vs w R)(c:a.eval f=fv)(d:xs.map a.eval=vs):
  Cg P ⟨dst,.call {callee:=.value f,args:=xs,argTypes:=b},ty,pos,Cc,g⟩ a w R:=h a dst f xs b ty pos Cc g c d
end
structure VL (α:Type) where
 R:World→(Nat→Prop)→Array Value→α→Prop
def v0:VL Unit:=⟨fun _ _ vs _=>vs= #[]⟩
def v1{α:Type}(a:VE α):VL α:=⟨fun w Z vs x=>∃v,vs= #[v]∧a.R w Z v x⟩
def v2{α β:Type}(a:VE α)(b:VE β):VL (α×β):=⟨fun w Z vs x=>∃v u,vs= #[v,u]∧a.R w Z v x.1∧b.R w Z u x.2⟩
def v3{α β d:Type}(a:VE α)(b:VE β)(c:VE d):VL (α×β×d):=⟨fun w Z vs x=>∃v u t,vs= #[v,u,t]∧a.R w Z v x.1∧b.R w Z u x.2.1∧c.R w Z t x.2.2⟩
def TL:VE Unit:=⟨fun _ _ v _=>v=.tuple #[],fun h _=>h⟩
structure Cb (P:Program) {σ α β:Type} (fv:Value) (F:Nat→Prop) (n:Nat) (I:σ→World→(Nat→Prop)→Option Nat→Prop) (ea:VL α) (er:VE β) (cb:σ→α→Option (β×σ)):Prop where
 fc:fv.cells= #[fv]
 f1:fv.oneCell'=true
 ff:∀k,F k→k<n
 call:∀(s:σ) (x:α) (r:β×σ) (w:World) (Z Za:Nat→Prop) (o:Option Nat) (vs:Array Value),n≤w.heap.size→(∀b,Z b→Za b)→(∀b,Za b→¬F b∧some b≠o)→I s w Z o→ea.R w Za vs x→cb s x=some r→
  MD P fv vs w (fun v w'=>∃o',BX (FU F [o]) w w'∧(∀k,o'=some k→(o=some k∨w.heap.size≤k)∧k<w'.heap.size)∧er.R w' (ZZ FN [] Z w.heap.size [o']) v r.1∧I r.2 w' (ZZ FN [] Z w.heap.size [o']) o')
 Ld:∀(s:σ) (w w':World) (Z Z':Nat→Prop) (o:Option Nat),I s w Z o→Mv w Z w' Z'→(∀b,FU F [o] b→w'.heap[b]?=w.heap[b]?)→I s w' Z' o
 lt:∀(s:σ) (w:World) (Z:Nat→Prop) (o:Option Nat),I s w Z o→∀k,o=some k→k<w.heap.size∧¬F k
section
variable{P:Program}{σ α β:Type}{fv:Value}{F:Nat→Prop}{n:Nat}{I:σ→World→(Nat→Prop)→Option Nat→Prop}{ea:VL α}{er:VE β}{cb:σ→α→Option (β×σ)}
variable{B:List (Option Nat)}{w0 w w':World}{Z:Nat→Prop}{L:List (Option Nat)}
theorem Cb.Em (h:Cb P fv F n I ea er cb) {s:σ} {o:Option Nat} (c:I s w (ZZ F B Z w0.heap.size L) o) (a:Hp F B w0 L w) {D:Nat→Prop} (g:BX D w w') (d:∀k,D k→some k∈L) (i:Nat) (hi:L[i]?=some o) (e:∀k,o=some k→¬D k) {Z':Nat→Prop} (hm:Mv w (ZZ F B Z w0.heap.size L) w' Z'):
  I s w' Z' o:=h.Ld s w w' _ _ o c hm fun b hb=>by
 rcases hb with hb|hb
 ·exact g.block b (Nat.lt_of_lt_of_le (a.ff b hb) a.sz) fun f=>(a.lo b (d b f)).2.1 hb
 ·rw[List.mem_singleton] at hb;exact g.block b (h.lt s w _ o c b hb.symm).1 (e b hb.symm)
theorem Cb.me(h:Cb P fv F n I ea er cb){s:σ}{o:Option Nat}(a:I s w (ZZ F B Z w0.heap.size L) o)(c:Hp F B w0 L w)(g:Ext w w'){Z':Nat→Prop}(hm:Mv w (ZZ F B Z w0.heap.size L) w' Z'):I s w' Z' o:=
 h.Ld s w w' _ _ o a hm fun b hb=>g.block b (by
  rcases hb with hb|hb
  ·exact Nat.lt_of_lt_of_le (c.ff b hb) c.sz
  ·rw[List.mem_singleton] at hb;exact(h.lt s w _ o a b hb.symm).1) (by simp)
theorem Cb.mz(h:Cb P fv F n I ea er cb){s:σ}{o:Option Nat}{a Z':Nat→Prop}(b:I s w a o)(hm:Mv w a w Z'):I s w Z' o:=h.Ld s w w _ _ o b hm fun _ _=>rfl
theorem Cb.mg(h:Cb P fv F n I ea er cb){s:σ}{o r:Option Nat}(c:I s w (ZZ F B Z w0.heap.size L) o)(a:Hp F B w0 L w)(g:w.grownBy w' r)(j:Nat)(hj:L[j]?=some r)(i:Nat)(hi:L[i]?=some o)(b:(i==j)=false){Z':Nat→Prop}(hm:Mv w (ZZ F B Z w0.heap.size L) w' Z'):I s w' Z' o:=
 h.Em c a (D:=fun k=>some k=r) (LB g fun _ e=>e.symm) (fun k e=>by rw[e];exact List.mem_of_getElem? hj) i hi (fun k hk e=>a.ap i j k (by simpa using b) (by rw[hi,hk]) (by rw[hj,e])) hm
theorem Cb.mm(h:Cb P fv F n I ea er cb){s:σ}{o:Option Nat}{M:List (Option Nat)}(e:I s w (ZZ F B Z w0.heap.size L) o)(b:Hp F B w0 L w)(g:BX (FU FN M) w w')(a:List Nat)(c:IC L a M)(i:Nat)(hi:L[i]?=some o)(d:(a.all fun j=> !Nat.beq i j)=true){Z':Nat→Prop}(hm:Mv w (ZZ F B Z w0.heap.size L) w' Z'):I s w' Z' o:=
 h.Em e b g (fun k hk=>by
  rcases hk with hk|hk
  ·exact hk.elim
  ·exact c.sub _ hk) i hi (fun k hk=>b.CI (F':=FN) i (by rw[hi,hk]) a d c (fun _ h=>h.elim)) hm
end
def Cy {α:Type} (ev:α→Value) (w:World) (r n:Nat) (L:List (List Int×α)):Prop:=
 ∃es clock,w.heap[r]?=some (.map es clock)∧es.toList.map (fun e=>(e.key,e.val))=L.map (fun p=>(FJ p.1,ev p.2))∧∀p∈L,p.1.length=n
def EL{α:Type}(L:List (List Int×α))(k:List Int):Option α:=(L.find? fun p=>k==p.1).map (·.2)
def KU{α:Type}(L:List (List Int×α))(k:List Int)(v:α):List (List Int×α):=match L.findIdx? (fun p=>k==p.1) with|some i=>L.set i (k,v)|none=>L++[(k,v)]
structure Abr{α:Type}(ev:α→Value)(w w':World)(r n:Nat):Prop where
 FI:r=w.heap.size
 sz:w'.heap.size=r+1
 mp:Cy ev w' r n []
 gr:Ext w w'
structure Abs{α:Type}(ev:α→Value)(w w':World)(r n:Nat)(L:List (List Int×α)):Prop where
 sz:w'.heap.size=w.heap.size
 mp:Cy ev w' r n L
 gr:J2 r w w'
section
variable{α:Type}{ev:α→Value}{w w':World}{r n b:Nat}{L:List (List Int×α)}
theorem Cy.lt(h:Cy ev w r n L):r<w.heap.size:=by obtain⟨es,c,h,_⟩:=h;exact lt_of_block h
theorem Cy.ext(h:Cy ev w r n L)(g:Ext w w'):Cy ev w' r n L:=by
 have hl:=h.lt;obtain⟨es,c,h1,h2⟩:=h;exact⟨es,c,(g.block r hl (by simp)).trans h1,h2⟩
theorem Cy.QK(h:Cy ev w r n L)(g:J2 b w w')(a:r≠b):Cy ev w' r n L:=by
 have hl:=h.lt;obtain⟨es,c,h1,h2⟩:=h;exact⟨es,c,(g.block r hl (by simpa using a)).trans h1,h2⟩
end
section
variable{α:Type}{ev:α→Value}{z:α}{P:Program}{a:Act}{w:World}{dst:Option Tmp}{ty:TypeId}{pos:String}{Cc:Array Edge}{g:Option (Nat×Bool)}{K E T r n:Nat}{L:List (List Int×α)}{k:List Int}
theorem LZ(z:α)(a:MZ P K n)(hk:k.length=n):∀(es:List MapEntry) (L:List (List Int×α)) (i:Nat),es.map (fun e=>(e.key,e.val))=L.map (fun p=>(FJ p.1,ev p.2))→(∀p∈L,p.1.length=n)→
  (Instr.findAsking K (FJ k) es i).run P w=.ok (match L.findIdx? (fun p=>k==p.1) with|some j=>some (i+j,ev ((L.getD j ([],z)).2))|none=>none) w
 |[],[],i,_,_=>by simp[Instr.findAsking]
 |[],p::L,i,h,_=>by simp at h
 |e::es,[],i,h,_=>by simp at h
 |e::es,p::L,i,h,hl=>by
  simp only[List.map_cons,List.cons.injEq,Prod.mk.injEq] at h;obtain⟨⟨h1,h2⟩,b⟩:=h;have ih:=LZ z a hk es L (i+1) b (fun q a=>hl q (List.mem_cons_of_mem _ a));have he:=a w k p.1 hk (hl p (List.mem_cons_self ..));simp only[Instr.findAsking,Sem.run_bind,h1,he,Result.andThen_ok,List.findIdx?_cons];cases hb:(k==p.1)
  ·simp only[Bool.false_eq_true,if_false,ih];cases List.findIdx? (fun p=>k==p.1) L with
   |none=>rfl
   |some j=>simp[Nat.add_assoc,Nat.add_comm 1 j]
  ·simp[h2]
theorem Nl(z:α)(f:MZ P K n)(hw:My P K)(hk:k.length=n){es:List MapEntry}(h:es.map (fun e=>(e.key,e.val))=L.map (fun p=>(FJ p.1,ev p.2)))(hl:∀p∈L,p.1.length=n):
  (Instr.findKey K (FJ k) es).run P w=.ok (match L.findIdx? (fun p=>k==p.1) with|some j=>some (j,ev ((L.getD j ([],z)).2))|none=>none) w:=by
 unfold My at hw;cases hu:P.underlying K with
 |none=>simp[hu] at hw
 |some d=>
  unfold Instr.findKey;simp only[Sem.run_bind,run_underlying hu,Result.andThen_ok];cases es with
  |nil=>
   have:L=[]:=by cases L with|nil=>rfl|cons _ _=>simp at h
   subst this;simp[Instr.findNow]
  |cons e es=>
   have g:Instr.findNow d (FJ k) (e::es) 0=none:=by
    refine Sg ?_ _ _ _ (fun a b=>?_) (by simp)
    ·rw[hu] at hw;cases d<;>simp at hw<;>trivial
    ·have:(a.key,a.val)∈(e::es).map (fun e=>(e.key,e.val)):=List.mem_map.2 ⟨a,b,rfl⟩;rw[h] at this;obtain⟨p,_,c⟩:=List.mem_map.1 this;exact⟨(JA p.1).toArray,by simp only[Prod.mk.injEq] at c;exact c.1.symm⟩
   rw[g];have:=LZ z (P:=P) (w:=w) f hk (e::es) L 0 h hl;simpa using this
theorem Um(z:α)(L:List (List Int×α))(k:List Int):EL L k=(L.findIdx? (fun p=>k==p.1)).map (fun j=>(L.getD j ([],z)).2):=by
 unfold EL
 induction L with
 |nil=>rfl
 |cons p L ih=>
  simp only[List.find?_cons,List.findIdx?_cons];cases hb:(k==p.1)
  ·simp only[Bool.false_eq_true,if_false,ih];cases List.findIdx? (fun p=>k==p.1) L<;>simp
  ·simp
theorem Sh(b:P.underlying T=some (.map K E))(d:(P.info? E).bind (·.zero)=some (ev z))(g:MZ P K n)(l:QW P K n)(hw:My P K)(hk:k.length=n)(hm:Cy ev w r n L)(ok:Bool):
  (Instr.lookup T (.map (some r)) (FJ k) ok).run P w=.ok (if ok then .tuple #[ev ((EL L k).getD z),.bool (EL L k).isSome] else ev ((EL L k).getD z)) w:=by
 obtain⟨es,clock,hh,he,hl⟩:=hm;obtain⟨i,hi,a⟩:=Option.bind_eq_some_iff.1 d;have h1:=OV (P:=P) hh (by intro c e f h;cases h);have h2:=Nl z (P:=P) (w:=w) g hw hk he hl;have m:(zeroValue E).run P w=.ok (ev z) w:=by simp[zeroValue,typeInfo,program,Sem.run,hi,a]
 unfold Instr.lookup;simp only[Sem.run_bind,run_underlying b,Result.andThen_ok,h1,l w es.isEmpty k hk,h2,Um z,Sem.run_pure];cases List.findIdx? (fun p=>k==p.1) L with
 |none=>cases ok<;>simp[m]
 |some j=>cases ok<;>simp
theorem Q7{x y:Operand}(b:P.underlying T=some (.map K E))(c:(P.info? E).bind (·.zero)=some (ev z))(d:MZ P K n)(e:QW P K n)(hw:My P K)(f:a.eval x=.map (some r))(h:a.eval y=FJ k)(hk:k.length=n)(hm:Cy ev w r n L):
  Cg P ⟨dst,.lookup T x y true,ty,pos,Cc,g⟩ a w (fun u w'=>u=.tuple #[ev ((EL L k).getD z),.bool (EL L k).isSome]∧w'=w):=
 Lj (S:=Instr.lookup T (.map (some r)) (FJ k) true) (by simp only[execOp,f,h]) (Sh b c d e hw hk hm true)
theorem OZ{T:TypeId}:Cg P ⟨dst,.makeMap T none,ty,pos,Cc,g⟩ a w (fun u w'=>∃r,u=.map (some r)∧Abr ev w w' r n):=by
 unfold Cg;simp only[execOp,Option.map_none,Sem.run_bind,run_makeMap,Result.andThen_ok,Sem.run_pure];exact⟨_,rfl,rfl,by simp,⟨#[],0,heap_alloc_new w _,rfl,by simp⟩,World.grownBy_alloc w _ _⟩
theorem Q8{x y aA:Operand}{v:α}(aI:P.underlying T=some (.map K E))(aJ:MZ P K n)(aK:QW P K n)(hw:My P K)(aL:a.eval x=.map (some r))(aM:a.eval y=FJ k)(aN:a.eval aA=ev v)(hk:k.length=n)(hm:Cy ev w r n L):
  Cg P ⟨dst,.mapUpdate T x y aA,ty,pos,Cc,g⟩ a w (fun _ w'=>Abs ev w w' r n (KU L k v)):=by
 have q:=hm.lt;obtain⟨es,clock,hh,he,hl⟩:=hm;have h1:=OV (P:=P) hh (by intro c e f h;cases h);have h2:=Nl v (P:=P) (w:=w) aJ hw hk he hl;have d:∀o:Obj,(setObj r o).run P w=.ok () {w with heap:=w.heap.setIfInBounds r o}:=by
  intro o;unfold setObj;simp only[Sem.run,hh]
 have s:∀o:Obj,J2 r w {w with heap:=w.heap.setIfInBounds r o}:=fun o=>⟨rfl,rfl,rfl,by simp,fun j _ aB=>by
  have:¬r=j:=fun e=>aB (by rw[e]);simp[Array.getElem?_setIfInBounds,this]⟩
 have hlen:es.toList.length=L.length:=by have:=congrArg List.length he;simpa using this
 unfold Cg;simp only[execOp,aL,aM,aN,Sem.run_bind,Instr.mapUpdate,run_underlying aI,Result.andThen_ok,h1,aK w false k hk,h2];cases m:List.findIdx? (fun p=>k==p.1) L with
 |none=>
  simp only[d,Result.andThen_ok,Sem.run_pure];refine⟨by simp,⟨_,_,by simp[q];exact⟨rfl,rfl⟩,?_,?_⟩,s _⟩
  ·simp[KU,m,he]
  ·intro p b;simp only[KU,m,List.mem_append,List.mem_singleton] at b;rcases b with b|rfl
   ·exact hl p b
   ·exact hk
 |some j=>
  have hj:=List.findIdx?_eq_some_iff_getElem.1 m;obtain⟨aC,aD,_⟩:=hj;have t:j<es.toList.length:=by omega
  have z:(es.toList[j]).key=FJ k:=by
   have:=congrArg (fun l=>l[j]?) he;simp only[List.getElem?_map,List.getElem?_eq_getElem t,List.getElem?_eq_getElem aC,Option.map_some,Option.some.injEq,Prod.mk.injEq] at this;rw[this.1,←eq_of_beq aD]
  have aE:((es[j]?).map (·.key)).getD (FJ k)=FJ k:=by
   have aF:j<es.size:=by simpa using t
   rw[Array.getElem?_eq_getElem aF];simpa using z
  simp only[aE,Instr.keyThatStays,QY 9999 k,if_true,Sem.run_pure,Result.andThen_ok,d,Sem.run_bind];refine⟨by simp,⟨_,_,by simp[q];exact⟨rfl,rfl⟩,?_,?_⟩,s _⟩
  ·simp only[KU,m];apply List.ext_getElem
   ·simp[hlen]
   ·intro i aO aP;have aG:i<es.toList.length:=by simpa using aO
    have aH:i<L.length:=by omega
    have:=congrArg (fun l=>l[i]?) he;simp only[List.getElem?_map,List.getElem?_eq_getElem aG,List.getElem?_eq_getElem aH,Option.map_some,Option.some.injEq,Prod.mk.injEq] at this
    by_cases u:j=i
    ·subst u;simp
    ·simpa[Array.getElem_modify,u,List.getElem_set] using this
  ·intro p b;simp only[KU,m] at b;rcases List.mem_or_eq_of_mem_set b with b|rfl
   ·exact hl p b
   ·exact hk
end
section
variable{α:Type}{ev:α→Value}{w w':World}{r n:Nat}{L:List (List Int×α)}
theorem Cy.of(h:Cy ev w r n L)(e:w'.heap[r]?=w.heap[r]?):Cy ev w' r n L:=by
 obtain⟨es,c,h1,h2⟩:=h;exact⟨es,c,e.trans h1,h2⟩
theorem Cy.gr{x:Option Nat}(h:Cy ev w r n L)(g:w.grownBy w' x)(a:some r≠x):Cy ev w' r n L:=h.of (g.block r h.lt a)
end
theorem Si{α:Type}(L:List (List Int×α))(k k':List Int)(v:α):EL (KU L k v) k'=if k'=k then some v else EL L k':=by
 induction L with
 |nil=>
  unfold EL KU
  by_cases h:k'=k
  ·subst h;simp
  ·have:(k'==k)=false:=by simpa using h
   simp[h]
 |cons p L ih=>
  unfold EL KU at*;simp only[List.findIdx?_cons];cases hb:(k==p.1)
  ·simp only[Bool.false_eq_true,if_false];cases c:List.findIdx? (fun p=>k==p.1) L with
   |none=>
    rw[c] at ih;simp only[Option.map_none,List.cons_append,List.find?_cons];cases a:(k'==p.1)
    ·simpa using ih
    ·have b:k'≠k:=by
      intro e;rw[e,hb] at a;cases a
     simp[b]
   |some j=>
    rw[c] at ih;simp only[Option.map_some,List.set_cons_succ,List.find?_cons];cases a:(k'==p.1)
    ·simpa using ih
    ·have b:k'≠k:=by
      intro e;rw[e,hb] at a;cases a
     simp[b]
  ·have hk:=eq_of_beq hb;simp only[if_true,List.set_cons_zero,List.find?_cons]
   by_cases h:k'=k
   ·subst h;simp
   ·have h1:(k'==k)=false:=by simpa using h
    have h2:(k'==p.1)=false:=by rw[←hk];exact h1
    simp[h,h1,h2]
theorem pm5{f:Operand→Value}{i0 i1 i2 i3 i4:Nat}{a x1 x2 b c:Operand}{v0 v1 v2 v3 v4:Value}(h0:f a=v0)(h1:f x1=v1)(h2:f x2=v2)(d:f b=v3)(e:f c=v4): #[(i0,a),(i1,x1),(i2,x2),(i3,b),(i4,c)].map (fun(i,x)=>(i,f x))= #[(i0,v0),(i1,v1),(i2,v2),(i3,v3),(i4,v4)]:=by simp[h0,h1,h2,d,e]
section
variable{F F' F0:Nat→Prop}{B:List (Option Nat)}{w0 w w' w1 w2:World}{Z Z':Nat→Prop}{L L' M C:List (Option Nat)}{D:Nat→Prop}
theorem BB(a:List Nat)(h:IC L a M):∀x∈M,x∈L:=h.sub
theorem AQ(a:List Nat)(h:IC L a M)(b:∀k,F' k→F k):∀k,FU F' M k→F k∨some k∈L:=ZB h.sub b
theorem Co(h:∀k,F0 k→F k):∀k,FU F0 C k→F k∨some k∈C:=fun k hk=>hk.imp (h k) id
theorem Hc{k:Nat}{o:Obj}{r:Option Nat}(h:w.heap[k]?=some o)(g:w.grownBy w' r)(a:some k≠r):w'.heap[k]?=some o:=(g.block k (Array.getElem?_eq_some_iff.1 h).1 a).trans h
theorem J4{k:Nat}{o:Obj}(h:w.heap[k]?=some o)(g:BX D w w')(a:¬D k):w'.heap[k]?=some o:=(g.block k (Array.getElem?_eq_some_iff.1 h).1 a).trans h
theorem Cy.Cn{α:Type}{ev:α→Value}{r n:Nat}{a:List (List Int×α)}(h:Cy ev w r n a)(g:BX D w w')(b:¬D r):Cy ev w' r n a:=h.of (g.block r h.lt b)
theorem Cy.Ik{α:Type}{ev:α→Value}{r n:Nat}{a:List (List Int×α)}(h:Cy ev w r n a)(e:w'.heap[r]?=w.heap[r]?):Cy ev w' r n a:=h.of e
theorem Bk.Ik{b:Nat}{t:TypeId}{cs:Array Value}(h:Bk w b t cs)(e:w'.heap[b]?=w.heap[b]?):Bk w' b t cs:=e.trans h
theorem Hp.zz(h:Hp F B w0 L w)(a c:List Nat)(d:IC L a M)(e:IC L c C)(f:∀k,F' k→F k∨some k∈C):∀b,ZZ F B Z w0.heap.size L b→¬F' b∧some b∉M:=h.zc d.sub fun k hk=>(f k hk).imp id (e.sub _)
theorem Hp.mz(h:Hp F B w0 L w)(a b:List Nat)(c:IC L a M)(d:IC L b C)(e:∀k,F' k→F k∨some k∈C):Mv w (ZZ F B Z w0.heap.size L) w (ZC F' M):=En (h.zz a b c d e)
theorem SD{i:Nat}{a b:List Nat}(h:((a++b).all fun j=> !Nat.beq i j)=true):(a.all fun j=> !Nat.beq i j)=true∧(b.all fun j=> !Nat.beq i j)=true:=by
 rw[List.all_append,Bool.and_eq_true] at h;exact h
theorem Hp.bz(h:Hp F B w0 L w)(i:Nat){b:Nat}(hi:L[i]?=some (some b))(a c:List Nat)(d:IC L a M)(e:IC L c C)(f:∀k,F' k→F k∨some k∈C)(hj:((a++c).all fun j=> !Nat.beq i j)=true):ZC F' M b:=by
 have h1:=h.CI (F':=F) i hi a (SD hj).1 d (fun _ h=>h);have h2:=h.CI (F':=F) i hi c (SD hj).2 e (fun _ h=>h);exact⟨fun hb=>h2 ((f b hb).imp id id),fun hm=>h1 (.inr hm)⟩
theorem Hp.rz{α:Type}{e:CD α}{t:TypeId}{n0:Nat}{A:Option Addr}{c:Nat}{xs:List α}(h:Hp F B w0 L w)(i:Nat)(hi:L[i]?=some (ob A))(a b:List Nat)(d:IC L a M)(f:IC L b C)(g:∀k,F' k→F k∨some k∈C)(hj:((a++b).all fun j=> !Nat.beq i j)=true)
  (hr:Bp e t n0 w (ZZ F B Z w0.heap.size L) A c xs):Sl e w (ZC F' M) A c xs:=
 (hr.up (h.mz a b d f g)).sl fun k hk _=>h.bz i (by rw[hi,hk]) a b d f g hj
theorem Bu{Z:Nat→Prop}(w:World):Mv w Z w (ZZ FN [] Z w.heap.size L):=AS (fun _ _=>⟨id,by simp⟩) w
theorem CS(h:Mv w Z w' Z):Mv w Z w' (ZZ FN [] Z w.heap.size M):=⟨h.size,fun b hb hl=>⟨.inl ⟨hl,hb,id,by simp⟩,(h.stay b hb hl).2⟩⟩
theorem JL{n:Nat}{o:Option Nat}(h:o∈M:=by simp):Mv w (ZZ FN [] Z n M) w (ZZ FN [] Z n [o]):=Ll fun b hb _=>hb.imp id fun⟨h1,h2⟩=>⟨h1,fun hm=>by
 rw[List.mem_singleton] at hm;exact h2 (by rw[hm];exact h)⟩
theorem EP(g:BX D w w')(h:∀b,Z b→¬D b):Mv w Z w' Z:=⟨g.size,fun b hb hl=>⟨hb,g.block b hl (h b hb)⟩⟩
theorem DC{b:Nat}{o:Option Nat}(h:¬FU FN C b∧some b≠o):¬FU FN C b:=h.1
theorem DR{b:Nat}{o:Option Nat}(h:¬FU F C b)(k:some b≠o):¬F b∧some b∉C++[o]:=
 ⟨fun h1=>h (.inl h1),fun h1=>by
  rcases List.mem_append.1 h1 with h2|h2
  ·exact h (.inr h2)
  ·exact k (by simpa using h2)⟩
theorem BX.lf{o:Option Nat}(g:BX (FU F (C++[o])) w w'):BX (FU (FU F C) [o]) w w':=g.mono fun k h=>by
 rcases h with h|h
 ·exact .inl (.inl h)
 ·rcases List.mem_append.1 h with h2|h2
  ·exact .inl (.inr h2)
  ·exact .inr h2
theorem BX.O0{o:Option Nat}(g:BX (FU F C) w w'):BX (FU (FU F C) [o]) w w':=g.mono fun _ h=>.inl h
theorem BX.cl{M1 M2:List (Option Nat)}(g:BX (FU (FU F M1) M2) w w'):BX (FU F (M1++M2)) w w':=g.fl
theorem Hp.JB(h:Hp F B w0 L w)(a:List Nat)(b:IC L a C)(c:∀k,F0 k→F k):∀k,FU F0 C k→k<w.heap.size:=fun k hk=>by
 rcases hk with hk|hk
 ·exact Nat.lt_of_lt_of_le (h.ff k (c k hk)) h.sz
 ·exact(h.lo k (b.sub _ hk)).1
theorem Hp.Oc(h:Hp F B w0 L w)(i:Nat){k:Nat}(hi:L[i]?=some (some k))(a:List Nat)(hj:(a.all fun j=> !Nat.beq i j)=true)(b:IC L a C):k<w.heap.size∧¬FU F C k:=
 ⟨(h.lo k (List.mem_of_getElem? hi)).1,h.CI (F':=F) i hi a hj b fun _ h=>h⟩
theorem Hp.ZG{x c:Option Nat}(h:Hp F B w0 L w)(i:Nat)(hi:L[i]?=some x)(a:List Nat)(hj:(a.all fun j=> !Nat.beq i j)=true)(d:IC L a M)(e:∀y∈B,y=c∨y∈M):∀k,x=some k→(c=some k∨w0.heap.size≤k)∧k<w.heap.size:=fun k hk=>by
 have h1:=h.lo k (List.mem_of_getElem? (by rw[hi,hk]));refine⟨?_,h1.1⟩;rcases Nat.lt_or_ge k w0.heap.size with h2|h2
 ·left;rcases e _ (h1.2.2 h2) with b|b
  ·exact b.symm
  ·exact absurd (.inr b) (h.CI (F':=F) i (by rw[hi,hk]) a hj d fun _ h=>h)
 ·exact .inr h2
theorem Bw.snoc{o:Option Nat}(h:Bw F C w)(e:∀k,o=some k→k<w.heap.size∧¬FU F C k):Bw F (C++[o]) w:=by
 refine⟨fun k hk=>?_,fun i j x f hi hj=>?_,h.ff⟩
 ·rcases List.mem_append.1 hk with h1|h1
  ·exact h.lt k h1
  ·have h2:=e k (by rw[List.mem_singleton] at h1;exact h1.symm);exact⟨h2.1,fun m=>h2.2 (.inl m)⟩
 ·have key:∀(a b:Nat),a<C.length→¬b<C.length→(C++[o])[a]?=some (some x)→(C++[o])[b]?=some (some x)→False:=fun a b ha hb h1 h2=>by
   rw[List.getElem?_append_left ha] at h1;rw[List.getElem?_append_right (by omega)] at h2;have g:b-C.length=0:=by
    rcases Nat.eq_zero_or_pos (b-C.length) with h|h
    ·exact h
    ·rw[List.getElem?_eq_none (by simp;omega)] at h2;cases h2
   rw[g] at h2;have l:o=some x:=by simpa using h2
   exact(e x l).2 (.inr (List.mem_of_getElem? h1))
  by_cases d:i<C.length
  ·by_cases c:j<C.length
   ·rw[List.getElem?_append_left d] at hi;rw[List.getElem?_append_left c] at hj;exact h.ap i j x f hi hj
   ·exact key i j d c hi hj
  ·by_cases c:j<C.length
   ·exact key j i c d hj hi
   ·have hl:(C++[o]).length=C.length+1:=by simp
    have h1:=(List.getElem?_eq_some_iff.1 hi).1;have h2:=(List.getElem?_eq_some_iff.1 hj).1;omega
theorem Bw.keep{o o':Option Nat}(h:Bw F C w)(d:w.heap.size≤w1.heap.size)(b:∀k,o=some k→k<w1.heap.size∧¬FU F C k)(c:∀k,o'=some k→(o=some k∨w1.heap.size≤k)∧k<w2.heap.size):∀k,o'=some k→k<w2.heap.size∧¬FU F C k:=fun k hk=>by
 obtain⟨h1,h2⟩:=c k hk;refine⟨h2,?_⟩;rcases h1 with h1|h1
 ·exact(b k h1).2
 ·rintro(a|a)
  ·have:=h.ff k a;omega
  ·have:=(h.lt k a).1;omega
def Mvd(L:List (Option Nat))(n:Nat):List (Option Nat)→Prop
 |[]=>True
 |x::M=>((∃j:Nat,L[j]?=some x)∨∀k,x=some k→some k∈L∨n≤k)∧Mvd L n M
theorem Ch{n:Nat}:∀{M:List (Option Nat)},Mvd L n M→∀k,some k∈M→some k∈L∨n≤k
 |[],_,_,h=>by cases h
 |x::M,h,k,hk=>by
  rcases List.mem_cons.1 hk with e|hk
  ·rcases h.1 with⟨j,hj⟩|h1
   ·left;rw[e];exact List.mem_of_getElem? hj
   ·exact h1 k e.symm
  ·exact Ch h.2 k hk
theorem CT{y:Option Nat}(i:Nat)(h:y∈M):∀x∈L.set i y,x∈L∨x∈M:=fun x a=>by
 rcases List.mem_or_eq_of_mem_set a with h1|e
 ·exact .inl h1
 ·exact .inr (by rw[e];exact h)
theorem Jf{o:Option Nat}:∀b,ZC F [o] b→¬F b∧some b≠o:=fun _ h=>⟨h.1,fun e=>h.2 (by rw[e];exact List.mem_singleton_self _)⟩
end
theorem SE{F:Nat→Prop}{B L:List (Option Nat)}{n:Nat}{Z Z':Nat→Prop}(h:∀b,Z b→Z' b):∀b,ZZ F B Z n L b→ZZ F B Z' n L b:=fun b hb=>hb.imp (fun⟨h1,h2,a⟩=>⟨h1,h b h2,a⟩) id
def Od{α:Type}(e:CD α)(w:World)(Z:Nat→Prop)(A:Option Addr)(c:Nat)(xs:List α):Prop:=
 xs.length≤c∧(A=none→c=0)∧∃BJ,R2 e w Z BJ xs∧Rz w ZA A BJ.flatten
section
variable{α:Type}{e:CD α}{t:TypeId}{n0:Nat}{w w':World}{Z Z':Nat→Prop}{A:Option Addr}{c:Nat}{xs:List α}
theorem Od.ext(h:Od e w Z A c xs)(g:Ext w w')(hm:Mv w Z w' Z'):Od e w' Z' A c xs:=⟨h.1,h.2.1,h.2.2.imp fun _ h=>⟨h.1.mv hm,h.2.mv (Ac g)⟩⟩
theorem Bp.n(h:Bp e t n0 w Z A c xs):Od e w Z A c xs:=by
 have h2:=h.all;obtain⟨BJ,a,b⟩:=h;refine⟨h2.1,h2.2.1,BJ,a,?_⟩;have d:=b.rd;exact QZ d fun _ _ _=>trivial
theorem Sl.n(h:Sl e w Z A c xs):Od e w Z A c xs:=⟨h.1,h.2.1,h.2.2.imp fun _ h=>⟨h.1,h.2.mv Ng⟩⟩
theorem Sl.JU(a:∀w Z w' Z' cs x,e.R w Z cs x→e.R w' Z' cs x)(h:Sl e w Z A c xs):Od e w Z' A c xs:=⟨h.1,h.2.1,h.2.2.imp fun _ h=>⟨h.1.free a,h.2.mv Ng⟩⟩
theorem Bp.JU(a:∀w Z w' Z' cs x,e.R w Z cs x→e.R w' Z' cs x)(h:Bp e t n0 w Z A c xs):Od e w Z' A c xs:=h.all.JU a
end
section
variable{P:Program}{a:Act}{w:World}{dst:Option Tmp}{ty:TypeId}{pos:String}{Cc:Array Edge}{g:Option (Nat×Bool)}
theorem H4{α:Type}{e:CD α}{s x:Operand}{t j:TypeId}{z:Value}{sz bytes:Nat}(y:P.underlying t=some (.slice j))(hi:(P.info? j).map (fun i=>(i.zero,i.size,i.bytes))=some (some z,sz,bytes))(l:z.cells.size=sz)(m:e.sz=sz)(h0:0<sz)
  {n0:Nat}{Z:Nat→Prop}{A B:Option Addr}{c d n:Nat}{xs ys:List α}(hs:a.eval s=.slice A n c)(aA:xs.length=n)(aB:a.eval x=.slice B ys.length d)(h:Bp e j n0 w Z A c xs)(r:Od e w Z B d ys)
  (o:xs.length+ys.length≤maxLen)(b:(xs.length+ys.length)*bytes≤140737488355328)(f:n0≤w.heap.size):
  Cg P ⟨dst,.call {callee:=.builtin .append,args:= #[s,x],argTypes:= #[t,t]},ty,pos,Cc,g⟩ a w (fun v w'=>∃u aC,v=.slice u (xs++ys).length aC∧w.grownBy w' (ob A)∧(∀k,ob u=some k→(ob A=some k∨w.heap.size≤k)∧k<w'.heap.size)∧
   ∃BJ p,R2 e w Z BJ xs∧R2 e w Z p ys∧Fm w' n0 j e.sz u (xs++ys).length aC (BJ++p).flatten):=by
 by_cases q:ys=[]
 ·refine ZF y hi l m h0 hs aA aB h ?_ o b f;subst q;exact⟨r.1,r.2.1,[],trivial,.inl rfl⟩
 ·obtain⟨_,_,BJ,h1,h2⟩:=r;exact IZ y hi l m h0 hs aA aB h ⟨BJ,h1,h2⟩ o b f q
end
section
variable{α:Type}{e:CD α}{t:TypeId}{n0:Nat}{w w':World}{Z Z':Nat→Prop}{A:Option Addr}{c:Nat}{xs:List α}
theorem Bp.Aa0(a:∀w Z w' Z' cs x,e.R w Z cs x→e.R w' Z' cs x)(h:Bp e t n0 w Z A c xs):Bp e t n0 w Z' A c xs:=by
 obtain⟨BJ,h1,h2⟩:=h;exact⟨BJ,h1.free a,h2⟩
theorem Bp.Abt(h:Bp e t n0 w Z A c xs):A=none→c=0:=h.all.2.1
theorem Bp.keep(h:Bp e t n0 w Z A c xs)(hm:Mv w Z w' Z')(hk:∀k,ob A=some k→w'.heap[k]?=w.heap[k]?):Bp e t n0 w' Z' A c xs:=by
 obtain⟨BJ,h1,h2⟩:=h;refine⟨BJ,h1.mv hm,h2.1,h2.2.imp id ?_⟩;rintro⟨b,cap,cur,a,d,f,g⟩;cases a;exact⟨b,_,cur,rfl,d,(hk b rfl).trans f,g⟩
end
def Gb{α:Type}(xs:List α)(l h:Int):List α:=(xs.take h.toNat).drop l.toNat
def Py(n:Nat)(l h:Int):Option Unit:=if 0≤l∧l≤h∧h≤(n:Int) then some () else none
theorem L2{α:Type}{n:Nat}{l h:Int}{f:Unit→Option α}{r:α}(a:(Py n l h).bind f=some r):(0≤l∧l≤h∧h≤(n:Int))∧f ()=some r:=by
 unfold Py at a;split at a
 ·exact⟨by assumption,a⟩
 ·cases a
def SB(a:Act)(o:Option Operand)(v d:Int):Prop:=(o=none∧v=d)∨∃x k,o=some x∧a.eval x=.int k v
theorem TM{a:Act}{d:Int}:SB a none d d:=.inl ⟨rfl,rfl⟩
theorem VH{a:Act}{x:Operand}{k:IntKind}{v d:Int}(h:a.eval x=.int k v):SB a (some x) v d:=.inr ⟨x,k,rfl,h⟩
theorem Kq{P:Program}(w:World)(k:IntKind)(i:Int)(y:Nat)(code:BoundsCode)(h0:0≤i)(h1:i≤(y:Int)):(Instr.sliceBound (.int k i) y code).run P w=.ok i.toNat w:=by
 simp[Instr.sliceBound,asIntOf,h0,h1]
section
variable{P:Program}{a:Act}{w:World}{dst:Option Tmp}{ty:TypeId}{pos:String}{Cc:Array Edge}{g:Option (Nat×Bool)}
theorem Un{α:Type}{e:CD α}{Z:Nat→Prop}{xs:List α}{t s:TypeId}{sz:Nat}{x:Operand}{A:Option Addr}{c:Nat}{lo hi:Option Operand}{l h:Int}(aH:P.underlying t=some (.slice s))(hs:(P.info? s).map (·.size)=some sz)(v:e.sz=sz)
  (aI:a.eval x=.slice A xs.length c)(i:SB a lo l 0)(z:SB a hi h xs.length)(aJ:Sl e w Z A c xs)(hb:0≤l∧l≤h∧h≤(xs.length:Int)):
  Cg P ⟨dst,.slice t x lo hi none,ty,pos,Cc,g⟩ a w (fun u w'=>(∃aA aB,u=.slice aA (Gb xs l h).length aB∧Sl e w Z aA aB (Gb xs l h))∧w'=w):=by
 subst v;obtain⟨aQ,m,BJ,h2,aK⟩:=aJ;obtain⟨b1,b2,b3⟩:=hb;have hlen:(Gb xs l h).length=h.toNat-l.toNat:=by
  unfold Gb;rw[List.length_drop,List.length_take];omega
 have n:(Instr.sliceAt t (.slice A xs.length c) (lo.map a.eval) (hi.map a.eval) none).run P w=.ok (.slice (if c=l.toNat then A else A.map (·.add (l.toNat*e.sz))) (h.toNat-l.toNat) (c-l.toNat)) w:=by
  have aL:(Instr.sliceBounds true xs.length c (lo.map a.eval) (hi.map a.eval) none).run P w=.ok (l.toNat,h.toNat,c) w:=by
   unfold Instr.sliceBounds;rcases z with⟨rfl,rfl⟩|⟨y,k,rfl,aC⟩
   ·rcases i with⟨rfl,rfl⟩|⟨aM,k',rfl,d⟩
    ·simp
    ·simp[d,Kq w k' l xs.length _ (by omega) (by omega)]
   ·have q1:=fun code=>Kq (P:=P) w k h c code (by omega) (by omega);rcases i with⟨rfl,rfl⟩|⟨aM,k',rfl,d⟩
    ·simp[aC,q1]
    ·simp[aC,d,q1,Kq w k' l h.toNat _ (by omega) (by omega)]
  simp[Instr.sliceAt,Instr.slice,underlying,program,Sem.run,aH,aL,Kg hs]
 refine(Pw aI rfl rfl n).mono ?_;rintro u w' ⟨rfl,rfl⟩;refine⟨⟨_,_,by rw[hlen],?_⟩,rfl⟩;have p:=(h2.take h.toNat).drop l.toNat;have aD:((BJ.take h.toNat).drop l.toNat).flatten=[]∨(0<e.sz∧l.toNat<h.toNat):=by
  rcases Nat.eq_zero_or_pos e.sz with h0|h0
  ·left;exact List.eq_nil_of_length_eq_zero (by rw[p.L7,h0,Nat.mul_zero])
  ·rcases Nat.lt_or_ge l.toNat h.toNat with q|q
   ·exact .inr ⟨h0,q⟩
   ·left;exact List.eq_nil_of_length_eq_zero (by rw[p.L7,List.length_drop,List.length_take,show min h.toNat xs.length-l.toNat=0 by omega,Nat.zero_mul])
 refine⟨by rw[hlen];omega,fun r=>?_,_,p,?_⟩
 ·split at r
  ·have:=m r;omega
  ·have:=m (by simpa using r);omega
 ·rcases aD with h0|⟨h0,q⟩
  ·exact .inl h0
  ·rcases aK with aN|⟨b,o,rfl,aO,aE,f⟩
   ·left;have aF:=h2.L7;rw[aN] at aF;simp only[List.length_nil] at aF;have aR:0<xs.length*e.sz:=Nat.mul_pos (by omega) h0;omega
   ·right;have aG:¬c=l.toNat:=by omega
    refine⟨b,o+l.toNat*e.sz,by simp[aG,GQ],aO,aE,fun j u hu=>?_⟩;rw[Nat.add_assoc];refine f _ _ ?_;rw[←(h2.take h.toNat).WV h0,List.getElem?_drop] at hu;have aP:BJ.flatten=(BJ.take h.toNat).flatten++(BJ.drop h.toNat).flatten:=by rw[←List.flatten_append,List.take_append_drop]
    rw[aP,List.getElem?_append_left (List.getElem?_eq_some_iff.1 hu).1];exact hu
end
def WX(n:Int)(b:Nat):Option Unit:=if 0≤n∧n*b≤140737488355328∧n≤140737488355328 then some () else none
theorem VI{α:Type}{n:Int}{b:Nat}{f:Unit→Option α}{r:α}(h:(WX n b).bind f=some r):(0≤n∧n*b≤140737488355328∧n≤140737488355328)∧f ()=some r:=by
 unfold WX at h;split at h
 ·exact⟨by assumption,h⟩
 ·cases h
theorem Nn(z:Array Value):∀m:Nat,(madeCells z (m*z.size)).toList=(List.replicate m z.toList).flatten
 |0=>by simp[madeCells]
 |m+1=>by
  have ih:=Nn z m;have e:∀k,(madeCells z k).toList=(List.range k).map (z[· %z.size]!):=fun k=>by simp[madeCells]
  rw[e] at ih⊢;rw[Nat.add_mul,Nat.one_mul,List.range_add,List.map_append,ih,List.replicate_succ',List.flatten_append]
  congr 1
  simp only[List.map_map,List.flatten_cons,List.flatten_nil,List.append_nil];refine List.ext_getElem (by simp) fun i h1 h2=>?_;simp only[List.getElem_map,List.getElem_range,Function.comp];have hi:i<z.size:=by simpa using h2
  rw[Nat.add_comm,Nat.add_mul_mod_self_right,Nat.mod_eq_of_lt hi];simp[hi]
theorem R2.rep{α:Type}{e:CD α}{w:World}{Z:Nat→Prop}{c:List Value}{x:α}(h:e.R w Z c x):∀m:Nat,R2 e w Z (List.replicate m c) (List.replicate m x)
 |0=>trivial
 |m+1=>⟨h,R2.rep h m⟩
section
variable{P:Program}{a:Act}{w:World}{dst:Option Tmp}{ty:TypeId}{pos:String}{Cc:Array Edge}{g:Option (Nat×Bool)}
theorem Xp{α:Type}{e:CD α}{z:α}{zc:List Value}{n0:Nat}{t j:TypeId}{d:Value}{sz bytes:Nat}{n:Int}{x y:Operand}{m o:IntKind}{b':Nat}(aA:P.underlying t=some (.slice j))(hi:(P.info? j).map (fun i=>(i.zero,i.size,i.bytes))=some (some d,sz,bytes))
  (p:d.cells.toList=zc)(c:e.sz=sz)(aB:a.eval x=.int m n)(aC:a.eval y=.int o n)(hm:0≤n∧n*b'≤140737488355328∧n≤140737488355328)(q:∀w Z,e.R w Z zc z)(hb:n0≤w.heap.size)(aF:bytes≤b'):
  Cg P ⟨dst,.makeSlice t x y,ty,pos,Cc,g⟩ a w (fun u w'=>∃b,u=.slice (some ⟨b,0,none⟩) (List.replicate n.toNat z).length n.toNat∧w.heap.size≤b∧b<w'.heap.size∧Ext w w'∧∀Z,Bp e j n0 w' Z (some ⟨b,0,none⟩) n.toNat (List.replicate n.toNat z)):=by
 subst p;subst c;cases f:P.info? j with
 |none=>simp[f] at hi
 |some i=>
  rw[f] at hi;simp only[Option.map_some,Option.some.injEq,Prod.mk.injEq] at hi;obtain⟨h1,h2,aD⟩:=hi;obtain⟨r,aG,aH⟩:=hm;have s:d.cells.toList.length=e.sz:=e.len (q w ZA);have c:d.cells.size=e.sz:=by simpa using s
  have v:(i.bytes:Int)*n≤281474976710656:=by
   rw[aD];have aE:(bytes:Int)*n≤(b':Int)*n:=Int.mul_le_mul_of_nonneg_right (by omega) r;rw[Int.mul_comm (b':Int)] at aE;omega
  have hr:=run_make (P:=P) w t j i d aA f h1 m o n n r (Int.le_refl _) v (by omega);refine(Lj (S:=Instr.makeSlice t (a.eval x) (a.eval y)) rfl (by rw[aB,aC];exact hr)).mono fun u w' h=>?_;obtain⟨rfl,rfl⟩:=h;have l:=Li w j (madeCells d.cells (n.toNat*i.size));refine⟨w.heap.size,by rw[List.length_replicate],Nat.le_refl _,by rw[l.sz];exact Nat.lt_succ_self _,l.gr,fun Z=>⟨_,R2.rep (q _ Z) n.toNat,?_⟩⟩;rw[List.length_replicate];have k:(List.replicate n.toNat d.cells.toList).flatten.length=n.toNat*e.sz:=by rw[←Nn,←c];simp[size_madeCells]
  refine⟨k,.inr ⟨w.heap.size,n.toNat,_,rfl,hb,l.bk,Nat.le_refl _,by simp only[maxLen];omega,by rw[size_madeCells,h2],?_⟩⟩;rw[h2,←c,Nn,List.take_of_length_le (by rw[k,c];exact Nat.le_refl _)]
end
section
variable{P:Program}{a:Act}{w:World}{dst:Option Tmp}{ty:TypeId}{pos:String}{Cc:Array Edge}{g:Option (Nat×Bool)}
theorem VJ {α:Type} {e:CD α} {r t:TypeId} {x y:Operand} {b o k p c:Nat} {v:Value} {n0:Nat} {Z:Nat→Prop} {A:Option Addr} {xs:List α} {z z':α} {l:List Value} {n:Nat}
  (s:Bp e r n0 w Z A c xs) (aB:xs[k]?=some z) (aK:A=some ⟨b,o,none⟩) (aL:p=o+k*e.sz) (aM:a.eval x=.pointer (some ⟨b,p,none⟩)) (aN:a.eval y=v) (hs:(P.info? t).map (·.size)=some n) (hl:v.cells.toList=l) (aO:l.length=n)
  (h1:∀u∈l,u.oneCell'=true) (aC:e.R w Z l z'):
  Cg P ⟨dst,.store t x y,ty,pos,Cc,g⟩ a w (fun _ w'=>w.grownBy w' (ob A)∧∃BJ,R2 e w Z BJ (xs.set k z')∧Fm w' n0 r e.sz A (xs.set k z').length c BJ.flatten):=by
 obtain⟨BJ,h2,aP⟩:=s;obtain⟨aY,aT,aD,aU⟩:=h2.get aB;have aV:=e.len aD;have aE:=e.len aC;subst aK;subst aL;have aF:k<xs.length:=(List.getElem?_eq_some_iff.1 aB).1;have hlen:=h2.len;have f:=h2.lens;rcases aP.2 with⟨aG,h0⟩|⟨aZ,cap,cur,aG,aH,aQ,i,aI,aA,h⟩
 ·omega
 ·cases aG;have aW:k*e.sz+e.sz≤xs.length*e.sz:=by
   have:(k+1)*e.sz≤xs.length*e.sz:=Nat.mul_le_mul_right _ aF;rw[Nat.add_mul,Nat.one_mul] at this;exact this
  have aX:xs.length*e.sz≤c*e.sz:=Nat.mul_le_mul_right _ i;have aJ:Bk w b r cur:=aQ;refine(Bt (Cm:=setCells cur (0+k*e.sz) l) aM aN hs aJ hl aO (by omega) h1 rfl).mono ?_;rintro _ w' ⟨s1,s2,aR⟩;have d:=h2.set aC k;refine⟨aR,_,d,by rw[d.L7],.inr ⟨b,c,setCells cur (0+k*e.sz) l,rfl,aH,s2,by rw[List.length_set];exact i,aI,by rw[MY 0];exact aA,?_⟩⟩;rw[List.length_set];rcases Nat.eq_zero_or_pos e.sz with h0|h0
  ·have aS:(BJ.set k l).flatten=[]:=List.eq_nil_of_length_eq_zero (by rw[d.L7,h0,Nat.mul_zero]);rw[aS,h0,Nat.mul_zero,List.take_zero]
  ·refine List.ext_getElem? fun j=>?_;rw[Q6 aE h0 k BJ j f (by omega),List.getElem?_take,Array.getElem?_toList,Nk _ _ _ _ (by omega)];have m:∀j:Nat,BJ.flatten[j]?=if j<xs.length*e.sz then cur[j]? else none:=fun j=>by
    rw[←h,List.getElem?_take,Array.getElem?_toList]
   by_cases hj:j<xs.length*e.sz
   ·rw[if_pos hj]
    by_cases q:k*e.sz≤j∧j<k*e.sz+e.sz
    ·rw[if_pos (by omega),if_pos q,show j-(0+k*e.sz)=j-k*e.sz by omega]
    ·rw[if_neg (by omega),if_neg q,m,if_pos hj]
   ·rw[if_neg hj,if_neg (by omega),m,if_neg hj]
theorem Uo{α:Type}{e:CD α}{f t:TypeId}{x y:Operand}{b o k p c:Nat}{v:Value}{n0:Nat}{Z:Nat→Prop}{A:Option Addr}{xs:List α}{z z':α}{l:List Value}{n:Nat}
  (d:Bp e f n0 w Z A c xs)(i:xs[k]?=some z)(j:A=some ⟨b,o,none⟩)(m:p=o+k)(q:a.eval x=.pointer (some ⟨b,p,none⟩))(r:a.eval y=v)(hs:(P.info? t).map (·.size)=some n)(hl:v.cells.toList=l)(s:l.length=n)
  (h1:∀u∈l,u.oneCell'=true)(aA:e.R w Z l z')(h:e.sz=1:=by rfl):
  Cg P ⟨dst,.store t x y,ty,pos,Cc,g⟩ a w (fun _ w'=>w.grownBy w' (ob A)∧∃BJ,R2 e w Z BJ (xs.set k z')∧Fm w' n0 f e.sz A (xs.set k z').length c BJ.flatten):=
 VJ d i j (by rw[h,Nat.mul_one];exact m) q r hs hl s h1 aA
end
theorem LF{l:List Int}{i:Nat}{x:Int}(h:l[i]?=some x):(l.map fun n=>Value.int .i64 n)[i]?=some (.int .i64 x):=by rw[List.getElem?_map,h];rfl
def TC(w:World)(D:Nat→Prop)(M:World→Prop):Nat→World→Prop
 |0,w'=>Ext w w'
 |_+1,w'=>BX D w w'∧M w'
section
variable{w w' BI:World}{D:Nat→Prop}{M:World→Prop}{ph:Nat}
theorem ZH(h:TC w D M ph w'):BX D w w':=by
 cases ph with
 |zero=>exact Gd h
 |succ=>exact h.1
theorem Pz(h:TC w D M ph w')(a:ph=0):Ext w w':=by subst a;exact h
theorem ZI(c:∀a b,M a→Ext a b→M b)(h:TC w D M ph w')(g:Ext w' BI):TC w D M ph BI:=by
 cases ph with
 |zero=>exact Ext.trans h g
 |succ=>exact⟨(show BX D w w' from h.1).trans (Gd g),c _ _ h.2 g⟩
theorem Aa1(h:TC w D M ph w')(a:ph=0)(g:BX D w' BI)(b:M BI):TC w D M (ph+1) BI:=by
 subst a;exact⟨(Gd h).trans g,b⟩
theorem Xq{r:Option Nat}(g:w.grownBy w' r):BX (FU FN [r]) w w':=LB g fun k e=>.inr (by rw[e];exact List.mem_singleton_self _)
end
section
variable{F F':Nat→Prop}{B:List (Option Nat)}{w0 w w':World}{L M:List (Option Nat)}
theorem Hp.O1{α:Type}{e:CD α}{t:TypeId}{A:Option Addr}{c:Nat}{xs:List α}{Z Z':Nat→Prop}(h:Hp F B w0 L w)(a:∀w Z w' Z' cs x,e.R w Z cs x→e.R w' Z' cs x)(hr:Bp e t w.heap.size w' Z' A c xs):Bp e t w0.heap.size w' Z A c xs:=
 Bp.Aa0 a (hr.base (n1:=w0.heap.size) fun k hk=>Nat.le_trans h.sz (hr.ge k hk))
end
def TN(w:World)(R:World→Value→World→Prop)(a:World):Prop:=∃v w1 w2,Ext w w1∧R w1 v w2∧Ext w2 a
theorem Up{w:World}{R:World→Value→World→Prop}:∀a b,TN w R a→Ext a b→TN w R b:=fun _ _ ⟨v,w1,w2,h1,h2,c⟩ g=>⟨v,w1,w2,h1,h2,Ext.trans c g⟩
def HA(n:Nat)(w:World):List Nat→Prop
 |[]=>True
 |b::l=>n≤b∧b<w.heap.size∧(l.all fun x=> !Nat.beq b x)=true∧HA n w l
section
variable{F F':Nat→Prop}{B:List (Option Nat)}{w0 w w':World}{L M:List (Option Nat)}{Z:Nat→Prop}
theorem HA.mem{n:Nat}:∀{l:List Nat},HA n w l→∀b∈l,n≤b∧b<w.heap.size
 |[],_,_,h=>by cases h
 |x::l,h,b,hb=>by
  rcases List.mem_cons.1 hb with rfl|hb
  ·exact⟨h.1,h.2.1⟩
  ·exact HA.mem h.2.2.2 b hb
theorem HA.grow{n a:Nat}(b:a≤n)(hs:w.heap.size≤w'.heap.size):∀{l:List Nat},HA n w l→HA a w' l
 |[],_=>trivial
 |_::_,h=>⟨Nat.le_trans b h.1,Nat.lt_of_lt_of_le h.2.1 hs,h.2.2.1,HA.grow b hs h.2.2.2⟩
theorem Hp.Q9(h:Hp F B w0 L w):∀{l:List Nat},Hp F B w0 L w'→HA w.heap.size w' l→Hp F B w0 (l.map some++L) w'
 |[],a,_=>a
 |b::l,a,hl=>by
  have h2:=Hp.Q9 h a hl.2.2.2;refine⟨h2.ch,fun k hk=>?_,?_,h.ff⟩
  ·rcases List.mem_cons.1 hk with e|hk
   ·cases e;exact⟨hl.2.1,fun g=>absurd (h.ff _ g) (by have:=h.sz;have:=hl.1;omega),fun d=>absurd d (by have:=h.sz;have:=hl.1;omega)⟩
   ·exact h2.lo k hk
  ·have key:∀(j:Nat) (x:Nat),(l.map some++L)[j]?=some (some x)→x≠b:=fun j x m e=>by
    subst e;have hm:=List.mem_of_getElem? m;rcases List.mem_append.1 hm with hm|hm
    ·obtain⟨y,n,e⟩:=List.mem_map.1 hm;cases e;have:=List.all_eq_true.1 hl.2.2.1 x n;rw[Nat.beq_refl] at this;cases this
    ·have:=(h.lo x hm).1;have:=hl.1;omega
   intro i j x f hi hj;cases i with
   |zero=>
    cases j with
    |zero=>exact f rfl
    |succ j=>
     have c:b=x:=by simpa using hi
     exact key j x (by simpa using hj) c.symm
   |succ i=>
    cases j with
    |zero=>
     have c:b=x:=by simpa using hj
     exact key i x (by simpa using hi) c.symm
    |succ j=>exact h2.ap i j x (by omega) (by simpa using hi) (by simpa using hj)
theorem Hp.I1(h:Hp F B w0 L w)(g:Ext w w'){l:List Nat}(hl:HA w.heap.size w' l):Hp F B w0 (l.map some++L) w':=h.Q9 (h.ext g) hl
theorem Cj{n0:Nat}{l:List Nat}(hm:Mv w (ZZ F B Z n0 L) w' (ZZ F B Z n0 L))(hl:HA w.heap.size w' l):Mv w (ZZ F B Z n0 L) w' (ZZ F B Z n0 (l.map some++L)):=
 ⟨hm.size,fun k hk b=>⟨(hm.stay k hk b).1.imp id fun⟨h1,h2⟩=>⟨h1,fun a=>by
  rcases List.mem_append.1 a with a|a
  ·obtain⟨y,c,e⟩:=List.mem_map.1 a;cases e;have:=(hl.mem k c).1;omega
  ·exact h2 a⟩,(hm.stay k hk b).2⟩⟩
theorem QF{b c:Nat}(hb:w.heap.size≤b)(a:b<w'.heap.size)(f:w.heap.size≤c)(d:c<w'.heap.size)(e:b≠c):HA w.heap.size w' [b,c]:=
 ⟨hb,a,by
  have:Nat.beq b c=false:=by
   cases h:Nat.beq b c with
   |false=>rfl
   |true=>exact absurd (Nat.eq_of_beq_eq_true h) e
  simp[this],f,d,rfl,trivial⟩
theorem Hp.No (h:Hp F B w0 L w):∀(l:List Nat) (c:List Nat),IC L c (l.map some)→Me c=true→(∀b∈l,w0.heap.size≤b)→HA w0.heap.size w l
 |[],_,_,_,_=>trivial
 |b::l,[],a,_,_=>a.elim
 |b::l,j::c,a,e,d=>by
  simp only[Me,Bool.and_eq_true] at e;refine⟨d b (List.mem_cons_self ..),(h.lo b (List.mem_of_getElem? a.1)).1,?_,h.No l c a.2 e.2 fun x f=>d x (List.mem_cons_of_mem _ f)⟩;rw[List.all_eq_true];intro x f;cases hb:Nat.beq b x with
  |false=>rfl
  |true=>
   have g:=Nat.eq_of_beq_eq_true hb;subst g;have h1:=h.CI (F':=FN) j a.1 c e.1 a.2 (fun _ h=>h.elim);exact absurd (.inr (List.mem_map.2 ⟨b,f,rfl⟩)) h1
theorem Ge{n0:Nat}:Mv w (ZZ F B Z n0 L) w (ZZ FN [] Z n0 [none]):=Ll fun b hb _=>by
 rcases hb with⟨h1,h2,_⟩|⟨h1,_⟩
 ·exact .inl ⟨h1,h2,id,by simp⟩
 ·exact .inr ⟨h1,by simp⟩
end
section
variable{P:Program}{N:Nat}{Q:Exit→Act→World→Prop}{a:Act}{l:Env}{w:World}
def TO(a:Act):Act:={a with defers:=[]}
theorem P9(a:Act):∀l:Env,Cf (TO a) l=TO (Cf a l)
 |[]=>rfl
 |(d,v)::l=>by simp only[Cf,P9 a l];rfl
theorem Mg{D:Nat}{fn:Func}{R:Value→World→Prop}(b:w.heap[D]?=some (.deferred (some [])))(h:∀w',J2 D w w'→LV X0 N (bodyPost P fn (fun e w'=>∃v,e=.returned v∧R v w')) .ret (TO a) l w'):
  LV (X1 D) N (PM P fn R) .ret a l w:=fun s=>by
 have hs:St X0 N (TO a) l:=⟨s.sz,rfl,s.lt⟩;obtain⟨_,v,hr,c⟩:=h _ (JS w D (.deferred none)) hs;show LeavesInM Fence.wide 0 P fn _ _ (Cf a l).defers .returning w;rw[EE,show a.defers=mark D from s.df];refine⟨by simp,.inl ⟨D,_,rfl,run_takeDeferred b,?_⟩⟩;rw[P9] at hr;exact⟨v,hr,c⟩
end
theorem SF{α:Type}{b:Bool}{x:Option α}{r:α}(h:cond b none x=some r):b=false∧x=some r:=by
 cases b with
 |true=>cases h
 |false=>exact⟨rfl,h⟩
def GU(xs:List Int):List Int:=xs.mergeSort fun x y=>decide (x≤y)
theorem LG(xs:List Int):(GU xs).length=xs.length:=List.length_mergeSort _
theorem Uq{w:World}{Z:Nat→Prop}:∀{BJ:List (List Value)} {xs:List Int},R2 (Al .i64) w Z BJ xs→BJ.flatten=JA xs
 |[],[],_=>rfl
 |c::BJ,x::xs,h=>by
  have h1:c=[.int .i64 x]:=h.1;rw[List.flatten_cons,Uq h.2,h1];rfl
 |[],_::_,h=>h.elim
 |_::_,[],h=>h.elim
theorem Ur{w:World}{Z:Nat→Prop}:∀xs:List Int,R2 (Al .i64) w Z (xs.map fun x=>[.int .i64 x]) xs
 |[]=>trivial
 |_::xs=>⟨rfl,Ur xs⟩
theorem VK(xs:List Int):(xs.map fun x=>[Value.int .i64 x]).flatten=JA xs:=by
 induction xs with
 |nil=>rfl
 |cons x xs ih=>rw[List.map_cons,List.flatten_cons,ih];rfl
theorem TP{t:TypeId}{n0:Nat}{w:World}{Z:Nat→Prop}{A:Option Addr}{c:Nat}{xs:List Int}(h:Bp (Al .i64) t n0 w Z A c xs):Fm w n0 t 1 A xs.length c (JA xs):=by
 obtain⟨BJ,h1,h2⟩:=h;rw[←Uq h1];exact h2
theorem QG{t:TypeId}{n0:Nat}{w:World}{Z:Nat→Prop}{A:Option Addr}{c:Nat}{xs:List Int}(h:Fm w n0 t 1 A xs.length c (JA xs)):Bp (Al .i64) t n0 w Z A c xs:=
 ⟨_,Ur xs,by rw[VK];exact h⟩
section
variable{P:Program}{N:Nat}{a:Act}{l:Env}{w:World}
theorem Oq{fn:Func}{r p m:ResultVar}{v v' Om:Value}{R:Value→World→Prop}(hr:fn.results= #[r,p,m])(h1:Q4 P a l w r v)(h2:Q4 P a l w p v')(g:Q4 P a l w m Om)(h:R (.tuple #[v,v',Om]) w):
  LV X0 N (bodyPost P fn (fun e w'=>∃v,e=.returned v∧R v w')) .ret a l w:=fun s=>by
 refine bodyPost_ret (v:=.tuple #[v,v',Om]) ?_ (by rw[EE,s.df]) ⟨_,rfl,h⟩;cases r with
 |tmp t0=>
  have d:(Cf a l).tmps.getD t0 undef=v:=ee s h1;simp only[Array.getD_eq_getD_getElem?] at d;cases p with
  |tmp t1=>
   have c:(Cf a l).tmps.getD t1 undef=v':=ee s h2;simp only[Array.getD_eq_getD_getElem?] at c;cases m with
   |tmp t2=>
    have b:(Cf a l).tmps.getD t2 undef=Om:=ee s g;simp only[Array.getD_eq_getD_getElem?] at b;simp[results,hr,d,c,b]
   |cell i t2=>
    obtain⟨f,j,k⟩:=g;have b:(Cf a l).tmps.getD i undef=.pointer (some f):=ee s j;simp only[Array.getD_eq_getD_getElem?] at b;simp[results,hr,d,c,b,asAddr,k]
  |cell t t1=>
   obtain⟨n,u,o⟩:=h2;have c:(Cf a l).tmps.getD t undef=.pointer (some n):=ee s u;simp only[Array.getD_eq_getD_getElem?] at c;cases m with
   |tmp t2=>
    have b:(Cf a l).tmps.getD t2 undef=Om:=ee s g;simp only[Array.getD_eq_getD_getElem?] at b;simp[results,hr,d,c,asAddr,o,b]
   |cell i t2=>
    obtain⟨f,j,k⟩:=g;have b:(Cf a l).tmps.getD i undef=.pointer (some f):=ee s j;simp only[Array.getD_eq_getD_getElem?] at b;simp[results,hr,d,c,asAddr,o,b,asAddr,k]
 |cell y t0=>
  obtain⟨x,z,q⟩:=h1;have d:(Cf a l).tmps.getD y undef=.pointer (some x):=ee s z;simp only[Array.getD_eq_getD_getElem?] at d;cases p with
  |tmp t1=>
   have c:(Cf a l).tmps.getD t1 undef=v':=ee s h2;simp only[Array.getD_eq_getD_getElem?] at c;cases m with
   |tmp t2=>
    have b:(Cf a l).tmps.getD t2 undef=Om:=ee s g;simp only[Array.getD_eq_getD_getElem?] at b;simp[results,hr,d,asAddr,q,c,b]
   |cell i t2=>
    obtain⟨f,j,k⟩:=g;have b:(Cf a l).tmps.getD i undef=.pointer (some f):=ee s j;simp only[Array.getD_eq_getD_getElem?] at b;simp[results,hr,d,asAddr,q,c,b,asAddr,k]
  |cell t t1=>
   obtain⟨n,u,o⟩:=h2;have c:(Cf a l).tmps.getD t undef=.pointer (some n):=ee s u;simp only[Array.getD_eq_getD_getElem?] at c;cases m with
   |tmp t2=>
    have b:(Cf a l).tmps.getD t2 undef=Om:=ee s g;simp only[Array.getD_eq_getD_getElem?] at b;simp[results,hr,d,asAddr,q,c,asAddr,o,b]
   |cell i t2=>
    obtain⟨f,j,k⟩:=g;have b:(Cf a l).tmps.getD i undef=.pointer (some f):=ee s j;simp only[Array.getD_eq_getD_getElem?] at b;simp[results,hr,d,asAddr,q,c,asAddr,o,b,asAddr,k]
end
end Go.Proofs.YtbhofkcbfblijaaGreat
end
section
namespace Go.Proofs.YtbhofkcbfblijaaGreat
open Go.RowKit
theorem Ra{b:Bool}(h:b=true→False):b=false:=by cases b<;>simp_all
theorem Np{b:Bool}(h:b=false)(k:b=true):False:=by rw[h] at k;cases k
section
variable{F F':Nat→Prop}{B:List (Option Nat)}{w0 w w' BI:World}{Z:Nat→Prop}{L M:List (Option Nat)}
theorem Ot(h:Ext w w'){r:Option Nat}(g:w'.grownBy BI r)(hr:∀k,r=some k→w.heap.size≤k):Ext w BI:=
 ⟨g.os.trans h.os,g.tape.trans h.tape,g.output.trans h.output,Nat.le_trans h.size g.size,fun k hk _=>(g.block k (Nat.lt_of_lt_of_le hk h.size) (fun e=>by have:=hr k e.symm;omega)).trans (h.block k hk (by simp))⟩
theorem JM{D:Nat→Prop}(h:BX D w w'){r:Option Nat}(g:w'.grownBy BI r)(hr:∀k,r=some k→D k∨w.heap.size≤k):BX D w BI:=
 ⟨g.os.trans h.os,g.tape.trans h.tape,g.output.trans h.output,Nat.le_trans h.size g.size,fun k hk a=>(g.block k (Nat.lt_of_lt_of_le hk h.size) (fun e=>by
  rcases hr k e.symm with h1|h1
  ·exact a h1
  ·omega)).trans (h.block k hk a)⟩
theorem Ig{x y:Option Nat}{n:Nat}(hl:∀k,x=some k→n≤k)(hs:n≤w'.heap.size)(a:∀k,y=some k→(x=some k∨w'.heap.size≤k)∧k<BI.heap.size):∀k,y=some k→n≤k:=fun k hk=>
 (a k hk).1.elim (hl k) (fun h=>Nat.le_trans hs h)
theorem Ou{x y a:Option Nat}{n:Nat}(hl:∀k,x=some k→a=some k∨n≤k)(hs:n≤w'.heap.size)(b:∀k,y=some k→(x=some k∨w'.heap.size≤k)∧k<BI.heap.size):∀k,y=some k→a=some k∨n≤k:=fun k hk=>
 (b k hk).1.elim (hl k) (fun h=>.inr (Nat.le_trans hs h))
theorem LH{b:Nat}{t:TypeId}{cs:Array Value}(nb:Ms w' BI b t cs):∀k,ob (some ⟨b,0,none⟩)=some k→((none:Option Nat)=some k∨w'.heap.size≤k)∧k<BI.heap.size:=fun k e=>by
 cases e;exact⟨.inr (Nat.le_of_eq nb.FI.symm),nb.bk.lt⟩
theorem Rb{α:Type}{e:CD α}{t:TypeId}{A:Option Addr}{c:Nat}{xs:List α}{Z:Nat→Prop}(h:Bp e t w'.heap.size BI Z A c xs):∀k,ob A=some k→((none:Option Nat)=some k∨w'.heap.size≤k)∧k<BI.heap.size:=fun k e=>⟨.inr (h.ge k e),h.KD k e⟩
end
theorem qz{X:Ctx}{N:Nat}{a:Act}{l:Env}(st:St X N a l):(Cf a l).tmps.size=N:=(K1 _ _).trans st.sz
theorem qd{X:Ctx}{N:Nat}{a:Act}{l:Env}(st:St X N a l):(Cf a l).defers=X.ds:=(EE _ _).trans st.df
theorem sp{X:Ctx}{N:Nat}{a:Act}{l:Env}(st:St X N a l)(k:Nat){v:Value}(h:lk (sl a k) l k=v):sl (Cf a l) k=v:=(Ln st k).trans h
theorem Hp.nb{F:Nat→Prop}{B L:List (Option Nat)}{w0 w w':World}{b:Nat}{t:TypeId}{cs:Array Value}(h:Hp F B w0 L w)(n:Ms w w' b t cs):Hp F B w0 (some b::L) w':=h.new n.gr (Nat.le_of_eq n.FI.symm) (Nat.lt_of_lt_of_eq (Nat.lt_succ_self _) n.sz.symm)
theorem Hp.BH{F:Nat→Prop}{B L:List (Option Nat)}{w0 w w':World}{b:Nat}{t:TypeId}{cs:Array Value}(h:Hp F B w0 L w)(n:Ms w w' b t cs):w0.heap.size≤b:=by rw[n.FI];exact h.sz
theorem Ay{F:Nat→Prop}{B L:List (Option Nat)}{Z:Nat→Prop}{w w':World}{n0 b:Nat}{t:TypeId}{cs:Array Value}(n:Ms w w' b t cs):Mv w (ZZ F B Z n0 L) w' (ZZ F B Z n0 (some b::L)):=Nh n.gr (Nat.le_of_eq n.FI.symm)
theorem X2{b c:Sort _}{p:b→c→Prop}{C:Prop}(h:∃a x1,p a x1)(k:∀a x1,p a x1→C):C:=h.elim fun a h=>h.elim fun x1 h=>k a x1 h
theorem X4{c d e f:Sort _}{p:c→d→e→f→Prop}{C:Prop}(h:∃a x1 x2 b,p a x1 x2 b)(k:∀a x1 x2 b,p a x1 x2 b→C):C:=h.elim fun a h=>h.elim fun x1 h=>h.elim fun x2 h=>h.elim fun b h=>k a x1 x2 b h
theorem Y2{a0 a1 r C:Prop}(h:a0∧a1∧r)(k:a0→a1→r→C):C:=h.elim fun a h=>h.elim fun x1 h=>k a x1 h
theorem Y4{a0 a1 a2 a3 r C:Prop}(h:a0∧a1∧a2∧a3∧r)(k:a0→a1→a2→a3→r→C):C:=h.elim fun a h=>h.elim fun x1 h=>h.elim fun x2 h=>h.elim fun b h=>k a x1 x2 b h
theorem Y8{a0 a1 a2 a3 a4 a5 a b r C:Prop}(h:a0∧a1∧a2∧a3∧a4∧a5∧a∧b∧r)(k:a0→a1→a2→a3→a4→a5→a→b→r→C):C:=h.elim fun c h=>h.elim fun x1 h=>h.elim fun x2 h=>h.elim fun d h=>h.elim fun e h=>h.elim fun f h=>h.elim fun g h=>h.elim fun i h=>k c x1 x2 d e f g i h
theorem ME{α β:Type}{o:Option α}{A:Option β}{f:α→Option β}{r:β}(h:o=none)(a:Option.elim o A f=some r):A=some r:=by rw[h] at a;exact a
theorem MF{α β:Type}{o:Option α}{A:Option β}{f:α→Option β}{r:β}{x:α}(h:o=some x)(a:Option.elim o A f=some r):f x=some r:=by rw[h] at a;exact a
theorem Hp.KV{F:Nat→Prop}{B L:List (Option Nat)}{Z:Nat→Prop}{w0 w w':World}{b r:Nat}(h:Hp F B w0 L w)(c:HA w.heap.size w' [b,r]):Mv w' (ZZ FN [] (ZZ F B Z w0.heap.size L) w.heap.size [some b,some r]) w' (ZZ F B Z w0.heap.size (some b::some r::L)):=
 h.call (Nat.le_refl _) (fun k hk=>.inr (by
  have e:k=b∨k=r:=by simpa using hk
  rcases e with e|e<;>rw[e]
  ·exact(c.mem _ (by simp)).1
  ·exact(c.mem _ (by simp)).1)) (fun x a=>by
  simp only[List.mem_cons] at a;rcases a with rfl|rfl|a
  ·right;simp
  ·right;simp
  ·left;exact a)
theorem Hp.ZJ{F:Nat→Prop}{B L:List (Option Nat)}{Z:Nat→Prop}{w0 w w':World}{b r n:Nat}(h:Hp F B w0 L w)(hs:w.heap.size≤n)(c:HA n w' [b,r]):Mv w' (ZZ FN [] (ZZ F B Z w0.heap.size L) n [some b,some r]) w' (ZZ F B Z w0.heap.size (some b::some r::L)):=
 h.call hs (fun k hk=>.inr (by
  have e:k=b∨k=r:=by simpa using hk
  rcases e with e|e<;>rw[e]
  ·exact(c.mem _ (by simp)).1
  ·exact(c.mem _ (by simp)).1)) (fun x a=>by
  simp only[List.mem_cons] at a;rcases a with rfl|rfl|a
  ·right;simp
  ·right;simp
  ·left;exact a)
theorem KW{w:World}{Z:Nat→Prop}{b:Nat}{t:TypeId}{cs:Array Value}{l:List Value}(h:Bk w b t cs)(a:Z b)(hl:l=cs.toList):Rz w Z (some ⟨b,0,none⟩) l:=
 .inr ⟨b,0,rfl,a,h.lt,fun j u hu=>by rw[Nat.zero_add,h.cell];subst hl;simpa using hu⟩
theorem Aa2{w w':World}{b:Nat}(hb:w.heap.size≤b)(hs:b<w'.heap.size):HA w.heap.size w' [b]:=⟨hb,hs,(by simp),trivial⟩
theorem Xr{n b r:Nat}{w:World}(c:HA n w [b,r]):Bw FN [some r] w:=⟨fun k hk=>by
  have e:k=r:=by simpa using hk
  rw[e];exact⟨(c.mem r (by simp)).2,fun h=>h⟩,fun i j k a hi hj=>by
  cases i with
  |zero=>cases j with
   |zero=>exact absurd rfl a
   |succ j=>simp at hj
  |succ i=>simp at hi,fun _ h=>h.elim⟩
theorem ZK{n b r:Nat}{w:World}(a:HA n w [b,r]):b≠r:=fun e=>by
 have h:=a.2.2.1;simp[e] at h
theorem Abu{n b r:Nat}{w:World}(a:HA n w [b,r]):ZC FN [some r] b:=⟨fun h=>h,fun hm=>ZK a (by simpa using hm)⟩
theorem L3{n b r:Nat}{w:World}{Z:Nat→Prop}(a:HA n w [b,r]):∀k,ZZ FN [] Z n [some b,some r] k→ZC FN [some r] k:=fun k hk=>⟨fun h=>h,fun hm=>by
 have e:k=r:=by simpa using hm
 have h1:=(a.mem r (by simp)).1;rcases hk with⟨h,_⟩|⟨_,h⟩
 ·omega
 ·exact h (by rw[e];simp)⟩
theorem Sj{w0 w w':World}{r:Nat}(h:Ext w0 w)(g:BX (FU FN [some r]) w w')(hr:w0.heap.size≤r):Ext w0 w':=⟨g.os.trans h.os,g.tape.trans h.tape,g.output.trans h.output,Nat.le_trans h.size g.size,fun b hb _=>by
 have h1:=h.block b hb (by simp);have h2:=g.block b (Nat.lt_of_lt_of_le hb h.size) (fun a=>by
  rcases a with a|a
  ·exact a
  ·have e:b=r:=by simpa using a
   omega)
 exact h2.trans h1⟩
theorem Aa3{α:Type}{ev:α→Value}{n:Nat}{L:List (List Int×α)}{w:World}{b r:Nat}{t:TypeId}{cs:Array Value}(h:Bk w b t cs)(hm:Cy ev w r n L):¬FU FN [some r] b:=by
 rintro(a|a)
 ·exact a
 ·have e:b=r:=by simpa using a
  obtain⟨es,cl,h1,_⟩:=hm;rw[←e] at h1;have h2:w.heap[b]?=some (.cells cs t (0,0)):=h;rw[h2] at h1;cases h1
theorem Fm.cut{w:World}{base e sz n c k:Nat}{A:Option Addr}{xs:List Value}(h:Fm w base e sz A n c xs)(hk:k≤n):Fm w base e sz A k c (xs.take (k*sz)):=by
 have hl:=h.1;have hle:k*sz≤n*sz:=Nat.mul_le_mul_right _ hk;refine⟨by rw[List.length_take];omega,?_⟩;rcases h.2 with⟨a,h0⟩|⟨g,cap,cur,a,hb,f,j,b,d,i⟩
 ·have:k=0:=by omega
  subst this;subst h0;cases a;exact .inl ⟨rfl,rfl⟩
 ·cases a;refine .inr ⟨g,c,cur,rfl,hb,f,by omega,b,d,?_⟩;rw[←i,List.take_take,Nat.min_eq_left hle]
section
variable{α:Type}{e:CD α}{t:TypeId}{n0:Nat}{w w':World}{Z Z':Nat→Prop}{A:Option Addr}{c:Nat}{xs:List α}
theorem R2.QH:∀(k:Nat) {BJ:List (List Value)} {xs:List α},R2 e w Z BJ xs→k≤xs.length→BJ.flatten.take (k*e.sz)=(BJ.take k).flatten
 |0,_,_,_,_=>by simp
 |k+1,[],[],_,hk=>by simp at hk
 |k+1,[],_::_,h,_=>by cases h
 |k+1,_::_,[],h,_=>by cases h
 |k+1,cs::BJ,x::xs,h,hk=>by
  have h1:cs.length=e.sz:=e.len h.1;have ih:=R2.QH k h.2 (by simpa using hk);rw[List.flatten_cons,List.take_succ_cons,List.flatten_cons,←ih,Nat.succ_mul,Nat.add_comm,List.take_append,h1,List.take_of_length_le (by omega)]
  congr 2
  omega
theorem Bp.cut(h:Bp e t n0 w Z A c xs){k:Nat}(hk:k≤xs.length):Bp e t n0 w Z A c (xs.take k):=by
 obtain⟨BJ,h1,h2⟩:=h;refine⟨BJ.take k,h1.take k,?_⟩;have a:=h2.cut hk;rw[R2.QH k h1 hk] at a
 rwa[List.length_take,Nat.min_eq_left hk]
end
section
variable{P:Program}{a:Act}{w:World}{dst:Option Tmp}{ty:TypeId}{pos:String}{Cc:Array Edge}{g:Option (Nat×Bool)}
theorem ZL {α:Type} {e:CD α} {n0:Nat} {Z:Nat→Prop} {xs:List α} {t b:TypeId} {sz:Nat} {x y:Operand} {A:Option Addr} {c:Nat} {k:IntKind} {h:Int} (i:P.underlying t=some (.slice b)) (hs:(P.info? b).map (·.size)=some sz)
  (j:a.eval x=.slice A xs.length c) (l:a.eval y=.int k h) (m:Bp e b n0 w Z A c xs) (hb:0≤(0:Int)∧(0:Int)≤h∧h≤(xs.length:Int)):
  Cg P ⟨dst,.slice t x none (some y) none,ty,pos,Cc,g⟩ a w (fun u w'=>u=.slice A (Gb xs 0 h).length c∧w'=w):=by
 obtain⟨_,b2,b3⟩:=hb;have p:xs.length≤c:=by
  obtain⟨BJ,_,h2⟩:=m;rcases h2.2 with⟨d,h0⟩|⟨g,cap,cur,d,_,_,f,_⟩
  ·omega
  ·cases d;exact f
 have q:c=0→A=none∨A.map (·.add 0)=A:=fun _=>by
  cases A with
  |none=>exact .inl rfl
  |some ad=>right;simp[Addr.add]
 have o:A.map (·.add (0*sz))=A:=by
  cases A with
  |none=>rfl
  |some ad=>simp[Addr.add]
 have hlen:(Gb xs 0 h).length=h.toNat:=by
  unfold Gb;rw[List.length_drop,List.length_take];show min h.toNat xs.length-0=_;omega
 have n:(Instr.sliceBounds true xs.length c none (some (.int k h)) none).run P w=.ok (0,h.toNat,c) w:=by
  unfold Instr.sliceBounds;simp[Kq (P:=P) w k h c _ b2 (by omega)]
 refine Pw j rfl (by simp[l];rfl) ?_;rw[hlen];simp[Instr.sliceAt,Instr.slice,underlying,program,Sem.run,i,n,Kg hs];intro _;cases A with
 |none=>rfl
 |some ad=>simp[Addr.add]
theorem Rc {v:Value} {n:Nat} {t c:TypeId} {sz:Nat} {x:Operand} {b:Nat} {hi:Option Operand} {h:Int} (f:P.underlying t=some (.array n c)) (hs:(P.info? c).map (·.size)=some sz) (p:0<n)
  (i:a.eval x=.pointer (some ⟨b,0,none⟩)) (d:SB a hi h n) (hb:0≤h∧h≤(n:Int)) (j:Value.slice (some ⟨b,0,none⟩) h.toNat n=v):
  Cg P ⟨dst,.slice t x none hi none,ty,pos,Cc,g⟩ a w (fun u w'=>u=v∧w'=w):=by
 subst j;have l:(Instr.sliceBounds false n n none (hi.map a.eval) none).run P w=.ok (0,h.toNat,n) w:=by
  unfold Instr.sliceBounds;rcases d with⟨rfl,rfl⟩|⟨y,k,rfl,m⟩
  ·simp
  ·have q1:=fun code=>Kq (P:=P) w k h n code hb.1 hb.2;simp[m,q1]
 refine Pw i rfl rfl ?_;have e:n≠0:=by omega
 have o:(Instr.sureAddr (.pointer (some ⟨b,0,none⟩))).run P w=.ok ⟨b,0,none⟩ w:=rfl;simp only[Instr.sliceAt,Sem.run_bind,run_underlying f,Result.andThen_ok,o,l,Kg hs,Sem.run_pure,Option.map_none];simp[e,GQ]
theorem ZM {α:Type} {e:CD α} {Z:Nat→Prop} {A:Option Addr} {c:Nat} {xs:List α} {h:Int} (i:Sl e w Z A c xs) (hb:0≤(0:Int)∧(0:Int)≤h∧h≤(xs.length:Int)):Sl e w Z A c (Gb xs 0 h):=by
 obtain⟨n,f,BJ,h2,d⟩:=i;have hlen:(Gb xs 0 h).length≤xs.length:=by unfold Gb;rw[List.length_drop,List.length_take];omega
 have k:(0:Int).toNat=0:=rfl;have hk:h.toNat≤xs.length:=by omega
 refine⟨by omega,f,BJ.take h.toNat,?_,?_⟩
 ·have:=h2.take h.toNat;unfold Gb
  rwa[k,List.drop_zero]
 ·rcases d with d|⟨b,o,rfl,l,g,a⟩
  ·left;have m:=R2.QH h.toNat h2 hk;rw[←m,d];simp
  ·refine .inr ⟨b,o,rfl,l,g,fun j u hu=>a j u ?_⟩;rw[←R2.QH h.toNat h2 hk] at hu;exact List.getElem?_eq_some_iff.2 (by
    obtain⟨hj,he⟩:=List.getElem?_eq_some_iff.1 hu;rw[List.length_take] at hj;exact⟨by omega,by rw[←he,List.getElem_take]⟩)
def vI(x:Int):Value:=.int .i64 x
def SG (xs ys:List Int):List Int:=xs.take ys.length++ys.drop xs.length
theorem SH{d s:Operand}{t e:TypeId}(x:P.underlying t=some (.slice e))(hs:(P.info? e).map (·.size)=some 1){b:Nat}{l:TypeId}{Z:Nat→Prop}{A:Option Addr}{xs ys:List Int}{c n:Nat}{cs Cm:Array Value}(z:ys.length=n)
  (aH:a.eval d=.slice (some ⟨b,0,none⟩) n n)(aI:a.eval s=.slice A xs.length c)(hb:Bk w b l cs)(m:cs.toList=ys.map vI)(aA:Sl (Al .i64) w Z A c xs)(p:Cm.toList=(SG xs ys).map vI):
  Cg P ⟨dst,.call {callee:=.builtin .copy,args:= #[d,s],argTypes:= #[t,t]},ty,pos,Cc,g⟩ a w (fun _ w'=>QJ w w' b l Cm):=by
 have fin:∀(v:Int) (w':World),(Builtin.copy_ #[t,t] ty #[.slice (some ⟨b,0,none⟩) n n,.slice A xs.length c]).run P w=.ok (.int .i64 v) w'→QJ w w' b l Cm→Cg P ⟨dst,.call {callee:=.builtin .copy,args:= #[d,s],argTypes:= #[t,t]},ty,pos,Cc,g⟩ a w (fun _ w'=>QJ w w' b l Cm):=by
  intro v w' f h;have hex:(execOp a.eval ⟨dst,.call {callee:=.builtin .copy,args:= #[d,s],argTypes:= #[t,t]},ty,pos,Cc,g⟩).run P w=.ok (.value (.int .i64 v)) w':=by
   unfold execOp;simp only[resolve,invoke,builtin,Sem.run_bind,Sem.run_pure,Result.andThen_ok,List.map_toArray,List.map_cons,List.map_nil,aH,aI,f]
  unfold Cg;rw[hex];exact h
 by_cases h0:Nat.min xs.length n=0
 ·have f:=run_copy_none (P:=P) w t t ty e (some ⟨b,0,none⟩) A n n xs.length c x hs h0;have he:Cm=cs:=by
   apply Array.toList_inj.1;rw[p,m];have aB:min xs.length n=0:=h0;have h1:xs.length=0∨n=0:=by omega
   rcases h1 with h1|h1
   ·have:xs=[]:=List.eq_nil_of_length_eq_zero h1;subst this;simp[SG]
   ·have:ys=[]:=List.eq_nil_of_length_eq_zero (by omega);subst this;simp[SG]
  exact fin 0 w f ⟨rfl,by rw[he];exact hb,World.grownBy.refl _ _⟩
 ·have aC:0<xs.length:=by
   have aB:¬min xs.length n=0:=h0;omega
  obtain⟨aD,o,_,aJ,_,_⟩:=Sl.CR aA rfl (List.getElem?_eq_getElem aC);subst aJ;have q:∀(j:Nat) (v:Value),((xs.map vI).take n)[j]?=some v→w.cell? ((⟨aD,o,none⟩:Addr).add j)=some v:=by
   intro j v r;have i:(xs.map vI)[j]?=some v:=by
    obtain⟨hj,he⟩:=List.getElem?_eq_some_iff.1 r;rw[List.length_take] at hj;exact List.getElem?_eq_some_iff.2 ⟨by omega,by rw[←he,List.getElem_take]⟩
   rw[List.getElem?_map] at i;cases u:xs[j]? with
   |none=>rw[u] at i;cases i
   |some y=>
    rw[u] at i;obtain⟨b2,aN,aK,aE,aL,aM⟩:=Sl.CR aA rfl u;cases aE;have aF:aK=[.int .i64 y]:=aL;subst aF;have:=aM.cells 0 (.int .i64 y) rfl;rw[GQ];rw[Nat.add_zero] at this;rw[this];exact i
  have hlen:((xs.map vI).take n).length=Nat.min xs.length n:=by rw[List.length_take,List.length_map];exact Nat.min_comm _ _
  have aG:cs.size=n:=by rw[←Array.length_toList,m,List.length_map,z]
  have f:=run_copy_row (P:=P) w t t ty e b 0 n n ⟨aD,o,none⟩ xs.length c cs l ((xs.map vI).take n) x hs hb hlen q (by rw[hlen,aG,Nat.zero_add];exact Nat.min_le_right _ _) (fun v r=>by
   have:=List.mem_of_mem_take r;obtain⟨y,_,rfl⟩:=List.mem_map.1 this;rfl)
  have he:(cs.toList.take 0++(xs.map vI).take n++cs.toList.drop (0+((xs.map vI).take n).length)).toArray=Cm:=by
   apply Array.toList_inj.1;rw[p,m];unfold SG;rw[z];simp only[List.take_zero,List.nil_append,Nat.zero_add,hlen];rw[List.map_append,List.map_take,List.map_drop];show List.take n (List.map vI xs)++List.drop (min xs.length n) (List.map vI ys)=_
   congr 1
   rcases Nat.le_total xs.length n with h|h
   ·rw[Nat.min_eq_left h]
   ·rw[Nat.min_eq_right h,List.drop_of_length_le (by rw[List.length_map];omega),List.drop_of_length_le (by rw[List.length_map];omega)]
  rw[he] at f;exact fin _ _ f ⟨by simp[World.setRow],setRow_heap w b _ _ l _ hb,⟨rfl,rfl,rfl,by simp[World.setRow],fun k _ hk=>setRow_other w b k _ (fun e=>hk (by rw[e]))⟩⟩
end
theorem Xs{α:Type}{xs:List α}{h:Int}(hb:0≤(0:Int)∧(0:Int)≤h∧h≤(xs.length:Int)):(Gb xs 0 h).length=h.toNat:=by
 unfold Gb;rw[List.length_drop,List.length_take];show min h.toNat xs.length-0=_;omega
theorem Bp.Gb{α:Type}{e:CD α}{t:TypeId}{n0:Nat}{w:World}{Z:Nat→Prop}{A:Option Addr}{c:Nat}{xs:List α}{k:Int}(h:Bp e t n0 w Z A c xs)(hb:0≤(0:Int)∧(0:Int)≤k∧k≤(xs.length:Int)):Bp e t n0 w Z A c (Gb xs 0 k):=by
 unfold Go.Proofs.YtbhofkcbfblijaaGreat.Gb;exact h.cut (by omega)
theorem eL{P:Nat→Prop}:∀k,FN k→P k:=fun _ h=>h.elim
theorem oi{α:Type}{a b:α}(h:some a=some b):a=b:=Option.some.inj h
abbrev zf(Z:Nat→Prop)(w:World)(L:List (Option Nat)):Nat→Prop:=ZZ FN [] Z w.heap.size L
abbrev zb(B:List (Option Nat))(Z:Nat→Prop)(w:World)(L:List (Option Nat)):Nat→Prop:=ZZ FN B Z w.heap.size L
theorem mt{w w1 w2:World}{Z a b:Nat→Prop}(h:Mv w Z w1 a)(g:Mv w1 a w2 b):Mv w Z w2 b:=h.trans g
theorem K5{a:Type}{b:Type}{w w':World}{Z Z':Nat→Prop}{c:CD a}{d:Option Addr}{e:Nat}{f:List a}{g:CD b}{h:Option Addr}{i:Nat}{x1:List b}(h0:Sl c w Z d e f)(h1:Sl g w Z h i x1)(m:Mv w Z w' Z'):Sl c w' Z' d e f∧Sl g w' Z' h i x1:=⟨h0.mv m,h1.mv m⟩
theorem Er{a:Type}{b:Type}{c:Type}{w w':World}{Z Z':Nat→Prop}{d:CD a}{e:Option Addr}{f:Nat}{g:List a}{h:CD b}{i:Option Addr}{j:Nat}{x1:List b}{k:CD c}{l:Option Addr}{n:Nat}{x2:List c}(h0:Sl d w Z e f g)(h1:Sl h w Z i j x1)(h2:Sl k w Z l n x2)(m:Mv w Z w' Z'):Sl d w' Z' e f g∧Sl h w' Z' i j x1∧Sl k w' Z' l n x2:=⟨h0.mv m,h1.mv m,h2.mv m⟩
theorem ID{a:Type}{b:Type}{c:Type}{d:Type}{w w':World}{Z Z':Nat→Prop}{e:CD a}{f:Option Addr}{g:Nat}{h:List a}{i:CD b}{j:Option Addr}{k:Nat}{x1:List b}{l:CD c}{n:Option Addr}{o:Nat}{x2:List c}{p:CD d}{q:Option Addr}{r:Nat}{s:List d}(h0:Sl e w Z f g h)(h1:Sl i w Z j k x1)(h2:Sl l w Z n o x2)(t:Sl p w Z q r s)(m:Mv w Z w' Z'):Sl e w' Z' f g h∧Sl i w' Z' j k x1∧Sl l w' Z' n o x2∧Sl p w' Z' q r s:=⟨h0.mv m,h1.mv m,h2.mv m,t.mv m⟩
theorem ZN{a:Type}{b:Type}{c:Type}{d:Type}{e:Type}{w w':World}{Z Z':Nat→Prop}{f:CD a}{g:Option Addr}{h:Nat}{i:List a}{j:CD b}{k:Option Addr}{l:Nat}{x1:List b}{n:CD c}{o:Option Addr}{p:Nat}{x2:List c}{q:CD d}{r:Option Addr}{s:Nat}{t:List d}{u:CD e}{v:Option Addr}{x:Nat}{y:List e}(h0:Sl f w Z g h i)(h1:Sl j w Z k l x1)(h2:Sl n w Z o p x2)(z:Sl q w Z r s t)(aA:Sl u w Z v x y)(m:Mv w Z w' Z'):Sl f w' Z' g h i∧Sl j w' Z' k l x1∧Sl n w' Z' o p x2∧Sl q w' Z' r s t∧Sl u w' Z' v x y:=⟨h0.mv m,h1.mv m,h2.mv m,z.mv m,aA.mv m⟩
theorem CA{a:Type}{b:Type}{c:Type}{d:Type}{e:Type}{f:Type}{w w':World}{Z Z':Nat→Prop}{g:CD a}{h:Option Addr}{i:Nat}{j:List a}{k:CD b}{l:Option Addr}{n:Nat}{x1:List b}{o:CD c}{p:Option Addr}{q:Nat}{x2:List c}{r:CD d}{s:Option Addr}{t:Nat}{u:List d}{v:CD e}{x:Option Addr}{y:Nat}{z:List e}{aA:CD f}{aB:Option Addr}{aC:Nat}{aD:List f}(h0:Sl g w Z h i j)(h1:Sl k w Z l n x1)(h2:Sl o w Z p q x2)(aE:Sl r w Z s t u)(aF:Sl v w Z x y z)(aG:Sl aA w Z aB aC aD)(m:Mv w Z w' Z'):Sl g w' Z' h i j∧Sl k w' Z' l n x1∧Sl o w' Z' p q x2∧Sl r w' Z' s t u∧Sl v w' Z' x y z∧Sl aA w' Z' aB aC aD:=⟨h0.mv m,h1.mv m,h2.mv m,aE.mv m,aF.mv m,aG.mv m⟩
theorem FF{a:Type}{b:Type}{c:Type}{d:Type}{e:Type}{f:Type}{g:Type}{w w':World}{Z Z':Nat→Prop}{h:CD a}{i:Option Addr}{j:Nat}{k:List a}{l:CD b}{n:Option Addr}{o:Nat}{x1:List b}{p:CD c}{q:Option Addr}{r:Nat}{x2:List c}{s:CD d}{t:Option Addr}{u:Nat}{v:List d}{x:CD e}{y:Option Addr}{z:Nat}{aA:List e}{aB:CD f}{aC:Option Addr}{aD:Nat}{aE:List f}{aF:CD g}{aG:Option Addr}{aH:Nat}{aI:List g}(h0:Sl h w Z i j k)(h1:Sl l w Z n o x1)(h2:Sl p w Z q r x2)(aJ:Sl s w Z t u v)(aK:Sl x w Z y z aA)(aL:Sl aB w Z aC aD aE)(aM:Sl aF w Z aG aH aI)(m:Mv w Z w' Z'):Sl h w' Z' i j k∧Sl l w' Z' n o x1∧Sl p w' Z' q r x2∧Sl s w' Z' t u v∧Sl x w' Z' y z aA∧Sl aB w' Z' aC aD aE∧Sl aF w' Z' aG aH aI:=⟨h0.mv m,h1.mv m,h2.mv m,aJ.mv m,aK.mv m,aL.mv m,aM.mv m⟩
theorem EZ{a:Type}{b:Type}{c:Type}{d:Type}{e:Type}{f:Type}{g:Type}{h:Type}{w w':World}{Z Z':Nat→Prop}{i:CD a}{j:Option Addr}{k:Nat}{l:List a}{n:CD b}{o:Option Addr}{p:Nat}{x1:List b}{q:CD c}{r:Option Addr}{s:Nat}{x2:List c}{t:CD d}{u:Option Addr}{v:Nat}{x:List d}{y:CD e}{z:Option Addr}{aA:Nat}{aB:List e}{aC:CD f}{aD:Option Addr}{aE:Nat}{aF:List f}{aG:CD g}{aH:Option Addr}{aI:Nat}{aJ:List g}{aK:CD h}{aL:Option Addr}{aM:Nat}{aN:List h}(h0:Sl i w Z j k l)(h1:Sl n w Z o p x1)(h2:Sl q w Z r s x2)(aO:Sl t w Z u v x)(aP:Sl y w Z z aA aB)(aQ:Sl aC w Z aD aE aF)(aR:Sl aG w Z aH aI aJ)(aS:Sl aK w Z aL aM aN)(m:Mv w Z w' Z'):Sl i w' Z' j k l∧Sl n w' Z' o p x1∧Sl q w' Z' r s x2∧Sl t w' Z' u v x∧Sl y w' Z' z aA aB∧Sl aC w' Z' aD aE aF∧Sl aG w' Z' aH aI aJ∧Sl aK w' Z' aL aM aN:=⟨h0.mv m,h1.mv m,h2.mv m,aO.mv m,aP.mv m,aQ.mv m,aR.mv m,aS.mv m⟩
theorem O2{a:Type}{b:Type}{c:Type}{d:Type}{e:Type}{f:Type}{g:Type}{h:Type}{i:Type}{w w':World}{Z Z':Nat→Prop}{j:CD a}{k:Option Addr}{l:Nat}{n:List a}{o:CD b}{p:Option Addr}{q:Nat}{x1:List b}{r:CD c}{s:Option Addr}{t:Nat}{x2:List c}{u:CD d}{v:Option Addr}{x:Nat}{y:List d}{z:CD e}{aA:Option Addr}{aB:Nat}{aC:List e}{aD:CD f}{aE:Option Addr}{aF:Nat}{aG:List f}{aH:CD g}{aI:Option Addr}{aJ:Nat}{aK:List g}{aL:CD h}{aM:Option Addr}{aN:Nat}{aO:List h}{aP:CD i}{aQ:Option Addr}{aR:Nat}{aS:List i}(h0:Sl j w Z k l n)(h1:Sl o w Z p q x1)(h2:Sl r w Z s t x2)(aT:Sl u w Z v x y)(aU:Sl z w Z aA aB aC)(aV:Sl aD w Z aE aF aG)(aW:Sl aH w Z aI aJ aK)(aX:Sl aL w Z aM aN aO)(aY:Sl aP w Z aQ aR aS)(m:Mv w Z w' Z'):Sl j w' Z' k l n∧Sl o w' Z' p q x1∧Sl r w' Z' s t x2∧Sl u w' Z' v x y∧Sl z w' Z' aA aB aC∧Sl aD w' Z' aE aF aG∧Sl aH w' Z' aI aJ aK∧Sl aL w' Z' aM aN aO∧Sl aP w' Z' aQ aR aS:=⟨h0.mv m,h1.mv m,h2.mv m,aT.mv m,aU.mv m,aV.mv m,aW.mv m,aX.mv m,aY.mv m⟩
theorem VM{a:Type}{b:Type}{c:Type}{d:Type}{e:Type}{f:Type}{g:Type}{h:Type}{i:Type}{j:Type}{w w':World}{Z Z':Nat→Prop}{k:CD a}{l:Option Addr}{n:Nat}{o:List a}{p:CD b}{q:Option Addr}{r:Nat}{x1:List b}{s:CD c}{t:Option Addr}{u:Nat}{x2:List c}{v:CD d}{x:Option Addr}{y:Nat}{z:List d}{aA:CD e}{aB:Option Addr}{aC:Nat}{aD:List e}{aE:CD f}{aF:Option Addr}{aG:Nat}{aH:List f}{aI:CD g}{aJ:Option Addr}{aK:Nat}{aL:List g}{aM:CD h}{aN:Option Addr}{aO:Nat}{aP:List h}{aQ:CD i}{aR:Option Addr}{aS:Nat}{aT:List i}{aU:CD j}{aV:Option Addr}{aW:Nat}{aX:List j}(h0:Sl k w Z l n o)(h1:Sl p w Z q r x1)(h2:Sl s w Z t u x2)(aY:Sl v w Z x y z)(aZ:Sl aA w Z aB aC aD)(a0:Sl aE w Z aF aG aH)(a2:Sl aI w Z aJ aK aL)(a3:Sl aM w Z aN aO aP)(a4:Sl aQ w Z aR aS aT)(a5:Sl aU w Z aV aW aX)(m:Mv w Z w' Z'):Sl k w' Z' l n o∧Sl p w' Z' q r x1∧Sl s w' Z' t u x2∧Sl v w' Z' x y z∧Sl aA w' Z' aB aC aD∧Sl aE w' Z' aF aG aH∧Sl aI w' Z' aJ aK aL∧Sl aM w' Z' aN aO aP∧Sl aQ w' Z' aR aS aT∧Sl aU w' Z' aV aW aX:=⟨h0.mv m,h1.mv m,h2.mv m,aY.mv m,aZ.mv m,a0.mv m,a2.mv m,a3.mv m,a4.mv m,a5.mv m⟩
theorem eR{X:Ctx}{N:Nat}{a:Act}{l:Env}{x:Operand}{v:Value}(h:St X N a l)(b:ev a l x=v:=by exact rfl):(Cf a l).eval x=v:=ee h b
theorem sA(i:Nat){a:Act}{args:Array Value}{n:Nat}{v:Value}(h:a.tmps=args++Array.replicate n undef)(hi:args[i]?=some v:=by exact rfl):sl a i=v:=Mb h hi
theorem Hp.nq{F:Nat→Prop}{B L:List (Option Nat)}{w0 w:World}(h:Hp F B w0 L w)(i j:Nat){x:Option Nat}{b:Nat}(a:(i==j)=false:=by exact rfl)(hi:L[i]?=some (some b):=by exact rfl)(hj:L[j]?=some x:=by exact rfl):some b≠x:=h.ne i j a hi hj
theorem KS.dq{L:List Oper}{a:Act}{l:Env}{D:Nat→Bool}{V:Nat→Value}{k:Nat}{o:Oper}{a':Act}(K:KS L a l D V k o a')(j d:Nat)(h1:FY o j=true:=by exact rfl)(h2:Cq L j=some d:=by exact rfl):sl a' d=V j:=K.WS j d h1 h2
theorem Iv.dq{L:List Oper}{a:Act}{l:Env}{T:Nat→Act→World→Prop}{Φ:Nat→Value→World→Prop}{sp:List Nat}{k:Nat}{o:Oper}{a':Act}{w':World}{ph:Nat}(K:Iv L a l T Φ sp k o a' w' ph)(j d:Nat)(h1:FY o j=true:=by exact rfl)(h2:Cq L j=some d:=by exact rfl):Φ j (sl a' d) w':=K.WS j d h1 h2
section
variable{P:Program}{X:Ctx}{N:Nat}{ops:Array Oper}{Q:Exit→Act→World→Prop}{rest:List Oper}{a:Act}{l:Env}{w:World}{op:Op}{ty:TypeId}{pos:String}{Cc:Array Edge}{d:Nat}
theorem wD{v:Value}{w':World}(b:St X N a l→Cg P ⟨some d,op,ty,pos,Cc,none⟩ (Cf a l) w (fun u BI=>u=v∧BI=w'))(hk:WL P X N ops Q rest a ((d,v)::l) w')(c:Nat.blt d N=true:=by exact rfl):WL P X N ops Q (⟨some d,op,ty,pos,Cc,none⟩::rest) a l w:=wd c b hk
theorem wM{x:Operand}{v:Value}(b:ev a l x=v)(hk:WL P X N ops Q rest a ((d,v)::l) w)(c:Nat.blt d N=true:=by exact rfl):WL P X N ops Q (⟨some d,.move x,ty,pos,Cc,none⟩::rest) a l w:=wm c b hk
theorem wA{x:Operand}{v:Value}(b:ev a l x=v)(hk:WL P X N ops Q rest a ((d,v)::l) w)(c:Nat.blt d N=true:=by exact rfl):WL P X N ops Q (⟨some d,.assign x,ty,pos,Cc,none⟩::rest) a l w:=wa c b hk
theorem wE{R:Value→World→Prop}(b:St X N a l→Cg P ⟨some d,op,ty,pos,Cc,none⟩ (Cf a l) w R)(hk:∀v w',R v w'→WL P X N ops Q rest a ((d,v)::l) w')(c:Nat.blt d N=true:=by exact rfl):WL P X N ops Q (⟨some d,op,ty,pos,Cc,none⟩::rest) a l w:=we c b hk
end
section
variable{P:Program}{L:List Oper}{a:Act}{l:Env}{T:Nat→Act→World→Prop}{Φ:Nat→Value→World→Prop}{sp:List Nat}{S:Nat→World→World→Prop}{k:Nat}
theorem oD{op:Op}{ty:TypeId}{pos:String}{Cc:Array Edge}{dst:Option Nat}{c:Value}(h:∀{a' w' ph},Iv L a l T Φ sp k ⟨dst,op,ty,pos,Cc,none⟩ a' w' ph→Cg P ⟨dst,op,ty,pos,Cc,none⟩ a' w' (fun u BI=>u=c∧BI=w'))(hs:sp.contains k=false:=by exact rfl)(b:∀w,Φ k c w:=by exact fun _=>rfl):Hb P L a l S T Φ sp k ⟨dst,op,ty,pos,Cc,none⟩:=od hs b h
theorem oS{j d:Nat}{o:Oper}{b c:Bool}(e:∀a' w' ph,Iv L a l T Φ sp k o a' w' ph→sl a' d=.bool c)(f:o.guard=some (j,b):=by exact rfl)(hj:Cq L j=some d:=by exact rfl)(hs:sp.contains k=false:=by exact rfl)(g:c≠b:=by decide)(h:∀w,Φ k undef w:=by exact fun _=>rfl):Hb P L a l S T Φ sp k o:=SC f hj hs g e h
end
theorem Iu{F:Nat→Prop}{L:List (Option Nat)}{w:World}{Z:Nat→Prop}(a:Bw F L w)(c:∀b,Z b→¬F b∧some b∉L):∃B,B=L∧Hp F B w L w∧(∀b,Z b→¬F b∧some b∉B)∧∀w',BX (FU F B) w w'→BX (FU F L) w w':=⟨L,rfl,Hp.start a,c,fun _ h=>h⟩
theorem Kr{F:Nat→Prop}{L:List (Option Nat)}{w:World}{Z Za:Nat→Prop}(c:Bw F L w)(d:∀b,Z b→¬F b∧some b∉L)(a:∀b,Za b→¬F b∧some b∉L):∃B,B=L∧Hp F B w L w∧(∀b,Z b→¬F b∧some b∉B)∧(∀b,Za b→¬F b∧some b∉B)∧∀w',BX (FU F B) w w'→BX (FU F L) w w':=⟨L,rfl,Hp.start c,d,a,fun _ h=>h⟩
section
variable{P:Program}{X:Ctx}{N:Nat}{ops:Array Oper}{Q:Exit→Act→World→Prop}{rest:List Oper}{a:Act}{l:Env}{w:World}{op:Op}{ty:TypeId}{pos:String}{Cc:Array Edge}{d j dj:Nat}{b c x:Bool}
theorem wF(e:x=c)(hk:WL P X N ops Q rest a ((d,undef)::l) w)(hj:(ops[j]?).bind (·.dst)=some dj:=by exact rfl)(f:ev a l (.tmp dj)=.bool x:=by exact rfl)(g:c≠b:=by decide)(h:Nat.blt d N=true:=by exact rfl):WL P X N ops Q (⟨some d,op,ty,pos,Cc,some (j,b)⟩::rest) a l w:=Sw rfl hj (JJ f e) g rfl (by simpa[Nat.blt_eq] using h) hk
theorem wH(hk:WL P X N ops Q rest a ((d,undef)::l) w)(hj:(ops[j]?).bind (·.dst)=some dj:=by exact rfl)(e:ev a l (.tmp dj)=.bool c:=by exact rfl)(f:c≠b:=by decide)(g:Nat.blt d N=true:=by exact rfl):WL P X N ops Q (⟨some d,op,ty,pos,Cc,some (j,b)⟩::rest) a l w:=Sw rfl hj e f rfl (by simpa[Nat.blt_eq] using g) hk
theorem wX{R:Value→World→Prop}(hb:x=b)(c:St X N a l→Cg P ⟨some d,op,ty,pos,Cc,some (j,b)⟩ (Cf a l) w R)(hk:∀v w',R v w'→WL P X N ops Q rest a ((d,v)::l) w')(hj:(ops[j]?).bind (·.dst)=some dj:=by exact rfl)(e:ev a l (.tmp dj)=.bool x:=by exact rfl)(f:Nat.blt d N=true:=by exact rfl):WL P X N ops Q (⟨some d,op,ty,pos,Cc,some (j,b)⟩::rest) a l w:=QI rfl hj (JJ e hb) rfl (by simpa[Nat.blt_eq] using f) c hk
theorem wG{v:Value}{w':World}(hb:x=b)(c:St X N a l→Cg P ⟨some d,op,ty,pos,Cc,some (j,b)⟩ (Cf a l) w (fun u BI=>u=v∧BI=w'))(hk:WL P X N ops Q rest a ((d,v)::l) w')(hj:(ops[j]?).bind (·.dst)=some dj:=by exact rfl)(e:ev a l (.tmp dj)=.bool x:=by exact rfl)(f:Nat.blt d N=true:=by exact rfl):WL P X N ops Q (⟨some d,op,ty,pos,Cc,some (j,b)⟩::rest) a l w:=Gv rfl hj (JJ e hb) rfl (by simpa[Nat.blt_eq] using f) c hk
theorem wN{y:Operand}{v:Value}(hb:x=b)(c:ev a l y=v)(hk:WL P X N ops Q rest a ((d,v)::l) w)(hj:(ops[j]?).bind (·.dst)=some dj:=by exact rfl)(e:ev a l (.tmp dj)=.bool x:=by exact rfl)(f:Nat.blt d N=true:=by exact rfl):WL P X N ops Q (⟨some d,.move y,ty,pos,Cc,some (j,b)⟩::rest) a l w:=wG hb (fun st=>AA (ee st c)) hk hj e f
theorem wn{y:Code}(h:CC P X N y Q a l w):WL P X N ops (Exit.then (CW P X.ro y Q) Q) [] a l w:=Bc (BM h)
theorem cr{id:Nat}{L:List Oper}{y:Code}(h:WL P X N L.toArray (Exit.then (CW P X.ro y Q) Q) L a l w):CC P X N (.seq (.region id L.toArray false) y) Q a l w:=Af (Ai h)
theorem wr{id:Nat}{L:List Oper}{y:Code}(h:WL P X N L.toArray (Exit.then (CW P X.ro y Q) Q) L a l w):WL P X N ops (Exit.then (CW P X.ro (.seq (.region id L.toArray false) y) Q) Q) [] a l w:=wn (cr h)
theorem cn{y:Code}(h:CC P X N y Q a l w):CC P X N .skip (Exit.then (CW P X.ro y Q) Q) a l w:=Ce (BM h)
theorem CO{id:Nat}{K:Act→World→Prop}(h:LV X N Q .ret a l w):LV X N (Exit.inBlock id (Exit.then K Q)) .ret a l w:=JH (AG h)
theorem CG{id:Nat}{y:Code}(h:CC P X N y Q a l w):LV X N (Exit.inBlock id (Exit.then (CW P X.ro y Q) Q)) .normal a l w:=JG (BM h)
theorem DA{id:Nat}{K b:Act→World→Prop}(h:LV X N Q (.exit id) a l w):CC P X N (.exit id) (Exit.then K (Exit.then b Q)) a l w:=Ma (Hz (Hz h))
abbrev Fo(X:Ctx)(N:Nat)(a:Act):Prop:=a.tmps.size=N∧a.defers=X.ds
theorem qo(st:St X N a l):Fo X N (Cf a l):=⟨qz st,qd st⟩
theorem ro{c:Code}(b:Fo X N a)(h:CC P X N c Q a [] w):CW P X.ro c Q a w:=Vq b.1 b.2 h
theorem lf{e:Exit}(b:Fo X N a)(h:LV X N Q e a [] w):Q e a w:=AaZ b.1 b.2 h
end
theorem rq{P:Program}{w:World}{f:FuncId}{fn:Func}{c:Code}{args:Array Value}{N:Nat}{R:Value→World→Prop}(b:P.funcs[f]?=some fn)
  (h:∀a:Act,a.tmps=args++Array.replicate (N-args.size) undef→a.defers=[]→CC P X0 N c (bodyPost P fn (fun e w'=>∃v,e=.returned v∧R v w')) a [] w)(hb:fn.body=some c:=by exact rfl)(d:fn.ntmps=N:=by exact rfl)(ha:args.size≤N:=by simp):BN P f args w R:=Ue b hb d ha h
section
variable{P:Program}{L:List Oper}{a:Act}{l:Env}{T:Nat→Act→World→Prop}{Φ:Nat→Value→World→Prop}{sp:List Nat}{S:Nat→World→World→Prop}{k j d:Nat}{o:Oper}{b c x:Bool}
theorem oV{v:Value}(f:o.guard=some (j,b))(hj:Cq L j=some d)(c:FY o j=true)(e:∀u w,Φ j u w→u=v):∀a' w' ph,Iv L a l T Φ sp k o a' w' ph→sl a' d=v:=fun _ _ _ K=>e _ _ (K.WS j d c hj)
theorem oT(f:x=c)(e:o.guard=some (j,b):=by exact rfl)(hj:Cq L j=some d:=by exact rfl)(g:FY o j=true:=by exact rfl)(i:∀u w,Φ j u w→u=.bool x:=by exact fun _ _ h=>h)(hs:sp.contains k=false:=by exact rfl)(m:c≠b:=by decide)(n:∀w,Φ k undef w:=by exact fun _=>rfl):Hb P L a l S T Φ sp k o:=SC e hj hs m (by rw[←f];exact oV e hj g i) n
theorem oU(c:o.guard=some (j,b):=by exact rfl)(hj:Cq L j=some d:=by exact rfl)(e:FY o j=true:=by exact rfl)(f:∀u w,Φ j u w→u=undef:=by exact fun _ _ h=>h)(hs:sp.contains k=false:=by exact rfl)(g:∀w,Φ k undef w:=by exact fun _=>rfl):Hb P L a l S T Φ sp k o:=Uf c hj hs (oV c hj e f) g
theorem oX(e:x=b)(h:∀{a' w' ph},Iv L a l T Φ sp k o a' w' ph→Cg P o a' w' (fun v BI=>Φ k v BI∧Ext w' BI))(c:o.guard=some (j,b):=by exact rfl)(hj:Cq L j=some d:=by exact rfl)(f:FY o j=true:=by exact rfl)(g:∀u w,Φ j u w→u=.bool x:=by exact fun _ _ h=>h)(hs:sp.contains k=false:=by exact rfl):Hb P L a l S T Φ sp k o:=KH c hj hs (by rw[←e];exact oV c hj f g) fun _ _ _ K=>h K
theorem oG{v:Value}(e:x=b)(h:∀{a' w' ph},Iv L a l T Φ sp k o a' w' ph→Cg P o a' w' (fun u BI=>u=v∧BI=w'))(c:o.guard=some (j,b):=by exact rfl)(hj:Cq L j=some d:=by exact rfl)(f:FY o j=true:=by exact rfl)(g:∀u w,Φ j u w→u=.bool x:=by exact fun _ _ h=>h)(hs:sp.contains k=false:=by exact rfl)(i:∀w,Φ k v w:=by exact fun _=>rfl):Hb P L a l S T Φ sp k o:=Xj c hj hs i (by rw[←e];exact oV c hj f g) fun _ _ _ K=>h K
theorem oE(h:∀{a' w' ph},Iv L a l T Φ sp k o a' w' ph→Cg P o a' w' (fun v BI=>Φ k v BI∧Ext w' BI))(b:o.guard=none:=by exact rfl)(hs:sp.contains k=false:=by exact rfl):Hb P L a l S T Φ sp k o:=JK b hs fun _ _ _ K=>h K
theorem Iv.kO{a':Act}{w':World}{ph:Nat}{v:Value}(K:Iv L a l T Φ sp k o a' w' ph)(s:Nat)(h:isDst L s=false:=by exact rfl)(b:lk (sl a s) l s=v:=by exact rfl):a'.eval (.tmp s)=v:=es ((K.out s h).trans b)
theorem KS.kO{D:Nat→Bool}{V:Nat→Value}{a':Act}{v:Value}(K:KS L a l D V k o a')(s:Nat)(h:isDst L s=false:=by exact rfl)(b:lk (sl a s) l s=v:=by exact rfl):a'.eval (.tmp s)=v:=es ((K.out s h).trans b)
end
abbrev IT(σ:Type):=σ→World→(Nat→Prop)→Option Nat→Prop
theorem gm{α:Type}{L:List α}{x:α}(i:Nat)(h:L[i]?=some x:=by exact rfl):x∈L:=List.mem_of_getElem? h
theorem hw{L:List (Option Nat)}{o o':Option Nat}{n:Nat}{p:Nat→Prop}(a:∀k,o'=some k→(o=some k∨n≤k)∧p k)(i:Nat)(h:L[i]?=some o:=by exact rfl):∀k,o'=some k→some k∈L∨n≤k:=fun k hk=>(a k hk).1.imp (fun e=>by rw[←e];exact gm i h) id
theorem Hp.mq{F:Nat→Prop}{B b L M:List (Option Nat)}{w0 w:World}{x c:Option Nat}(h:Hp F B w0 L w)(i:Nat)(a:List Nat)(e:IC L a M)(d:B=b)(hi:L[i]?=some x:=by exact rfl)(hj:(a.all fun j=> !Nat.beq i j)=true:=by exact rfl)(f:∀y∈b,y=c∨y∈M:=by simp):∀k,x=some k→(c=some k∨w0.heap.size≤k)∧k<w.heap.size:=h.ZG i hi a hj e (by rw[d];exact f)
end Go.Proofs.YtbhofkcbfblijaaGreat
end
section
namespace Go.Proofs.YtbhofkcbfblijaaGreat
open Go.RowKit Go.WideShapes
structure AL where
 Lo:Int
 Hi:Int
structure Cw where
 BY:Bool
 Number:Int
 Bl:Int
 Bm:Int
structure Bh where
 Az:List AL
 Bb:List (List Int)
 AP:List Cw
structure Bo where
 a0:Int
 a1:Int
 a2:Int
def Bo.set(x:Bo)(k:Nat)(v:Int):Bo:=⟨if k=0 then v else x.a0,if k=1 then v else x.a1,if k=2 then v else x.a2⟩
def Bo.l(x:Bo):List Int:=[x.a0,x.a1,x.a2]
theorem Bo.Abv(x:Bo)(k:Nat)(v:Int)(h:k<3): #[.int .i64 (x.set k v).a0,.int .i64 (x.set k v).a1,.int .i64 (x.set k v).a2]=setCells #[.int .i64 x.a0,.int .i64 x.a1,.int .i64 x.a2] k [.int .i64 v]:=by
 match k,h with
 |0,_=>rfl
 |1,_=>rfl
 |2,_=>rfl
 |k+3,h=>omega
def Bo.cp(x:Bo)(l:List Int):Bo:=⟨l.getD 0 x.a0,l.getD 1 x.a1,l.getD 2 x.a2⟩
theorem Bo.cpc(x:Bo)(l:List Int):(#[.int .i64 (x.cp l).a0,.int .i64 (x.cp l).a1,.int .i64 (x.cp l).a2]:Array Value).toList=(SG l [x.a0,x.a1,x.a2]).map vI:=by
 match l with
 |[]=>rfl
 |[_]=>rfl
 |[_,_]=>rfl
 |_::_::_::_=>simp[SG,vI,Bo.cp]
structure BO where
 Bd:Int
 B3:Int
structure B2 where
 Cr:Int
 CE:Int
structure B6 where
 BY:Int
 Ck:Int
 Cl:Int
structure AD where
 Aj:List AL
 Ab:List (List Int)
 Aq:List Cw
 Flat:Int
 AB:List BO
 AE:List B2
 AK:List B6
structure B7 where
 Av:List AL
 Aw:List (List Int)
 As:List Cw
 BV:Int
 AM:List BO
 AN:List B2
 Bf:List B6
 weights:List Int
 B5:List Bo
 known:List (List Int×Int)
structure O3 where
 EH:Int
 C2:Int
def Ax:CD AL:=⟨2,fun _ _ cs x=>cs=[.int .i64 x.Lo,.int .i64 x.Hi],fun h=>by rw[h];rfl,fun h=>by rw[h];simp[Value.oneCell'],fun h _=>h⟩
def AF:CD Cw:=⟨4,fun _ _ cs x=>cs=[.bool x.BY,.int .i64 x.Number,.int .i64 x.Bl,.int .i64 x.Bm],fun h=>by rw[h];rfl,fun h=>by rw[h];simp[Value.oneCell'],fun h _=>h⟩
def Cs:CD Bo:=⟨3,fun _ _ cs x=>cs=[.int .i64 x.a0,.int .i64 x.a1,.int .i64 x.a2],fun h=>by rw[h];rfl,fun h=>by rw[h];simp[Value.oneCell'],fun h _=>h⟩
def AT:CD BO:=⟨2,fun _ _ cs x=>cs=[.int .i64 x.Bd,.int .i64 x.B3],fun h=>by rw[h];rfl,fun h=>by rw[h];simp[Value.oneCell'],fun h _=>h⟩
def AW:CD B2:=⟨2,fun _ _ cs x=>cs=[.int .i64 x.Cr,.int .i64 x.CE],fun h=>by rw[h];rfl,fun h=>by rw[h];simp[Value.oneCell'],fun h _=>h⟩
def Bj:CD B6:=⟨3,fun _ _ cs x=>cs=[.int .i64 x.BY,.int .i64 x.Ck,.int .i64 x.Cl],fun h=>by rw[h];rfl,fun h=>by rw[h];simp[Value.oneCell'],fun h _=>h⟩
def Re:CD Bh:=⟨3,fun w Z cs x=>∃a b c d e f,cs=[.slice a x.Az.length b,.slice c x.Bb.length d,.slice e x.AP.length f]∧Sl Ax w Z a b x.Az∧Sl (Bx (Al .i64)) w Z c d x.Bb∧Sl AF w Z e f x.AP,fun⟨_,_,_,_,_,_,h,_⟩=>by rw[h];rfl,fun⟨_,_,_,_,_,_,h,_⟩=>by rw[h];simp[Value.oneCell'],fun⟨a,b,c,d,e,f,h,h0,h1,h2⟩ g=>⟨a,b,c,d,e,f,h,h0.mv g,h1.mv g,h2.mv g⟩⟩
def PA:CD AD:=⟨7,fun w Z cs x=>∃a b c d e f i j k l m n,cs=[.slice a x.Aj.length b,.slice c x.Ab.length d,.slice e x.Aq.length f,.int .i64 x.Flat,.slice i x.AB.length j,.slice k x.AE.length l,.slice m x.AK.length n]∧Sl Ax w Z a b x.Aj∧Sl (Bx (Al .i64)) w Z c d x.Ab∧Sl AF w Z e f x.Aq∧Sl AT w Z i j x.AB∧Sl AW w Z k l x.AE∧Sl Bj w Z m n x.AK,fun⟨_,_,_,_,_,_,_,_,_,_,_,_,h,_⟩=>by rw[h];rfl,fun⟨_,_,_,_,_,_,_,_,_,_,_,_,h,_⟩=>by rw[h];simp[Value.oneCell'],fun⟨a,b,c,d,e,f,i,j,k,l,m,n,h,h0,h1,h2,o,p,q⟩ g=>⟨a,b,c,d,e,f,i,j,k,l,m,n,h,h0.mv g,h1.mv g,h2.mv g,o.mv g,p.mv g,q.mv g⟩⟩
abbrev AU(a:Option Addr)(b:Nat)(c:Option Addr)(d:Nat)(e:Option Addr)(f:Nat)(x:Bh):List Value:=[.slice a x.Az.length b,.slice c x.Bb.length d,.slice e x.AP.length f]
abbrev Ar(a:Option Addr)(b:Nat)(c:Option Addr)(d:Nat)(e:Option Addr)(f:Nat)(g:Option Addr)(h:Nat)(i:Option Addr)(j:Nat)(k:Option Addr)(l:Nat)(x:AD):List Value:=[.slice a x.Aj.length b,.slice c x.Ab.length d,.slice e x.Aq.length f,I x.Flat,.slice g x.AB.length h,.slice i x.AE.length j,.slice k x.AK.length l]
abbrev C6(a:Option Addr)(b:Nat)(c:Option Addr)(d:Nat)(e:Option Addr)(f:Nat)(g:Option Addr)(h:Nat)(i:Option Addr)(j:Nat)(k:Option Addr)(l:Nat)(m:Option Addr)(n:Nat)(o:Option Addr)(p:Nat)(r:Nat)(x:B7):List Value:=[.slice a x.Av.length b,.slice c x.Aw.length d,.slice e x.As.length f,I x.BV,.slice g x.AM.length h,.slice i x.AN.length j,.slice k x.Bf.length l,.slice m x.weights.length n,.slice o x.B5.length p,.map (some r)]
def FL(n:Nat)(w:World)(Z:Nat→Prop)(p:Value):Option B7→Prop
 |none=>p=.pointer none
 |some x=>∃(b r:Nat) (a:Option Addr) (c:Nat) (d:Option Addr) (e:Nat) (f:Option Addr) (g:Nat) (h:Option Addr) (i:Nat) (j:Option Addr) (k:Nat) (l:Option Addr) (m:Nat) (o:Option Addr) (q:Nat) (s:Option Addr) (t:Nat),p=pt b 0∧HA n w [b,r]∧Bk w b 162 #[.slice a x.Av.length c,.slice d x.Aw.length e,.slice f x.As.length g,I x.BV,.slice h x.AM.length i,.slice j x.AN.length k,.slice l x.Bf.length m,.slice o x.weights.length q,.slice s x.B5.length t,.map (some r)]∧Cy (fun x:Int=>I x) w r 2 x.known∧Sl Ax w (ZZ FN [] Z n [some b,some r]) a c x.Av∧Sl (Bx (Al .i64)) w (ZZ FN [] Z n [some b,some r]) d e x.Aw∧Sl AF w (ZZ FN [] Z n [some b,some r]) f g x.As∧Sl AT w (ZZ FN [] Z n [some b,some r]) h i x.AM∧Sl AW w (ZZ FN [] Z n [some b,some r]) j k x.AN∧Sl Bj w (ZZ FN [] Z n [some b,some r]) l m x.Bf∧Sl (Al .i64) w (ZZ FN [] Z n [some b,some r]) o q x.weights∧Sl Cs w (ZZ FN [] Z n [some b,some r]) s t x.B5
theorem FL.cases{n:Nat}{w:World}{Z:Nat→Prop}{p:Value}:∀{o:Option B7},FL n w Z p o→(o=none∧p=.pointer none)∨(∃x,o=some x∧∃(b r:Nat) (a:Option Addr) (c:Nat) (d:Option Addr) (e:Nat) (f:Option Addr) (g:Nat) (i:Option Addr) (j:Nat) (k:Option Addr) (l:Nat) (m:Option Addr) (q:Nat) (s:Option Addr) (t:Nat) (u:Option Addr) (v:Nat),p=pt b 0∧HA n w [b,r]∧Bk w b 162 #[.slice a x.Av.length c,.slice d x.Aw.length e,.slice f x.As.length g,I x.BV,.slice i x.AM.length j,.slice k x.AN.length l,.slice m x.Bf.length q,.slice s x.weights.length t,.slice u x.B5.length v,.map (some r)]∧Cy (fun x:Int=>I x) w r 2 x.known∧Sl Ax w (ZZ FN [] Z n [some b,some r]) a c x.Av∧Sl (Bx (Al .i64)) w (ZZ FN [] Z n [some b,some r]) d e x.Aw∧Sl AF w (ZZ FN [] Z n [some b,some r]) f g x.As∧Sl AT w (ZZ FN [] Z n [some b,some r]) i j x.AM∧Sl AW w (ZZ FN [] Z n [some b,some r]) k l x.AN∧Sl Bj w (ZZ FN [] Z n [some b,some r]) m q x.Bf∧Sl (Al .i64) w (ZZ FN [] Z n [some b,some r]) s t x.weights∧Sl Cs w (ZZ FN [] Z n [some b,some r]) u v x.B5)
 |none,h=>.inl ⟨rfl,h⟩
 |some x,h=>.inr ⟨x,rfl,h⟩
theorem FL.ext{n:Nat}{w w':World}{Z:Nat→Prop}{p:Value}:∀{o:Option B7},FL n w Z p o→Ext w w'→FL n w' Z p o
 |none,h,_=>h
 |some x,⟨b,r,a,c,d,f,i,j,k,l,m,q,s,t,u,v,y,z,e,aA,hb,hm,s0,s1,s2,aB,aC,aD,aE,aF⟩,g=>⟨b,r,a,c,d,f,i,j,k,l,m,q,s,t,u,v,y,z,e,aA.grow (Nat.le_refl _) g.size,hb.ext g,hm.ext g,s0.mv (Ac g),s1.mv (Ac g),s2.mv (Ac g),aB.mv (Ac g),aC.mv (Ac g),aD.mv (Ac g),aE.mv (Ac g),aF.mv (Ac g)⟩
theorem FL.use{n:Nat}{w:World}{Z:Nat→Prop}{p:Value}{x:B7}:FL n w Z p (some x)→∃(b r:Nat) (c:Option Addr) (d:Nat) (f:Option Addr) (g:Nat) (h:Option Addr) (i:Nat) (j:Option Addr) (k:Nat) (l:Option Addr) (m:Nat) (o:Option Addr) (q:Nat) (s:Option Addr) (t:Nat) (u:Option Addr) (v:Nat),p=pt b 0∧Bw FN [some r] w∧n≤r∧Rz w (ZC FN [some r]) (some ⟨b,0,none⟩) [.slice c x.Av.length d,.slice f x.Aw.length g,.slice h x.As.length i,I x.BV,.slice j x.AM.length k,.slice l x.AN.length m,.slice o x.Bf.length q,.slice s x.weights.length t,.slice u x.B5.length v,.map (some r)]∧Cy (fun x:Int=>I x) w r 2 x.known∧Sl Ax w (ZC FN [some r]) c d x.Av∧Sl (Bx (Al .i64)) w (ZC FN [some r]) f g x.Aw∧Sl AF w (ZC FN [some r]) h i x.As∧Sl AT w (ZC FN [some r]) j k x.AM∧Sl AW w (ZC FN [some r]) l m x.AN∧Sl Bj w (ZC FN [some r]) o q x.Bf∧Sl (Al .i64) w (ZC FN [some r]) s t x.weights∧Sl Cs w (ZC FN [some r]) u v x.B5
 |⟨b,r,c,d,f,g,h,i,j,k,l,m,o,q,s,t,u,v,e,a,hb,hm,s0,s1,s2,y,z,aA,aB,aC⟩=>⟨b,r,c,d,f,g,h,i,j,k,l,m,o,q,s,t,u,v,e,Xr a,(a.mem _ (by simp)).1,KW hb (Abu a) rfl,hm,s0.mv (En (L3 a)),s1.mv (En (L3 a)),s2.mv (En (L3 a)),y.mv (En (L3 a)),z.mv (En (L3 a)),aA.mv (En (L3 a)),aB.mv (En (L3 a)),aC.mv (En (L3 a))⟩
def G8(d:Nat)(a:Int)(b:Int)(c:Int):Option (Bool):=
 cond (decide (b≤a)) (some (decide (a≤c))) (some (false))
def Fv(b:Nat)(a:AL):Option (Bool):=
 cond (decide ((0:Int)≤a.Lo)) (cond (decide (a.Lo≤a.Hi)) (some (decide (a.Hi≤100))) (some (false))) (some (false))
def IU(b:Nat)(a:AL):Option (Int):=
 (i64 (a.Hi-a.Lo)).bind fun _=>(i64 ((a.Hi-a.Lo)+1)).bind fun _=>some ((a.Hi-a.Lo)+1)
def FM(b:Nat)(a:AL)(c:Int):Option (Bool):=
 (G8 b c a.Lo a.Hi).bind fun d=>some (d)
def Jo(a:Nat)(b:Int):Option (Bool):=
 (G8 a b 0 30).bind fun c=>some (c)
def FX(c:List Int):Nat→Int→Int→Option (Int)
 |0,_,_=>none
 |e+1,b,a=>cond (decide (a<(c.length:Int))) ((idx c a).bind fun d=>(i64 (b+d)).bind fun _=>(i64 (a+1)).bind fun _=>FX c e (b+d) (a+1)) (some (b))
def JV(a:Nat)(b:List Int):Option (Int):=
 (FX b a (0:Int) (0:Int)).bind fun c=>some (c)
def He(c:Nat)(b:Bh)(a:Cw):Option (Int):=
 cond (a.BY) ((i64 ((b.Az.length:Int)+a.Number)).bind fun _=>some ((b.Az.length:Int)+a.Number)) (some (a.Number))
def Gf(c:List Int):Nat→Int→Int→Option (Int)
 |0,_,_=>none
 |d+1,b,a=>cond (decide (a<(c.length:Int))) ((idx c a).bind fun e=>(i64 (a+1)).bind fun _=>Gf c d (min b e) (a+1)) (some (b))
def Hq(b:Nat)(a:List Int):Option (Int):=
 cond (decide ((a.length:Int)<1)) (none) ((idx a (0:Int)).bind fun x2=>(Gf a b x2 (1:Int)).bind fun z3=>some (z3))
def I2(a:Nat)(b:List Int):Option (Int):=
 (Hq a b).bind fun c=>some (c)
def HB{a:Type}(f:Nat)(b:a→AL→Option (Bool×a))(d:AL)(e:a):Option (Bool×a):=
 (b e d).bind fun c=>some ((!c.1,c.2))
def Fa{c:Type}(d:c→AL→Option (Bool×c))(e:List AL):Nat→Int→c→Option ((Int×c)⊕(c))
 |0,_,_=>none
 |g+1,a,b=>cond (decide (a<(e.length:Int))) ((idx e a).bind fun h=>(d b h).bind fun f=>cond (f.1) (some (.inl (a,f.2))) ((i64 (a+1)).bind fun _=>Fa d e g (a+1) f.2)) (some (.inr b))
def Il{b:Type}(d:Nat)(c:b→AL→Option (Bool×b))(e:List AL)(f:b):Option (Int×b):=
 (Fa c e d (0:Int) f).bind fun z=>Sum.elim (fun a=>some ((a.1,a.2))) (fun a=>some (((-1),a))) z
def HC{a:Type}(d:Nat)(b:a→AL→Option (Bool×a))(e:List AL)(f:a):Option (Bool×a):=
 (Il d b e f).bind fun c=>some ((decide ((0:Int)≤c.1),c.2))
def Jg{a:Type}(b:Nat)(c:a→AL→Option (Bool×a))(e:List AL)(f:a):Option (Bool×a):=
 (HC b (fun(st:a) (x:AL)=>(HB b c x st).bind fun r=>some (r.1,r.2)) e f).bind fun d=>some ((!d.1,d.2))
def H5{a:Type}(f:Nat)(b:a→(List Int)→Option (Bool×a))(d:List Int)(e:a):Option (Bool×a):=
 (b e d).bind fun c=>some ((!c.1,c.2))
def Fp{c:Type}(d:c→(List Int)→Option (Bool×c))(e:List (List Int)):Nat→Int→c→Option ((Int×c)⊕(c))
 |0,_,_=>none
 |g+1,a,b=>cond (decide (a<(e.length:Int))) ((idx e a).bind fun h=>(d b h).bind fun f=>cond (f.1) (some (.inl (a,f.2))) ((i64 (a+1)).bind fun _=>Fp d e g (a+1) f.2)) (some (.inr b))
def Iw{b:Type}(d:Nat)(c:b→(List Int)→Option (Bool×b))(e:List (List Int))(f:b):Option (Int×b):=
 (Fp c e d (0:Int) f).bind fun z=>Sum.elim (fun a=>some ((a.1,a.2))) (fun a=>some (((-1),a))) z
def H0{a:Type}(d:Nat)(b:a→(List Int)→Option (Bool×a))(e:List (List Int))(f:a):Option (Bool×a):=
 (Iw d b e f).bind fun c=>some ((decide ((0:Int)≤c.1),c.2))
def JC{a:Type}(b:Nat)(c:a→(List Int)→Option (Bool×a))(e:List (List Int))(f:a):Option (Bool×a):=
 (H0 b (fun(st:a) (x:(List Int))=>(H5 b c x st).bind fun r=>some (r.1,r.2)) e f).bind fun d=>some ((!d.1,d.2))
def HD{a:Type}(f:Nat)(b:a→Cw→Option (Bool×a))(d:Cw)(e:a):Option (Bool×a):=
 (b e d).bind fun c=>some ((!c.1,c.2))
def Fb{c:Type}(d:c→Cw→Option (Bool×c))(e:List Cw):Nat→Int→c→Option ((Int×c)⊕(c))
 |0,_,_=>none
 |g+1,a,b=>cond (decide (a<(e.length:Int))) ((idx e a).bind fun h=>(d b h).bind fun f=>cond (f.1) (some (.inl (a,f.2))) ((i64 (a+1)).bind fun _=>Fb d e g (a+1) f.2)) (some (.inr b))
def Im{b:Type}(d:Nat)(c:b→Cw→Option (Bool×b))(e:List Cw)(f:b):Option (Int×b):=
 (Fb c e d (0:Int) f).bind fun z=>Sum.elim (fun a=>some ((a.1,a.2))) (fun a=>some (((-1),a))) z
def HE{a:Type}(d:Nat)(b:a→Cw→Option (Bool×a))(e:List Cw)(f:a):Option (Bool×a):=
 (Im d b e f).bind fun c=>some ((decide ((0:Int)≤c.1),c.2))
def Jh{a:Type}(b:Nat)(c:a→Cw→Option (Bool×a))(e:List Cw)(f:a):Option (Bool×a):=
 (HE b (fun(st:a) (x:Cw)=>(HD b c x st).bind fun r=>some (r.1,r.2)) e f).bind fun d=>some ((!d.1,d.2))
def Io{a:Type}(f:Nat)(b:a→Int→Option (Bool×a))(d:Int)(e:a):Option (Bool×a):=
 (b e d).bind fun c=>some ((!c.1,c.2))
def EM{c:Type}(d:c→Int→Option (Bool×c))(e:List Int):Nat→Int→c→Option ((Int×c)⊕(c))
 |0,_,_=>none
 |g+1,a,b=>cond (decide (a<(e.length:Int))) ((idx e a).bind fun h=>(d b h).bind fun f=>cond (f.1) (some (.inl (a,f.2))) ((i64 (a+1)).bind fun _=>EM d e g (a+1) f.2)) (some (.inr b))
def IM{b:Type}(d:Nat)(c:b→Int→Option (Bool×b))(e:List Int)(f:b):Option (Int×b):=
 (EM c e d (0:Int) f).bind fun z=>Sum.elim (fun a=>some ((a.1,a.2))) (fun a=>some (((-1),a))) z
def GN{a:Type}(d:Nat)(b:a→Int→Option (Bool×a))(e:List Int)(f:a):Option (Bool×a):=
 (IM d b e f).bind fun c=>some ((decide ((0:Int)≤c.1),c.2))
def JW{a:Type}(b:Nat)(c:a→Int→Option (Bool×a))(e:List Int)(f:a):Option (Bool×a):=
 (GN b (fun(st:a) (x:Int)=>(Io b c x st).bind fun r=>some (r.1,r.2)) e f).bind fun d=>some ((!d.1,d.2))
def Gw(a:Nat)(c:Bh)(b:List Int):Option (Bool):=
 cond ((b.length:Int)==(c.Az.length:Int)) ((JW a (fun(st:Unit) (x:Int)=>(Jo a x).bind fun r=>some (r,())) b ()).bind fun d=>some (d.1)) (some (false))
def F2(a:Nat)(c:Bh)(b:List Int):Option (Bool):=
 (Gw a c b).bind fun d=>cond (d) ((JV a b).bind fun e=>some (decide ((0:Int)<e))) (some (false))
def Gg(b:Nat)(c:Bh)(a:Cw):Option (Bool):=
 cond (a.BY) ((i64 ((c.Bb.length:Int)-1)).bind fun _=>(G8 b a.Number 0 ((c.Bb.length:Int)-1)).bind fun f=>cond (f) ((Fv b (⟨a.Bl,a.Bm⟩:AL)).bind fun g=>some (g)) (some (false))) ((i64 ((c.Az.length:Int)-1)).bind fun _=>(G8 b a.Number 0 ((c.Az.length:Int)-1)).bind fun d=>cond (d) ((Fv b (⟨a.Bl,a.Bm⟩:AL)).bind fun e=>some (e)) (some (false)))
def C7(d:Nat)(e:Bh):Nat→Int→Int→Option (Int)
 |0,_,_=>none
 |h+1,b,a=>cond (decide (a<(e.Az.length:Int))) ((idx e.Az a).bind fun f=>(IU d f).bind fun c=>(i64 (b*c)).bind fun _=>(I2 d [b*c,2001]).bind fun g=>(i64 (a+1)).bind fun _=>C7 d e h g (a+1)) (some (b))
def Ev(b:Nat)(a:Bh):Option (Int):=
 cond (decide ((3:Int)<(a.Az.length:Int))) (some (3)) (cond (decide ((3:Int)<(a.Bb.length:Int))) (some (3)) (cond (decide ((5:Int)<(a.AP.length:Int))) (some (3)) (cond ((a.Az.length:Int)==0) (some (1)) ((Jg b (fun(st:Unit) (x:AL)=>(Fv b x).bind fun r=>some (r,())) a.Az ()).bind fun e=>cond (!e.1) (some (1)) ((JC b (fun(st:Unit) (x:(List Int))=>(F2 b a x).bind fun r=>some (r,())) a.Bb ()).bind fun c=>cond (!c.1) (some (1)) ((Jh b (fun(st:Unit) (x:Cw)=>(Gg b a x).bind fun r=>some (r,())) a.AP ()).bind fun d=>cond (!d.1) (some (1)) ((C7 b a b (1:Int) (0:Int)).bind fun z25=>cond (decide ((2000:Int)<z25)) (some (3)) (some (0)))))))))
def E0(b:List Int)(c:Int):Nat→Int→Option ((Int)⊕(Unit))
 |0,_=>none
 |d+1,a=>cond (decide (a<(b.length:Int))) ((idx b a).bind fun e=>cond (c==e) (some (.inl a)) ((i64 (a+1)).bind fun _=>E0 b c d (a+1))) (some (.inr ()))
def JN(b:Nat)(c:List Int)(d:Int):Option (Int):=
 (E0 c d b (0:Int)).bind fun z=>Sum.elim (fun a=>some (a)) (fun a=>some ((-1))) z
def E1(a:Nat)(b:List Int)(c:Int):Option (Bool):=
 (JN a b c).bind fun d=>some (decide ((0:Int)≤d))
def Ef(c:Bo)(d:List Int):Nat→Int→Int→Option (Int)
 |0,_,_=>none
 |g+1,b,a=>cond (decide (a<(d.length:Int))) ((idx d a).bind fun e=>(idx ([c.a0,c.a1,c.a2]:List Int) a).bind fun f=>(i64 (e*f)).bind fun _=>(i64 (b+(e*f))).bind fun _=>(i64 (a+1)).bind fun _=>Ef c d g (b+(e*f)) (a+1)) (some (b))
def E2(b:Nat)(d:Bo)(c:List Int):Option (Int):=
 (Ef d c b (0:Int) (0:Int)).bind fun z2=>(JV b c).bind fun a=>(quo z2 a).bind fun _=>(i64 (z2/a)).bind fun _=>some (z2/a)
def Ip(d:Nat)(a:Bh)(b:Bo)(c:Int):Option (Int):=
 cond (decide ((a.Az.length:Int)≤c)) ((i64 (c-(a.Az.length:Int))).bind fun _=>(idx a.Bb (c-(a.Az.length:Int))).bind fun e=>(E2 d b e).bind fun f=>some (f)) ((idx ([b.a0,b.a1,b.a2]:List Int) c).bind fun g=>some (g))
def C8(b:Nat)(c:Bh)(d:Bo)(e:List Int):Nat→Int→Option ((Bool)⊕(Unit))
 |0,_=>none
 |g+1,a=>cond (decide (a<(c.AP.length:Int))) ((idx c.AP a).bind fun f=>(E1 b e a).bind fun k=>cond (!k) ((He b c f).bind fun h=>(Ip b c d h).bind fun i=>(FM b (⟨f.Bl,f.Bm⟩:AL) i).bind fun j=>cond (!j) (some (.inl false)) ((i64 (a+1)).bind fun _=>C8 b c d e g (a+1))) ((i64 (a+1)).bind fun _=>C8 b c d e g (a+1))) (some (.inr ()))
def Hf(b:Nat)(c:Bh)(d:Bo)(e:List Int):Option (Bool):=
 (C8 b c d e b (0:Int)).bind fun z=>Sum.elim (fun a=>some (a)) (fun a=>some (true)) z
def Eo(c:Nat)(b:Bh)(d:List Int):Nat→Int→Option ((Bool)⊕(Unit))
 |0,_=>none
 |g+1,a=>cond (decide (a<(b.Az.length:Int))) ((idx b.Az a).bind fun h=>(idx d a).bind fun e=>(FM c h e).bind fun f=>cond (!f) (some (.inl false)) ((i64 (a+1)).bind fun _=>Eo c b d g (a+1))) (some (.inr ()))
def F3(c:Nat)(d:Bh)(b:List Int):Option (Bo×Bool):=
 cond ((b.length:Int) !=(d.Az.length:Int)) (some (((⟨0,0,0⟩:Bo),false))) ((Eo c d b c (0:Int)).bind fun z=>Sum.elim (fun a=>some (((⟨0,0,0⟩:Bo),a))) (fun a=>some ((((⟨0,0,0⟩:Bo).cp b),true))) z)
def GV(e:Nat)(d:Bh)(f:Bo×Bool):Nat→(List Int)→Int→Option ((List Int))
 |0,_,_=>none
 |h+1,b,a=>cond (decide (a<(d.Bb.length:Int))) ((idx d.Bb a).bind fun g=>(E2 e f.1 g).bind fun c=>(ED (((b.length+[c].length:Nat):Int)≤140737488355328/8)).bind fun _=>(i64 (a+1)).bind fun _=>GV e d f h (b++[c]) (a+1)) (some (b))
def Js(a:Nat)(b:Bh)(e:List Int):Option ((List Int)×Int):=
 (Ev a b).bind fun c=>cond (c !=0) (some ((([]:List Int),c))) ((F3 a b e).bind fun d=>cond (!d.2) (some ((([]:List Int),2))) ((GV a b d a ([]:List Int) (0:Int)).bind fun z12=>some ((z12,0))))
def G5(a:Nat)(b:Bh)(e:List Int):Option (Bool):=
 (Ev a b).bind fun f=>cond (f !=0) (some (false)) ((F3 a b e).bind fun c=>cond (c.2) ((Hf a b c.1 ([]:List Int)).bind fun d=>some (d)) (some (false)))
def Es(d:Nat)(a:Int)(b:Int)(c:Int):Option (Bool):=
 cond (decide (b≤a)) (some (decide (a≤c))) (some (false))
def Ji(c:Nat)(a:AL)(b:Int):Option (Bool):=
 cond (decide ((0:Int)≤a.Lo)) (cond (decide (a.Lo≤a.Hi)) (some (decide (a.Hi≤b))) (some (false))) (some (false))
def G6(b:Nat)(a:AL)(c:Int):Option (Bool):=
 (Es b c a.Lo a.Hi).bind fun d=>some (d)
def IE(b:Nat)(a:AL):Option (Int):=
 (i64 (a.Hi-a.Lo)).bind fun _=>(i64 ((a.Hi-a.Lo)+1)).bind fun _=>some ((a.Hi-a.Lo)+1)
def IF(a:Nat)(b:List Int):Option (Int):=
 (Hq a b).bind fun c=>some (c)
def Gh(c:Nat)(a:AL)(b:Int):Option (AL):=
 (IF c [a.Lo,b]).bind fun d=>some ((⟨d,max a.Hi b⟩:AL))
def Jp(a:Nat)(b:Int):Option (Bool):=
 (Es a b 0 100).bind fun c=>some (c)
def HG(b:Nat)(a:AD)(c:Int):Option (Bool):=
 (i64 ((a.Ab.length:Int)-1)).bind fun _=>(Es b c 0 ((a.Ab.length:Int)-1)).bind fun d=>some (d)
def Gi(a:Nat)(b:AD)(c:B2):Option (Bool):=
 (i64 ((b.AB.length:Int)-1)).bind fun _=>(Es a c.Cr 0 ((b.AB.length:Int)-1)).bind fun d=>cond (d) ((Es a c.CE 1 90).bind fun e=>some (e)) (some (false))
def Gx(b:Nat)(c:AD)(a:B6):Option (Bool):=
 (HG b c a.BY).bind fun d=>cond (d) ((Ji b (⟨a.Ck,a.Cl⟩:AL) 9000).bind fun e=>some (e)) (some (false))
def Hg{a:Type}(f:Nat)(b:a→BO→Option (Bool×a))(d:BO)(e:a):Option (Bool×a):=
 (b e d).bind fun c=>some ((!c.1,c.2))
def Fc{c:Type}(d:c→BO→Option (Bool×c))(e:List BO):Nat→Int→c→Option ((Int×c)⊕(c))
 |0,_,_=>none
 |g+1,a,b=>cond (decide (a<(e.length:Int))) ((idx e a).bind fun h=>(d b h).bind fun f=>cond (f.1) (some (.inl (a,f.2))) ((i64 (a+1)).bind fun _=>Fc d e g (a+1) f.2)) (some (.inr b))
def Iq{b:Type}(d:Nat)(c:b→BO→Option (Bool×b))(e:List BO)(f:b):Option (Int×b):=
 (Fc c e d (0:Int) f).bind fun z=>Sum.elim (fun a=>some ((a.1,a.2))) (fun a=>some (((-1),a))) z
def HH{a:Type}(d:Nat)(b:a→BO→Option (Bool×a))(e:List BO)(f:a):Option (Bool×a):=
 (Iq d b e f).bind fun c=>some ((decide ((0:Int)≤c.1),c.2))
def IV{a:Type}(b:Nat)(c:a→BO→Option (Bool×a))(e:List BO)(f:a):Option (Bool×a):=
 (HH b (fun(st:a) (x:BO)=>(Hg b c x st).bind fun r=>some (r.1,r.2)) e f).bind fun d=>some ((!d.1,d.2))
def Hh{a:Type}(f:Nat)(b:a→B2→Option (Bool×a))(d:B2)(e:a):Option (Bool×a):=
 (b e d).bind fun c=>some ((!c.1,c.2))
def Fe{c:Type}(d:c→B2→Option (Bool×c))(e:List B2):Nat→Int→c→Option ((Int×c)⊕(c))
 |0,_,_=>none
 |g+1,a,b=>cond (decide (a<(e.length:Int))) ((idx e a).bind fun h=>(d b h).bind fun f=>cond (f.1) (some (.inl (a,f.2))) ((i64 (a+1)).bind fun _=>Fe d e g (a+1) f.2)) (some (.inr b))
def Ir{b:Type}(d:Nat)(c:b→B2→Option (Bool×b))(e:List B2)(f:b):Option (Int×b):=
 (Fe c e d (0:Int) f).bind fun z=>Sum.elim (fun a=>some ((a.1,a.2))) (fun a=>some (((-1),a))) z
def HI{a:Type}(d:Nat)(b:a→B2→Option (Bool×a))(e:List B2)(f:a):Option (Bool×a):=
 (Ir d b e f).bind fun c=>some ((decide ((0:Int)≤c.1),c.2))
def IW{a:Type}(b:Nat)(c:a→B2→Option (Bool×a))(e:List B2)(f:a):Option (Bool×a):=
 (HI b (fun(st:a) (x:B2)=>(Hh b c x st).bind fun r=>some (r.1,r.2)) e f).bind fun d=>some ((!d.1,d.2))
def HJ{a:Type}(f:Nat)(b:a→B6→Option (Bool×a))(d:B6)(e:a):Option (Bool×a):=
 (b e d).bind fun c=>some ((!c.1,c.2))
def Fq{c:Type}(d:c→B6→Option (Bool×c))(e:List B6):Nat→Int→c→Option ((Int×c)⊕(c))
 |0,_,_=>none
 |g+1,a,b=>cond (decide (a<(e.length:Int))) ((idx e a).bind fun h=>(d b h).bind fun f=>cond (f.1) (some (.inl (a,f.2))) ((i64 (a+1)).bind fun _=>Fq d e g (a+1) f.2)) (some (.inr b))
def Ix{b:Type}(d:Nat)(c:b→B6→Option (Bool×b))(e:List B6)(f:b):Option (Int×b):=
 (Fq c e d (0:Int) f).bind fun z=>Sum.elim (fun a=>some ((a.1,a.2))) (fun a=>some (((-1),a))) z
def H2{a:Type}(d:Nat)(b:a→B6→Option (Bool×a))(e:List B6)(f:a):Option (Bool×a):=
 (Ix d b e f).bind fun c=>some ((decide ((0:Int)≤c.1),c.2))
def Jj{a:Type}(b:Nat)(c:a→B6→Option (Bool×a))(e:List B6)(f:a):Option (Bool×a):=
 (H2 b (fun(st:a) (x:B6)=>(HJ b c x st).bind fun r=>some (r.1,r.2)) e f).bind fun d=>some ((!d.1,d.2))
def H6{a:Type}(f:Nat)(b:a→Int→Option (Bool×a))(d:Int)(e:a):Option (Bool×a):=
 (b e d).bind fun c=>some ((!c.1,c.2))
def JD{a:Type}(b:Nat)(c:a→Int→Option (Bool×a))(e:List Int)(f:a):Option (Bool×a):=
 (GN b (fun(st:a) (x:Int)=>(H6 b c x st).bind fun r=>some (r.1,r.2)) e f).bind fun d=>some ((!d.1,d.2))
def Ft(c:Nat)(a:BO)(b:BO):Option (Bool×BO):=
 (i64 (b.Bd-1)).bind fun _=>(Es c a.Bd 0 (b.Bd-1)).bind fun d=>cond (d) ((Es c a.B3 0 b.B3).bind fun e=>some ((e,a))) (some ((false,a)))
def GW(a:Nat)(b:AD):Option (Bool):=
 cond (decide ((0:Int)<(b.AB.length:Int))) ((IV a (fun(st:BO) (x:BO)=>(Ft a x st).bind fun r=>some (r.1,r.2)) b.AB (⟨101,100⟩:BO)).bind fun c=>some (c.1)) (some (false))
def Gy(b:Nat)(a:AD):Option (Int):=
 (Ev b (⟨a.Aj,a.Ab,a.Aq⟩:Bh)).bind fun c=>cond (c !=0) (some (c)) (cond (decide ((3:Int)<(a.AB.length:Int))) (some (3)) (cond (decide ((3:Int)<(a.AE.length:Int))) (some (3)) (cond (decide ((5:Int)<(a.AK.length:Int))) (some (3)) ((Jp b a.Flat).bind fun g=>cond (!g) (some (1)) ((GW b a).bind fun d=>cond (!d) (some (1)) ((IW b (fun(st:Unit) (x:B2)=>(Gi b a x).bind fun r=>some (r,())) a.AE ()).bind fun e=>cond (!e.1) (some (1)) ((Jj b (fun(st:Unit) (x:B6)=>(Gx b a x).bind fun r=>some (r,())) a.AK ()).bind fun f=>cond (!f.1) (some (1)) (some (0)))))))))
def EI(c:AD):Nat→(List AL)→Int→Option ((List AL))
 |0,_,_=>none
 |e+1,b,a=>cond (decide (a<(c.Aj.length:Int))) ((idx c.Aj a).bind fun d=>(ED (((b.length+[d].length:Nat):Int)≤140737488355328/16)).bind fun _=>(i64 (a+1)).bind fun _=>EI c e (b++[d]) (a+1)) (some (b))
def Gj(a:Nat)(b:AD):Option ((List AL)):=
 (EI b a ([]:List AL) (0:Int)).bind fun z2=>some (z2)
def C1(d:List Int):Nat→Int→Int→Option (Int)
 |0,_,_=>none
 |e+1,b,a=>cond (decide (a<(d.length:Int))) ((idx d a).bind fun c=>(i64 (b+c)).bind fun _=>(i64 (a+1)).bind fun _=>C1 d e (b+c) (a+1)) (some (b))
def DS(d:Nat)(c:AD):Nat→Int→(List Int)→Option ((List Int))
 |0,_,_=>none
 |f+1,a,b=>cond (decide (a<(c.Ab.length:Int))) ((idx c.Ab a).bind fun g=>(C1 g d (0:Int) (0:Int)).bind fun e=>(ED (((b.length+[e].length:Nat):Int)≤140737488355328/8)).bind fun _=>(i64 (a+1)).bind fun _=>DS d c f (a+1) (b++[e])) (some (b))
def Ff(b:Nat)(a:AD):Option (B7):=
 (DS b a b (0:Int) ([]:List Int)).bind fun z4=>some ((⟨a.Aj,a.Ab,a.Aq,a.Flat,a.AB,a.AE,a.AK,z4,([]:List Bo),[]⟩:B7))
def Fk{f:Type}(g:Int→(List AL)→(List Int)→f→Option (Bool×(List Int)×f))(e:Int)(i:List AL)(j:Int):Nat→Int→(List Int)→f→Option ((Bool×(List Int)×f)⊕((List Int)×f))
 |0,_,_,_=>none
 |k+1,a,b,d=>cond (decide (a<j)) ((idx i e).bind fun h=>(i64 (h.Lo+a)).bind fun _=>(idx b e).bind fun l=>(i64 (e+1)).bind fun _=>(g (e+1) i (b.set e.toNat (h.Lo+a)) d).bind fun c=>cond (!c.1) (some (.inl (false,c.2.1,c.2.2))) ((i64 (a+1)).bind fun _=>Fk g e i j k (a+1) c.2.1 c.2.2)) (some (.inr (b,d)))
def EW{b:Type}(d:Nat)(c:b→(List Int)→Option (Bool×b)):Nat→Int→(List AL)→(List Int)→b→Option (Bool×(List Int)×b)
 |0,_,_,_,_=>none
 |j+1,e,f,g,h=>cond (e==(f.length:Int)) ((c h g).bind fun i=>some ((i.1,g,i.2))) ((idx f e).bind fun k=>(IE d k).bind fun l=>(Fk (EW d c j) e f l d (0:Int) g h).bind fun z=>Sum.elim (fun a=>some ((a.1,a.2.1,a.2.2))) (fun a=>some ((true,a.1,a.2))) z)
def IG{a:Type}(c:Nat)(d:a→(List Int)→Option (Bool×a))(b:List AL)(e:a):Option (a):=
 (WX (b.length:Int) 8).bind fun _=>(EW c d c 0 b (List.replicate (b.length:Int).toNat (0:Int)) e).bind fun f=>some (f.2.2)
def F4(b:Nat)(a:AD)(c:List Int):Option (Bo):=
 (Js b (⟨a.Aj,a.Ab,a.Aq⟩:Bh) c).bind fun d=>some (((⟨0,0,0⟩:Bo).cp d.1))
def EJ(f:Nat)(d:AD)(a:List Bo)(e:(List Int)):Option (Bool×(List Bo)):=
 (G5 f (⟨d.Aj,d.Ab,d.Aq⟩:Bh) e).bind fun g=>cond (!g) (some (true,a)) ((F4 f d e).bind fun b=>cond ((a.length:Int)==0) ((ED (((a.length+[b].length:Nat):Int)≤140737488355328/24)).bind fun _=>some (true,a++[b])) ((i64 ((a.length:Int)-1)).bind fun _=>(idx a ((a.length:Int)-1)).bind fun c=>cond ([c.a0,c.a1,c.a2] !=[b.a0,b.a1,b.a2]) ((ED (((a.length+[b].length:Nat):Int)≤140737488355328/24)).bind fun _=>some (true,a++[b])) (some (true,a))))
def HK(b:Nat)(c:AD):Option (B7):=
 (Ff b c).bind fun a=>(Gj b c).bind fun e=>(IG b (fun(st:(List Bo)) (x:(List Int))=>EJ b c st x) e ([]:List Bo)).bind fun d=>some ((⟨a.Av,a.Aw,a.As,a.BV,a.AM,a.AN,a.Bf,a.weights,d,a.known⟩:B7))
def D1(c:B7)(e:O3):Nat→Int→Int→Option (Int)
 |0,_,_=>none
 |g+1,b,a=>cond (decide (a<(c.AM.length:Int))) ((idx c.AM a).bind fun f=>cond (decide (f.Bd≤e.C2)) ((idx c.weights e.EH).bind fun d=>(i64 (f.B3*d)).bind fun _=>some (f.B3*d)) ((i64 (a+1)).bind fun _=>D1 c e g b (a+1))) (some (b))
def Gk(c:Nat)(b:B7)(a:O3):Option (Int×(List (List Int×Int))):=
 cond (!((EL b.known [a.EH,a.C2]).isSome)) ((D1 b a c ((EL b.known [a.EH,a.C2]).getD 0) (0:Int)).bind fun z5=>some ((z5,KU b.known [a.EH,a.C2] z5))) (some ((((EL b.known [a.EH,a.C2]).getD 0),b.known)))
def DT(i:Nat)(e:B7)(g:Bo):Nat→Int→Int→Int→Int→(List (List Int×Int))→Option (Int×Int×Int×(List (List Int×Int)))
 |0,_,_,_,_,_=>none
 |j+1,a,b,c,d,f=>cond (decide (a<(e.weights.length:Int))) ((idx ([g.a0,g.a1,g.a2]:List Int) a).bind fun k=>(Gk i (⟨e.Av,e.Aw,e.As,e.BV,e.AM,e.AN,e.Bf,e.weights,e.B5,f⟩:B7) (⟨a,k⟩:O3)).bind fun h=>(idx ([b,c,d]:List Int) a).bind fun l=>(i64 (a+1)).bind fun _=>DT i e g j (a+1) (((⟨b,c,d⟩:Bo).set a.toNat h.1).a0) (((⟨b,c,d⟩:Bo).set a.toNat h.1).a1) (((⟨b,c,d⟩:Bo).set a.toNat h.1).a2) h.2) (some ((b,c,d,f)))
def FO(a:Nat)(b:B7)(c:Bo):Option (Bo×(List (List Int×Int))):=
 (DT a b c a (0:Int) (0:Int) (0:Int) (0:Int) b.known).bind fun z3=>some (((⟨z3.1,z3.2.1,z3.2.2.1⟩:Bo),z3.2.2.2))
def D2(c:Nat)(d:AD)(b:Bo)(e:List Int):Nat→Int→Option ((Bool)⊕(Unit))
 |0,_=>none
 |g+1,a=>cond (decide (a<(d.AK.length:Int))) ((idx d.AK a).bind fun f=>(E1 c e a).bind fun j=>cond (!j) ((idx ([b.a0,b.a1,b.a2]:List Int) f.BY).bind fun h=>(G6 c (⟨f.Ck,f.Cl⟩:AL) h).bind fun i=>cond (!i) (some (.inl false)) ((i64 (a+1)).bind fun _=>D2 c d b e g (a+1))) ((i64 (a+1)).bind fun _=>D2 c d b e g (a+1))) (some (.inr ()))
def Fw(b:Nat)(c:AD)(d:Bo)(e:List Int):Option (Bool):=
 (D2 b c d e b (0:Int)).bind fun z=>Sum.elim (fun a=>some (a)) (fun a=>some (true)) z
def DP{e:Type}(f:e→(Bo×Bo)→Option (Bool×e))(i:Nat)(a:B7)(j:List Int):Nat→Int→(List (List Int×Int))→e→Option (((List (List Int×Int))×e)⊕((List (List Int×Int))×e))
 |0,_,_,_=>none
 |k+1,b,d,c=>cond (decide (b<(a.B5.length:Int))) ((idx a.B5 b).bind fun l=>(FO i (⟨a.Av,a.Aw,a.As,a.BV,a.AM,a.AN,a.Bf,a.weights,a.B5,d⟩:B7) l).bind fun g=>(Fw i (⟨a.Av,a.Aw,a.As,a.BV,a.AM,a.AN,a.Bf⟩:AD) g.1 j).bind fun m=>cond (m) ((f c (l,g.1)).bind fun h=>cond (!h.1) (some (.inl (g.2,h.2))) ((i64 (b+1)).bind fun _=>DP f i a j k (b+1) g.2 h.2)) ((i64 (b+1)).bind fun _=>DP f i a j k (b+1) g.2 c)) (some (.inr (d,c)))
def FG{b:Type}(c:Nat)(d:b→(Bo×Bo)→Option (Bool×b))(e:B7)(f:List Int)(g:b):Option ((List (List Int×Int))×b):=
 (DP d c e f c (0:Int) e.known g).bind fun z=>Sum.elim (fun a=>some ((a.1,a.2))) (fun a=>some ((a.1,a.2))) z
def FP(a:Bool)(b:Bo×Bo):Option (Bool×(Bool×Bool)):=
 some (false,true,true)
def DE(b:Nat)(c:B7)(d:List Int):Option (Bool×(List (List Int×Int))):=
 (FG b (fun(st:Bool×Bool) (x:Bo×Bo)=>cond st.2 none (FP st.1 x)) c d (false,false)).bind fun a=>cond (a.2.2) (some ((a.2.1,a.1))) (some ((false,a.1)))
end Go.Proofs.YtbhofkcbfblijaaGreat
end
