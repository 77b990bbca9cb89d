import Derived.WalkKit
import Derived.KernelRfl
import Derived.WalkSpells
import Derived.WalkLawsBesides
import Derived.Maps.AppendAt
import Derived.OrdersIn
import Derived.RangeFuncIn
import Derived.RangeFuncLeaves
import Derived.RangeFuncRecord
import Derived.RangeFuncSeq
import Derived.Scope
import Derived.DeepKeys3
import Derived.Laws.CopyRow
import Derived.Laws.OwnMore
/-
  The contracts of the functions of the program and of the reference, and the logic that they are proved in: the base that several claims of this seat share.
-/
set_option linter.all false
section
namespace Go.Proofs.YtkljfdkmjdjpfaaGreat
open Go.RowKit
abbrev Env:=List (Nat×Value)
def BV(a:Act):Env→Act
 |[]=>a
 |(d,v)::l=>(BV a l).put (some d) v
def sl(a:Act)(s:Nat):Value:=a.tmps.getD s undef
def lk(b:Value):Env→Nat→Value
 |[],_=>b
 |(d,v)::l,s=>match Nat.beq d s with|true=>v|false=>lk b l s
def ev(a:Act)(l:Env):Operand→Value
 |.tmp t=>lk (sl a t) l t
 |.const v=>v
 |.global g=>.pointer (some ⟨g,0,none⟩)
 |.func f=>.func (.func f) #[] #[]
structure Ctx where
 ro:Option Nat
 ds:List Deferred
abbrev X0:Ctx:=⟨none,[]⟩
def Wd:Option Nat→Fence
 |none=>Fence.wide
 |some r=>Fence.wide.inRound r
theorem Lq(ro:Option Nat)(f:FuncId):(Wd ro).fn f:=by cases ro<;>trivial
theorem QI(ro:Option Nat):(Wd ro).depth=none:=by cases ro<;>rfl
theorem QJ(ro:Option Nat){n:Nat}:(Wd ro).depth.isSome=true→1≤n:=fun h=>by rw[QI] at h;cases h
structure St(X:Ctx)(N:Nat)(a:Act)(l:Env):Prop where
 sz:a.tmps.size=N
 df:a.defers=X.ds
 lt:∀p∈l,p.1<N
theorem H8(a:Act)(l:Env):(BV a l).tmps.size=a.tmps.size:=by
 induction l with
 |nil=>rfl
 |cons p l ih=>simp[BV,Act.put,ih]
theorem Ds(a:Act)(l:Env):(BV a l).defers=a.defers:=by
 induction l with
 |nil=>rfl
 |cons p l ih=>simp[BV,Act.put,ih]
theorem St.cons{X:Ctx}{N:Nat}{a:Act}{l:Env}(h:St X N a l){d:Nat}(c:d<N)(v:Value):St X N a ((d,v)::l):=
 ⟨h.sz,h.df,fun p b=>by
  rcases List.mem_cons.1 b with rfl|b
  ·exact c
  ·exact h.lt p b⟩
theorem HV{X:Ctx}{N:Nat}{a:Act}:∀{l:Env},St X N a l→∀s,sl (BV a l) s=lk (sl a s) l s
 |[],_,_=>rfl
 |(d,v)::l,h,s=>by
  have e:St X N a l:=⟨h.sz,h.df,fun p f=>h.lt p (List.mem_cons_of_mem _ f)⟩;have ih:=HV e s;have g:d<N:=h.lt (d,v) (List.mem_cons_self ..);unfold sl at*;simp only[BV,Act.put,lk];cases b:Nat.beq d s with
  |true=>
   obtain rfl:d=s:=Nat.eq_of_beq_eq_true b;simp[H8,h.sz,g]
  |false=>
   have c:d≠s:=Nat.ne_of_beq_eq_false b;rw[←ih];simp[Array.getElem?_setIfInBounds_ne c]
theorem RV{X:Ctx}{N:Nat}{a:Act}{l:Env}(h:St X N a l)(x:Operand):(BV a l).eval x=ev a l x:=by
 cases x with
 |tmp t=>exact HV h t
 |_=>rfl
theorem ee{X:Ctx}{N:Nat}{a:Act}{l:Env}{x:Operand}{v:Value}(h:St X N a l)(b:ev a l x=v):(BV a l).eval x=v:=(RV h x).trans b
def BL (P:Program) (o:Oper) (a:Act) (w:World) (R:Value→World→Prop):Prop:=
 match (execOp a.eval o).run P w with
 |.ok (.value v) w'=>R v w'
 |.ok .skip w'=>R undef w'
 |.ok (.enter f args) w'=>Calls P f args w' (fun e Bj=>∃v,e=.returned v∧R v Bj)
 |.ok (.round l f tmps assign body) w'=>RoundIn Fence.wide 0 P l f tmps assign body w' (fun e Bj=>∃v,e=.returned v∧R v Bj)
 |_=>False
theorem BL.RW{P:Program}{o:Oper}{a:Act}{w:World}{R:Value→World→Prop}(h:BL P o a w R):∀c,o.op≠.defer c:=by
 intro c b;unfold BL at h;have he:execOp a.eval o=(do pure (.defer (←resolve a.eval c o.type))):=by
  unfold execOp;rw[b]
 rw[he,Sem.run_bind] at h;cases d:(resolve a.eval c o.type).run P w<;>simp[d,Result.andThen] at h
theorem BL.wp{P:Program}{ro:Option Nat}{o:Oper}{a:Act}{w:World}{R:Value→World→Prop}{K:Act→World→Prop}{Q:Exit→Act→World→Prop}
  (h:BL P o a w R)(b:∀v w',R v w'→K (a.put o.dst v) w'):o.wpIn (Wd ro) 0 P a w K Q:=by
 refine⟨fun f _=>Lq ro f,?_⟩;rw[Oper.semAt_eq _ _ _ h.RW];unfold BL at h;generalize (execOp a.eval o).run P w=r at*;cases r with
 |ok n w'=>
  cases n<;>simp only[Oper.uponIn] at h⊢
  case value=>exact b _ _ h
  case skip=>exact b _ _ h
  case enter f args=>
   refine⟨QJ ro,?_⟩;have c:CallsIn Fence.wide (0-1) P f args w' (fun e Bj=>∃v,e=.returned v∧R v Bj):=callsIn_wide.2 h;have g:CallsIn (Wd ro) (0-1) P f args w' (fun e Bj=>∃v,e=.returned v∧R v Bj):=by cases ro<;>exact c
   refine g.mono ?_;rintro e Bj ⟨v,rfl,d⟩;exact b _ _ d
  case round l f tmps assign body=>
   refine⟨QJ ro,?_⟩;have c:RoundIn (Wd ro) (0-1) P l f tmps assign body w' (fun e Bj=>∃v,e=.returned v∧R v Bj):=by cases ro<;>exact h
   refine c.mono ?_;rintro e Bj ⟨v,rfl,d⟩;exact b _ _ d
 |halt=>exact h.elim
theorem BL.mono{P:Program}{o:Oper}{a:Act}{w:World}{R R':Value→World→Prop}(h:BL P o a w R)(b:∀v w',R v w'→R' v w'):BL P o a w R':=by
 unfold BL at*;generalize (execOp a.eval o).run P w=r at*;cases r with
 |ok n w'=>
  cases n<;>simp only[] at h⊢
  case value=>exact b _ _ h
  case skip=>exact b _ _ h
  case enter f args=>
   refine h.mono ?_;rintro e Bj ⟨v,rfl,c⟩;exact⟨v,rfl,b _ _ c⟩
  case round=>
   refine h.mono ?_;rintro e Bj ⟨v,rfl,c⟩;exact⟨v,rfl,b _ _ c⟩
 |halt=>exact h.elim
def WL(P:Program)(X:Ctx)(N:Nat)(ops:Array Oper)(Q:Exit→Act→World→Prop)(rest:List Oper)(a:Act)(l:Env)(w:World):Prop:=
 St X N a l→wpListIn (Wd X.ro) 0 P ops Q rest (BV a l) w
section
variable{P:Program}{X:Ctx}{N:Nat}{ops:Array Oper}{Q:Exit→Act→World→Prop}{rest:List Oper}{a:Act}{l:Env}{w:World}{o:Oper}
theorem RB{R:Value→World→Prop}{d:Nat}(b:o.guard=none)(c:o.dst=some d)(e:d<N)
  (f:St X N a l→BL P o (BV a l) w R)(g:∀v w',R v w'→WL P X N ops Q rest a ((d,v)::l) w'):WL P X N ops Q (o::rest) a l w:=fun s=>
 wpListIn_plain b fun K hK=>(f s).wp fun v w' h=>hK _ _ (by rw[c];exact g v w' h (s.cons e v))
theorem Bq{R:Value→World→Prop}(b:o.guard=none)(c:o.dst=none)
  (d:St X N a l→BL P o (BV a l) w R)(e:∀v w',R v w'→WL P X N ops Q rest a l w'):WL P X N ops Q (o::rest) a l w:=fun s=>
 wpListIn_plain b fun K hK=>(d s).wp fun v w' f=>hK _ _ (by rw[c];exact e v w' f s)
theorem Tf {d:Nat} {v:Value} {w':World} (b:o.guard=none) (c:o.dst=some d) (e:d<N)
  (f:St X N a l→BL P o (BV a l) w (fun u Bj=>u=v∧Bj=w')) (g:WL P X N ops Q rest a ((d,v)::l) w'):WL P X N ops Q (o::rest) a l w:=
 RB b c e f (by rintro _ _ ⟨rfl,rfl⟩;exact g)
theorem Lr{j d:Nat}{b:Bool}(s:St X N a l)(f:(ops[j]?).bind (·.dst)=some d)(g:ev a l (.tmp d)=.bool b):yielded ops (BV a l).tmps j=some b:=by
 have h:=ee s g;unfold yielded;simp only[f,Option.bind_some];have c:(BV a l).tmps.getD d undef=.bool b:=h;rw[Array.getD_eq_getD_getElem?] at c;cases e:(BV a l).tmps[d]? with
 |none=>rw[e] at c;simp[undef] at c
 |some u=>rw[e] at c;simp at c;rw[c]
theorem Ec {R:Value→World→Prop} {d j c:Nat} {b:Bool} (e:o.guard=some (j,b)) (f:(ops[j]?).bind (·.dst)=some c) (g:ev a l (.tmp c)=.bool b)
  (h:o.dst=some d) (i:d<N) (k:St X N a l→BL P o (BV a l) w R) (m:∀v w',R v w'→WL P X N ops Q rest a ((d,v)::l) w'):WL P X N ops Q (o::rest) a l w:=fun s=>by
 have hw:Region.wanted o (yielded ops (BV a l).tmps)=true:=by
  unfold Region.wanted;rw[e];simp[Lr s f g]
 exact wpListIn_step fun K hK=>by rw[if_pos hw];exact(k s).wp fun v w' n=>hK _ _ (by rw[h];exact m v w' n (s.cons i v))
theorem Aw{d j c:Nat}{b:Bool}{v:Value}{w':World}(e:o.guard=some (j,b))(f:(ops[j]?).bind (·.dst)=some c)(g:ev a l (.tmp c)=.bool b)
  (h:o.dst=some d)(i:d<N)(k:St X N a l→BL P o (BV a l) w (fun u Bj=>u=v∧Bj=w'))(m:WL P X N ops Q rest a ((d,v)::l) w'):WL P X N ops Q (o::rest) a l w:=
 Ec e f g h i k (by rintro _ _ ⟨rfl,rfl⟩;exact m)
theorem Aj {d j e:Nat} {b c:Bool} (g:o.guard=some (j,b)) (h:(ops[j]?).bind (·.dst)=some e) (i:ev a l (.tmp e)=.bool c) (k:c≠b)
  (m:o.dst=some d) (n:d<N) (p:WL P X N ops Q rest a ((d,undef)::l) w):WL P X N ops Q (o::rest) a l w:=fun s=>by
 have hw:Region.wanted o (yielded ops (BV a l).tmps)=false:=by
  unfold Region.wanted;rw[g];simp[Lr s h i,k]
 exact wpListIn_step fun K hK=>by rw[if_neg (by rw[hw];simp)];exact⟨fun f _=>Lq X.ro f,hK _ _ (by rw[m];exact p (s.cons n undef))⟩
theorem CY {d j c:Nat} {b:Bool} (g:o.guard=some (j,b)) (i:(ops[j]?).bind (·.dst)=some c) (k:ev a l (.tmp c)=undef)
  (m:o.dst=some d) (n:d<N) (p:WL P X N ops Q rest a ((d,undef)::l) w):WL P X N ops Q (o::rest) a l w:=fun s=>by
 have hw:Region.wanted o (yielded ops (BV a l).tmps)=false:=by
  have h:=ee s k;have hy:yielded ops (BV a l).tmps j=none:=by
   unfold yielded;simp only[i,Option.bind_some];have e:(BV a l).tmps.getD c undef=undef:=h;rw[Array.getD_eq_getD_getElem?] at e;cases q:(BV a l).tmps[c]? with
   |none=>rfl
   |some u=>rw[q] at e;simp at e;rw[e];rfl
  unfold Region.wanted;rw[g];simp[hy]
 exact wpListIn_step fun K hK=>by rw[if_neg (by rw[hw];simp)];exact⟨fun f _=>Lq X.ro f,hK _ _ (by rw[m];exact p (s.cons n undef))⟩
end
def CW(P:Program)(ro:Option Nat)(c:Code)(Q:Exit→Act→World→Prop)(a:Act)(w:World):Prop:=c.wpIn (Wd ro) 0 P Q a w
def CC(P:Program)(X:Ctx)(N:Nat)(c:Code)(Q:Exit→Act→World→Prop)(a:Act)(l:Env)(w:World):Prop:=
 St X N a l→CW P X.ro c Q (BV a l) w
section
variable{P:Program}{X:Ctx}{N:Nat}{Q:Exit→Act→World→Prop}{a:Act}{l:Env}{w:World}
def LV (X:Ctx) (N:Nat) (Q:Exit→Act→World→Prop) (e:Exit) (a:Act) (l:Env) (w:World):Prop:=St X N a l→Q e (BV a l) w
theorem Af{x y:Code}(h:CC P X N x (Exit.then (CW P X.ro y Q) Q) a l w):CC P X N (.seq x y) Q a l w:=fun s=>wpIn_seq (h s)
theorem Ad{id:Nat}{L:List Oper}(h:WL P X N L.toArray Q L a l w):CC P X N (.region id L.toArray false) Q a l w:=fun s=>wpIn_region_lit (h s)
theorem Ae{ops:Array Oper}(h:LV X N Q .normal a l w):WL P X N ops Q [] a l w:=fun s=>wpListIn_nil (h s)
theorem AY(h:LV X N Q .normal a l w):CC P X N .skip Q a l w:=fun s=>wpIn_skip (h s)
theorem B1{id:Nat}(h:LV X N Q (.exit id) a l w):CC P X N (.exit id) Q a l w:=fun s=>wpIn_exit (h s)
theorem AI(h:LV X N Q .ret a l w):CC P X N .ret Q a l w:=fun s=>wpIn_ret (h s)
theorem Ba{id:Nat}{c:Code}(h:CC P X N c (Exit.inBlock id Q) a l w):CC P X N (.block id c) Q a l w:=fun s=>wpIn_block (h s)
theorem Ay{c:Operand}{x y:Code}{t:Bool}(b:ev a l c=.bool t)(h:t=true)(ht:CC P X N x Q a l w):CC P X N (.cond c x y) Q a l w:=fun s=>wpIn_cond_true (by rw[ee s b,h]) (ht s)
theorem AH{c:Operand}{x y:Code}{t:Bool}(b:ev a l c=.bool t)(h:t=false)(d:CC P X N y Q a l w):CC P X N (.cond c x y) Q a l w:=fun s=>wpIn_cond_false (by rw[ee s b,h]) (d s)
theorem Ac {y:Code} (h:CC P X N y Q a l w):LV X N (Exit.then (CW P X.ro y Q) Q) .normal a l w:=fun s=>h s
theorem AK{K:Act→World→Prop}{id:Nat}(h:LV X N Q (.exit id) a l w):LV X N (Exit.then K Q) (.exit id) a l w:=h
theorem As{K:Act→World→Prop}(h:LV X N Q .ret a l w):LV X N (Exit.then K Q) .ret a l w:=h
theorem Bi{id:Nat}(h:LV X N Q .normal a l w):LV X N (Exit.inBlock id Q) .normal a l w:=h
theorem AV{id:Nat}(h:LV X N Q .ret a l w):LV X N (Exit.inBlock id Q) .ret a l w:=h
theorem Bx{id:Nat}(h:LV X N Q .normal a l w):LV X N (Exit.inBlock id Q) (.exit id) a l w:=fun s=>by
 show(if id=id then Q .normal _ _ else Q (.exit id) _ _);rw[if_pos rfl];exact h s
theorem PH {c:Code} (I:Nat→Act→World→Prop) (m:Nat) (h0:I m a w)
  (u:∀m a w,I m a w→CW P X.ro c (Exit.then (fun a' w'=>∃j,j<m∧I j a' w') Q) a w):CW P X.ro (Code.loop c) Q a w:=by
 intro b k cs q p i;have key:∀n a w,I n a w→∃e a' w',Q e a' w'∧ArrivesIn (Machine.fenced P (Wd X.ro)) P (lone (b.atR a (.code c::.inLoop c::k)) cs w) b k cs e a' w':=by
  intro n
  induction n using Nat.strongRecOn with
  |_ n ih=>
   intro a w v;obtain⟨e,g,h,f,d⟩:=u n a w v b (.inLoop c::k) cs q p i;cases e with
   |normal=>
    obtain⟨j,r,s⟩:=f;obtain⟨y,z,aA,t,o⟩:=ih j r g h s;exact⟨y,z,aA,t,.of_steps (StepsIn.trans d (.one (fenced_calm p i rfl) stepR_inLoop)) o⟩
   |exit id=>exact⟨_,g,h,f,.pass (x:=.inLoop c) rfl (fun _ _=>.inl (by simp)) d⟩
   |goto l=>exact⟨_,g,h,f,.pass (x:=.inLoop c) rfl (fun _ _=>.inl (by simp)) d⟩
   |ret=>exact⟨_,g,h,f,.pass (x:=.inLoop c) rfl (fun _ _=>.inl (by simp)) d⟩
   |panic ch=>exact⟨_,g,h,f,.pass (x:=.inLoop c) rfl (fun _ _=>.inl (by simp)) d⟩
   |outgrown=>exact⟨_,g,h,f,.pass (x:=.inLoop c) rfl (fun _ _=>.inl (by simp)) d⟩
 obtain⟨e,a',w',f,d⟩:=key m a w h0;exact⟨e,a',w',f,.of_steps (.one (fenced_calm p i rfl) stepR_loop) d⟩
theorem Cd{c:Code}(I:Nat→Act→World→Prop)(m:Nat)(h0:St X N a l→I m (BV a l) w)
  (d:∀m a w,I m a w→CW P X.ro c (Exit.then (fun a' w'=>∃b,b<m∧I b a' w') Q) a w):CC P X N (.loop c) Q a l w:=fun s=>
 PH I m (h0 s) d
theorem B2 {c:Code} (b:a.tmps.size=N) (d:a.defers=X.ds) (h:CC P X N c Q a [] w):CW P X.ro c Q a w:=
 h ⟨b,d,fun _ e=>by cases e⟩
theorem Bs{I:Nat→Act→World→Prop}{m:Nat}(b:Nat)(c:b<m)(h:St X N a l→I b (BV a l) w):LV X N (Exit.then (fun a' w'=>∃b,b<m∧I b a' w') Q) .normal a l w:=
 fun s=>⟨b,c,h s⟩
end
end Go.Proofs.YtkljfdkmjdjpfaaGreat
end
section
namespace Go.Proofs.YtkljfdkmjdjpfaaGreat
open Go.RowKit
def Bk (w:World) (b:Nat) (t:TypeId) (cs:Array Value):Prop:=w.heap[b]?=some (.cells cs t (0,0))
abbrev Ext (w w':World):Prop:=w.grownBy w' none
abbrev GM (b:Nat) (w w':World):Prop:=w.grownBy w' (some b)
structure I9(w w':World)(b:Nat)(t:TypeId)(cs:Array Value):Prop where
 En:b=w.heap.size
 sz:w'.heap.size=b+1
 bk:Bk w' b t cs
 gr:Ext w w'
structure Tg(w w':World)(b:Nat)(t:TypeId)(cs:Array Value):Prop where
 sz:w'.heap.size=w.heap.size
 bk:Bk w' b t cs
 gr:GM b w w'
section
variable{w w':World}{b b':Nat}{t:TypeId}{cs:Array Value}
theorem Bk.lt(h:Bk w b t cs):b<w.heap.size:=lt_of_block h
theorem Bk.cell(h:Bk w b t cs)(i:Nat):w.cell? ⟨b,i,none⟩=cs[i]?:=cell_of_row w b i cs t (0,0) h
theorem Bk.frozen(h:Bk w b t cs)(i:Nat):w.frozen? ⟨b,i,none⟩=false:=frozen_of_row w b i cs t h
theorem Bk.ext(h:Bk w b t cs)(g:Ext w w'):Bk w' b t cs:=(g.block b h.lt (by simp)).trans h
theorem Bk.MV(h:Bk w b t cs)(g:GM b' w w')(a:b≠b'):Bk w' b t cs:=(g.block b h.lt (by simpa using a)).trans h
theorem PI{B:Nat}{w0:World}(h:Below B w0 w)(g:Ext w w')(a:B≤w.heap.size):Below B w0 w':=h.grown g a (by simp)
theorem PJ{B:Nat}{w0:World}(h:Below B w0 w)(g:GM b w w')(a:B≤w.heap.size)(c:B≤b):Below B w0 w':=
 h.grown g a (fun k d=>by cases d;exact c)
theorem MW(h:Below w.heap.size w w'):Ext w w':=⟨h.os,h.tape,h.output,h.size,fun k a _=>h.block k a⟩
theorem J1(h:Ext w w'):Below w.heap.size w w':=⟨h.os,h.tape,h.output,h.size,fun k a=>h.block k a (by simp)⟩
theorem Ext.refl(w:World):Ext w w:=World.grownBy.refl w _
theorem Ext.trans{a b c:World}(h:Ext a b)(k:Ext b c):Ext a c:=World.grownBy.trans h k
theorem Ii(w:World)(t:TypeId)(cs:Array Value):I9 w (w.alloc (.cells cs t)) w.heap.size t cs:=
 ⟨rfl,by simp,heap_alloc_new w _,World.grownBy_alloc w _ _⟩
def Rd (w:World) (lo hi:Nat) (A:Option Addr) (cs:List Value):Prop:=
 hi≤w.heap.size∧(cs=[]∨∃b o,A=some ⟨b,o,none⟩∧lo≤b∧b<hi∧∀j u,cs[j]?=some u→w.cell? ⟨b,o+j,none⟩=some u)
section
variable{lo hi:Nat}{A:Option Addr}{cs:List Value}
theorem Rd.le(h:Rd w lo hi A cs):hi≤w.heap.size:=h.1
theorem Rd.ext(h:Rd w lo hi A cs)(g:Ext w w'):Rd w' lo hi A cs:=
 ⟨Nat.le_trans h.1 g.size,h.2.imp id fun⟨b,o,d,e,c,f⟩=>⟨b,o,d,e,c,fun j u hu=>
  (World.cell?_of_block (a:=⟨b,o+j,none⟩) (g.block b (Nat.lt_of_lt_of_le c h.1) (by simp))).trans (f j u hu)⟩⟩
theorem Rd.MV(h:Rd w lo hi A cs)(g:GM b' w w')(i:b'<lo∨hi≤b'):Rd w' lo hi A cs:=
 ⟨Nat.le_trans h.1 g.size,h.2.imp id fun⟨b,o,d,e,c,f⟩=>⟨b,o,d,e,c,fun j u hu=>
  (World.cell?_of_block (a:=⟨b,o+j,none⟩) (g.block b (Nat.lt_of_lt_of_le c h.1) (by simp;omega))).trans (f j u hu)⟩⟩
theorem Rd.mono{c a:Nat}(h:Rd w lo hi A cs)(g:c≤lo)(i:hi≤a)(d:a≤w.heap.size):Rd w c a A cs:=
 ⟨d,h.2.imp id fun⟨b,o,e,h1,j,f⟩=>⟨b,o,e,by omega,by omega,f⟩⟩
theorem Rd.wide(h:Rd w lo hi A cs):Rd w 0 w.heap.size A cs:=h.mono (Nat.zero_le _) h.le (Nat.le_refl _)
theorem Rd.nil{A:Option Addr}(a:hi≤w.heap.size):Rd w lo hi A []:=⟨a,.inl rfl⟩
theorem Rd.cells(h:Rd w lo hi A cs){b o:Nat}(c:A=some ⟨b,o,none⟩):∀j u,cs[j]?=some u→w.cell? ⟨b,o+j,none⟩=some u:=by
 rcases h.2 with rfl|⟨b',o',a,_,_,d⟩
 ·simp
 ·rw[c] at a;injection a with a
  injection a with h1 e
  subst h1;subst e;exact d
theorem Rd.at_ (h:Rd w lo hi A cs) {k:Nat} {u:Value} (hu:cs[k]?=some u):∃b o,A=some ⟨b,o,none⟩∧lo≤b∧b<hi∧∀j u,cs[j]?=some u→w.cell? ⟨b,o+j,none⟩=some u:=by
 rcases h.2 with rfl|h
 ·simp at hu
 ·exact h
end
end
section
variable{P:Program}{a:Act}{w:World}{dst:Option Tmp}{ty:TypeId}{pos:String}{B6:Array Edge}{g:Option (Nat×Bool)}
theorem Cv{o:Oper}{v:Value}{w':World}(h:(execOp a.eval o).run P w=.ok (.value v) w'):BL P o a w (fun u Bj=>u=v∧Bj=w'):=by
 unfold BL;rw[h];exact⟨rfl,rfl⟩
theorem AN{x:Operand}{v:Value}(b:a.eval x=v):BL P ⟨dst,.move x,ty,pos,B6,g⟩ a w (fun u w'=>u=v∧w'=w):=⟨b,rfl⟩
theorem Hq{x:Operand}{v:Value}(b:a.eval x=v):BL P ⟨dst,.assign x,ty,pos,B6,g⟩ a w (fun u w'=>u=v∧w'=w):=⟨b,rfl⟩
theorem AT{c x y:Operand}{t:Bool}{v:Value}(b:a.eval c=.bool t)(ht:t=true)(d:a.eval x=v):BL P ⟨dst,.pick c x y,ty,pos,B6,g⟩ a w (fun u w'=>u=v∧w'=w):=
 Cv (by subst ht;simp[execOp,b,asBool,d])
theorem Bd{c x y:Operand}{t:Bool}{v:Value}(b:a.eval c=.bool t)(ht:t=false)(hy:a.eval y=v):BL P ⟨dst,.pick c x y,ty,pos,B6,g⟩ a w (fun u w'=>u=v∧w'=w):=
 Cv (by subst ht;simp[execOp,b,asBool,hy])
theorem BP{e:TypeId}{z:Value}{cs:Array Value}(d:(P.info? e).bind (·.zero)=some z)(f:z.cells=cs):
  BL P ⟨dst,.alloc e,ty,pos,B6,g⟩ a w (fun u w'=>∃b,u=.pointer (some ⟨b,0,none⟩)∧I9 w w' b e cs):=by
 have h:(Instr.alloc e true (.tuple #[])).run P w=.ok (.pointer (some ⟨w.heap.size,0,none⟩)) (w.alloc (.cells cs e)):=by
  obtain⟨i,hi,c⟩:=Option.bind_eq_some_iff.1 d;simp[Instr.alloc,zeroValue,typeInfo,hi,c,newVar,newRow,newObj,program,Sem.run,f]
 unfold BL;simp only[execOp,Sem.run_bind,h,Result.andThen_ok,Sem.run_pure];exact⟨_,rfl,Ii w e cs⟩
theorem B5{e:TypeId}{x:Operand}{v:Value}{cs:Array Value}(c:a.eval x=v)(d:v.cells=cs):
  BL P ⟨dst,.box e x,ty,pos,B6,g⟩ a w (fun u w'=>∃b,u=.pointer (some ⟨b,0,none⟩)∧I9 w w' b e cs):=by
 have h:(Instr.box e (a.eval x)).run P w=.ok (.pointer (some ⟨w.heap.size,0,none⟩)) (w.alloc (.cells cs e)):=by
  simp[Instr.box,newVar,newRow,newObj,Sem.run,c,d]
 unfold BL;simp only[execOp,Sem.run_bind,h,Result.andThen_ok,Sem.run_pure];exact⟨_,rfl,Ii w e cs⟩
theorem IX{o:Oper}{S:Sem Value}{v:Value}{w':World}(b:execOp a.eval o=(do pure (.value (←S))))(h:S.run P w=.ok v w'):BL P o a w (fun u Bj=>u=v∧Bj=w'):=
 Cv (by rw[b];simp[h])
theorem C4{t:TypeId}{ps:Array (Nat×Operand)}{vs:Array (Nat×Value)}{v:Value}(b:ps.map (fun(i,x)=>(i,a.eval x))=vs)(h:(Instr.build t vs).run P w=.ok v w):
  BL P ⟨dst,.build t ps,ty,pos,B6,g⟩ a w (fun u w'=>u=v∧w'=w):=IX (S:=Instr.build t vs) (by simp only[execOp];rw[b]) h
theorem BK{t e:TypeId}{n:Nat}{ps:Array (Nat×Operand)}{vs:Array (Nat×Value)}{cs:Array Value}(c:ps.map (fun(i,x)=>(i,a.eval x))=vs)
  (h:(Instr.buildSlice t n vs).run P w=.ok (.slice (some ⟨w.heap.size,0,none⟩) n n) (w.alloc (.cells cs e))):
  BL P ⟨dst,.buildSlice t n ps,ty,pos,B6,g⟩ a w (fun u w'=>∃b,u=.slice (some ⟨b,0,none⟩) n n∧I9 w w' b e cs):=
 (IX (S:=Instr.buildSlice t n vs) (by simp only[execOp];rw[c]) h).mono fun u w' ⟨hu,hw⟩=>⟨_,hu,by rw[hw];exact Ii w e cs⟩
def DC(P:Program)(t:TypeId)(n:Nat):Prop:=(match P.underlying t with|some (.struct _)|some (.array ..)=>true|_=>false)=true∧(P.info? t).map (·.size)=some n
def One(P:Program)(t:TypeId):Prop:=(match P.underlying t with|some (.struct _)|some (.array ..)|none=>false|_=>true)=true∧(P.info? t).map (·.size)=some 1
theorem Oa{t:TypeId}{n:Nat}(h:DC P t n):(isAgg t).run P w=.ok true w:=by
 unfold isAgg;cases hu:P.underlying t with
 |none=>simp[DC,hu] at h
 |some d=>cases d<;>simp[DC,hu] at h<;>simp[underlying,program,Sem.run,hu]
theorem Ja{t:TypeId}(h:One P t):(isAgg t).run P w=.ok false w:=by
 unfold isAgg;cases hu:P.underlying t with
 |none=>simp[One,hu] at h
 |some d=>cases d<;>simp[One,hu] at h<;>simp[underlying,program,Sem.run,hu]
theorem IA{t:TypeId}{n:Nat}(h:(P.info? t).map (·.size)=some n):(sizeOf t).run P w=.ok n w:=by
 obtain⟨i,hi,a⟩:=Option.map_eq_some_iff.1 h;simp[sizeOf,typeInfo,program,Sem.run,hi,a]
theorem Fq(b o j:Nat):(⟨b,o,none⟩:Addr).add j=⟨b,o+j,none⟩:=by unfold Addr.add;split<;>simp_all
theorem Fe{t:TypeId}{ad:Addr}{v:Value}(h:One P t)(a:w.cell? ad=some v):(loadVar t ad).run P w=.ok v w:=by
 simp[loadVar,Ja h,load,Sem.run,a]
theorem J2{t:TypeId}{n b o:Nat}{cs:List Value}(h:DC P t n)(a:cs.length=n)(c:∀j u,cs[j]?=some u→w.cell? ⟨b,o+j,none⟩=some u):(loadVar t ⟨b,o,none⟩).run P w=.ok (.agg cs.toArray) w:=by
 have h1:=run_loadCells_list (P:=P) (w:=w) ⟨b,o,none⟩ cs (fun j v d=>by rw[Fq];exact c j v d);subst a;simp[loadVar,Oa h,IA h.2,h1]
theorem Ls{t:TypeId}{x:Operand}{ad:Addr}{v:Value}(b:a.eval x=.pointer (some ad))(h:(loadVar t ad).run P w=.ok v w):BL P ⟨dst,.load t x,ty,pos,B6,g⟩ a w (fun u w'=>u=v∧w'=w):=
 IX (S:=Instr.loadAt t (a.eval x)) rfl (by simp[Instr.loadAt,Instr.sureAddr,b,h])
theorem Ap {t c:TypeId} {x:Operand} {b o:Nat} {cs:Array Value} {v:Value} (h:One P t) (d:a.eval x=.pointer (some ⟨b,o,none⟩)) (e:Bk w b c cs) (f:cs.toList[o]?=some v):
  BL P ⟨dst,.load t x,ty,pos,B6,g⟩ a w (fun u w'=>u=v∧w'=w):=Ls d (Fe h ((e.cell o).trans (by simpa using f)))
theorem Bl {t c:TypeId} {x:Operand} {n b o:Nat} {cs:Array Value} {l:List Value} (h:DC P t n) (d:a.eval x=.pointer (some ⟨b,o,none⟩)) (e:Bk w b c cs) (f:(cs.toList.drop o).take n=l) (i:l.length=n):
  BL P ⟨dst,.load t x,ty,pos,B6,g⟩ a w (fun u w'=>u=.agg l.toArray∧w'=w):=Ls d (J2 h i fun j u hu=>by
 rw[e.cell];subst f;rw[List.getElem?_take] at hu;split at hu
 ·simpa using hu
 ·cases hu)
theorem Mp {t:TypeId} {x:Operand} {b o k:Nat} {cs:List Value} {v:Value} (h:One P t) (c:a.eval x=.pointer (some ⟨b,o+k,none⟩)) (d:∀j u,cs[j]?=some u→w.cell? ⟨b,o+j,none⟩=some u) (e:cs[k]?=some v):
  BL P ⟨dst,.load t x,ty,pos,B6,g⟩ a w (fun u w'=>u=v∧w'=w):=Ls c (Fe h (d k v e))
theorem O4 {t:TypeId} {x:Operand} {n b o k:Nat} {cs l:List Value} (h:DC P t n) (c:a.eval x=.pointer (some ⟨b,o+k,none⟩)) (d:∀j u,cs[j]?=some u→w.cell? ⟨b,o+j,none⟩=some u)
  (e:(cs.drop k).take n=l) (f:l.length=n):BL P ⟨dst,.load t x,ty,pos,B6,g⟩ a w (fun u w'=>u=.agg l.toArray∧w'=w):=Ls c (J2 h f fun j u hu=>by
 rw[Nat.add_assoc];refine d _ _ ?_;subst e;rw[List.getElem?_take] at hu;split at hu
 ·simpa using hu
 ·cases hu)
def setCells(cs:Array Value)(o:Nat):List Value→Array Value
 |[]=>cs
 |v::l=>setCells (cs.setIfInBounds o v) (o+1) l
theorem EF(o:Nat):∀(l:List Value) (cs:Array Value) (o:Nat),(setCells cs o l).size=cs.size
 |[],_,_=>rfl
 |v::l,cs,o=>by simp[setCells,EF o l]
theorem Ig{b:Nat}{t:TypeId}{o:Nat}:∀(l:List Value) (i:Nat) (cs:Array Value) (w:World),Bk w b t cs→o+i+l.length≤cs.size→(∀u∈l,u.oneCell'=true)→
  ∃w',(storeCells ⟨b,o,none⟩ l i).run P w=.ok () w'∧Tg w w' b t (setCells cs (o+i) l)
 |[],i,cs,w,h,_,_=>⟨w,by simp[storeCells],rfl,h,World.grownBy.refl w _⟩
 |v::l,i,cs,w,h,hle,h1=>by
  have c:o+i<cs.size:=by simp at hle;omega
  have f:=h1 v (List.mem_cons_self ..);have a:w.cell? ⟨b,o+i,none⟩=some cs[o+i]:=by rw[h.cell];simp[c]
  have d:(store ((⟨b,o,none⟩:Addr).add i) v).run P w=.ok () (w.setCell ⟨b,o+i,none⟩ v):=by
   rw[Fq];cases v<;>simp[Value.oneCell'] at f<;>simp[store,Sem.run,a,h.frozen]
  have g:Bk (w.setCell ⟨b,o+i,none⟩ v) b t (cs.setIfInBounds (o+i) v):=by
   unfold Bk at h⊢;simp[World.setCell,Array.getElem?_modify,h]
  obtain⟨w',j,s1,s2,m⟩:=Ig (o:=o) l (i+1) _ _ g (by simp at hle⊢;omega) (fun u hu=>h1 u (List.mem_cons_of_mem _ hu));refine⟨w',?_,by rw[s1];simp,s2,?_⟩
  ·simp only[storeCells,Sem.run_bind,d,Result.andThen_ok,j]
  ·have g1:GM b w (w.setCell ⟨b,o+i,none⟩ v):=⟨rfl,rfl,rfl,by simp,fun k _ e=>Below.heap_setCell w ⟨b,o+i,none⟩ v k (by simpa using e)⟩;exact World.grownBy.trans g1 m
theorem Bg{t d:TypeId}{x y:Operand}{n b o:Nat}{v:Value}{cs Ci:Array Value}{l:List Value}(i:a.eval x=.pointer (some ⟨b,o,none⟩))(hy:a.eval y=v)(j:(P.info? t).map (·.size)=some n)(k:Bk w b d cs)
  (e:v.cells.toList=l)(m:l.length=n)(hle:o+n≤cs.size)(h1:∀u∈l,u.oneCell'=true)(p:setCells cs o l=Ci):
  BL P ⟨dst,.store t x y,ty,pos,B6,g⟩ a w (fun _ w'=>Tg w w' b d Ci):=by
 obtain⟨w',q,c⟩:=Ig (P:=P) (t:=d) (o:=o) l 0 cs w k (by omega) h1;have f:v.cells.size=n:=by rw[←m,←e];simp
 have h:(Instr.storeAt t (a.eval x) (a.eval y)).run P w=.ok () w':=by
  simp[Instr.storeAt,Instr.sureAddr,i,hy,storeVar,IA j,f,e,q]
 unfold BL;simp only[execOp,Sem.run_bind,h,Result.andThen_ok,Sem.run_pure];rw[Nat.add_zero,p] at c;exact c
theorem FT{x:Operand}{ad:Addr}(b:a.eval x=.pointer (some ad)):BL P ⟨dst,.nilCheck x,ty,pos,B6,g⟩ a w (fun u w'=>u=.pointer (some ad)∧w'=w):=
 Cv (by simp[execOp,b])
def fits(x:Int):Prop:=-9223372036854775808≤x∧x≤9223372036854775807
theorem HW{x:Int}(h:fits x):IntKind.i64.wrap x=x:=by
 rw[IntKind.wrap_i64];unfold fits at h;omega
theorem Bu{x y:Operand}{m n:Int}{t b:TypeId}(c:a.eval x=.int .i64 m)(hy:a.eval y=.int .i64 n)(d:fits (m+n)):BL P ⟨dst,.binOp .add t x y b,ty,pos,B6,g⟩ a w (fun u w'=>u=.int .i64 (m+n)∧w'=w):=
 Cv (by simp[execOp,c,hy,eqGuard,binOp,Op.intArith,HW d])
theorem O5{x y:Operand}{m n:Int}{t b:TypeId}(c:a.eval x=.int .i64 m)(hy:a.eval y=.int .i64 n)(d:fits (m-n)):BL P ⟨dst,.binOp .sub t x y b,ty,pos,B6,g⟩ a w (fun u w'=>u=.int .i64 (m-n)∧w'=w):=
 Cv (by simp[execOp,c,hy,eqGuard,binOp,Op.intArith,HW d])
theorem RC{x y:Operand}{m n:Int}{t b:TypeId}(c:a.eval x=.int .i64 m)(hy:a.eval y=.int .i64 n)(d:fits (m*n)):BL P ⟨dst,.binOp .mul t x y b,ty,pos,B6,g⟩ a w (fun u w'=>u=.int .i64 (m*n)∧w'=w):=
 Cv (by simp[execOp,c,hy,eqGuard,binOp,Op.intArith,HW d])
theorem IY{x y:Operand}{k:IntKind}{m n:Int}{t b:TypeId}(c:a.eval x=.int k m)(hy:a.eval y=.int k n)(h0:0≤m)(h1:1≤n):BL P ⟨dst,.binOp .rem t x y b,ty,pos,B6,g⟩ a w (fun u w'=>u=.int k (m%n)∧w'=w):=
 Cv (by
  have e:m.tmod n=m%n:=Int.tmod_eq_emod_of_nonneg h0;have d:¬n=0:=by omega
  simp[execOp,c,hy,eqGuard,binOp,Op.intDiv,d,e])
theorem Ot(op:BinOp)(t:TypeId)(x y:Operand)(k:IntKind)(m n:Int):(eqGuard op t x y (.int k m) (.int k n)).run P w=.ok () w:=by
 unfold eqGuard;cases op<;>rfl
theorem CP{x y:Operand}{k:IntKind}{m n:Int}{t b:TypeId}(c:a.eval x=.int k m)(hy:a.eval y=.int k n):BL P ⟨dst,.binOp .eql t x y b,ty,pos,B6,g⟩ a w (fun u w'=>u=.bool (m==n)∧w'=w):=
 Cv (by simp[execOp,c,hy,Ot,binOp,Op.intCmp])
theorem Ev{x y:Operand}{k:IntKind}{m n:Int}{t b:TypeId}(c:a.eval x=.int k m)(hy:a.eval y=.int k n):BL P ⟨dst,.binOp .neq t x y b,ty,pos,B6,g⟩ a w (fun u w'=>u=.bool (m !=n)∧w'=w):=
 Cv (by simp[execOp,c,hy,Ot,binOp,Op.intCmp])
theorem Cq{x y:Operand}{k:IntKind}{m n:Int}{t b:TypeId}(c:a.eval x=.int k m)(hy:a.eval y=.int k n):BL P ⟨dst,.binOp .lss t x y b,ty,pos,B6,g⟩ a w (fun u w'=>u=.bool (decide (m<n))∧w'=w):=
 Cv (by simp[execOp,c,hy,Ot,binOp,Op.intCmp])
theorem Ee{x y:Operand}{k:IntKind}{m n:Int}{t b:TypeId}(c:a.eval x=.int k m)(hy:a.eval y=.int k n):BL P ⟨dst,.binOp .leq t x y b,ty,pos,B6,g⟩ a w (fun u w'=>u=.bool (decide (m≤n))∧w'=w):=
 Cv (by simp[execOp,c,hy,Ot,binOp,Op.intCmp])
theorem E0{x y:Operand}{k:IntKind}{m n:Int}{t b:TypeId}(c:a.eval x=.int k m)(hy:a.eval y=.int k n):BL P ⟨dst,.binOp .gtr t x y b,ty,pos,B6,g⟩ a w (fun u w'=>u=.bool (decide (n<m))∧w'=w):=
 Cv (by simp[execOp,c,hy,Ot,binOp,Op.intCmp])
theorem He{x y:Operand}{k:IntKind}{m n:Int}{t b:TypeId}(c:a.eval x=.int k m)(hy:a.eval y=.int k n):BL P ⟨dst,.binOp .geq t x y b,ty,pos,B6,g⟩ a w (fun u w'=>u=.bool (decide (n≤m))∧w'=w):=
 Cv (by simp[execOp,c,hy,Ot,binOp,Op.intCmp])
theorem O6 {op:BinOp} {x y:Operand} {v v1 v2:Value} {t b:TypeId} (c:a.eval x=v1) (hy:a.eval y=v2) (h:(do eqGuard op t x y v1 v2;binOp op t v1 v2:Sem Value).run P w=.ok v w):BL P ⟨dst,.binOp op t x y b,ty,pos,B6,g⟩ a w (fun u w'=>u=v∧w'=w):=
 IX (S:=do eqGuard op t x y v1 v2;binOp op t v1 v2) (by simp only[execOp,c,hy]) h
theorem Dl{x:Operand}{b:Bool}{t:TypeId}(c:a.eval x=.bool b):BL P ⟨dst,.unOp .not t x,ty,pos,B6,g⟩ a w (fun u w'=>u=.bool (!b)∧w'=w):=
 Cv (by simp[execOp,c,Op.unary])
theorem Lt{s t:TypeId}{k k':IntKind}{x:Operand}{n:Int}(b:(P.underlying s).isSome=true)(ht:P.underlying t=some (.int k))(c:a.eval x=.int k' n)(e:k.wrap n=n):BL P ⟨dst,.convert s t x,ty,pos,B6,g⟩ a w (fun u w'=>u=.int k n∧w'=w):=by
 obtain⟨d,f⟩:=Option.isSome_iff_exists.1 b;exact Cv (by cases d<;>simp[execOp,c,convert,underlying,program,Sem.run,f,ht,Conv.intToInt,e])
theorem EG{fn:Fn}{b cs:Array Operand}{vs us:Array Value}(c:b.map a.eval=vs)(d:cs.map a.eval=us):BL P ⟨dst,.makeFunc fn b cs,ty,pos,B6,g⟩ a w (fun u w'=>u=.func fn vs us∧w'=w):=
 Cv (by simp[execOp,Instr.makeFunc,c,d])
theorem Ai{s:TypeId}{x:Operand}{i:Nat}{ad b:Addr}(c:a.eval x=.pointer (some ad))(h:(Instr.fieldAt s (.pointer (some ad)) i).run P w=.ok (.pointer (some b)) w):BL P ⟨dst,.fieldAddr s x i,ty,pos,B6,g⟩ a w (fun u w'=>u=.pointer (some b)∧w'=w):=
 IX (S:=Instr.fieldAt s (.pointer (some ad)) i) (by simp only[execOp,c]) h
theorem B4{x:Operand}{i:Nat}{vs:Array Value}{v:Value}(b:a.eval x=.tuple vs)(h:vs[i]?=some v):BL P ⟨dst,.extract x i,ty,pos,B6,g⟩ a w (fun u w'=>u=v∧w'=w):=
 Cv (by simp[execOp,b,Instr.extract,h])
theorem RX{t:TypeId}{x:Operand}{lo hi:Option Operand}{v:Value}{b c:Option Value}{v':Value}(d:a.eval x=v)(e:lo.map a.eval=b)(f:hi.map a.eval=c)(h:(Instr.sliceAt t v b c none).run P w=.ok v' w):BL P ⟨dst,.slice t x lo hi none,ty,pos,B6,g⟩ a w (fun u w'=>u=v'∧w'=w):=
 IX (S:=Instr.sliceAt t v b c none) (by simp only[execOp,d,e,f,Option.map_none]) h
theorem KY {t e:TypeId} {x y:Operand} {sz b o n c k:Nat} {i:Int} {d:IntKind} (ht:P.underlying t=some (.slice e)) (f:(P.info? e).map (·.size)=some sz) (h:a.eval x=.slice (some ⟨b,o,none⟩) n c) (hy:a.eval y=.int d i)
  (hi:i=k) (j:k<n):BL P ⟨dst,.indexAddr t x y,ty,pos,B6,g⟩ a w (fun u w'=>u=.pointer (some ⟨b,o+k*sz,none⟩)∧w'=w):=
 Cv (by
  subst hi;have l:(0:Int)≤k∧(k:Int)<n:=⟨by omega,by omega⟩;have h3:¬n≤k:=by omega
  simp[execOp,h,hy,Instr.indexAt,asIntOf,underlying,program,Sem.run,ht,l,IA f,Fq,j,h3])
theorem MX {t e:TypeId} {x y:Operand} {sz b o n k:Nat} {i:Int} {c:IntKind} (ht:P.underlying t=some (.array n e)) (d:(P.info? e).map (·.size)=some sz) (f:a.eval x=.pointer (some ⟨b,o,none⟩)) (hy:a.eval y=.int c i)
  (hi:i=k) (h:k<n):BL P ⟨dst,.indexAddr t x y,ty,pos,B6,g⟩ a w (fun u w'=>u=.pointer (some ⟨b,o+k*sz,none⟩)∧w'=w):=
 Cv (by
  subst hi;have j:(0:Int)≤k∧(k:Int)<n:=⟨by omega,by omega⟩;have h3:¬n≤k:=by omega
  simp[execOp,f,hy,Instr.indexAt,asIntOf,underlying,program,Sem.run,ht,j,IA d,Fq,Instr.sureAddr,h,h3])
theorem BX{t e:TypeId}{x:Operand}{A:Option Addr}{n c:Nat}(ht:P.underlying t=some (.slice e))(b:a.eval x=.slice A n c):BL P ⟨dst,.call {callee:=.builtin .len,args:= #[x],argTypes:= #[t]},ty,pos,B6,g⟩ a w (fun u w'=>u=.int .i64 n∧w'=w):=
 Cv (by simp[execOp,resolve,invoke,builtin,Builtin.len_,b,underlying,program,Sem.run,ht,goInt])
theorem KK{x y:Operand}{m n:Int}{t b:TypeId}(c:a.eval x=.int .i64 m)(hy:a.eval y=.int .i64 n):BL P ⟨dst,.call {callee:=.builtin .max,args:= #[x,y],argTypes:= #[t,b]},ty,pos,B6,g⟩ a w (fun u w'=>u=.int .i64 (max m n)∧w'=w):=
 Cv (by
  have e:(if m<n then n else m)=max m n:=by omega
  simp[execOp,resolve,invoke,builtin,Builtin.max_,c,hy,Builtin.max2,e])
theorem RD{x y:Operand}{m n:Int}{t b:TypeId}(c:a.eval x=.int .i64 m)(hy:a.eval y=.int .i64 n):BL P ⟨dst,.call {callee:=.builtin .min,args:= #[x,y],argTypes:= #[t,b]},ty,pos,B6,g⟩ a w (fun u w'=>u=.int .i64 (min m n)∧w'=w):=
 Cv (by
  have e:(if n<m then n else m)=min m n:=by omega
  simp[execOp,resolve,invoke,builtin,Builtin.min_,c,hy,Builtin.min2,e])
def BO (P:Program) (f:FuncId) (args:Array Value) (w:World) (R:Value→World→Prop):Prop:=Calls P f args w (fun e w'=>∃v,e=.returned v∧R v w')
theorem BO.mono{f:FuncId}{args:Array Value}{R R':Value→World→Prop}(h:BO P f args w R)(a:∀v w',R v w'→R' v w'):BO P f args w R':=
 Calls.mono h fun _ _ ⟨v,he,b⟩=>⟨v,he,a _ _ b⟩
def Bn (P:Program) (f:FuncId):Prop:=(match P.funcs[f]? with|some fn=>fn.name !="runtime.NumGoroutine"&&fn.body.isSome|none=>false)=true
theorem J4{f:FuncId}(h:Bn P f)(args:Array Value):(callFunc f args).run P w=.ok (.enter f args) w:=by
 unfold Bn at h;unfold callFunc;cases a:P.funcs[f]? with
 |none=>simp[a] at h
 |some fn=>
  simp only[a,Bool.and_eq_true,bne_iff_ne,ne_eq] at h;obtain⟨h1,b⟩:=h;have h3:fn.body.isNone=false:=by cases d:fn.body<;>simp_all
  have c:¬fn.body=none:=by intro h;simp[h] at b
  simp[program,Sem.run,a,h1,c]
theorem Jh{f:Operand}{xs:Array Operand}{b:Array TypeId}{fn:FuncId}{first cap vs all:Array Value}{R:Value→World→Prop}(c:Bn P fn)(d:a.eval f=.func (.func fn) first cap)(e:xs.map a.eval=vs)(i:first++vs++cap=all)
  (h:BO P fn all w R):BL P ⟨dst,.call {callee:=.value f,args:=xs,argTypes:=b},ty,pos,B6,g⟩ a w R:=by
 have j:(execOp a.eval ⟨dst,.call {callee:=.value f,args:=xs,argTypes:=b},ty,pos,B6,g⟩).run P w=.ok (.enter fn all) w:=by
  simp only[execOp,resolve,d,e,Deferred.ofValue];simp only[Sem.run_bind,Sem.run_pure,Result.andThen_ok,invoke,J4 c,i]
 unfold BL;rw[j];exact h
theorem IZ{f:Operand→Value}:(#[]:Array Operand).map f= #[]:=by simp
theorem CN{f:Operand→Value}{a:Operand}{v0:Value}(h0:f a=v0): #[a].map f= #[v0]:=by simp[h0]
theorem EZ{f:Operand→Value}{a x1:Operand}{v0 v1:Value}(h0:f a=v0)(h1:f x1=v1): #[a,x1].map f= #[v0,v1]:=by simp[h0,h1]
theorem FH{f:Operand→Value}{a x1 x2:Operand}{v0 v1 v2:Value}(h0:f a=v0)(h1:f x1=v1)(b:f x2=v2): #[a,x1,x2].map f= #[v0,v1,v2]:=by simp[h0,h1,b]
theorem Th{f:Operand→Value}{a x1 x2 b:Operand}{v0 v1 v2 v3:Value}(h0:f a=v0)(h1:f x1=v1)(c:f x2=v2)(h3:f b=v3): #[a,x1,x2,b].map f= #[v0,v1,v2,v3]:=by simp[h0,h1,c,h3]
theorem U8{f:Operand→Value}{a x1 x2 b c:Operand}{v0 v1 v2 v3 v4:Value}(h0:f a=v0)(h1:f x1=v1)(d:f x2=v2)(h3:f b=v3)(e:f c=v4): #[a,x1,x2,b,c].map f= #[v0,v1,v2,v3,v4]:=by simp[h0,h1,d,h3,e]
theorem KZ{f:Operand→Value}:(#[]:Array (Nat×Operand)).map (fun(i,x)=>(i,f x))= #[]:=by simp
theorem HC{f:Operand→Value}{i0:Nat}{a:Operand}{v0:Value}(h0:f a=v0): #[(i0,a)].map (fun(i,x)=>(i,f x))= #[(i0,v0)]:=by simp[h0]
theorem IB{f:Operand→Value}{i0 i1:Nat}{a x1:Operand}{v0 v1:Value}(h0:f a=v0)(h1:f x1=v1): #[(i0,a),(i1,x1)].map (fun(i,x)=>(i,f x))= #[(i0,v0),(i1,v1)]:=by simp[h0,h1]
theorem J5{f:Operand→Value}{i0 i1 i2:Nat}{a x1 x2:Operand}{v0 v1 v2:Value}(h0:f a=v0)(h1:f x1=v1)(b:f x2=v2): #[(i0,a),(i1,x1),(i2,x2)].map (fun(i,x)=>(i,f x))= #[(i0,v0),(i1,v1),(i2,v2)]:=by simp[h0,h1,b]
theorem Ti{f:Operand→Value}{i0 i1 i2 i3:Nat}{a x1 x2 b:Operand}{v0 v1 v2 v3:Value}(h0:f a=v0)(h1:f x1=v1)(c:f x2=v2)(h3:f b=v3): #[(i0,a),(i1,x1),(i2,x2),(i3,b)].map (fun(i,x)=>(i,f x))= #[(i0,v0),(i1,v1),(i2,v2),(i3,v3)]:=by simp[h0,h1,c,h3]
theorem Be {f:FuncId} {fn:Func} {c:Code} {args:Array Value} {N:Nat} {R:Value→World→Prop} (b:P.funcs[f]?=some fn) (d:fn.body=some c) (g:fn.ntmps=N) (j:args.size≤N)
  (h:∀a:Act,a.tmps=args++Array.replicate (N-args.size) undef→a.defers=[]→CC P X0 N c (bodyPost P fn (fun e w'=>∃v,e=.returned v∧R v w')) a [] w):BO P f args w R:=by
 refine calls_of_wp b d ?_;rw[g];have:=h {tmps:=args++Array.replicate (N-args.size) undef,defers:=[]} rfl rfl;exact wpIn_wide.1 (this ⟨by simp;omega,rfl,fun _ i=>by cases i⟩)
theorem AR{a:Act}{args:Array Value}{n i:Nat}{v:Value}(h:a.tmps=args++Array.replicate n undef)(hi:args[i]?=some v):sl a i=v:=by
 obtain⟨b,he⟩:=Array.getElem?_eq_some_iff.1 hi;unfold sl;rw[h,Array.getD_eq_getD_getElem?,Array.getElem?_append_left b,hi];rfl
theorem A3 {fn:Func} {N t:Nat} {a:Act} {l:Env} {v:Value} {R:Value→World→Prop} (b:fn.results= #[.tmp t]) (c:ev a l (.tmp t)=v) (h:R v w):LV X0 N (bodyPost P fn (fun e w'=>∃v,e=.returned v∧R v w')) .ret a l w:=fun s=>
 bodyPost_ret (results_tmp b _ _ _) (by rw[Ds,s.df]) ⟨_,rfl,by rw[show(BV a l).tmps.getD t undef=v from ee s c];exact h⟩
theorem Gc{fn:Func}{N t u:Nat}{a:Act}{l:Env}{v v':Value}{R:Value→World→Prop}(b:fn.results= #[.tmp t,.tmp u])(c:ev a l (.tmp t)=v)(hu:ev a l (.tmp u)=v')(h:R (.tuple #[v,v']) w):
  LV X0 N (bodyPost P fn (fun e w'=>∃v,e=.returned v∧R v w')) .ret a l w:=fun s=>
 bodyPost_ret (results_tmp2 b _ _ _) (by rw[Ds,s.df]) ⟨_,rfl,by rw[show(BV a l).tmps.getD t undef=v from ee s c,show(BV a l).tmps.getD u undef=v' from ee s hu];exact h⟩
theorem FY {fn:Func} {N p:Nat} {t:TypeId} {a:Act} {l:Env} {ad:Addr} {v:Value} {R:Value→World→Prop} (c:fn.results= #[.cell p t]) (d:ev a l (.tmp p)=.pointer (some ad)) (f:(loadVar t ad).run P w=.ok v w) (h:R v w):
  LV X0 N (bodyPost P fn (fun e w'=>∃v,e=.returned v∧R v w')) .ret a l w:=fun s=>by
 have b:(BV a l).tmps.getD p undef=.pointer (some ad):=ee s d;refine bodyPost_ret (v:=v) ?_ (by rw[Ds,s.df]) ⟨_,rfl,h⟩;simp only[Array.getD_eq_getD_getElem?] at b;simp[results,c,b,asAddr,f]
theorem KL{fn:Func}{N:Nat}{a:Act}{l:Env}{R:Value→World→Prop}(b:fn.results= #[])(h:R (.tuple #[]) w):LV X0 N (bodyPost P fn (fun e w'=>∃v,e=.returned v∧R v w')) .normal a l w:=fun s=>
 bodyPost_end (results_none b _ _ _) (by rw[Ds,s.df]) ⟨_,rfl,h⟩
end
section
variable{P:Program}{a:Act}{w:World}{dst:Option Tmp}{ty:TypeId}{pos:String}{B6:Array Edge}{g:Option (Nat×Bool)}
def Co(l:List Int):List Value:=l.map (Value.int .i64)
def Fh(l:List Int):Value:=.agg (Co l).toArray
theorem Gd(l:List Int):(Co l).length=l.length:=by simp[Co]
theorem RY(l:List Int)(k:Nat)(h:k<l.length):(Co l)[k]?=some (.int .i64 (l.getD k 0)):=by
 simp[Co,List.getElem?_eq_getElem h]
theorem QK(l:List Int)(k:Nat)(h:k<l.length):(Co l).toArray[k]?=some (.int .i64 (l.getD k 0)):=by
 simpa using RY l k h
theorem CH{t a:TypeId}{n b o:Nat}{cs:Array Value}{l:List Value}(h:DC P t n)(c:Bk w b a cs)(d:(cs.toList.drop o).take n=l)(e:l.length=n):(loadVar t ⟨b,o,none⟩).run P w=.ok (.agg l.toArray) w:=
 J2 h e fun j u hu=>by
  rw[c.cell];subst d;rw[List.getElem?_take] at hu;split at hu
  ·simpa using hu
  ·cases hu
theorem AX{f:Operand}{xs:Array Operand}{b:Array TypeId}{fn:FuncId}{vs:Array Value}{R:Value→World→Prop}(c:Bn P fn)(d:a.eval f=.func (.func fn) #[] #[])(e:xs.map a.eval=vs)
  (h:BO P fn vs w R):BL P ⟨dst,.call {callee:=.value f,args:=xs,argTypes:=b},ty,pos,B6,g⟩ a w R:=
 Jh c d e (by simp) h
theorem Ge {t e:TypeId} {x y:Operand} {b n k:Nat} {i:Int} {c:IntKind} (ht:P.underlying t=some (.array n e)) (d:(P.info? e).map (·.size)=some 1) (f:a.eval x=.pointer (some ⟨b,0,none⟩)) (hy:a.eval y=.int c i)
  (hi:i=k) (h:k<n):BL P ⟨dst,.indexAddr t x y,ty,pos,B6,g⟩ a w (fun u w'=>u=.pointer (some ⟨b,k,none⟩)∧w'=w):=by
 have:=MX (P:=P) (a:=a) (w:=w) (dst:=dst) (ty:=ty) (pos:=pos) (B6:=B6) (g:=g) ht d f hy hi h;simpa using this
theorem Bv{t e:TypeId}{x y:Operand}{b o n c k:Nat}{A:Option Addr}{i:Int}{d:IntKind}(ht:P.underlying t=some (.slice e))(f:(P.info? e).map (·.size)=some 1)(h:a.eval x=.slice A n c)(j:A=some ⟨b,o,none⟩)(hy:a.eval y=.int d i)
  (hi:i=k)(l:k<n):BL P ⟨dst,.indexAddr t x y,ty,pos,B6,g⟩ a w (fun u w'=>u=.pointer (some ⟨b,o+k,none⟩)∧w'=w):=by
 subst j;have:=KY (P:=P) (a:=a) (w:=w) (dst:=dst) (ty:=ty) (pos:=pos) (B6:=B6) (g:=g) ht f h hy hi l;simpa using this
theorem Cf{t e:TypeId}{x y:Operand}{sz b o n c k:Nat}{A:Option Addr}{i:Int}{d:IntKind}(ht:P.underlying t=some (.slice e))(f:(P.info? e).map (·.size)=some sz)(h:a.eval x=.slice A n c)(j:A=some ⟨b,o,none⟩)(hy:a.eval y=.int d i)
  (hi:i=k)(l:k<n):BL P ⟨dst,.indexAddr t x y,ty,pos,B6,g⟩ a w (fun u w'=>u=.pointer (some ⟨b,o+k*sz,none⟩)∧w'=w):=by
 subst j;exact KY ht f h hy hi l
theorem Aq(b:Bool):b=true∨b=false:=by cases b<;>simp
theorem AW{l:List Value}(h:l.all (·.oneCell')=true):∀u∈l,u.oneCell'=true:=by simpa using h
theorem ec{a:Act}{v:Value}:a.eval (.const v)=v:=rfl
theorem es{a:Act}{t:Nat}{v:Value}(h:sl a t=v):a.eval (.tmp t)=v:=h
theorem Ab{v:Value}{b c:Bool}(h:v=.bool b)(a:b=c):v=.bool c:=by rw[h,a]
theorem Tj{w0 w w':World}(h:Below w0.heap.size w0 w)(g:Ext w w'):Below w0.heap.size w0 w':=PI h g h.size
theorem Tk{w0 w w':World}{b:Nat}(h:Below w0.heap.size w0 w)(g:GM b w w')(a:w0.heap.size≤b):Below w0.heap.size w0 w':=PJ h g h.size a
theorem Le{fn:Func}{N:Nat}{a:Act}{l:Env}{R:Value→World→Prop}(b:fn.results= #[])(h:R (.tuple #[]) w):LV X0 N (bodyPost P fn (fun e w'=>∃v,e=.returned v∧R v w')) .ret a l w:=fun s=>
 bodyPost_ret (results_none b _ _ _) (by rw[Ds,s.df]) ⟨_,rfl,h⟩
def flat{α:Type}(enc:α→List Value)(xs:List α):List Value:=xs.flatMap enc
theorem MY{α:Type}(enc:α→List Value)(sz:Nat)(he:∀x,(enc x).length=sz):∀xs:List α,(flat enc xs).length=xs.length*sz
 |[]=>by simp[flat]
 |x::xs=>by
  have:=MY enc sz he xs;unfold flat at*;simp only[List.flatMap_cons,List.length_append,he,this,List.length_cons,Nat.add_mul,Nat.one_mul];omega
theorem Rd.elem {α:Type} {enc:α→List Value} {sz:Nat} (he:∀x,(enc x).length=sz) (a:0<sz) {w:World} {lo hi:Nat} {A:Option Addr} {xs:List α} (h:Rd w lo hi A (flat enc xs)) {k:Nat} (e:k<xs.length):
  ∃b o,A=some ⟨b,o,none⟩∧lo≤b∧b<hi∧∀j u,(flat enc xs)[j]?=some u→w.cell? ⟨b,o+j,none⟩=some u:=by
 have c:=MY enc sz he xs;have d:0<(flat enc xs).length:=by rw[c];exact Nat.mul_pos (by omega) a
 exact h.at_ (k:=0) (u:=(flat enc xs)[0]) (List.getElem?_eq_getElem d)
theorem Rd.Ed{w:World}{lo hi:Nat}{A:Option Addr}{cs:List Value}(h:Rd w lo hi A cs){k:Nat}(a:k<cs.length):
  ∃b o,A=some ⟨b,o,none⟩∧lo≤b∧b<hi∧∀j u,cs[j]?=some u→w.cell? ⟨b,o+j,none⟩=some u:=h.at_ (List.getElem?_eq_getElem a)
end
end Go.Proofs.YtkljfdkmjdjpfaaGreat
end
section
namespace Go.Proofs.YtkljfdkmjdjpfaaGreat
open Go.RowKit
def Fs(o:Oper)(j:Nat):Bool:=o.after.toList.any fun e=>Region.binds .any e&&Nat.beq e.on j
def B7(L:List Oper)(j:Nat):Option Nat:=(L[j]?).bind (·.dst)
def isDst(L:List Oper)(s:Nat):Bool:=L.any fun o=>match o.dst with|some d=>Nat.beq d s|none=>false
def H9:Nat→List Oper→Bool
 |_,[]=>true
 |k,o::L=>(o.after.toList.all fun e=> !Region.binds .any e||Nat.blt e.on k)&&H9 (k+1) L
def J6(N:Nat):List Oper→Bool
 |[]=>true
 |o::L=>(match o.dst with|some d=>Nat.blt d N&& !isDst L d|none=>true)&&J6 N L
def Ji(L:List Oper):List Nat→Bool
 |[]=>true
 |[k]=>Nat.blt k L.length
 |k::j::r=>Nat.blt k j&&(match L[j]? with|some o=>Fs o k|none=>false)&&Ji L (j::r)
def KM(N:Nat)(L:List Oper)(sp:List Nat):Bool:=H9 0 L&&J6 N L&&Ji L sp
theorem J7{L:List Oper}{s:Nat}:isDst L s=true↔∃j,B7 L j=some s:=by
 unfold isDst B7;rw[List.any_eq_true];constructor
 ·rintro⟨o,a,h⟩;obtain⟨j,b,rfl⟩:=List.mem_iff_getElem.1 a;refine⟨j,?_⟩;rw[List.getElem?_eq_getElem b];cases c:L[j].dst with
  |none=>simp[c] at h
  |some d=>simp only[c] at h;simp[c,Nat.eq_of_beq_eq_true h]
 ·rintro⟨j,b⟩;cases a:L[j]? with
  |none=>simp[a] at b
  |some o=>
   refine⟨o,List.mem_of_getElem? a,?_⟩;simp only[a,Option.bind_some] at b;simp[b]
theorem H0{N:Nat}:∀{L:List Oper},J6 N L=true→∀i j d,B7 L i=some d→d<N∧(B7 L j=some d→i=j)
 |[],_,i,j,d,hi=>by simp[B7] at hi
 |o::L,h,i,j,d,hi=>by
  simp only[J6,Bool.and_eq_true] at h;obtain⟨h1,e⟩:=h;have ih:=H0 e;have c:∀d,o.dst=some d→d<N∧∀j,B7 L j≠some d:=by
   intro d f;rw[f] at h1;simp only[Bool.and_eq_true,Bool.not_eq_true'] at h1;refine⟨by simpa[Nat.blt_eq] using h1.1,fun j b=>?_⟩;have:=J7.2 ⟨j,b⟩;rw[this] at h1;cases h1.2
  cases i with
  |zero=>
   have a:o.dst=some d:=by simpa[B7] using hi
   refine⟨(c d a).1,fun b=>?_⟩;cases j with
   |zero=>rfl
   |succ j=>exact absurd (by simpa[B7] using b) ((c d a).2 j)
  |succ i=>
   have a:B7 L i=some d:=by simpa[B7] using hi
   cases j with
   |zero=>
    refine⟨(ih i i d a).1,fun b=>?_⟩;exact absurd a ((c d (by simpa[B7] using b)).2 i)
   |succ j=>
    refine⟨(ih i j d a).1,fun b=>?_⟩;rw[(ih i j d a).2 (by simpa[B7] using b)]
theorem Eo:∀{L:List Oper} {k:Nat},H9 k L=true→∀i o,L[i]?=some o→∀e∈o.after,Region.binds .any e=true→e.on<k+i
 |[],_,_,i,o,a=>by simp at a
 |o'::L,k,h,i,o,a=>by
  simp only[H9,Bool.and_eq_true,List.all_eq_true] at h;cases i with
  |zero=>
   obtain rfl:o'=o:=by simpa using a
   intro e he b;have:=h.1 e (by simpa using he);simp only[Bool.or_eq_true,Bool.not_eq_true',b,Bool.true_eq_false,false_or] at this;simpa[Nat.blt_eq] using this
  |succ i=>
   intro e he b;have:=Eo h.2 i o (by simpa using a) e he b;omega
theorem EL{o:Oper}{j:Nat}:Fs o j=true↔∃e∈o.after,Region.binds .any e=true∧e.on=j:=by
 unfold Fs;rw[List.any_eq_true];constructor
 ·rintro⟨e,he,h⟩;simp only[Bool.and_eq_true] at h;exact⟨e,by simpa using he,h.1,Nat.eq_of_beq_eq_true h.2⟩
 ·rintro⟨e,he,a,rfl⟩;exact⟨e,by simpa using he,by simp[a]⟩
theorem J8{L:List Oper}:∀{sp:List Nat},Ji L sp=true→
  (∀(i k j:Nat),sp[i]?=some k→sp[i+1]?=some j→∃o,L[j]?=some o∧Fs o k=true)∧(∀(i j k:Nat),sp[i]?=some k→sp[j]?=some k→i=j)∧(∀k∈sp,k<L.length)∧(∀k∈sp,∀(e:Nat),sp[0]?=some e→e≤k)
 |[],_=>⟨by simp,by simp,by simp,by simp⟩
 |[k],h=>by
  have n:k<L.length:=by simpa[Ji,Nat.blt_eq] using h
  refine⟨by simp,?_,by simpa using n,by simp⟩;intro i j x hi q;cases i<;>cases j<;>simp_all
 |k::j::r,h=>by
  simp only[Ji,Bool.and_eq_true] at h;obtain⟨⟨h1,f⟩,h3⟩:=h;obtain⟨a1,a2,a3,a4⟩:=J8 h3;have p:k<j:=by simpa[Nat.blt_eq] using h1
  refine⟨?_,?_,?_,?_⟩
  ·intro i x y a hy;cases i with
   |zero=>
    obtain rfl:k=x:=by simpa using a
    obtain rfl:j=y:=by simpa using hy
    cases g:L[j]? with
    |none=>simp[g] at f
    |some o=>exact⟨o,rfl,by simpa[g] using f⟩
   |succ i=>exact a1 i x y (by simpa using a) (by simpa using hy)
  ·intro i b x a c;have d:∀m,(j::r)[m]?=some x→j≤x:=fun m hm=>a4 x (List.mem_of_getElem? hm) j (by simp);cases i with
   |zero=>
    obtain rfl:k=x:=by simpa using a
    cases b with
    |zero=>rfl
    |succ b=>have:=d b (by simpa using c);omega
   |succ i=>
    cases b with
    |zero=>
     obtain rfl:k=x:=by simpa using c
     have:=d i (by simpa using a);omega
    |succ b=>rw[a2 i b x (by simpa using a) (by simpa using c)]
  ·intro x a;rcases List.mem_cons.1 a with rfl|a
   ·have:=a3 j (by simp);omega
   ·exact a3 x a
  ·intro x a e l;obtain rfl:k=e:=by simpa using l
   rcases List.mem_cons.1 a with rfl|a
   ·exact Nat.le_refl _
   ·have:=a4 x a j (by simp);omega
section
variable(P:Program)(X:Ctx)(N:Nat)(L:List Oper)(a:Act)(l:Env)(S:Nat→World→World→Prop)(T:Nat→Act→World→Prop)(Φ:Nat→Value→World→Prop)(sp:List Nat)
structure Ib (k:Nat) (o:Oper) (a':Act) (w':World) (ph:Nat):Prop where
 out:∀s,isDst L s=false→sl a' s=lk (sl a s) l s
 later:∀(j d:Nat) (o':Oper),L[j]?=some o'→o'.dst=some d→Fs o' k=true→sl a' d=lk (sl a d) l d
 An:∀(j d:Nat),Fs o j=true→B7 L j=some d→Φ j (sl a' d) w'
 Bc:T ph a' w'
 DZ:∀(i:Nat),sp[i]?=some k→ph=i
 Ih:∀(i j:Nat) (o':Oper),sp[i]?=some j→L[j]?=some o'→Fs o' k=true→ph≤i
def Ef(k:Nat)(o:Oper):Prop:=∀a' w' ph,Ib L a l T Φ sp k o a' w' ph→
 (Region.wanted o (yielded L.toArray a'.tmps)=true∧BL P o a' w' (fun v Bj=>Φ k v Bj∧(if k∈sp then S k w' Bj∧T (ph+1) (a'.put o.dst v) Bj else Ext w' Bj)))∨
 (Region.wanted o (yielded L.toArray a'.tmps)=false∧Φ k undef w'∧k∉sp)
def Ka:Nat→Nat→List Oper→Prop
 |0,_,_=>True
 |_+1,_,[]=>True
 |m+1,k,o::R=>Ef P L a l S T Φ sp k o∧Ka m (k+1) R
end
def Jw(X:Ctx)(N:Nat)(a:Act)(Φ:Nat→Value→World→Prop)(c:Act→World→Prop)(G:Env→Prop)(w':World):Nat→Nat→List Oper→Env→Prop
 |0,_,_,b=>c (BV a b) w'→G b
 |_+1,_,[],b=>c (BV a b) w'→G b
 |m+1,k,o::R,b=>match o.dst with
  |some d=>∀v,Φ k v w'→Jw X N a Φ c G w' m (k+1) R ((d,v)::b)
  |none=>Jw X N a Φ c G w' m (k+1) R b
def okD (L:List Oper) (sp:List Nat) (D:Nat→List Nat):Bool:=
 (List.range (sp.length+1)).all fun ph=>(D ph).all fun s=>(List.range L.length).all fun i=>match B7 L i with
  |some d=> !Nat.beq d s||(sp.take ph).any fun k=>Nat.beq k i||(match L[k]? with|some o=>Fs o i|none=>false)
  |none=>true
theorem QL{L:List Oper}{sp:List Nat}{D:Nat→List Nat}(h:okD L sp D=true){ph:Nat}(j:ph≤sp.length){i s:Nat}(e:s∈D ph)(hi:B7 L i=some s):
  ∃m k,m<ph∧sp[m]?=some k∧(k=i∨∃o,L[k]?=some o∧Fs o i=true):=by
 have b:i<L.length:=by
  rcases Nat.lt_or_ge i L.length with h|h
  ·exact h
  ·simp[B7,List.getElem?_eq_none h] at hi
 simp only[okD,List.all_eq_true,List.mem_range] at h;have:=h ph (by omega) s e i b;rw[hi] at this;simp only[Nat.beq_refl,Bool.not_true,Bool.false_or,List.any_eq_true] at this;obtain⟨k,f,g⟩:=this;obtain⟨m,hm,c⟩:=List.mem_iff_getElem.1 f;have a:m<ph∧m<sp.length:=by simp at hm;omega
 refine⟨m,k,a.1,?_,?_⟩
 ·rw[←c,List.getElem_take,List.getElem?_eq_getElem a.2]
 ·rcases Bool.or_eq_true _ _▸g with h1|h1
  ·exact .inl (Nat.eq_of_beq_eq_true h1)
  ·cases d:L[k]? with
   |none=>simp[d] at h1
   |some o=>exact .inr ⟨o,rfl,by simpa[d] using h1⟩
section
variable{P:Program}{X:Ctx}{N:Nat}{L:List Oper}{a:Act}{l:Env}{S:Nat→World→World→Prop}{T:Nat→Act→World→Prop}{Φ:Nat→Value→World→Prop}{sp:List Nat}{Q:Exit→Act→World→Prop}{w:World}{k:Nat}{o:Oper}{R:List Oper}
variable(P) in
structure Inv(listed:Array Bool)(a':Act)(w':World):Prop where
 MZ:listed.size=L.length
 sz:a'.tmps.size=N
 df:a'.defers=X.ds
 out:∀s,(∀j,B7 L j=some s→listed.getD j false=false)→sl a' s=lk (sl a s) l s
 done:∀(j d:Nat),listed.getD j false=true→B7 L j=some d→Φ j (sl a' d) w'
 down:∀(j:Nat) (o:Oper),L[j]?=some o→listed.getD j false=true→∀e∈o.after,Region.binds .any e=true→listed.getD e.on false=true
 ph:∃ph,T ph a' w'∧ph≤sp.length∧∀(i k:Nat),sp[i]?=some k→(listed.getD k false=true↔i<ph)
theorem RZ{x y:Act}(a:x.tmps.size=y.tmps.size)(b:x.defers=y.defers)(h:∀s,sl x s=sl y s):x=y:=by
 obtain⟨t,d⟩:=x;obtain⟨c,f⟩:=y;simp only at b a;subst b;have:t=c:=by
  apply Array.ext a;intro i h1 e;have:=h i;unfold sl at this;simp only[Array.getD_eq_getD_getElem?,Array.getElem?_eq_getElem h1,Array.getElem?_eq_getElem e,Option.getD_some] at this;exact this
 rw[this]
theorem KN(q:Act→World→Prop)(G:Env→Prop)(w':World)(a':Act)(c:q a' w')(e:a'.tmps.size=N)(f:a'.defers=X.ds){K:Prop}(u:∀b,St X N a b→G b→a'=BV a b→K):
  ∀(m:Nat) (R:List Oper) (k:Nat) (b:Env),St X N a b→m≤R.length→(∀i d,B7 R i=some d→d<N)→(∀i j d,B7 R i=some d→B7 R j=some d→i=j)→Jw X N a Φ q G w' m k R b→
   (∀i d,i<m→B7 R i=some d→Φ (k+i) (sl a' d) w')→(∀s,(∀i,i<m→B7 R i≠some s)→sl a' s=lk (sl a s) b s)→K
 |0,R,k,b,st,_,_,_,h,_,g=>by
  have:a'=BV a b:=RZ (by rw[H8,st.sz,e]) (by rw[Ds,st.df,f]) (fun s=>by rw[HV st s];exact g s (fun i hi=>absurd hi (by omega)));exact u b st (h (by rw[←this];exact c)) this
 |m+1,[],k,b,st,hm,_,_,h,_,g=>by simp at hm
 |m+1,o::R,k,b,st,hm,r,w,h,x,g=>by
  have l:∀i d,B7 R i=some d→d<N:=fun i d hi=>r (i+1) d (by simpa[B7] using hi);have n:∀i j d,B7 R i=some d→B7 R j=some d→i=j:=fun i j d hi z=>by
   have:=w (i+1) (j+1) d (by simpa[B7] using hi) (by simpa[B7] using z);omega
  have t:∀i d,i<m→B7 R i=some d→Φ (k+1+i) (sl a' d) w':=fun i d aA hi=>by
   have:=x (i+1) d (by omega) (by simpa[B7] using hi);rw[show k+1+i=k+(i+1) from by omega];exact this
  simp only[Jw] at h;cases p:o.dst with
  |none=>
   rw[p] at h;refine KN q G w' a' c e f u m R (k+1) b st (by simpa using hm) l n h t fun s v=>g s fun i hi=>?_;cases i with
   |zero=>simp[B7,p]
   |succ i=>simpa[B7] using v i (by omega)
  |some d=>
   rw[p] at h;have h0:B7 (o::R) 0=some d:=by simp[B7,p]
   refine KN q G w' a' c e f u m R (k+1) _ (st.cons (r 0 d h0) (sl a' d)) (by simpa using hm) l n (h _ (x 0 d (by omega) h0)) t fun s v=>?_;simp only[lk];cases y:Nat.beq d s with
   |true=>
    obtain rfl:d=s:=Nat.eq_of_beq_eq_true y;rfl
   |false=>
    refine g s fun i hi=>?_;cases i with
    |zero=>simp[B7,p,Nat.ne_of_beq_eq_false y]
    |succ i=>simpa[B7] using v i (by omega)
theorem M0:∀{m:Nat} {R:List Oper} {k:Nat},Ka P L a l S T Φ sp m k R→∀(i:Nat) (o:Oper),i<m→R[i]?=some o→Ef P L a l S T Φ sp (k+i) o
 |0,_,_,_,i,o,hi,_=>absurd hi (by omega)
 |_+1,[],_,_,i,o,_,b=>by simp at b
 |m+1,o'::R,k,h,i,o,hi,b=>by
  cases i with
  |zero=>
   obtain rfl:o'=o:=by simpa using b
   exact h.1
  |succ i=>
   have:=M0 h.2 i o (by omega) (by simpa using b);rw[Nat.add_assoc,Nat.add_comm 1 i] at this;exact this
variable(P) in
theorem BI:Ka P L a l S T Φ sp 0 k R:=trivial
theorem Aa{m:Nat}(h:Ef P L a l S T Φ sp k o)(b:Ka P L a l S T Φ sp m (k+1) R):Ka P L a l S T Φ sp (m+1) k (o::R):=⟨h,b⟩
theorem K0{x:Act}{d:Nat}{v:Value}(h:d<x.tmps.size):sl (x.put (some d) v) d=v:=by
 unfold sl Act.put;simp[h]
theorem Kb{x:Act}{d s:Nat}{v:Value}(h:d≠s):sl (x.put (some d) v) s=sl x s:=by
 unfold sl Act.put;simp[Array.getElem?_setIfInBounds_ne h]
theorem FL{listed:Array Bool}{i:Nat}(h:i<listed.size):(listed.setIfInBounds i true).getD i false=true:=by simp[h]
theorem Dm{listed:Array Bool}{i j:Nat}(h:i≠j):(listed.setIfInBounds i true).getD j false=listed.getD j false:=by
 simp[Array.getElem?_setIfInBounds_ne h]
inductive M3 (L:List Oper):Nat→Nat→Prop
 |one {i j:Nat} {o:Oper}:L[i]?=some o→Fs o j=true→M3 L i j
 |step {i d j:Nat} {o:Oper}:L[i]?=some o→Fs o d=true→M3 L d j→M3 L i j
theorem Jx{L:List Oper}{p:Nat→Prop}(a:∀d o,L[d]?=some o→p d→∀k,Fs o k=true→p k){i j:Nat}(h:M3 L i j):(∀o,L[i]?=some o→∀k,Fs o k=true→p k)→p j:=by
 induction h with
 |one b c=>exact fun hi=>hi _ b _ c
 |step b c _ ih=>exact fun hi=>ih fun o' e k f=>a _ o' e (hi _ b _ c) k f
def O7 (acc:List Nat) (m:Nat) (e:Edge):Nat:=if Region.binds .any e then m|||(2^e.on|||acc.getD e.on 0) else m
def Lu(acc:List Nat)(o:Oper):Nat:=o.after.toList.foldl (O7 acc) 0
def MP:List Oper→List Nat→List Nat
 |[],acc=>acc
 |o::R,acc=>MP R (acc++[Lu acc o])
def IC (L:List Oper) (m:Nat):Bool:=(List.range L.length).all fun i=>Nat.blt i m||(List.range i).all fun j=>(match L[i]? with|some o=>Fs o j|none=>false)||((MP L []).getD i 0).testBit j
theorem O8{acc:List Nat}{o:Oper}{j:Nat}(h:(Lu acc o).testBit j=true):∃d,Fs o d=true∧(d=j∨(acc.getD d 0).testBit j=true):=by
 have key:∀(es:List Edge) (m:Nat),(es.foldl (O7 acc) m).testBit j=true→m.testBit j=true∨∃e∈es,Region.binds .any e=true∧(e.on=j∨(acc.getD e.on 0).testBit j=true):=by
  intro es
  induction es with
  |nil=>intro m h;exact .inl h
  |cons e es ih=>
   intro m h;rw[List.foldl_cons] at h;rcases ih _ h with h1|⟨c,b,h1⟩
   ·unfold O7 at h1;split at h1
    ·rename_i a
     rw[Nat.testBit_or,Nat.testBit_or,Bool.or_eq_true,Bool.or_eq_true,Nat.testBit_two_pow,decide_eq_true_eq] at h1;rcases h1 with h1|h1
     ·exact .inl h1
     ·exact .inr ⟨e,List.mem_cons_self ..,a,h1⟩
    ·exact .inl h1
   ·exact .inr ⟨c,List.mem_cons_of_mem _ b,h1⟩
 rcases key _ _ h with h1|⟨e,he,a,h1⟩
 ·simp at h1
 ·exact⟨e.on,EL.2 ⟨e,by simpa using he,a,rfl⟩,h1⟩
theorem Lv{L:List Oper}:∀(R:List Oper) (acc:List Nat),L.drop acc.length=R→(∀i j,(acc.getD i 0).testBit j=true→M3 L i j)→∀i j,((MP R acc).getD i 0).testBit j=true→M3 L i j
 |[],acc,_,h=>h
 |o::R,acc,b,h=>by
  unfold MP;have c:L[acc.length]?=some o:=by
   have:(L.drop acc.length)[0]?=some o:=by rw[b];rfl
   simpa using this
  refine Lv R _ (by rw[List.length_append,List.length_singleton,←List.tail_drop,b];rfl) fun i j a=>?_;rcases Nat.lt_trichotomy i acc.length with hi|hi|hi
  ·rw[List.getD_eq_getElem?_getD,List.getElem?_append_left hi,←List.getD_eq_getElem?_getD] at a;exact h i j a
  ·subst hi;have:(acc++[Lu acc o]).getD acc.length 0=Lu acc o:=by simp
   rw[this] at a;obtain⟨d,e,h1⟩:=O8 a;rcases h1 with rfl|h1
   ·exact .one c e
   ·exact .step c e (h d j h1)
  ·have:(acc++[Lu acc o]).getD i 0=0:=by
    rw[List.getD_eq_getElem?_getD,List.getElem?_eq_none (by simp;omega)];rfl
   rw[this] at a;simp at a
theorem Jb{L:List Oper}{m:Nat}(h:IC L m=true){i:Nat}{o:Oper}(a:L[i]?=some o)(hi:m≤i):∀j,j<i→M3 L i j:=by
 have b:i<L.length:=(List.getElem?_eq_some_iff.1 a).1;simp only[IC,List.all_eq_true,List.mem_range] at h;have h1:=h i b;rw[Bool.or_eq_true] at h1;rcases h1 with h1|h1
 ·have:i<m:=by simpa[Nat.blt_eq] using h1
  omega
 ·simp only[List.all_eq_true,List.mem_range,a,Bool.or_eq_true] at h1;exact fun j c=>(h1 j c).elim (fun h=>.one a h) fun h=>Lv L [] rfl (fun i j d=>by simp at d) i j h
theorem M4 {m:Nat} (ht:IC L m=true) (f:H9 0 L=true):∀(rest:List Oper) (j fuel:Nat) (listed:Array Bool) (a':Act) (w':World),L.drop j=rest→m≤j→rest.length≤fuel→listed.size=L.length→(∀i,i<L.length→(listed.getD i false=true↔i<j))→
  wpListIn (Wd X.ro) 0 P L.toArray Q rest a' w'→wpAnyIn (Wd X.ro) 0 P .any L.toArray Q fuel listed a' w':=by
 intro rest
 induction rest with
 |nil=>
  intro j fuel listed a' w' l hm t q c h;have y:L.length≤j:=List.drop_eq_nil_iff.1 l;have u:Region.ready .any L.toArray listed=[]:=by
   rw[List.eq_nil_iff_forall_not_mem];intro i hi;obtain⟨h0,o,n,_⟩:=mem_ready.1 hi;have r:i<L.length:=by simpa using(Array.getElem?_eq_some_iff.1 n).1
   have h1:=(c i r).2 (by omega);have g:i<listed.size:=by omega
   simp[g] at h0 h1;rw[h0] at h1;cases h1
  cases fuel with
  |zero=>exact⟨u,h⟩
  |succ fuel=>exact⟨fun _=>h,fun i hi=>by rw[u] at hi;cases hi⟩
 |cons o rest ih=>
  intro j fuel listed a' w' l hm t q c h;have y:j<L.length:=by
   rcases Nat.lt_or_ge j L.length with h|h
   ·exact h
   ·rw[List.drop_of_length_le h] at l;cases l
  have n:L[j]?=some o:=by
   have:(L.drop j)[0]?=some o:=by rw[l];rfl
   simpa using this
  have z:L.drop (j+1)=rest:=by rw[←List.tail_drop,l];rfl
  cases fuel with
  |zero=>simp at t
  |succ fuel=>
   refine⟨fun u=>?_,fun i hi=>?_⟩
   ·exfalso;have hm:j∈Region.ready .any L.toArray listed:=mem_ready.2 ⟨by
     have:listed.getD j false=false:=by
      cases aO:listed.getD j false with
      |false=>rfl
      |true=>have:=(c j y).1 aO;omega
     have aH:j<listed.size:=by omega
     simp[aH] at this⊢;exact this,o,by simpa using n,fun e he b=>by
      rcases Nat.lt_or_ge e.on L.length with r|aI
      ·refine(c e.on r).2 ?_;exact Eo f j o n e he b|>fun h=>by omega
      ·have:=Eo f j o n e he b;omega⟩
    rw[u] at hm;cases hm
   ·obtain⟨h0,o',aA,v⟩:=mem_ready.1 hi;have aJ:i<L.length:=by simpa using(Array.getElem?_eq_some_iff.1 aA).1
    have g:i<listed.size:=by omega
    have aB:listed.getD i false=false:=by simp[g] at h0⊢;exact h0
    have aI:j≤i:=by
     rcases Nat.lt_or_ge i j with h1|h1
     ·rw[(c i aJ).2 h1] at aB;cases aB
     ·exact h1
    have aK:i=j:=by
     rcases Nat.lt_or_ge j i with h1|h1
     ·have s:L[i]?=some o':=by simpa using aA
      have:=Jx (p:=fun x=>x<j) (fun d od aL aS k aG=>by
       obtain⟨e,he,b,aC⟩:=EL.1 aG;have:=Eo f d od aL e he b;omega) (Jb ht s (by omega) j h1) (fun aP aD k aG=>by
       rw[s] at aD;obtain rfl:o'=aP:=by simpa using aD
       obtain⟨e,he,b,aC⟩:=EL.1 aG;have aM:=v e he b;rw[aC] at aM;have h3:=Eo f i o' s e he b;exact(c k (by omega)).1 aM)
      omega
     ·omega
    subst aK;unfold wpOpIn;have aN:L.toArray[i]?=some o:=by simpa using n
    simp only[aN];unfold wpListIn at h;have aE:∀x,x<L.length→((listed.setIfInBounds i true).getD x false=true↔x<i+1):=by
     intro x aQ
     by_cases aF:i=x
     ·subst aF;simp only[FL g,true_iff];omega
     ·rw[Dm aF,c x aQ];omega
    split
    ·rename_i hw
     rw[if_pos hw] at h;exact Oper.wpIn_mono (fun a w aR=>ih (i+1) fuel _ a w z (by omega) (by simpa using t) (by simpa using q) aE aR) h
    ·rename_i hw
     rw[if_neg hw] at h;exact⟨h.1,ih (i+1) fuel _ _ _ z (by omega) (by simpa using t) (by simpa using q) aE h.2⟩
theorem QM{m:Nat}(bO:m≤L.length)(bG:IC L m=true)(bK:(sp.all fun k=>Nat.blt k m)=true)(a0:∀k w w',Ext w w'→S k w w')(cB:∀k j v w w',j≠k→(∀o,L[j]?=some o→Fs o k=false)→Φ j v w→S k w w'→Φ j v w')(D:Nat→List Nat)(cC:okD L sp D=true)(cD:∀k x w y w',T k x w→Ext w w'→(∀s,s∈D k→sl y s=sl x s)→T k y w')(aN:KM N L sp=true)(bP:St X N a l)
  (bQ:Ka P L a l S T Φ sp m 0 L)(bL:∀w',Jw X N a Φ (T sp.length) (fun bC=>WL P X N L.toArray Q (L.drop m) a bC w') w' m 0 L l):
  ∀(fuel:Nat) (listed:Array Bool) (a':Act) (w':World),listed.toList.count false≤fuel→Inv (X:=X) (N:=N) (L:=L) (a:=a) (l:=l) (T:=T) (Φ:=Φ) (sp:=sp) listed a' w'→(∀j,m≤j→listed.getD j false=false)→
   wpAnyIn (Wd X.ro) 0 P .any L.toArray Q fuel listed a' w':=by
 simp only[KM,Bool.and_eq_true] at aN;obtain⟨⟨bH,bR⟩,bS⟩:=aN;obtain⟨bT,cL,cM,_⟩:=J8 bS;have aF:=H0 bR
 
 have fin:∀(fuel:Nat) (listed:Array Bool) (a':Act) (w':World),listed.toList.count false≤fuel→Inv (X:=X) (N:=N) (L:=L) (a:=a) (l:=l) (T:=T) (Φ:=Φ) (sp:=sp) listed a' w'→(∀j,m≤j→listed.getD j false=false)→(∀j,j<m→listed.getD j false=true)→wpAnyIn (Wd X.ro) 0 P .any L.toArray Q fuel listed a' w':=by
  intro fuel listed a' w' a2 b q aS;obtain⟨ph,aV,hle,aB⟩:=b.ph;have a3:ph=sp.length:=by
   rcases Nat.lt_or_ge ph sp.length with t|a4
   ·have bU:sp[ph]<m:=by
     have:=List.all_eq_true.1 bK sp[ph] (List.getElem_mem t);simpa[Nat.blt_eq] using this
    have bD:=(aB ph sp[ph] (List.getElem?_eq_getElem t)).1 (aS _ bU);omega
   ·omega
  subst a3;have bV:wpListIn (Wd X.ro) 0 P L.toArray Q (L.drop m) a' w':=by
   refine KN (T sp.length) (fun bC=>WL P X N L.toArray Q (L.drop m) a bC w') w' a' aV b.sz b.df (fun bC st cE e=>by rw[e];exact cE st) m L 0 l bP bO (fun i d hi=>(aF i i d hi).1) (fun i j d hi g=>(aF i j d hi).2 g) (bL w') (fun i d a5 hi=>?_) (fun s u=>?_)
   ·rw[Nat.zero_add];exact b.done i d (aS i a5) hi
   ·refine b.out s fun j g=>?_;rcases Nat.lt_or_ge j m with h|h
    ·exact absurd g (u j h)
    ·exact q j h
  refine M4 bG bH (L.drop m) m fuel listed a' w' rfl (Nat.le_refl _) ?_ b.MZ (fun i hi=>?_) bV
  ·
   refine Nat.le_trans ?_ a2;have cN:listed.toList.length=L.length:=by simpa using b.MZ
   have e:listed.toList.drop m=List.replicate (L.length-m) false:=by
    apply List.ext_getElem
    ·simp[b.MZ]
    ·intro i h1 bM;simp at h1;have:=q (m+i) (by omega);rw[Array.getD_eq_getD_getElem?,Array.getElem?_eq_getElem (by omega)] at this;simpa using this
   have bM:(listed.toList.drop m).count false≤listed.toList.count false:=(List.drop_sublist m listed.toList).count_le false;rw[e,List.count_replicate_self] at bM;simpa using bM
  ·rcases Nat.lt_or_ge i m with h|h
   ·simp[aS i h,h]
   ·simp only[q i h];constructor
    ·intro bW;cases bW
    ·intro bW;omega
 intro fuel
 induction fuel with
 |zero=>
  intro listed a' w' a2 b q;refine fin 0 listed a' w' a2 b q fun j g=>?_;have aP:j<listed.size:=by rw[b.MZ];omega
  cases aA:listed[j] with
  |true=>simp[aP,aA]
  |false=>
   have:false∈listed.toList:=by rw[←aA];simp
   have:=List.count_pos_iff.2 this;omega
 |succ fuel ih=>
  intro listed a' w' a2 b q
  by_cases aW:∀j,j<m→listed.getD j false=true
  ·exact fin (fuel+1) listed a' w' a2 b q aW
  have hex:∃j,j<m∧listed.getD j false=false:=by
   false_or_by_contra
   rename_i bX
   refine aW fun j g=>?_;cases aA:listed.getD j false with
   |true=>rfl
   |false=>exact absurd ⟨j,g,aA⟩ bX
  constructor
  ·intro aG;exfalso;obtain⟨j,g,aA⟩:=hex;refine absurd aA ?_;rw[Bool.not_eq_false];clear aA
   induction j using Nat.strongRecOn with
   |_ j bY=>
    cases aA:listed.getD j false with
    |true=>rfl
    |false=>
     exfalso;have aP:j<listed.size:=by rw[b.MZ];omega
     have hm:j∈Region.ready .any L.toArray listed:=mem_ready.2 ⟨by simp[aP] at aA⊢;exact aA,L[j],by simp,fun e he c=>by
      have h1:=Eo bH j L[j] (List.getElem?_eq_getElem (by omega)) e he c;exact bY e.on (by omega) (by omega)⟩
     rw[aG] at hm;cases hm
  ·intro i hi;obtain⟨h0,o,bZ,aE⟩:=mem_ready.1 hi;have aC:L[i]?=some o:=by simpa using bZ
   have b1:i<L.length:=(List.getElem?_eq_some_iff.1 aC).1;have aL:i<listed.size:=by rw[b.MZ];exact b1
   have aD:listed.getD i false=false:=by simp[aL] at h0⊢;exact h0
   have a5:i<m:=by
    rcases Nat.lt_or_ge i m with h|h
    ·exact h
    ·obtain⟨j,g,aA⟩:=hex;have:=Jx (p:=fun x=>listed.getD x false=true) (fun d od b2 aM k aN=>by
      obtain⟨e,he,c,n⟩:=EL.1 aN;have:=b.down d od b2 aM e he c
      rwa[n] at this) (Jb bG aC h j (by omega)) (fun cF bI k aN=>by
      rw[aC] at bI;obtain rfl:o=cF:=by simpa using bI
      obtain⟨e,he,c,n⟩:=EL.1 aN;have:=aE e he c
      rwa[n] at this)
     rw[aA] at this;cases this
   obtain⟨ph,aV,hle,aB⟩:=b.ph;have aO:∀r,sp[r]?=some i→ph=r:=by
    intro r aT;have a4:¬r<ph:=fun t=>by
     have:=(aB r i aT).2 t;rw[aD] at this;cases this
    cases r with
    |zero=>omega
    |succ m=>
     have hm:m<sp.length:=by
      have:=(List.getElem?_eq_some_iff.1 aT).1;omega
     obtain⟨bN,aX,b3⟩:=bT m sp[m] i (List.getElem?_eq_getElem hm) aT;rw[aC] at aX;obtain rfl:o=bN:=by simpa using aX
     obtain⟨e,he,c,n⟩:=EL.1 b3;have:=aE e he c;rw[n] at this;have:=(aB m sp[m] (List.getElem?_eq_getElem hm)).1 this;omega
   have bE:Ib L a l T Φ sp i o a' w' ph:=by
    refine⟨fun s u=>b.out s fun j g=>?_,fun j d o' g aU aH=>?_,fun j d g aI=>?_,aV,aO,fun r j o' b4 g aH=>?_⟩
    rotate_left 3
    ·rcases Nat.lt_or_ge r ph with t|a4
     ·have aY:=(aB r j b4).2 t;obtain⟨e,he,c,n⟩:=EL.1 aH;have:=b.down j o' g aY e he c;rw[n,aD] at this;cases this
     ·exact a4
    ·have:=J7.2 ⟨j,g⟩;rw[u] at this;cases this
    ·have b5:B7 L j=some d:=by simp[B7,g,aU]
     refine b.out d fun cG aP=>?_;obtain rfl:=(aF j cG d b5).2 aP;cases aA:listed.getD j false with
     |false=>rfl
     |true=>
      obtain⟨e,he,c,n⟩:=EL.1 aH;have:=b.down j o' g aA e he c;rw[n,aD] at this;cases this
    ·obtain⟨e,he,c,n⟩:=EL.1 g;have:=aE e he c;rw[n] at this;exact b.done j d this aI
   
   have step:∀v Bj,Φ i v Bj→S i w' Bj→(∃aJ,T aJ (a'.put o.dst v) Bj∧aJ≤sp.length∧∀(r k:Nat),sp[r]?=some k→((listed.setIfInBounds i true).getD k false=true↔r<aJ))→
     wpAnyIn (Wd X.ro) 0 P .any L.toArray Q fuel (listed.setIfInBounds i true) (a'.put o.dst v) Bj:=by
    intro v Bj bF cH a3;have aM:B7 L i=o.dst:=by simp[B7,aC]
    refine ih _ _ _ ?_ ?_ (fun j g=>by rw[Dm (by omega)];exact q j g)
    ·have t:i<listed.toList.length:=by simpa using aL
     have a6:listed.toList[i]=false:=by
      simp[aL] at aD;simpa using aD
     have b6:(listed.setIfInBounds i true).toList=listed.toList.set i true:=by simp
     rw[b6,List.count_set t,a6];have h1:0<listed.toList.count false:=List.count_pos_iff.2 (by rw[←a6];exact List.getElem_mem t);have cI:(if (false==false)=true then 1 else 0)=1:=rfl;have cJ:(if (true==false)=true then 1 else 0)=0:=rfl;rw[cI,cJ];omega
    ·have a7:∀s,(∀d,o.dst=some d→d≠s)→sl (a'.put o.dst v) s=sl a' s:=by
      intro s u;cases aU:o.dst with
      |none=>rfl
      |some d=>exact Kb (u d aU)
     refine⟨by simp[b.MZ],?_,?_,?_,?_,?_,a3⟩
     ·cases o.dst<;>simp[Act.put,b.sz]
     ·cases o.dst<;>simp[Act.put,b.df]
     ·intro s u;rw[a7 s (fun d aU a8=>by
       subst a8;have:=u i (by rw[aM,aU]);rw[FL aL] at this;cases this)]
      refine b.out s fun j g=>?_;have:=u j g
      by_cases z:i=j
      ·subst z;exact aD
      ·rwa[Dm z] at this
     ·intro j d g aI
      by_cases z:i=j
      ·subst z;rw[aM] at aI;have t:d<a'.tmps.size:=by rw[b.sz];exact(aF i i d (by rw[aM,aI])).1
       rw[aI,K0 t];exact bF
      ·rw[Dm z] at g;have h1:=cB i j _ _ _ (Ne.symm z) (fun a9 b7=>by
        cases bA:Fs a9 i with
        |false=>rfl
        |true=>
         obtain⟨e,he,c,n⟩:=EL.1 bA;have:=b.down j a9 b7 g e he c;rw[n,aD] at this;cases this) (b.done j d g aI) cH
       have:sl (a'.put o.dst v) d=sl a' d:=by
        refine a7 d fun cK b8 bA=>?_;subst bA;exact z ((aF i j cK (by rw[aM,b8])).2 aI)
       rw[this];exact h1
     ·intro j a9 g aY e he c
      by_cases bJ:i=e.on
      ·rw[←bJ];exact FL aL
      ·rw[Dm bJ]
       by_cases z:i=j
       ·subst z;rw[aC] at g;obtain rfl:o=a9:=by simpa using g
        exact aE e he c
       ·rw[Dm z] at aY;exact b.down j a9 g aY e he c
   have bB:∀v Bj,Ext w' Bj→i∉sp→∃aJ,T aJ (a'.put o.dst v) Bj∧aJ≤sp.length∧∀(r k:Nat),sp[r]?=some k→((listed.setIfInBounds i true).getD k false=true↔r<aJ):=by
    intro v Bj bD aQ;refine⟨ph,cD _ _ _ _ _ aV bD (fun s u=>?_),hle,fun r k aK=>?_⟩
    ·cases aU:o.dst with
     |none=>rfl
     |some d=>
      refine Kb fun a8=>?_;subst a8;obtain⟨m,k,hm,aN,b9⟩:=QL cC hle u (i:=i) (by simp[B7,aC,aU]);have cA:=(aB m k aN).2 hm;rcases b9 with rfl|⟨bN,aX,aH⟩
      ·exact aQ (List.mem_of_getElem? aN)
      ·obtain⟨e,he,c,n⟩:=EL.1 aH;have:=b.down k bN aX cA e he c;rw[n,aD] at this;cases this
    rw[Dm (fun aR=>aQ (by rw[aR];exact List.mem_of_getElem? aK))];exact aB r k aK
   unfold wpOpIn;simp only[bZ];rcases M0 bQ i o a5 aC a' w' ph (by rw[Nat.zero_add];exact bE) with⟨hw,bD⟩|⟨hw,hu,aQ⟩
   ·rw[if_pos hw];refine(bD.wp fun v Bj aG=>?_);rw[Nat.zero_add] at aG;obtain⟨bF,aG⟩:=aG
    by_cases u:i∈sp
    ·rw[if_pos u] at aG;refine step v Bj bF aG.1 ⟨ph+1,aG.2,?_,fun r k aK=>?_⟩
     ·obtain⟨m,hm,aZ⟩:=List.mem_iff_getElem.1 u;have:=aO m (by rw[List.getElem?_eq_getElem hm,aZ]);omega
     ·by_cases aR:i=k
      ·subst aR;have:=aO r aK;simp only[FL aL,true_iff];omega
      ·rw[Dm aR,aB r k aK];have cO:r≠ph:=by
        intro e;obtain⟨m,hm,aZ⟩:=List.mem_iff_getElem.1 u;have h1:=aO m (by rw[List.getElem?_eq_getElem hm,aZ]);rw[e,h1,List.getElem?_eq_getElem hm,aZ] at aK;exact aR (by simpa using aK)
       omega
    ·rw[if_neg u] at aG;exact step v Bj bF (a0 _ _ _ aG) (bB v Bj aG u)
   ·rw[if_neg (by rw[hw];simp)];rw[Nat.zero_add] at hu aQ;exact⟨fun f _=>Lq X.ro f,step undef w' hu (a0 _ _ _ (Ext.refl _)) (bB undef w' (Ext.refl _) aQ)⟩
structure JY (S:World→World→Prop) where
 p:Value→World→Prop
 st:∀v w w',p v w→S w w'→p v w'
def Kc {S:World→World→Prop} (c:Value):JY S:=⟨fun v _=>v=c,fun _ _ _ h _=>h⟩
def Kt{S:World→World→Prop}:JY S:=⟨fun _ _=>True,fun _ _ _ h _=>h⟩
def Jy{S:World→World→Prop}(a:List (JY S))(j:Nat):Value→World→Prop:=(a.getD j Kt).p
theorem Cj(w:World):Ext w w.drew:=⟨rfl,rfl,rfl,Nat.le_refl _,fun _ _ _=>rfl⟩
theorem GX(L:List Oper)(sp:List Nat):okD L sp (fun _=>[])=true:=by simp[okD]
def M5 (L:List Oper) (k:Nat) (w w':World):Nat→List (JY Ext)→Prop
 |_,[]=>True
 |i,x::xs=>(i≠k→(∀o,L[i]?=some o→Fs o k=false)→∀v,x.p v w→x.p v w')∧M5 L k w w' (i+1) xs
def RE(L:List Oper)(a:List (JY Ext))(k:Nat)(w w':World):Prop:=∀j,j≠k→(∀o,L[j]?=some o→Fs o k=false)→∀v,Jy a j v w→Jy a j v w'
theorem HJ{a:List (JY Ext)}{k:Nat}{w w':World}(h:M5 L k w w' 0 a):RE L a k w w':=by
 have key:∀(a:List (JY Ext)) (i:Nat),M5 L k w w' i a→∀j,i+j≠k→(∀o,L[i+j]?=some o→Fs o k=false)→∀v,(a.getD j Kt).p v w→(a.getD j Kt).p v w':=by
  intro a
  induction a with
  |nil=>intro i _ j _ _ v h;simpa[Kt] using h
  |cons x xs ih=>
   intro i h j d b v c;cases j with
   |zero=>exact h.1 d b v c
   |succ j=>exact ih (i+1) h.2 j (by omega) (by rw[show i+1+j=i+(j+1) by omega];exact b) v c
 exact fun j d b v c=>key a 0 h j (by omega) (by rw[Nat.zero_add];exact b) v c
theorem GY {id:Nat} (m:Nat) (T:Nat→Act→World→Prop) (D:Nat→List Nat) (sp:List Nat) (c:List (JY Ext)) (hm:P.follows .mixedOrders=true) (u:KM N L sp=true) (b:(Nat.ble m L.length&&IC L m&&(sp.all fun k=>Nat.blt k m))=true)
  (z:okD L sp D=true) (aA:∀k x w y w',T k x w→Ext w w'→(∀s,s∈D k→sl y s=sl x s)→T k y w') (q:St X N a l→T 0 (BV a l) w.drew)
  (r:Ka P L a l (RE L c) T (Jy c) sp m 0 L) (n:∀w',Jw X N a (Jy c) (T sp.length) (fun aB=>WL P X N L.toArray Q (L.drop m) a aB w') w' m 0 L l):CC P X N (.region id L.toArray true) Q a l w:=fun st=>
 wpIn_region_any hm (by
  simp only[Bool.and_eq_true] at b;have aC:Inv (X:=X) (N:=N) (L:=L) (a:=a) (l:=l) (T:=T) (Φ:=Jy c) (sp:=sp) (Array.replicate L.length false) (BV a l) w.drew:=by
   have p:∀j,(Array.replicate L.length false).getD j false=false:=by
    intro j;rw[Array.getD_eq_getD_getElem?];rcases Nat.lt_or_ge j L.length with h|h
    ·simp[h]
    ·simp[h]
   refine⟨by simp,by rw[H8,st.sz],by rw[Ds,st.df],fun s _=>HV st s,fun j d h=>?_,fun j o _ h=>?_,⟨0,q st,Nat.zero_le _,fun i k _=>?_⟩⟩
   ·rw[p j] at h;cases h
   ·rw[p j] at h;cases h
   ·rw[p k];simp
  have f:=QM (m:=m) (by simpa[Nat.ble_eq] using b.1.1) b.1.2 b.2 (S:=RE L c) (fun _ w w' g j _ _ v=>fun h=>(c.getD j Kt).st v w w' h g) (fun k j v w w' t aD h aE=>aE j t aD v h) D z aA u st r n L.length (Array.replicate L.length false) (BV a l) w.drew (by
   refine Nat.le_trans (List.count_le_length ..) (by simp)) aC (fun j _=>by
    rw[Array.getD_eq_getD_getElem?];rcases Nat.lt_or_ge j L.length with h|h
    ·simp[h]
    ·simp[h])
  have e:L.toArray.size=L.length:=by simp
  rw[e];exact f)
theorem B3 {id:Nat} (m:Nat) (b:List (JY Ext)) (hm:P.follows .mixedOrders=true) (f:KM N L []=true) (d:(Nat.ble m L.length&&IC L m&&true)=true)
  (e:Ka P L a l (RE L b) (fun _ _ w'=>Ext w w') (Jy b) [] m 0 L) (c:∀w',Jw X N a (Jy b) (fun _ w'=>Ext w w') (fun i=>WL P X N L.toArray Q (L.drop m) a i w') w' m 0 L l):CC P X N (.region id L.toArray true) Q a l w:=
 GY m (fun _ _ w'=>Ext w w') (fun _=>[]) [] b hm f d (GX L []) (fun _ _ _ _ _ h g _=>Ext.trans h g) (fun _=>Cj w) e c
theorem Eg{k:Nat}{o:Oper}(c:o.guard=none)(d:sp.contains k=false)(h:∀a' w' ph,Ib L a l T Φ sp k o a' w' ph→BL P o a' w' (fun v Bj=>Φ k v Bj∧Ext w' Bj)):Ef P L a l S T Φ sp k o:=fun a' w' ph hK=>
 .inl ⟨by unfold Region.wanted;rw[c],(h a' w' ph hK).mono fun v Bj b=>⟨b.1,by
  have:k∉sp:=by simpa using d
  rw[if_neg this];exact b.2⟩⟩
theorem Tl{k:Nat}{o:Oper}{c:Value}(b:o.guard=none)(d:sp.contains k=false)(e:∀w,Φ k c w)(h:∀a' w' ph,Ib L a l T Φ sp k o a' w' ph→BL P o a' w' (fun u Bj=>u=c∧Bj=w')):Ef P L a l S T Φ sp k o:=
 Eg b d fun a' w' ph hK=>(h a' w' ph hK).mono (by rintro _ _ ⟨rfl,rfl⟩;exact⟨e _,Ext.refl _⟩)
theorem Hf{k:Nat}{o:Oper}(c:o.guard=none)(d:sp.contains k=true)(h:∀a' w' ph,Ib L a l T Φ sp k o a' w' ph→BL P o a' w' (fun v Bj=>Φ k v Bj∧S k w' Bj∧T (ph+1) (a'.put o.dst v) Bj)):Ef P L a l S T Φ sp k o:=fun a' w' ph hK=>
 .inl ⟨by unfold Region.wanted;rw[c],(h a' w' ph hK).mono fun v Bj b=>⟨b.1,by
  have:k∈sp:=by simpa using d
  rw[if_pos this];exact b.2⟩⟩
theorem K1{a':Act}{j d:Nat}{b:Bool}(c:B7 L j=some d)(a:sl a' d=.bool b):yielded L.toArray a'.tmps j=some b:=by
 unfold yielded;unfold B7 at c;have e:((L.toArray)[j]?).bind (·.dst)=some d:=by simpa using c
 simp only[e,Option.bind_some];unfold sl at a;rw[Array.getD_eq_getD_getElem?] at a;cases f:a'.tmps[d]? with
 |none=>rw[f] at a;simp[undef] at a
 |some u=>rw[f] at a;simp at a;rw[a]
theorem GA{k j d:Nat}{o:Oper}{b:Bool}(e:o.guard=some (j,b))(f:B7 L j=some d)(g:sp.contains k=false)(i:∀a' w' ph,Ib L a l T Φ sp k o a' w' ph→sl a' d=.bool b)
  (h:∀a' w' ph,Ib L a l T Φ sp k o a' w' ph→BL P o a' w' (fun v Bj=>Φ k v Bj∧Ext w' Bj)):Ef P L a l S T Φ sp k o:=fun a' w' ph hK=>
 .inl ⟨by unfold Region.wanted;rw[e];simp[K1 f (i a' w' ph hK)],(h a' w' ph hK).mono fun v Bj c=>⟨c.1,by
  have:k∉sp:=by simpa using g
  rw[if_neg this];exact c.2⟩⟩
theorem AE{k j d:Nat}{o:Oper}{b:Bool}{c:Value}(e:o.guard=some (j,b))(f:B7 L j=some d)(g:sp.contains k=false)(i:∀w,Φ k c w)(m:∀a' w' ph,Ib L a l T Φ sp k o a' w' ph→sl a' d=.bool b)
  (h:∀a' w' ph,Ib L a l T Φ sp k o a' w' ph→BL P o a' w' (fun u Bj=>u=c∧Bj=w')):Ef P L a l S T Φ sp k o:=
 GA e f g m fun a' w' ph hK=>(h a' w' ph hK).mono (by rintro _ _ ⟨rfl,rfl⟩;exact⟨i _,Ext.refl _⟩)
theorem A5{k j d:Nat}{o:Oper}{b c:Bool}(e:o.guard=some (j,b))(f:B7 L j=some d)(g:sp.contains k=false)(h:c≠b)(i:∀a' w' ph,Ib L a l T Φ sp k o a' w' ph→sl a' d=.bool c)(m:∀w,Φ k undef w):Ef P L a l S T Φ sp k o:=fun a' w' ph hK=>
 .inr ⟨by unfold Region.wanted;rw[e];simp[K1 f (i a' w' ph hK),h],m _,by simpa using g⟩
theorem ML{a':Act}{j d:Nat}(b:B7 L j=some d)(a:sl a' d=undef):yielded L.toArray a'.tmps j=none:=by
 unfold yielded;unfold B7 at b;have c:((L.toArray)[j]?).bind (·.dst)=some d:=by simpa using b
 simp only[c,Option.bind_some];unfold sl at a;rw[Array.getD_eq_getD_getElem?] at a;cases e:a'.tmps[d]? with
 |none=>rfl
 |some u=>rw[e] at a;simp at a;rw[a];rfl
theorem D4{k j d:Nat}{o:Oper}{b:Bool}(c:o.guard=some (j,b))(e:B7 L j=some d)(f:sp.contains k=false)(g:∀a' w' ph,Ib L a l T Φ sp k o a' w' ph→sl a' d=undef)(h:∀w,Φ k undef w):Ef P L a l S T Φ sp k o:=fun a' w' ph hK=>
 .inr ⟨by unfold Region.wanted;rw[c];simp[ML e (g a' w' ph hK)],h _,by simpa using f⟩
def Kn (B:Nat) (mk:Nat→Value) (t:TypeId) (cs:Array Value):JY Ext:=⟨fun v w=>∃b,v=mk b∧B≤b∧Bk w b t cs,fun _ _ _ ⟨b,h1,a,h3⟩ h=>⟨b,h1,a,h3.ext h⟩⟩
theorem UB{w w' Bj:World}{mk:Nat→Value}{t:TypeId}{cs:Array Value}{u:Value}(h0:w.heap.size≤w'.heap.size)(h:∃b,u=mk b∧I9 w' Bj b t cs):(Kn w.heap.size mk t cs).p u Bj∧Ext w' Bj:=by
 obtain⟨b,hu,a⟩:=h;exact⟨⟨b,hu,by rw[a.En];exact h0,a.bk⟩,a.gr⟩
end
def T2 (w:World) (r:Nat) (M:World→Prop):Nat→World→Prop
 |0,w'=>Ext w w'
 |_+1,w'=>GM r w w'∧M w'
theorem Ij{a b:World}{r:Nat}(h:Ext a b):GM r a b:=⟨h.os,h.tape,h.output,h.size,fun k c _=>h.block k c (by simp)⟩
theorem M6{w w':World}{r ph:Nat}{M:World→Prop}(h:T2 w r M ph w'):GM r w w':=by
 cases ph with
 |zero=>exact Ij h
 |succ=>exact h.1
theorem Bk.t2{w w':World}{r ph b:Nat}{t:TypeId}{cs:Array Value}{M:World→Prop}(h:Bk w b t cs)(g:T2 w r M ph w')(a:b≠r):Bk w' b t cs:=h.MV (M6 g) a
theorem Rd.t2{w w':World}{r ph lo hi:Nat}{A:Option Addr}{cs:List Value}{M:World→Prop}(h:Rd w lo hi A cs)(g:T2 w r M ph w')(a:r<lo∨hi≤r):Rd w' lo hi A cs:=h.MV (M6 g) a
abbrev I(n:Int):Value:=.int .i64 n
abbrev pt(b o:Nat):Value:=.pointer (some ⟨b,o,none⟩)
section
variable{P:Program}{X:Ctx}{N:Nat}{ops:Array Oper}{Q:Exit→Act→World→Prop}{rest:List Oper}{a:Act}{l:Env}{w:World}{op:Op}{ty:TypeId}{pos:String}{B6:Array Edge}{d:Nat}
theorem wd{v:Value}{w':World}(b:Nat.blt d N=true)(c:St X N a l→BL P ⟨some d,op,ty,pos,B6,none⟩ (BV a l) w (fun u Bj=>u=v∧Bj=w'))(e:WL P X N ops Q rest a ((d,v)::l) w'):WL P X N ops Q (⟨some d,op,ty,pos,B6,none⟩::rest) a l w:=
 Tf rfl rfl (by simpa[Nat.blt_eq] using b) c e
theorem wm{x:Operand}{v:Value}(b:Nat.blt d N=true)(c:ev a l x=v)(e:WL P X N ops Q rest a ((d,v)::l) w):WL P X N ops Q (⟨some d,.move x,ty,pos,B6,none⟩::rest) a l w:=
 wd b (fun st=>AN (ee st c)) e
theorem wa{x:Operand}{v:Value}(b:Nat.blt d N=true)(c:ev a l x=v)(e:WL P X N ops Q rest a ((d,v)::l) w):WL P X N ops Q (⟨some d,.assign x,ty,pos,B6,none⟩::rest) a l w:=
 wd b (fun st=>Hq (ee st c)) e
theorem we{R:Value→World→Prop}(b:Nat.blt d N=true)(c:St X N a l→BL P ⟨some d,op,ty,pos,B6,none⟩ (BV a l) w R)(e:∀v w',R v w'→WL P X N ops Q rest a ((d,v)::l) w'):WL P X N ops Q (⟨some d,op,ty,pos,B6,none⟩::rest) a l w:=
 RB rfl rfl (by simpa[Nat.blt_eq] using b) c e
end
end Go.Proofs.YtkljfdkmjdjpfaaGreat
end
section
namespace Go.Proofs.YtkljfdkmjdjpfaaGreat
open Go.RowKit
section
variable{P:Program}{a:Act}{w:World}{dst:Option Tmp}{ty:TypeId}{pos:String}{B6:Array Edge}{g:Option (Nat×Bool)}
theorem R0{f:Operand}{xs:Array Operand}{b:Array TypeId}{l:Nat}{vs:Array Value}{R:Value→World→Prop}(c:a.eval f=.func (.yield l) #[] #[])(d:xs.map a.eval=vs)
  (h:YieldAt Fence.wide 0 P l vs w (fun e w'=>∃v,e=.returned v∧R v w')):BL P ⟨dst,.call {callee:=.value f,args:=xs,argTypes:=b},ty,pos,B6,g⟩ a w R:=by
 obtain⟨fn,tmps,assign,body,hy,i⟩:=h;have j:(execOp a.eval ⟨dst,.call {callee:=.value f,args:=xs,argTypes:=b},ty,pos,B6,g⟩).run P w=.ok (.round l fn tmps assign body) w:=by
  simp only[execOp,resolve,c,d,Deferred.ofValue];simp only[Sem.run_bind,Sem.run_pure,Result.andThen_ok,invoke];simpa using hy
 unfold BL;rw[j];exact i
end
theorem CA{w w':World}{k:Nat}{o:Obj}(h:w.heap[k]?=some o)(g:Ext w w'):w'.heap[k]?=some o:=(g.block k (Array.getElem?_eq_some_iff.1 h).1 (by simp)).trans h
def mark(D:Nat):List Deferred:=[{target:=.collected D,args:= #[]}]
abbrev X1(D:Nat):Ctx:=⟨none,mark D⟩
abbrev XR(r:Nat):Ctx:=⟨some r,[]⟩
def ID(a:Act)(D:Nat):Act:={a with defers:=mark D}
theorem Mq(a:Act)(D:Nat):∀l:Env,BV (ID a D) l=ID (BV a l) D
 |[]=>rfl
 |(d,v)::l=>by simp only[BV,Mq a D l];rfl
theorem St.ID{N:Nat}{a:Act}{l:Env}(s:St X0 N a l)(D:Nat):St (X1 D) N (ID a D) l:=⟨s.sz,rfl,s.lt⟩
theorem St.inr{N:Nat}{a:Act}{l:Env}(s:St X0 N a l)(r:Nat):St (XR r) N a l:=⟨s.sz,s.df,s.lt⟩
theorem GN(w:World)(r:Nat)(o:Obj):GM r w (w.putObj r o):=
 ⟨rfl,rfl,rfl,by simp,fun k _ a=>World.putObj_heap_other (fun e=>a (by rw[e]))⟩
section
variable{P:Program}{N:Nat}{Q:Exit→Act→World→Prop}{a:Act}{l:Env}{w:World}
def Lw(a:Act)(l:Env)(fn:FuncId)(p:Nat)(assign body:Code)(D:Nat):Loop:=
 {state:=.ready,pending:=none,fn,tmps:=(BV a l).tmps,params:= #[p],assign,body,defers:=D}
structure O9(lp:Loop)(a:Act)(l:Env)(p:Nat)(assign body:Code):Prop where
 st:lp.state=.ready
 pe:lp.pending=none
 tm:lp.tmps=(BV a l).tmps
 ps:lp.params= #[p]
 VG:lp.assign=assign
 bo:lp.body=body
theorem QN{g:Operand}{p:Nat}{assign body:Code}{b:FuncId}{cap:Array Value}(q:Bn P b)(t:ev a l g=.func (.func b) #[] cap)
  (h:St X0 N a l→∀(lp:Loop) (w1:World),O9 lp a l p assign body→Ext w w1→w1.heap.size=w.heap.size+2→w1.heap[w.heap.size]?=some (.deferred (some []))→w1.heap[w.heap.size+1]?=some (.loop lp)→
   BO P b (#[.func (.yield (w.heap.size+1)) #[] #[]]++cap) w1 (fun _ f=>∃r,f.heap[w.heap.size+1]?=some (.loop r)∧r.state≠.busy∧
    (r.pending=none→∀d,GM (w.heap.size+1) f d→LV (X1 w.heap.size) N Q .normal (ID a w.heap.size) l d)∧
    (∀c,r.pending=some c→∀d,GM (w.heap.size+1) f d→CC P (X1 w.heap.size) N c Q (ID a w.heap.size) l d))):
  CC P X0 N (.rangeFunc g #[p] assign body) Q a l w:=fun s=>by
 refine wpIn_rangeFunc (F:=Fence.wide) fun fn _=>?_;have j:(BV a l).eval g=.func (.func b) #[] cap:=ee s t
 let w1:=(w.alloc (.deferred (some []))).alloc (.loop (Lw a l fn p assign body w.heap.size))
 have u:Ext w w1:=Ext.trans (World.grownBy_alloc w _ _) (World.grownBy_alloc _ _ _);have k:w1.heap.size=w.heap.size+2:=by simp[w1]
 have x:w1.heap[w.heap.size]?=some (.deferred (some [])):=by
  have y:(w.alloc (.deferred (some []))).heap[w.heap.size]?=some (.deferred (some [])):=World.alloc_heap_new w _;exact(Below.heap_alloc _ _ _ (by simp)).trans y
 have m:w1.heap[w.heap.size+1]?=some (.loop (Lw a l fn p assign body w.heap.size)):=by
  have:=World.alloc_heap_new (w.alloc (.deferred (some []))) (.loop (Lw a l fn p assign body w.heap.size));simpa[w1] using this
 have i:=h s (Lw a l fn p assign body w.heap.size) w1 ⟨rfl,rfl,rfl,rfl,rfl,rfl⟩ u k x m;refine⟨w.heap.size+1,mark w.heap.size,w1,⟨.fn (.func b) cap, #[]++ #[.func (.yield (w.heap.size+1)) #[] #[]]⟩,w1,b, #[.func (.yield (w.heap.size+1)) #[] #[]]++cap,w1,run_enterLoop_outer fn _ _ _ _,?_,fun _ _=>trivial,?_,QJ none,?_⟩
 ·have z:(#[Operand.const (.func (.yield (w.heap.size+1)) #[] #[])]).map (BV a l).eval= #[.func (.yield (w.heap.size+1)) #[] #[]]:=CN rfl;simp only[resolve,j,Deferred.ofValue,z];simp only[Sem.run_bind,Sem.run_pure,Result.andThen_ok]
 ·simp[invoke,J4 q]
 ·have aA:CallsIn Fence.wide (0-1) P b (#[.func (.yield (w.heap.size+1)) #[] #[]]++cap) w1 _:=callsIn_wide.2 i;refine aA.mono ?_;rintro e f ⟨v,rfl,r,aB,aC,aD,aE⟩;refine⟨r.pending,_,run_endLoop aB aC,?_⟩;have n:mark w.heap.size++(BV a l).defers=mark w.heap.size:=by rw[Ds,s.df];rfl
  have he:({BV a l with defers:=mark w.heap.size++(BV a l).defers}:Act)=BV (ID a w.heap.size) l:=by rw[Mq,n];rfl
  cases o:r.pending with
  |none=>simp only[];rw[he];exact aD o _ (GN _ _ _) (s.ID _)
  |some c=>simp only[];rw[he];exact aE c o _ (GN _ _ _) (s.ID _)
theorem Jz {r:Nat} {lp:Loop} {p:Nat} {assign body:Code} {v:Value} {R:Value→World→Prop} (s:St X0 N a l) (f:w.heap[r]?=some (.loop lp)) (b:O9 lp a l p assign body)
  (h:CC P (XR r) N assign (Exit.then (fun g i=>∃c,(Instr.beginRound r).run P i=.ok () c∧CW P (XR r).ro body (roundPost P r (fun e w'=>∃v,e=.returned v∧R v w')) g c) (fun _ _ _=>False)) a ((p,v)::l) w) (d:p<N):
  YieldAt Fence.wide 0 P r #[v] w (fun e w'=>∃v,e=.returned v∧R v w'):=by
 refine⟨_,_,_,_,run_yield f (by rw[b.ps];rfl),?_⟩;have j:((lp.params.zip #[v]).foldl (fun tmps (t,a)=>tmps.setIfInBounds t a) lp.tmps)=(BV a ((p,v)::l)).tmps:=by
  rw[b.ps,b.tm];simp[BV,Act.put]
 rw[j,b.VG,b.bo];refine roundIn_of_wpIn trivial ?_;have k:=h ((s.inr r).cons d v);have m:({tmps:=(BV a ((p,v)::l)).tmps,defers:=[]}:Act)=BV a ((p,v)::l):=by
  have:(BV a ((p,v)::l)).defers=[]:=by rw[Ds];exact s.df
  rw[←this]
 rw[m];exact k
theorem JA{r:Nat}{lp:Loop}{body:Code}{R:Ending→World→Prop}(b:w.heap[r]?=some (.loop lp))(d:lp.state=.ready)
  (h:∀w',GM r w w'→w'.heap[r]?=some (.loop {lp with state:=.busy})→CC P (XR r) N body (roundPost P r R) a l w'):
  LV (XR r) N (Exit.then (fun e f=>∃c,(Instr.beginRound r).run P f=.ok () c∧CW P (XR r).ro body (roundPost P r R) e c) (fun _ _ _=>False)) .normal a l w:=fun s=>
 ⟨_,run_beginRound b d,h _ (GN _ _ _) (World.putObj_heap_same (Array.getElem?_eq_some_iff.1 b).1) s⟩
theorem Jj{r:Nat}{lp:Loop}{R:Value→World→Prop}(b:w.heap[r]?=some (.loop lp))(h:∀w',GM r w w'→w'.heap[r]?=some (.loop {lp with state:=.ready,pending:=none})→R (.bool true) w'):
  LV (XR r) N (roundPost P r (fun e w'=>∃v,e=.returned v∧R v w')) .normal a l w:=fun _=>⟨_,_,run_endRound none b,_,rfl,h _ (GN _ _ _) (World.putObj_heap_same (Array.getElem?_eq_some_iff.1 b).1)⟩
theorem H2{r:Nat}{lp:Loop}{R:Value→World→Prop}(b:w.heap[r]?=some (.loop lp))(h:∀w',GM r w w'→w'.heap[r]?=some (.loop {lp with state:=.done,pending:=some .ret})→R (.bool false) w'):
  LV (XR r) N (roundPost P r (fun e w'=>∃v,e=.returned v∧R v w')) .ret a l w:=fun _=>⟨_,_,run_endRound (some .ret) b,_,rfl,h _ (GN _ _ _) (World.putObj_heap_same (Array.getElem?_eq_some_iff.1 b).1)⟩
def PM (P:Program) (fn:Func) (R:Value→World→Prop):Exit→Act→World→Prop:=bodyPostM Fence.wide 0 P fn (fun e w'=>∃v,e=.returned v∧R v w')
theorem JB{f:FuncId}{fn:Func}{c:Code}{args:Array Value}{N:Nat}{R:Value→World→Prop}(b:P.funcs[f]?=some fn)(d:fn.body=some c)(e:fn.ntmps=N)(i:args.size≤N)
  (h:∀a:Act,a.tmps=args++Array.replicate (N-args.size) undef→a.defers=[]→CC P X0 N c (PM P fn R) a [] w):BO P f args w R:=by
 refine callsIn_wide.1 (callsIn_of_wp_marks (n:=0) b d trivial ?_);rw[e];exact h {tmps:=args++Array.replicate (N-args.size) undef,defers:=[]} rfl rfl ⟨by simp;omega,rfl,fun _ g=>by cases g⟩
theorem I0 {fn:Func} {R:Value→World→Prop} (h:LV X0 N (bodyPost P fn (fun e w'=>∃v,e=.returned v∧R v w')) .ret a l w):LV X0 N (PM P fn R) .ret a l w:=fun s=>by
 obtain⟨b,v,c,d⟩:=h s;show LeavesInM Fence.wide 0 P fn _ _ (BV a l).defers .returning w;rw[b];exact⟨v,c,d⟩
end
section
variable{P:Program}{X:Ctx}{N:Nat}{Q:Exit→Act→World→Prop}{a:Act}{l:Env}{w:World}
theorem QO{c:Code}(h:CC P X0 N c (Exit.noGoto Q) a l w):CC P X0 N (.scope c) Q a l w:=fun s=>wpIn_wide.2 (wp_scope_straight (wpIn_wide.1 (h s)))
theorem QP{k:Nat}(h:LV X N Q .normal a l w):CC P X N (.label k) Q a l w:=fun s=>wpIn_label (h s)
theorem Mr(h:LV X N Q .ret a l w):LV X N (Exit.noGoto Q) .ret a l w:=h
end
theorem Jk{lp:Loop}{a:Act}{l:Env}{p:Nat}{assign body:Code}(h:O9 lp a l p assign body):({{lp with state:=.busy} with state:=.ready,pending:=none}:Loop)=lp:=by
 obtain⟨h1,b,_⟩:=h;cases lp;simp only at h1 b;subst h1;subst b;rfl
section
variable{P:Program}{N:Nat}{Q:Exit→Act→World→Prop}{a:Act}{l:Env}{w:World}
theorem Kd {g:Operand} {p:Nat} {assign body:Code} {d:FuncId} {cap:Array Value} (i:Bn P d) (j:ev a l g=.func (.func d) #[] cap)
  (h:St X0 N a l→∀(lp:Loop) (w1:World) (D lo:Nat),O9 lp a l p assign body→Ext w w1→w.heap.size≤D→D<w1.heap.size→w.heap.size≤lo→lo<w1.heap.size→lo≠D→w1.heap[D]?=some (.deferred (some []))→w1.heap[lo]?=some (.loop lp)→
   BO P d (#[.func (.yield lo) #[] #[]]++cap) w1 (fun _ e=>∃r,e.heap[lo]?=some (.loop r)∧r.state≠.busy∧
    (r.pending=none→∀b,GM lo e b→LV (X1 D) N Q .normal (ID a D) l b)∧
    (∀c,r.pending=some c→∀b,GM lo e b→CC P (X1 D) N c Q (ID a D) l b))):
  CC P X0 N (.rangeFunc g #[p] assign body) Q a l w:=
 QN i j fun s lp w1 f k o m n=>h s lp w1 w.heap.size (w.heap.size+1) f k (Nat.le_refl _) (by omega) (by omega) (by omega) (by omega) m n
end
end Go.Proofs.YtkljfdkmjdjpfaaGreat
end
section
namespace Go.Proofs.YtkljfdkmjdjpfaaGreat
open Go.RowKit Go.WideShapes
section
variable{P:Program}{w:World}
theorem IE{e:TypeId}(he:One P e)(x:List Int)(i:Nat)(hi:i<x.length):(part e (Co x).toArray i).run P w=.ok (.int .i64 (x.getD i 0)) w:=by
 have:(Co x).toArray[i]?=some (.int .i64 (x.getD i 0)):=QK x i hi;simp only[part,Sem.run_bind,Ja he,Result.andThen_ok,this];rfl
theorem K2{e:TypeId}(hu:P.underlying e=some (.int .i64))(d:Nat)(a b:Int):(Op.equalIn (d+1) e (.int .i64 a) (.int .i64 b)).run P w=.ok (a==b) w:=run_equalIn_int w d e .i64 .i64 a b hu
theorem K3{e:TypeId}(he:One P e)(hu:P.underlying e=some (.int .i64))(d:Nat)(x y:List Int):∀is:List Nat,(∀i∈is,i<x.length∧i<y.length)→
  (Op.eqItems (d+1) e 1 (Co x).toArray (Co y).toArray is).run P w=.ok (is.all fun i=>x.getD i 0==y.getD i 0) w
 |[],_=>by simp[Op.eqItems]
 |i::is,h=>by
  have ih:=K3 he hu d x y is (fun j a=>h j (List.mem_cons_of_mem _ a));obtain⟨h1,b⟩:=h i (List.mem_cons_self ..);simp only[Op.eqItems,Sem.run_bind,Nat.mul_one,IE he x i h1,IE he y i b,K2 hu,Result.andThen_ok,List.all_cons];cases c:(x.getD i 0==y.getD i 0)
  ·simp
  ·simpa using ih
theorem Ke(x y:List Int)(n:Nat)(b:x.length=n)(hy:y.length=n):((List.range n).all fun i=>x.getD i 0==y.getD i 0)=(x==y):=by
 rw[Bool.eq_iff_iff];simp only[List.all_eq_true,List.mem_range,beq_iff_eq];constructor
 ·intro h;apply List.ext_getElem (by omega);intro i h1 a;have:=h i (by omega);simpa[List.getElem?_eq_getElem h1,List.getElem?_eq_getElem a] using this
 ·rintro rfl i _;rfl
def K4 (P:Program) (K:TypeId) (n:Nat):Prop:=∀(w:World) (x y:List Int),x.length=n→y.length=n→(Op.equal K (Fh x) (Fh y)).run P w=.ok (x==y) w
def M7(P:Program)(K:TypeId)(n:Nat):Prop:=∀(w:World) (em:Bool) (x:List Int),x.length=n→(Instr.checkKey em 10000 K (Fh x)).run P w=.ok () w
def JC(P:Program)(K:TypeId):Prop:=(match P.underlying K with|some (.array _ _)|some (.struct _)=>true|_=>false)=true
theorem PK{K e n:Nat}(hK:P.underlying K=some (.array n e))(he:One P e)(hu:P.underlying e=some (.int .i64)):K4 P K n:=by
 intro w x y b hy;obtain⟨i,hi,c⟩:=Option.map_eq_some_iff.1 he.2;have h:=run_equalIn_array w 9999 (Co x).toArray (Co y).toArray hK hi;have d:P.cellsOf e=1:=by unfold Program.cellsOf;rw[hi];simpa using c
 rw[d,K3 he hu 9998 x y (List.range n) (fun i a=>by have:=List.mem_range.1 a;omega),Ke x y n b hy] at h;exact h
end
def Ms (e:TypeId):Nat→List Field→Bool
 |_,[]=>true
 |i,f::a=>f.name !="_"&&Nat.beq f.type e&&Nat.beq f.offset i&&Ms e (i+1) a
theorem M8{e i:Nat}{f:Field}{a:List Field}(h:Ms e i (f::a)=true):f.name≠"_"∧f.type=e∧f.offset=i∧Ms e (i+1) a=true:=by
 simp only[Ms,Bool.and_eq_true] at h;exact⟨by simpa using h.1.1.1,Nat.eq_of_beq_eq_true h.1.1.2,Nat.eq_of_beq_eq_true h.1.2,h.2⟩
section
variable{P:Program}{w:World}
theorem Kf{e:TypeId}(he:One P e)(hu:P.underlying e=some (.int .i64))(d:Nat)(x y:List Int):∀(a:List Field) (i:Nat),Ms e i a=true→i+a.length≤x.length→i+a.length≤y.length→
  (Op.eqFields (d+1) (Co x).toArray (Co y).toArray a).run P w=.ok ((List.range' i a.length).all fun j=>x.getD j 0==y.getD j 0) w
 |[],i,_,_,_=>by simp[Op.eqFields]
 |f::a,i,h,b,hy=>by
  obtain⟨h1,c,h3,g⟩:=M8 h;simp only[List.length_cons] at b hy;have ih:=Kf he hu d x y a (i+1) g (by omega) (by omega);simp only[Op.eqFields,h1,ne_eq,not_false_eq_true,if_true,Sem.run_bind,c,h3,IE he x i (by omega),IE he y i (by omega),K2 hu,Result.andThen_ok,List.length_cons,List.range'_succ,List.all_cons];cases k:(x.getD i 0==y.getD i 0)
  ·simp
  ·simpa using ih
theorem Pb{K e:Nat}{a:Array Field}(n:Nat)(hK:P.underlying K=some (.struct a))(c:P.stoodInHeld K=false)(d:Ms e 0 a.toList=true)(f:a.toList.length=n)(he:One P e)(hu:P.underlying e=some (.int .i64)):K4 P K n:=by
 intro w x y g hy;have b:P.fieldsOf K=a:=by simp[Program.fieldsOf,hK]
 have h:=run_equalIn_struct w 9999 K (Co x).toArray (Co y).toArray (by rw[b];exact hK) c;rw[b,Kf he hu 9998 x y a.toList 0 d (by omega) (by omega),←List.range_eq_range',f,Ke x y n g hy] at h;exact h
theorem Ob{K e:Nat}{a:Array Field}(n:Nat)(hK:P.underlying K=some (.struct a))(c:Ms e 0 a.toList=true)(k:a.toList.length=n)(he:One P e)(hu:P.underlying e=some (.int .i64)):M7 P K n:=by
 intro w em x l;have b:∀v:Int,(Instr.checkKey em 9999 e (.int .i64 v)).run P w=.ok () w:=by
  intro v;rw[show(9999:Nat)=9998+1 from rfl,Instr.checkKey];simp only[Sem.run_bind,run_underlying hu,Result.andThen_ok];rfl
 rw[show(10000:Nat)=9999+1 from rfl,Fh,Instr.checkKey];simp only[Sem.run_bind,run_underlying hK,Result.andThen_ok];rw[←Array.forIn_toList];have key:∀(L:List Field) (i:Nat),Ms e i L=true→i+L.length≤x.length→(forIn L PUnit.unit (fun f (_:PUnit)=>do
   if f.name≠"_"then
    let v←part f.type (Co x).toArray f.offset
    Instr.checkKey em 9999 f.type v
    pure PUnit.unit
    pure (ForInStep.yield PUnit.unit)
   else pure (ForInStep.yield PUnit.unit)):Sem PUnit).run P w=.ok PUnit.unit w:=by
  intro L
  induction L with
  |nil=>intro i _ _;simp
  |cons f L ih=>
   intro i h d;obtain⟨h1,g,h3,j⟩:=M8 h;simp only[List.length_cons] at d;simp only[List.forIn_cons,Sem.run_bind,h1,ne_eq,not_false_eq_true,if_true,g,h3,IE he x i (by omega),b,Result.andThen_ok,Sem.run_pure];exact ih (i+1) j (by omega)
 have:=key a.toList 0 c (by omega);simp at this;simp[this]
end
def IF (w:World) (r n:Nat) (L:List (List Int×Int)):Prop:=
 ∃es clock,w.heap[r]?=some (.map es clock)∧es.toList.map (fun e=>(e.key,e.val))=L.map (fun p=>(Fh p.1,Value.int .i64 p.2))∧∀p∈L,p.1.length=n
section
variable{w w':World}{r n b:Nat}{L:List (List Int×Int)}
theorem IF.lt(h:IF w r n L):r<w.heap.size:=by obtain⟨es,c,h,_⟩:=h;exact lt_of_block h
theorem IF.ext(h:IF w r n L)(g:Ext w w'):IF w' r n L:=by
 have a:=h.lt;obtain⟨es,c,h1,b⟩:=h;exact⟨es,c,(g.block r a (by simp)).trans h1,b⟩
theorem IF.MV(h:IF w r n L)(g:GM b w w')(a:r≠b):IF w' r n L:=by
 have d:=h.lt;obtain⟨es,c,h1,e⟩:=h;exact⟨es,c,(g.block r d (by simpa using a)).trans h1,e⟩
end
section
variable{P:Program}{a:Act}{w:World}{dst:Option Tmp}{ty:TypeId}{pos:String}{B6:Array Edge}{g:Option (Nat×Bool)}{K E T r n:Nat}{L:List (List Int×Int)}{k:List Int}
theorem Oc{kind:TypeDesc}(a:match kind with|.array _ _|.struct _=>True|_=>False)(cs:Array Value):∀(es:List MapEntry) (i:Nat),(∀e∈es,∃ds,e.key=.agg ds)→es≠[]→Instr.findNow kind (.agg cs) es i=none
 |[],_,_,h=>absurd rfl h
 |e::es,i,he,_=>by
  obtain⟨ds,b⟩:=he e (List.mem_cons_self ..);unfold Instr.findNow;rw[b];cases kind<;>simp at a<;>simp[Instr.sameNow]
theorem Ly{o:Obj}(h:w.heap[r]?=some o)(a:∀c e f,o≠.cells c e f):(getObj r).run P w=.ok o w:=by
 unfold getObj;cases o<;>first|exact absurd rfl (a _ _ _)|(simp only[Sem.run,h])
theorem M9(d:Nat)(x:List Int):Instr.sameBits (d+1) (Fh x) (Fh x)=true:=by
 unfold Fh Instr.sameBits;simp only[beq_self_eq_true,Bool.true_and,List.all_eq_true];rintro⟨u,v⟩ h;rw[List.mem_iff_getElem] at h;obtain⟨i,hi,he⟩:=h;simp only[List.getElem_zip,Prod.mk.injEq] at he;obtain⟨h1,a⟩:=he;subst h1;subst a;simp only[Co,List.getElem_map];cases d<;>simp[Instr.sameBits]
end
theorem IF.t2{w w':World}{r ph b n:Nat}{L:List (List Int×Int)}{M:World→Prop}(h:IF w b n L)(g:T2 w r M ph w')(a:b≠r):IF w' b n L:=h.MV (M6 g) a
end Go.Proofs.YtkljfdkmjdjpfaaGreat
end
section
namespace Go.Proofs.YtkljfdkmjdjpfaaGreat
open Go.RowKit
def DV (w:World) (base:Nat) (e:TypeId) (sz:Nat) (A:Option Addr) (n c:Nat) (xs:List Value):Prop:=w.ownsRow base e sz (.slice A n c) n xs
section
variable{w w':World}{base:Nat}{e:TypeId}{sz:Nat}{A:Option Addr}{n c:Nat}{xs:List Value}
theorem DV.nil(w:World)(base:Nat)(e:TypeId)(sz:Nat):DV w base e sz none 0 0 []:=World.ownsRow_nil w base e sz
theorem DV.len(h:DV w base e sz A n c xs):xs.length=n*sz:=h.1
theorem DV.rd(h:DV w base e sz A n c xs):Rd w base w.heap.size A xs:=by
 refine⟨Nat.le_refl _,?_⟩;rcases h.2 with⟨_,h0⟩|⟨g,cap,cur,a,b,d,_,_,_,_⟩
 ·exact .inl (List.eq_nil_of_length_eq_zero (by rw[h.1,h0,Nat.zero_mul]))
 ·refine .inr ⟨g,0,?_,b,lt_of_block d,fun j u hu=>?_⟩
  ·cases a;rfl
  ·have:=World.ownsRow.cells h (g:=g) (by cases a;rfl) j u hu;rw[Fq] at this;exact this
theorem DV.kept(h:DV w base e sz A n c xs){r:Option Nat}(g:w.grownBy w' r)(a:∀k,r=some k→∀o,A≠some ⟨k,o,none⟩):DV w' base e sz A n c xs:=
 World.ownsRow.kept h g (by
  rcases h.2 with⟨h0,_⟩|⟨b,cap,cur,d,_⟩
  ·exact .inl (by rw[h0];rfl)
  ·refine .inr ?_;cases d;intro he;exact a b (by simpa[Value.ownBlock] using he.symm) 0 rfl)
theorem DV.ext(h:DV w base e sz A n c xs)(g:Ext w w'):DV w' base e sz A n c xs:=h.kept g (fun _ e=>by cases e)
theorem DV.JZ (h:DV w base e sz A n c xs) {k o:Nat} (b:A=some ⟨k,o,none⟩):base≤k∧k<w.heap.size∧∃cur,w.heap[k]?=some (.cells cur e (0,0)):=by
 subst b;rcases h.2 with⟨h0,_⟩|⟨g,cap,cur,d,f,a,_⟩
 ·cases h0
 ·cases d;exact⟨f,lt_of_block a,cur,a⟩
theorem DV.MV{r:Nat}(h:DV w base e sz A n c xs)(g:GM r w w')(d:r<base):DV w' base e sz A n c xs:=h.kept g (fun k a o b=>by
 cases a;have:=(h.JZ b).1;omega)
theorem Rd.pre{α:Type}{enc:α→List Value}{lo hi:Nat}{A:Option Addr}{xs:List α}(h:Rd w lo hi A (flat enc xs))(k:Nat):Rd w lo hi A (flat enc (xs.take k)):=by
 refine⟨h.1,?_⟩;have e:flat enc xs=flat enc (xs.take k)++flat enc (xs.drop k):=by unfold flat;rw[←List.flatMap_append,List.take_append_drop]
 rcases h.2 with h0|⟨b,o,a,c,d,f⟩
 ·refine .inl ?_;rw[e] at h0;exact(List.append_eq_nil_iff.1 h0).1
 ·refine .inr ⟨b,o,a,c,d,fun j u hu=>f j u ?_⟩;rw[e,List.getElem?_append_left (List.getElem?_eq_some_iff.1 hu).1];exact hu
theorem Bk.row {b:Nat} {t:TypeId} {cs:Array Value} (h:DV w base e sz A n c xs) {w1 w2:World} (a:Bk w1 b t cs) (i:w.heap.size≤b) (g:w1.grownBy w2 (Value.ownBlock (.slice A n c))):Bk w2 b t cs:=
 (g.block b a.lt (fun e=>by
  cases A with
  |none=>cases e
  |some ad=>
   have:b=ad.block:=by simpa[Value.ownBlock] using e
   rcases h.2 with⟨h0,_⟩|⟨g,cap,cur,d,_,f,_⟩
   ·cases h0
   ·cases d;have:=lt_of_block f;simp only at*;omega)).trans a
end
section
variable{P:Program}{a:Act}{w:World}{dst:Option Tmp}{ty:TypeId}{pos:String}{B6:Array Edge}{g:Option (Nat×Bool)}
theorem R1 {t e:TypeId} {i:TypeInfo} {z:Value} {sz:Nat} (ht:P.underlying t=some (.slice e)) (hi:P.info? e=some i) (aA:i.zero=some z) (l:i.size=sz) (aI:z.cells.size=sz)
  {A s:Option Addr} {n c v base m cap:Nat} {xs news:List Value} {ad:Addr} {w':World} (d:DV w base e sz A n c xs) (p:news.length=m*sz) (a:∀j u,news[j]?=some u→w.cell? (ad.add j)=some u) (h1:∀u∈news,u.oneCell'=true)
  (aB:n+m≤maxLen) (b:(n+m)*i.bytes≤140737488355328) (h:(Builtin.append_ #[t,t] ty #[.slice A n c,.slice (some ad) m cap]).run P w=.ok (.slice s (n+m) v) w')
  (x:(Value.slice s (n+m) v=.slice none 0 0↔Value.slice A n c=.slice none 0 0∧m=0)):Ext w w'∨(s=A∧v=c):=by
 subst l;have aC:n+m≤9223372036854775807:=by simp only[maxLen] at aB;omega
 have r:∀o:Obj,Ext w (w.drew.alloc o):=fun o=>Ext.trans (Cj w) (World.grownBy_alloc _ _ _);rcases d.2 with⟨k,h0⟩|⟨q,aF,cur,k,aJ,aG,aK,aL,aD,aE⟩
 ·cases k;rcases Nat.eq_zero_or_pos m with rfl|hm
  ·have:=x.2 ⟨rfl,rfl⟩;exact .inr (by cases this;exact⟨rfl,rfl⟩)
  ·have:=run_append_nil (P:=P) w t ty e i z ht hi aA ad m cap news p a (by omega) (by omega) (by have aH:=b;simp only[Nat.zero_add] at aH;omega);rw[this] at h;injection h with _ hw
   exact .inl (hw▸r _)
 ·cases k
  by_cases f:n+m≤c
  ·have y:n*i.size+news.length≤cur.size:=by rw[p,aD,←Nat.add_mul];exact Nat.mul_le_mul_right _ f
   have:=run_append_room (P:=P) w t ty e i ht hi q n c cur aG ad m cap news p a h1 f y;rw[this] at h;injection h with k _
   exact .inr (by cases k;exact⟨rfl,rfl⟩)
  ·have holds:∀j u,xs[j]?=some u→w.cell? ((⟨q,0,none⟩:Addr).add j)=some u:=World.ownsRow.cells d (g:=q) rfl;have:=run_append_grow (P:=P) w t ty e i z ht hi aA ⟨q,0,none⟩ n c xs d.1 holds ad m cap news p a (by omega) (by omega) (growslice_fits (by omega) b);rw[this] at h;injection h with _ hw
   exact .inl (hw▸r _)
theorem PL {s x:Operand} {t e:TypeId} {z:Value} {sz bytes:Nat} (ht:P.underlying t=some (.slice e)) (hi:(P.info? e).map (fun i=>(i.zero,i.size,i.bytes))=some (some z,sz,bytes)) (y:z.cells.size=sz) (aE:0<sz)
  {A:Option Addr} {n c base:Nat} {xs news:List Value} {m cap:Nat} {ad:Addr} (aH:a.eval s=.slice A n c) (aI:a.eval x=.slice (some ad) m cap) (p:DV w base e sz A n c xs)
  (q:∀j u,news[j]?=some u→w.cell? (ad.add j)=some u)
  (aF:news.length=m*sz) (h1:∀u∈news,u.oneCell'=true) (aA:n+m≤maxLen) (f:(n+m)*bytes≤140737488355328) (r:base≤w.heap.size):
  BL P ⟨dst,.call {callee:=.builtin .append,args:= #[s,x],argTypes:= #[t,t]},ty,pos,B6,g⟩ a w (fun v w'=>∃b l,v=.slice b (n+m) l∧DV w' base e sz b (n+m) l (xs++news)∧w.grownBy w' (Value.ownBlock (.slice A n c))∧(Ext w w'∨(b=A∧l=c))∧(∀k o,b=some ⟨k,o,none⟩→(∃o',A=some ⟨k,o',none⟩)∨w.heap.size≤k)):=by
 cases d:P.info? e with
 |none=>simp[d] at hi
 |some i=>
  simp only[d,Option.map_some,Option.some.injEq,Prod.mk.injEq] at hi;obtain⟨v',w',aG,aB,h3,aJ,aK⟩:=run_append_own_at (P:=P) w base t ty e i z sz bytes ht d hi.1 hi.2.1 hi.2.2 y aE (.slice A n c) n xs p ad m cap news aF q h1 aA f r;have he:(execOp a.eval ⟨dst,.call {callee:=.builtin .append,args:= #[s,x],argTypes:= #[t,t]},ty,pos,B6,g⟩).run P w=.ok (.value v') w':=by
   unfold execOp;simp only[resolve,invoke,builtin,Sem.run_bind,Sem.run_pure,Result.andThen_ok,List.map_toArray,List.map_cons,List.map_nil,aH,aI,aG]
  have key:∃b l,v'=.slice b (n+m) l∧DV w' base e sz b (n+m) l (xs++news):=by
   rcases aB.2 with⟨rfl,h0⟩|⟨aL,aC,cur,rfl,_⟩
   ·refine⟨none,0,by rw[h0],?_⟩;have:=aB;rw[h0] at this⊢;exact this
   ·exact⟨_,_,rfl,aB⟩
  obtain⟨b,l,rfl,aM⟩:=key;unfold BL;rw[he];refine⟨b,l,rfl,aM,h3,R1 ht d hi.1 hi.2.1 y p aF q h1 aA (by rw[hi.2.2];exact f) aG aJ,?_⟩;rintro k o rfl;rcases aK with h|h
  ·left;cases A with
   |none=>simp[Value.ownBlock] at h
   |some ad=>
    have aN:k=ad.block:=by simpa[Value.ownBlock] using h
    rcases p.2 with⟨aD,_⟩|⟨aL,aC,cur,aD,_⟩
    ·cases aD
    ·cases aD;exact⟨0,by rw[aN]⟩
  ·right;have:k=w.heap.size:=by simpa[Value.ownBlock] using h
   omega
theorem DV.new{w w':World}{b base:Nat}{e:TypeId}{sz:Nat}(h:I9 w w' b e #[])(a:base≤w.heap.size):DV w' base e sz (some ⟨b,0,none⟩) 0 0 []:=
 ⟨by simp,.inr ⟨b,0, #[],rfl,by rw[h.En];exact a,h.bk,Nat.le_refl _,by simp[maxLen],by simp,by simp⟩⟩
theorem KO{x y:Operand}{t u:TypeId}{A B:Option Addr}{n c m d:Nat}{b:Bool}(e:a.eval x=.slice A n c)(hy:a.eval y=.slice B m d)(h1:(eqGuard .eql t x y (.slice A n c) (.slice B m d)).run P w=.ok () w)(f:(Op.equal t (.slice A n c) (.slice B m d)).run P w=.ok b w):BL P ⟨dst,.binOp .eql t x y u,ty,pos,B6,g⟩ a w (fun v w'=>v=.bool b∧w'=w):=
 Cv (by simp[execOp,e,hy,binOp,h1,f])
end
end Go.Proofs.YtkljfdkmjdjpfaaGreat
end
section
namespace Go.Proofs.YtkljfdkmjdjpfaaGreat
open Go.RowKit
structure Mv (w:World) (Z:Nat→Prop) (w':World) (Z':Nat→Prop):Prop where
 size:w.heap.size≤w'.heap.size
 stay:∀b,Z b→b<w.heap.size→Z' b∧w'.heap[b]?=w.heap[b]?
theorem Mv.refl(w:World)(Z:Nat→Prop):Mv w Z w Z:=⟨Nat.le_refl _,fun _ h _=>⟨h,rfl⟩⟩
theorem Mv.trans{w1 w2 a:World}{c d e:Nat→Prop}(h:Mv w1 c w2 d)(k:Mv w2 d a e):Mv w1 c a e:=
 ⟨Nat.le_trans h.size k.size,fun b g f=>by
  obtain⟨h1,i⟩:=h.stay b g f;obtain⟨h3,j⟩:=k.stay b h1 (Nat.lt_of_lt_of_le f h.size);exact⟨h3,j.trans i⟩⟩
theorem Ah{w w':World}{Z:Nat→Prop}(h:Ext w w'):Mv w Z w' Z:=⟨h.size,fun b a c=>⟨a,h.block b c (by simp)⟩⟩
theorem G5{w:World}{Z Z':Nat→Prop}(h:∀b,Z b→b<w.heap.size→Z' b):Mv w Z w Z':=⟨Nat.le_refl _,fun b a c=>⟨h b a c,rfl⟩⟩
def ZA:Nat→Prop:=fun _=>True
theorem Kg{w:World}{Z:Nat→Prop}:Mv w Z w ZA:=G5 fun _ _ _=>trivial
def Rz (w:World) (Z:Nat→Prop) (A:Option Addr) (cs:List Value):Prop:=
 cs=[]∨∃b o,A=some ⟨b,o,none⟩∧Z b∧b<w.heap.size∧∀j u,cs[j]?=some u→w.cell? ⟨b,o+j,none⟩=some u
theorem Rz.mv{w w':World}{Z Z':Nat→Prop}{A:Option Addr}{cs:List Value}(h:Rz w Z A cs)(g:Mv w Z w' Z'):Rz w' Z' A cs:=
 h.imp id fun⟨b,o,e,d,c,f⟩=>⟨b,o,e,(g.stay b d c).1,Nat.lt_of_lt_of_le c g.size,fun j u hu=>
  (World.cell?_of_block (a:=⟨b,o+j,none⟩) (g.stay b d c).2).trans (f j u hu)⟩
theorem Rz.cells{w:World}{Z:Nat→Prop}{b o:Nat}{cs:List Value}(h:Rz w Z (some ⟨b,o,none⟩) cs):∀j u,cs[j]?=some u→w.cell? ⟨b,o+j,none⟩=some u:=by
 rcases h with rfl|⟨b',o',a,_,_,c⟩
 ·simp
 ·cases a;exact c
theorem Rz.rd{w:World}{Z:Nat→Prop}{A:Option Addr}{cs:List Value}(h:Rz w Z A cs):Rd w 0 w.heap.size A cs:=
 ⟨Nat.le_refl _,h.imp id fun⟨b,o,a,_,c,d⟩=>⟨b,o,a,Nat.zero_le _,c,d⟩⟩
theorem Na{w:World}{lo hi:Nat}{A:Option Addr}{cs:List Value}{Z:Nat→Prop}(h:Rd w lo hi A cs)(c:∀b,lo≤b→b<hi→Z b):Rz w Z A cs:=
 h.2.imp id fun⟨b,o,d,h1,a,e⟩=>⟨b,o,d,c b h1 a,Nat.lt_of_lt_of_le a h.1,e⟩
structure D5 (α:Type) where
 sz:Nat
 R:World→(Nat→Prop)→List Value→α→Prop
 len:∀{w Z cs x},R w Z cs x→cs.length=sz
 one:∀{w Z cs x},R w Z cs x→∀u∈cs,u.oneCell'=true
 mv:∀{w Z w' Z' cs x},R w Z cs x→Mv w Z w' Z'→R w' Z' cs x
def R2{α:Type}(e:D5 α)(w:World)(Z:Nat→Prop):List (List Value)→List α→Prop
 |[],[]=>True
 |c::cs,x::xs=>e.R w Z c x∧R2 e w Z cs xs
 |_,_=>False
section
variable{α:Type}{e:D5 α}{w w':World}{Z Z':Nat→Prop}
theorem R2.len:∀{Bh:List (List Value)} {xs:List α},R2 e w Z Bh xs→Bh.length=xs.length
 |[],[],_=>rfl
 |_::_,_::_,h=>by simp[R2.len h.2]
 |[],_::_,h=>h.elim
 |_::_,[],h=>h.elim
theorem R2.mv(g:Mv w Z w' Z'):∀{Bh:List (List Value)} {xs:List α},R2 e w Z Bh xs→R2 e w' Z' Bh xs
 |[],[],_=>trivial
 |_::_,_::_,h=>⟨e.mv h.1 g,R2.mv g h.2⟩
 |[],_::_,h=>h.elim
 |_::_,[],h=>h.elim
theorem R2.one:∀{Bh:List (List Value)} {xs:List α},R2 e w Z Bh xs→∀u∈Bh.flatten,u.oneCell'=true
 |[],[],_=>by simp
 |c::cs,_::_,h=>by
  intro u hu;rw[List.flatten_cons,List.mem_append] at hu;exact hu.elim (e.one h.1 u) (R2.one h.2 u)
 |[],_::_,h=>h.elim
 |_::_,[],h=>h.elim
theorem R2.IG:∀{Bh:List (List Value)} {xs:List α},R2 e w Z Bh xs→Bh.flatten.length=xs.length*e.sz
 |[],[],_=>by simp
 |c::cs,_::xs,h=>by
  rw[List.flatten_cons,List.length_append,e.len h.1,R2.IG h.2,List.length_cons,Nat.add_mul,Nat.one_mul,Nat.add_comm]
 |[],_::_,h=>h.elim
 |_::_,[],h=>h.elim
theorem R2.get:∀{Bh:List (List Value)} {xs:List α},R2 e w Z Bh xs→∀{k:Nat} {x:α},xs[k]?=some x→∃c,Bh[k]?=some c∧e.R w Z c x∧(Bh.flatten.drop (k*e.sz)).take e.sz=c
 |[],[],_,k,x,a=>by simp at a
 |c::cs,y::xs,h,0,x,a=>by
  obtain rfl:y=x:=by simpa using a
  refine⟨c,rfl,h.1,?_⟩;have b:=e.len h.1;rw[Nat.zero_mul,List.drop_zero,List.flatten_cons,List.take_append_of_le_length (by rw[b];exact Nat.le_refl _),List.take_of_length_le (by rw[b];exact Nat.le_refl _)]
 |c::cs,y::xs,h,k+1,x,a=>by
  obtain⟨d,h1,f,h3⟩:=R2.get h.2 (k:=k) (x:=x) (by simpa using a);refine⟨d,by simpa using h1,f,?_⟩;rw[←h3,List.flatten_cons,List.drop_append,e.len h.1,List.drop_of_length_le (by rw[e.len h.1,Nat.add_mul];omega),List.nil_append]
  congr 2
  rw[Nat.add_mul];omega
 |[],_::_,h,_,_,_=>h.elim
 |_::_,[],h,_,_,_=>h.elim
theorem R2.append:∀{Bh a:List (List Value)} {xs ys:List α},R2 e w Z Bh xs→R2 e w Z a ys→R2 e w Z (Bh++a) (xs++ys)
 |[],_,[],_,_,h=>h
 |_::_,_,_::_,_,h,k=>⟨h.1,R2.append h.2 k⟩
 |[],_,_::_,_,h,_=>h.elim
 |_::_,_,[],_,h,_=>h.elim
theorem R2.drop:∀(k:Nat) {Bh:List (List Value)} {xs:List α},R2 e w Z Bh xs→R2 e w Z (Bh.drop k) (xs.drop k)
 |0,_,_,h=>h
 |k+1,[],[],_=>trivial
 |k+1,_::cs,_::xs,h=>by simpa using R2.drop k h.2
 |_+1,[],_::_,h=>h.elim
 |_+1,_::_,[],h=>h.elim
theorem R2.take:∀(k:Nat) {Bh:List (List Value)} {xs:List α},R2 e w Z Bh xs→R2 e w Z (Bh.take k) (xs.take k)
 |0,_,_,_=>trivial
 |k+1,[],[],_=>trivial
 |k+1,_::cs,_::xs,h=>⟨h.1,R2.take k h.2⟩
 |_+1,[],_::_,h=>h.elim
 |_+1,_::_,[],h=>h.elim
theorem R2.set{x:α}{c:List Value}(a:e.R w Z c x):∀(k:Nat) {Bh:List (List Value)} {xs:List α},R2 e w Z Bh xs→R2 e w Z (Bh.set k c) (xs.set k x)
 |_,[],[],_=>trivial
 |0,_::_,_::_,h=>⟨a,h.2⟩
 |k+1,_::cs,_::xs,h=>⟨h.1,R2.set a k h.2⟩
 |_,[],_::_,h=>h.elim
 |_,_::_,[],h=>h.elim
theorem R2.RF(h0:0<e.sz):∀(k:Nat) {Bh:List (List Value)} {xs:List α},R2 e w Z Bh xs→Bh.flatten.drop (k*e.sz)=(Bh.drop k).flatten
 |0,_,_,_=>by simp
 |k+1,[],[],_=>by simp
 |k+1,c::cs,_::xs,h=>by
  rw[List.drop_succ_cons,←R2.RF h0 k h.2,List.flatten_cons,List.drop_append,e.len h.1,List.drop_of_length_le (by rw[e.len h.1,Nat.add_mul];omega),List.nil_append]
  congr 1
  rw[Nat.add_mul];omega
 |_+1,[],_::_,h=>h.elim
 |_+1,_::_,[],h=>h.elim
end
def Sl {α:Type} (e:D5 α) (w:World) (Z:Nat→Prop) (A:Option Addr) (c:Nat) (xs:List α):Prop:=
 xs.length≤c∧(A=none→c=0)∧∃Bh,R2 e w Z Bh xs∧Rz w Z A Bh.flatten
section
variable{α:Type}{e:D5 α}{w w':World}{Z Z':Nat→Prop}{A:Option Addr}{c:Nat}{xs:List α}
theorem Sl.mv(h:Sl e w Z A c xs)(g:Mv w Z w' Z'):Sl e w' Z' A c xs:=⟨h.1,h.2.1,h.2.2.imp fun _ ⟨h1,a⟩=>⟨h1.mv g,a.mv g⟩⟩
theorem Sl.all(h:Sl e w Z A c xs):Sl e w ZA A c xs:=h.mv Kg
theorem Sl.nil(e:D5 α)(w:World)(Z:Nat→Prop):Sl e w Z none 0 []:=⟨Nat.le_refl _,fun _=>rfl,[],trivial,.inl rfl⟩
theorem Sl.elem (h:Sl e w Z A c xs) (h0:0<e.sz) {k:Nat} {x:α} (g:xs[k]?=some x):∃b o cs,A=some ⟨b,o,none⟩∧e.R w Z cs x∧Rz w Z (some ⟨b,o+k*e.sz,none⟩) cs:=by
 obtain⟨-,-,Bh,i,h3⟩:=h;obtain⟨cs,l,d,ht⟩:=i.get g;have m:=e.len d;have q:k<Bh.length:=(List.getElem?_eq_some_iff.1 l).1;rcases h3 with h3|⟨b,o,n,p,f,a⟩
 ·rw[h3] at ht;simp at ht;subst ht;simp at m;omega
 ·refine⟨b,o,cs,n,d,.inr ⟨b,_,rfl,p,f,fun j u hu=>?_⟩⟩;rw[Nat.add_assoc];refine a _ _ ?_;subst ht;rw[List.getElem?_take] at hu;split at hu
  ·simpa using hu
  ·cases hu
theorem Sl.Ed(h:Sl e w Z A c xs)(h1:e.sz=1){k:Nat}{x:α}(d:xs[k]?=some x):∃b o cs,A=some ⟨b,o,none⟩∧e.R w Z cs x∧Rz w Z (some ⟨b,o+k,none⟩) cs:=by
 obtain⟨b,o,cs,f,h3,a⟩:=h.elem (by omega) d;rw[h1,Nat.mul_one] at a;exact⟨b,o,cs,f,h3,a⟩
end
def Az(k:IntKind):D5 Int:=⟨1,fun _ _ cs x=>cs=[.int k x],fun h=>by rw[h];rfl,fun h=>by rw[h];simp[Value.oneCell'],fun h _=>h⟩
def Bo:D5 Bool:=⟨1,fun _ _ cs x=>cs=[.bool x],fun h=>by rw[h];rfl,fun h=>by rw[h];simp[Value.oneCell'],fun h _=>h⟩
def BA{α:Type}(e:D5 α):D5 (List α):=
 ⟨1,fun w Z cs xs=>∃A c,cs=[.slice A xs.length c]∧Sl e w Z A c xs,fun⟨_,_,h,_⟩=>by rw[h];rfl,fun⟨_,_,h,_⟩=>by rw[h];simp[Value.oneCell'],
  fun⟨A,c,h1,a⟩ g=>⟨A,c,h1,a.mv g⟩⟩
structure VE (α:Type) where
 R:World→(Nat→Prop)→Value→α→Prop
 mv:∀{w Z w' Z' v x},R w Z v x→Mv w Z w' Z'→R w' Z' v x
def Ft(k:IntKind):VE Int:=⟨fun _ _ v x=>v=.int k x,fun h _=>h⟩
def BY:VE Bool:=⟨fun _ _ v x=>v=.bool x,fun h _=>h⟩
def E1{α:Type}(e:D5 α):VE (List α):=⟨fun w Z v xs=>∃A c,v=.slice A xs.length c∧Sl e w Z A c xs,fun⟨A,c,h1,a⟩ g=>⟨A,c,h1,a.mv g⟩⟩
def Df{α:Type}(e:D5 α):VE α:=⟨fun w Z v x=>∃cs,v=.agg cs.toArray∧e.R w Z cs x,fun h g=>h.imp fun _ h=>⟨h.1,e.mv h.2 g⟩⟩
def Mt{α β:Type}(a:VE α)(b:VE β):VE (α×β):=⟨fun w Z v x=>∃u t,v=.tuple #[u,t]∧a.R w Z u x.1∧b.R w Z t x.2,fun⟨u,t,h,h1,c⟩ g=>⟨u,t,h,a.mv h1 g,b.mv c g⟩⟩
def Tm{α β e:Type}(a:VE α)(b:VE β)(c:VE e):VE (α×β×e):=
 ⟨fun w Z v x=>∃u t s,v=.tuple #[u,t,s]∧a.R w Z u x.1∧b.R w Z t x.2.1∧c.R w Z s x.2.2,fun⟨u,t,s,h,h1,d,h3⟩ g=>⟨u,t,s,h,a.mv h1 g,b.mv d g,c.mv h3 g⟩⟩
def Kv{α:Type}(v:VE α)(Z:Nat→Prop)(x:α):JY Ext:=⟨fun u w=>v.R w Z u x,fun _ _ _ h g=>v.mv h (Ah g)⟩
def ob:Option Addr→Option Nat:=Option.map (·.block)
theorem Tn(A:Option Addr)(n c:Nat):Value.ownBlock (.slice A n c)=ob A:=by cases A<;>rfl
def FN:Nat→Prop:=fun _=>False
def FU (F:Nat→Prop) (M:List (Option Nat)):Nat→Prop:=fun k=>F k∨some k∈M
structure Bm (D:Nat→Prop) (w w':World):Prop where
 os:w'.os=w.os
 tape:w'.tape=w.tape
 output:w'.output=w.output
 size:w.heap.size≤w'.heap.size
 block:∀k,k<w.heap.size→¬D k→w'.heap[k]?=w.heap[k]?
section
variable{D D' F F':Nat→Prop}{M M':List (Option Nat)}{w w' Bj:World}
theorem Bm.refl(D:Nat→Prop)(w:World):Bm D w w:=⟨rfl,rfl,rfl,Nat.le_refl _,fun _ _ _=>rfl⟩
theorem Bm.trans(h:Bm D w w')(k:Bm D w' Bj):Bm D w Bj:=
 ⟨k.os.trans h.os,k.tape.trans h.tape,k.output.trans h.output,Nat.le_trans h.size k.size,fun b a c=>(k.block b (Nat.lt_of_lt_of_le a h.size) c).trans (h.block b a c)⟩
theorem Bm.mono(h:Bm D w w')(a:∀k,D k→D' k):Bm D' w w':=⟨h.os,h.tape,h.output,h.size,fun b c d=>h.block b c fun e=>d (a b e)⟩
theorem IH{r:Option Nat}(g:w.grownBy w' r)(a:∀k,r=some k→D k):Bm D w w':=⟨g.os,g.tape,g.output,g.size,fun b c d=>g.block b c fun e=>d (a b e.symm)⟩
theorem Gf(g:Ext w w'):Bm D w w':=IH g fun _ e=>by cases e
theorem Bm.gr{r:Option Nat}(g:Bm (fun k=>some k=r) w w'):w.grownBy w' r:=⟨g.os,g.tape,g.output,g.size,fun b a c=>g.block b a c⟩
theorem Bm.ext(g:Bm (FU FN []) w w'):Ext w w':=⟨g.os,g.tape,g.output,g.size,fun b a _=>g.block b a (by rintro(h|h);exact h;cases h)⟩
theorem Bm.fl{M2:List (Option Nat)}(g:Bm (FU (FU F M) M2) w w'):Bm (FU F (M++M2)) w w':=g.mono fun k h=>by
 rcases h with(h|h)|h
 ·exact .inl h
 ·exact .inr (List.mem_append_left _ h)
 ·exact .inr (List.mem_append_right _ h)
theorem Bk.BE{b:Nat}{t:TypeId}{cs:Array Value}(h:Bk w b t cs)(g:Bm D w w')(a:¬D b):Bk w' b t cs:=(g.block b h.lt a).trans h
theorem Bk.gr{b:Nat}{t:TypeId}{cs:Array Value}{r:Option Nat}(h:Bk w b t cs)(g:w.grownBy w' r)(a:some b≠r):Bk w' b t cs:=(g.block b h.lt a).trans h
end
def ZZ (F:Nat→Prop) (B:List (Option Nat)) (Z:Nat→Prop) (n0:Nat) (L:List (Option Nat)):Nat→Prop:=fun b=>(b<n0∧Z b∧¬F b∧some b∉B)∨(n0≤b∧some b∉L)
def ZC (F:Nat→Prop) (M:List (Option Nat)):Nat→Prop:=fun b=>¬F b∧some b∉M
theorem Ik{F:Nat→Prop}{M:List (Option Nat)}:∀b,ZC F M b→¬F b∧some b∉M:=fun _ h=>h
def Gt (L:List (Option Nat)):List Nat→List (Option Nat)→Prop
 |[],[]=>True
 |j::a,m::M=>L[j]?=some m∧Gt L a M
 |_,_=>False
theorem Gt.mem{L:List (Option Nat)}:∀{b:List Nat} {M:List (Option Nat)},Gt L b M→∀x∈M,∃j∈b,L[j]?=some x
 |[],[],_,x,a=>by cases a
 |j::b,m::M,h,x,a=>by
  rcases List.mem_cons.1 a with rfl|a
  ·exact⟨j,List.mem_cons_self ..,h.1⟩
  ·obtain⟨i,hi,he⟩:=Gt.mem h.2 x a;exact⟨i,List.mem_cons_of_mem _ hi,he⟩
 |[],_::_,h,_,_=>h.elim
 |_::_,[],h,_,_=>h.elim
theorem Gt.get{L:List (Option Nat)}:∀{b:List Nat} {M:List (Option Nat)},Gt L b M→∀(i:Nat) x,M[i]?=some x→∃j,b[i]?=some j∧L[j]?=some x
 |[],[],_,i,x,a=>by simp at a
 |j::b,m::M,h,0,x,a=>by
  obtain rfl:m=x:=by simpa using a
  exact⟨j,rfl,h.1⟩
 |j::b,m::M,h,i+1,x,a=>by
  obtain⟨k,c,he⟩:=Gt.get h.2 i x (by simpa using a);exact⟨k,by simpa using c,he⟩
 |[],_::_,h,_,_,_=>h.elim
 |_::_,[],h,_,_,_=>h.elim
theorem Gt.sub{L:List (Option Nat)}{a:List Nat}{M:List (Option Nat)}(h:Gt L a M):∀x∈M,x∈L:=fun x b=>by
 obtain⟨j,_,he⟩:=h.mem x b;exact List.mem_of_getElem? he
def Jl:List Nat→Bool
 |[]=>true
 |x::l=>l.all (fun y=> !Nat.beq x y)&&Jl l
theorem JD:∀{l:List Nat},Jl l=true→∀(i j k:Nat),l[i]?=some k→l[j]?=some k→i=j
 |[],_,i,j,k,hi,_=>by simp at hi
 |x::l,h,i,j,k,hi,a=>by
  simp only[Jl,Bool.and_eq_true,List.all_eq_true] at h;have key:∀(m:Nat),l[m]?=some x→False:=fun m hm=>by
   have:=h.1 x (List.mem_of_getElem? hm);rw[Nat.beq_refl] at this;cases this
  cases i with
  |zero=>
   obtain rfl:x=k:=by simpa using hi
   cases j with
   |zero=>rfl
   |succ j=>exact(key j (by simpa using a)).elim
  |succ i=>
   cases j with
   |zero=>
    obtain rfl:x=k:=by simpa using a
    exact(key i (by simpa using hi)).elim
   |succ j=>rw[JD h.2 i j k (by simpa using hi) (by simpa using a)]
structure BQ (F:Nat→Prop) (B:List (Option Nat)) (w:World):Prop where
 lt:∀k,some k∈B→k<w.heap.size∧¬F k
 ap:∀(i j:Nat) (x:Nat),i≠j→B[i]?=some (some x)→B[j]?≠some (some x)
 ff:∀k,F k→k<w.heap.size
theorem BQ.none(w:World):BQ FN [] w:=⟨fun _ h=>(by cases h),fun _ _ _ _ h=>by simp at h,fun _ h=>h.elim⟩
theorem BQ.grow{F:Nat→Prop}{B:List (Option Nat)}{w w':World}(h:BQ F B w)(b:w.heap.size≤w'.heap.size):BQ F B w':=
 ⟨fun k a=>⟨Nat.lt_of_lt_of_le (h.lt k a).1 b,(h.lt k a).2⟩,h.ap,fun k a=>Nat.lt_of_lt_of_le (h.ff k a) b⟩
structure Hp (F:Nat→Prop) (B:List (Option Nat)) (w0:World) (L:List (Option Nat)) (w:World):Prop where
 ch:Bm (FU F B) w0 w
 lo:∀k,some k∈L→k<w.heap.size∧¬F k∧(k<w0.heap.size→some k∈B)
 ap:∀(i j:Nat) (x:Nat),i≠j→L[i]?=some (some x)→L[j]?≠some (some x)
 ff:∀k,F k→k<w0.heap.size
theorem Hp.start{F:Nat→Prop}{B:List (Option Nat)}{w:World}(h:BQ F B w):Hp F B w B w:=⟨Bm.refl _ _,fun k a=>⟨(h.lt k a).1,(h.lt k a).2,fun _=>a⟩,h.ap,h.ff⟩
section
variable{F F':Nat→Prop}{B:List (Option Nat)}{w0 w w':World}{Z Z':Nat→Prop}{L L' M:List (Option Nat)}
theorem Hp.sz(h:Hp F B w0 L w):w0.heap.size≤w.heap.size:=h.ch.size
theorem Hp.BE(h:Hp F B w0 L w){D:Nat→Prop}(g:Bm D w w')(c:∀k,D k→F k∨some k∈L):Hp F B w0 L w':=by
 refine⟨⟨g.os.trans h.ch.os,g.tape.trans h.ch.tape,g.output.trans h.ch.output,Nat.le_trans h.sz g.size,fun k a b=>?_⟩,fun k a=>⟨Nat.lt_of_lt_of_le (h.lo k a).1 g.size,(h.lo k a).2⟩,h.ap,h.ff⟩;refine(g.block k (Nat.lt_of_lt_of_le a h.sz) fun d=>?_).trans (h.ch.block k a b);rcases c k d with h1|h1
 ·exact b (.inl h1)
 ·exact b (.inr ((h.lo k h1).2.2 a))
theorem Hp.ext(h:Hp F B w0 L w)(g:Ext w w'):Hp F B w0 L w':=h.BE (D:=FN) (Gf g) fun _ h=>h.elim
theorem Hp.gr(h:Hp F B w0 L w){r:Option Nat}(g:w.grownBy w' r)(i:Nat)(hi:L[i]?=some r):Hp F B w0 L w':=
 h.BE (D:=fun k=>some k=r) (IH g fun _ e=>e.symm) fun k e=>.inr (by rw[e];exact List.mem_of_getElem? hi)
theorem Hp.new(h:Hp F B w0 L w)(g:Ext w w'){b:Nat}(q:w.heap.size≤b)(m:b<w'.heap.size):Hp F B w0 (some b::L) w':=by
 have f:=h.ext g;refine⟨f.ch,fun k a=>?_,?_,h.ff⟩
 ·rcases List.mem_cons.1 a with e|a
  ·cases e;exact⟨m,fun n=>absurd (h.ff _ n) (by have:=h.sz;omega),fun o=>absurd o (by have:=h.sz;omega)⟩
  ·exact f.lo k a
 ·have key:∀(j:Nat) (x:Nat),L[j]?=some (some x)→x≠b:=fun j x p e=>by
   have:=(h.lo x (List.mem_of_getElem? p)).1;omega
  intro i j x l hi c;cases i with
  |zero=>
   cases j with
   |zero=>exact l rfl
   |succ j=>
    have d:b=x:=by simpa using hi
    exact key j x (by simpa using c) d.symm
  |succ i=>
   cases j with
   |zero=>
    have d:b=x:=by simpa using c
    exact key i x (by simpa using hi) d.symm
   |succ j=>exact h.ap i j x (by omega) (by simpa using hi) (by simpa using c)
theorem Hp.nil(h:Hp F B w0 L w):Hp F B w0 (none::L) w:=by
 refine⟨h.ch,fun k b=>h.lo k (by simpa using b),?_,h.ff⟩;intro i j x c hi a;cases i with
 |zero=>simp at hi
 |succ i=>
  cases j with
  |zero=>simp at a
  |succ j=>exact h.ap i j x (by omega) (by simpa using hi) (by simpa using a)
theorem Hp.F3 (h:Hp F B w0 L w) {D:Nat→Prop} (g:Bm D w w') (s:∀k,D k→F k∨some k∈L) (i:Nat) {x y:Option Nat} (hi:L[i]?=some x) (hy:∀k,y=some k→(x=some k∨w.heap.size≤k)∧k<w'.heap.size):Hp F B w0 (L.set i y) w':=by
 have m:=h.BE g s;refine⟨m.ch,fun k n=>?_,?_,h.ff⟩
 ·rcases List.mem_or_eq_of_mem_set n with n|e
  ·exact m.lo k n
  ·obtain⟨h1,t⟩:=hy k e.symm;rcases h1 with h1|h1
   ·exact m.lo k (by rw[←h1];exact List.mem_of_getElem? hi)
   ·exact⟨t,fun u=>absurd (h.ff _ u) (by have:=h.sz;omega),fun v=>absurd v (by have:=h.sz;omega)⟩
 ·have f:i<L.length:=(List.getElem?_eq_some_iff.1 hi).1;have key:∀(j z:Nat),j≠i→L[j]?=some (some z)→y≠some z:=fun j z aA p e=>by
   rcases(hy z e).1 with h1|h1
   ·exact h.ap j i z aA p (by rw[hi,h1])
   ·have:=(h.lo z (List.mem_of_getElem? p)).1;omega
  intro a b z q d c
  by_cases l:a=i
  ·subst l;have o:y=some z:=by simpa[List.getElem?_set,f] using d
   rw[List.getElem?_set_ne (by omega)] at c;exact key b z (by omega) c o
  ·rw[List.getElem?_set_ne (by omega)] at d
   by_cases r:b=i
   ·subst r;have o:y=some z:=by simpa[List.getElem?_set,f] using c
    exact key a z l d o
   ·rw[List.getElem?_set_ne (by omega)] at c;exact h.ap a b z q d c
theorem Hp.row(h:Hp F B w0 L w){x:Option Nat}(g:w.grownBy w' x)(i:Nat){y:Option Nat}(hi:L[i]?=some x)(hy:∀k,y=some k→(x=some k∨w.heap.size≤k)∧k<w'.heap.size):Hp F B w0 (L.set i y) w':=
 h.F3 (D:=fun k=>some k=x) (IH g fun _ e=>e.symm) (fun k e=>.inr (by rw[e];exact List.mem_of_getElem? hi)) i hi hy
theorem Hp.erase(h:Hp F B w0 L w)(i:Nat):Hp F B w0 (L.eraseIdx i) w:=by
 refine⟨h.ch,fun k f=>h.lo k (List.mem_of_mem_eraseIdx f),fun a b x e c d=>?_,h.ff⟩;rw[List.getElem?_eraseIdx] at c d;split at c<;>split at d
 ·exact h.ap a b x e c d
 ·exact h.ap a (b+1) x (by omega) c d
 ·exact h.ap (a+1) b x (by omega) c d
 ·exact h.ap (a+1) (b+1) x (by omega) c d
theorem Hp.ne(h:Hp F B w0 L w)(i j:Nat){x:Option Nat}{b:Nat}(a:(i==j)=false)(hi:L[i]?=some (some b))(c:L[j]?=some x):some b≠x:=fun e=>h.ap i j b (by simpa using a) hi (by rw[c,e])
theorem Hp.BB (h:Hp F B w0 L w) (i:Nat) {b:Nat} (hi:L[i]?=some (some b)) (a:List Nat) (d:(a.all fun j=> !Nat.beq i j)=true) (f:Gt L a M) (g:∀k,F' k→F k):¬FU F' M b:=by
 rintro(h1|h1)
 ·exact(h.lo b (List.mem_of_getElem? hi)).2.1 (g b h1)
 ·obtain⟨j,c,he⟩:=f.mem _ h1;have:=List.all_eq_true.1 d j c;refine h.ap i j b (fun e=>?_) hi he;rw[e,Nat.beq_refl] at this;cases this
theorem To(a:∀x∈M,x∈L)(b:∀k,F' k→F k):∀k,FU F' M k→F k∨some k∈L:=fun k h=>h.imp (b k) (a _)
theorem Hp.DR (h:Hp F B w0 L w) (c m:List Nat) {C:List (Option Nat)} (n:Jl (c++m)=true) (d:Gt L c M) (o:Gt L m C) (p:∀k,F' k→F k∨some k∈C):BQ F' M w:=by
 refine⟨fun k f=>⟨(h.lo k (d.sub _ f)).1,fun aD=>?_⟩,fun i j x q hi l=>?_,fun k f=>?_⟩
 ·rcases p k aD with h1|h1
  ·exact(h.lo k (d.sub _ f)).2.1 h1
  ·obtain⟨i,hi⟩:=List.mem_iff_getElem?.1 f;obtain⟨r,s⟩:=List.mem_iff_getElem?.1 h1;obtain⟨j,l,he⟩:=d.get i _ hi;obtain⟨t,u,v⟩:=o.get r _ s;have e:j=t:=by
    refine Decidable.byContradiction fun g=>h.ap j t k g he v
   subst e;have y:i<c.length:=(List.getElem?_eq_some_iff.1 l).1;have aG:=JD n i (c.length+r) j (by rw[List.getElem?_append_left y];exact l) (by rw[List.getElem?_append_right (by omega)];simpa using u);omega
 ·obtain⟨a,z,aA⟩:=d.get i _ hi;obtain⟨b,aB,aC⟩:=d.get j _ l;have e:a=b:=Decidable.byContradiction fun g=>h.ap a b x g aA aC;subst e;have aE:i<c.length:=(List.getElem?_eq_some_iff.1 z).1;have aF:j<c.length:=(List.getElem?_eq_some_iff.1 aB).1;exact q (JD n i j a (by rw[List.getElem?_append_left aE];exact z) (by rw[List.getElem?_append_left aF];exact aB))
 ·rcases p k f with h1|h1
  ·exact Nat.lt_of_lt_of_le (h.ff k h1) h.sz
  ·exact(h.lo k (o.sub _ h1)).1
theorem Hp.PN (h:Hp F B w0 L w) {D:Nat→Prop} (c:∀k,D k→F k∨some k∈L):∀b,ZZ F B Z w0.heap.size L b→¬D b:=fun b f d=>by
 rcases f with⟨h1,e,h3,g⟩|⟨h1,e⟩
 ·rcases c b d with a|a
  ·exact h3 a
  ·exact g ((h.lo b a).2.2 h1)
 ·rcases c b d with a|a
  ·have:=h.ff b a;omega
  ·exact e a
theorem Hp.zc(h:Hp F B w0 L w)(c:∀x∈M,x∈L)(d:∀k,F' k→F k∨some k∈L):∀b,ZZ F B Z w0.heap.size L b→¬F' b∧some b∉M:=fun b a=>
 ⟨h.PN (D:=F') d b a,fun hm=>h.PN (D:=fun k=>some k∈M) (fun k e=>.inr (c _ e)) b a hm⟩
theorem RG(h:∀b,Z b→Z' b):Mv w Z w Z':=G5 fun b a _=>h b a
theorem Hp.CZ (h:Hp F B w0 L w) {D:Nat→Prop} (g:Bm D w w') (c:∀k,D k→F k∨some k∈L):Mv w (ZZ F B Z w0.heap.size L) w' (ZZ F B Z w0.heap.size L):=
 ⟨g.size,fun b a d=>⟨a,g.block b d (h.PN c b a)⟩⟩
theorem Hp.AS(h:Hp F B w0 L w){r:Option Nat}(g:w.grownBy w' r)(i:Nat)(hi:L[i]?=some r):Mv w (ZZ F B Z w0.heap.size L) w' (ZZ F B Z w0.heap.size L):=
 h.CZ (D:=fun k=>some k=r) (IH g fun _ e=>e.symm) fun k e=>.inr (by rw[e];exact List.mem_of_getElem? hi)
theorem Hp.Db(h:Hp F B w0 L w){D:Nat→Prop}(g:Bm D w w')(d:∀k,D k→F k∨some k∈L)(i:Nat){x:Option Nat}(hi:L[i]?=some x){y:Option Nat}(hy:∀k,y=some k→(x=some k∨w.heap.size≤k)):Mv w (ZZ F B Z w0.heap.size L) w' (ZZ F B Z w0.heap.size (L.set i y)):=
 ⟨g.size,fun b a f=>⟨a.imp id fun⟨h1,c⟩=>⟨h1,fun hm=>by
  rcases List.mem_or_eq_of_mem_set hm with hm|e
  ·exact c hm
  ·rcases hy b e.symm with h3|h3
   ·exact c (by rw[←h3];exact List.mem_of_getElem? hi)
   ·omega⟩,g.block b f (h.PN d b a)⟩⟩
theorem Hp.CD(h:Hp F B w0 L w){r:Option Nat}(g:w.grownBy w' r)(i:Nat)(hi:L[i]?=some r){y:Option Nat}(hy:∀k,y=some k→(r=some k∨w.heap.size≤k)):Mv w (ZZ F B Z w0.heap.size L) w' (ZZ F B Z w0.heap.size (L.set i y)):=
 h.Db (D:=fun k=>some k=r) (IH g fun _ e=>e.symm) (fun k e=>.inr (by rw[e];exact List.mem_of_getElem? hi)) i hi hy
theorem Eh{n0:Nat}(g:Ext w w'){b:Nat}(f:w.heap.size≤b):Mv w (ZZ F B Z n0 L) w' (ZZ F B Z n0 (some b::L)):=
 ⟨g.size,fun k a c=>⟨a.imp id fun⟨h1,d⟩=>⟨h1,fun hm=>by
  rcases List.mem_cons.1 hm with e|hm
  ·cases e;omega
  ·exact d hm⟩,g.block k c (by simp)⟩⟩
theorem BT{n0:Nat}:Mv w (ZZ F B Z n0 L) w (ZZ F B Z n0 (none::L)):=G5 fun b a _=>a.imp id fun⟨h1,c⟩=>⟨h1,by simpa using c⟩
theorem Tp{n0:Nat}(h:∀x∈L',x∈L):Mv w (ZZ F B Z n0 L) w (ZZ F B Z n0 L'):=G5 fun b a _=>a.imp id fun⟨h1,c⟩=>⟨h1,fun hm=>c (h _ hm)⟩
theorem AB{n0:Nat}(i:Nat):Mv w (ZZ F B Z n0 L) w (ZZ F B Z n0 (L.eraseIdx i)):=Tp fun _ h=>List.mem_of_mem_eraseIdx h
theorem Bf(c:∀b,Z b→¬F b∧some b∉B)(w:World):Mv w Z w (ZZ F B Z w.heap.size L):=G5 fun b a d=>.inl ⟨d,a,c b a⟩
theorem Bp {n0:Nat} (c:∀x∈M,x∈L):Mv w (ZZ F B Z n0 L) w (ZZ FN [] Z n0 M):=G5 fun b d _=>by
 rcases d with⟨h1,a,_⟩|⟨h1,a⟩
 ·exact .inl ⟨h1,a,id,by simp⟩
 ·exact .inr ⟨h1,fun hm=>a (c _ hm)⟩
theorem GB{n0:Nat}(a:∀b,Z b→Z' b):Mv w (ZZ F B Z n0 L) w (ZZ F B Z' n0 L):=G5 fun b c _=>c.imp (fun⟨h1,d,h3⟩=>⟨h1,a b d,h3⟩) id
theorem Hp.call (h:Hp F B w0 L w) {c:Nat} (l:w.heap.size≤c) (i:∀k,some k∈M→some k∈L∨c≤k) (e:∀x∈L',x∈L∨x∈M):Mv w' (ZZ FN [] (ZZ F B Z w0.heap.size L) c M) w' (ZZ F B Z w0.heap.size L'):=
 G5 fun b j _=>by
  have h0:=h.sz;rcases j with⟨h1,d,_⟩|⟨h1,d⟩
  ·rcases d with h3|⟨h3,f⟩
   ·exact .inl h3
   ·refine .inr ⟨h3,fun hm=>?_⟩;rcases e _ hm with a|a
    ·exact f a
    ·rcases i b a with g|g
     ·exact f g
     ·omega
  ·refine .inr ⟨by omega,fun hm=>?_⟩;rcases e _ hm with a|a
   ·have:=(h.lo b a).1;omega
   ·exact d a
theorem Hp.Dn(h:Hp F B w0 L w){a:Nat}(b:w.heap.size≤a):Mv w' (ZZ FN [] (ZZ F B Z w0.heap.size L) a []) w' (ZZ F B Z w0.heap.size L):=h.call b (fun _ h=>by cases h) (fun _ h=>.inl h)
theorem Hp.fin(h:Hp F B w0 L w):Bm (FU F B) w0 w:=h.ch
theorem Hp.By(h:Hp FN [] w0 L w):Ext w0 w:=h.ch.ext
theorem Hp.lit{b:Nat}(h:Hp F B w0 L w)(i:Nat)(hi:L[i]?=some (some b))(c:w0.heap.size≤b):ZZ F B Z w0.heap.size (L.eraseIdx i) b:=
 .inr ⟨c,fun hm=>by
  obtain⟨j,a⟩:=List.mem_iff_getElem?.1 hm;rw[List.getElem?_eraseIdx] at a;split at a
  ·exact h.ap i j b (by omega) hi a
  ·exact h.ap i (j+1) b (by omega) hi a⟩
theorem Hp.own {b:Nat} (h:Hp F B w0 L w) (i:Nat) (hi:L[i]?=some (some b)) (a:some b∉B):w0.heap.size≤b:=by
 rcases Nat.lt_or_ge b w0.heap.size with h1|h1
 ·exact absurd ((h.lo b (List.mem_of_getElem? hi)).2.2 h1) a
 ·exact h1
end
def AL {α:Type} (e:D5 α) (t:TypeId) (n0:Nat) (w:World) (Z:Nat→Prop) (A:Option Addr) (c:Nat) (xs:List α):Prop:=
 ∃Bh,R2 e w Z Bh xs∧DV w n0 t e.sz A xs.length c Bh.flatten
section
variable{α:Type}{e:D5 α}{t:TypeId}{n0:Nat}{w w':World}{Z Z':Nat→Prop}{A:Option Addr}{c:Nat}{xs:List α}
theorem AL.nil(e:D5 α)(t:TypeId)(n0:Nat)(w:World)(Z:Nat→Prop):AL e t n0 w Z none 0 []:=⟨[],trivial,DV.nil _ _ _ _⟩
theorem AL.gr(h:AL e t n0 w Z A c xs){r:Option Nat}(g:w.grownBy w' r)(a:∀k,ob A=some k→some k≠r)(hm:Mv w Z w' Z'):AL e t n0 w' Z' A c xs:=by
 obtain⟨Bh,h1,b⟩:=h;exact⟨Bh,h1.mv hm,b.kept g fun k d o f=>a k (by rw[f];rfl) d.symm⟩
theorem AL.ext(h:AL e t n0 w Z A c xs)(g:Ext w w')(hm:Mv w Z w' Z'):AL e t n0 w' Z' A c xs:=h.gr g (fun _ _ e=>by cases e) hm
theorem AL.up(h:AL e t n0 w Z A c xs)(hm:Mv w Z w Z'):AL e t n0 w Z' A c xs:=by
 obtain⟨Bh,h1,a⟩:=h;exact⟨Bh,h1.mv hm,a⟩
theorem AL.sl(h:AL e t n0 w Z A c xs)(l:∀k,ob A=some k→n0≤k→Z k):Sl e w Z A c xs:=by
 obtain⟨Bh,h1,a⟩:=h;have h3:=a;rcases a.2 with⟨d,h0⟩|⟨g,cap,cur,d,f,m,i,_,_,_⟩
 ·have:xs=[]:=List.eq_nil_of_length_eq_zero h0;subst this;cases d;exact Sl.nil _ _ _
 ·cases d;refine⟨i,(fun e=>by cases e),Bh,h1,?_⟩;refine Na (hi:=g+1) (lo:=g) ?_ (fun b h1 a=>by
   obtain rfl:b=g:=by omega
   exact l b rfl f)
  refine⟨lt_of_block m,.inr ⟨g,0,rfl,Nat.le_refl _,Nat.lt_succ_self _,fun j u hu=>?_⟩⟩;have:=World.ownsRow.cells h3 (g:=g) rfl j u hu;rw[Fq] at this;exact this
theorem AL.all(h:AL e t n0 w Z A c xs):Sl e w ZA A c xs:=(h.up Kg).sl fun _ _ _=>trivial
theorem AL.JZ(h:AL e t n0 w Z A c xs):∀k,ob A=some k→k<w.heap.size:=by
 obtain⟨Bh,h1,d⟩:=h;intro k b;rcases d.2 with⟨a,h0⟩|⟨g,cap,cur,a,i,f,_⟩
 ·obtain⟨rfl,-,-⟩:=Value.slice.inj a;cases b
 ·cases a;cases b;exact lt_of_block f
end
section
variable{α:Type}{e:D5 α}{t:TypeId}{F F':Nat→Prop}{B L M:List (Option Nat)}{n0 n1:Nat}{w0 w w':World}{Z Z':Nat→Prop}{A:Option Addr}{c:Nat}{xs:List α}
theorem AL.BE(h:AL e t n0 w Z A c xs){D:Nat→Prop}(g:Bm D w w')(i:∀k,ob A=some k→¬D k)(hm:Mv w Z w' Z'):AL e t n0 w' Z' A c xs:=by
 obtain⟨Bh,h1,a⟩:=h;refine⟨Bh,h1.mv hm,a.1,a.2.imp id ?_⟩;rintro⟨b,cap,cur,d,j,f,h3⟩;refine⟨b,cap,cur,d,j,?_,h3⟩;cases d;exact(g.block b (lt_of_block f) (i b rfl)).trans f
theorem AL.base(h:AL e t n0 w Z A c xs)(d:∀k,ob A=some k→n1≤k):AL e t n1 w Z A c xs:=by
 obtain⟨Bh,h1,a⟩:=h;refine⟨Bh,h1,a.1,a.2.imp id ?_⟩;rintro⟨b,cap,cur,f,_,h3⟩;cases f;exact⟨b,_,cur,rfl,d b rfl,h3⟩
theorem AL.ge(h:AL e t n0 w Z A c xs):∀k,ob A=some k→n0≤k:=by
 obtain⟨Bh,h1,f⟩:=h;intro k d;rcases f.2 with⟨a,_⟩|⟨b,cap,cur,a,g,_⟩
 ·obtain⟨rfl,-,-⟩:=Value.slice.inj a;cases d
 ·cases a;cases d;exact g
theorem Hp.RH (h:Hp F B w0 L w) (i:Nat) (hi:L[i]?=some (ob A)) (d:AL e t w0.heap.size w (ZZ F B Z w0.heap.size L) A c xs):Sl e w (ZZ F B Z w0.heap.size (L.eraseIdx i)) A c xs:=
 (d.up (AB i)).sl fun k b h0=>.inr ⟨h0,fun hm=>by
  obtain⟨j,a⟩:=List.mem_iff_getElem?.1 hm;rw[List.getElem?_eraseIdx] at a;split at a
  ·exact h.ap i j k (by omega) (by rw[hi,b]) a
  ·exact h.ap i (j+1) k (by omega) (by rw[hi,b]) a⟩
theorem Hp.II (h:Hp F B w0 L w) (i:Nat) (hi:L[i]?=some (ob A)) (a:List Nat) (d:(a.all fun j=> !Nat.beq i j)=true) (b:Gt L a M) (f:AL e t w0.heap.size w (ZZ F B Z w0.heap.size L) A c xs):Sl e w (ZZ FN [] Z w0.heap.size M) A c xs:=
 (f.up (Bp b.sub)).sl fun k g h0=>.inr ⟨h0,fun hm=>h.BB (F':=FN) i (by rw[hi,g]) a d b (fun _ h=>h.elim) (.inr hm)⟩
theorem Hp.kn{b:Nat}(h:Hp F B w0 L w)(a:w.heap.size≤b):ZZ F B Z w0.heap.size L b:=
 .inr ⟨Nat.le_trans h.sz a,fun hm=>absurd (h.lo b hm).1 (Nat.not_lt.2 a)⟩
theorem GC {b:Nat} {cs:Array Value} {Bh:List (List Value)} (g:Bk w b t cs) (c:n0≤b) (h:R2 e w Z Bh xs) (d:Bh.flatten=cs.toList) (hm:xs.length≤maxLen):AL e t n0 w Z (some ⟨b,0,none⟩) xs.length xs:=by
 have f:=h.IG;have a:cs.size=xs.length*e.sz:=by rw[←f,d];simp
 refine⟨Bh,h,f,.inr ⟨b,xs.length,cs,rfl,c,g,Nat.le_refl _,hm,a,?_⟩⟩;rw[d,List.take_of_length_le (by simp[a])]
theorem Hp.hand (h:Hp F B w0 L w) {D:Nat→Prop} (g:Bm D w w') (o:∀k,D k→F k∨some k∈L) (f:AL e t w.heap.size w' Z' A c xs):Hp F B w0 (ob A::L) w':=by
 have h1:=h.BE g o;cases l:ob A with
 |none=>exact h1.nil
 |some k=>
  have r:=f.ge k l;have m:=f.JZ k l;refine⟨h1.ch,fun x a=>?_,?_,h.ff⟩
  ·rcases List.mem_cons.1 a with e|a
   ·cases e;have s:=h.sz;exact⟨m,fun p=>absurd (h.ff _ p) (by omega),fun q=>absurd q (by omega)⟩
   ·exact h1.lo x a
  ·have key:∀(j:Nat) (x:Nat),L[j]?=some (some x)→x≠k:=fun j x a e=>by
    have:=(h.lo x (List.mem_of_getElem? a)).1;omega
   intro i j x n hi b;cases i with
   |zero=>
    cases j with
    |zero=>exact n rfl
    |succ j=>
     have d:k=x:=by simpa using hi
     exact key j x (by simpa using b) d.symm
   |succ i=>
    cases j with
    |zero=>
     have d:k=x:=by simpa using b
     exact key i x (by simpa using hi) d.symm
    |succ j=>exact h.ap i j x (by omega) (by simpa using hi) (by simpa using b)
theorem Hp.Tq(h:Hp F B w0 L w){D:Nat→Prop}(g:Bm D w w')(f:∀k,D k→F k∨some k∈L)(i:AL e t w.heap.size w' Z' A c xs){a:Nat→Prop}:Mv w (ZZ F B a w0.heap.size L) w' (ZZ F B a w0.heap.size (ob A::L)):=by
 refine⟨g.size,fun b d j=>⟨d.imp id fun⟨h1,l⟩=>⟨h1,fun hm=>?_⟩,g.block b j (h.PN f b d)⟩⟩;rcases List.mem_cons.1 hm with e|hm
 ·have:=i.ge b e.symm;omega
 ·exact l hm
theorem Hp.UC(h:Hp F B w0 L w){b:Nat}(g:w.heap.size≤b)(d:AL e t b w' (ZZ FN [] (ZZ F B Z w0.heap.size L) b [ob A]) A c xs):AL e t w0.heap.size w' (ZZ F B Z w0.heap.size (ob A::L)) A c xs:=
 (d.base (n1:=w0.heap.size) fun k a=>Nat.le_trans h.sz (Nat.le_trans g (d.ge k a))).up (h.call g (fun k a=>by
  rw[List.mem_singleton] at a;exact .inr (d.ge k a.symm)) fun x f=>by
  rcases List.mem_cons.1 f with e|f
  ·exact .inr (by rw[e];exact List.mem_singleton_self _)
  ·exact .inl f)
end
def i64(x:Int):Option Int:=if-9223372036854775808≤x∧x≤9223372036854775807 then some x else none
theorem QQ{x y:Int}(h:i64 x=some y):y=x∧fits x:=by
 unfold i64 at h;split at h
 ·exact⟨(Option.some.inj h).symm,by assumption⟩
 ·cases h
theorem Ts{x:Int}(h0:-9223372036854775808≤x)(h1:x≤9223372036854775807):i64 x=some x:=if_pos ⟨h0,h1⟩
def idx{α:Type}(xs:List α)(i:Int):Option α:=if 0≤i then xs[i.toNat]? else none
theorem QR{α:Type}{xs:List α}{i:Int}{x:α}(h:idx xs i=some x):∃k:Nat,i=k∧xs[k]?=some x∧k<xs.length:=by
 unfold idx at h;split at h
 ·exact⟨i.toNat,by omega,h,(List.getElem?_eq_some_iff.1 h).1⟩
 ·cases h
theorem idx_eq{α:Type}{xs:List α}{k:Nat}(h:k<xs.length):idx xs (k:Int)=some xs[k]:=by
 unfold idx;rw[if_pos (by omega)];simp[h]
def quo(a b:Int):Option Int:=if 0≤a∧1≤b then some (a/b) else none
theorem QS{a b y:Int}(h:quo a b=some y):y=a/b∧0≤a∧1≤b:=by
 unfold quo at h;split at h
 ·exact⟨(Option.some.inj h).symm,by assumption⟩
 ·cases h
def rem(a b:Int):Option Int:=if 0≤a∧1≤b then some (a%b) else none
theorem QT{a b y:Int}(h:rem a b=some y):y=a%b∧0≤a∧1≤b:=by
 unfold rem at h;split at h
 ·exact⟨(Option.some.inj h).symm,by assumption⟩
 ·cases h
theorem AU{α:Type}{x:Int}{f:Int→Option α}{r:α}(h:(i64 x).bind f=some r):fits x∧f x=some r:=by
 obtain⟨y,h1,a⟩:=Option.bind_eq_some_iff.1 h;obtain⟨rfl,b⟩:=QQ h1;exact⟨b,a⟩
theorem Bt{α β:Type}{xs:List α}{i:Int}{f:α→Option β}{r:β}(h:(idx xs i).bind f=some r):∃(k:Nat) (x:α),i=k∧xs[k]?=some x∧k<xs.length∧f x=some r:=by
 obtain⟨x,h1,a⟩:=Option.bind_eq_some_iff.1 h;obtain⟨k,h3,b,c⟩:=QR h1;exact⟨k,x,h3,b,c,a⟩
theorem Lf{α:Type}{a b:Int}{f:Int→Option α}{r:α}(h:(quo a b).bind f=some r):(0≤a∧1≤b)∧f (a/b)=some r:=by
 obtain⟨y,h1,c⟩:=Option.bind_eq_some_iff.1 h;obtain⟨rfl,d⟩:=QS h1;exact⟨d,c⟩
theorem G8{α:Type}{a b:Int}{f:Int→Option α}{r:α}(h:(rem a b).bind f=some r):(0≤a∧1≤b)∧f (a%b)=some r:=by
 obtain⟨y,h1,c⟩:=Option.bind_eq_some_iff.1 h;obtain⟨rfl,d⟩:=QT h1;exact⟨d,c⟩
def Gb (p:Prop) [Decidable p]:Option Unit:=if p then some () else none
theorem CS{α:Type}{p:Prop}[Decidable p]{f:Unit→Option α}{r:α}(h:(Gb p).bind f=some r):p∧f ()=some r:=by
 unfold Gb at h;split at h
 ·exact⟨by assumption,h⟩
 ·cases h
theorem AF{α:Type}{b:Bool}{x y:Option α}{r:α}(h:cond b x y=some r)(a:b=true):x=some r:=by subst a;exact h
theorem AG{α:Type}{b:Bool}{x y:Option α}{r:α}(h:cond b x y=some r)(a:b=false):y=some r:=by subst a;exact h
theorem bind_some{α β:Type}{x:Option α}{f:α→Option β}{r:β}(h:x.bind f=some r):∃a,x=some a∧f a=some r:=Option.bind_eq_some_iff.1 h
theorem EM{α β a:Type}{x:α}{f:α→Option a}{g:β→Option a}{r:a}(h:Sum.elim f g (.inl x)=some r):f x=some r:=h
theorem EN{α β a:Type}{x:β}{f:α→Option a}{g:β→Option a}{r:a}(h:Sum.elim f g (.inr x)=some r):g x=some r:=h
theorem R3{P:Program}{ro:Option Nat}{c:Code}{Q d:Exit→Act→World→Prop}{a:Act}{w:World}(h:CW P ro c Q a w)(i:∀e a w,Q e a w→d e a w):CW P ro c d a w:=by
 intro b k cs f j g;obtain⟨e,l,m,h1,n⟩:=h b k cs f j g;exact⟨e,l,m,i _ _ _ h1,n⟩
theorem Ce {P:Program} {X:Ctx} {N:Nat} {c:Code} {Q:Exit→Act→World→Prop} {a:Act} {l:Env} {w:World} (d:Exit→Act→World→Prop) (h:CC P X N c d a l w) (b:∀e a w,d e a w→Q e a w):CC P X N c Q a l w:=
 fun s=>R3 (h s) b
theorem Ch{X:Ctx}{N:Nat}{Q:Exit→Act→World→Prop}{e:Exit}{a:Act}{w:World}(b:a.tmps.size=N)(c:a.defers=X.ds)(h:LV X N Q e a [] w):Q e a w:=h ⟨b,c,fun _ d=>by cases d⟩
theorem BD{X:Ctx}{N:Nat}{Q:Exit→Act→World→Prop}{e:Exit}{a:Act}{l:Env}{w:World}(h:St X N a l→Q e (BV a l) w):LV X N Q e a l w:=h
section
variable{P:Program}{a:Act}{w:World}{dst:Option Tmp}{ty:TypeId}{pos:String}{B6:Array Edge}{g:Option (Nat×Bool)}
theorem Gq {t:TypeId} {x:Operand} {Z:Nat→Prop} {b o k:Nat} {cs:List Value} {v:Value} (h:One P t) (c:a.eval x=.pointer (some ⟨b,o+k,none⟩)) (d:Rz w Z (some ⟨b,o,none⟩) cs) (e:cs[k]?=some v):
  BL P ⟨dst,.load t x,ty,pos,B6,g⟩ a w (fun u w'=>u=v∧w'=w):=Mp h c d.cells e
theorem BU{t:TypeId}{x:Operand}{Z:Nat→Prop}{b o:Nat}{cs:List Value}{v:Value}(h:One P t)(c:a.eval x=.pointer (some ⟨b,o,none⟩))(d:Rz w Z (some ⟨b,o,none⟩) cs)(e:cs[0]?=some v):
  BL P ⟨dst,.load t x,ty,pos,B6,g⟩ a w (fun u w'=>u=v∧w'=w):=Mp (k:=0) h c d.cells e
theorem Dp{t:TypeId}{x:Operand}{Z:Nat→Prop}{n b o:Nat}{cs l:List Value}(h:DC P t n)(c:a.eval x=.pointer (some ⟨b,o,none⟩))(d:Rz w Z (some ⟨b,o,none⟩) cs)
  (e:cs.take n=l)(f:l.length=n):BL P ⟨dst,.load t x,ty,pos,B6,g⟩ a w (fun u w'=>u=.agg l.toArray∧w'=w):=O4 (k:=0) h c d.cells (by simpa using e) f
theorem Kh {α:Type} {e:D5 α} {s x:Operand} {t r:TypeId} {z:Value} {sz bytes:Nat} (ht:P.underlying t=some (.slice r)) (hi:(P.info? r).map (fun i=>(i.zero,i.size,i.bytes))=some (some z,sz,bytes)) (aE:z.cells.size=sz) (aF:e.sz=sz) (h0:0<sz)
  {n0:Nat} {Z:Nat→Prop} {A B:Option Addr} {c d n:Nat} {xs ys:List α} (aP:a.eval s=.slice A n c) (aQ:xs.length=n) (aR:a.eval x=.slice B ys.length d) (aC:AL e r n0 w Z A c xs) (aG:∃Bh,R2 e w Z Bh ys∧Rz w ZA B Bh.flatten)
  (aH:xs.length+ys.length≤maxLen) (l:(xs.length+ys.length)*bytes≤140737488355328) (y:n0≤w.heap.size) (aI:ys≠[]):
  BL P ⟨dst,.call {callee:=.builtin .append,args:= #[s,x],argTypes:= #[t,t]},ty,pos,B6,g⟩ a w (fun v w'=>∃p aA,v=.slice p (xs++ys).length aA∧w.grownBy w' (ob A)∧(∀k,ob p=some k→(ob A=some k∨w.heap.size≤k)∧k<w'.heap.size)∧
   ∃Bh f,R2 e w Z Bh xs∧R2 e w Z f ys∧DV w' n0 r e.sz p (xs++ys).length aA (Bh++f).flatten):=by
 obtain⟨Bh,aS,aT⟩:=aC;obtain⟨f,aB,aU⟩:=aG;subst aF;subst aQ;have aJ:f.flatten≠[]:=fun aV=>by
  have:=aB.IG;rw[aV] at this;have aW:0<ys.length:=List.length_pos_iff.2 aI;have:=Nat.mul_pos aW h0;simp at*;omega
 obtain⟨b,o,rfl,-,-,aX⟩:=aU.resolve_left aJ;refine(PL (ad:=⟨b,o,none⟩) (news:=f.flatten) (m:=ys.length) ht hi aE h0 aP aR aT (fun j u hu=>by rw[Fq];exact aX j u hu) aB.IG aB.one aH l y).mono ?_;rintro v w' ⟨p,aA,rfl,q,aK,-,aY⟩;rw[Tn] at aK;refine⟨p,aA,by rw[List.length_append],aK,fun k aL=>?_,Bh,f,aS,aB,by rw[List.length_append,List.flatten_append];exact q⟩;have a3:=q.JZ (k:=k) (o:=0);rcases q.2 with⟨aD,_⟩|⟨aM,aZ,a0,aD,_,aN,_⟩
 ·obtain⟨rfl,-,-⟩:=Value.slice.inj aD;cases aL
 ·cases aD;have aO:aM=k:=by simpa[ob] using aL
  subst aO;refine⟨?_,lt_of_block aN⟩;rcases aY aM 0 rfl with⟨o',a2⟩|h
  ·left;rw[a2];rfl
  ·exact .inr h
theorem ES{α:Type}{e:D5 α}{t:TypeId}{n0:Nat}{w w':World}{Z Z':Nat→Prop}{A:Option Addr}{c:Nat}{xs ys:List α}
  (h:∃Bh a,R2 e w Z Bh xs∧R2 e w Z a ys∧DV w' n0 t e.sz A (xs++ys).length c (Bh++a).flatten)(hm:Mv w Z w' Z'):AL e t n0 w' Z' A c (xs++ys):=by
 obtain⟨Bh,a,h1,b,h3⟩:=h;exact⟨Bh++a,(h1.mv hm).append (b.mv hm),h3⟩
theorem Sl.news{α:Type}{e:D5 α}{Z:Nat→Prop}{A:Option Addr}{c:Nat}{xs:List α}(h:Sl e w Z A c xs):∃Bh,R2 e w Z Bh xs∧Rz w ZA A Bh.flatten:=by
 obtain⟨_,_,Bh,h1,a⟩:=h;exact⟨Bh,h1,a.mv Kg⟩
theorem L2 {α:Type} {e:D5 α} {Z:Nat→Prop} {b:Nat} {t:TypeId} {cs:Array Value} {Bh:List (List Value)} {xs:List α} (a:Bk w b t cs) (h:R2 e w Z Bh xs) (c:Bh.flatten=cs.toList):∃Bh,R2 e w Z Bh xs∧Rz w ZA (some ⟨b,0,none⟩) Bh.flatten:=
 ⟨Bh,h,.inr ⟨b,0,rfl,trivial,a.lt,fun j u hu=>by rw[Nat.zero_add,a.cell];rw[c] at hu;simpa using hu⟩⟩
theorem Gu{α:Type}{e:D5 α}{Z:Nat→Prop}{b:Nat}{t:TypeId}{cs:Array Value}{Bh:List (List Value)}{xs:List α}(a:Bk w b t cs)(d:Z b)(h:R2 e w Z Bh xs)(f:Bh.flatten=cs.toList){c:Nat}(g:xs.length≤c):Sl e w Z (some ⟨b,0,none⟩) c xs:=
 ⟨g,(fun e=>by cases e),Bh,h,.inr ⟨b,0,rfl,d,a.lt,fun j u hu=>by rw[Nat.zero_add,a.cell];rw[f] at hu;simpa using hu⟩⟩
end
end Go.Proofs.YtkljfdkmjdjpfaaGreat
end
section
namespace Go.Proofs.YtkljfdkmjdjpfaaGreat
open Go.RowKit
def JE(D:Nat→Bool)(i:Nat):Nat→Bool:=fun j=>cond (Nat.beq j i) true (D j)
def JF(V:Nat→Value)(i:Nat)(v:Value):Nat→Value:=fun j=>cond (Nat.beq j i) v (V j)
theorem PO(D:Nat→Bool)(i:Nat):JE D i i=true:=by unfold JE;rw[Nat.beq_refl];rfl
theorem R4(D:Nat→Bool){i j:Nat}(h:j≠i):JE D i j=D j:=by
 have:Nat.beq j i=false:=by
  cases a:Nat.beq j i with
  |false=>rfl
  |true=>exact absurd (Nat.eq_of_beq_eq_true a) h
 unfold JE;rw[this];rfl
theorem PQ(V:Nat→Value)(i:Nat)(v:Value):JF V i v i=v:=by unfold JF;rw[Nat.beq_refl];rfl
theorem R5(V:Nat→Value){i j:Nat}(v:Value)(h:j≠i):JF V i v j=V j:=by
 have:Nat.beq j i=false:=by
  cases a:Nat.beq j i with
  |false=>rfl
  |true=>exact absurd (Nat.eq_of_beq_eq_true a) h
 unfold JF;rw[this];rfl
structure KP (L:List Oper) (a:Act) (l:Env) (D:Nat→Bool) (V:Nat→Value) (k:Nat) (o:Oper) (a':Act):Prop where
 out:∀s,isDst L s=false→sl a' s=lk (sl a s) l s
 An:∀j d,Fs o j=true→B7 L j=some d→sl a' d=V j
 dn:∀j,Fs o j=true→D j=true
 me:D k=false
 down:∀j o',L[j]?=some o'→D j=true→∀k',Fs o' k'=true→D k'=true
theorem KP.no{L:List Oper}{a:Act}{l:Env}{D:Nat→Bool}{V:Nat→Value}{k:Nat}{o:Oper}{a':Act}(K:KP L a l D V k o a')(j:Nat)(o':Oper)(b:L[j]?=some o')(h:Fs o' k=true):D j=false:=by
 cases c:D j with
 |false=>rfl
 |true=>have:=K.down j o' b c k h;rw[K.me] at this;cases this
theorem KP.later {N:Nat} {L:List Oper} {a:Act} {l:Env} {D:Nat→Bool} {V:Nat→Value} {k:Nat} {o:Oper} {a':Act} (K:KP L a l D V k o a') (g:J6 N L=true) (e:∀s,(∀j,B7 L j=some s→D j=false)→sl a' s=lk (sl a s) l s)
  (j d:Nat) (o':Oper) (f:L[j]?=some o') (b:o'.dst=some d) (c:Fs o' k=true):sl a' d=lk (sl a d) l d:=e d fun i hi=>by
 have h1:B7 L j=some d:=by simp[B7,f,b]
 obtain rfl:=(H0 g j i d h1).2 hi;exact K.no j o' f c
section
variable(P:Program)(L:List Oper)(a:Act)(l:Env)(I:(Nat→Bool)→(Nat→Value)→World→Prop)
structure Pc (D:Nat→Bool) (V:Nat→Value) (k:Nat) (o:Oper) (a':Act):Prop extends KP L a l D V k o a' where
 later:∀(j d:Nat) (o':Oper),L[j]?=some o'→o'.dst=some d→Fs o' k=true→sl a' d=lk (sl a d) l d
def Pd(k:Nat)(o:Oper):Prop:=∀D V a' w',Pc L a l D V k o a'→I D V w'→
 (Region.wanted o (yielded L.toArray a'.tmps)=true∧BL P o a' w' (fun v Bj=>I (JE D k) (JF V k v) Bj))∨
 (Region.wanted o (yielded L.toArray a'.tmps)=false∧I (JE D k) (JF V k undef) w')
def Nb:Nat→Nat→List Oper→Prop
 |0,_,_=>True
 |_+1,_,[]=>True
 |m+1,k,o::R=>Pd P L a l I k o∧Nb m (k+1) R
def Nc:Nat→Nat→List Oper→(Nat→Value)→Env→Env
 |0,_,_,_,l=>l
 |_+1,_,[],_,l=>l
 |m+1,k,o::R,V,l=>match o.dst with
  |some d=>Nc m (k+1) R V ((d,V k)::l)
  |none=>Nc m (k+1) R V l
end
section
variable{P:Program}{X:Ctx}{N:Nat}{L:List Oper}{Q:Exit→Act→World→Prop}{a:Act}{l:Env}{w:World}{I:(Nat→Bool)→(Nat→Value)→World→Prop}{k:Nat}{o:Oper}
theorem sj(b:o.guard=none)(h:∀D V a' w',Pc L a l D V k o a'→I D V w'→BL P o a' w' (fun v Bj=>I (JE D k) (JF V k v) Bj)):Pd P L a l I k o:=
 fun D V a' w' K c=>.inl ⟨by unfold Region.wanted;rw[b],h D V a' w' K c⟩
theorem LA:∀{m:Nat} {R:List Oper} {k:Nat},Nb P L a l I m k R→∀(i:Nat) (o:Oper),i<m→R[i]?=some o→Pd P L a l I (k+i) o
 |0,_,_,_,i,o,hi,_=>absurd hi (by omega)
 |_+1,[],_,_,i,o,_,b=>by simp at b
 |m+1,o'::R,k,h,i,o,hi,b=>by
  cases i with
  |zero=>
   obtain rfl:o'=o:=by simpa using b
   exact h.1
  |succ i=>
   have:=LA h.2 i o (by omega) (by simpa using b);rw[Nat.add_assoc,Nat.add_comm 1 i] at this;exact this
theorem Nd{V:Nat→Value}{G:Env→Prop}{w':World}:∀(m:Nat) (R:List Oper) (k:Nat) (b:Env),G (Nc m k R V b)→Jw X N a (fun k v _=>v=V k) (fun _ _=>True) G w' m k R b
 |0,_,_,_,h=>fun _=>h
 |_+1,[],_,_,h=>fun _=>h
 |m+1,o::R,k,b,h=>by
  simp only[Jw];simp only[Nc] at h;cases c:o.dst with
  |none=>rw[c] at h;exact Nd m R (k+1) b h
  |some d=>rw[c] at h;rintro v rfl;exact Nd m R (k+1) _ h
theorem Iv{id:Nat}(m:Nat)(I:(Nat→Bool)→(Nat→Value)→World→Prop)(hm:P.follows .mixedOrders=true)(aV:KM N L []=true)(a5:(Nat.ble m L.length&&IC L m)=true)(h0:I (fun _=>false) (fun _=>undef) w.drew)
  (bW:Nb P L a l I m 0 L)(bD:∀D V w',(∀j,Nat.blt j m=true→D j=true)→I D V w'→WL P X N L.toArray Q (L.drop m) a (Nc m 0 L V l) w'):CC P X N (.region id L.toArray true) Q a l w:=fun st=>
 wpIn_region_any hm (by
  have aP:=aV;simp only[KM,Bool.and_eq_true] at aP;obtain⟨⟨aQ,a6⟩,_⟩:=aP;rw[Bool.and_eq_true] at a5;obtain⟨bE,a7⟩:=a5;have bF:m≤L.length:=Nat.le_of_ble_eq_true bE;have aG:=H0 a6;have fin:∀(fuel:Nat) (listed:Array Bool) (a':Act) (w':World) (D:Nat→Bool) (V:Nat→Value),listed.toList.count false≤fuel→listed.size=L.length→a'.tmps.size=N→a'.defers=X.ds→
    (∀s,(∀j,B7 L j=some s→listed.getD j false=false)→sl a' s=lk (sl a s) l s)→(∀j d,listed.getD j false=true→B7 L j=some d→sl a' d=V j)→(∀j,j<L.length→D j=listed.getD j false)→
    I D V w'→(∀j,m≤j→listed.getD j false=false)→(∀j,j<m→listed.getD j false=true)→wpAnyIn (Wd X.ro) 0 P .any L.toArray Q fuel listed a' w':=by
   intro fuel listed a' w' D V aW z aA aE r q aB aU c aM;have bG:wpListIn (Wd X.ro) 0 P L.toArray Q (L.drop m) a' w':=by
    refine KN (K:=wpListIn (Wd X.ro) 0 P L.toArray Q (L.drop m) a' w') (X:=X) (N:=N) (Φ:=fun k v _=>v=V k) (fun _ _=>True) (fun bH=>WL P X N L.toArray Q (L.drop m) a bH w') w' a' trivial aA aE (fun bH bI bX e=>by rw[e];exact bX bI) m L 0 l st bF (fun i d hi=>(aG i i d hi).1) (fun i j d hi b=>(aG i j d hi).2 b)
     (Nd m L 0 l (bD D V w' (fun j b=>by
      have aJ:j<m:=by simpa[Nat.blt_eq] using b
      rw[aB j (by omega)];exact aM j aJ) aU)) (fun i d aX aN=>?_) (fun s t=>?_)
    ·rw[Nat.zero_add];exact q i d (aM i aX) aN
    ·refine r s fun j b=>?_;rcases Nat.lt_or_ge j m with h|h
     ·exact absurd b (t j h)
     ·exact c j h
   refine M4 a7 aQ (L.drop m) m fuel listed a' w' rfl (Nat.le_refl _) ?_ z (fun i hi=>?_) bG
   ·refine Nat.le_trans ?_ aW;have e:listed.toList.drop m=List.replicate (L.length-m) false:=by
     apply List.ext_getElem
     ·simp[z]
     ·intro i h1 aO;simp at h1;have:=c (m+i) (by omega);rw[Array.getD_eq_getD_getElem?,Array.getElem?_eq_getElem (by omega)] at this;simpa using this
    have aO:(listed.toList.drop m).count false≤listed.toList.count false:=(List.drop_sublist m listed.toList).count_le false;rw[e,List.count_replicate_self] at aO;simpa using aO
   ·rcases Nat.lt_or_ge i m with h|h
    ·simp[aM i h,h]
    ·simp only[c i h];constructor
     ·intro aY;cases aY
     ·intro aY;omega
  have main:∀(fuel:Nat) (listed:Array Bool) (a':Act) (w':World) (D:Nat→Bool) (V:Nat→Value),listed.toList.count false≤fuel→listed.size=L.length→a'.tmps.size=N→a'.defers=X.ds→
    (∀s,(∀j,B7 L j=some s→listed.getD j false=false)→sl a' s=lk (sl a s) l s)→(∀j d,listed.getD j false=true→B7 L j=some d→sl a' d=V j)→(∀j,j<L.length→D j=listed.getD j false)→
    (∀(j:Nat) (o:Oper),L[j]?=some o→listed.getD j false=true→∀e∈o.after,Region.binds .any e=true→listed.getD e.on false=true)→I D V w'→(∀j,m≤j→listed.getD j false=false)→wpAnyIn (Wd X.ro) 0 P .any L.toArray Q fuel listed a' w':=by
   intro fuel
   induction fuel with
   |zero=>
    intro listed a' w' D V aW z aA aE r q aB y aU c;refine fin 0 listed a' w' D V aW z aA aE r q aB aU c fun j b=>?_;have aJ:j<listed.size:=by omega
    cases u:listed[j] with
    |true=>simp[aJ,u]
    |false=>
     have:false∈listed.toList:=by rw[←u];simp
     have:=List.count_pos_iff.2 this;omega
   |succ fuel ih=>
    intro listed a' w' D V aW z aA aE r q aB y aU c
    by_cases aR:∀j,j<m→listed.getD j false=true
    ·exact fin (fuel+1) listed a' w' D V aW z aA aE r q aB aU c aR
    have hex:∃j,j<m∧listed.getD j false=false:=by
     false_or_by_contra
     rename_i bJ
     refine aR fun j b=>?_;cases u:listed.getD j false with
     |true=>rfl
     |false=>exact absurd ⟨j,b,u⟩ bJ
    constructor
    ·intro bY;exfalso;obtain⟨j,b,u⟩:=hex;refine absurd u ?_;rw[Bool.not_eq_false];clear u
     induction j using Nat.strongRecOn with
     |_ j bK=>
      cases u:listed.getD j false with
      |true=>rfl
      |false=>
       exfalso;have aJ:j<listed.size:=by omega
       have hm:j∈Region.ready .any L.toArray listed:=mem_ready.2 ⟨by simp[aJ] at u⊢;exact u,L[j],by simp,fun e he g=>by
        have h1:=Eo aQ j L[j] (List.getElem?_eq_getElem (by omega)) e he g;exact bK e.on (by omega) (by omega)⟩
       rw[bY] at hm;cases hm
    ·intro i hi;obtain⟨h0,o,bL,aH⟩:=mem_ready.1 hi;have aC:L[i]?=some o:=by simpa using bL
     have bM:i<L.length:=(List.getElem?_eq_some_iff.1 aC).1;have aF:i<listed.size:=by omega
     have aS:listed.getD i false=false:=by simp[aF] at h0⊢;exact h0
     have aX:i<m:=by
      rcases Nat.lt_or_ge i m with h|h
      ·exact h
      ·obtain⟨j,b,u⟩:=hex;have:=Jx (p:=fun x=>listed.getD x false=true) (fun d od bN aK k aV=>by
        obtain⟨e,he,g,aD⟩:=EL.1 aV;have:=y d od bN aK e he g
        rwa[aD] at this) (Jb a7 aC h j (by omega)) (fun bZ a8 k aV=>by
        rw[aC] at a8;obtain rfl:o=bZ:=by simpa using a8
        obtain⟨e,he,g,aD⟩:=EL.1 aV;have:=aH e he g
        rwa[aD] at this)
       rw[u] at this;cases this
     have aK:∀j,Fs o j=true→listed.getD j false=true∧j<L.length:=fun j b=>by
      obtain⟨e,he,g,aD⟩:=EL.1 b;have h1:=aH e he g;have aO:=Eo aQ i o aC e he g;rw[aD] at h1 aO;exact⟨h1,by omega⟩
     have a9:KP L a l D V i o a':=by
      refine⟨fun s t=>r s fun j b=>?_,fun j d b aN=>q j d (aK j b).1 aN,fun j b=>by rw[aB j (aK j b).2];exact(aK j b).1,by rw[aB i bM];exact aS,fun j bO b bA k' aP=>?_⟩
      ·have:=J7.2 ⟨j,b⟩;rw[t] at this;cases this
      ·have aZ:j<L.length:=(List.getElem?_eq_some_iff.1 b).1;rw[aB j aZ] at bA;obtain⟨e,he,g,aD⟩:=EL.1 aP;have h1:=y j bO b bA e he g;have aO:=Eo aQ j bO b e he g;rw[aD] at h1 aO;rw[aB k' (by omega)];exact h1
     have hK:Pc L a l D V i o a':=⟨a9,a9.later a6 fun s t=>r s fun j b=>by
      have aZ:j<L.length:=by
       unfold B7 at b;cases bP:L[j]? with
       |none=>rw[bP] at b;cases b
       |some o=>exact(List.getElem?_eq_some_iff.1 bP).1
      rw[←aB j aZ];exact t j b⟩
     have aI:B7 L i=o.dst:=by simp[B7,aC]
     have step:∀v Bj,I (JE D i) (JF V i v) Bj→wpAnyIn (Wd X.ro) 0 P .any L.toArray Q fuel (listed.setIfInBounds i true) (a'.put o.dst v) Bj:=by
      intro v Bj a0;have a2:∀s,(∀d,o.dst=some d→d≠s)→sl (a'.put o.dst v) s=sl a' s:=by
       intro s t;cases aN:o.dst with
       |none=>rfl
       |some d=>exact Kb (t d aN)
      refine ih _ _ _ (JE D i) (JF V i v) ?_ (by simp[z]) ?_ ?_ ?_ ?_ ?_ ?_ a0 (fun j b=>by rw[Dm (by omega)];exact c j b)
      ·have aT:i<listed.toList.length:=by simpa using aF
       have a3:listed.toList[i]=false:=by
        simp[aF] at aS;simpa using aS
       have bQ:(listed.setIfInBounds i true).toList=listed.toList.set i true:=by simp
       rw[bQ,List.count_set aT,a3];have h1:0<listed.toList.count false:=List.count_pos_iff.2 (by rw[←a3];exact List.getElem_mem aT);have b1:(if (false==false)=true then 1 else 0)=1:=rfl;have b2:(if (true==false)=true then 1 else 0)=0:=rfl;rw[b1,b2];omega
      ·cases o.dst<;>simp[Act.put,aA]
      ·cases o.dst<;>simp[Act.put,aE]
      ·intro s t;rw[a2 s (fun d aN bR=>by
        subst bR;have:=t i (by rw[aI,aN]);rw[FL aF] at this;cases this)]
       refine r s fun j b=>?_;have:=t j b
       by_cases n:i=j
       ·subst n;exact aS
       ·rwa[Dm n] at this
      ·intro j d b aL
       by_cases n:i=j
       ·subst n;rw[aI] at aL;have aT:d<a'.tmps.size:=by rw[aA];exact(aG i i d (by rw[aI,aL])).1
        rw[aL,K0 aT,PQ]
       ·rw[Dm n] at b;have:sl (a'.put o.dst v) d=sl a' d:=by
         refine a2 d fun b3 bS bT=>?_;subst bT;exact n ((aG i j b3 (by rw[aI,bS])).2 aL)
        rw[this,R5 _ _ (Ne.symm n)];exact q j d b aL
      ·intro j b
       by_cases n:i=j
       ·subst n;rw[PO,FL aF]
       ·rw[R4 _ (Ne.symm n),Dm n];exact aB j b
      ·intro j bU b bB e he g
       by_cases bC:i=e.on
       ·rw[←bC];exact FL aF
       ·rw[Dm bC]
        by_cases n:i=j
        ·subst n;rw[aC] at b;obtain rfl:o=bU:=by simpa using b
         exact aH e he g
        ·rw[Dm n] at bB;exact y j bU b bB e he g
     have b4:=LA bW i o aX aC;unfold wpOpIn;simp only[bL];rcases b4 D V a' w' (by rw[Nat.zero_add];exact hK) aU with⟨hw,bV⟩|⟨hw,hu⟩
     ·rw[if_pos hw];rw[Nat.zero_add] at bV;exact bV.wp fun v Bj a0=>step v Bj a0
     ·rw[if_neg (by rw[hw];simp)];rw[Nat.zero_add] at hu;exact⟨fun f _=>Lq X.ro f,step undef w' hu⟩
  have a4:∀j,(Array.replicate L.length false).getD j false=false:=by
   intro j;rw[Array.getD_eq_getD_getElem?];rcases Nat.lt_or_ge j L.length with h|h
   ·simp[h]
   ·simp[h]
  have e:L.toArray.size=L.length:=by simp
  rw[e];refine main L.length (Array.replicate L.length false) (BV a l) w.drew (fun _=>false) (fun _=>undef) (Nat.le_trans (List.count_le_length ..) (by simp)) (by simp) (by rw[H8,st.sz]) (by rw[Ds,st.df]) (fun s _=>HV st s) (fun j d h=>?_) (fun j _=>(a4 j).symm) (fun j o h aY=>?_) h0 (fun j _=>a4 j)
  ·rw[a4 j] at h;cases h
  ·rw[a4 j] at aY;cases aY)
end
end Go.Proofs.YtkljfdkmjdjpfaaGreat
end
section
namespace Go.Proofs.YtkljfdkmjdjpfaaGreat
open Go.RowKit Go.WideShapes
section
variable{P:Program}{L:List Oper}{a:Act}{l:Env}{T:Nat→Act→World→Prop}{Φ:Nat→Value→World→Prop}{sp:List Nat}{S:Nat→World→World→Prop}{k:Nat}{op:Op}{ty:TypeId}{pos:String}{B6:Array Edge}{dst:Option Nat}
theorem od{c:Value}(b:sp.contains k=false)(d:∀w,Φ k c w)(h:∀{a' w' ph},Ib L a l T Φ sp k ⟨dst,op,ty,pos,B6,none⟩ a' w' ph→BL P ⟨dst,op,ty,pos,B6,none⟩ a' w' (fun u Bj=>u=c∧Bj=w')):Ef P L a l S T Φ sp k ⟨dst,op,ty,pos,B6,none⟩:=
 Tl rfl b d fun _ _ _ K=>h K
end
def Nf(P:Program)(a:Act)(l:Env)(w:World):ResultVar→Value→Prop
 |.tmp t,v=>ev a l (.tmp t)=v
 |.cell p t,v=>∃ad,ev a l (.tmp p)=.pointer (some ad)∧(loadVar t ad).run P w=.ok v w
section
variable{P:Program}{N:Nat}{a:Act}{l:Env}{w:World}
theorem Ng{fn:Func}{r1 r2:ResultVar}{v v':Value}{R:Value→World→Prop}(d:fn.results= #[r1,r2])(h1:Nf P a l w r1 v)(f:Nf P a l w r2 v')(h:R (.tuple #[v,v']) w):
  LV X0 N (bodyPost P fn (fun e w'=>∃v,e=.returned v∧R v w')) .ret a l w:=fun s=>by
 refine bodyPost_ret (v:=.tuple #[v,v']) ?_ (by rw[Ds,s.df]) ⟨_,rfl,h⟩;cases r1 with
 |tmp t=>
  have c:(BV a l).tmps.getD t undef=v:=ee s h1;simp only[Array.getD_eq_getD_getElem?] at c;cases r2 with
  |tmp u=>
   have b:(BV a l).tmps.getD u undef=v':=ee s f;simp only[Array.getD_eq_getD_getElem?] at b;simp[results,d,c,b]
  |cell p t=>
   obtain⟨ad,i,g⟩:=f;have b:(BV a l).tmps.getD p undef=.pointer (some ad):=ee s i;simp only[Array.getD_eq_getD_getElem?] at b;simp[results,d,c,b,asAddr,g]
 |cell q t=>
  obtain⟨j,i,g⟩:=h1;have c:(BV a l).tmps.getD q undef=.pointer (some j):=ee s i;simp only[Array.getD_eq_getD_getElem?] at c;cases r2 with
  |tmp u=>
   have b:(BV a l).tmps.getD u undef=v':=ee s f;simp only[Array.getD_eq_getD_getElem?] at b;simp[results,d,c,b,asAddr,g]
  |cell p t=>
   obtain⟨ad,k,m⟩:=f;have b:(BV a l).tmps.getD p undef=.pointer (some ad):=ee s k;simp only[Array.getD_eq_getD_getElem?] at b;simp[results,d,c,b,asAddr,g,m]
end
def Hr(a n:Int):Int:=a*2^n.toNat
def L3(a n:Int):Option Unit:=if 0≤n∧n<64∧-9223372036854775808≤a*2^n.toNat∧a*2^n.toNat≤9223372036854775807 then some () else none
theorem Mu{α:Type}{a n:Int}{f:Unit→Option α}{r:α}(h:(L3 a n).bind f=some r):(0≤n∧n<64∧fits (Hr a n))∧f ()=some r:=by
 unfold L3 at h;split at h
 ·rename_i h1;exact⟨⟨h1.1,h1.2.1,h1.2.2⟩,h⟩
 ·cases h
def Fu(a n:Int):Int:=a/2^n.toNat
def Nh(a n:Int):Option Unit:=if 0≤n∧n<64 then some () else none
theorem Mw{α:Type}{a n:Int}{f:Unit→Option α}{r:α}(h:(Nh a n).bind f=some r):(0≤n∧n<64)∧f ()=some r:=by
 unfold Nh at h;split at h
 ·exact⟨by assumption,h⟩
 ·cases h
def LB(k:IntKind)(n:Int):Option Unit:=if k.wrap n=n then some () else none
theorem JG{α:Type}{k:IntKind}{n:Int}{f:Unit→Option α}{r:α}(h:(LB k n).bind f=some r):k.wrap n=n∧f ()=some r:=by
 unfold LB at h;split at h
 ·exact⟨by assumption,h⟩
 ·cases h
section
variable{P:Program}{a:Act}{w:World}{dst:Option Tmp}{ty:TypeId}{pos:String}{B6:Array Edge}{g:Option (Nat×Bool)}
theorem Ni{x y:Operand}{m n:Int}{t b:TypeId}(c:a.eval x=.int .i64 m)(hy:a.eval y=.int .i64 n)(h0:0≤m)(h1:1≤n)(d:fits (m/n)):BL P ⟨dst,.binOp .quo t x y b,ty,pos,B6,g⟩ a w (fun u w'=>u=.int .i64 (m/n)∧w'=w):=
 Cv (by
  have e:m.tdiv n=m/n:=Int.tdiv_eq_ediv_of_nonneg h0;have f:¬n=0:=by omega
  simp[execOp,c,hy,eqGuard,binOp,Op.intDiv,f,e,HW d])
theorem RI{x y:Operand}{m n:Int}{k:IntKind}{t b:TypeId}(c:a.eval x=.int .i64 m)(hy:a.eval y=.int k n)(h:0≤n∧n<64∧fits (Hr m n)):BL P ⟨dst,.binOp .shl t x y b,ty,pos,B6,g⟩ a w (fun u w'=>u=.int .i64 (Hr m n)∧w'=w):=
 Cv (by
  have d:¬n<0:=by omega
  have e:min n.toNat IntKind.i64.bits=n.toNat:=by
   have:IntKind.i64.bits=64:=rfl;omega
  have f:IntKind.i64.wrap (m*2^n.toNat)=m*2^n.toNat:=HW h.2.2;simp[execOp,c,hy,eqGuard,binOp,Op.shift,d,e,f,Hr])
theorem RJ{x y:Operand}{m n:Int}{k:IntKind}{t b:TypeId}(c:a.eval x=.int .i64 m)(hy:a.eval y=.int k n)(h:0≤n∧n<64):BL P ⟨dst,.binOp .shr t x y b,ty,pos,B6,g⟩ a w (fun u w'=>u=.int .i64 (Fu m n)∧w'=w):=
 Cv (by
  have d:¬n<0:=by omega
  have e:min n.toNat IntKind.i64.bits=n.toNat:=by
   have:IntKind.i64.bits=64:=rfl;omega
  have f:m.fdiv (2^n.toNat)=m/2^n.toNat:=Int.fdiv_eq_ediv_of_nonneg m (Int.le_of_lt (Int.pow_pos (by decide)));simp[execOp,c,hy,eqGuard,binOp,Op.shift,d,e,f,Fu])
theorem UD {x y:Operand} {v1 v2:Value} {x1 x2:List Int} {n:Nat} {t c:TypeId} (d:K4 P t n) (b:P.eqGuardType P.depth t=false) (e:a.eval x=v1) (hy:a.eval y=v2) (h1:v1=Fh x1) (f:v2=Fh x2) (h:x1.length=n) (i:x2.length=n):
  BL P ⟨dst,.binOp .eql t x y c,ty,pos,B6,g⟩ a w (fun u w'=>u=.bool (x1==x2)∧w'=w):=by
 refine O6 e hy ?_;subst h1;subst f;have h3:=d w x1 x2 h i;have j:(eqGuard .eql t x y (Fh x1) (Fh x2)).run P w=.ok () w:=by
  simp[eqGuard,Fh,program,Sem.run,b]
 simp only[Sem.run_bind,j,Result.andThen_ok];show(do pure (Value.bool (←Op.equal t (Fh x1) (Fh x2))):Sem Value).run P w=_;simp only[Sem.run_bind,h3,Result.andThen_ok,Sem.run_pure]
theorem Il{x y:Operand}{b c:Bool}{t d:TypeId}(e:∀b c w,(Op.equal t (.bool b) (.bool c)).run P w=.ok (b==c) w)(f:a.eval x=.bool b)(hy:a.eval y=.bool c):
  BL P ⟨dst,.binOp .neq t x y d,ty,pos,B6,g⟩ a w (fun u w'=>u=.bool (b !=c)∧w'=w):=by
 refine O6 f hy ?_;show(do eqGuard .neq t x y (.bool b) (.bool c);pure (Value.bool (!(←Op.equal t (.bool b) (.bool c)))):Sem Value).run P w=_;have h:(eqGuard .neq t x y (.bool b) (.bool c)).run P w=.ok () w:=by simp[eqGuard]
 simp only[Sem.run_bind,h,Result.andThen_ok,e,Sem.run_pure];rfl
theorem LC {t t2 e:TypeId} (ht:P.underlying t=some (.slice e)) {i:TypeInfo} (hi:P.info? e=some i) {A B:Option Addr} {n c d:Nat} (b:n≤c) (g:A=none→n=0) (a:P.underlying t2=some (.slice e)):
  (Builtin.append_ #[t,t2] ty #[.slice A n c,.slice B 0 d]).run P w=.ok (.slice A n c) w:=by
 have f:(Builtin.firstCells i.size 0 (.slice B 0 d)).run P w=.ok #[] w:=by
  cases B with
  |none=>simp[Builtin.firstCells]
  |some ad=>simp[Builtin.firstCells,loadCells,loadCellsFrom]
 cases A with
 |none=>simp[Builtin.append_,run_underlying ht,run_underlying a,sizeOf,typeInfo,program,Sem.run,hi,Builtin.lenOf,b,f]
 |some ad=>simp[Builtin.append_,run_underlying ht,run_underlying a,sizeOf,typeInfo,program,Sem.run,hi,Builtin.lenOf,b,f,storeCells]
theorem Tt {α:Type} {e:D5 α} {s x:Operand} {t h:TypeId} {z:Value} {sz bytes:Nat} (ht:P.underlying t=some (.slice h)) (hi:(P.info? h).map (fun i=>(i.zero,i.size,i.bytes))=some (some z,sz,bytes)) (u:z.cells.size=sz) (y:e.sz=sz) (h0:0<sz)
  {n0:Nat} {Z:Nat→Prop} {A B:Option Addr} {c d n:Nat} {xs ys:List α} (aA:a.eval s=.slice A n c) (aB:xs.length=n) (aC:a.eval x=.slice B ys.length d) (b:AL e h n0 w Z A c xs) (hy:Sl e w Z B d ys)
  (aD:xs.length+ys.length≤maxLen) (j:(xs.length+ys.length)*bytes≤140737488355328) (m:n0≤w.heap.size):
  BL P ⟨dst,.call {callee:=.builtin .append,args:= #[s,x],argTypes:= #[t,t]},ty,pos,B6,g⟩ a w (fun v w'=>∃q aE,v=.slice q (xs++ys).length aE∧w.grownBy w' (ob A)∧(∀k,ob q=some k→(ob A=some k∨w.heap.size≤k)∧k<w'.heap.size)∧
   ∃Bh o,R2 e w Z Bh xs∧R2 e w Z o ys∧DV w' n0 h e.sz q (xs++ys).length aE (Bh++o).flatten):=by
 by_cases p:ys=[]
 ·subst p;subst aB;obtain⟨Bh,aI,aF⟩:=id b;have f:xs.length≤c∧(A=none→xs.length=0):=by
   rcases aF.2 with⟨r,h0⟩|⟨g,cap,cur,r,_,_,f,_⟩
   ·obtain⟨rfl,-,rfl⟩:=Value.slice.inj r;exact⟨by omega,fun _=>h0⟩
   ·cases r;exact⟨f,fun e=>by cases e⟩
  cases l:P.info? h with
  |none=>simp[l] at hi
  |some i=>
   have aJ:=LC (P:=P) (w:=w) (ty:=ty) (B:=B) (d:=d) ht l f.1 f.2 ht;have he:(execOp a.eval ⟨dst,.call {callee:=.builtin .append,args:= #[s,x],argTypes:= #[t,t]},ty,pos,B6,g⟩).run P w=.ok (.value (.slice A xs.length c)) w:=by
    have aG:a.eval x=.slice B 0 d:=aC;unfold execOp;simp only[resolve,invoke,builtin,Sem.run_bind,Sem.run_pure,Result.andThen_ok,List.map_toArray,List.map_cons,List.map_nil,aA,aG,aJ]
   unfold BL;rw[he];refine⟨A,c,by rw[List.append_nil],World.grownBy.refl w _,fun k aH=>⟨.inl aH,b.JZ k aH⟩,Bh,[],aI,trivial,?_⟩;rw[List.append_nil,List.append_nil];exact aF
 ·exact Kh ht hi u y h0 aA aB aC b hy.news aD j m p
end
theorem GD:∀(l:List Value) (cs:Array Value) (o j:Nat),o+l.length≤cs.size→(setCells cs o l)[j]?=if o≤j∧j<o+l.length then l[j-o]? else cs[j]?
 |[],cs,o,j,_=>by
  rw[if_neg (by simp only[List.length_nil];omega)];rfl
 |v::l,cs,o,j,h=>by
  rw[List.length_cons] at h;unfold setCells;rw[GD l _ (o+1) j (by simp;omega)]
  by_cases h1:o+1≤j∧j<o+1+l.length
  ·rw[if_pos h1,if_pos (by simp;omega),show j-o=(j-(o+1))+1 by omega,List.getElem?_cons_succ]
  ·rw[if_neg h1,Array.getElem?_setIfInBounds]
   by_cases a:o=j
   ·subst a;rw[if_pos rfl,if_pos (by omega),if_pos (by rw[List.length_cons];omega)];simp
   ·rw[if_neg a,if_neg (by rw[List.length_cons];omega)]
theorem Nj{sz:Nat}{b:List Value}(d:b.length=sz)(h0:0<sz):∀(k:Nat) (Bh:List (List Value)) (j:Nat),(∀c∈Bh,c.length=sz)→k<Bh.length→(Bh.set k b).flatten[j]?=if k*sz≤j∧j<k*sz+sz then b[j-k*sz]? else Bh.flatten[j]?
 |_,[],_,_,h=>by simp at h
 |0,c::Bh,j,a,_=>by
  have h1:=a c (List.mem_cons_self ..);rw[List.set_cons_zero,List.flatten_cons,List.flatten_cons]
  by_cases h:j<sz
  ·rw[if_pos (by omega),List.getElem?_append_left (by omega)];simp
  ·rw[if_neg (by omega),List.getElem?_append_right (by omega),List.getElem?_append_right (by omega),d,h1]
 |k+1,c::Bh,j,a,h=>by
  have h1:=a c (List.mem_cons_self ..);rw[List.set_cons_succ,List.flatten_cons,List.flatten_cons];have e:(k+1)*sz=k*sz+sz:=by rw[Nat.add_mul];omega
  by_cases g:j<sz
  ·rw[if_neg (by omega),List.getElem?_append_left (by omega),List.getElem?_append_left (by omega)]
  ·rw[List.getElem?_append_right (by omega),List.getElem?_append_right (by omega),h1,Nj d h0 k Bh (j-sz) (fun c hm=>a c (List.mem_cons_of_mem _ hm)) (by simpa using h)]
   by_cases f:k*sz≤j-sz∧j-sz<k*sz+sz
   ·rw[if_pos f,if_pos (by omega),show j-sz-k*sz=j-(k+1)*sz by omega]
   ·rw[if_neg f,if_neg (by omega)]
section
variable{α:Type}{e:D5 α}{n0:Nat}{w w':World}{Z Z':Nat→Prop}
theorem R2.lens:∀{Bh:List (List Value)} {xs:List α},R2 e w Z Bh xs→∀c∈Bh,c.length=e.sz
 |[],[],_=>by simp
 |c::cs,_::_,h=>by
  intro d a;rcases List.mem_cons.1 a with rfl|a
  ·exact e.len h.1
  ·exact R2.lens h.2 d a
 |[],_::_,h=>h.elim
 |_::_,[],h=>h.elim
theorem R2.free(a:∀w Z w' Z' cs x,e.R w Z cs x→e.R w' Z' cs x):∀{Bh:List (List Value)} {xs:List α},R2 e w Z Bh xs→R2 e w' Z' Bh xs
 |[],[],_=>trivial
 |_::_,_::_,h=>⟨a _ _ _ _ _ _ h.1,R2.free a h.2⟩
 |[],_::_,h=>h.elim
 |_::_,[],h=>h.elim
end
section
variable{P:Program}{a:Act}{w:World}{dst:Option Tmp}{ty:TypeId}{pos:String}{B6:Array Edge}{g:Option (Nat×Bool)}
theorem Gr{α:Type}{e:D5 α}{t:TypeId}{n0:Nat}{w w':World}{Z Z':Nat→Prop}{A:Option Addr}{c:Nat}{xs:List α}
  (h:∃Bh,R2 e w Z Bh xs∧DV w' n0 t e.sz A xs.length c Bh.flatten)(hm:Mv w Z w' Z'):AL e t n0 w' Z' A c xs:=by
 obtain⟨Bh,h1,a⟩:=h;exact⟨Bh,h1.mv hm,a⟩
end
section
variable{w0 w w':World}{b:Nat}{t:TypeId}{n z:Array Value}{c:Bool}
theorem UE(h:c=false)(a:Bk w b t z):Bk w b t (cond c n z):=by subst h;exact a
theorem UF(h:c=false)(a:Bk w b t (cond c n z)):Bk w b t z:=by subst h;exact a
theorem UG(h:c=true)(a:Bk w b t (cond c n z)):Bk w b t n:=by subst h;exact a
theorem Od(h:Ext w0 w)(g:GM b w w')(a:w0.heap.size≤b):Ext w0 w':=
 MW (Tk (Below.refl _ _|>fun k=>Tj k h) g a)
end
end Go.Proofs.YtkljfdkmjdjpfaaGreat
end
section
namespace Go.Proofs.YtkljfdkmjdjpfaaGreat
open Go.RowKit Go.WideShapes
def JH (P:Program) (fv:Value) (vs:Array Value) (w:World) (R:Value→World→Prop):Prop:=
 ∀(a:Act) (dst:Option Tmp) (f:Operand) (xs:Array Operand) (b:Array TypeId) (ty:TypeId) (pos:String) (B6:Array Edge) (g:Option (Nat×Bool)),a.eval f=fv→xs.map a.eval=vs→
  BL P ⟨dst,.call {callee:=.value f,args:=xs,argTypes:=b},ty,pos,B6,g⟩ a w R
section
variable{P:Program}{fv:Value}{vs:Array Value}{w:World}{R R':Value→World→Prop}
theorem F4{fn:FuncId}{first cap all:Array Value}(a:Bn P fn)(b:first++vs++cap=all)(h:BO P fn all w R):JH P (.func (.func fn) first cap) vs w R:=fun _ _ _ _ _ _ _ _ _ c d=>Jh a c d b h
theorem H3{l:Nat}(h:YieldAt Fence.wide 0 P l vs w (fun e w'=>∃v,e=.returned v∧R v w')):JH P (.func (.yield l) #[] #[]) vs w R:=fun _ _ _ _ _ _ _ _ _ a b=>R0 a b h
theorem JH.mono(h:JH P fv vs w R)(b:∀v w',R v w'→R' v w'):JH P fv vs w R':=fun a dst f xs c ty pos B6 g d e=>(h a dst f xs c ty pos B6 g d e).mono b
theorem FW{F:Nat→Prop}{M:List (Option Nat)}{b:Nat}(h:¬FU F M b):¬F b∧some b∉M:=⟨fun h1=>h (.inl h1),fun h1=>h (.inr h1)⟩
theorem GF{a:Act}{dst:Option Tmp}{f:Operand}{xs:Array Operand}{b:Array TypeId}{ty:TypeId}{pos:String}{B6:Array Edge}{g:Option (Nat×Bool)}(h:JH P fv vs w R)(c:a.eval f=fv)(d:xs.map a.eval=vs):
  BL P ⟨dst,.call {callee:=.value f,args:=xs,argTypes:=b},ty,pos,B6,g⟩ a w R:=h a dst f xs b ty pos B6 g c d
end
structure VL (α:Type) where
 R:World→(Nat→Prop)→Array Value→α→Prop
def v0:VL Unit:=⟨fun _ _ vs _=>vs= #[]⟩
def v1{α:Type}(a:VE α):VL α:=⟨fun w Z vs x=>∃v,vs= #[v]∧a.R w Z v x⟩
def v2{α β:Type}(a:VE α)(b:VE β):VL (α×β):=⟨fun w Z vs x=>∃v u,vs= #[v,u]∧a.R w Z v x.1∧b.R w Z u x.2⟩
def v3{α β d:Type}(a:VE α)(b:VE β)(c:VE d):VL (α×β×d):=⟨fun w Z vs x=>∃v u t,vs= #[v,u,t]∧a.R w Z v x.1∧b.R w Z u x.2.1∧c.R w Z t x.2.2⟩
def MQ:VE Unit:=⟨fun _ _ v _=>v=.tuple #[],fun h _=>h⟩
structure Cb (P:Program) {σ α β:Type} (fv:Value) (F:Nat→Prop) (n:Nat) (I:σ→World→(Nat→Prop)→Option Nat→Prop) (ea:VL α) (er:VE β) (cb:σ→α→Option (β×σ)):Prop where
 fc:fv.cells= #[fv]
 f1:fv.oneCell'=true
 ff:∀k,F k→k<n
 call:∀(s:σ) (x:α) (r:β×σ) (w:World) (Z Za:Nat→Prop) (o:Option Nat) (vs:Array Value),n≤w.heap.size→(∀b,Z b→Za b)→(∀b,Za b→¬F b∧some b≠o)→I s w Z o→ea.R w Za vs x→cb s x=some r→
  JH P fv vs w (fun v w'=>∃o',Bm (FU F [o]) w w'∧(∀k,o'=some k→(o=some k∨w.heap.size≤k)∧k<w'.heap.size)∧er.R w' (ZZ FN [] Z w.heap.size [o']) v r.1∧I r.2 w' (ZZ FN [] Z w.heap.size [o']) o')
 Ki:∀(s:σ) (w w':World) (Z Z':Nat→Prop) (o:Option Nat),I s w Z o→Mv w Z w' Z'→(∀b,FU F [o] b→w'.heap[b]?=w.heap[b]?)→I s w' Z' o
 lt:∀(s:σ) (w:World) (Z:Nat→Prop) (o:Option Nat),I s w Z o→∀k,o=some k→k<w.heap.size∧¬F k
section
variable{P:Program}{σ α β:Type}{fv:Value}{F:Nat→Prop}{n:Nat}{I:σ→World→(Nat→Prop)→Option Nat→Prop}{ea:VL α}{er:VE β}{cb:σ→α→Option (β×σ)}
variable{B:List (Option Nat)}{w0 w w':World}{Z:Nat→Prop}{L:List (Option Nat)}
theorem Cb.CZ (h:Cb P fv F n I ea er cb) {s:σ} {o:Option Nat} (d:I s w (ZZ F B Z w0.heap.size L) o) (c:Hp F B w0 L w) {D:Nat→Prop} (g:Bm D w w') (e:∀k,D k→some k∈L) (i:Nat) (hi:L[i]?=some o) (f:∀k,o=some k→¬D k) {Z':Nat→Prop} (hm:Mv w (ZZ F B Z w0.heap.size L) w' Z'):
  I s w' Z' o:=h.Ki s w w' _ _ o d hm fun b a=>by
 rcases a with a|a
 ·exact g.block b (Nat.lt_of_lt_of_le (c.ff b a) c.sz) fun j=>(c.lo b (e b j)).2.1 a
 ·rw[List.mem_singleton] at a;exact g.block b (h.lt s w _ o d b a.symm).1 (f b a.symm)
theorem Cb.me(h:Cb P fv F n I ea er cb){s:σ}{o:Option Nat}(c:I s w (ZZ F B Z w0.heap.size L) o)(d:Hp F B w0 L w)(g:Ext w w'){Z':Nat→Prop}(hm:Mv w (ZZ F B Z w0.heap.size L) w' Z'):I s w' Z' o:=
 h.Ki s w w' _ _ o c hm fun b a=>g.block b (by
  rcases a with a|a
  ·exact Nat.lt_of_lt_of_le (d.ff b a) d.sz
  ·rw[List.mem_singleton] at a;exact(h.lt s w _ o c b a.symm).1) (by simp)
theorem Cb.mz(h:Cb P fv F n I ea er cb){s:σ}{o:Option Nat}{a Z':Nat→Prop}(b:I s w a o)(hm:Mv w a w Z'):I s w Z' o:=h.Ki s w w _ _ o b hm fun _ _=>rfl
theorem Cb.mg(h:Cb P fv F n I ea er cb){s:σ}{o r:Option Nat}(d:I s w (ZZ F B Z w0.heap.size L) o)(a:Hp F B w0 L w)(g:w.grownBy w' r)(j:Nat)(b:L[j]?=some r)(i:Nat)(hi:L[i]?=some o)(c:(i==j)=false){Z':Nat→Prop}(hm:Mv w (ZZ F B Z w0.heap.size L) w' Z'):I s w' Z' o:=
 h.CZ d a (D:=fun k=>some k=r) (IH g fun _ e=>e.symm) (fun k e=>by rw[e];exact List.mem_of_getElem? b) i hi (fun k f e=>a.ap i j k (by simpa using c) (by rw[hi,f]) (by rw[b,e])) hm
theorem Cb.mm(h:Cb P fv F n I ea er cb){s:σ}{o:Option Nat}{M:List (Option Nat)}(f:I s w (ZZ F B Z w0.heap.size L) o)(c:Hp F B w0 L w)(g:Bm (FU FN M) w w')(b:List Nat)(d:Gt L b M)(i:Nat)(hi:L[i]?=some o)(e:(b.all fun j=> !Nat.beq i j)=true){Z':Nat→Prop}(hm:Mv w (ZZ F B Z w0.heap.size L) w' Z'):I s w' Z' o:=
 h.CZ f c g (fun k a=>by
  rcases a with a|a
  ·exact a.elim
  ·exact d.sub _ a) i hi (fun k a=>c.BB (F':=FN) i (by rw[hi,a]) b e d (fun _ h=>h.elim)) hm
end
end Go.Proofs.YtkljfdkmjdjpfaaGreat
end
section
namespace Go.Proofs.YtkljfdkmjdjpfaaGreat
open Go.RowKit Go.WideShapes
def Cp {α:Type} (ev:α→Value) (w:World) (r n:Nat) (L:List (List Int×α)):Prop:=
 ∃es clock,w.heap[r]?=some (.map es clock)∧es.toList.map (fun e=>(e.key,e.val))=L.map (fun p=>(Fh p.1,ev p.2))∧∀p∈L,p.1.length=n
def BF{α:Type}(L:List (List Int×α))(k:List Int):Option α:=(L.find? fun p=>k==p.1).map (·.2)
def HK{α:Type}(L:List (List Int×α))(k:List Int)(v:α):List (List Int×α):=match L.findIdx? (fun p=>k==p.1) with|some i=>L.set i (k,v)|none=>L++[(k,v)]
structure Vj{α:Type}(ev:α→Value)(w w':World)(r n:Nat):Prop where
 En:r=w.heap.size
 sz:w'.heap.size=r+1
 mp:Cp ev w' r n []
 gr:Ext w w'
structure Vk{α:Type}(ev:α→Value)(w w':World)(r n:Nat)(L:List (List Int×α)):Prop where
 sz:w'.heap.size=w.heap.size
 mp:Cp ev w' r n L
 gr:GM r w w'
section
variable{α:Type}{ev:α→Value}{w w':World}{r n b:Nat}{L:List (List Int×α)}
theorem Cp.lt(h:Cp ev w r n L):r<w.heap.size:=by obtain⟨es,c,h,_⟩:=h;exact lt_of_block h
theorem Cp.ext(h:Cp ev w r n L)(g:Ext w w'):Cp ev w' r n L:=by
 have a:=h.lt;obtain⟨es,c,h1,b⟩:=h;exact⟨es,c,(g.block r a (by simp)).trans h1,b⟩
theorem Cp.MV(h:Cp ev w r n L)(g:GM b w w')(a:r≠b):Cp ev w' r n L:=by
 have d:=h.lt;obtain⟨es,c,h1,e⟩:=h;exact⟨es,c,(g.block r d (by simpa using a)).trans h1,e⟩
end
section
variable{α:Type}{ev:α→Value}{z:α}{P:Program}{a:Act}{w:World}{dst:Option Tmp}{ty:TypeId}{pos:String}{B6:Array Edge}{g:Option (Nat×Bool)}{K E T r n:Nat}{L:List (List Int×α)}{k:List Int}
theorem I1(z:α)(a:K4 P K n)(b:k.length=n):∀(es:List MapEntry) (L:List (List Int×α)) (i:Nat),es.map (fun e=>(e.key,e.val))=L.map (fun p=>(Fh p.1,ev p.2))→(∀p∈L,p.1.length=n)→
  (Instr.findAsking K (Fh k) es i).run P w=.ok (match L.findIdx? (fun p=>k==p.1) with|some j=>some (i+j,ev ((L.getD j ([],z)).2))|none=>none) w
 |[],[],i,_,_=>by simp[Instr.findAsking]
 |[],p::L,i,h,_=>by simp at h
 |e::es,[],i,h,_=>by simp at h
 |e::es,p::L,i,h,c=>by
  simp only[List.map_cons,List.cons.injEq,Prod.mk.injEq] at h;obtain⟨⟨h1,d⟩,h3⟩:=h;have ih:=I1 z a b es L (i+1) h3 (fun q a=>c q (List.mem_cons_of_mem _ a));have he:=a w k p.1 b (c p (List.mem_cons_self ..));simp only[Instr.findAsking,Sem.run_bind,h1,he,Result.andThen_ok,List.findIdx?_cons];cases f:(k==p.1)
  ·simp only[Bool.false_eq_true,if_false,ih];cases List.findIdx? (fun p=>k==p.1) L with
   |none=>rfl
   |some j=>simp[Nat.add_assoc,Nat.add_comm 1 j]
  ·simp[d]
theorem Kj(z:α)(f:K4 P K n)(hw:JC P K)(g:k.length=n){es:List MapEntry}(h:es.map (fun e=>(e.key,e.val))=L.map (fun p=>(Fh p.1,ev p.2)))(i:∀p∈L,p.1.length=n):
  (Instr.findKey K (Fh k) es).run P w=.ok (match L.findIdx? (fun p=>k==p.1) with|some j=>some (j,ev ((L.getD j ([],z)).2))|none=>none) w:=by
 unfold JC at hw;cases hu:P.underlying K with
 |none=>simp[hu] at hw
 |some d=>
  unfold Instr.findKey;simp only[Sem.run_bind,run_underlying hu,Result.andThen_ok];cases es with
  |nil=>
   have:L=[]:=by cases L with|nil=>rfl|cons _ _=>simp at h
   subst this;simp[Instr.findNow]
  |cons e es=>
   have l:Instr.findNow d (Fh k) (e::es) 0=none:=by
    refine Oc ?_ _ _ _ (fun a b=>?_) (by simp)
    ·rw[hu] at hw;cases d<;>simp at hw<;>trivial
    ·have:(a.key,a.val)∈(e::es).map (fun e=>(e.key,e.val)):=List.mem_map.2 ⟨a,b,rfl⟩;rw[h] at this;obtain⟨p,_,c⟩:=List.mem_map.1 this;exact⟨(Co p.1).toArray,by simp only[Prod.mk.injEq] at c;exact c.1.symm⟩
   rw[l];have:=I1 z (P:=P) (w:=w) f g (e::es) L 0 h i;simpa using this
theorem PR(z:α)(L:List (List Int×α))(k:List Int):BF L k=(L.findIdx? (fun p=>k==p.1)).map (fun j=>(L.getD j ([],z)).2):=by
 unfold BF
 induction L with
 |nil=>rfl
 |cons p L ih=>
  simp only[List.find?_cons,List.findIdx?_cons];cases a:(k==p.1)
  ·simp only[Bool.false_eq_true,if_false,ih];cases List.findIdx? (fun p=>k==p.1) L<;>simp
  ·simp
theorem Oe(d:P.underlying T=some (.map K E))(g:(P.info? E).bind (·.zero)=some (ev z))(l:K4 P K n)(m:M7 P K n)(hw:JC P K)(a:k.length=n)(hm:Cp ev w r n L)(ok:Bool):
  (Instr.lookup T (.map (some r)) (Fh k) ok).run P w=.ok (if ok then .tuple #[ev ((BF L k).getD z),.bool (BF L k).isSome] else ev ((BF L k).getD z)) w:=by
 obtain⟨es,clock,o,he,q⟩:=hm;obtain⟨i,hi,b⟩:=Option.bind_eq_some_iff.1 g;have h1:=Ly (P:=P) o (by intro c e f h;cases h);have s:=Kj z (P:=P) (w:=w) l hw a he q;have h3:(zeroValue E).run P w=.ok (ev z) w:=by simp[zeroValue,typeInfo,program,Sem.run,hi,b]
 unfold Instr.lookup;simp only[Sem.run_bind,run_underlying d,Result.andThen_ok,h1,m w es.isEmpty k a,s,PR z,Sem.run_pure];cases List.findIdx? (fun p=>k==p.1) L with
 |none=>cases ok<;>simp[h3]
 |some j=>cases ok<;>simp
theorem Nk{x y:Operand}(b:P.underlying T=some (.map K E))(c:(P.info? E).bind (·.zero)=some (ev z))(d:K4 P K n)(e:M7 P K n)(hw:JC P K)(f:a.eval x=.map (some r))(hy:a.eval y=Fh k)(h:k.length=n)(hm:Cp ev w r n L):
  BL P ⟨dst,.lookup T x y true,ty,pos,B6,g⟩ a w (fun u w'=>u=.tuple #[ev ((BF L k).getD z),.bool (BF L k).isSome]∧w'=w):=
 IX (S:=Instr.lookup T (.map (some r)) (Fh k) true) (by simp only[execOp,f,hy]) (Oe b c d e hw h hm true)
theorem JI{T:TypeId}:BL P ⟨dst,.makeMap T none,ty,pos,B6,g⟩ a w (fun u w'=>∃r,u=.map (some r)∧Vj ev w w' r n):=by
 unfold BL;simp only[execOp,Option.map_none,Sem.run_bind,run_makeMap,Result.andThen_ok,Sem.run_pure];exact⟨_,rfl,rfl,by simp,⟨#[],0,heap_alloc_new w _,rfl,by simp⟩,World.grownBy_alloc w _ _⟩
theorem Nl{x y aC:Operand}{v:α}(aL:P.underlying T=some (.map K E))(aM:K4 P K n)(aN:M7 P K n)(hw:JC P K)(aO:a.eval x=.map (some r))(hy:a.eval y=Fh k)(aP:a.eval aC=ev v)(q:k.length=n)(hm:Cp ev w r n L):
  BL P ⟨dst,.mapUpdate T x y aC,ty,pos,B6,g⟩ a w (fun _ w'=>Vk ev w w' r n (HK L k v)):=by
 have s:=hm.lt;obtain⟨es,clock,aD,he,aA⟩:=hm;have h1:=Ly (P:=P) aD (by intro c e f h;cases h);have aQ:=Kj v (P:=P) (w:=w) aM hw q he aA;have d:∀o:Obj,(setObj r o).run P w=.ok () {w with heap:=w.heap.setIfInBounds r o}:=by
  intro o;unfold setObj;simp only[Sem.run,aD]
 have t:∀o:Obj,GM r w {w with heap:=w.heap.setIfInBounds r o}:=fun o=>⟨rfl,rfl,rfl,by simp,fun j _ aE=>by
  have:¬r=j:=fun e=>aE (by rw[e]);simp[Array.getElem?_setIfInBounds,this]⟩
 have hlen:es.toList.length=L.length:=by have:=congrArg List.length he;simpa using this
 unfold BL;simp only[execOp,aO,hy,aP,Sem.run_bind,Instr.mapUpdate,run_underlying aL,Result.andThen_ok,h1,aN w false k q,aQ];cases m:List.findIdx? (fun p=>k==p.1) L with
 |none=>
  simp only[d,Result.andThen_ok,Sem.run_pure];refine⟨by simp,⟨_,_,by simp[s];exact⟨rfl,rfl⟩,?_,?_⟩,t _⟩
  ·simp[HK,m,he]
  ·intro p b;simp only[HK,m,List.mem_append,List.mem_singleton] at b;rcases b with b|rfl
   ·exact aA p b
   ·exact q
 |some j=>
  have aR:=List.findIdx?_eq_some_iff_getElem.1 m;obtain⟨aF,aG,_⟩:=aR;have u:j<es.toList.length:=by omega
  have aB:(es.toList[j]).key=Fh k:=by
   have:=congrArg (fun l=>l[j]?) he;simp only[List.getElem?_map,List.getElem?_eq_getElem u,List.getElem?_eq_getElem aF,Option.map_some,Option.some.injEq,Prod.mk.injEq] at this;rw[this.1,←eq_of_beq aG]
  have aH:((es[j]?).map (·.key)).getD (Fh k)=Fh k:=by
   have aI:j<es.size:=by simpa using u
   rw[Array.getElem?_eq_getElem aI];simpa using aB
  simp only[aH,Instr.keyThatStays,M9 9999 k,if_true,Sem.run_pure,Result.andThen_ok,d,Sem.run_bind];refine⟨by simp,⟨_,_,by simp[s];exact⟨rfl,rfl⟩,?_,?_⟩,t _⟩
  ·simp only[HK,m];apply List.ext_getElem
   ·simp[hlen]
   ·intro i h3 aS;have aJ:i<es.toList.length:=by simpa using h3
    have aK:i<L.length:=by omega
    have:=congrArg (fun l=>l[i]?) he;simp only[List.getElem?_map,List.getElem?_eq_getElem aJ,List.getElem?_eq_getElem aK,Option.map_some,Option.some.injEq,Prod.mk.injEq] at this
    by_cases z:j=i
    ·subst z;simp
    ·simpa[Array.getElem_modify,z,List.getElem_set] using this
  ·intro p b;simp only[HK,m] at b;rcases List.mem_or_eq_of_mem_set b with b|rfl
   ·exact aA p b
   ·exact q
end
section
variable{α:Type}{ev:α→Value}{w w':World}{r n:Nat}{L:List (List Int×α)}
theorem Cp.of(h:Cp ev w r n L)(e:w'.heap[r]?=w.heap[r]?):Cp ev w' r n L:=by
 obtain⟨es,c,h1,a⟩:=h;exact⟨es,c,e.trans h1,a⟩
theorem Cp.gr{x:Option Nat}(h:Cp ev w r n L)(g:w.grownBy w' x)(a:some r≠x):Cp ev w' r n L:=h.of (g.block r h.lt a)
end
theorem Of{α:Type}(L:List (List Int×α))(k k':List Int)(v:α):BF (HK L k v) k'=if k'=k then some v else BF L k':=by
 induction L with
 |nil=>
  unfold BF HK
  by_cases h:k'=k
  ·subst h;simp
  ·have:(k'==k)=false:=by simpa using h
   simp[h]
 |cons p L ih=>
  unfold BF HK at*;simp only[List.findIdx?_cons];cases c:(k==p.1)
  ·simp only[Bool.false_eq_true,if_false];cases d:List.findIdx? (fun p=>k==p.1) L with
   |none=>
    rw[d] at ih;simp only[Option.map_none,List.cons_append,List.find?_cons];cases a:(k'==p.1)
    ·simpa using ih
    ·have b:k'≠k:=by
      intro e;rw[e,c] at a;cases a
     simp[b]
   |some j=>
    rw[d] at ih;simp only[Option.map_some,List.set_cons_succ,List.find?_cons];cases a:(k'==p.1)
    ·simpa using ih
    ·have b:k'≠k:=by
      intro e;rw[e,c] at a;cases a
     simp[b]
  ·have f:=eq_of_beq c;simp only[if_true,List.set_cons_zero,List.find?_cons]
   by_cases h:k'=k
   ·subst h;simp
   ·have h1:(k'==k)=false:=by simpa using h
    have g:(k'==p.1)=false:=by rw[←f];exact h1
    simp[h,h1,g]
end Go.Proofs.YtkljfdkmjdjpfaaGreat
end
