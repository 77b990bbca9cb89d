import Derived.WalkKit
import Derived.KernelRfl
import Derived.WalkSpells
import Derived.WalkLawsBesides
import Derived.Maps.AppendAt
import Derived.OrdersIn
import Derived.RangeFuncIn
import Derived.RangeFuncLeaves
import Derived.RangeFuncRecord
import Derived.RangeFuncSeq
import Derived.Scope
import Derived.DeepKeys3
import Derived.Laws.CopyRow
import Derived.Laws.OwnMore
import Derived.Laws.MakeOwn
import Derived.Laws.IdiomCopy
/-
  The contracts of the functions of the program and of the reference, and the logic that they are proved in: the base that several claims of this seat share.
-/
set_option linter.all false
section
namespace Go.Proofs.YtcdofnchafcfpaaGreat
open Go.RowKit
abbrev Env:=List (Nat×Value)
def BX(a:Act):Env→Act
 |[]=>a
 |(d,v)::l=>(BX a l).put (some d) v
def sl(a:Act)(s:Nat):Value:=a.tmps.getD s undef
def lk(b:Value):Env→Nat→Value
 |[],_=>b
 |(d,v)::l,s=>match Nat.beq d s with|true=>v|false=>lk b l s
def ev(a:Act)(l:Env):Operand→Value
 |.tmp t=>lk (sl a t) l t
 |.const v=>v
 |.global g=>.pointer (some ⟨g,0,none⟩)
 |.func f=>.func (.func f) #[] #[]
structure Ctx where
 ro:Option Nat
 ds:List Deferred
abbrev X0:Ctx:=⟨none,[]⟩
def Wd:Option Nat→Fence
 |none=>Fence.wide
 |some r=>Fence.wide.inRound r
theorem NQ(ro:Option Nat)(f:FuncId):(Wd ro).fn f:=by cases ro<;>trivial
theorem SD(ro:Option Nat):(Wd ro).depth=none:=by cases ro<;>rfl
theorem SE(ro:Option Nat){n:Nat}:(Wd ro).depth.isSome=true→1≤n:=fun h=>by rw[SD] at h;cases h
structure St(X:Ctx)(N:Nat)(a:Act)(l:Env):Prop where
 sz:a.tmps.size=N
 df:a.defers=X.ds
 lt:∀p∈l,p.1<N
theorem Jj(a:Act)(l:Env):(BX a l).tmps.size=a.tmps.size:=by
 induction l with
 |nil=>rfl
 |cons p l ih=>simp[BX,Act.put,ih]
theorem DM(a:Act)(l:Env):(BX a l).defers=a.defers:=by
 induction l with
 |nil=>rfl
 |cons p l ih=>simp[BX,Act.put,ih]
theorem St.cons{X:Ctx}{N:Nat}{a:Act}{l:Env}(h:St X N a l){d:Nat}(b:d<N)(v:Value):St X N a ((d,v)::l):=
 ⟨h.sz,h.df,fun p hp=>by
  rcases List.mem_cons.1 hp with rfl|hp
  ·exact b
  ·exact h.lt p hp⟩
theorem Jy{X:Ctx}{N:Nat}{a:Act}:∀{l:Env},St X N a l→∀s,sl (BX a l) s=lk (sl a s) l s
 |[],_,_=>rfl
 |(d,v)::l,h,s=>by
  have c:St X N a l:=⟨h.sz,h.df,fun p hp=>h.lt p (List.mem_cons_of_mem _ hp)⟩;have ih:=Jy c s;have e:d<N:=h.lt (d,v) (List.mem_cons_self ..);unfold sl at*;simp only[BX,Act.put,lk];cases hb:Nat.beq d s with
  |true=>
   obtain rfl:d=s:=Nat.eq_of_beq_eq_true hb;simp[Jj,h.sz,e]
  |false=>
   have b:d≠s:=Nat.ne_of_beq_eq_false hb;rw[←ih];simp[Array.getElem?_setIfInBounds_ne b]
theorem T4{X:Ctx}{N:Nat}{a:Act}{l:Env}(h:St X N a l)(x:Operand):(BX a l).eval x=ev a l x:=by
 cases x with
 |tmp t=>exact Jy h t
 |_=>rfl
theorem ee{X:Ctx}{N:Nat}{a:Act}{l:Env}{x:Operand}{v:Value}(h:St X N a l)(b:ev a l x=v):(BX a l).eval x=v:=(T4 h x).trans b
def BW (P:Program) (o:Oper) (a:Act) (w:World) (R:Value→World→Prop):Prop:=
 match (execOp a.eval o).run P w with
 |.ok (.value v) w'=>R v w'
 |.ok .skip w'=>R undef w'
 |.ok (.enter f args) w'=>Calls P f args w' (fun e Bi=>∃v,e=.returned v∧R v Bi)
 |.ok (.round l f tmps assign body) w'=>RoundIn Fence.wide 0 P l f tmps assign body w' (fun e Bi=>∃v,e=.returned v∧R v Bi)
 |_=>False
theorem BW.T5{P:Program}{o:Oper}{a:Act}{w:World}{R:Value→World→Prop}(h:BW P o a w R):∀c,o.op≠.defer c:=by
 intro c hc;unfold BW at h;have he:execOp a.eval o=(do pure (.defer (←resolve a.eval c o.type))):=by
  unfold execOp;rw[hc]
 rw[he,Sem.run_bind] at h;cases b:(resolve a.eval c o.type).run P w<;>simp[b,Result.andThen] at h
theorem BW.wp{P:Program}{ro:Option Nat}{o:Oper}{a:Act}{w:World}{R:Value→World→Prop}{K:Act→World→Prop}{Q:Exit→Act→World→Prop}
  (h:BW P o a w R)(hk:∀v w',R v w'→K (a.put o.dst v) w'):o.wpIn (Wd ro) 0 P a w K Q:=by
 refine⟨fun f _=>NQ ro f,?_⟩;rw[Oper.semAt_eq _ _ _ h.T5];unfold BW at h;generalize (execOp a.eval o).run P w=r at*;cases r with
 |ok n w'=>
  cases n<;>simp only[Oper.uponIn] at h⊢
  case value=>exact hk _ _ h
  case skip=>exact hk _ _ h
  case enter f args=>
   refine⟨SE ro,?_⟩;have b:CallsIn Fence.wide (0-1) P f args w' (fun e Bi=>∃v,e=.returned v∧R v Bi):=callsIn_wide.2 h;have d:CallsIn (Wd ro) (0-1) P f args w' (fun e Bi=>∃v,e=.returned v∧R v Bi):=by cases ro<;>exact b
   refine d.mono ?_;rintro e Bi ⟨v,rfl,c⟩;exact hk _ _ c
  case round l f tmps assign body=>
   refine⟨SE ro,?_⟩;have b:RoundIn (Wd ro) (0-1) P l f tmps assign body w' (fun e Bi=>∃v,e=.returned v∧R v Bi):=by cases ro<;>exact h
   refine b.mono ?_;rintro e Bi ⟨v,rfl,c⟩;exact hk _ _ c
 |halt=>exact h.elim
theorem BW.mono{P:Program}{o:Oper}{a:Act}{w:World}{R R':Value→World→Prop}(h:BW P o a w R)(b:∀v w',R v w'→R' v w'):BW P o a w R':=by
 unfold BW at*;generalize (execOp a.eval o).run P w=r at*;cases r with
 |ok n w'=>
  cases n<;>simp only[] at h⊢
  case value=>exact b _ _ h
  case skip=>exact b _ _ h
  case enter f args=>
   refine h.mono ?_;rintro e Bi ⟨v,rfl,c⟩;exact⟨v,rfl,b _ _ c⟩
  case round=>
   refine h.mono ?_;rintro e Bi ⟨v,rfl,c⟩;exact⟨v,rfl,b _ _ c⟩
 |halt=>exact h.elim
def WL(P:Program)(X:Ctx)(N:Nat)(ops:Array Oper)(Q:Exit→Act→World→Prop)(rest:List Oper)(a:Act)(l:Env)(w:World):Prop:=
 St X N a l→wpListIn (Wd X.ro) 0 P ops Q rest (BX a l) w
section
variable{P:Program}{X:Ctx}{N:Nat}{ops:Array Oper}{Q:Exit→Act→World→Prop}{rest:List Oper}{a:Act}{l:Env}{w:World}{o:Oper}
theorem Tw{R:Value→World→Prop}{d:Nat}(b:o.guard=none)(c:o.dst=some d)(e:d<N)
  (f:St X N a l→BW P o (BX a l) w R)(hk:∀v w',R v w'→WL P X N ops Q rest a ((d,v)::l) w'):WL P X N ops Q (o::rest) a l w:=fun s=>
 wpListIn_plain b fun K hK=>(f s).wp fun v w' g=>hK _ _ (by rw[c];exact hk v w' g (s.cons e v))
theorem Bv{R:Value→World→Prop}(b:o.guard=none)(c:o.dst=none)
  (d:St X N a l→BW P o (BX a l) w R)(hk:∀v w',R v w'→WL P X N ops Q rest a l w'):WL P X N ops Q (o::rest) a l w:=fun s=>
 wpListIn_plain b fun K hK=>(d s).wp fun v w' e=>hK _ _ (by rw[c];exact hk v w' e s)
theorem V0 {d:Nat} {v:Value} {w':World} (b:o.guard=none) (c:o.dst=some d) (e:d<N)
  (f:St X N a l→BW P o (BX a l) w (fun u Bi=>u=v∧Bi=w')) (hk:WL P X N ops Q rest a ((d,v)::l) w'):WL P X N ops Q (o::rest) a l w:=
 Tw b c e f (by rintro _ _ ⟨rfl,rfl⟩;exact hk)
theorem Mt{j d:Nat}{b:Bool}(s:St X N a l)(f:(ops[j]?).bind (·.dst)=some d)(g:ev a l (.tmp d)=.bool b):yielded ops (BX a l).tmps j=some b:=by
 have h:=ee s g;unfold yielded;simp only[f,Option.bind_some];have c:(BX a l).tmps.getD d undef=.bool b:=h;rw[Array.getD_eq_getD_getElem?] at c;cases e:(BX a l).tmps[d]? with
 |none=>rw[e] at c;simp[undef] at c
 |some u=>rw[e] at c;simp at c;rw[c]
theorem Q6 {R:Value→World→Prop} {d j dj:Nat} {b:Bool} (c:o.guard=some (j,b)) (e:(ops[j]?).bind (·.dst)=some dj) (f:ev a l (.tmp dj)=.bool b)
  (g:o.dst=some d) (h:d<N) (i:St X N a l→BW P o (BX a l) w R) (hk:∀v w',R v w'→WL P X N ops Q rest a ((d,v)::l) w'):WL P X N ops Q (o::rest) a l w:=fun s=>by
 have hw:Region.wanted o (yielded ops (BX a l).tmps)=true:=by
  unfold Region.wanted;rw[c];simp[Mt s e f]
 exact wpListIn_step fun K hK=>by rw[if_pos hw];exact(i s).wp fun v w' k=>hK _ _ (by rw[g];exact hk v w' k (s.cons h v))
theorem T6{d j dj:Nat}{b:Bool}{v:Value}{w':World}(c:o.guard=some (j,b))(e:(ops[j]?).bind (·.dst)=some dj)(f:ev a l (.tmp dj)=.bool b)
  (g:o.dst=some d)(h:d<N)(i:St X N a l→BW P o (BX a l) w (fun u Bi=>u=v∧Bi=w'))(hk:WL P X N ops Q rest a ((d,v)::l) w'):WL P X N ops Q (o::rest) a l w:=
 Q6 c e f g h i (by rintro _ _ ⟨rfl,rfl⟩;exact hk)
theorem Pv {d j dj:Nat} {b c:Bool} (e:o.guard=some (j,b)) (g:(ops[j]?).bind (·.dst)=some dj) (h:ev a l (.tmp dj)=.bool c) (hc:c≠b)
  (i:o.dst=some d) (k:d<N) (hk:WL P X N ops Q rest a ((d,undef)::l) w):WL P X N ops Q (o::rest) a l w:=fun s=>by
 have hw:Region.wanted o (yielded ops (BX a l).tmps)=false:=by
  unfold Region.wanted;rw[e];simp[Mt s g h,hc]
 exact wpListIn_step fun K hK=>by rw[if_neg (by rw[hw];simp)];exact⟨fun f _=>NQ X.ro f,hK _ _ (by rw[i];exact hk (s.cons k undef))⟩
end
def CW(P:Program)(ro:Option Nat)(c:Code)(Q:Exit→Act→World→Prop)(a:Act)(w:World):Prop:=c.wpIn (Wd ro) 0 P Q a w
def CC(P:Program)(X:Ctx)(N:Nat)(c:Code)(Q:Exit→Act→World→Prop)(a:Act)(l:Env)(w:World):Prop:=
 St X N a l→CW P X.ro c Q (BX a l) w
section
variable{P:Program}{X:Ctx}{N:Nat}{Q:Exit→Act→World→Prop}{a:Act}{l:Env}{w:World}
def LV (X:Ctx) (N:Nat) (Q:Exit→Act→World→Prop) (e:Exit) (a:Act) (l:Env) (w:World):Prop:=St X N a l→Q e (BX a l) w
theorem Ag{x y:Code}(h:CC P X N x (Exit.then (CW P X.ro y Q) Q) a l w):CC P X N (.seq x y) Q a l w:=fun s=>wpIn_seq (h s)
theorem Aj{id:Nat}{L:List Oper}(h:WL P X N L.toArray Q L a l w):CC P X N (.region id L.toArray false) Q a l w:=fun s=>wpIn_region_lit (h s)
theorem AZ{ops:Array Oper}(h:LV X N Q .normal a l w):WL P X N ops Q [] a l w:=fun s=>wpListIn_nil (h s)
theorem Cw(h:LV X N Q .normal a l w):CC P X N .skip Q a l w:=fun s=>wpIn_skip (h s)
theorem Ly{id:Nat}(h:LV X N Q (.exit id) a l w):CC P X N (.exit id) Q a l w:=fun s=>wpIn_exit (h s)
theorem Am(h:LV X N Q .ret a l w):CC P X N .ret Q a l w:=fun s=>wpIn_ret (h s)
theorem AL{id:Nat}{c:Code}(h:CC P X N c (Exit.inBlock id Q) a l w):CC P X N (.block id c) Q a l w:=fun s=>wpIn_block (h s)
theorem Ak{c:Operand}{x y:Code}{t:Bool}(hc:ev a l c=.bool t)(h:t=true)(b:CC P X N x Q a l w):CC P X N (.cond c x y) Q a l w:=fun s=>wpIn_cond_true (by rw[ee s hc,h]) (b s)
theorem Au{c:Operand}{x y:Code}{t:Bool}(hc:ev a l c=.bool t)(h:t=false)(hf:CC P X N y Q a l w):CC P X N (.cond c x y) Q a l w:=fun s=>wpIn_cond_false (by rw[ee s hc,h]) (hf s)
theorem BI {y:Code} (h:CC P X N y Q a l w):LV X N (Exit.then (CW P X.ro y Q) Q) .normal a l w:=fun s=>h s
theorem G2{K:Act→World→Prop}{id:Nat}(h:LV X N Q (.exit id) a l w):LV X N (Exit.then K Q) (.exit id) a l w:=h
theorem AN{K:Act→World→Prop}(h:LV X N Q .ret a l w):LV X N (Exit.then K Q) .ret a l w:=h
theorem HA{id:Nat}(h:LV X N Q .normal a l w):LV X N (Exit.inBlock id Q) .normal a l w:=h
theorem IU{id:Nat}(h:LV X N Q .ret a l w):LV X N (Exit.inBlock id Q) .ret a l w:=h
theorem Bc{id:Nat}(h:LV X N Q .normal a l w):LV X N (Exit.inBlock id Q) (.exit id) a l w:=fun s=>by
 show(if id=id then Q .normal _ _ else Q (.exit id) _ _);rw[if_pos rfl];exact h s
theorem KP{id k:Nat}(b:k≠id)(h:LV X N Q (.exit k) a l w):LV X N (Exit.inBlock id Q) (.exit k) a l w:=fun s=>by
 show(if k=id then Q .normal _ _ else Q (.exit k) _ _);rw[if_neg b];exact h s
theorem Q7 {c:Code} (I:Nat→Act→World→Prop) (m:Nat) (h0:I m a w)
  (t:∀m a w,I m a w→CW P X.ro c (Exit.then (fun a' w'=>∃j,j<m∧I j a' w') Q) a w):CW P X.ro (Code.loop c) Q a w:=by
 intro b k cs p hb i;have key:∀n a w,I n a w→∃e a' w',Q e a' w'∧ArrivesIn (Machine.fenced P (Wd X.ro)) P (lone (b.atR a (.code c::.inLoop c::k)) cs w) b k cs e a' w':=by
  intro n
  induction n using Nat.strongRecOn with
  |_ n ih=>
   intro a w u;obtain⟨e,g,h,f,d⟩:=t n a w u b (.inLoop c::k) cs p hb i;cases e with
   |normal=>
    obtain⟨j,q,r⟩:=f;obtain⟨v,y,z,s,o⟩:=ih j q g h r;exact⟨v,y,z,s,.of_steps (StepsIn.trans d (.one (fenced_calm hb i rfl) stepR_inLoop)) o⟩
   |exit id=>exact⟨_,g,h,f,.pass (x:=.inLoop c) rfl (fun _ _=>.inl (by simp)) d⟩
   |goto l=>exact⟨_,g,h,f,.pass (x:=.inLoop c) rfl (fun _ _=>.inl (by simp)) d⟩
   |ret=>exact⟨_,g,h,f,.pass (x:=.inLoop c) rfl (fun _ _=>.inl (by simp)) d⟩
   |panic ch=>exact⟨_,g,h,f,.pass (x:=.inLoop c) rfl (fun _ _=>.inl (by simp)) d⟩
   |outgrown=>exact⟨_,g,h,f,.pass (x:=.inLoop c) rfl (fun _ _=>.inl (by simp)) d⟩
 obtain⟨e,a',w',f,d⟩:=key m a w h0;exact⟨e,a',w',f,.of_steps (.one (fenced_calm hb i rfl) stepR_loop) d⟩
theorem BY{c:Code}(I:Nat→Act→World→Prop)(m:Nat)(h0:St X N a l→I m (BX a l) w)
  (d:∀m a w,I m a w→CW P X.ro c (Exit.then (fun a' w'=>∃b,b<m∧I b a' w') Q) a w):CC P X N (.loop c) Q a l w:=fun s=>
 Q7 I m (h0 s) d
theorem SF {c:Code} (b:a.tmps.size=N) (d:a.defers=X.ds) (h:CC P X N c Q a [] w):CW P X.ro c Q a w:=
 h ⟨b,d,fun _ hp=>by cases hp⟩
theorem By{I:Nat→Act→World→Prop}{m:Nat}(b:Nat)(c:b<m)(h:St X N a l→I b (BX a l) w):LV X N (Exit.then (fun a' w'=>∃b,b<m∧I b a' w') Q) .normal a l w:=
 fun s=>⟨b,c,h s⟩
end
def Bk (w:World) (b:Nat) (t:TypeId) (cs:Array Value):Prop:=w.heap[b]?=some (.cells cs t (0,0))
abbrev Ext (w w':World):Prop:=w.grownBy w' none
abbrev If (b:Nat) (w w':World):Prop:=w.grownBy w' (some b)
structure J1(w w':World)(b:Nat)(t:TypeId)(cs:Array Value):Prop where
 Dl:b=w.heap.size
 sz:w'.heap.size=b+1
 bk:Bk w' b t cs
 gr:Ext w w'
structure NW(w w':World)(b:Nat)(t:TypeId)(cs:Array Value):Prop where
 sz:w'.heap.size=w.heap.size
 bk:Bk w' b t cs
 gr:If b w w'
section
variable{w w':World}{b b':Nat}{t:TypeId}{cs:Array Value}
theorem Bk.lt(h:Bk w b t cs):b<w.heap.size:=lt_of_block h
theorem Bk.cell(h:Bk w b t cs)(i:Nat):w.cell? ⟨b,i,none⟩=cs[i]?:=cell_of_row w b i cs t (0,0) h
theorem Bk.frozen(h:Bk w b t cs)(i:Nat):w.frozen? ⟨b,i,none⟩=false:=frozen_of_row w b i cs t h
theorem Bk.ext(h:Bk w b t cs)(g:Ext w w'):Bk w' b t cs:=(g.block b h.lt (by simp)).trans h
theorem Bk.NX(h:Bk w b t cs)(g:If b' w w')(a:b≠b'):Bk w' b t cs:=(g.block b h.lt (by simpa using a)).trans h
theorem KV(h:Ext w w'):Below w.heap.size w w':=⟨h.os,h.tape,h.output,h.size,fun k hk=>h.block k hk (by simp)⟩
theorem Ext.refl(w:World):Ext w w:=World.grownBy.refl w _
theorem Ext.trans{a b c:World}(h:Ext a b)(k:Ext b c):Ext a c:=World.grownBy.trans h k
theorem Js(w:World)(t:TypeId)(cs:Array Value):J1 w (w.alloc (.cells cs t)) w.heap.size t cs:=
 ⟨rfl,by simp,heap_alloc_new w _,World.grownBy_alloc w _ _⟩
def Rd (w:World) (lo hi:Nat) (A:Option Addr) (cs:List Value):Prop:=
 hi≤w.heap.size∧(cs=[]∨∃b o,A=some ⟨b,o,none⟩∧lo≤b∧b<hi∧∀j u,cs[j]?=some u→w.cell? ⟨b,o+j,none⟩=some u)
section
variable{lo hi:Nat}{A:Option Addr}{cs:List Value}
theorem Rd.le(h:Rd w lo hi A cs):hi≤w.heap.size:=h.1
theorem Rd.ext(h:Rd w lo hi A cs)(g:Ext w w'):Rd w' lo hi A cs:=
 ⟨Nat.le_trans h.1 g.size,h.2.imp id fun⟨b,o,d,hl,c,hc⟩=>⟨b,o,d,hl,c,fun j u hu=>
  (World.cell?_of_block (a:=⟨b,o+j,none⟩) (g.block b (Nat.lt_of_lt_of_le c h.1) (by simp))).trans (hc j u hu)⟩⟩
theorem Rd.NX(h:Rd w lo hi A cs)(g:If b' w w')(e:b'<lo∨hi≤b'):Rd w' lo hi A cs:=
 ⟨Nat.le_trans h.1 g.size,h.2.imp id fun⟨b,o,d,hl,c,hc⟩=>⟨b,o,d,hl,c,fun j u hu=>
  (World.cell?_of_block (a:=⟨b,o+j,none⟩) (g.block b (Nat.lt_of_lt_of_le c h.1) (by simp;omega))).trans (hc j u hu)⟩⟩
theorem Rd.mono{c a:Nat}(h:Rd w lo hi A cs)(hl:c≤lo)(e:hi≤a)(hs:a≤w.heap.size):Rd w c a A cs:=
 ⟨hs,h.2.imp id fun⟨b,o,d,h1,h2,hc⟩=>⟨b,o,d,by omega,by omega,hc⟩⟩
theorem Rd.wide(h:Rd w lo hi A cs):Rd w 0 w.heap.size A cs:=h.mono (Nat.zero_le _) h.le (Nat.le_refl _)
theorem Rd.nil{A:Option Addr}(a:hi≤w.heap.size):Rd w lo hi A []:=⟨a,.inl rfl⟩
theorem Rd.NY{w0:World}(h:Rd w0 lo hi A cs){B:Nat}(g:Below B w0 w')(c:hi≤B):Rd w' lo hi A cs:=
 ⟨Nat.le_trans h.1 g.size,h.2.imp id fun⟨b,o,d,hl,a,hc⟩=>⟨b,o,d,hl,a,fun j u hu=>
  (g.cell (p:=⟨b,o+j,none⟩) (Nat.lt_of_lt_of_le a c)).trans (hc j u hu)⟩⟩
theorem Bk.NY{w0:World}{xs:Array Value}(h:Bk w0 b t xs){B:Nat}(g:Below B w0 w')(a:b<B):Bk w' b t xs:=(g.block b a).trans h
theorem Rd.cells(h:Rd w lo hi A cs){b o:Nat}(c:A=some ⟨b,o,none⟩):∀j u,cs[j]?=some u→w.cell? ⟨b,o+j,none⟩=some u:=by
 rcases h.2 with rfl|⟨b',o',a,_,_,hc⟩
 ·simp
 ·rw[c] at a;injection a with a
  injection a with h1 h2
  subst h1;subst h2;exact hc
theorem Rd.at_ (h:Rd w lo hi A cs) {k:Nat} {u:Value} (hu:cs[k]?=some u):∃b o,A=some ⟨b,o,none⟩∧lo≤b∧b<hi∧∀j u,cs[j]?=some u→w.cell? ⟨b,o+j,none⟩=some u:=by
 rcases h.2 with rfl|h
 ·simp at hu
 ·exact h
end
end
section
variable{P:Program}{a:Act}{w:World}{dst:Option Tmp}{ty:TypeId}{pos:String}{BR:Array Edge}{g:Option (Nat×Bool)}
theorem CH{o:Oper}{v:Value}{w':World}(h:(execOp a.eval o).run P w=.ok (.value v) w'):BW P o a w (fun u Bi=>u=v∧Bi=w'):=by
 unfold BW;rw[h];exact⟨rfl,rfl⟩
theorem Ba{x:Operand}{v:Value}(b:a.eval x=v):BW P ⟨dst,.move x,ty,pos,BR,g⟩ a w (fun u w'=>u=v∧w'=w):=⟨b,rfl⟩
theorem I8{x:Operand}{v:Value}(b:a.eval x=v):BW P ⟨dst,.assign x,ty,pos,BR,g⟩ a w (fun u w'=>u=v∧w'=w):=⟨b,rfl⟩
theorem Bz{c x y:Operand}{t:Bool}{v:Value}(hc:a.eval c=.bool t)(b:t=true)(d:a.eval x=v):BW P ⟨dst,.pick c x y,ty,pos,BR,g⟩ a w (fun u w'=>u=v∧w'=w):=
 CH (by subst b;simp[execOp,hc,asBool,d])
theorem Bt{c x y:Operand}{t:Bool}{v:Value}(hc:a.eval c=.bool t)(b:t=false)(d:a.eval y=v):BW P ⟨dst,.pick c x y,ty,pos,BR,g⟩ a w (fun u w'=>u=v∧w'=w):=
 CH (by subst b;simp[execOp,hc,asBool,d])
theorem BZ{e:TypeId}{z:Value}{cs:Array Value}(d:(P.info? e).bind (·.zero)=some z)(hc:z.cells=cs):
  BW P ⟨dst,.alloc e,ty,pos,BR,g⟩ a w (fun u w'=>∃b,u=.pointer (some ⟨b,0,none⟩)∧J1 w w' b e cs):=by
 have h:(Instr.alloc e true (.tuple #[])).run P w=.ok (.pointer (some ⟨w.heap.size,0,none⟩)) (w.alloc (.cells cs e)):=by
  obtain⟨i,hi,c⟩:=Option.bind_eq_some_iff.1 d;simp[Instr.alloc,zeroValue,typeInfo,hi,c,newVar,newRow,newObj,program,Sem.run,hc]
 unfold BW;simp only[execOp,Sem.run_bind,h,Result.andThen_ok,Sem.run_pure];exact⟨_,rfl,Js w e cs⟩
theorem BB{e:TypeId}{x:Operand}{v:Value}{cs:Array Value}(c:a.eval x=v)(hc:v.cells=cs):
  BW P ⟨dst,.box e x,ty,pos,BR,g⟩ a w (fun u w'=>∃b,u=.pointer (some ⟨b,0,none⟩)∧J1 w w' b e cs):=by
 have h:(Instr.box e (a.eval x)).run P w=.ok (.pointer (some ⟨w.heap.size,0,none⟩)) (w.alloc (.cells cs e)):=by
  simp[Instr.box,newVar,newRow,newObj,Sem.run,c,hc]
 unfold BW;simp only[execOp,Sem.run_bind,h,Result.andThen_ok,Sem.run_pure];exact⟨_,rfl,Js w e cs⟩
theorem Jd{o:Oper}{S:Sem Value}{v:Value}{w':World}(b:execOp a.eval o=(do pure (.value (←S))))(h:S.run P w=.ok v w'):BW P o a w (fun u Bi=>u=v∧Bi=w'):=
 CH (by rw[b];simp[h])
theorem DV{t:TypeId}{ps:Array (Nat×Operand)}{vs:Array (Nat×Value)}{v:Value}(hp:ps.map (fun(i,x)=>(i,a.eval x))=vs)(h:(Instr.build t vs).run P w=.ok v w):
  BW P ⟨dst,.build t ps,ty,pos,BR,g⟩ a w (fun u w'=>u=v∧w'=w):=Jd (S:=Instr.build t vs) (by simp only[execOp];rw[hp]) h
theorem BT{t e:TypeId}{n:Nat}{ps:Array (Nat×Operand)}{vs:Array (Nat×Value)}{cs:Array Value}(hp:ps.map (fun(i,x)=>(i,a.eval x))=vs)
  (h:(Instr.buildSlice t n vs).run P w=.ok (.slice (some ⟨w.heap.size,0,none⟩) n n) (w.alloc (.cells cs e))):
  BW P ⟨dst,.buildSlice t n ps,ty,pos,BR,g⟩ a w (fun u w'=>∃b,u=.slice (some ⟨b,0,none⟩) n n∧J1 w w' b e cs):=
 (Jd (S:=Instr.buildSlice t n vs) (by simp only[execOp];rw[hp]) h).mono fun u w' ⟨hu,hw⟩=>⟨_,hu,by rw[hw];exact Js w e cs⟩
def E7(P:Program)(t:TypeId)(n:Nat):Prop:=(match P.underlying t with|some (.struct _)|some (.array ..)=>true|_=>false)=true∧(P.info? t).map (·.size)=some n
def One(P:Program)(t:TypeId):Prop:=(match P.underlying t with|some (.struct _)|some (.array ..)|none=>false|_=>true)=true∧(P.info? t).map (·.size)=some 1
theorem Pe{t:TypeId}{n:Nat}(h:E7 P t n):(isAgg t).run P w=.ok true w:=by
 unfold isAgg;cases hu:P.underlying t with
 |none=>simp[E7,hu] at h
 |some d=>cases d<;>simp[E7,hu] at h<;>simp[underlying,program,Sem.run,hu]
theorem LW{t:TypeId}(h:One P t):(isAgg t).run P w=.ok false w:=by
 unfold isAgg;cases hu:P.underlying t with
 |none=>simp[One,hu] at h
 |some d=>cases d<;>simp[One,hu] at h<;>simp[underlying,program,Sem.run,hu]
theorem JC{t:TypeId}{n:Nat}(h:(P.info? t).map (·.size)=some n):(sizeOf t).run P w=.ok n w:=by
 obtain⟨i,hi,hs⟩:=Option.map_eq_some_iff.1 h;simp[sizeOf,typeInfo,program,Sem.run,hi,hs]
theorem Gf(b o j:Nat):(⟨b,o,none⟩:Addr).add j=⟨b,o+j,none⟩:=by unfold Addr.add;split<;>simp_all
theorem Gr{t:TypeId}{ad:Addr}{v:Value}(h:One P t)(hc:w.cell? ad=some v):(loadVar t ad).run P w=.ok v w:=by
 simp[loadVar,LW h,load,Sem.run,hc]
theorem KW{t:TypeId}{n b o:Nat}{cs:List Value}(h:E7 P t n)(hn:cs.length=n)(hc:∀j u,cs[j]?=some u→w.cell? ⟨b,o+j,none⟩=some u):(loadVar t ⟨b,o,none⟩).run P w=.ok (.agg cs.toArray) w:=by
 have h1:=run_loadCells_list (P:=P) (w:=w) ⟨b,o,none⟩ cs (fun j v a=>by rw[Gf];exact hc j v a);subst hn;simp[loadVar,Pe h,JC h.2,h1]
theorem Mu{t:TypeId}{x:Operand}{ad:Addr}{v:Value}(b:a.eval x=.pointer (some ad))(h:(loadVar t ad).run P w=.ok v w):BW P ⟨dst,.load t x,ty,pos,BR,g⟩ a w (fun u w'=>u=v∧w'=w):=
 Jd (S:=Instr.loadAt t (a.eval x)) rfl (by simp[Instr.loadAt,Instr.sureAddr,b,h])
theorem Ah {t c:TypeId} {x:Operand} {b o:Nat} {cs:Array Value} {v:Value} (h:One P t) (d:a.eval x=.pointer (some ⟨b,o,none⟩)) (hb:Bk w b c cs) (hc:cs.toList[o]?=some v):
  BW P ⟨dst,.load t x,ty,pos,BR,g⟩ a w (fun u w'=>u=v∧w'=w):=Mu d (Gr h ((hb.cell o).trans (by simpa using hc)))
theorem AQ {t c:TypeId} {x:Operand} {n b o:Nat} {cs:Array Value} {l:List Value} (h:E7 P t n) (d:a.eval x=.pointer (some ⟨b,o,none⟩)) (hb:Bk w b c cs) (hl:(cs.toList.drop o).take n=l) (hn:l.length=n):
  BW P ⟨dst,.load t x,ty,pos,BR,g⟩ a w (fun u w'=>u=.agg l.toArray∧w'=w):=Mu d (KW h hn fun j u hu=>by
 rw[hb.cell];subst hl;rw[List.getElem?_take] at hu;split at hu
 ·simpa using hu
 ·cases hu)
theorem Nq {t:TypeId} {x:Operand} {b o k:Nat} {cs:List Value} {v:Value} (h:One P t) (c:a.eval x=.pointer (some ⟨b,o+k,none⟩)) (d:∀j u,cs[j]?=some u→w.cell? ⟨b,o+j,none⟩=some u) (hc:cs[k]?=some v):
  BW P ⟨dst,.load t x,ty,pos,BR,g⟩ a w (fun u w'=>u=v∧w'=w):=Mu c (Gr h (d k v hc))
theorem Qt {t:TypeId} {x:Operand} {n b o k:Nat} {cs l:List Value} (h:E7 P t n) (c:a.eval x=.pointer (some ⟨b,o+k,none⟩)) (d:∀j u,cs[j]?=some u→w.cell? ⟨b,o+j,none⟩=some u)
  (hl:(cs.drop k).take n=l) (hn:l.length=n):BW P ⟨dst,.load t x,ty,pos,BR,g⟩ a w (fun u w'=>u=.agg l.toArray∧w'=w):=Mu c (KW h hn fun j u hu=>by
 rw[Nat.add_assoc];refine d _ _ ?_;subst hl;rw[List.getElem?_take] at hu;split at hu
 ·simpa using hu
 ·cases hu)
def setCells(cs:Array Value)(o:Nat):List Value→Array Value
 |[]=>cs
 |v::l=>setCells (cs.setIfInBounds o v) (o+1) l
theorem KQ(o:Nat):∀(l:List Value) (cs:Array Value) (o:Nat),(setCells cs o l).size=cs.size
 |[],_,_=>rfl
 |v::l,cs,o=>by simp[setCells,KQ o l]
theorem Jp{b:Nat}{t:TypeId}{o:Nat}:∀(l:List Value) (i:Nat) (cs:Array Value) (w:World),Bk w b t cs→o+i+l.length≤cs.size→(∀u∈l,u.oneCell'=true)→
  ∃w',(storeCells ⟨b,o,none⟩ l i).run P w=.ok () w'∧NW w w' b t (setCells cs (o+i) l)
 |[],i,cs,w,h,_,_=>⟨w,by simp[storeCells],rfl,h,World.grownBy.refl w _⟩
 |v::l,i,cs,w,h,hle,h1=>by
  have c:o+i<cs.size:=by simp at hle;omega
  have f:=h1 v (List.mem_cons_self ..);have a:w.cell? ⟨b,o+i,none⟩=some cs[o+i]:=by rw[h.cell];simp[c]
  have d:(store ((⟨b,o,none⟩:Addr).add i) v).run P w=.ok () (w.setCell ⟨b,o+i,none⟩ v):=by
   rw[Gf];cases v<;>simp[Value.oneCell'] at f<;>simp[store,Sem.run,a,h.frozen]
  have hb:Bk (w.setCell ⟨b,o+i,none⟩ v) b t (cs.setIfInBounds (o+i) v):=by
   unfold Bk at h⊢;simp[World.setCell,Array.getElem?_modify,h]
  obtain⟨w',g,s1,s2,j⟩:=Jp (o:=o) l (i+1) _ _ hb (by simp at hle⊢;omega) (fun u hu=>h1 u (List.mem_cons_of_mem _ hu));refine⟨w',?_,by rw[s1];simp,s2,?_⟩
  ·simp only[storeCells,Sem.run_bind,d,Result.andThen_ok,g]
  ·have g1:If b w (w.setCell ⟨b,o+i,none⟩ v):=⟨rfl,rfl,rfl,by simp,fun k _ e=>Below.heap_setCell w ⟨b,o+i,none⟩ v k (by simpa using e)⟩;exact World.grownBy.trans g1 j
theorem Bj{t d:TypeId}{x y:Operand}{n b o:Nat}{v:Value}{cs Cn:Array Value}{l:List Value}(f:a.eval x=.pointer (some ⟨b,o,none⟩))(i:a.eval y=v)(hs:(P.info? t).map (·.size)=some n)(hb:Bk w b d cs)
  (hl:v.cells.toList=l)(hn:l.length=n)(hle:o+n≤cs.size)(h1:∀u∈l,u.oneCell'=true)(hc:setCells cs o l=Cn):
  BW P ⟨dst,.store t x y,ty,pos,BR,g⟩ a w (fun _ w'=>NW w w' b d Cn):=by
 obtain⟨w',j,c⟩:=Jp (P:=P) (t:=d) (o:=o) l 0 cs w hb (by omega) h1;have e:v.cells.size=n:=by rw[←hn,←hl];simp
 have h:(Instr.storeAt t (a.eval x) (a.eval y)).run P w=.ok () w':=by
  simp[Instr.storeAt,Instr.sureAddr,f,i,storeVar,JC hs,e,hl,j]
 unfold BW;simp only[execOp,Sem.run_bind,h,Result.andThen_ok,Sem.run_pure];rw[Nat.add_zero,hc] at c;exact c
theorem BS{x:Operand}{ad:Addr}(b:a.eval x=.pointer (some ad)):BW P ⟨dst,.nilCheck x,ty,pos,BR,g⟩ a w (fun u w'=>u=.pointer (some ad)∧w'=w):=
 CH (by simp[execOp,b])
def fits(x:Int):Prop:=-9223372036854775808≤x∧x≤9223372036854775807
theorem IJ{x:Int}(h:fits x):IntKind.i64.wrap x=x:=by
 rw[IntKind.wrap_i64];unfold fits at h;omega
theorem BF{x y:Operand}{m n:Int}{t b:TypeId}(c:a.eval x=.int .i64 m)(d:a.eval y=.int .i64 n)(hf:fits (m+n)):BW P ⟨dst,.binOp .add t x y b,ty,pos,BR,g⟩ a w (fun u w'=>u=.int .i64 (m+n)∧w'=w):=
 CH (by simp[execOp,c,d,eqGuard,binOp,Op.intArith,IJ hf])
theorem Hd{x y:Operand}{m n:Int}{t b:TypeId}(c:a.eval x=.int .i64 m)(d:a.eval y=.int .i64 n)(hf:fits (m-n)):BW P ⟨dst,.binOp .sub t x y b,ty,pos,BR,g⟩ a w (fun u w'=>u=.int .i64 (m-n)∧w'=w):=
 CH (by simp[execOp,c,d,eqGuard,binOp,Op.intArith,IJ hf])
theorem Kq{x y:Operand}{m n:Int}{t b:TypeId}(c:a.eval x=.int .i64 m)(d:a.eval y=.int .i64 n)(hf:fits (m*n)):BW P ⟨dst,.binOp .mul t x y b,ty,pos,BR,g⟩ a w (fun u w'=>u=.int .i64 (m*n)∧w'=w):=
 CH (by simp[execOp,c,d,eqGuard,binOp,Op.intArith,IJ hf])
theorem Mw{x y:Operand}{k:IntKind}{m n:Int}{t b:TypeId}(c:a.eval x=.int k m)(d:a.eval y=.int k n)(h0:0≤m)(h1:1≤n):BW P ⟨dst,.binOp .rem t x y b,ty,pos,BR,g⟩ a w (fun u w'=>u=.int k (m%n)∧w'=w):=
 CH (by
  have e:m.tmod n=m%n:=Int.tmod_eq_emod_of_nonneg h0;have hn:¬n=0:=by omega
  simp[execOp,c,d,eqGuard,binOp,Op.intDiv,hn,e])
theorem Pw(op:BinOp)(t:TypeId)(x y:Operand)(k:IntKind)(m n:Int):(eqGuard op t x y (.int k m) (.int k n)).run P w=.ok () w:=by
 unfold eqGuard;cases op<;>rfl
theorem Ft{x y:Operand}{k:IntKind}{m n:Int}{t b:TypeId}(c:a.eval x=.int k m)(d:a.eval y=.int k n):BW P ⟨dst,.binOp .eql t x y b,ty,pos,BR,g⟩ a w (fun u w'=>u=.bool (m==n)∧w'=w):=
 CH (by simp[execOp,c,d,Pw,binOp,Op.intCmp])
theorem Fu{x y:Operand}{k:IntKind}{m n:Int}{t b:TypeId}(c:a.eval x=.int k m)(d:a.eval y=.int k n):BW P ⟨dst,.binOp .neq t x y b,ty,pos,BR,g⟩ a w (fun u w'=>u=.bool (m !=n)∧w'=w):=
 CH (by simp[execOp,c,d,Pw,binOp,Op.intCmp])
theorem Cs{x y:Operand}{k:IntKind}{m n:Int}{t b:TypeId}(c:a.eval x=.int k m)(d:a.eval y=.int k n):BW P ⟨dst,.binOp .lss t x y b,ty,pos,BR,g⟩ a w (fun u w'=>u=.bool (decide (m<n))∧w'=w):=
 CH (by simp[execOp,c,d,Pw,binOp,Op.intCmp])
theorem HE{x y:Operand}{k:IntKind}{m n:Int}{t b:TypeId}(c:a.eval x=.int k m)(d:a.eval y=.int k n):BW P ⟨dst,.binOp .leq t x y b,ty,pos,BR,g⟩ a w (fun u w'=>u=.bool (decide (m≤n))∧w'=w):=
 CH (by simp[execOp,c,d,Pw,binOp,Op.intCmp])
theorem GX{x y:Operand}{k:IntKind}{m n:Int}{t b:TypeId}(c:a.eval x=.int k m)(d:a.eval y=.int k n):BW P ⟨dst,.binOp .gtr t x y b,ty,pos,BR,g⟩ a w (fun u w'=>u=.bool (decide (n<m))∧w'=w):=
 CH (by simp[execOp,c,d,Pw,binOp,Op.intCmp])
theorem Ip{x y:Operand}{k:IntKind}{m n:Int}{t b:TypeId}(c:a.eval x=.int k m)(d:a.eval y=.int k n):BW P ⟨dst,.binOp .geq t x y b,ty,pos,BR,g⟩ a w (fun u w'=>u=.bool (decide (n≤m))∧w'=w):=
 CH (by simp[execOp,c,d,Pw,binOp,Op.intCmp])
theorem Tx {op:BinOp} {x y:Operand} {v v1 v2:Value} {t b:TypeId} (c:a.eval x=v1) (d:a.eval y=v2) (h:(do eqGuard op t x y v1 v2;binOp op t v1 v2:Sem Value).run P w=.ok v w):BW P ⟨dst,.binOp op t x y b,ty,pos,BR,g⟩ a w (fun u w'=>u=v∧w'=w):=
 Jd (S:=do eqGuard op t x y v1 v2;binOp op t v1 v2) (by simp only[execOp,c,d]) h
theorem Cv{x:Operand}{b:Bool}{t:TypeId}(c:a.eval x=.bool b):BW P ⟨dst,.unOp .not t x,ty,pos,BR,g⟩ a w (fun u w'=>u=.bool (!b)∧w'=w):=
 CH (by simp[execOp,c,Op.unary])
theorem Mx{s t:TypeId}{k k':IntKind}{x:Operand}{n:Int}(hs:(P.underlying s).isSome=true)(b:P.underlying t=some (.int k))(c:a.eval x=.int k' n)(hf:k.wrap n=n):BW P ⟨dst,.convert s t x,ty,pos,BR,g⟩ a w (fun u w'=>u=.int k n∧w'=w):=by
 obtain⟨d,e⟩:=Option.isSome_iff_exists.1 hs;exact CH (by cases d<;>simp[execOp,c,convert,underlying,program,Sem.run,e,b,Conv.intToInt,hf])
theorem CO{fn:Fn}{b cs:Array Operand}{vs us:Array Value}(hf:b.map a.eval=vs)(hc:cs.map a.eval=us):BW P ⟨dst,.makeFunc fn b cs,ty,pos,BR,g⟩ a w (fun u w'=>u=.func fn vs us∧w'=w):=
 CH (by simp[execOp,Instr.makeFunc,hf,hc])
theorem Ae{s:TypeId}{x:Operand}{i:Nat}{ad b:Addr}(c:a.eval x=.pointer (some ad))(h:(Instr.fieldAt s (.pointer (some ad)) i).run P w=.ok (.pointer (some b)) w):BW P ⟨dst,.fieldAddr s x i,ty,pos,BR,g⟩ a w (fun u w'=>u=.pointer (some b)∧w'=w):=
 Jd (S:=Instr.fieldAt s (.pointer (some ad)) i) (by simp only[execOp,c]) h
theorem Px{s:TypeId}{x:Operand}{i:Nat}{v v':Value}(b:a.eval x=v)(h:(Instr.field s v i).run P w=.ok v' w):BW P ⟨dst,.field s x i,ty,pos,BR,g⟩ a w (fun u w'=>u=v'∧w'=w):=
 Jd (S:=Instr.field s v i) (by simp only[execOp,b]) h
theorem B1{x:Operand}{i:Nat}{vs:Array Value}{v:Value}(b:a.eval x=.tuple vs)(h:vs[i]?=some v):BW P ⟨dst,.extract x i,ty,pos,BR,g⟩ a w (fun u w'=>u=v∧w'=w):=
 CH (by simp[execOp,b,Instr.extract,h])
theorem T7{t:TypeId}{x:Operand}{lo hi:Option Operand}{v:Value}{b c:Option Value}{v':Value}(d:a.eval x=v)(hl:lo.map a.eval=b)(e:hi.map a.eval=c)(h:(Instr.sliceAt t v b c none).run P w=.ok v' w):BW P ⟨dst,.slice t x lo hi none,ty,pos,BR,g⟩ a w (fun u w'=>u=v'∧w'=w):=
 Jd (S:=Instr.sliceAt t v b c none) (by simp only[execOp,d,hl,e,Option.map_none]) h
theorem LX {t e:TypeId} {x y:Operand} {sz b o n c k:Nat} {i:Int} {d:IntKind} (f:P.underlying t=some (.slice e)) (hs:(P.info? e).map (·.size)=some sz) (h:a.eval x=.slice (some ⟨b,o,none⟩) n c) (j:a.eval y=.int d i)
  (hi:i=k) (hk:k<n):BW P ⟨dst,.indexAddr t x y,ty,pos,BR,g⟩ a w (fun u w'=>u=.pointer (some ⟨b,o+k*sz,none⟩)∧w'=w):=
 CH (by
  subst hi;have h2:(0:Int)≤k∧(k:Int)<n:=⟨by omega,by omega⟩;have l:¬n≤k:=by omega
  simp[execOp,h,j,Instr.indexAt,asIntOf,underlying,program,Sem.run,f,h2,JC hs,Gf,hk,l])
theorem NZ {t e:TypeId} {x y:Operand} {sz b o n k:Nat} {i:Int} {c:IntKind} (d:P.underlying t=some (.array n e)) (hs:(P.info? e).map (·.size)=some sz) (f:a.eval x=.pointer (some ⟨b,o,none⟩)) (h:a.eval y=.int c i)
  (hi:i=k) (hk:k<n):BW P ⟨dst,.indexAddr t x y,ty,pos,BR,g⟩ a w (fun u w'=>u=.pointer (some ⟨b,o+k*sz,none⟩)∧w'=w):=
 CH (by
  subst hi;have h2:(0:Int)≤k∧(k:Int)<n:=⟨by omega,by omega⟩;have j:¬n≤k:=by omega
  simp[execOp,f,h,Instr.indexAt,asIntOf,underlying,program,Sem.run,d,h2,JC hs,Gf,Instr.sureAddr,hk,j])
theorem Bm{t e:TypeId}{x:Operand}{A:Option Addr}{n c:Nat}(b:P.underlying t=some (.slice e))(d:a.eval x=.slice A n c):BW P ⟨dst,.call {callee:=.builtin .len,args:= #[x],argTypes:= #[t]},ty,pos,BR,g⟩ a w (fun u w'=>u=.int .i64 n∧w'=w):=
 CH (by simp[execOp,resolve,invoke,builtin,Builtin.len_,d,underlying,program,Sem.run,b,goInt])
theorem Ty{x y:Operand}{m n:Int}{t b:TypeId}(c:a.eval x=.int .i64 m)(d:a.eval y=.int .i64 n):BW P ⟨dst,.call {callee:=.builtin .max,args:= #[x,y],argTypes:= #[t,b]},ty,pos,BR,g⟩ a w (fun u w'=>u=.int .i64 (max m n)∧w'=w):=
 CH (by
  have e:(if m<n then n else m)=max m n:=by omega
  simp[execOp,resolve,invoke,builtin,Builtin.max_,c,d,Builtin.max2,e])
theorem Tz{x y:Operand}{m n:Int}{t b:TypeId}(c:a.eval x=.int .i64 m)(d:a.eval y=.int .i64 n):BW P ⟨dst,.call {callee:=.builtin .min,args:= #[x,y],argTypes:= #[t,b]},ty,pos,BR,g⟩ a w (fun u w'=>u=.int .i64 (min m n)∧w'=w):=
 CH (by
  have e:(if n<m then n else m)=min m n:=by omega
  simp[execOp,resolve,invoke,builtin,Builtin.min_,c,d,Builtin.min2,e])
def BG (P:Program) (f:FuncId) (args:Array Value) (w:World) (R:Value→World→Prop):Prop:=Calls P f args w (fun e w'=>∃v,e=.returned v∧R v w')
theorem BG.mono{f:FuncId}{args:Array Value}{R R':Value→World→Prop}(h:BG P f args w R)(a:∀v w',R v w'→R' v w'):BG P f args w R':=
 Calls.mono h fun _ _ ⟨v,he,b⟩=>⟨v,he,a _ _ b⟩
def AU (P:Program) (f:FuncId):Prop:=(match P.funcs[f]? with|some fn=>fn.name !="runtime.NumGoroutine"&&fn.body.isSome|none=>false)=true
theorem KX{f:FuncId}(h:AU P f)(args:Array Value):(callFunc f args).run P w=.ok (.enter f args) w:=by
 unfold AU at h;unfold callFunc;cases hf:P.funcs[f]? with
 |none=>simp[hf] at h
 |some fn=>
  simp only[hf,Bool.and_eq_true,bne_iff_ne,ne_eq] at h;obtain⟨h1,h2⟩:=h;have b:fn.body.isNone=false:=by cases hb:fn.body<;>simp_all
  have a:¬fn.body=none:=by intro h;simp[h] at h2
  simp[program,Sem.run,hf,h1,a]
theorem Ig{f:Operand}{xs:Array Operand}{b:Array TypeId}{fn:FuncId}{first cap vs all:Array Value}{R:Value→World→Prop}(c:AU P fn)(hf:a.eval f=.func (.func fn) first cap)(d:xs.map a.eval=vs)(e:first++vs++cap=all)
  (h:BG P fn all w R):BW P ⟨dst,.call {callee:=.value f,args:=xs,argTypes:=b},ty,pos,BR,g⟩ a w R:=by
 have i:(execOp a.eval ⟨dst,.call {callee:=.value f,args:=xs,argTypes:=b},ty,pos,BR,g⟩).run P w=.ok (.enter fn all) w:=by
  simp only[execOp,resolve,hf,d,Deferred.ofValue];simp only[Sem.run_bind,Sem.run_pure,Result.andThen_ok,invoke,KX c,e]
 unfold BW;rw[i];exact h
theorem Hr{f:Operand→Value}:(#[]:Array Operand).map f= #[]:=by simp
theorem Ct{f:Operand→Value}{a:Operand}{v0:Value}(h0:f a=v0): #[a].map f= #[v0]:=by simp[h0]
theorem CP{f:Operand→Value}{a x1:Operand}{v0 v1:Value}(h0:f a=v0)(h1:f x1=v1): #[a,x1].map f= #[v0,v1]:=by simp[h0,h1]
theorem F9{f:Operand→Value}{a x1 x2:Operand}{v0 v1 v2:Value}(h0:f a=v0)(h1:f x1=v1)(h2:f x2=v2): #[a,x1,x2].map f= #[v0,v1,v2]:=by simp[h0,h1,h2]
theorem TA{f:Operand→Value}{a x1 x2 b:Operand}{v0 v1 v2 v3:Value}(h0:f a=v0)(h1:f x1=v1)(h2:f x2=v2)(c:f b=v3): #[a,x1,x2,b].map f= #[v0,v1,v2,v3]:=by simp[h0,h1,h2,c]
theorem Y5{f:Operand→Value}{a x1 x2 b c:Operand}{v0 v1 v2 v3 v4:Value}(h0:f a=v0)(h1:f x1=v1)(h2:f x2=v2)(d:f b=v3)(e:f c=v4): #[a,x1,x2,b,c].map f= #[v0,v1,v2,v3,v4]:=by simp[h0,h1,h2,d,e]
theorem TB{f:Operand→Value}:(#[]:Array (Nat×Operand)).map (fun(i,x)=>(i,f x))= #[]:=by simp
theorem HC{f:Operand→Value}{i0:Nat}{a:Operand}{v0:Value}(h0:f a=v0): #[(i0,a)].map (fun(i,x)=>(i,f x))= #[(i0,v0)]:=by simp[h0]
theorem IV{f:Operand→Value}{i0 i1:Nat}{a x1:Operand}{v0 v1:Value}(h0:f a=v0)(h1:f x1=v1): #[(i0,a),(i1,x1)].map (fun(i,x)=>(i,f x))= #[(i0,v0),(i1,v1)]:=by simp[h0,h1]
theorem V1{f:Operand→Value}{i0 i1 i2:Nat}{a x1 x2:Operand}{v0 v1 v2:Value}(h0:f a=v0)(h1:f x1=v1)(h2:f x2=v2): #[(i0,a),(i1,x1),(i2,x2)].map (fun(i,x)=>(i,f x))= #[(i0,v0),(i1,v1),(i2,v2)]:=by simp[h0,h1,h2]
theorem Q8 {f:FuncId} {fn:Func} {c:Code} {args:Array Value} {N:Nat} {R:Value→World→Prop} (hf:P.funcs[f]?=some fn) (hb:fn.body=some c) (b:fn.ntmps=N) (d:args.size≤N)
  (h:∀a:Act,a.tmps=args++Array.replicate (N-args.size) undef→a.defers=[]→CC P X0 N c (bodyPost P fn (fun e w'=>∃v,e=.returned v∧R v w')) a [] w):BG P f args w R:=by
 refine calls_of_wp hf hb ?_;rw[b];have:=h {tmps:=args++Array.replicate (N-args.size) undef,defers:=[]} rfl rfl;exact wpIn_wide.1 (this ⟨by simp;omega,rfl,fun _ hp=>by cases hp⟩)
theorem FO{a:Act}{args:Array Value}{n i:Nat}{v:Value}(h:a.tmps=args++Array.replicate n undef)(hi:args[i]?=some v):sl a i=v:=by
 obtain⟨b,he⟩:=Array.getElem?_eq_some_iff.1 hi;unfold sl;rw[h,Array.getD_eq_getD_getElem?,Array.getElem?_append_left b,hi];rfl
theorem Ar {fn:Func} {N t:Nat} {a:Act} {l:Env} {v:Value} {R:Value→World→Prop} (b:fn.results= #[.tmp t]) (c:ev a l (.tmp t)=v) (h:R v w):LV X0 N (bodyPost P fn (fun e w'=>∃v,e=.returned v∧R v w')) .ret a l w:=fun s=>
 bodyPost_ret (results_tmp b _ _ _) (by rw[DM,s.df]) ⟨_,rfl,by rw[show(BX a l).tmps.getD t undef=v from ee s c];exact h⟩
theorem DP{fn:Func}{N t u:Nat}{a:Act}{l:Env}{v v':Value}{R:Value→World→Prop}(b:fn.results= #[.tmp t,.tmp u])(c:ev a l (.tmp t)=v)(hu:ev a l (.tmp u)=v')(h:R (.tuple #[v,v']) w):
  LV X0 N (bodyPost P fn (fun e w'=>∃v,e=.returned v∧R v w')) .ret a l w:=fun s=>
 bodyPost_ret (results_tmp2 b _ _ _) (by rw[DM,s.df]) ⟨_,rfl,by rw[show(BX a l).tmps.getD t undef=v from ee s c,show(BX a l).tmps.getD u undef=v' from ee s hu];exact h⟩
theorem H9 {fn:Func} {N p:Nat} {t:TypeId} {a:Act} {l:Env} {ad:Addr} {v:Value} {R:Value→World→Prop} (c:fn.results= #[.cell p t]) (d:ev a l (.tmp p)=.pointer (some ad)) (hl:(loadVar t ad).run P w=.ok v w) (h:R v w):
  LV X0 N (bodyPost P fn (fun e w'=>∃v,e=.returned v∧R v w')) .ret a l w:=fun s=>by
 have b:(BX a l).tmps.getD p undef=.pointer (some ad):=ee s d;refine bodyPost_ret (v:=v) ?_ (by rw[DM,s.df]) ⟨_,rfl,h⟩;simp only[Array.getD_eq_getD_getElem?] at b;simp[results,c,b,asAddr,hl]
theorem Kb{fn:Func}{N:Nat}{a:Act}{l:Env}{R:Value→World→Prop}(b:fn.results= #[])(h:R (.tuple #[]) w):LV X0 N (bodyPost P fn (fun e w'=>∃v,e=.returned v∧R v w')) .normal a l w:=fun s=>
 bodyPost_end (results_none b _ _ _) (by rw[DM,s.df]) ⟨_,rfl,h⟩
end
section
variable{P:Program}{a:Act}{w:World}{dst:Option Tmp}{ty:TypeId}{pos:String}{BR:Array Edge}{g:Option (Nat×Bool)}
def Jk(l:List Int):List Value:=l.map (Value.int .i64)
def EP(l:List Int):Value:=.agg (Jk l).toArray
theorem T8(l:List Int)(k:Nat)(h:k<l.length):(Jk l)[k]?=some (.int .i64 (l.getD k 0)):=by
 simp[Jk,List.getElem?_eq_getElem h]
theorem SG(l:List Int)(k:Nat)(h:k<l.length):(Jk l).toArray[k]?=some (.int .i64 (l.getD k 0)):=by
 simpa using T8 l k h
theorem Fl{t a:TypeId}{n b o:Nat}{cs:Array Value}{l:List Value}(h:E7 P t n)(hb:Bk w b a cs)(hl:(cs.toList.drop o).take n=l)(hn:l.length=n):(loadVar t ⟨b,o,none⟩).run P w=.ok (.agg l.toArray) w:=
 KW h hn fun j u hu=>by
  rw[hb.cell];subst hl;rw[List.getElem?_take] at hu;split at hu
  ·simpa using hu
  ·cases hu
theorem Az{f:Operand}{xs:Array Operand}{b:Array TypeId}{fn:FuncId}{vs:Array Value}{R:Value→World→Prop}(c:AU P fn)(hf:a.eval f=.func (.func fn) #[] #[])(d:xs.map a.eval=vs)
  (h:BG P fn vs w R):BW P ⟨dst,.call {callee:=.value f,args:=xs,argTypes:=b},ty,pos,BR,g⟩ a w R:=
 Ig c hf d (by simp) h
theorem F6 {t e:TypeId} {x y:Operand} {b n k:Nat} {i:Int} {c:IntKind} (d:P.underlying t=some (.array n e)) (hs:(P.info? e).map (·.size)=some 1) (f:a.eval x=.pointer (some ⟨b,0,none⟩)) (h:a.eval y=.int c i)
  (hi:i=k) (hk:k<n):BW P ⟨dst,.indexAddr t x y,ty,pos,BR,g⟩ a w (fun u w'=>u=.pointer (some ⟨b,k,none⟩)∧w'=w):=by
 have:=NZ (P:=P) (a:=a) (w:=w) (dst:=dst) (ty:=ty) (pos:=pos) (BR:=BR) (g:=g) d hs f h hi hk;simpa using this
theorem Bx{t e:TypeId}{x y:Operand}{b o n c k:Nat}{A:Option Addr}{i:Int}{d:IntKind}(f:P.underlying t=some (.slice e))(hs:(P.info? e).map (·.size)=some 1)(h:a.eval x=.slice A n c)(j:A=some ⟨b,o,none⟩)(l:a.eval y=.int d i)
  (hi:i=k)(hk:k<n):BW P ⟨dst,.indexAddr t x y,ty,pos,BR,g⟩ a w (fun u w'=>u=.pointer (some ⟨b,o+k,none⟩)∧w'=w):=by
 subst j;have:=LX (P:=P) (a:=a) (w:=w) (dst:=dst) (ty:=ty) (pos:=pos) (BR:=BR) (g:=g) f hs h l hi hk;simpa using this
theorem BU{t e:TypeId}{x y:Operand}{sz b o n c k:Nat}{A:Option Addr}{i:Int}{d:IntKind}(f:P.underlying t=some (.slice e))(hs:(P.info? e).map (·.size)=some sz)(h:a.eval x=.slice A n c)(j:A=some ⟨b,o,none⟩)(l:a.eval y=.int d i)
  (hi:i=k)(hk:k<n):BW P ⟨dst,.indexAddr t x y,ty,pos,BR,g⟩ a w (fun u w'=>u=.pointer (some ⟨b,o+k*sz,none⟩)∧w'=w):=by
 subst j;exact LX f hs h l hi hk
theorem Af(b:Bool):b=true∨b=false:=by cases b<;>simp
theorem AT{l:List Value}(h:l.all (·.oneCell')=true):∀u∈l,u.oneCell'=true:=by simpa using h
theorem ec{a:Act}{v:Value}:a.eval (.const v)=v:=rfl
theorem es{a:Act}{t:Nat}{v:Value}(h:sl a t=v):a.eval (.tmp t)=v:=h
theorem L9{v:Value}{b c:Bool}(h:v=.bool b)(hb:b=c):v=.bool c:=by rw[h,hb]
theorem SH{fn:Func}{N:Nat}{a:Act}{l:Env}{R:Value→World→Prop}(b:fn.results= #[])(h:R (.tuple #[]) w):LV X0 N (bodyPost P fn (fun e w'=>∃v,e=.returned v∧R v w')) .ret a l w:=fun s=>
 bodyPost_ret (results_none b _ _ _) (by rw[DM,s.df]) ⟨_,rfl,h⟩
def flat{α:Type}(enc:α→List Value)(xs:List α):List Value:=xs.flatMap enc
theorem N0{α:Type}(enc:α→List Value)(sz:Nat)(he:∀x,(enc x).length=sz):∀xs:List α,(flat enc xs).length=xs.length*sz
 |[]=>by simp[flat]
 |x::xs=>by
  have:=N0 enc sz he xs;unfold flat at*;simp only[List.flatMap_cons,List.length_append,he,this,List.length_cons,Nat.add_mul,Nat.one_mul];omega
theorem Rd.elem {α:Type} {enc:α→List Value} {sz:Nat} (he:∀x,(enc x).length=sz) (a:0<sz) {w:World} {lo hi:Nat} {A:Option Addr} {xs:List α} (h:Rd w lo hi A (flat enc xs)) {k:Nat} (hk:k<xs.length):
  ∃b o,A=some ⟨b,o,none⟩∧lo≤b∧b<hi∧∀j u,(flat enc xs)[j]?=some u→w.cell? ⟨b,o+j,none⟩=some u:=by
 have hl:=N0 enc sz he xs;have hp:0<(flat enc xs).length:=by rw[hl];exact Nat.mul_pos (by omega) a
 exact h.at_ (k:=0) (u:=(flat enc xs)[0]) (List.getElem?_eq_getElem hp)
theorem Rd.CZ{w:World}{lo hi:Nat}{A:Option Addr}{cs:List Value}(h:Rd w lo hi A cs){k:Nat}(hk:k<cs.length):
  ∃b o,A=some ⟨b,o,none⟩∧lo≤b∧b<hi∧∀j u,cs[j]?=some u→w.cell? ⟨b,o+j,none⟩=some u:=h.at_ (List.getElem?_eq_getElem hk)
end
def E8(o:Oper)(j:Nat):Bool:=o.after.toList.any fun e=>Region.binds .any e&&Nat.beq e.on j
def Cd(L:List Oper)(j:Nat):Option Nat:=(L[j]?).bind (·.dst)
def isDst(L:List Oper)(s:Nat):Bool:=L.any fun o=>match o.dst with|some d=>Nat.beq d s|none=>false
def Jl:Nat→List Oper→Bool
 |_,[]=>true
 |k,o::L=>(o.after.toList.all fun e=> !Region.binds .any e||Nat.blt e.on k)&&Jl (k+1) L
def KY(N:Nat):List Oper→Bool
 |[]=>true
 |o::L=>(match o.dst with|some d=>Nat.blt d N&& !isDst L d|none=>true)&&KY N L
def Kd(L:List Oper):List Nat→Bool
 |[]=>true
 |[k]=>Nat.blt k L.length
 |k::j::r=>Nat.blt k j&&(match L[j]? with|some o=>E8 o k|none=>false)&&Kd L (j::r)
def Lz(N:Nat)(L:List Oper)(sp:List Nat):Bool:=Jl 0 L&&KY N L&&Kd L sp
theorem KZ{L:List Oper}{s:Nat}:isDst L s=true↔∃j,Cd L j=some s:=by
 unfold isDst Cd;rw[List.any_eq_true];constructor
 ·rintro⟨o,a,h⟩;obtain⟨j,b,rfl⟩:=List.mem_iff_getElem.1 a;refine⟨j,?_⟩;rw[List.getElem?_eq_getElem b];cases c:L[j].dst with
  |none=>simp[c] at h
  |some d=>simp only[c] at h;simp[c,Nat.eq_of_beq_eq_true h]
 ·rintro⟨j,b⟩;cases a:L[j]? with
  |none=>simp[a] at b
  |some o=>
   refine⟨o,List.mem_of_getElem? a,?_⟩;simp only[a,Option.bind_some] at b;simp[b]
theorem Je{N:Nat}:∀{L:List Oper},KY N L=true→∀i j d,Cd L i=some d→d<N∧(Cd L j=some d→i=j)
 |[],_,i,j,d,hi=>by simp[Cd] at hi
 |o::L,h,i,j,d,hi=>by
  simp only[KY,Bool.and_eq_true] at h;obtain⟨h1,h2⟩:=h;have ih:=Je h2;have c:∀d,o.dst=some d→d<N∧∀j,Cd L j≠some d:=by
   intro d e;rw[e] at h1;simp only[Bool.and_eq_true,Bool.not_eq_true'] at h1;refine⟨by simpa[Nat.blt_eq] using h1.1,fun j b=>?_⟩;have:=KZ.2 ⟨j,b⟩;rw[this] at h1;cases h1.2
  cases i with
  |zero=>
   have a:o.dst=some d:=by simpa[Cd] using hi
   refine⟨(c d a).1,fun b=>?_⟩;cases j with
   |zero=>rfl
   |succ j=>exact absurd (by simpa[Cd] using b) ((c d a).2 j)
  |succ i=>
   have a:Cd L i=some d:=by simpa[Cd] using hi
   cases j with
   |zero=>
    refine⟨(ih i i d a).1,fun b=>?_⟩;exact absurd a ((c d (by simpa[Cd] using b)).2 i)
   |succ j=>
    refine⟨(ih i j d a).1,fun b=>?_⟩;rw[(ih i j d a).2 (by simpa[Cd] using b)]
theorem E2:∀{L:List Oper} {k:Nat},Jl k L=true→∀i o,L[i]?=some o→∀e∈o.after,Region.binds .any e=true→e.on<k+i
 |[],_,_,i,o,a=>by simp at a
 |o'::L,k,h,i,o,a=>by
  simp only[Jl,Bool.and_eq_true,List.all_eq_true] at h;cases i with
  |zero=>
   obtain rfl:o'=o:=by simpa using a
   intro e he hb;have:=h.1 e (by simpa using he);simp only[Bool.or_eq_true,Bool.not_eq_true',hb,Bool.true_eq_false,false_or] at this;simpa[Nat.blt_eq] using this
  |succ i=>
   intro e he hb;have:=E2 h.2 i o (by simpa using a) e he hb;omega
theorem Fw{o:Oper}{j:Nat}:E8 o j=true↔∃e∈o.after,Region.binds .any e=true∧e.on=j:=by
 unfold E8;rw[List.any_eq_true];constructor
 ·rintro⟨e,he,h⟩;simp only[Bool.and_eq_true] at h;exact⟨e,by simpa using he,h.1,Nat.eq_of_beq_eq_true h.2⟩
 ·rintro⟨e,he,hb,rfl⟩;exact⟨e,by simpa using he,by simp[hb]⟩
theorem K0{L:List Oper}:∀{sp:List Nat},Kd L sp=true→
  (∀(i k j:Nat),sp[i]?=some k→sp[i+1]?=some j→∃o,L[j]?=some o∧E8 o k=true)∧(∀(i j k:Nat),sp[i]?=some k→sp[j]?=some k→i=j)∧(∀k∈sp,k<L.length)∧(∀k∈sp,∀(e:Nat),sp[0]?=some e→e≤k)
 |[],_=>⟨by simp,by simp,by simp,by simp⟩
 |[k],h=>by
  have hk:k<L.length:=by simpa[Kd,Nat.blt_eq] using h
  refine⟨by simp,?_,by simpa using hk,by simp⟩;intro i j x hi q;cases i<;>cases j<;>simp_all
 |k::j::r,h=>by
  simp only[Kd,Bool.and_eq_true] at h;obtain⟨⟨h1,h2⟩,n⟩:=h;obtain⟨a1,a2,a3,a4⟩:=K0 n;have p:k<j:=by simpa[Nat.blt_eq] using h1
  refine⟨?_,?_,?_,?_⟩
  ·intro i x y a f;cases i with
   |zero=>
    obtain rfl:k=x:=by simpa using a
    obtain rfl:j=y:=by simpa using f
    cases g:L[j]? with
    |none=>simp[g] at h2
    |some o=>exact⟨o,rfl,by simpa[g] using h2⟩
   |succ i=>exact a1 i x y (by simpa using a) (by simpa using f)
  ·intro i b x a c;have d:∀m,(j::r)[m]?=some x→j≤x:=fun m hm=>a4 x (List.mem_of_getElem? hm) j (by simp);cases i with
   |zero=>
    obtain rfl:k=x:=by simpa using a
    cases b with
    |zero=>rfl
    |succ b=>have:=d b (by simpa using c);omega
   |succ i=>
    cases b with
    |zero=>
     obtain rfl:k=x:=by simpa using c
     have:=d i (by simpa using a);omega
    |succ b=>rw[a2 i b x (by simpa using a) (by simpa using c)]
  ·intro x a;rcases List.mem_cons.1 a with rfl|a
   ·have:=a3 j (by simp);omega
   ·exact a3 x a
  ·intro x a e l;obtain rfl:k=e:=by simpa using l
   rcases List.mem_cons.1 a with rfl|a
   ·exact Nat.le_refl _
   ·have:=a4 x a j (by simp);omega
section
variable(P:Program)(X:Ctx)(N:Nat)(L:List Oper)(a:Act)(l:Env)(S:Nat→World→World→Prop)(T:Nat→Act→World→Prop)(Φ:Nat→Value→World→Prop)(sp:List Nat)
structure HI (k:Nat) (o:Oper) (a':Act) (w':World) (ph:Nat):Prop where
 out:∀s,isDst L s=false→sl a' s=lk (sl a s) l s
 later:∀(j d:Nat) (o':Oper),L[j]?=some o'→o'.dst=some d→E8 o' k=true→sl a' d=lk (sl a d) l d
 TD:∀(j d:Nat),E8 o j=true→Cd L j=some d→Φ j (sl a' d) w'
 Bo:T ph a' w'
 IW:∀(i:Nat),sp[i]?=some k→ph=i
 X5:∀(i j:Nat) (o':Oper),sp[i]?=some j→L[j]?=some o'→E8 o' k=true→ph≤i
def HJ(k:Nat)(o:Oper):Prop:=∀a' w' ph,HI L a l T Φ sp k o a' w' ph→
 (Region.wanted o (yielded L.toArray a'.tmps)=true∧BW P o a' w' (fun v Bi=>Φ k v Bi∧(if k∈sp then S k w' Bi∧T (ph+1) (a'.put o.dst v) Bi else Ext w' Bi)))∨
 (Region.wanted o (yielded L.toArray a'.tmps)=false∧Φ k undef w'∧k∉sp)
def K1:Nat→Nat→List Oper→Prop
 |0,_,_=>True
 |_+1,_,[]=>True
 |m+1,k,o::R=>HJ P L a l S T Φ sp k o∧K1 m (k+1) R
end
def Kr(X:Ctx)(N:Nat)(a:Act)(Φ:Nat→Value→World→Prop)(b:Act→World→Prop)(G:Env→Prop)(w':World):Nat→Nat→List Oper→Env→Prop
 |0,_,_,l'=>b (BX a l') w'→G l'
 |_+1,_,[],l'=>b (BX a l') w'→G l'
 |m+1,k,o::R,l'=>match o.dst with
  |some d=>∀v,Φ k v w'→Kr X N a Φ b G w' m (k+1) R ((d,v)::l')
  |none=>Kr X N a Φ b G w' m (k+1) R l'
def okD (L:List Oper) (sp:List Nat) (D:Nat→List Nat):Bool:=
 (List.range (sp.length+1)).all fun ph=>(D ph).all fun s=>(List.range L.length).all fun i=>match Cd L i with
  |some d=> !Nat.beq d s||(sp.take ph).any fun k=>Nat.beq k i||(match L[k]? with|some o=>E8 o i|none=>false)
  |none=>true
theorem SI{L:List Oper}{sp:List Nat}{D:Nat→List Nat}(h:okD L sp D=true){ph:Nat}(f:ph≤sp.length){i s:Nat}(hs:s∈D ph)(hi:Cd L i=some s):
  ∃m k,m<ph∧sp[m]?=some k∧(k=i∨∃o,L[k]?=some o∧E8 o i=true):=by
 have b:i<L.length:=by
  rcases Nat.lt_or_ge i L.length with h|h
  ·exact h
  ·simp[Cd,List.getElem?_eq_none h] at hi
 simp only[okD,List.all_eq_true,List.mem_range] at h;have:=h ph (by omega) s hs i b;rw[hi] at this;simp only[Nat.beq_refl,Bool.not_true,Bool.false_or,List.any_eq_true] at this;obtain⟨k,hk,e⟩:=this;obtain⟨m,hm,c⟩:=List.mem_iff_getElem.1 hk;have a:m<ph∧m<sp.length:=by simp at hm;omega
 refine⟨m,k,a.1,?_,?_⟩
 ·rw[←c,List.getElem_take,List.getElem?_eq_getElem a.2]
 ·rcases Bool.or_eq_true _ _▸e with h1|h1
  ·exact .inl (Nat.eq_of_beq_eq_true h1)
  ·cases d:L[k]? with
   |none=>simp[d] at h1
   |some o=>exact .inr ⟨o,rfl,by simpa[d] using h1⟩
section
variable{P:Program}{X:Ctx}{N:Nat}{L:List Oper}{a:Act}{l:Env}{S:Nat→World→World→Prop}{T:Nat→Act→World→Prop}{Φ:Nat→Value→World→Prop}{sp:List Nat}{Q:Exit→Act→World→Prop}{w:World}{k:Nat}{o:Oper}{R:List Oper}
structure Inv(listed:Array Bool)(a':Act)(w':World):Prop where
 N1:listed.size=L.length
 sz:a'.tmps.size=N
 df:a'.defers=X.ds
 out:∀s,(∀j,Cd L j=some s→listed.getD j false=false)→sl a' s=lk (sl a s) l s
 done:∀(j d:Nat),listed.getD j false=true→Cd L j=some d→Φ j (sl a' d) w'
 down:∀(j:Nat) (o:Oper),L[j]?=some o→listed.getD j false=true→∀e∈o.after,Region.binds .any e=true→listed.getD e.on false=true
 ph:∃ph,T ph a' w'∧ph≤sp.length∧∀(i k:Nat),sp[i]?=some k→(listed.getD k false=true↔i<ph)
theorem T9{x y:Act}(hs:x.tmps.size=y.tmps.size)(a:x.defers=y.defers)(h:∀s,sl x s=sl y s):x=y:=by
 obtain⟨t,d⟩:=x;obtain⟨b,c⟩:=y;simp only at a hs;subst a;have:t=b:=by
  apply Array.ext hs;intro i h1 h2;have:=h i;unfold sl at this;simp only[Array.getD_eq_getD_getElem?,Array.getElem?_eq_getElem h1,Array.getElem?_eq_getElem h2,Option.getD_some] at this;exact this
 rw[this]
theorem LA(p:Act→World→Prop)(G:Env→Prop)(w':World)(a':Act)(b:p a' w')(c:a'.tmps.size=N)(e:a'.defers=X.ds){K:Prop}(t:∀l',St X N a l'→G l'→a'=BX a l'→K):
  ∀(m:Nat) (R:List Oper) (k:Nat) (l':Env),St X N a l'→m≤R.length→(∀i d,Cd R i=some d→d<N)→(∀i j d,Cd R i=some d→Cd R j=some d→i=j)→Kr X N a Φ p G w' m k R l'→
   (∀i d,i<m→Cd R i=some d→Φ (k+i) (sl a' d) w')→(∀s,(∀i,i<m→Cd R i≠some s)→sl a' s=lk (sl a s) l' s)→K
 |0,R,k,l',st,_,_,_,h,_,f=>by
  have:a'=BX a l':=T9 (by rw[Jj,st.sz,c]) (by rw[DM,st.df,e]) (fun s=>by rw[Jy st s];exact f s (fun i hi=>absurd hi (by omega)));exact t l' st (h (by rw[←this];exact b)) this
 |m+1,[],k,l',st,hm,_,_,h,_,f=>by simp at hm
 |m+1,o::R,k,l',st,hm,q,u,h,v,f=>by
  have g:∀i d,Cd R i=some d→d<N:=fun i d hi=>q (i+1) d (by simpa[Cd] using hi);have l:∀i j d,Cd R i=some d→Cd R j=some d→i=j:=fun i j d hi w=>by
   have:=u (i+1) (j+1) d (by simpa[Cd] using hi) (by simpa[Cd] using w);omega
  have r:∀i d,i<m→Cd R i=some d→Φ (k+1+i) (sl a' d) w':=fun i d x hi=>by
   have:=v (i+1) d (by omega) (by simpa[Cd] using hi);rw[show k+1+i=k+(i+1) from by omega];exact this
  simp only[Kr] at h;cases n:o.dst with
  |none=>
   rw[n] at h;refine LA p G w' a' b c e t m R (k+1) l' st (by simpa using hm) g l h r fun s hs=>f s fun i hi=>?_;cases i with
   |zero=>simp[Cd,n]
   |succ i=>simpa[Cd] using hs i (by omega)
  |some d=>
   rw[n] at h;have h0:Cd (o::R) 0=some d:=by simp[Cd,n]
   refine LA p G w' a' b c e t m R (k+1) _ (st.cons (q 0 d h0) (sl a' d)) (by simpa using hm) g l (h _ (v 0 d (by omega) h0)) r fun s hs=>?_;simp only[lk];cases hb:Nat.beq d s with
   |true=>
    obtain rfl:d=s:=Nat.eq_of_beq_eq_true hb;rfl
   |false=>
    refine f s fun i hi=>?_;cases i with
    |zero=>simp[Cd,n,Nat.ne_of_beq_eq_false hb]
    |succ i=>simpa[Cd] using hs i (by omega)
theorem N2:∀{m:Nat} {R:List Oper} {k:Nat},K1 P L a l S T Φ sp m k R→∀(i:Nat) (o:Oper),i<m→R[i]?=some o→HJ P L a l S T Φ sp (k+i) o
 |0,_,_,_,i,o,hi,_=>absurd hi (by omega)
 |_+1,[],_,_,i,o,_,b=>by simp at b
 |m+1,o'::R,k,h,i,o,hi,b=>by
  cases i with
  |zero=>
   obtain rfl:o'=o:=by simpa using b
   exact h.1
  |succ i=>
   have:=N2 h.2 i o (by omega) (by simpa using b);rw[Nat.add_assoc,Nat.add_comm 1 i] at this;exact this
variable(P) in
theorem Cg:K1 P L a l S T Φ sp 0 k R:=trivial
theorem Aa{m:Nat}(h:HJ P L a l S T Φ sp k o)(b:K1 P L a l S T Φ sp m (k+1) R):K1 P L a l S T Φ sp (m+1) k (o::R):=⟨h,b⟩
theorem LY{x:Act}{d:Nat}{v:Value}(h:d<x.tmps.size):sl (x.put (some d) v) d=v:=by
 unfold sl Act.put;simp[h]
theorem K2{x:Act}{d s:Nat}{v:Value}(h:d≠s):sl (x.put (some d) v) s=sl x s:=by
 unfold sl Act.put;simp[Array.getElem?_setIfInBounds_ne h]
theorem GN{listed:Array Bool}{i:Nat}(h:i<listed.size):(listed.setIfInBounds i true).getD i false=true:=by simp[h]
theorem DI{listed:Array Bool}{i j:Nat}(h:i≠j):(listed.setIfInBounds i true).getD j false=listed.getD j false:=by
 simp[Array.getElem?_setIfInBounds_ne h]
inductive N3 (L:List Oper):Nat→Nat→Prop
 |one {i j:Nat} {o:Oper}:L[i]?=some o→E8 o j=true→N3 L i j
 |step {i d j:Nat} {o:Oper}:L[i]?=some o→E8 o d=true→N3 L d j→N3 L i j
theorem Ks{L:List Oper}{p:Nat→Prop}(a:∀d o,L[d]?=some o→p d→∀k,E8 o k=true→p k){i j:Nat}(h:N3 L i j):(∀o,L[i]?=some o→∀k,E8 o k=true→p k)→p j:=by
 induction h with
 |one b c=>exact fun hi=>hi _ b _ c
 |step b c _ ih=>exact fun hi=>ih fun o' e k hk=>a _ o' e (hi _ b _ c) k hk
def Qu (acc:List Nat) (m:Nat) (e:Edge):Nat:=if Region.binds .any e then m|||(2^e.on|||acc.getD e.on 0) else m
def My(acc:List Nat)(o:Oper):Nat:=o.after.toList.foldl (Qu acc) 0
def NR:List Oper→List Nat→List Nat
 |[],acc=>acc
 |o::R,acc=>NR R (acc++[My acc o])
def JD (L:List Oper) (m:Nat):Bool:=(List.range L.length).all fun i=>Nat.blt i m||(List.range i).all fun j=>(match L[i]? with|some o=>E8 o j|none=>false)||((NR L []).getD i 0).testBit j
theorem Qv{acc:List Nat}{o:Oper}{j:Nat}(h:(My acc o).testBit j=true):∃d,E8 o d=true∧(d=j∨(acc.getD d 0).testBit j=true):=by
 have key:∀(es:List Edge) (m:Nat),(es.foldl (Qu acc) m).testBit j=true→m.testBit j=true∨∃e∈es,Region.binds .any e=true∧(e.on=j∨(acc.getD e.on 0).testBit j=true):=by
  intro es
  induction es with
  |nil=>intro m h;exact .inl h
  |cons e es ih=>
   intro m h;rw[List.foldl_cons] at h;rcases ih _ h with h1|⟨b,a,h1⟩
   ·unfold Qu at h1;split at h1
    ·rename_i hb
     rw[Nat.testBit_or,Nat.testBit_or,Bool.or_eq_true,Bool.or_eq_true,Nat.testBit_two_pow,decide_eq_true_eq] at h1;rcases h1 with h1|h1
     ·exact .inl h1
     ·exact .inr ⟨e,List.mem_cons_self ..,hb,h1⟩
    ·exact .inl h1
   ·exact .inr ⟨b,List.mem_cons_of_mem _ a,h1⟩
 rcases key _ _ h with h1|⟨e,he,hb,h1⟩
 ·simp at h1
 ·exact⟨e.on,Fw.2 ⟨e,by simpa using he,hb,rfl⟩,h1⟩
theorem Mz{L:List Oper}:∀(R:List Oper) (acc:List Nat),L.drop acc.length=R→(∀i j,(acc.getD i 0).testBit j=true→N3 L i j)→∀i j,((NR R acc).getD i 0).testBit j=true→N3 L i j
 |[],acc,_,h=>h
 |o::R,acc,a,h=>by
  unfold NR;have b:L[acc.length]?=some o:=by
   have:(L.drop acc.length)[0]?=some o:=by rw[a];rfl
   simpa using this
  refine Mz R _ (by rw[List.length_append,List.length_singleton,←List.tail_drop,a];rfl) fun i j hb=>?_;rcases Nat.lt_trichotomy i acc.length with hi|hi|hi
  ·rw[List.getD_eq_getElem?_getD,List.getElem?_append_left hi,←List.getD_eq_getElem?_getD] at hb;exact h i j hb
  ·subst hi;have:(acc++[My acc o]).getD acc.length 0=My acc o:=by simp
   rw[this] at hb;obtain⟨d,c,h1⟩:=Qv hb;rcases h1 with rfl|h1
   ·exact .one b c
   ·exact .step b c (h d j h1)
  ·have:(acc++[My acc o]).getD i 0=0:=by
    rw[List.getD_eq_getElem?_getD,List.getElem?_eq_none (by simp;omega)];rfl
   rw[this] at hb;simp at hb
theorem J2{L:List Oper}{m:Nat}(h:JD L m=true){i:Nat}{o:Oper}(a:L[i]?=some o)(hi:m≤i):∀j,j<i→N3 L i j:=by
 have b:i<L.length:=(List.getElem?_eq_some_iff.1 a).1;simp only[JD,List.all_eq_true,List.mem_range] at h;have h1:=h i b;rw[Bool.or_eq_true] at h1;rcases h1 with h1|h1
 ·have:i<m:=by simpa[Nat.blt_eq] using h1
  omega
 ·simp only[List.all_eq_true,List.mem_range,a,Bool.or_eq_true] at h1;exact fun j c=>(h1 j c).elim (fun h=>.one a h) fun h=>Mz L [] rfl (fun i j hb=>by simp at hb) i j h
theorem N4 {m:Nat} (aK:JD L m=true) (c:Jl 0 L=true):∀(rest:List Oper) (j fuel:Nat) (listed:Array Bool) (a':Act) (w':World),L.drop j=rest→m≤j→rest.length≤fuel→listed.size=L.length→(∀i,i<L.length→(listed.getD i false=true↔i<j))→
  wpListIn (Wd X.ro) 0 P L.toArray Q rest a' w'→wpAnyIn (Wd X.ro) 0 P .any L.toArray Q fuel listed a' w':=by
 intro rest
 induction rest with
 |nil=>
  intro j fuel listed a' w' g hm hf n hl h;have u:L.length≤j:=List.drop_eq_nil_iff.1 g;have s:Region.ready .any L.toArray listed=[]:=by
   rw[List.eq_nil_iff_forall_not_mem];intro i hi;obtain⟨h0,o,l,_⟩:=mem_ready.1 hi;have q:i<L.length:=by simpa using(Array.getElem?_eq_some_iff.1 l).1
   have h1:=(hl i q).2 (by omega);have f:i<listed.size:=by omega
   simp[f] at h0 h1;rw[h0] at h1;cases h1
  cases fuel with
  |zero=>exact⟨s,h⟩
  |succ fuel=>exact⟨fun _=>h,fun i hi=>by rw[s] at hi;cases hi⟩
 |cons o rest ih=>
  intro j fuel listed a' w' g hm hf n hl h;have u:j<L.length:=by
   rcases Nat.lt_or_ge j L.length with h|h
   ·exact h
   ·rw[List.drop_of_length_le h] at g;cases g
  have l:L[j]?=some o:=by
   have:(L.drop j)[0]?=some o:=by rw[g];rfl
   simpa using this
  have v:L.drop (j+1)=rest:=by rw[←List.tail_drop,g];rfl
  cases fuel with
  |zero=>simp at hf
  |succ fuel=>
   refine⟨fun s=>?_,fun i hi=>?_⟩
   ·exfalso;have hm:j∈Region.ready .any L.toArray listed:=mem_ready.2 ⟨by
     have:listed.getD j false=false:=by
      cases hb:listed.getD j false with
      |false=>rfl
      |true=>have:=(hl j u).1 hb;omega
     have aE:j<listed.size:=by omega
     simp[aE] at this⊢;exact this,o,by simpa using l,fun e he b=>by
      rcases Nat.lt_or_ge e.on L.length with q|aF
      ·refine(hl e.on q).2 ?_;exact E2 c j o l e he b|>fun h=>by omega
      ·have:=E2 c j o l e he b;omega⟩
    rw[s] at hm;cases hm
   ·obtain⟨h0,o',y,t⟩:=mem_ready.1 hi;have aG:i<L.length:=by simpa using(Array.getElem?_eq_some_iff.1 y).1
    have f:i<listed.size:=by omega
    have z:listed.getD i false=false:=by simp[f] at h0⊢;exact h0
    have aF:j≤i:=by
     rcases Nat.lt_or_ge i j with h1|h1
     ·rw[(hl i aG).2 h1] at z;cases z
     ·exact h1
    have aH:i=j:=by
     rcases Nat.lt_or_ge j i with h1|h1
     ·have r:L[i]?=some o':=by simpa using y
      have:=Ks (p:=fun x=>x<j) (fun d od aI aO k hk=>by
       obtain⟨e,he,b,aA⟩:=Fw.1 hk;have:=E2 c d od aI e he b;omega) (J2 aK r (by omega) j h1) (fun aL aB k hk=>by
       rw[r] at aB;obtain rfl:o'=aL:=by simpa using aB
       obtain⟨e,he,b,aA⟩:=Fw.1 hk;have h2:=t e he b;rw[aA] at h2;have aP:=E2 c i o' r e he b;exact(hl k (by omega)).1 h2)
      omega
     ·omega
    subst aH;unfold wpOpIn;have aJ:L.toArray[i]?=some o:=by simpa using l
    simp only[aJ];unfold wpListIn at h;have aC:∀x,x<L.length→((listed.setIfInBounds i true).getD x false=true↔x<i+1):=by
     intro x aM
     by_cases aD:i=x
     ·subst aD;simp only[GN f,true_iff];omega
     ·rw[DI aD,hl x aM];omega
    split
    ·rename_i hw
     rw[if_pos hw] at h;exact Oper.wpIn_mono (fun a w aN=>ih (i+1) fuel _ a w v (by omega) (by simpa using hf) (by simpa using n) aC aN) h
    ·rename_i hw
     rw[if_neg hw] at h;exact⟨h.1,ih (i+1) fuel _ _ _ v (by omega) (by simpa using hf) (by simpa using n) aC h.2⟩
theorem SJ{m:Nat}(bL:m≤L.length)(bE:JD L m=true)(bI:(sp.all fun k=>Nat.blt k m)=true)(aX:∀k w w',Ext w w'→S k w w')(cB:∀k j v w w',j≠k→(∀o,L[j]?=some o→E8 o k=false)→Φ j v w→S k w w'→Φ j v w')(D:Nat→List Nat)(cC:okD L sp D=true)(cD:∀k x w y w',T k x w→Ext w w'→(∀s,s∈D k→sl y s=sl x s)→T k y w')(hk:Lz N L sp=true)(bM:St X N a l)
  (bN:K1 P L a l S T Φ sp m 0 L)(bJ:∀w',Kr X N a Φ (T sp.length) (fun l'=>WL P X N L.toArray Q (L.drop m) a l' w') w' m 0 L l):
  ∀(fuel:Nat) (listed:Array Bool) (a':Act) (w':World),listed.toList.count false≤fuel→Inv (X:=X) (N:=N) (L:=L) (a:=a) (l:=l) (T:=T) (Φ:=Φ) (sp:=sp) listed a' w'→(∀j,m≤j→listed.getD j false=false)→
   wpAnyIn (Wd X.ro) 0 P .any L.toArray Q fuel listed a' w':=by
 simp only[Lz,Bool.and_eq_true] at hk;obtain⟨⟨bF,bO⟩,bP⟩:=hk;obtain⟨bQ,cL,cM,_⟩:=K0 bP;have aD:=Je bO
 
 have fin:∀(fuel:Nat) (listed:Array Bool) (a':Act) (w':World),listed.toList.count false≤fuel→Inv (X:=X) (N:=N) (L:=L) (a:=a) (l:=l) (T:=T) (Φ:=Φ) (sp:=sp) listed a' w'→(∀j,m≤j→listed.getD j false=false)→(∀j,j<m→listed.getD j false=true)→wpAnyIn (Wd X.ro) 0 P .any L.toArray Q fuel listed a' w':=by
  intro fuel listed a' w' hc b q aP;obtain⟨ph,aS,hle,z⟩:=b.ph;have aY:ph=sp.length:=by
   rcases Nat.lt_or_ge ph sp.length with t|aZ
   ·have bR:sp[ph]<m:=by
     have:=List.all_eq_true.1 bI sp[ph] (List.getElem_mem t);simpa[Nat.blt_eq] using this
    have bB:=(z ph sp[ph] (List.getElem?_eq_getElem t)).1 (aP _ bR);omega
   ·omega
  subst aY;have bS:wpListIn (Wd X.ro) 0 P L.toArray Q (L.drop m) a' w':=by
   refine LA (T sp.length) (fun l'=>WL P X N L.toArray Q (L.drop m) a l' w') w' a' aS b.sz b.df (fun l' st cE e=>by rw[e];exact cE st) m L 0 l bM bL (fun i d hi=>(aD i i d hi).1) (fun i j d hi g=>(aD i j d hi).2 g) (bJ w') (fun i d a0 hi=>?_) (fun s hs=>?_)
   ·rw[Nat.zero_add];exact b.done i d (aP i a0) hi
   ·refine b.out s fun j g=>?_;rcases Nat.lt_or_ge j m with h|h
    ·exact absurd g (hs j h)
    ·exact q j h
  refine N4 bE bF (L.drop m) m fuel listed a' w' rfl (Nat.le_refl _) ?_ b.N1 (fun i hi=>?_) bS
  ·
   refine Nat.le_trans ?_ hc;have cN:listed.toList.length=L.length:=by simpa using b.N1
   have e:listed.toList.drop m=List.replicate (L.length-m) false:=by
    apply List.ext_getElem
    ·simp[b.N1]
    ·intro i h1 h2;simp at h1;have:=q (m+i) (by omega);rw[Array.getD_eq_getD_getElem?,Array.getElem?_eq_getElem (by omega)] at this;simpa using this
   have h2:(listed.toList.drop m).count false≤listed.toList.count false:=(List.drop_sublist m listed.toList).count_le false;rw[e,List.count_replicate_self] at h2;simpa using h2
  ·rcases Nat.lt_or_ge i m with h|h
   ·simp[aP i h,h]
   ·simp only[q i h];constructor
    ·intro bT;cases bT
    ·intro bT;omega
 intro fuel
 induction fuel with
 |zero=>
  intro listed a' w' hc b q;refine fin 0 listed a' w' hc b q fun j g=>?_;have aM:j<listed.size:=by rw[b.N1];omega
  cases hb:listed[j] with
  |true=>simp[aM,hb]
  |false=>
   have:false∈listed.toList:=by rw[←hb];simp
   have:=List.count_pos_iff.2 this;omega
 |succ fuel ih=>
  intro listed a' w' hc b q
  by_cases aT:∀j,j<m→listed.getD j false=true
  ·exact fin (fuel+1) listed a' w' hc b q aT
  have hex:∃j,j<m∧listed.getD j false=false:=by
   false_or_by_contra
   rename_i bU
   refine aT fun j g=>?_;cases hb:listed.getD j false with
   |true=>rfl
   |false=>exact absurd ⟨j,g,hb⟩ bU
  constructor
  ·intro aE;exfalso;obtain⟨j,g,hb⟩:=hex;refine absurd hb ?_;rw[Bool.not_eq_false];clear hb
   induction j using Nat.strongRecOn with
   |_ j bV=>
    cases hb:listed.getD j false with
    |true=>rfl
    |false=>
     exfalso;have aM:j<listed.size:=by rw[b.N1];omega
     have hm:j∈Region.ready .any L.toArray listed:=mem_ready.2 ⟨by simp[aM] at hb⊢;exact hb,L[j],by simp,fun e he c=>by
      have h1:=E2 bF j L[j] (List.getElem?_eq_getElem (by omega)) e he c;exact bV e.on (by omega) (by omega)⟩
     rw[aE] at hm;cases hm
  ·intro i hi;obtain⟨h0,o,bW,aC⟩:=mem_ready.1 hi;have aA:L[i]?=some o:=by simpa using bW
   have bX:i<L.length:=(List.getElem?_eq_some_iff.1 aA).1;have aJ:i<listed.size:=by rw[b.N1];exact bX
   have aB:listed.getD i false=false:=by simp[aJ] at h0⊢;exact h0
   have a0:i<m:=by
    rcases Nat.lt_or_ge i m with h|h
    ·exact h
    ·obtain⟨j,g,hb⟩:=hex;have:=Ks (p:=fun x=>listed.getD x false=true) (fun d od bY aK k hk=>by
      obtain⟨e,he,c,n⟩:=Fw.1 hk;have:=b.down d od bY aK e he c
      rwa[n] at this) (J2 bE aA h j (by omega)) (fun cF bG k hk=>by
      rw[aA] at bG;obtain rfl:o=cF:=by simpa using bG
      obtain⟨e,he,c,n⟩:=Fw.1 hk;have:=aC e he c
      rwa[n] at this)
     rw[hb] at this;cases this
   obtain⟨ph,aS,hle,z⟩:=b.ph;have aL:∀r,sp[r]?=some i→ph=r:=by
    intro r aQ;have aZ:¬r<ph:=fun t=>by
     have:=(z r i aQ).2 t;rw[aB] at this;cases this
    cases r with
    |zero=>omega
    |succ m=>
     have hm:m<sp.length:=by
      have:=(List.getElem?_eq_some_iff.1 aQ).1;omega
     obtain⟨bK,aU,bZ⟩:=bQ m sp[m] i (List.getElem?_eq_getElem hm) aQ;rw[aA] at aU;obtain rfl:o=bK:=by simpa using aU
     obtain⟨e,he,c,n⟩:=Fw.1 bZ;have:=aC e he c;rw[n] at this;have:=(z m sp[m] (List.getElem?_eq_getElem hm)).1 this;omega
   have bC:HI L a l T Φ sp i o a' w' ph:=by
    refine⟨fun s hs=>b.out s fun j g=>?_,fun j d o' g aR aF=>?_,fun j d g aG=>?_,aS,aL,fun r j o' b4 g aF=>?_⟩
    rotate_left 3
    ·rcases Nat.lt_or_ge r ph with t|aZ
     ·have aV:=(z r j b4).2 t;obtain⟨e,he,c,n⟩:=Fw.1 aF;have:=b.down j o' g aV e he c;rw[n,aB] at this;cases this
     ·exact aZ
    ·have:=KZ.2 ⟨j,g⟩;rw[hs] at this;cases this
    ·have b5:Cd L j=some d:=by simp[Cd,g,aR]
     refine b.out d fun cG aM=>?_;obtain rfl:=(aD j cG d b5).2 aM;cases hb:listed.getD j false with
     |false=>rfl
     |true=>
      obtain⟨e,he,c,n⟩:=Fw.1 aF;have:=b.down j o' g hb e he c;rw[n,aB] at this;cases this
    ·obtain⟨e,he,c,n⟩:=Fw.1 g;have:=aC e he c;rw[n] at this;exact b.done j d this aG
   
   have step:∀v Bi,Φ i v Bi→S i w' Bi→(∃aH,T aH (a'.put o.dst v) Bi∧aH≤sp.length∧∀(r k:Nat),sp[r]?=some k→((listed.setIfInBounds i true).getD k false=true↔r<aH))→
     wpAnyIn (Wd X.ro) 0 P .any L.toArray Q fuel (listed.setIfInBounds i true) (a'.put o.dst v) Bi:=by
    intro v Bi bD cH aY;have aK:Cd L i=o.dst:=by simp[Cd,aA]
    refine ih _ _ _ ?_ ?_ (fun j g=>by rw[DI (by omega)];exact q j g)
    ·have t:i<listed.toList.length:=by simpa using aJ
     have a2:listed.toList[i]=false:=by
      simp[aJ] at aB;simpa using aB
     have b6:(listed.setIfInBounds i true).toList=listed.toList.set i true:=by simp
     rw[b6,List.count_set t,a2];have h1:0<listed.toList.count false:=List.count_pos_iff.2 (by rw[←a2];exact List.getElem_mem t);have cI:(if (false==false)=true then 1 else 0)=1:=rfl;have cJ:(if (true==false)=true then 1 else 0)=0:=rfl;rw[cI,cJ];omega
    ·have a3:∀s,(∀d,o.dst=some d→d≠s)→sl (a'.put o.dst v) s=sl a' s:=by
      intro s hs;cases aR:o.dst with
      |none=>rfl
      |some d=>exact K2 (hs d aR)
     refine⟨by simp[b.N1],?_,?_,?_,?_,?_,aY⟩
     ·cases o.dst<;>simp[Act.put,b.sz]
     ·cases o.dst<;>simp[Act.put,b.df]
     ·intro s hs;rw[a3 s (fun d aR a4=>by
       subst a4;have:=hs i (by rw[aK,aR]);rw[GN aJ] at this;cases this)]
      refine b.out s fun j g=>?_;have:=hs j g
      by_cases u:i=j
      ·subst u;exact aB
      ·rwa[DI u] at this
     ·intro j d g aG
      by_cases u:i=j
      ·subst u;rw[aK] at aG;have t:d<a'.tmps.size:=by rw[b.sz];exact(aD i i d (by rw[aK,aG])).1
       rw[aG,LY t];exact bD
      ·rw[DI u] at g;have h1:=cB i j _ _ _ (Ne.symm u) (fun a5 b7=>by
        cases a9:E8 a5 i with
        |false=>rfl
        |true=>
         obtain⟨e,he,c,n⟩:=Fw.1 a9;have:=b.down j a5 b7 g e he c;rw[n,aB] at this;cases this) (b.done j d g aG) cH
       have:sl (a'.put o.dst v) d=sl a' d:=by
        refine a3 d fun cK b8 a9=>?_;subst a9;exact u ((aD i j cK (by rw[aK,b8])).2 aG)
       rw[this];exact h1
     ·intro j a5 g aV e he c
      by_cases bH:i=e.on
      ·rw[←bH];exact GN aJ
      ·rw[DI bH]
       by_cases u:i=j
       ·subst u;rw[aA] at g;obtain rfl:o=a5:=by simpa using g
        exact aC e he c
       ·rw[DI u] at aV;exact b.down j a5 g aV e he c
   have bA:∀v Bi,Ext w' Bi→i∉sp→∃aH,T aH (a'.put o.dst v) Bi∧aH≤sp.length∧∀(r k:Nat),sp[r]?=some k→((listed.setIfInBounds i true).getD k false=true↔r<aH):=by
    intro v Bi bB aN;refine⟨ph,cD _ _ _ _ _ aS bB (fun s hs=>?_),hle,fun r k aI=>?_⟩
    ·cases aR:o.dst with
     |none=>rfl
     |some d=>
      refine K2 fun a4=>?_;subst a4;obtain⟨m,k,hm,hk,b9⟩:=SI cC hle hs (i:=i) (by simp[Cd,aA,aR]);have cA:=(z m k hk).2 hm;rcases b9 with rfl|⟨bK,aU,aF⟩
      ·exact aN (List.mem_of_getElem? hk)
      ·obtain⟨e,he,c,n⟩:=Fw.1 aF;have:=b.down k bK aU cA e he c;rw[n,aB] at this;cases this
    rw[DI (fun aO=>aN (by rw[aO];exact List.mem_of_getElem? aI))];exact z r k aI
   unfold wpOpIn;simp only[bW];rcases N2 bN i o a0 aA a' w' ph (by rw[Nat.zero_add];exact bC) with⟨hw,bB⟩|⟨hw,hu,aN⟩
   ·rw[if_pos hw];refine(bB.wp fun v Bi aE=>?_);rw[Nat.zero_add] at aE;obtain⟨bD,aE⟩:=aE
    by_cases hs:i∈sp
    ·rw[if_pos hs] at aE;refine step v Bi bD aE.1 ⟨ph+1,aE.2,?_,fun r k aI=>?_⟩
     ·obtain⟨m,hm,aW⟩:=List.mem_iff_getElem.1 hs;have:=aL m (by rw[List.getElem?_eq_getElem hm,aW]);omega
     ·by_cases aO:i=k
      ·subst aO;have:=aL r aI;simp only[GN aJ,true_iff];omega
      ·rw[DI aO,z r k aI];have cO:r≠ph:=by
        intro e;obtain⟨m,hm,aW⟩:=List.mem_iff_getElem.1 hs;have h1:=aL m (by rw[List.getElem?_eq_getElem hm,aW]);rw[e,h1,List.getElem?_eq_getElem hm,aW] at aI;exact aO (by simpa using aI)
       omega
    ·rw[if_neg hs] at aE;exact step v Bi bD (aX _ _ _ aE) (bA v Bi aE hs)
   ·rw[if_neg (by rw[hw];simp)];rw[Nat.zero_add] at hu aN;exact⟨fun f _=>NQ X.ro f,step undef w' hu (aX _ _ _ (Ext.refl _)) (bA undef w' (Ext.refl _) aN)⟩
structure KR (S:World→World→Prop) where
 p:Value→World→Prop
 st:∀v w w',p v w→S w w'→p v w'
def Kc {S:World→World→Prop} (c:Value):KR S:=⟨fun v _=>v=c,fun _ _ _ h _=>h⟩
def Kt{S:World→World→Prop}:KR S:=⟨fun _ _=>True,fun _ _ _ h _=>h⟩
def Ku{S:World→World→Prop}(a:List (KR S))(j:Nat):Value→World→Prop:=(a.getD j Kt).p
theorem B9(w:World):Ext w w.drew:=⟨rfl,rfl,rfl,Nat.le_refl _,fun _ _ _=>rfl⟩
theorem MY(L:List Oper)(sp:List Nat):okD L sp (fun _=>[])=true:=by simp[okD]
def N5 (L:List Oper) (k:Nat) (w w':World):Nat→List (KR Ext)→Prop
 |_,[]=>True
 |i,x::xs=>(i≠k→(∀o,L[i]?=some o→E8 o k=false)→∀v,x.p v w→x.p v w')∧N5 L k w w' (i+1) xs
def TE(L:List Oper)(a:List (KR Ext))(k:Nat)(w w':World):Prop:=∀j,j≠k→(∀o,L[j]?=some o→E8 o k=false)→∀v,Ku a j v w→Ku a j v w'
theorem Q9{a:List (KR Ext)}{k:Nat}{w w':World}(h:N5 L k w w' 0 a):TE L a k w w':=by
 have key:∀(a:List (KR Ext)) (i:Nat),N5 L k w w' i a→∀j,i+j≠k→(∀o,L[i+j]?=some o→E8 o k=false)→∀v,(a.getD j Kt).p v w→(a.getD j Kt).p v w':=by
  intro a
  induction a with
  |nil=>intro i _ j _ _ v h;simpa[Kt] using h
  |cons x xs ih=>
   intro i h j d b v c;cases j with
   |zero=>exact h.1 d b v c
   |succ j=>exact ih (i+1) h.2 j (by omega) (by rw[show i+1+j=i+(j+1) by omega];exact b) v c
 exact fun j d b v c=>key a 0 h j (by omega) (by rw[Nat.zero_add];exact b) v c
theorem MZ {id:Nat} (m:Nat) (T:Nat→Act→World→Prop) (D:Nat→List Nat) (sp:List Nat) (c:List (KR Ext)) (hm:P.follows .mixedOrders=true) (hk:Lz N L sp=true) (b:(Nat.ble m L.length&&JD L m&&(sp.all fun k=>Nat.blt k m))=true)
  (t:okD L sp D=true) (u:∀k x w y w',T k x w→Ext w w'→(∀s,s∈D k→sl y s=sl x s)→T k y w') (p:St X N a l→T 0 (BX a l) w.drew)
  (q:K1 P L a l (TE L c) T (Ku c) sp m 0 L) (n:∀w',Kr X N a (Ku c) (T sp.length) (fun l'=>WL P X N L.toArray Q (L.drop m) a l' w') w' m 0 L l):CC P X N (.region id L.toArray true) Q a l w:=fun st=>
 wpIn_region_any hm (by
  simp only[Bool.and_eq_true] at b;have z:Inv (X:=X) (N:=N) (L:=L) (a:=a) (l:=l) (T:=T) (Φ:=Ku c) (sp:=sp) (Array.replicate L.length false) (BX a l) w.drew:=by
   have hf:∀j,(Array.replicate L.length false).getD j false=false:=by
    intro j;rw[Array.getD_eq_getD_getElem?];rcases Nat.lt_or_ge j L.length with h|h
    ·simp[h]
    ·simp[h]
   refine⟨by simp,by rw[Jj,st.sz],by rw[DM,st.df],fun s _=>Jy st s,fun j d h=>?_,fun j o _ h=>?_,⟨0,p st,Nat.zero_le _,fun i k _=>?_⟩⟩
   ·rw[hf j] at h;cases h
   ·rw[hf j] at h;cases h
   ·rw[hf k];simp
  have f:=SJ (m:=m) (by simpa[Nat.ble_eq] using b.1.1) b.1.2 b.2 (S:=TE L c) (fun _ w w' g j _ _ v=>fun h=>(c.getD j Kt).st v w w' h g) (fun k j v w w' r aA h hs=>hs j r aA v h) D t u hk st q n L.length (Array.replicate L.length false) (BX a l) w.drew (by
   refine Nat.le_trans (List.count_le_length ..) (by simp)) z (fun j _=>by
    rw[Array.getD_eq_getD_getElem?];rcases Nat.lt_or_ge j L.length with h|h
    ·simp[h]
    ·simp[h])
  have e:L.toArray.size=L.length:=by simp
  rw[e];exact f)
theorem Cl {id:Nat} (m:Nat) (b:List (KR Ext)) (hm:P.follows .mixedOrders=true) (hk:Lz N L []=true) (d:(Nat.ble m L.length&&JD L m&&true)=true)
  (e:K1 P L a l (TE L b) (fun _ _ w'=>Ext w w') (Ku b) [] m 0 L) (c:∀w',Kr X N a (Ku b) (fun _ w'=>Ext w w') (fun l'=>WL P X N L.toArray Q (L.drop m) a l' w') w' m 0 L l):CC P X N (.region id L.toArray true) Q a l w:=
 MZ m (fun _ _ w'=>Ext w w') (fun _=>[]) [] b hm hk d (MY L []) (fun _ _ _ _ _ h g _=>Ext.trans h g) (fun _=>B9 w) e c
theorem Ke{k:Nat}{o:Oper}(c:o.guard=none)(hs:sp.contains k=false)(h:∀a' w' ph,HI L a l T Φ sp k o a' w' ph→BW P o a' w' (fun v Bi=>Φ k v Bi∧Ext w' Bi)):HJ P L a l S T Φ sp k o:=fun a' w' ph hK=>
 .inl ⟨by unfold Region.wanted;rw[c],(h a' w' ph hK).mono fun v Bi b=>⟨b.1,by
  have:k∉sp:=by simpa using hs
  rw[if_neg this];exact b.2⟩⟩
theorem V2{k:Nat}{o:Oper}{c:Value}(b:o.guard=none)(hs:sp.contains k=false)(d:∀w,Φ k c w)(h:∀a' w' ph,HI L a l T Φ sp k o a' w' ph→BW P o a' w' (fun u Bi=>u=c∧Bi=w')):HJ P L a l S T Φ sp k o:=
 Ke b hs fun a' w' ph hK=>(h a' w' ph hK).mono (by rintro _ _ ⟨rfl,rfl⟩;exact⟨d _,Ext.refl _⟩)
theorem Py{k:Nat}{o:Oper}(c:o.guard=none)(hs:sp.contains k=true)(h:∀a' w' ph,HI L a l T Φ sp k o a' w' ph→BW P o a' w' (fun v Bi=>Φ k v Bi∧S k w' Bi∧T (ph+1) (a'.put o.dst v) Bi)):HJ P L a l S T Φ sp k o:=fun a' w' ph hK=>
 .inl ⟨by unfold Region.wanted;rw[c],(h a' w' ph hK).mono fun v Bi b=>⟨b.1,by
  have:k∈sp:=by simpa using hs
  rw[if_pos this];exact b.2⟩⟩
theorem LZ{a':Act}{j d:Nat}{b:Bool}(c:Cd L j=some d)(a:sl a' d=.bool b):yielded L.toArray a'.tmps j=some b:=by
 unfold yielded;unfold Cd at c;have e:((L.toArray)[j]?).bind (·.dst)=some d:=by simpa using c
 simp only[e,Option.bind_some];unfold sl at a;rw[Array.getD_eq_getD_getElem?] at a;cases f:a'.tmps[d]? with
 |none=>rw[f] at a;simp[undef] at a
 |some u=>rw[f] at a;simp at a;rw[a]
theorem Pz{k j d:Nat}{o:Oper}{b:Bool}(e:o.guard=some (j,b))(f:Cd L j=some d)(hs:sp.contains k=false)(g:∀a' w' ph,HI L a l T Φ sp k o a' w' ph→sl a' d=.bool b)
  (h:∀a' w' ph,HI L a l T Φ sp k o a' w' ph→BW P o a' w' (fun v Bi=>Φ k v Bi∧Ext w' Bi)):HJ P L a l S T Φ sp k o:=fun a' w' ph hK=>
 .inl ⟨by unfold Region.wanted;rw[e];simp[LZ f (g a' w' ph hK)],(h a' w' ph hK).mono fun v Bi c=>⟨c.1,by
  have:k∉sp:=by simpa using hs
  rw[if_neg this];exact c.2⟩⟩
theorem Ua{k j d:Nat}{o:Oper}{b:Bool}{c:Value}(e:o.guard=some (j,b))(f:Cd L j=some d)(hs:sp.contains k=false)(g:∀w,Φ k c w)(i:∀a' w' ph,HI L a l T Φ sp k o a' w' ph→sl a' d=.bool b)
  (h:∀a' w' ph,HI L a l T Φ sp k o a' w' ph→BW P o a' w' (fun u Bi=>u=c∧Bi=w')):HJ P L a l S T Φ sp k o:=
 Pz e f hs i fun a' w' ph hK=>(h a' w' ph hK).mono (by rintro _ _ ⟨rfl,rfl⟩;exact⟨g _,Ext.refl _⟩)
theorem Ub{k j d:Nat}{o:Oper}{b c:Bool}(e:o.guard=some (j,b))(f:Cd L j=some d)(hs:sp.contains k=false)(hc:c≠b)(g:∀a' w' ph,HI L a l T Φ sp k o a' w' ph→sl a' d=.bool c)(h:∀w,Φ k undef w):HJ P L a l S T Φ sp k o:=fun a' w' ph hK=>
 .inr ⟨by unfold Region.wanted;rw[e];simp[LZ f (g a' w' ph hK),hc],h _,by simpa using hs⟩
def Kn (B:Nat) (mk:Nat→Value) (t:TypeId) (cs:Array Value):KR Ext:=⟨fun v w=>∃b,v=mk b∧B≤b∧Bk w b t cs,fun _ _ _ ⟨b,h1,h2,a⟩ h=>⟨b,h1,h2,a.ext h⟩⟩
theorem TF{w w' Bi:World}{mk:Nat→Value}{t:TypeId}{cs:Array Value}{u:Value}(h0:w.heap.size≤w'.heap.size)(h:∃b,u=mk b∧J1 w' Bi b t cs):(Kn w.heap.size mk t cs).p u Bi∧Ext w' Bi:=by
 obtain⟨b,hu,hn⟩:=h;exact⟨⟨b,hu,by rw[hn.Dl];exact h0,hn.bk⟩,hn.gr⟩
end
def T2 (w:World) (r:Nat) (M:World→Prop):Nat→World→Prop
 |0,w'=>Ext w w'
 |_+1,w'=>If r w w'∧M w'
theorem Qw{a b:World}{r:Nat}(h:Ext a b):If r a b:=⟨h.os,h.tape,h.output,h.size,fun k hk _=>h.block k hk (by simp)⟩
theorem N6{w w':World}{r ph:Nat}{M:World→Prop}(h:T2 w r M ph w'):If r w w':=by
 cases ph with
 |zero=>exact Qw h
 |succ=>exact h.1
theorem Bk.t2{w w':World}{r ph b:Nat}{t:TypeId}{cs:Array Value}{M:World→Prop}(h:Bk w b t cs)(g:T2 w r M ph w')(a:b≠r):Bk w' b t cs:=h.NX (N6 g) a
theorem Rd.t2{w w':World}{r ph lo hi:Nat}{A:Option Addr}{cs:List Value}{M:World→Prop}(h:Rd w lo hi A cs)(g:T2 w r M ph w')(a:r<lo∨hi≤r):Rd w' lo hi A cs:=h.NX (N6 g) a
abbrev I(n:Int):Value:=.int .i64 n
abbrev pt(b o:Nat):Value:=.pointer (some ⟨b,o,none⟩)
section
variable{P:Program}{X:Ctx}{N:Nat}{ops:Array Oper}{Q:Exit→Act→World→Prop}{rest:List Oper}{a:Act}{l:Env}{w:World}{op:Op}{ty:TypeId}{pos:String}{BR:Array Edge}{d:Nat}
theorem wd{v:Value}{w':World}(b:Nat.blt d N=true)(c:St X N a l→BW P ⟨some d,op,ty,pos,BR,none⟩ (BX a l) w (fun u Bi=>u=v∧Bi=w'))(hk:WL P X N ops Q rest a ((d,v)::l) w'):WL P X N ops Q (⟨some d,op,ty,pos,BR,none⟩::rest) a l w:=
 V0 rfl rfl (by simpa[Nat.blt_eq] using b) c hk
theorem wm{x:Operand}{v:Value}(b:Nat.blt d N=true)(c:ev a l x=v)(hk:WL P X N ops Q rest a ((d,v)::l) w):WL P X N ops Q (⟨some d,.move x,ty,pos,BR,none⟩::rest) a l w:=
 wd b (fun st=>Ba (ee st c)) hk
theorem wa{x:Operand}{v:Value}(b:Nat.blt d N=true)(c:ev a l x=v)(hk:WL P X N ops Q rest a ((d,v)::l) w):WL P X N ops Q (⟨some d,.assign x,ty,pos,BR,none⟩::rest) a l w:=
 wd b (fun st=>I8 (ee st c)) hk
theorem we{R:Value→World→Prop}(b:Nat.blt d N=true)(c:St X N a l→BW P ⟨some d,op,ty,pos,BR,none⟩ (BX a l) w R)(hk:∀v w',R v w'→WL P X N ops Q rest a ((d,v)::l) w'):WL P X N ops Q (⟨some d,op,ty,pos,BR,none⟩::rest) a l w:=
 Tw rfl rfl (by simpa[Nat.blt_eq] using b) c hk
end
section
variable{P:Program}{a:Act}{w:World}{dst:Option Tmp}{ty:TypeId}{pos:String}{BR:Array Edge}{g:Option (Nat×Bool)}
theorem Uc{f:Operand}{xs:Array Operand}{b:Array TypeId}{l:Nat}{vs:Array Value}{R:Value→World→Prop}(hf:a.eval f=.func (.yield l) #[] #[])(c:xs.map a.eval=vs)
  (h:YieldAt Fence.wide 0 P l vs w (fun e w'=>∃v,e=.returned v∧R v w')):BW P ⟨dst,.call {callee:=.value f,args:=xs,argTypes:=b},ty,pos,BR,g⟩ a w R:=by
 obtain⟨fn,tmps,assign,body,d,i⟩:=h;have j:(execOp a.eval ⟨dst,.call {callee:=.value f,args:=xs,argTypes:=b},ty,pos,BR,g⟩).run P w=.ok (.round l fn tmps assign body) w:=by
  simp only[execOp,resolve,hf,c,Deferred.ofValue];simp only[Sem.run_bind,Sem.run_pure,Result.andThen_ok,invoke];simpa using d
 unfold BW;rw[j];exact i
end
theorem Fz{w w':World}{k:Nat}{o:Obj}(h:w.heap[k]?=some o)(g:Ext w w'):w'.heap[k]?=some o:=(g.block k (Array.getElem?_eq_some_iff.1 h).1 (by simp)).trans h
def mark(D:Nat):List Deferred:=[{target:=.collected D,args:= #[]}]
abbrev X1(D:Nat):Ctx:=⟨none,mark D⟩
abbrev XR(r:Nat):Ctx:=⟨some r,[]⟩
def JE(a:Act)(D:Nat):Act:={a with defers:=mark D}
theorem Nr(a:Act)(D:Nat):∀l:Env,BX (JE a D) l=JE (BX a l) D
 |[]=>rfl
 |(d,v)::l=>by simp only[BX,Nr a D l];rfl
theorem St.JE{N:Nat}{a:Act}{l:Env}(s:St X0 N a l)(D:Nat):St (X1 D) N (JE a D) l:=⟨s.sz,rfl,s.lt⟩
theorem St.inr{N:Nat}{a:Act}{l:Env}(s:St X0 N a l)(r:Nat):St (XR r) N a l:=⟨s.sz,s.df,s.lt⟩
theorem Iq(w:World)(r:Nat)(o:Obj):If r w (w.putObj r o):=
 ⟨rfl,rfl,rfl,by simp,fun k _ hk=>World.putObj_heap_other (fun e=>hk (by rw[e]))⟩
section
variable{P:Program}{N:Nat}{Q:Exit→Act→World→Prop}{a:Act}{l:Env}{w:World}
def MA(a:Act)(l:Env)(fn:FuncId)(ps:Array Nat)(assign body:Code)(D:Nat):Loop:=
 {state:=.ready,pending:=none,fn,tmps:=(BX a l).tmps,params:=ps,assign,body,defers:=D}
structure N7(lp:Loop)(a:Act)(l:Env)(qs:Array Nat)(assign body:Code):Prop where
 st:lp.state=.ready
 pe:lp.pending=none
 tm:lp.tmps=(BX a l).tmps
 ps:lp.params=qs
 X6:lp.assign=assign
 bo:lp.body=body
theorem SK{g:Operand}{p:Array Nat}{assign body:Code}{b:FuncId}{cap:Array Value}(o:AU P b)(q:ev a l g=.func (.func b) #[] cap)
  (h:St X0 N a l→∀(lp:Loop) (w1:World),N7 lp a l p assign body→Ext w w1→w1.heap.size=w.heap.size+2→w1.heap[w.heap.size]?=some (.deferred (some []))→w1.heap[w.heap.size+1]?=some (.loop lp)→
   BG P b (#[.func (.yield (w.heap.size+1)) #[] #[]]++cap) w1 (fun _ f=>∃r,f.heap[w.heap.size+1]?=some (.loop r)∧r.state≠.busy∧
    (r.pending=none→∀d,If (w.heap.size+1) f d→LV (X1 w.heap.size) N Q .normal (JE a w.heap.size) l d)∧
    (∀c,r.pending=some c→∀d,If (w.heap.size+1) f d→CC P (X1 w.heap.size) N c Q (JE a w.heap.size) l d))):
  CC P X0 N (.rangeFunc g p assign body) Q a l w:=fun s=>by
 refine wpIn_rangeFunc (F:=Fence.wide) fun fn _=>?_;have j:(BX a l).eval g=.func (.func b) #[] cap:=ee s q
 let w1:=(w.alloc (.deferred (some []))).alloc (.loop (MA a l fn p assign body w.heap.size))
 have t:Ext w w1:=Ext.trans (World.grownBy_alloc w _ _) (World.grownBy_alloc _ _ _);have k:w1.heap.size=w.heap.size+2:=by simp[w1]
 have u:w1.heap[w.heap.size]?=some (.deferred (some [])):=by
  have h2:(w.alloc (.deferred (some []))).heap[w.heap.size]?=some (.deferred (some [])):=World.alloc_heap_new w _;exact(Below.heap_alloc _ _ _ (by simp)).trans h2
 have m:w1.heap[w.heap.size+1]?=some (.loop (MA a l fn p assign body w.heap.size)):=by
  have:=World.alloc_heap_new (w.alloc (.deferred (some []))) (.loop (MA a l fn p assign body w.heap.size));simpa[w1] using this
 have i:=h s (MA a l fn p assign body w.heap.size) w1 ⟨rfl,rfl,rfl,rfl,rfl,rfl⟩ t k u m;refine⟨w.heap.size+1,mark w.heap.size,w1,⟨.fn (.func b) cap, #[]++ #[.func (.yield (w.heap.size+1)) #[] #[]]⟩,w1,b, #[.func (.yield (w.heap.size+1)) #[] #[]]++cap,w1,run_enterLoop_outer fn _ _ _ _,?_,fun _ _=>trivial,?_,SE none,?_⟩
 ·have x:(#[Operand.const (.func (.yield (w.heap.size+1)) #[] #[])]).map (BX a l).eval= #[.func (.yield (w.heap.size+1)) #[] #[]]:=Ct rfl;simp only[resolve,j,Deferred.ofValue,x];simp only[Sem.run_bind,Sem.run_pure,Result.andThen_ok]
 ·simp[invoke,KX o]
 ·have hc:CallsIn Fence.wide (0-1) P b (#[.func (.yield (w.heap.size+1)) #[] #[]]++cap) w1 _:=callsIn_wide.2 i;refine hc.mono ?_;rintro e f ⟨v,rfl,r,y,hb,hn,hs⟩;refine⟨r.pending,_,run_endLoop y hb,?_⟩;have n:mark w.heap.size++(BX a l).defers=mark w.heap.size:=by rw[DM,s.df];rfl
  have he:({BX a l with defers:=mark w.heap.size++(BX a l).defers}:Act)=BX (JE a w.heap.size) l:=by rw[Nr,n];rfl
  cases hp:r.pending with
  |none=>simp only[];rw[he];exact hn hp _ (Iq _ _ _) (s.JE _)
  |some c=>simp only[];rw[he];exact hs c hp _ (Iq _ _ _) (s.JE _)
theorem N8 {r:Nat} {lp:Loop} {p:Nat} {assign body:Code} {v:Value} {R:Value→World→Prop} (s:St X0 N a l) (d:w.heap[r]?=some (.loop lp)) (hp:N7 lp a l #[p] assign body)
  (h:CC P (XR r) N assign (Exit.then (fun f g=>∃b,(Instr.beginRound r).run P g=.ok () b∧CW P (XR r).ro body (roundPost P r (fun e w'=>∃v,e=.returned v∧R v w')) f b) (fun _ _ _=>False)) a ((p,v)::l) w) (c:p<N):
  YieldAt Fence.wide 0 P r #[v] w (fun e w'=>∃v,e=.returned v∧R v w'):=by
 refine⟨_,_,_,_,run_yield d (by rw[hp.ps];rfl),?_⟩;have i:((lp.params.zip #[v]).foldl (fun tmps (t,a)=>tmps.setIfInBounds t a) lp.tmps)=(BX a ((p,v)::l)).tmps:=by
  rw[hp.ps,hp.tm];simp[BX,Act.put]
 rw[i,hp.X6,hp.bo];refine roundIn_of_wpIn trivial ?_;have h2:=h ((s.inr r).cons c v);have j:({tmps:=(BX a ((p,v)::l)).tmps,defers:=[]}:Act)=BX a ((p,v)::l):=by
  have:(BX a ((p,v)::l)).defers=[]:=by rw[DM];exact s.df
  rw[←this]
 rw[j];exact h2
theorem Ns{r:Nat}{lp:Loop}{p q:Nat}{assign body:Code}{v u:Value}{R:Value→World→Prop}(s:St X0 N a l)(f:w.heap[r]?=some (.loop lp))(hp:N7 lp a l #[p,q] assign body)
  (h:CC P (XR r) N assign (Exit.then (fun g i=>∃b,(Instr.beginRound r).run P i=.ok () b∧CW P (XR r).ro body (roundPost P r (fun e w'=>∃v,e=.returned v∧R v w')) g b) (fun _ _ _=>False)) a ((q,u)::(p,v)::l) w)(c:p<N)(d:q<N):
  YieldAt Fence.wide 0 P r #[v,u] w (fun e w'=>∃v,e=.returned v∧R v w'):=by
 refine⟨_,_,_,_,run_yield f (by rw[hp.ps];rfl),?_⟩;have j:((lp.params.zip #[v,u]).foldl (fun tmps (t,a)=>tmps.setIfInBounds t a) lp.tmps)=(BX a ((q,u)::(p,v)::l)).tmps:=by
  rw[hp.ps,hp.tm];simp[BX,Act.put]
 rw[j,hp.X6,hp.bo];refine roundIn_of_wpIn trivial ?_;have h2:=h (((s.inr r).cons c v).cons d u);have k:({tmps:=(BX a ((q,u)::(p,v)::l)).tmps,defers:=[]}:Act)=BX a ((q,u)::(p,v)::l):=by
  have:(BX a ((q,u)::(p,v)::l)).defers=[]:=by rw[DM];exact s.df
  rw[←this]
 rw[k];exact h2
theorem Kw{r:Nat}{lp:Loop}{body:Code}{R:Ending→World→Prop}(b:w.heap[r]?=some (.loop lp))(hs:lp.state=.ready)
  (h:∀w',If r w w'→w'.heap[r]?=some (.loop {lp with state:=.busy})→CC P (XR r) N body (roundPost P r R) a l w'):
  LV (XR r) N (Exit.then (fun d e=>∃c,(Instr.beginRound r).run P e=.ok () c∧CW P (XR r).ro body (roundPost P r R) d c) (fun _ _ _=>False)) .normal a l w:=fun s=>
 ⟨_,run_beginRound b hs,h _ (Iq _ _ _) (World.putObj_heap_same (Array.getElem?_eq_some_iff.1 b).1) s⟩
theorem Ir{r:Nat}{lp:Loop}{R:Value→World→Prop}(b:w.heap[r]?=some (.loop lp))(h:∀w',If r w w'→w'.heap[r]?=some (.loop {lp with state:=.ready,pending:=none})→R (.bool true) w'):
  LV (XR r) N (roundPost P r (fun e w'=>∃v,e=.returned v∧R v w')) .normal a l w:=fun _=>⟨_,_,run_endRound none b,_,rfl,h _ (Iq _ _ _) (World.putObj_heap_same (Array.getElem?_eq_some_iff.1 b).1)⟩
theorem Pf{r:Nat}{lp:Loop}{R:Value→World→Prop}(b:w.heap[r]?=some (.loop lp))(h:∀w',If r w w'→w'.heap[r]?=some (.loop {lp with state:=.done,pending:=some .ret})→R (.bool false) w'):
  LV (XR r) N (roundPost P r (fun e w'=>∃v,e=.returned v∧R v w')) .ret a l w:=fun _=>⟨_,_,run_endRound (some .ret) b,_,rfl,h _ (Iq _ _ _) (World.putObj_heap_same (Array.getElem?_eq_some_iff.1 b).1)⟩
def PM (P:Program) (fn:Func) (R:Value→World→Prop):Exit→Act→World→Prop:=bodyPostM Fence.wide 0 P fn (fun e w'=>∃v,e=.returned v∧R v w')
theorem Jt{f:FuncId}{fn:Func}{c:Code}{args:Array Value}{N:Nat}{R:Value→World→Prop}(hf:P.funcs[f]?=some fn)(hb:fn.body=some c)(b:fn.ntmps=N)(d:args.size≤N)
  (h:∀a:Act,a.tmps=args++Array.replicate (N-args.size) undef→a.defers=[]→CC P X0 N c (PM P fn R) a [] w):BG P f args w R:=by
 refine callsIn_wide.1 (callsIn_of_wp_marks (n:=0) hf hb trivial ?_);rw[b];exact h {tmps:=args++Array.replicate (N-args.size) undef,defers:=[]} rfl rfl ⟨by simp;omega,rfl,fun _ hp=>by cases hp⟩
theorem TG {fn:Func} {R:Value→World→Prop} (h:LV X0 N (bodyPost P fn (fun e w'=>∃v,e=.returned v∧R v w')) .ret a l w):LV X0 N (PM P fn R) .ret a l w:=fun s=>by
 obtain⟨b,v,c,d⟩:=h s;show LeavesInM Fence.wide 0 P fn _ _ (BX a l).defers .returning w;rw[b];exact⟨v,c,d⟩
end
section
variable{P:Program}{X:Ctx}{N:Nat}{Q:Exit→Act→World→Prop}{a:Act}{l:Env}{w:World}
theorem SL{c:Code}(h:CC P X0 N c (Exit.noGoto Q) a l w):CC P X0 N (.scope c) Q a l w:=fun s=>wpIn_wide.2 (wp_scope_straight (wpIn_wide.1 (h s)))
theorem SM{k:Nat}(h:LV X N Q .normal a l w):CC P X N (.label k) Q a l w:=fun s=>wpIn_label (h s)
theorem Ra(h:LV X N Q .ret a l w):LV X N (Exit.noGoto Q) .ret a l w:=h
end
theorem Is{lp:Loop}{a:Act}{l:Env}{p:Array Nat}{assign body:Code}(h:N7 lp a l p assign body):({{lp with state:=.busy} with state:=.ready,pending:=none}:Loop)=lp:=by
 obtain⟨h1,h2,_⟩:=h;cases lp;simp only at h1 h2;subst h1;subst h2;rfl
section
variable{P:Program}{N:Nat}{Q:Exit→Act→World→Prop}{a:Act}{l:Env}{w:World}
theorem JT {g:Operand} {p:Array Nat} {assign body:Code} {d:FuncId} {cap:Array Value} (i:AU P d) (j:ev a l g=.func (.func d) #[] cap)
  (h:St X0 N a l→∀(lp:Loop) (w1:World) (D lo:Nat),N7 lp a l p assign body→Ext w w1→w.heap.size≤D→D<w1.heap.size→w.heap.size≤lo→lo<w1.heap.size→lo≠D→w1.heap[D]?=some (.deferred (some []))→w1.heap[lo]?=some (.loop lp)→
   BG P d (#[.func (.yield lo) #[] #[]]++cap) w1 (fun _ e=>∃r,e.heap[lo]?=some (.loop r)∧r.state≠.busy∧
    (r.pending=none→∀b,If lo e b→LV (X1 D) N Q .normal (JE a D) l b)∧
    (∀c,r.pending=some c→∀b,If lo e b→CC P (X1 D) N c Q (JE a D) l b))):
  CC P X0 N (.rangeFunc g p assign body) Q a l w:=
 SK i j fun s lp w1 f k hs m hl=>h s lp w1 w.heap.size (w.heap.size+1) f k (Nat.le_refl _) (by omega) (by omega) (by omega) (by omega) m hl
end
end Go.Proofs.YtcdofnchafcfpaaGreat
end
section
namespace Go.Proofs.YtcdofnchafcfpaaGreat
open Go.RowKit Go.WideShapes
section
variable{P:Program}{w:World}
theorem JF{e:TypeId}(he:One P e)(x:List Int)(i:Nat)(hi:i<x.length):(part e (Jk x).toArray i).run P w=.ok (.int .i64 (x.getD i 0)) w:=by
 have:(Jk x).toArray[i]?=some (.int .i64 (x.getD i 0)):=SG x i hi;simp only[part,Sem.run_bind,LW he,Result.andThen_ok,this];rfl
theorem L2{e:TypeId}(hu:P.underlying e=some (.int .i64))(d:Nat)(a b:Int):(Op.equalIn (d+1) e (.int .i64 a) (.int .i64 b)).run P w=.ok (a==b) w:=run_equalIn_int w d e .i64 .i64 a b hu
theorem L3{e:TypeId}(he:One P e)(hu:P.underlying e=some (.int .i64))(d:Nat)(x y:List Int):∀is:List Nat,(∀i∈is,i<x.length∧i<y.length)→
  (Op.eqItems (d+1) e 1 (Jk x).toArray (Jk y).toArray is).run P w=.ok (is.all fun i=>x.getD i 0==y.getD i 0) w
 |[],_=>by simp[Op.eqItems]
 |i::is,h=>by
  have ih:=L3 he hu d x y is (fun j a=>h j (List.mem_cons_of_mem _ a));obtain⟨h1,h2⟩:=h i (List.mem_cons_self ..);simp only[Op.eqItems,Sem.run_bind,Nat.mul_one,JF he x i h1,JF he y i h2,L2 hu,Result.andThen_ok,List.all_cons];cases hb:(x.getD i 0==y.getD i 0)
  ·simp
  ·simpa using ih
theorem K3(x y:List Int)(n:Nat)(a:x.length=n)(b:y.length=n):((List.range n).all fun i=>x.getD i 0==y.getD i 0)=(x==y):=by
 rw[Bool.eq_iff_iff];simp only[List.all_eq_true,List.mem_range,beq_iff_eq];constructor
 ·intro h;apply List.ext_getElem (by omega);intro i h1 h2;have:=h i (by omega);simpa[List.getElem?_eq_getElem h1,List.getElem?_eq_getElem h2] using this
 ·rintro rfl i _;rfl
def JU (P:Program) (K:TypeId) (n:Nat):Prop:=∀(w:World) (x y:List Int),x.length=n→y.length=n→(Op.equal K (EP x) (EP y)).run P w=.ok (x==y) w
def M0(P:Program)(K:TypeId)(n:Nat):Prop:=∀(w:World) (em:Bool) (x:List Int),x.length=n→(Instr.checkKey em 10000 K (EP x)).run P w=.ok () w
def Ju(P:Program)(K:TypeId):Prop:=(match P.underlying K with|some (.array _ _)|some (.struct _)=>true|_=>false)=true
theorem Nt{K e n:Nat}(hK:P.underlying K=some (.array n e))(he:One P e)(hu:P.underlying e=some (.int .i64)):JU P K n:=by
 intro w x y b c;obtain⟨i,hi,hs⟩:=Option.map_eq_some_iff.1 he.2;have h:=run_equalIn_array w 9999 (Jk x).toArray (Jk y).toArray hK hi;have hc:P.cellsOf e=1:=by unfold Program.cellsOf;rw[hi];simpa using hs
 rw[hc,L3 he hu 9998 x y (List.range n) (fun i a=>by have:=List.mem_range.1 a;omega),K3 x y n b c] at h;exact h
end
def Nu (e:TypeId):Nat→List Field→Bool
 |_,[]=>true
 |i,f::a=>f.name !="_"&&Nat.beq f.type e&&Nat.beq f.offset i&&Nu e (i+1) a
theorem N9{e i:Nat}{f:Field}{a:List Field}(h:Nu e i (f::a)=true):f.name≠"_"∧f.type=e∧f.offset=i∧Nu e (i+1) a=true:=by
 simp only[Nu,Bool.and_eq_true] at h;exact⟨by simpa using h.1.1.1,Nat.eq_of_beq_eq_true h.1.1.2,Nat.eq_of_beq_eq_true h.1.2,h.2⟩
section
variable{P:Program}{w:World}
theorem K4{e:TypeId}(he:One P e)(hu:P.underlying e=some (.int .i64))(d:Nat)(x y:List Int):∀(a:List Field) (i:Nat),Nu e i a=true→i+a.length≤x.length→i+a.length≤y.length→
  (Op.eqFields (d+1) (Jk x).toArray (Jk y).toArray a).run P w=.ok ((List.range' i a.length).all fun j=>x.getD j 0==y.getD j 0) w
 |[],i,_,_,_=>by simp[Op.eqFields]
 |f::a,i,h,b,c=>by
  obtain⟨h1,h2,g,k⟩:=N9 h;simp only[List.length_cons] at b c;have ih:=K4 he hu d x y a (i+1) k (by omega) (by omega);simp only[Op.eqFields,h1,ne_eq,not_false_eq_true,if_true,Sem.run_bind,h2,g,JF he x i (by omega),JF he y i (by omega),L2 hu,Result.andThen_ok,List.length_cons,List.range'_succ,List.all_cons];cases hb:(x.getD i 0==y.getD i 0)
  ·simp
  ·simpa using ih
theorem Kx{K e:Nat}{a:Array Field}(n:Nat)(hK:P.underlying K=some (.struct a))(hs:P.stoodInHeld K=false)(hf:Nu e 0 a.toList=true)(hn:a.toList.length=n)(he:One P e)(hu:P.underlying e=some (.int .i64)):JU P K n:=by
 intro w x y c d;have b:P.fieldsOf K=a:=by simp[Program.fieldsOf,hK]
 have h:=run_equalIn_struct w 9999 K (Jk x).toArray (Jk y).toArray (by rw[b];exact hK) hs;rw[b,K4 he hu 9998 x y a.toList 0 hf (by omega) (by omega),←List.range_eq_range',hn,K3 x y n c d] at h;exact h
theorem L4{K e:Nat}{a:Array Field}(n:Nat)(hK:P.underlying K=some (.struct a))(hf:Nu e 0 a.toList=true)(hn:a.toList.length=n)(he:One P e)(hu:P.underlying e=some (.int .i64)):M0 P K n:=by
 intro w em x g;have b:∀v:Int,(Instr.checkKey em 9999 e (.int .i64 v)).run P w=.ok () w:=by
  intro v;rw[show(9999:Nat)=9998+1 from rfl,Instr.checkKey];simp only[Sem.run_bind,run_underlying hu,Result.andThen_ok];rfl
 rw[show(10000:Nat)=9999+1 from rfl,EP,Instr.checkKey];simp only[Sem.run_bind,run_underlying hK,Result.andThen_ok];rw[←Array.forIn_toList];have key:∀(L:List Field) (i:Nat),Nu e i L=true→i+L.length≤x.length→(forIn L PUnit.unit (fun f (_:PUnit)=>do
   if f.name≠"_"then
    let v←part f.type (Jk x).toArray f.offset
    Instr.checkKey em 9999 f.type v
    pure PUnit.unit
    pure (ForInStep.yield PUnit.unit)
   else pure (ForInStep.yield PUnit.unit)):Sem PUnit).run P w=.ok PUnit.unit w:=by
  intro L
  induction L with
  |nil=>intro i _ _;simp
  |cons f L ih=>
   intro i h hl;obtain⟨h1,h2,c,d⟩:=N9 h;simp only[List.length_cons] at hl;simp only[List.forIn_cons,Sem.run_bind,h1,ne_eq,not_false_eq_true,if_true,h2,c,JF he x i (by omega),b,Result.andThen_ok,Sem.run_pure];exact ih (i+1) d (by omega)
 have:=key a.toList 0 hf (by omega);simp at this;simp[this]
end
def JG (w:World) (r n:Nat) (L:List (List Int×Int)):Prop:=
 ∃es clock,w.heap[r]?=some (.map es clock)∧es.toList.map (fun e=>(e.key,e.val))=L.map (fun p=>(EP p.1,Value.int .i64 p.2))∧∀p∈L,p.1.length=n
section
variable{w w':World}{r n b:Nat}{L:List (List Int×Int)}
theorem JG.lt(h:JG w r n L):r<w.heap.size:=by obtain⟨es,c,h,_⟩:=h;exact lt_of_block h
theorem JG.ext(h:JG w r n L)(g:Ext w w'):JG w' r n L:=by
 have hl:=h.lt;obtain⟨es,c,h1,h2⟩:=h;exact⟨es,c,(g.block r hl (by simp)).trans h1,h2⟩
theorem JG.NX(h:JG w r n L)(g:If b w w')(a:r≠b):JG w' r n L:=by
 have hl:=h.lt;obtain⟨es,c,h1,h2⟩:=h;exact⟨es,c,(g.block r hl (by simpa using a)).trans h1,h2⟩
end
section
variable{P:Program}{a:Act}{w:World}{dst:Option Tmp}{ty:TypeId}{pos:String}{BR:Array Edge}{g:Option (Nat×Bool)}{K E T r n:Nat}{L:List (List Int×Int)}{k:List Int}
theorem Pg{kind:TypeDesc}(hk:match kind with|.array _ _|.struct _=>True|_=>False)(cs:Array Value):∀(es:List MapEntry) (i:Nat),(∀e∈es,∃ds,e.key=.agg ds)→es≠[]→Instr.findNow kind (.agg cs) es i=none
 |[],_,_,h=>absurd rfl h
 |e::es,i,he,_=>by
  obtain⟨ds,a⟩:=he e (List.mem_cons_self ..);unfold Instr.findNow;rw[a];cases kind<;>simp at hk<;>simp[Instr.sameNow]
theorem IX{o:Obj}(h:w.heap[r]?=some o)(a:∀c e f,o≠.cells c e f):(getObj r).run P w=.ok o w:=by
 unfold getObj;cases o<;>first|exact absurd rfl (a _ _ _)|(simp only[Sem.run,h])
theorem Oa(d:Nat)(x:List Int):Instr.sameBits (d+1) (EP x) (EP x)=true:=by
 unfold EP Instr.sameBits;simp only[beq_self_eq_true,Bool.true_and,List.all_eq_true];rintro⟨u,v⟩ h;rw[List.mem_iff_getElem] at h;obtain⟨i,hi,he⟩:=h;simp only[List.getElem_zip,Prod.mk.injEq] at he;obtain⟨h1,h2⟩:=he;subst h1;subst h2;simp only[Jk,List.getElem_map];cases d<;>simp[Instr.sameBits]
end
theorem JG.t2{w w':World}{r ph b n:Nat}{L:List (List Int×Int)}{M:World→Prop}(h:JG w b n L)(g:T2 w r M ph w')(a:b≠r):JG w' b n L:=h.NX (N6 g) a
end Go.Proofs.YtcdofnchafcfpaaGreat
end
section
namespace Go.Proofs.YtcdofnchafcfpaaGreat
open Go.RowKit
def EJ (w:World) (base:Nat) (e:TypeId) (sz:Nat) (A:Option Addr) (n c:Nat) (xs:List Value):Prop:=w.ownsRow base e sz (.slice A n c) n xs
section
variable{w w':World}{base:Nat}{e:TypeId}{sz:Nat}{A:Option Addr}{n c:Nat}{xs:List Value}
theorem EJ.nil(w:World)(base:Nat)(e:TypeId)(sz:Nat):EJ w base e sz none 0 0 []:=World.ownsRow_nil w base e sz
theorem EJ.len(h:EJ w base e sz A n c xs):xs.length=n*sz:=h.1
theorem EJ.rd(h:EJ w base e sz A n c xs):Rd w base w.heap.size A xs:=by
 refine⟨Nat.le_refl _,?_⟩;rcases h.2 with⟨_,h0⟩|⟨g,cap,cur,a,b,d,_,_,_,_⟩
 ·exact .inl (List.eq_nil_of_length_eq_zero (by rw[h.1,h0,Nat.zero_mul]))
 ·refine .inr ⟨g,0,?_,b,lt_of_block d,fun j u hu=>?_⟩
  ·cases a;rfl
  ·have:=World.ownsRow.cells h (g:=g) (by cases a;rfl) j u hu;rw[Gf] at this;exact this
theorem EJ.kept(h:EJ w base e sz A n c xs){r:Option Nat}(g:w.grownBy w' r)(a:∀k,r=some k→∀o,A≠some ⟨k,o,none⟩):EJ w' base e sz A n c xs:=
 World.ownsRow.kept h g (by
  rcases h.2 with⟨h0,_⟩|⟨b,cap,cur,d,_⟩
  ·exact .inl (by rw[h0];rfl)
  ·refine .inr ?_;cases d;intro he;exact a b (by simpa[Value.ownBlock] using he.symm) 0 rfl)
theorem EJ.ext(h:EJ w base e sz A n c xs)(g:Ext w w'):EJ w' base e sz A n c xs:=h.kept g (fun _ e=>by cases e)
theorem EJ.PA (h:EJ w base e sz A n c xs) {k o:Nat} (b:A=some ⟨k,o,none⟩):base≤k∧k<w.heap.size∧∃cur,w.heap[k]?=some (.cells cur e (0,0)):=by
 subst b;rcases h.2 with⟨h0,_⟩|⟨g,cap,cur,d,hb,a,_⟩
 ·cases h0
 ·cases d;exact⟨hb,lt_of_block a,cur,a⟩
theorem EJ.NX{r:Nat}(h:EJ w base e sz A n c xs)(g:If r w w')(d:r<base):EJ w' base e sz A n c xs:=h.kept g (fun k a o b=>by
 cases a;have:=(h.PA b).1;omega)
theorem Rd.pre{α:Type}{enc:α→List Value}{lo hi:Nat}{A:Option Addr}{xs:List α}(h:Rd w lo hi A (flat enc xs))(k:Nat):Rd w lo hi A (flat enc (xs.take k)):=by
 refine⟨h.1,?_⟩;have e:flat enc xs=flat enc (xs.take k)++flat enc (xs.drop k):=by unfold flat;rw[←List.flatMap_append,List.take_append_drop]
 rcases h.2 with h0|⟨b,o,a,hl,c,hc⟩
 ·refine .inl ?_;rw[e] at h0;exact(List.append_eq_nil_iff.1 h0).1
 ·refine .inr ⟨b,o,a,hl,c,fun j u hu=>hc j u ?_⟩;rw[e,List.getElem?_append_left (List.getElem?_eq_some_iff.1 hu).1];exact hu
theorem Bk.bw{b B:Nat}{t:TypeId}{cs:Array Value}(h:Bk w b t cs)(g:Below B w w')(hb:b<B):Bk w' b t cs:=(g.block b hb).trans h
theorem Rd.bw{lo hi B:Nat}{A:Option Addr}{cs:List Value}(h:Rd w lo hi A cs)(g:Below B w w')(a:hi≤B):Rd w' lo hi A cs:=h.NY g a
theorem Bk.row {b:Nat} {t:TypeId} {cs:Array Value} (h:EJ w base e sz A n c xs) {w1 w2:World} (hb:Bk w1 b t cs) (hn:w.heap.size≤b) (g:w1.grownBy w2 (Value.ownBlock (.slice A n c))):Bk w2 b t cs:=
 (g.block b hb.lt (fun e=>by
  cases A with
  |none=>cases e
  |some ad=>
   have:b=ad.block:=by simpa[Value.ownBlock] using e
   rcases h.2 with⟨h0,_⟩|⟨g,cap,cur,a,_,d,_⟩
   ·cases h0
   ·cases a;have:=lt_of_block d;simp only at*;omega)).trans hb
end
section
variable{P:Program}{a:Act}{w:World}{dst:Option Tmp}{ty:TypeId}{pos:String}{BR:Array Edge}{g:Option (Nat×Bool)}
theorem Ud {t e:TypeId} {i:TypeInfo} {z:Value} {sz:Nat} (r:P.underlying t=some (.slice e)) (hi:P.info? e=some i) (y:i.zero=some z) (l:i.size=sz) (aG:z.cells.size=sz)
  {A s:Option Addr} {n c c' base m cap:Nat} {xs news:List Value} {ad:Addr} {w':World} (d:EJ w base e sz A n c xs) (hl:news.length=m*sz) (a:∀j u,news[j]?=some u→w.cell? (ad.add j)=some u) (h1:∀u∈news,u.oneCell'=true)
  (aA:n+m≤maxLen) (b:(n+m)*i.bytes≤140737488355328) (h:(Builtin.append_ #[t,t] ty #[.slice A n c,.slice (some ad) m cap]).run P w=.ok (.slice s (n+m) c') w')
  (v:(Value.slice s (n+m) c'=.slice none 0 0↔Value.slice A n c=.slice none 0 0∧m=0)):Ext w w'∨(s=A∧c'=c):=by
 subst l;have aB:n+m≤9223372036854775807:=by simp only[maxLen] at aA;omega
 have q:∀o:Obj,Ext w (w.drew.alloc o):=fun o=>Ext.trans (B9 w) (World.grownBy_alloc _ _ _);rcases d.2 with⟨k,h0⟩|⟨p,aE,cur,k,aH,aF,aI,aJ,aC,aD⟩
 ·cases k;rcases Nat.eq_zero_or_pos m with rfl|hm
  ·have:=v.2 ⟨rfl,rfl⟩;exact .inr (by cases this;exact⟨rfl,rfl⟩)
  ·have:=run_append_nil (P:=P) w t ty e i z r hi y ad m cap news hl a (by omega) (by omega) (by have hb:=b;simp only[Nat.zero_add] at hb;omega);rw[this] at h;injection h with _ hw
   exact .inl (hw▸q _)
 ·cases k
  by_cases f:n+m≤c
  ·have x:n*i.size+news.length≤cur.size:=by rw[hl,aC,←Nat.add_mul];exact Nat.mul_le_mul_right _ f
   have:=run_append_room (P:=P) w t ty e i r hi p n c cur aF ad m cap news hl a h1 f x;rw[this] at h;injection h with k _
   exact .inr (by cases k;exact⟨rfl,rfl⟩)
  ·have holds:∀j u,xs[j]?=some u→w.cell? ((⟨p,0,none⟩:Addr).add j)=some u:=World.ownsRow.cells d (g:=p) rfl;have:=run_append_grow (P:=P) w t ty e i z r hi y ⟨p,0,none⟩ n c xs d.1 holds ad m cap news hl a (by omega) (by omega) (growslice_fits (by omega) b);rw[this] at h;injection h with _ hw
   exact .inl (hw▸q _)
theorem Rb {s x:Operand} {t e:TypeId} {z:Value} {sz bytes:Nat} (aC:P.underlying t=some (.slice e)) (hi:(P.info? e).map (fun i=>(i.zero,i.size,i.bytes))=some (some z,sz,bytes)) (r:z.cells.size=sz) (aD:0<sz)
  {A:Option Addr} {n c base:Nat} {xs news:List Value} {m cap:Nat} {ad:Addr} (hs:a.eval s=.slice A n c) (aF:a.eval x=.slice (some ad) m cap) (l:EJ w base e sz A n c xs)
  (p:∀j u,news[j]?=some u→w.cell? (ad.add j)=some u)
  (hl:news.length=m*sz) (h1:∀u∈news,u.oneCell'=true) (y:n+m≤maxLen) (f:(n+m)*bytes≤140737488355328) (q:base≤w.heap.size):
  BW P ⟨dst,.call {callee:=.builtin .append,args:= #[s,x],argTypes:= #[t,t]},ty,pos,BR,g⟩ a w (fun v w'=>∃b c',v=.slice b (n+m) c'∧EJ w' base e sz b (n+m) c' (xs++news)∧w.grownBy w' (Value.ownBlock (.slice A n c))∧(Ext w w'∨(b=A∧c'=c))∧(∀k o,b=some ⟨k,o,none⟩→(∃o',A=some ⟨k,o',none⟩)∨w.heap.size≤k)):=by
 cases d:P.info? e with
 |none=>simp[d] at hi
 |some i=>
  simp only[d,Option.map_some,Option.some.injEq,Prod.mk.injEq] at hi;obtain⟨v',w',aE,h2,aG,aH,h5⟩:=run_append_own_at (P:=P) w base t ty e i z sz bytes aC d hi.1 hi.2.1 hi.2.2 r aD (.slice A n c) n xs l ad m cap news hl p h1 y f q;have he:(execOp a.eval ⟨dst,.call {callee:=.builtin .append,args:= #[s,x],argTypes:= #[t,t]},ty,pos,BR,g⟩).run P w=.ok (.value v') w':=by
   unfold execOp;simp only[resolve,invoke,builtin,Sem.run_bind,Sem.run_pure,Result.andThen_ok,List.map_toArray,List.map_cons,List.map_nil,hs,aF,aE]
  have key:∃b c',v'=.slice b (n+m) c'∧EJ w' base e sz b (n+m) c' (xs++news):=by
   rcases h2.2 with⟨rfl,h0⟩|⟨aI,aA,cur,rfl,_⟩
   ·refine⟨none,0,by rw[h0],?_⟩;have:=h2;rw[h0] at this⊢;exact this
   ·exact⟨_,_,rfl,h2⟩
  obtain⟨b,c',rfl,aJ⟩:=key;unfold BW;rw[he];refine⟨b,c',rfl,aJ,aG,Ud aC d hi.1 hi.2.1 r l hl p h1 y (by rw[hi.2.2];exact f) aE aH,?_⟩;rintro k o rfl;rcases h5 with h|h
  ·left;cases A with
   |none=>simp[Value.ownBlock] at h
   |some ad=>
    have hk:k=ad.block:=by simpa[Value.ownBlock] using h
    rcases l.2 with⟨aB,_⟩|⟨aI,aA,cur,aB,_⟩
    ·cases aB
    ·cases aB;exact⟨0,by rw[hk]⟩
  ·right;have:k=w.heap.size:=by simpa[Value.ownBlock] using h
   omega
theorem EJ.new{w w':World}{b base:Nat}{e:TypeId}{sz:Nat}(h:J1 w w' b e #[])(hb:base≤w.heap.size):EJ w' base e sz (some ⟨b,0,none⟩) 0 0 []:=
 ⟨by simp,.inr ⟨b,0, #[],rfl,by rw[h.Dl];exact hb,h.bk,Nat.le_refl _,by simp[maxLen],by simp,by simp⟩⟩
theorem TH{x y:Operand}{t u:TypeId}{A B:Option Addr}{n c m d:Nat}{b:Bool}(e:a.eval x=.slice A n c)(f:a.eval y=.slice B m d)(h1:(eqGuard .eql t x y (.slice A n c) (.slice B m d)).run P w=.ok () w)(h2:(Op.equal t (.slice A n c) (.slice B m d)).run P w=.ok b w):BW P ⟨dst,.binOp .eql t x y u,ty,pos,BR,g⟩ a w (fun v w'=>v=.bool b∧w'=w):=
 CH (by simp[execOp,e,f,binOp,h1,h2])
end
structure Mv (w:World) (Z:Nat→Prop) (w':World) (Z':Nat→Prop):Prop where
 size:w.heap.size≤w'.heap.size
 stay:∀b,Z b→b<w.heap.size→Z' b∧w'.heap[b]?=w.heap[b]?
theorem Mv.refl(w:World)(Z:Nat→Prop):Mv w Z w Z:=⟨Nat.le_refl _,fun _ h _=>⟨h,rfl⟩⟩
theorem Mv.trans{w1 w2 a:World}{c d e:Nat→Prop}(h:Mv w1 c w2 d)(k:Mv w2 d a e):Mv w1 c a e:=
 ⟨Nat.le_trans h.size k.size,fun b hb hl=>by
  obtain⟨h1,h2⟩:=h.stay b hb hl;obtain⟨f,g⟩:=k.stay b h1 (Nat.lt_of_lt_of_le hl h.size);exact⟨f,g.trans h2⟩⟩
theorem Ab{w w':World}{Z:Nat→Prop}(h:Ext w w'):Mv w Z w' Z:=⟨h.size,fun b hb hl=>⟨hb,h.block b hl (by simp)⟩⟩
theorem JV{w:World}{Z Z':Nat→Prop}(h:∀b,Z b→b<w.heap.size→Z' b):Mv w Z w Z':=⟨Nat.le_refl _,fun b hb hl=>⟨h b hb hl,rfl⟩⟩
def ZA:Nat→Prop:=fun _=>True
theorem K5{w:World}{Z:Nat→Prop}:Mv w Z w ZA:=JV fun _ _ _=>trivial
def Rz (w:World) (Z:Nat→Prop) (A:Option Addr) (cs:List Value):Prop:=
 cs=[]∨∃b o,A=some ⟨b,o,none⟩∧Z b∧b<w.heap.size∧∀j u,cs[j]?=some u→w.cell? ⟨b,o+j,none⟩=some u
theorem Rz.mv{w w':World}{Z Z':Nat→Prop}{A:Option Addr}{cs:List Value}(h:Rz w Z A cs)(g:Mv w Z w' Z'):Rz w' Z' A cs:=
 h.imp id fun⟨b,o,d,c,hl,hc⟩=>⟨b,o,d,(g.stay b c hl).1,Nat.lt_of_lt_of_le hl g.size,fun j u hu=>
  (World.cell?_of_block (a:=⟨b,o+j,none⟩) (g.stay b c hl).2).trans (hc j u hu)⟩
theorem Rz.cells{w:World}{Z:Nat→Prop}{b o:Nat}{cs:List Value}(h:Rz w Z (some ⟨b,o,none⟩) cs):∀j u,cs[j]?=some u→w.cell? ⟨b,o+j,none⟩=some u:=by
 rcases h with rfl|⟨b',o',a,_,_,hc⟩
 ·simp
 ·cases a;exact hc
theorem Rz.rd{w:World}{Z:Nat→Prop}{A:Option Addr}{cs:List Value}(h:Rz w Z A cs):Rd w 0 w.heap.size A cs:=
 ⟨Nat.le_refl _,h.imp id fun⟨b,o,a,_,hl,hc⟩=>⟨b,o,a,Nat.zero_le _,hl,hc⟩⟩
theorem Ob{w:World}{lo hi:Nat}{A:Option Addr}{cs:List Value}{Z:Nat→Prop}(h:Rd w lo hi A cs)(a:∀b,lo≤b→b<hi→Z b):Rz w Z A cs:=
 h.2.imp id fun⟨b,o,c,h1,h2,hc⟩=>⟨b,o,c,a b h1 h2,Nat.lt_of_lt_of_le h2 h.1,hc⟩
structure Ci (α:Type) where
 sz:Nat
 R:World→(Nat→Prop)→List Value→α→Prop
 len:∀{w Z cs x},R w Z cs x→cs.length=sz
 one:∀{w Z cs x},R w Z cs x→∀u∈cs,u.oneCell'=true
 mv:∀{w Z w' Z' cs x},R w Z cs x→Mv w Z w' Z'→R w' Z' cs x
def R2{α:Type}(e:Ci α)(w:World)(Z:Nat→Prop):List (List Value)→List α→Prop
 |[],[]=>True
 |c::cs,x::xs=>e.R w Z c x∧R2 e w Z cs xs
 |_,_=>False
section
variable{α:Type}{e:Ci α}{w w':World}{Z Z':Nat→Prop}
theorem R2.len:∀{Bu:List (List Value)} {xs:List α},R2 e w Z Bu xs→Bu.length=xs.length
 |[],[],_=>rfl
 |_::_,_::_,h=>by simp[R2.len h.2]
 |[],_::_,h=>h.elim
 |_::_,[],h=>h.elim
theorem R2.mv(g:Mv w Z w' Z'):∀{Bu:List (List Value)} {xs:List α},R2 e w Z Bu xs→R2 e w' Z' Bu xs
 |[],[],_=>trivial
 |_::_,_::_,h=>⟨e.mv h.1 g,R2.mv g h.2⟩
 |[],_::_,h=>h.elim
 |_::_,[],h=>h.elim
theorem R2.one:∀{Bu:List (List Value)} {xs:List α},R2 e w Z Bu xs→∀u∈Bu.flatten,u.oneCell'=true
 |[],[],_=>by simp
 |c::cs,_::_,h=>by
  intro u hu;rw[List.flatten_cons,List.mem_append] at hu;exact hu.elim (e.one h.1 u) (R2.one h.2 u)
 |[],_::_,h=>h.elim
 |_::_,[],h=>h.elim
theorem R2.Ma:∀{Bu:List (List Value)} {xs:List α},R2 e w Z Bu xs→Bu.flatten.length=xs.length*e.sz
 |[],[],_=>by simp
 |c::cs,_::xs,h=>by
  rw[List.flatten_cons,List.length_append,e.len h.1,R2.Ma h.2,List.length_cons,Nat.add_mul,Nat.one_mul,Nat.add_comm]
 |[],_::_,h=>h.elim
 |_::_,[],h=>h.elim
theorem R2.get:∀{Bu:List (List Value)} {xs:List α},R2 e w Z Bu xs→∀{k:Nat} {x:α},xs[k]?=some x→∃c,Bu[k]?=some c∧e.R w Z c x∧(Bu.flatten.drop (k*e.sz)).take e.sz=c
 |[],[],_,k,x,hk=>by simp at hk
 |c::cs,y::xs,h,0,x,hk=>by
  obtain rfl:y=x:=by simpa using hk
  refine⟨c,rfl,h.1,?_⟩;have hl:=e.len h.1;rw[Nat.zero_mul,List.drop_zero,List.flatten_cons,List.take_append_of_le_length (by rw[hl];exact Nat.le_refl _),List.take_of_length_le (by rw[hl];exact Nat.le_refl _)]
 |c::cs,y::xs,h,k+1,x,hk=>by
  obtain⟨c',h1,h2,a⟩:=R2.get h.2 (k:=k) (x:=x) (by simpa using hk);refine⟨c',by simpa using h1,h2,?_⟩;rw[←a,List.flatten_cons,List.drop_append,e.len h.1,List.drop_of_length_le (by rw[e.len h.1,Nat.add_mul];omega),List.nil_append]
  congr 2
  rw[Nat.add_mul];omega
 |[],_::_,h,_,_,_=>h.elim
 |_::_,[],h,_,_,_=>h.elim
theorem R2.append:∀{Bu a:List (List Value)} {xs ys:List α},R2 e w Z Bu xs→R2 e w Z a ys→R2 e w Z (Bu++a) (xs++ys)
 |[],_,[],_,_,h=>h
 |_::_,_,_::_,_,h,k=>⟨h.1,R2.append h.2 k⟩
 |[],_,_::_,_,h,_=>h.elim
 |_::_,_,[],_,h,_=>h.elim
theorem R2.drop:∀(k:Nat) {Bu:List (List Value)} {xs:List α},R2 e w Z Bu xs→R2 e w Z (Bu.drop k) (xs.drop k)
 |0,_,_,h=>h
 |k+1,[],[],_=>trivial
 |k+1,_::cs,_::xs,h=>by simpa using R2.drop k h.2
 |_+1,[],_::_,h=>h.elim
 |_+1,_::_,[],h=>h.elim
theorem R2.take:∀(k:Nat) {Bu:List (List Value)} {xs:List α},R2 e w Z Bu xs→R2 e w Z (Bu.take k) (xs.take k)
 |0,_,_,_=>trivial
 |k+1,[],[],_=>trivial
 |k+1,_::cs,_::xs,h=>⟨h.1,R2.take k h.2⟩
 |_+1,[],_::_,h=>h.elim
 |_+1,_::_,[],h=>h.elim
theorem R2.set{x:α}{c:List Value}(a:e.R w Z c x):∀(k:Nat) {Bu:List (List Value)} {xs:List α},R2 e w Z Bu xs→R2 e w Z (Bu.set k c) (xs.set k x)
 |_,[],[],_=>trivial
 |0,_::_,_::_,h=>⟨a,h.2⟩
 |k+1,_::cs,_::xs,h=>⟨h.1,R2.set a k h.2⟩
 |_,[],_::_,h=>h.elim
 |_,_::_,[],h=>h.elim
end
def Sl {α:Type} (e:Ci α) (w:World) (Z:Nat→Prop) (A:Option Addr) (c:Nat) (xs:List α):Prop:=
 xs.length≤c∧(A=none→c=0)∧∃Bu,R2 e w Z Bu xs∧Rz w Z A Bu.flatten
section
variable{α:Type}{e:Ci α}{w w':World}{Z Z':Nat→Prop}{A:Option Addr}{c:Nat}{xs:List α}
theorem Sl.mv(h:Sl e w Z A c xs)(g:Mv w Z w' Z'):Sl e w' Z' A c xs:=⟨h.1,h.2.1,h.2.2.imp fun _ ⟨h1,h2⟩=>⟨h1.mv g,h2.mv g⟩⟩
theorem Sl.all(h:Sl e w Z A c xs):Sl e w ZA A c xs:=h.mv K5
theorem Sl.nil(e:Ci α)(w:World)(Z:Nat→Prop):Sl e w Z none 0 []:=⟨Nat.le_refl _,fun _=>rfl,[],trivial,.inl rfl⟩
theorem Sl.elem (h:Sl e w Z A c xs) (h0:0<e.sz) {k:Nat} {x:α} (hk:xs[k]?=some x):∃b o cs,A=some ⟨b,o,none⟩∧e.R w Z cs x∧Rz w Z (some ⟨b,o+k*e.sz,none⟩) cs:=by
 obtain⟨-,-,Bu,h2,f⟩:=h;obtain⟨cs,hc,g,a⟩:=h2.get hk;have hl:=e.len g;have n:k<Bu.length:=(List.getElem?_eq_some_iff.1 hc).1;rcases f with f|⟨b,o,l,m,i,d⟩
 ·rw[f] at a;simp at a;subst a;simp at hl;omega
 ·refine⟨b,o,cs,l,g,.inr ⟨b,_,rfl,m,i,fun j u hu=>?_⟩⟩;rw[Nat.add_assoc];refine d _ _ ?_;subst a;rw[List.getElem?_take] at hu;split at hu
  ·simpa using hu
  ·cases hu
theorem Sl.CZ(h:Sl e w Z A c xs)(h1:e.sz=1){k:Nat}{x:α}(hk:xs[k]?=some x):∃b o cs,A=some ⟨b,o,none⟩∧e.R w Z cs x∧Rz w Z (some ⟨b,o+k,none⟩) cs:=by
 obtain⟨b,o,cs,h2,d,a⟩:=h.elem (by omega) hk;rw[h1,Nat.mul_one] at a;exact⟨b,o,cs,h2,d,a⟩
end
def Ao(k:IntKind):Ci Int:=⟨1,fun _ _ cs x=>cs=[.int k x],fun h=>by rw[h];rfl,fun h=>by rw[h];simp[Value.oneCell'],fun h _=>h⟩
def Xz:Ci Bool:=⟨1,fun _ _ cs x=>cs=[.bool x],fun h=>by rw[h];rfl,fun h=>by rw[h];simp[Value.oneCell'],fun h _=>h⟩
def BJ{α:Type}(e:Ci α):Ci (List α):=
 ⟨1,fun w Z cs xs=>∃A c,cs=[.slice A xs.length c]∧Sl e w Z A c xs,fun⟨_,_,h,_⟩=>by rw[h];rfl,fun⟨_,_,h,_⟩=>by rw[h];simp[Value.oneCell'],
  fun⟨A,c,h1,h2⟩ g=>⟨A,c,h1,h2.mv g⟩⟩
structure VE (α:Type) where
 R:World→(Nat→Prop)→Value→α→Prop
 mv:∀{w Z w' Z' v x},R w Z v x→Mv w Z w' Z'→R w' Z' v x
def DD(k:IntKind):VE Int:=⟨fun _ _ v x=>v=.int k x,fun h _=>h⟩
def Bn:VE Bool:=⟨fun _ _ v x=>v=.bool x,fun h _=>h⟩
def HD{α:Type}(e:Ci α):VE (List α):=⟨fun w Z v xs=>∃A c,v=.slice A xs.length c∧Sl e w Z A c xs,fun⟨A,c,h1,h2⟩ g=>⟨A,c,h1,h2.mv g⟩⟩
def Dp{α:Type}(e:Ci α):VE α:=⟨fun w Z v x=>∃cs,v=.agg cs.toArray∧e.R w Z cs x,fun h g=>h.imp fun _ h=>⟨h.1,e.mv h.2 g⟩⟩
def Rc{α β:Type}(a:VE α)(b:VE β):VE (α×β):=⟨fun w Z v x=>∃u t,v=.tuple #[u,t]∧a.R w Z u x.1∧b.R w Z t x.2,fun⟨u,t,h,h1,h2⟩ g=>⟨u,t,h,a.mv h1 g,b.mv h2 g⟩⟩
def Y6{α β e:Type}(a:VE α)(b:VE β)(c:VE e):VE (α×β×e):=
 ⟨fun w Z v x=>∃u t s,v=.tuple #[u,t,s]∧a.R w Z u x.1∧b.R w Z t x.2.1∧c.R w Z s x.2.2,fun⟨u,t,s,h,h1,h2,d⟩ g=>⟨u,t,s,h,a.mv h1 g,b.mv h2 g,c.mv d g⟩⟩
def Kv{α:Type}(v:VE α)(Z:Nat→Prop)(x:α):KR Ext:=⟨fun u w=>v.R w Z u x,fun _ _ _ h g=>v.mv h (Ab g)⟩
def ob:Option Addr→Option Nat:=Option.map (·.block)
theorem V3(A:Option Addr)(n c:Nat):Value.ownBlock (.slice A n c)=ob A:=by cases A<;>rfl
def FN:Nat→Prop:=fun _=>False
def FU (F:Nat→Prop) (M:List (Option Nat)):Nat→Prop:=fun k=>F k∨some k∈M
structure Br (D:Nat→Prop) (w w':World):Prop where
 os:w'.os=w.os
 tape:w'.tape=w.tape
 output:w'.output=w.output
 size:w.heap.size≤w'.heap.size
 block:∀k,k<w.heap.size→¬D k→w'.heap[k]?=w.heap[k]?
section
variable{D D' F F':Nat→Prop}{M M':List (Option Nat)}{w w' Bi:World}
theorem Br.refl(D:Nat→Prop)(w:World):Br D w w:=⟨rfl,rfl,rfl,Nat.le_refl _,fun _ _ _=>rfl⟩
theorem Br.trans(h:Br D w w')(k:Br D w' Bi):Br D w Bi:=
 ⟨k.os.trans h.os,k.tape.trans h.tape,k.output.trans h.output,Nat.le_trans h.size k.size,fun b hb a=>(k.block b (Nat.lt_of_lt_of_le hb h.size) a).trans (h.block b hb a)⟩
theorem Br.mono(h:Br D w w')(a:∀k,D k→D' k):Br D' w w':=⟨h.os,h.tape,h.output,h.size,fun b hb hn=>h.block b hb fun c=>hn (a b c)⟩
theorem JH{r:Option Nat}(g:w.grownBy w' r)(a:∀k,r=some k→D k):Br D w w':=⟨g.os,g.tape,g.output,g.size,fun b hb hn=>g.block b hb fun e=>hn (a b e.symm)⟩
theorem EK(g:Ext w w'):Br D w w':=JH g fun _ e=>by cases e
theorem Br.gr{r:Option Nat}(g:Br (fun k=>some k=r) w w'):w.grownBy w' r:=⟨g.os,g.tape,g.output,g.size,fun b hb hn=>g.block b hb hn⟩
theorem Br.ext(g:Br (FU FN []) w w'):Ext w w':=⟨g.os,g.tape,g.output,g.size,fun b hb _=>g.block b hb (by rintro(h|h);exact h;cases h)⟩
theorem Br.fl{M2:List (Option Nat)}(g:Br (FU (FU F M) M2) w w'):Br (FU F (M++M2)) w w':=g.mono fun k h=>by
 rcases h with(h|h)|h
 ·exact .inl h
 ·exact .inr (List.mem_append_left _ h)
 ·exact .inr (List.mem_append_right _ h)
theorem Bk.B5{b:Nat}{t:TypeId}{cs:Array Value}(h:Bk w b t cs)(g:Br D w w')(a:¬D b):Bk w' b t cs:=(g.block b h.lt a).trans h
theorem Bk.gr{b:Nat}{t:TypeId}{cs:Array Value}{r:Option Nat}(h:Bk w b t cs)(g:w.grownBy w' r)(a:some b≠r):Bk w' b t cs:=(g.block b h.lt a).trans h
end
def ZZ (F:Nat→Prop) (B:List (Option Nat)) (Z:Nat→Prop) (n0:Nat) (L:List (Option Nat)):Nat→Prop:=fun b=>(b<n0∧Z b∧¬F b∧some b∉B)∨(n0≤b∧some b∉L)
def ZC (F:Nat→Prop) (M:List (Option Nat)):Nat→Prop:=fun b=>¬F b∧some b∉M
theorem He{F:Nat→Prop}{M:List (Option Nat)}:∀b,ZC F M b→¬F b∧some b∉M:=fun _ h=>h
def Hh (L:List (Option Nat)):List Nat→List (Option Nat)→Prop
 |[],[]=>True
 |j::a,m::M=>L[j]?=some m∧Hh L a M
 |_,_=>False
theorem Hh.mem{L:List (Option Nat)}:∀{b:List Nat} {M:List (Option Nat)},Hh L b M→∀x∈M,∃j∈b,L[j]?=some x
 |[],[],_,x,a=>by cases a
 |j::b,m::M,h,x,a=>by
  rcases List.mem_cons.1 a with rfl|a
  ·exact⟨j,List.mem_cons_self ..,h.1⟩
  ·obtain⟨i,hi,he⟩:=Hh.mem h.2 x a;exact⟨i,List.mem_cons_of_mem _ hi,he⟩
 |[],_::_,h,_,_=>h.elim
 |_::_,[],h,_,_=>h.elim
theorem Hh.get{L:List (Option Nat)}:∀{b:List Nat} {M:List (Option Nat)},Hh L b M→∀(i:Nat) x,M[i]?=some x→∃j,b[i]?=some j∧L[j]?=some x
 |[],[],_,i,x,a=>by simp at a
 |j::b,m::M,h,0,x,a=>by
  obtain rfl:m=x:=by simpa using a
  exact⟨j,rfl,h.1⟩
 |j::b,m::M,h,i+1,x,a=>by
  obtain⟨k,hk,he⟩:=Hh.get h.2 i x (by simpa using a);exact⟨k,by simpa using hk,he⟩
 |[],_::_,h,_,_,_=>h.elim
 |_::_,[],h,_,_,_=>h.elim
theorem Hh.sub{L:List (Option Nat)}{a:List Nat}{M:List (Option Nat)}(h:Hh L a M):∀x∈M,x∈L:=fun x b=>by
 obtain⟨j,_,he⟩:=h.mem x b;exact List.mem_of_getElem? he
def Kf:List Nat→Bool
 |[]=>true
 |x::l=>l.all (fun y=> !Nat.beq x y)&&Kf l
theorem Ky:∀{l:List Nat},Kf l=true→∀(i j k:Nat),l[i]?=some k→l[j]?=some k→i=j
 |[],_,i,j,k,hi,_=>by simp at hi
 |x::l,h,i,j,k,hi,a=>by
  simp only[Kf,Bool.and_eq_true,List.all_eq_true] at h;have key:∀(m:Nat),l[m]?=some x→False:=fun m hm=>by
   have:=h.1 x (List.mem_of_getElem? hm);rw[Nat.beq_refl] at this;cases this
  cases i with
  |zero=>
   obtain rfl:x=k:=by simpa using hi
   cases j with
   |zero=>rfl
   |succ j=>exact(key j (by simpa using a)).elim
  |succ i=>
   cases j with
   |zero=>
    obtain rfl:x=k:=by simpa using a
    exact(key i (by simpa using hi)).elim
   |succ j=>rw[Ky h.2 i j k (by simpa using hi) (by simpa using a)]
structure Bp (F:Nat→Prop) (B:List (Option Nat)) (w:World):Prop where
 lt:∀k,some k∈B→k<w.heap.size∧¬F k
 ap:∀(i j:Nat) (x:Nat),i≠j→B[i]?=some (some x)→B[j]?≠some (some x)
 ff:∀k,F k→k<w.heap.size
theorem Bp.none(w:World):Bp FN [] w:=⟨fun _ h=>(by cases h),fun _ _ _ _ h=>by simp at h,fun _ h=>h.elim⟩
theorem Bp.grow{F:Nat→Prop}{B:List (Option Nat)}{w w':World}(h:Bp F B w)(hs:w.heap.size≤w'.heap.size):Bp F B w':=
 ⟨fun k hk=>⟨Nat.lt_of_lt_of_le (h.lt k hk).1 hs,(h.lt k hk).2⟩,h.ap,fun k hk=>Nat.lt_of_lt_of_le (h.ff k hk) hs⟩
structure Hp (F:Nat→Prop) (B:List (Option Nat)) (w0:World) (L:List (Option Nat)) (w:World):Prop where
 ch:Br (FU F B) w0 w
 lo:∀k,some k∈L→k<w.heap.size∧¬F k∧(k<w0.heap.size→some k∈B)
 ap:∀(i j:Nat) (x:Nat),i≠j→L[i]?=some (some x)→L[j]?≠some (some x)
 ff:∀k,F k→k<w0.heap.size
theorem Hp.start{F:Nat→Prop}{B:List (Option Nat)}{w:World}(h:Bp F B w):Hp F B w B w:=⟨Br.refl _ _,fun k hk=>⟨(h.lt k hk).1,(h.lt k hk).2,fun _=>hk⟩,h.ap,h.ff⟩
section
variable{F F':Nat→Prop}{B:List (Option Nat)}{w0 w w':World}{Z Z':Nat→Prop}{L L' M:List (Option Nat)}
theorem Hp.sz(h:Hp F B w0 L w):w0.heap.size≤w.heap.size:=h.ch.size
theorem Hp.B5(h:Hp F B w0 L w){D:Nat→Prop}(g:Br D w w')(a:∀k,D k→F k∨some k∈L):Hp F B w0 L w':=by
 refine⟨⟨g.os.trans h.ch.os,g.tape.trans h.ch.tape,g.output.trans h.ch.output,Nat.le_trans h.sz g.size,fun k hk hn=>?_⟩,fun k hk=>⟨Nat.lt_of_lt_of_le (h.lo k hk).1 g.size,(h.lo k hk).2⟩,h.ap,h.ff⟩;refine(g.block k (Nat.lt_of_lt_of_le hk h.sz) fun b=>?_).trans (h.ch.block k hk hn);rcases a k b with h1|h1
 ·exact hn (.inl h1)
 ·exact hn (.inr ((h.lo k h1).2.2 hk))
theorem Hp.ext(h:Hp F B w0 L w)(g:Ext w w'):Hp F B w0 L w':=h.B5 (D:=FN) (EK g) fun _ h=>h.elim
theorem Hp.gr(h:Hp F B w0 L w){r:Option Nat}(g:w.grownBy w' r)(i:Nat)(hi:L[i]?=some r):Hp F B w0 L w':=
 h.B5 (D:=fun k=>some k=r) (JH g fun _ e=>e.symm) fun k e=>.inr (by rw[e];exact List.mem_of_getElem? hi)
theorem Hp.new(h:Hp F B w0 L w)(g:Ext w w'){b:Nat}(hb:w.heap.size≤b)(hs:b<w'.heap.size):Hp F B w0 (some b::L) w':=by
 have d:=h.ext g;refine⟨d.ch,fun k hk=>?_,?_,h.ff⟩
 ·rcases List.mem_cons.1 hk with e|hk
  ·cases e;exact⟨hs,fun l=>absurd (h.ff _ l) (by have:=h.sz;omega),fun hl=>absurd hl (by have:=h.sz;omega)⟩
  ·exact d.lo k hk
 ·have key:∀(j:Nat) (x:Nat),L[j]?=some (some x)→x≠b:=fun j x m e=>by
   have:=(h.lo x (List.mem_of_getElem? m)).1;omega
  intro i j x f hi a;cases i with
  |zero=>
   cases j with
   |zero=>exact f rfl
   |succ j=>
    have c:b=x:=by simpa using hi
    exact key j x (by simpa using a) c.symm
  |succ i=>
   cases j with
   |zero=>
    have c:b=x:=by simpa using a
    exact key i x (by simpa using hi) c.symm
   |succ j=>exact h.ap i j x (by omega) (by simpa using hi) (by simpa using a)
theorem Hp.nil(h:Hp F B w0 L w):Hp F B w0 (none::L) w:=by
 refine⟨h.ch,fun k hk=>h.lo k (by simpa using hk),?_,h.ff⟩;intro i j x b hi a;cases i with
 |zero=>simp at hi
 |succ i=>
  cases j with
  |zero=>simp at a
  |succ j=>exact h.ap i j x (by omega) (by simpa using hi) (by simpa using a)
theorem Hp.DF (h:Hp F B w0 L w) {D:Nat→Prop} (g:Br D w w') (r:∀k,D k→F k∨some k∈L) (i:Nat) {x y:Option Nat} (hi:L[i]?=some x) (n:∀k,y=some k→(x=some k∨w.heap.size≤k)∧k<w'.heap.size):Hp F B w0 (L.set i y) w':=by
 have l:=h.B5 g r;refine⟨l.ch,fun k hk=>?_,?_,h.ff⟩
 ·rcases List.mem_or_eq_of_mem_set hk with hk|e
  ·exact l.lo k hk
  ·obtain⟨h1,h2⟩:=n k e.symm;rcases h1 with h1|h1
   ·exact l.lo k (by rw[←h1];exact List.mem_of_getElem? hi)
   ·exact⟨h2,fun s=>absurd (h.ff _ s) (by have:=h.sz;omega),fun hl=>absurd hl (by have:=h.sz;omega)⟩
 ·have d:i<L.length:=(List.getElem?_eq_some_iff.1 hi).1;have key:∀(j z:Nat),j≠i→L[j]?=some (some z)→y≠some z:=fun j z t o e=>by
   rcases(n z e).1 with h1|h1
   ·exact h.ap j i z t o (by rw[hi,h1])
   ·have:=(h.lo z (List.mem_of_getElem? o)).1;omega
  intro a b z p c hb
  by_cases f:a=i
  ·subst f;have m:y=some z:=by simpa[List.getElem?_set,d] using c
   rw[List.getElem?_set_ne (by omega)] at hb;exact key b z (by omega) hb m
  ·rw[List.getElem?_set_ne (by omega)] at c
   by_cases q:b=i
   ·subst q;have m:y=some z:=by simpa[List.getElem?_set,d] using hb
    exact key a z f c m
   ·rw[List.getElem?_set_ne (by omega)] at hb;exact h.ap a b z p c hb
theorem Hp.row(h:Hp F B w0 L w){x:Option Nat}(g:w.grownBy w' x)(i:Nat){y:Option Nat}(hi:L[i]?=some x)(a:∀k,y=some k→(x=some k∨w.heap.size≤k)∧k<w'.heap.size):Hp F B w0 (L.set i y) w':=
 h.DF (D:=fun k=>some k=x) (JH g fun _ e=>e.symm) (fun k e=>.inr (by rw[e];exact List.mem_of_getElem? hi)) i hi a
theorem Hp.erase(h:Hp F B w0 L w)(i:Nat):Hp F B w0 (L.eraseIdx i) w:=by
 refine⟨h.ch,fun k hk=>h.lo k (List.mem_of_mem_eraseIdx hk),fun a b x d c hb=>?_,h.ff⟩;rw[List.getElem?_eraseIdx] at c hb;split at c<;>split at hb
 ·exact h.ap a b x d c hb
 ·exact h.ap a (b+1) x (by omega) c hb
 ·exact h.ap (a+1) b x (by omega) c hb
 ·exact h.ap (a+1) (b+1) x (by omega) c hb
theorem Hp.ne(h:Hp F B w0 L w)(i j:Nat){x:Option Nat}{b:Nat}(a:(i==j)=false)(hi:L[i]?=some (some b))(c:L[j]?=some x):some b≠x:=fun e=>h.ap i j b (by simpa using a) hi (by rw[c,e])
theorem Hp.Cc (h:Hp F B w0 L w) (i:Nat) {b:Nat} (hi:L[i]?=some (some b)) (a:List Nat) (d:(a.all fun j=> !Nat.beq i j)=true) (f:Hh L a M) (g:∀k,F' k→F k):¬FU F' M b:=by
 rintro(h1|h1)
 ·exact(h.lo b (List.mem_of_getElem? hi)).2.1 (g b h1)
 ·obtain⟨j,c,he⟩:=f.mem _ h1;have:=List.all_eq_true.1 d j c;refine h.ap i j b (fun e=>?_) hi he;rw[e,Nat.beq_refl] at this;cases this
theorem V4(a:∀x∈M,x∈L)(b:∀k,F' k→F k):∀k,FU F' M k→F k∨some k∈L:=fun k h=>h.imp (b k) (a _)
theorem Hp.Cz (h:Hp F B w0 L w) (c l:List Nat) {C:List (Option Nat)} (hn:Kf (c++l)=true) (d:Hh L c M) (m:Hh L l C) (n:∀k,F' k→F k∨some k∈C):Bp F' M w:=by
 refine⟨fun k hk=>⟨(h.lo k (d.sub _ hk)).1,fun hf=>?_⟩,fun i j x o hi g=>?_,fun k hk=>?_⟩
 ·rcases n k hf with h1|h1
  ·exact(h.lo k (d.sub _ hk)).2.1 h1
  ·obtain⟨i,hi⟩:=List.mem_iff_getElem?.1 hk;obtain⟨p,q⟩:=List.mem_iff_getElem?.1 h1;obtain⟨j,g,he⟩:=d.get i _ hi;obtain⟨r,s,t⟩:=m.get p _ q;have e:j=r:=by
    refine Decidable.byContradiction fun f=>h.ap j r k f he t
   subst e;have u:i<c.length:=(List.getElem?_eq_some_iff.1 g).1;have h2:=Ky hn i (c.length+p) j (by rw[List.getElem?_append_left u];exact g) (by rw[List.getElem?_append_right (by omega)];simpa using s);omega
 ·obtain⟨a,v,y⟩:=d.get i _ hi;obtain⟨b,hb,z⟩:=d.get j _ g;have e:a=b:=Decidable.byContradiction fun f=>h.ap a b x f y z;subst e;have aA:i<c.length:=(List.getElem?_eq_some_iff.1 v).1;have aB:j<c.length:=(List.getElem?_eq_some_iff.1 hb).1;exact o (Ky hn i j a (by rw[List.getElem?_append_left aA];exact v) (by rw[List.getElem?_append_left aB];exact hb))
 ·rcases n k hk with h1|h1
  ·exact Nat.lt_of_lt_of_le (h.ff k h1) h.sz
  ·exact(h.lo k (m.sub _ h1)).1
theorem Hp.Re (h:Hp F B w0 L w) {D:Nat→Prop} (a:∀k,D k→F k∨some k∈L):∀b,ZZ F B Z w0.heap.size L b→¬D b:=fun b hb c=>by
 rcases hb with⟨h1,h2,d,e⟩|⟨h1,h2⟩
 ·rcases a b c with h5|h5
  ·exact d h5
  ·exact e ((h.lo b h5).2.2 h1)
 ·rcases a b c with h5|h5
  ·have:=h.ff b h5;omega
  ·exact h2 h5
theorem Hp.zc(h:Hp F B w0 L w)(a:∀x∈M,x∈L)(c:∀k,F' k→F k∨some k∈L):∀b,ZZ F B Z w0.heap.size L b→¬F' b∧some b∉M:=fun b hb=>
 ⟨h.Re (D:=F') c b hb,fun hm=>h.Re (D:=fun k=>some k∈M) (fun k hk=>.inr (a _ hk)) b hb hm⟩
theorem ED(h:∀b,Z b→Z' b):Mv w Z w Z':=JV fun b hb _=>h b hb
theorem Hp.El (h:Hp F B w0 L w) {D:Nat→Prop} (g:Br D w w') (a:∀k,D k→F k∨some k∈L):Mv w (ZZ F B Z w0.heap.size L) w' (ZZ F B Z w0.heap.size L):=
 ⟨g.size,fun b hb hl=>⟨hb,g.block b hl (h.Re a b hb)⟩⟩
theorem Hp.AV(h:Hp F B w0 L w){r:Option Nat}(g:w.grownBy w' r)(i:Nat)(hi:L[i]?=some r):Mv w (ZZ F B Z w0.heap.size L) w' (ZZ F B Z w0.heap.size L):=
 h.El (D:=fun k=>some k=r) (JH g fun _ e=>e.symm) fun k e=>.inr (by rw[e];exact List.mem_of_getElem? hi)
theorem Hp.FP(h:Hp F B w0 L w){D:Nat→Prop}(g:Br D w w')(c:∀k,D k→F k∨some k∈L)(i:Nat){x:Option Nat}(hi:L[i]?=some x){y:Option Nat}(d:∀k,y=some k→(x=some k∨w.heap.size≤k)):Mv w (ZZ F B Z w0.heap.size L) w' (ZZ F B Z w0.heap.size (L.set i y)):=
 ⟨g.size,fun b hb hl=>⟨hb.imp id fun⟨h1,h2⟩=>⟨h1,fun hm=>by
  rcases List.mem_or_eq_of_mem_set hm with hm|e
  ·exact h2 hm
  ·rcases d b e.symm with a|a
   ·exact h2 (by rw[←a];exact List.mem_of_getElem? hi)
   ·omega⟩,g.block b hl (h.Re c b hb)⟩⟩
theorem Hp.Cm(h:Hp F B w0 L w){r:Option Nat}(g:w.grownBy w' r)(i:Nat)(hi:L[i]?=some r){y:Option Nat}(a:∀k,y=some k→(r=some k∨w.heap.size≤k)):Mv w (ZZ F B Z w0.heap.size L) w' (ZZ F B Z w0.heap.size (L.set i y)):=
 h.FP (D:=fun k=>some k=r) (JH g fun _ e=>e.symm) (fun k e=>.inr (by rw[e];exact List.mem_of_getElem? hi)) i hi a
theorem G3{n0:Nat}(g:Ext w w'){b:Nat}(hb:w.heap.size≤b):Mv w (ZZ F B Z n0 L) w' (ZZ F B Z n0 (some b::L)):=
 ⟨g.size,fun k hk hl=>⟨hk.imp id fun⟨h1,h2⟩=>⟨h1,fun hm=>by
  rcases List.mem_cons.1 hm with e|hm
  ·cases e;omega
  ·exact h2 hm⟩,g.block k hl (by simp)⟩⟩
theorem Be{n0:Nat}:Mv w (ZZ F B Z n0 L) w (ZZ F B Z n0 (none::L)):=JV fun b hb _=>hb.imp id fun⟨h1,h2⟩=>⟨h1,by simpa using h2⟩
theorem V5{n0:Nat}(h:∀x∈L',x∈L):Mv w (ZZ F B Z n0 L) w (ZZ F B Z n0 L'):=JV fun b hb _=>hb.imp id fun⟨h1,h2⟩=>⟨h1,fun hm=>h2 (h _ hm)⟩
theorem Al{n0:Nat}(i:Nat):Mv w (ZZ F B Z n0 L) w (ZZ F B Z n0 (L.eraseIdx i)):=V5 fun _ h=>List.mem_of_mem_eraseIdx h
theorem AM(a:∀b,Z b→¬F b∧some b∉B)(w:World):Mv w Z w (ZZ F B Z w.heap.size L):=JV fun b hb hl=>.inl ⟨hl,hb,a b hb⟩
theorem AD {n0:Nat} (a:∀x∈M,x∈L):Mv w (ZZ F B Z n0 L) w (ZZ FN [] Z n0 M):=JV fun b hb _=>by
 rcases hb with⟨h1,h2,_⟩|⟨h1,h2⟩
 ·exact .inl ⟨h1,h2,id,by simp⟩
 ·exact .inr ⟨h1,fun hm=>h2 (a _ hm)⟩
theorem Hp.call (h:Hp F B w0 L w) {a:Nat} (hs:w.heap.size≤a) (g:∀k,some k∈M→some k∈L∨a≤k) (d:∀x∈L',x∈L∨x∈M):Mv w' (ZZ FN [] (ZZ F B Z w0.heap.size L) a M) w' (ZZ F B Z w0.heap.size L'):=
 JV fun b hb _=>by
  have h0:=h.sz;rcases hb with⟨h1,h2,_⟩|⟨h1,h2⟩
  ·rcases h2 with c|⟨c,e⟩
   ·exact .inl c
   ·refine .inr ⟨c,fun hm=>?_⟩;rcases d _ hm with h5|h5
    ·exact e h5
    ·rcases g b h5 with f|f
     ·exact e f
     ·omega
  ·refine .inr ⟨by omega,fun hm=>?_⟩;rcases d _ hm with h5|h5
   ·have:=(h.lo b h5).1;omega
   ·exact h2 h5
theorem Hp.Ic(h:Hp F B w0 L w){a:Nat}(hs:w.heap.size≤a):Mv w' (ZZ FN [] (ZZ F B Z w0.heap.size L) a []) w' (ZZ F B Z w0.heap.size L):=h.call hs (fun _ h=>by cases h) (fun _ h=>.inl h)
theorem Hp.fin(h:Hp F B w0 L w):Br (FU F B) w0 w:=h.ch
theorem Hp.Bb(h:Hp FN [] w0 L w):Ext w0 w:=h.ch.ext
theorem Hp.lit{b:Nat}(h:Hp F B w0 L w)(i:Nat)(hi:L[i]?=some (some b))(hn:w0.heap.size≤b):ZZ F B Z w0.heap.size (L.eraseIdx i) b:=
 .inr ⟨hn,fun hm=>by
  obtain⟨j,a⟩:=List.mem_iff_getElem?.1 hm;rw[List.getElem?_eraseIdx] at a;split at a
  ·exact h.ap i j b (by omega) hi a
  ·exact h.ap i (j+1) b (by omega) hi a⟩
theorem Hp.own {b:Nat} (h:Hp F B w0 L w) (i:Nat) (hi:L[i]?=some (some b)) (hn:some b∉B):w0.heap.size≤b:=by
 rcases Nat.lt_or_ge b w0.heap.size with h1|h1
 ·exact absurd ((h.lo b (List.mem_of_getElem? hi)).2.2 h1) hn
 ·exact h1
end
def Bd {α:Type} (e:Ci α) (t:TypeId) (n0:Nat) (w:World) (Z:Nat→Prop) (A:Option Addr) (c:Nat) (xs:List α):Prop:=
 ∃Bu,R2 e w Z Bu xs∧EJ w n0 t e.sz A xs.length c Bu.flatten
section
variable{α:Type}{e:Ci α}{t:TypeId}{n0:Nat}{w w':World}{Z Z':Nat→Prop}{A:Option Addr}{c:Nat}{xs:List α}
theorem Bd.nil(e:Ci α)(t:TypeId)(n0:Nat)(w:World)(Z:Nat→Prop):Bd e t n0 w Z none 0 []:=⟨[],trivial,EJ.nil _ _ _ _⟩
theorem Bd.gr(h:Bd e t n0 w Z A c xs){r:Option Nat}(g:w.grownBy w' r)(a:∀k,ob A=some k→some k≠r)(hm:Mv w Z w' Z'):Bd e t n0 w' Z' A c xs:=by
 obtain⟨Bu,h1,h2⟩:=h;exact⟨Bu,h1.mv hm,h2.kept g fun k b o d=>a k (by rw[d];rfl) b.symm⟩
theorem Bd.ext(h:Bd e t n0 w Z A c xs)(g:Ext w w')(hm:Mv w Z w' Z'):Bd e t n0 w' Z' A c xs:=h.gr g (fun _ _ e=>by cases e) hm
theorem Bd.up(h:Bd e t n0 w Z A c xs)(hm:Mv w Z w Z'):Bd e t n0 w Z' A c xs:=by
 obtain⟨Bu,h1,h2⟩:=h;exact⟨Bu,h1.mv hm,h2⟩
theorem Bd.sl(h:Bd e t n0 w Z A c xs)(i:∀k,ob A=some k→n0≤k→Z k):Sl e w Z A c xs:=by
 obtain⟨Bu,h1,h2⟩:=h;have l:=h2;rcases h2.2 with⟨a,h0⟩|⟨g,cap,cur,a,d,m,f,_,_,_⟩
 ·have:xs=[]:=List.eq_nil_of_length_eq_zero h0;subst this;cases a;exact Sl.nil _ _ _
 ·cases a;refine⟨f,(fun e=>by cases e),Bu,h1,?_⟩;refine Ob (hi:=g+1) (lo:=g) ?_ (fun b h1 h2=>by
   obtain rfl:b=g:=by omega
   exact i b rfl d)
  refine⟨lt_of_block m,.inr ⟨g,0,rfl,Nat.le_refl _,Nat.lt_succ_self _,fun j u hu=>?_⟩⟩;have:=World.ownsRow.cells l (g:=g) rfl j u hu;rw[Gf] at this;exact this
theorem Bd.all(h:Bd e t n0 w Z A c xs):Sl e w ZA A c xs:=(h.up K5).sl fun _ _ _=>trivial
theorem Bd.PA(h:Bd e t n0 w Z A c xs):∀k,ob A=some k→k<w.heap.size:=by
 obtain⟨Bu,h1,h2⟩:=h;intro k hk;rcases h2.2 with⟨a,h0⟩|⟨g,cap,cur,a,d,b,_⟩
 ·obtain⟨rfl,-,-⟩:=Value.slice.inj a;cases hk
 ·cases a;cases hk;exact lt_of_block b
end
section
variable{α:Type}{e:Ci α}{t:TypeId}{F F':Nat→Prop}{B L M:List (Option Nat)}{n0 n1:Nat}{w0 w w':World}{Z Z':Nat→Prop}{A:Option Addr}{c:Nat}{xs:List α}
theorem Bd.B5(h:Bd e t n0 w Z A c xs){D:Nat→Prop}(g:Br D w w')(f:∀k,ob A=some k→¬D k)(hm:Mv w Z w' Z'):Bd e t n0 w' Z' A c xs:=by
 obtain⟨Bu,h1,h2⟩:=h;refine⟨Bu,h1.mv hm,h2.1,h2.2.imp id ?_⟩;rintro⟨b,cap,cur,a,hb,d,i⟩;refine⟨b,cap,cur,a,hb,?_,i⟩;cases a;exact(g.block b (lt_of_block d) (f b rfl)).trans d
theorem Bd.base(h:Bd e t n0 w Z A c xs)(hb:∀k,ob A=some k→n1≤k):Bd e t n1 w Z A c xs:=by
 obtain⟨Bu,h1,h2⟩:=h;refine⟨Bu,h1,h2.1,h2.2.imp id ?_⟩;rintro⟨b,cap,cur,a,_,d⟩;cases a;exact⟨b,_,cur,rfl,hb b rfl,d⟩
theorem Bd.ge(h:Bd e t n0 w Z A c xs):∀k,ob A=some k→n0≤k:=by
 obtain⟨Bu,h1,h2⟩:=h;intro k hk;rcases h2.2 with⟨a,_⟩|⟨b,cap,cur,a,hb,_⟩
 ·obtain⟨rfl,-,-⟩:=Value.slice.inj a;cases hk
 ·cases a;cases hk;exact hb
theorem Hp.MB (h:Hp F B w0 L w) (i:Nat) (hi:L[i]?=some (ob A)) (b:Bd e t w0.heap.size w (ZZ F B Z w0.heap.size L) A c xs):Sl e w (ZZ F B Z w0.heap.size (L.eraseIdx i)) A c xs:=
 (b.up (Al i)).sl fun k hk h0=>.inr ⟨h0,fun hm=>by
  obtain⟨j,a⟩:=List.mem_iff_getElem?.1 hm;rw[List.getElem?_eraseIdx] at a;split at a
  ·exact h.ap i j k (by omega) (by rw[hi,hk]) a
  ·exact h.ap i (j+1) k (by omega) (by rw[hi,hk]) a⟩
theorem Hp.J3 (h:Hp F B w0 L w) (i:Nat) (hi:L[i]?=some (ob A)) (a:List Nat) (d:(a.all fun j=> !Nat.beq i j)=true) (b:Hh L a M) (f:Bd e t w0.heap.size w (ZZ F B Z w0.heap.size L) A c xs):Sl e w (ZZ FN [] Z w0.heap.size M) A c xs:=
 (f.up (AD b.sub)).sl fun k hk h0=>.inr ⟨h0,fun hm=>h.Cc (F':=FN) i (by rw[hi,hk]) a d b (fun _ h=>h.elim) (.inr hm)⟩
theorem Hp.kn{b:Nat}(h:Hp F B w0 L w)(hb:w.heap.size≤b):ZZ F B Z w0.heap.size L b:=
 .inr ⟨Nat.le_trans h.sz hb,fun hm=>absurd (h.lo b hm).1 (Nat.not_lt.2 hb)⟩
theorem H4 {b:Nat} {cs:Array Value} {Bu:List (List Value)} (hb:Bk w b t cs) (c:n0≤b) (h:R2 e w Z Bu xs) (hc:Bu.flatten=cs.toList) (hm:xs.length≤maxLen):Bd e t n0 w Z (some ⟨b,0,none⟩) xs.length xs:=by
 have hl:=h.Ma;have a:cs.size=xs.length*e.sz:=by rw[←hl,hc];simp
 refine⟨Bu,h,hl,.inr ⟨b,xs.length,cs,rfl,c,hb,Nat.le_refl _,hm,a,?_⟩⟩;rw[hc,List.take_of_length_le (by simp[a])]
theorem Hp.hand (h:Hp F B w0 L w) {D:Nat→Prop} (g:Br D w w') (o:∀k,D k→F k∨some k∈L) (f:Bd e t w.heap.size w' Z' A c xs):Hp F B w0 (ob A::L) w':=by
 have h1:=h.B5 g o;cases l:ob A with
 |none=>exact h1.nil
 |some k=>
  have hk:=f.ge k l;have m:=f.PA k l;refine⟨h1.ch,fun x a=>?_,?_,h.ff⟩
  ·rcases List.mem_cons.1 a with e|a
   ·cases e;have hs:=h.sz;exact⟨m,fun p=>absurd (h.ff _ p) (by omega),fun hl=>absurd hl (by omega)⟩
   ·exact h1.lo x a
  ·have key:∀(j:Nat) (x:Nat),L[j]?=some (some x)→x≠k:=fun j x a e=>by
    have:=(h.lo x (List.mem_of_getElem? a)).1;omega
   intro i j x n hi b;cases i with
   |zero=>
    cases j with
    |zero=>exact n rfl
    |succ j=>
     have d:k=x:=by simpa using hi
     exact key j x (by simpa using b) d.symm
   |succ i=>
    cases j with
    |zero=>
     have d:k=x:=by simpa using b
     exact key i x (by simpa using hi) d.symm
    |succ j=>exact h.ap i j x (by omega) (by simpa using hi) (by simpa using b)
theorem Hp.Oc(h:Hp F B w0 L w){D:Nat→Prop}(g:Br D w w')(d:∀k,D k→F k∨some k∈L)(f:Bd e t w.heap.size w' Z' A c xs){a:Nat→Prop}:Mv w (ZZ F B a w0.heap.size L) w' (ZZ F B a w0.heap.size (ob A::L)):=by
 refine⟨g.size,fun b hb hl=>⟨hb.imp id fun⟨h1,h2⟩=>⟨h1,fun hm=>?_⟩,g.block b hl (h.Re d b hb)⟩⟩;rcases List.mem_cons.1 hm with e|hm
 ·have:=f.ge b e.symm;omega
 ·exact h2 hm
end
def i64(x:Int):Option Int:=if-9223372036854775808≤x∧x≤9223372036854775807 then some x else none
theorem SN{x y:Int}(h:i64 x=some y):y=x∧fits x:=by
 unfold i64 at h;split at h
 ·exact⟨(Option.some.inj h).symm,by assumption⟩
 ·cases h
theorem V6{x:Int}(h0:-9223372036854775808≤x)(h1:x≤9223372036854775807):i64 x=some x:=if_pos ⟨h0,h1⟩
def idx{α:Type}(xs:List α)(i:Int):Option α:=if 0≤i then xs[i.toNat]? else none
theorem SO{α:Type}{xs:List α}{i:Int}{x:α}(h:idx xs i=some x):∃k:Nat,i=k∧xs[k]?=some x∧k<xs.length:=by
 unfold idx at h;split at h
 ·exact⟨i.toNat,by omega,h,(List.getElem?_eq_some_iff.1 h).1⟩
 ·cases h
theorem idx_eq{α:Type}{xs:List α}{k:Nat}(h:k<xs.length):idx xs (k:Int)=some xs[k]:=by
 unfold idx;rw[if_pos (by omega)];simp[h]
def quo(a b:Int):Option Int:=if 0≤a∧1≤b then some (a/b) else none
theorem SP{a b y:Int}(h:quo a b=some y):y=a/b∧0≤a∧1≤b:=by
 unfold quo at h;split at h
 ·exact⟨(Option.some.inj h).symm,by assumption⟩
 ·cases h
def rem(a b:Int):Option Int:=if 0≤a∧1≤b then some (a%b) else none
theorem SQ{a b y:Int}(h:rem a b=some y):y=a%b∧0≤a∧1≤b:=by
 unfold rem at h;split at h
 ·exact⟨(Option.some.inj h).symm,by assumption⟩
 ·cases h
theorem AK{α:Type}{x:Int}{f:Int→Option α}{r:α}(h:(i64 x).bind f=some r):fits x∧f x=some r:=by
 obtain⟨y,h1,h2⟩:=Option.bind_eq_some_iff.1 h;obtain⟨rfl,hf⟩:=SN h1;exact⟨hf,h2⟩
theorem Bg{α β:Type}{xs:List α}{i:Int}{f:α→Option β}{r:β}(h:(idx xs i).bind f=some r):∃(k:Nat) (x:α),i=k∧xs[k]?=some x∧k<xs.length∧f x=some r:=by
 obtain⟨x,h1,h2⟩:=Option.bind_eq_some_iff.1 h;obtain⟨k,a,b,h5⟩:=SO h1;exact⟨k,x,a,b,h5,h2⟩
theorem Mb{α:Type}{a b:Int}{f:Int→Option α}{r:α}(h:(quo a b).bind f=some r):(0≤a∧1≤b)∧f (a/b)=some r:=by
 obtain⟨y,h1,h2⟩:=Option.bind_eq_some_iff.1 h;obtain⟨rfl,hf⟩:=SP h1;exact⟨hf,h2⟩
theorem JI{α:Type}{a b:Int}{f:Int→Option α}{r:α}(h:(rem a b).bind f=some r):(0≤a∧1≤b)∧f (a%b)=some r:=by
 obtain⟨y,h1,h2⟩:=Option.bind_eq_some_iff.1 h;obtain⟨rfl,hf⟩:=SQ h1;exact⟨hf,h2⟩
def Hs (p:Prop) [Decidable p]:Option Unit:=if p then some () else none
theorem C1{α:Type}{p:Prop}[Decidable p]{f:Unit→Option α}{r:α}(h:(Hs p).bind f=some r):p∧f ()=some r:=by
 unfold Hs at h;split at h
 ·exact⟨by assumption,h⟩
 ·cases h
theorem Aw{α:Type}{b:Bool}{x y:Option α}{r:α}(h:cond b x y=some r)(hb:b=true):x=some r:=by subst hb;exact h
theorem Ax{α:Type}{b:Bool}{x y:Option α}{r:α}(h:cond b x y=some r)(hb:b=false):y=some r:=by subst hb;exact h
theorem bind_some{α β:Type}{x:Option α}{f:α→Option β}{r:β}(h:x.bind f=some r):∃a,x=some a∧f a=some r:=Option.bind_eq_some_iff.1 h
theorem C7{α β a:Type}{x:α}{f:α→Option a}{g:β→Option a}{r:a}(h:Sum.elim f g (.inl x)=some r):f x=some r:=h
theorem C8{α β a:Type}{x:β}{f:α→Option a}{g:β→Option a}{r:a}(h:Sum.elim f g (.inr x)=some r):g x=some r:=h
theorem Ue{P:Program}{ro:Option Nat}{c:Code}{Q d:Exit→Act→World→Prop}{a:Act}{w:World}(h:CW P ro c Q a w)(i:∀e a w,Q e a w→d e a w):CW P ro c d a w:=by
 intro b k cs f hb g;obtain⟨e,j,l,h1,h2⟩:=h b k cs f hb g;exact⟨e,j,l,i _ _ _ h1,h2⟩
theorem B2 {P:Program} {X:Ctx} {N:Nat} {c:Code} {Q:Exit→Act→World→Prop} {a:Act} {l:Env} {w:World} (d:Exit→Act→World→Prop) (h:CC P X N c d a l w) (b:∀e a w,d e a w→Q e a w):CC P X N c Q a l w:=
 fun s=>Ue (h s) b
theorem XA{X:Ctx}{N:Nat}{Q:Exit→Act→World→Prop}{e:Exit}{a:Act}{w:World}(b:a.tmps.size=N)(c:a.defers=X.ds)(h:LV X N Q e a [] w):Q e a w:=h ⟨b,c,fun _ hp=>by cases hp⟩
theorem BH{X:Ctx}{N:Nat}{Q:Exit→Act→World→Prop}{e:Exit}{a:Act}{l:Env}{w:World}(h:St X N a l→Q e (BX a l) w):LV X N Q e a l w:=h
section
variable{P:Program}{a:Act}{w:World}{dst:Option Tmp}{ty:TypeId}{pos:String}{BR:Array Edge}{g:Option (Nat×Bool)}
theorem FQ {t:TypeId} {x:Operand} {Z:Nat→Prop} {b o k:Nat} {cs:List Value} {v:Value} (h:One P t) (c:a.eval x=.pointer (some ⟨b,o+k,none⟩)) (d:Rz w Z (some ⟨b,o,none⟩) cs) (hc:cs[k]?=some v):
  BW P ⟨dst,.load t x,ty,pos,BR,g⟩ a w (fun u w'=>u=v∧w'=w):=Nq h c d.cells hc
theorem BN{t:TypeId}{x:Operand}{Z:Nat→Prop}{b o:Nat}{cs:List Value}{v:Value}(h:One P t)(c:a.eval x=.pointer (some ⟨b,o,none⟩))(d:Rz w Z (some ⟨b,o,none⟩) cs)(hc:cs[0]?=some v):
  BW P ⟨dst,.load t x,ty,pos,BR,g⟩ a w (fun u w'=>u=v∧w'=w):=Nq (k:=0) h c d.cells hc
theorem Ch{t:TypeId}{x:Operand}{Z:Nat→Prop}{n b o:Nat}{cs l:List Value}(h:E7 P t n)(c:a.eval x=.pointer (some ⟨b,o,none⟩))(d:Rz w Z (some ⟨b,o,none⟩) cs)
  (hl:cs.take n=l)(hn:l.length=n):BW P ⟨dst,.load t x,ty,pos,BR,g⟩ a w (fun u w'=>u=.agg l.toArray∧w'=w):=Qt (k:=0) h c d.cells (by simpa using hl) hn
theorem IB {α:Type} {e:Ci α} {s x:Operand} {t r:TypeId} {z:Value} {sz bytes:Nat} (aN:P.underlying t=some (.slice r)) (hi:(P.info? r).map (fun i=>(i.zero,i.size,i.bytes))=some (some z,sz,bytes)) (aD:z.cells.size=sz) (aE:e.sz=sz) (h0:0<sz)
  {n0:Nat} {Z:Nat→Prop} {A B:Option Addr} {c d n:Nat} {xs ys:List α} (hs:a.eval s=.slice A n c) (hn:xs.length=n) (aO:a.eval x=.slice B ys.length d) (aB:Bd e r n0 w Z A c xs) (aF:∃Bu,R2 e w Z Bu ys∧Rz w ZA B Bu.flatten)
  (aG:xs.length+ys.length≤maxLen) (l:(xs.length+ys.length)*bytes≤140737488355328) (y:n0≤w.heap.size) (aH:ys≠[]):
  BW P ⟨dst,.call {callee:=.builtin .append,args:= #[s,x],argTypes:= #[t,t]},ty,pos,BR,g⟩ a w (fun v w'=>∃p c',v=.slice p (xs++ys).length c'∧w.grownBy w' (ob A)∧(∀k,ob p=some k→(ob A=some k∨w.heap.size≤k)∧k<w'.heap.size)∧
   ∃Bu f,R2 e w Z Bu xs∧R2 e w Z f ys∧EJ w' n0 r e.sz p (xs++ys).length c' (Bu++f).flatten):=by
 obtain⟨Bu,h2,aP⟩:=aB;obtain⟨f,aA,aQ⟩:=aF;subst aE;subst hn;have aI:f.flatten≠[]:=fun aR=>by
  have:=aA.Ma;rw[aR] at this;have hl:0<ys.length:=List.length_pos_iff.2 aH;have:=Nat.mul_pos hl h0;simp at*;omega
 obtain⟨b,o,rfl,-,-,hc⟩:=aQ.resolve_left aI;refine(Rb (ad:=⟨b,o,none⟩) (news:=f.flatten) (m:=ys.length) aN hi aD h0 hs aO aP (fun j u hu=>by rw[Gf];exact hc j u hu) aA.Ma aA.one aG l y).mono ?_;rintro v w' ⟨p,c',rfl,q,aJ,-,hf⟩;rw[V3] at aJ;refine⟨p,c',by rw[List.length_append],aJ,fun k hk=>?_,Bu,f,h2,aA,by rw[List.length_append,List.flatten_append];exact q⟩;have aV:=q.PA (k:=k) (o:=0);rcases q.2 with⟨aC,_⟩|⟨aK,aS,aT,aC,_,aL,_⟩
 ·obtain⟨rfl,-,-⟩:=Value.slice.inj aC;cases hk
 ·cases aC;have aM:aK=k:=by simpa[ob] using hk
  subst aM;refine⟨?_,lt_of_block aL⟩;rcases hf aK 0 rfl with⟨o',aU⟩|h
  ·left;rw[aU];rfl
  ·exact .inr h
theorem DW{α:Type}{e:Ci α}{t:TypeId}{n0:Nat}{w w':World}{Z Z':Nat→Prop}{A:Option Addr}{c:Nat}{xs ys:List α}
  (h:∃Bu a,R2 e w Z Bu xs∧R2 e w Z a ys∧EJ w' n0 t e.sz A (xs++ys).length c (Bu++a).flatten)(hm:Mv w Z w' Z'):Bd e t n0 w' Z' A c (xs++ys):=by
 obtain⟨Bu,a,h1,h2,b⟩:=h;exact⟨Bu++a,(h1.mv hm).append (h2.mv hm),b⟩
theorem Sl.news{α:Type}{e:Ci α}{Z:Nat→Prop}{A:Option Addr}{c:Nat}{xs:List α}(h:Sl e w Z A c xs):∃Bu,R2 e w Z Bu xs∧Rz w ZA A Bu.flatten:=by
 obtain⟨_,_,Bu,h1,h2⟩:=h;exact⟨Bu,h1,h2.mv K5⟩
theorem IM {α:Type} {e:Ci α} {Z:Nat→Prop} {b:Nat} {t:TypeId} {cs:Array Value} {Bu:List (List Value)} {xs:List α} (hb:Bk w b t cs) (h:R2 e w Z Bu xs) (hc:Bu.flatten=cs.toList):∃Bu,R2 e w Z Bu xs∧Rz w ZA (some ⟨b,0,none⟩) Bu.flatten:=
 ⟨Bu,h,.inr ⟨b,0,rfl,trivial,hb.lt,fun j u hu=>by rw[Nat.zero_add,hb.cell];rw[hc] at hu;simpa using hu⟩⟩
theorem IF{α:Type}{e:Ci α}{Z:Nat→Prop}{b:Nat}{t:TypeId}{cs:Array Value}{Bu:List (List Value)}{xs:List α}(hb:Bk w b t cs)(a:Z b)(h:R2 e w Z Bu xs)(hc:Bu.flatten=cs.toList){c:Nat}(hl:xs.length≤c):Sl e w Z (some ⟨b,0,none⟩) c xs:=
 ⟨hl,(fun e=>by cases e),Bu,h,.inr ⟨b,0,rfl,a,hb.lt,fun j u hu=>by rw[Nat.zero_add,hb.cell];rw[hc] at hu;simpa using hu⟩⟩
end
def Kz(D:Nat→Bool)(i:Nat):Nat→Bool:=fun j=>cond (Nat.beq j i) true (D j)
def KA(V:Nat→Value)(i:Nat)(v:Value):Nat→Value:=fun j=>cond (Nat.beq j i) v (V j)
theorem Rf(D:Nat→Bool)(i:Nat):Kz D i i=true:=by unfold Kz;rw[Nat.beq_refl];rfl
theorem Uf(D:Nat→Bool){i j:Nat}(h:j≠i):Kz D i j=D j:=by
 have:Nat.beq j i=false:=by
  cases hb:Nat.beq j i with
  |false=>rfl
  |true=>exact absurd (Nat.eq_of_beq_eq_true hb) h
 unfold Kz;rw[this];rfl
theorem Rg(V:Nat→Value)(i:Nat)(v:Value):KA V i v i=v:=by unfold KA;rw[Nat.beq_refl];rfl
theorem Ug(V:Nat→Value){i j:Nat}(v:Value)(h:j≠i):KA V i v j=V j:=by
 have:Nat.beq j i=false:=by
  cases hb:Nat.beq j i with
  |false=>rfl
  |true=>exact absurd (Nat.eq_of_beq_eq_true hb) h
 unfold KA;rw[this];rfl
structure Jf (L:List Oper) (a:Act) (l:Env) (D:Nat→Bool) (V:Nat→Value) (k:Nat) (o:Oper) (a':Act):Prop where
 out:∀s,isDst L s=false→sl a' s=lk (sl a s) l s
 TD:∀j d,E8 o j=true→Cd L j=some d→sl a' d=V j
 dn:∀j,E8 o j=true→D j=true
 me:D k=false
 down:∀j o',L[j]?=some o'→D j=true→∀k',E8 o' k'=true→D k'=true
theorem Jf.no{L:List Oper}{a:Act}{l:Env}{D:Nat→Bool}{V:Nat→Value}{k:Nat}{o:Oper}{a':Act}(K:Jf L a l D V k o a')(j:Nat)(o':Oper)(b:L[j]?=some o')(h:E8 o' k=true):D j=false:=by
 cases hb:D j with
 |false=>rfl
 |true=>have:=K.down j o' b hb k h;rw[K.me] at this;cases this
theorem Jf.later {N:Nat} {L:List Oper} {a:Act} {l:Env} {D:Nat→Bool} {V:Nat→Value} {k:Nat} {o:Oper} {a':Act} (K:Jf L a l D V k o a') (g:KY N L=true) (e:∀s,(∀j,Cd L j=some s→D j=false)→sl a' s=lk (sl a s) l s)
  (j d:Nat) (o':Oper) (f:L[j]?=some o') (b:o'.dst=some d) (c:E8 o' k=true):sl a' d=lk (sl a d) l d:=e d fun i hi=>by
 have h1:Cd L j=some d:=by simp[Cd,f,b]
 obtain rfl:=(Je g j i d h1).2 hi;exact K.no j o' f c
section
variable(P:Program)(L:List Oper)(a:Act)(l:Env)(I:(Nat→Bool)→(Nat→Value)→World→Prop)
structure Qx (D:Nat→Bool) (V:Nat→Value) (k:Nat) (o:Oper) (a':Act):Prop extends Jf L a l D V k o a' where
 later:∀(j d:Nat) (o':Oper),L[j]?=some o'→o'.dst=some d→E8 o' k=true→sl a' d=lk (sl a d) l d
def Qy(k:Nat)(o:Oper):Prop:=∀D V a' w',Qx L a l D V k o a'→I D V w'→
 (Region.wanted o (yielded L.toArray a'.tmps)=true∧BW P o a' w' (fun v Bi=>I (Kz D k) (KA V k v) Bi))∨
 (Region.wanted o (yielded L.toArray a'.tmps)=false∧I (Kz D k) (KA V k undef) w')
def Od:Nat→Nat→List Oper→Prop
 |0,_,_=>True
 |_+1,_,[]=>True
 |m+1,k,o::R=>Qy P L a l I k o∧Od m (k+1) R
def Oe:Nat→Nat→List Oper→(Nat→Value)→Env→Env
 |0,_,_,_,l=>l
 |_+1,_,[],_,l=>l
 |m+1,k,o::R,V,l=>match o.dst with
  |some d=>Oe m (k+1) R V ((d,V k)::l)
  |none=>Oe m (k+1) R V l
end
section
variable{P:Program}{X:Ctx}{N:Nat}{L:List Oper}{Q:Exit→Act→World→Prop}{a:Act}{l:Env}{w:World}{I:(Nat→Bool)→(Nat→Value)→World→Prop}{k:Nat}{o:Oper}
theorem sj(b:o.guard=none)(h:∀D V a' w',Qx L a l D V k o a'→I D V w'→BW P o a' w' (fun v Bi=>I (Kz D k) (KA V k v) Bi)):Qy P L a l I k o:=
 fun D V a' w' K c=>.inl ⟨by unfold Region.wanted;rw[b],h D V a' w' K c⟩
theorem MC:∀{m:Nat} {R:List Oper} {k:Nat},Od P L a l I m k R→∀(i:Nat) (o:Oper),i<m→R[i]?=some o→Qy P L a l I (k+i) o
 |0,_,_,_,i,o,hi,_=>absurd hi (by omega)
 |_+1,[],_,_,i,o,_,b=>by simp at b
 |m+1,o'::R,k,h,i,o,hi,b=>by
  cases i with
  |zero=>
   obtain rfl:o'=o:=by simpa using b
   exact h.1
  |succ i=>
   have:=MC h.2 i o (by omega) (by simpa using b);rw[Nat.add_assoc,Nat.add_comm 1 i] at this;exact this
theorem Of{V:Nat→Value}{G:Env→Prop}{w':World}:∀(m:Nat) (R:List Oper) (k:Nat) (l':Env),G (Oe m k R V l')→Kr X N a (fun k v _=>v=V k) (fun _ _=>True) G w' m k R l'
 |0,_,_,_,h=>fun _=>h
 |_+1,[],_,_,h=>fun _=>h
 |m+1,o::R,k,l',h=>by
  simp only[Kr];simp only[Oe] at h;cases b:o.dst with
  |none=>rw[b] at h;exact Of m R (k+1) l' h
  |some d=>rw[b] at h;rintro v rfl;exact Of m R (k+1) _ h
theorem Ia{id:Nat}(m:Nat)(I:(Nat→Bool)→(Nat→Value)→World→Prop)(hm:P.follows .mixedOrders=true)(hk:Lz N L []=true)(aZ:(Nat.ble m L.length&&JD L m)=true)(h0:I (fun _=>false) (fun _=>undef) w.drew)
  (hs:Od P L a l I m 0 L)(bB:∀D V w',(∀j,Nat.blt j m=true→D j=true)→I D V w'→WL P X N L.toArray Q (L.drop m) a (Oe m 0 L V l) w'):CC P X N (.region id L.toArray true) Q a l w:=fun st=>
 wpIn_region_any hm (by
  have aN:=hk;simp only[Lz,Bool.and_eq_true] at aN;obtain⟨⟨aO,a0⟩,_⟩:=aN;rw[Bool.and_eq_true] at aZ;obtain⟨bC,a2⟩:=aZ;have bD:m≤L.length:=Nat.le_of_ble_eq_true bC;have aF:=Je a0;have fin:∀(fuel:Nat) (listed:Array Bool) (a':Act) (w':World) (D:Nat→Bool) (V:Nat→Value),listed.toList.count false≤fuel→listed.size=L.length→a'.tmps.size=N→a'.defers=X.ds→
    (∀s,(∀j,Cd L j=some s→listed.getD j false=false)→sl a' s=lk (sl a s) l s)→(∀j d,listed.getD j false=true→Cd L j=some d→sl a' d=V j)→(∀j,j<L.length→D j=listed.getD j false)→
    I D V w'→(∀j,m≤j→listed.getD j false=false)→(∀j,j<m→listed.getD j false=true)→wpAnyIn (Wd X.ro) 0 P .any L.toArray Q fuel listed a' w':=by
   intro fuel listed a' w' D V hc y z aD r q aA aS c aL;have bE:wpListIn (Wd X.ro) 0 P L.toArray Q (L.drop m) a' w':=by
    refine LA (K:=wpListIn (Wd X.ro) 0 P L.toArray Q (L.drop m) a' w') (X:=X) (N:=N) (Φ:=fun k v _=>v=V k) (fun _ _=>True) (fun l'=>WL P X N L.toArray Q (L.drop m) a l' w') w' a' trivial z aD (fun l' bF bT e=>by rw[e];exact bT bF) m L 0 l st bD (fun i d hi=>(aF i i d hi).1) (fun i j d hi b=>(aF i j d hi).2 b)
     (Of m L 0 l (bB D V w' (fun j b=>by
      have aI:j<m:=by simpa[Nat.blt_eq] using b
      rw[aA j (by omega)];exact aL j aI) aS)) (fun i d aT aM=>?_) (fun s t=>?_)
    ·rw[Nat.zero_add];exact q i d (aL i aT) aM
    ·refine r s fun j b=>?_;rcases Nat.lt_or_ge j m with h|h
     ·exact absurd b (t j h)
     ·exact c j h
   refine N4 a2 aO (L.drop m) m fuel listed a' w' rfl (Nat.le_refl _) ?_ y (fun i hi=>?_) bE
   ·refine Nat.le_trans ?_ hc;have e:listed.toList.drop m=List.replicate (L.length-m) false:=by
     apply List.ext_getElem
     ·simp[y]
     ·intro i h1 h2;simp at h1;have:=c (m+i) (by omega);rw[Array.getD_eq_getD_getElem?,Array.getElem?_eq_getElem (by omega)] at this;simpa using this
    have h2:(listed.toList.drop m).count false≤listed.toList.count false:=(List.drop_sublist m listed.toList).count_le false;rw[e,List.count_replicate_self] at h2;simpa using h2
   ·rcases Nat.lt_or_ge i m with h|h
    ·simp[aL i h,h]
    ·simp only[c i h];constructor
     ·intro aU;cases aU
     ·intro aU;omega
  have main:∀(fuel:Nat) (listed:Array Bool) (a':Act) (w':World) (D:Nat→Bool) (V:Nat→Value),listed.toList.count false≤fuel→listed.size=L.length→a'.tmps.size=N→a'.defers=X.ds→
    (∀s,(∀j,Cd L j=some s→listed.getD j false=false)→sl a' s=lk (sl a s) l s)→(∀j d,listed.getD j false=true→Cd L j=some d→sl a' d=V j)→(∀j,j<L.length→D j=listed.getD j false)→
    (∀(j:Nat) (o:Oper),L[j]?=some o→listed.getD j false=true→∀e∈o.after,Region.binds .any e=true→listed.getD e.on false=true)→I D V w'→(∀j,m≤j→listed.getD j false=false)→wpAnyIn (Wd X.ro) 0 P .any L.toArray Q fuel listed a' w':=by
   intro fuel
   induction fuel with
   |zero=>
    intro listed a' w' D V hc y z aD r q aA u aS c;refine fin 0 listed a' w' D V hc y z aD r q aA aS c fun j b=>?_;have aI:j<listed.size:=by omega
    cases hb:listed[j] with
    |true=>simp[aI,hb]
    |false=>
     have:false∈listed.toList:=by rw[←hb];simp
     have:=List.count_pos_iff.2 this;omega
   |succ fuel ih=>
    intro listed a' w' D V hc y z aD r q aA u aS c
    by_cases aP:∀j,j<m→listed.getD j false=true
    ·exact fin (fuel+1) listed a' w' D V hc y z aD r q aA aS c aP
    have hex:∃j,j<m∧listed.getD j false=false:=by
     false_or_by_contra
     rename_i bG
     refine aP fun j b=>?_;cases hb:listed.getD j false with
     |true=>rfl
     |false=>exact absurd ⟨j,b,hb⟩ bG
    constructor
    ·intro bU;exfalso;obtain⟨j,b,hb⟩:=hex;refine absurd hb ?_;rw[Bool.not_eq_false];clear hb
     induction j using Nat.strongRecOn with
     |_ j bH=>
      cases hb:listed.getD j false with
      |true=>rfl
      |false=>
       exfalso;have aI:j<listed.size:=by omega
       have hm:j∈Region.ready .any L.toArray listed:=mem_ready.2 ⟨by simp[aI] at hb⊢;exact hb,L[j],by simp,fun e he g=>by
        have h1:=E2 aO j L[j] (List.getElem?_eq_getElem (by omega)) e he g;exact bH e.on (by omega) (by omega)⟩
       rw[bU] at hm;cases hm
    ·intro i hi;obtain⟨h0,o,bI,aG⟩:=mem_ready.1 hi;have aB:L[i]?=some o:=by simpa using bI
     have bJ:i<L.length:=(List.getElem?_eq_some_iff.1 aB).1;have aE:i<listed.size:=by omega
     have aQ:listed.getD i false=false:=by simp[aE] at h0⊢;exact h0
     have aT:i<m:=by
      rcases Nat.lt_or_ge i m with h|h
      ·exact h
      ·obtain⟨j,b,hb⟩:=hex;have:=Ks (p:=fun x=>listed.getD x false=true) (fun d od bK aJ k hk=>by
        obtain⟨e,he,g,aC⟩:=Fw.1 hk;have:=u d od bK aJ e he g
        rwa[aC] at this) (J2 a2 aB h j (by omega)) (fun bV a3 k hk=>by
        rw[aB] at a3;obtain rfl:o=bV:=by simpa using a3
        obtain⟨e,he,g,aC⟩:=Fw.1 hk;have:=aG e he g
        rwa[aC] at this)
       rw[hb] at this;cases this
     have aJ:∀j,E8 o j=true→listed.getD j false=true∧j<L.length:=fun j b=>by
      obtain⟨e,he,g,aC⟩:=Fw.1 b;have h1:=aG e he g;have h2:=E2 aO i o aB e he g;rw[aC] at h1 h2;exact⟨h1,by omega⟩
     have a4:Jf L a l D V i o a':=by
      refine⟨fun s t=>r s fun j b=>?_,fun j d b aM=>q j d (aJ j b).1 aM,fun j b=>by rw[aA j (aJ j b).2];exact(aJ j b).1,by rw[aA i bJ];exact aQ,fun j bL b a5 k' aN=>?_⟩
      ·have:=KZ.2 ⟨j,b⟩;rw[t] at this;cases this
      ·have aV:j<L.length:=(List.getElem?_eq_some_iff.1 b).1;rw[aA j aV] at a5;obtain⟨e,he,g,aC⟩:=Fw.1 aN;have h1:=u j bL b a5 e he g;have h2:=E2 aO j bL b e he g;rw[aC] at h1 h2;rw[aA k' (by omega)];exact h1
     have hK:Qx L a l D V i o a':=⟨a4,a4.later a0 fun s t=>r s fun j b=>by
      have aV:j<L.length:=by
       unfold Cd at b;cases bM:L[j]? with
       |none=>rw[bM] at b;cases b
       |some o=>exact(List.getElem?_eq_some_iff.1 bM).1
      rw[←aA j aV];exact t j b⟩
     have aH:Cd L i=o.dst:=by simp[Cd,aB]
     have step:∀v Bi,I (Kz D i) (KA V i v) Bi→wpAnyIn (Wd X.ro) 0 P .any L.toArray Q fuel (listed.setIfInBounds i true) (a'.put o.dst v) Bi:=by
      intro v Bi aW;have aX:∀s,(∀d,o.dst=some d→d≠s)→sl (a'.put o.dst v) s=sl a' s:=by
       intro s t;cases aM:o.dst with
       |none=>rfl
       |some d=>exact K2 (t d aM)
      refine ih _ _ _ (Kz D i) (KA V i v) ?_ (by simp[y]) ?_ ?_ ?_ ?_ ?_ ?_ aW (fun j b=>by rw[DI (by omega)];exact c j b)
      ·have aR:i<listed.toList.length:=by simpa using aE
       have aY:listed.toList[i]=false:=by
        simp[aE] at aQ;simpa using aQ
       have bN:(listed.setIfInBounds i true).toList=listed.toList.set i true:=by simp
       rw[bN,List.count_set aR,aY];have h1:0<listed.toList.count false:=List.count_pos_iff.2 (by rw[←aY];exact List.getElem_mem aR);have bW:(if (false==false)=true then 1 else 0)=1:=rfl;have bX:(if (true==false)=true then 1 else 0)=0:=rfl;rw[bW,bX];omega
      ·cases o.dst<;>simp[Act.put,z]
      ·cases o.dst<;>simp[Act.put,aD]
      ·intro s t;rw[aX s (fun d aM bO=>by
        subst bO;have:=t i (by rw[aH,aM]);rw[GN aE] at this;cases this)]
       refine r s fun j b=>?_;have:=t j b
       by_cases n:i=j
       ·subst n;exact aQ
       ·rwa[DI n] at this
      ·intro j d b aK
       by_cases n:i=j
       ·subst n;rw[aH] at aK;have aR:d<a'.tmps.size:=by rw[z];exact(aF i i d (by rw[aH,aK])).1
        rw[aK,LY aR,Rg]
       ·rw[DI n] at b;have:sl (a'.put o.dst v) d=sl a' d:=by
         refine aX d fun bY bP bQ=>?_;subst bQ;exact n ((aF i j bY (by rw[aH,bP])).2 aK)
        rw[this,Ug _ _ (Ne.symm n)];exact q j d b aK
      ·intro j b
       by_cases n:i=j
       ·subst n;rw[Rf,GN aE]
       ·rw[Uf _ (Ne.symm n),DI n];exact aA j b
      ·intro j bR b a9 e he g
       by_cases bA:i=e.on
       ·rw[←bA];exact GN aE
       ·rw[DI bA]
        by_cases n:i=j
        ·subst n;rw[aB] at b;obtain rfl:o=bR:=by simpa using b
         exact aG e he g
        ·rw[DI n] at a9;exact u j bR b a9 e he g
     have bZ:=MC hs i o aT aB;unfold wpOpIn;simp only[bI];rcases bZ D V a' w' (by rw[Nat.zero_add];exact hK) aS with⟨hw,bS⟩|⟨hw,hu⟩
     ·rw[if_pos hw];rw[Nat.zero_add] at bS;exact bS.wp fun v Bi aW=>step v Bi aW
     ·rw[if_neg (by rw[hw];simp)];rw[Nat.zero_add] at hu;exact⟨fun f _=>NQ X.ro f,step undef w' hu⟩
  have hf:∀j,(Array.replicate L.length false).getD j false=false:=by
   intro j;rw[Array.getD_eq_getD_getElem?];rcases Nat.lt_or_ge j L.length with h|h
   ·simp[h]
   ·simp[h]
  have e:L.toArray.size=L.length:=by simp
  rw[e];refine main L.length (Array.replicate L.length false) (BX a l) w.drew (fun _=>false) (fun _=>undef) (Nat.le_trans (List.count_le_length ..) (by simp)) (by simp) (by rw[Jj,st.sz]) (by rw[DM,st.df]) (fun s _=>Jy st s) (fun j d h=>?_) (fun j _=>(hf j).symm) (fun j o h aU=>?_) h0 (fun j _=>hf j)
  ·rw[hf j] at h;cases h
  ·rw[hf j] at aU;cases aU)
end
end Go.Proofs.YtcdofnchafcfpaaGreat
end
section
namespace Go.Proofs.YtcdofnchafcfpaaGreat
open Go.RowKit Go.WideShapes
section
variable{P:Program}{L:List Oper}{a:Act}{l:Env}{T:Nat→Act→World→Prop}{Φ:Nat→Value→World→Prop}{sp:List Nat}{S:Nat→World→World→Prop}{k:Nat}{op:Op}{ty:TypeId}{pos:String}{BR:Array Edge}{dst:Option Nat}
theorem od{c:Value}(hs:sp.contains k=false)(b:∀w,Φ k c w)(h:∀{a' w' ph},HI L a l T Φ sp k ⟨dst,op,ty,pos,BR,none⟩ a' w' ph→BW P ⟨dst,op,ty,pos,BR,none⟩ a' w' (fun u Bi=>u=c∧Bi=w')):HJ P L a l S T Φ sp k ⟨dst,op,ty,pos,BR,none⟩:=
 V2 rfl hs b fun _ _ _ K=>h K
end
def Og(P:Program)(a:Act)(l:Env)(w:World):ResultVar→Value→Prop
 |.tmp t,v=>ev a l (.tmp t)=v
 |.cell p t,v=>∃ad,ev a l (.tmp p)=.pointer (some ad)∧(loadVar t ad).run P w=.ok v w
section
variable{P:Program}{N:Nat}{a:Act}{l:Env}{w:World}
theorem Mc{fn:Func}{i d:ResultVar}{v v':Value}{R:Value→World→Prop}(f:fn.results= #[i,d])(h1:Og P a l w i v)(h2:Og P a l w d v')(h:R (.tuple #[v,v']) w):
  LV X0 N (bodyPost P fn (fun e w'=>∃v,e=.returned v∧R v w')) .ret a l w:=fun s=>by
 refine bodyPost_ret (v:=.tuple #[v,v']) ?_ (by rw[DM,s.df]) ⟨_,rfl,h⟩;cases i with
 |tmp t=>
  have c:(BX a l).tmps.getD t undef=v:=ee s h1;simp only[Array.getD_eq_getD_getElem?] at c;cases d with
  |tmp u=>
   have b:(BX a l).tmps.getD u undef=v':=ee s h2;simp only[Array.getD_eq_getD_getElem?] at b;simp[results,f,c,b]
  |cell p t=>
   obtain⟨ad,j,g⟩:=h2;have b:(BX a l).tmps.getD p undef=.pointer (some ad):=ee s j;simp only[Array.getD_eq_getD_getElem?] at b;simp[results,f,c,b,asAddr,g]
 |cell q t=>
  obtain⟨k,j,g⟩:=h1;have c:(BX a l).tmps.getD q undef=.pointer (some k):=ee s j;simp only[Array.getD_eq_getD_getElem?] at c;cases d with
  |tmp u=>
   have b:(BX a l).tmps.getD u undef=v':=ee s h2;simp only[Array.getD_eq_getD_getElem?] at b;simp[results,f,c,b,asAddr,g]
  |cell p t=>
   obtain⟨ad,m,n⟩:=h2;have b:(BX a l).tmps.getD p undef=.pointer (some ad):=ee s m;simp only[Array.getD_eq_getD_getElem?] at b;simp[results,f,c,b,asAddr,g,n]
end
def J4(a n:Int):Int:=a*2^n.toNat
def Oh(a n:Int):Option Unit:=if 0≤n∧n<64∧-9223372036854775808≤a*2^n.toNat∧a*2^n.toNat≤9223372036854775807 then some () else none
theorem Rh{α:Type}{a n:Int}{f:Unit→Option α}{r:α}(h:(Oh a n).bind f=some r):(0≤n∧n<64∧fits (J4 a n))∧f ()=some r:=by
 unfold Oh at h;split at h
 ·rename_i h1;exact⟨⟨h1.1,h1.2.1,h1.2.2⟩,h⟩
 ·cases h
def Qz(a b:Int):Option Unit:=if (0≤a∧a≤9223372036854775807)∧(0≤b∧b≤9223372036854775807) then some () else none
theorem Ri{α:Type}{a b:Int}{f:Unit→Option α}{r:α}(h:(Qz a b).bind f=some r):((0≤a∧a≤9223372036854775807)∧(0≤b∧b≤9223372036854775807))∧f ()=some r:=by
 unfold Qz at h;split at h
 ·exact⟨by assumption,h⟩
 ·cases h
def Oi(a b:Int):Int:=((a.toNat|||b.toNat:Nat):Int)
def L5(k:IntKind)(n:Int):Option Unit:=if k.wrap n=n then some () else none
theorem KB{α:Type}{k:IntKind}{n:Int}{f:Unit→Option α}{r:α}(h:(L5 k n).bind f=some r):k.wrap n=n∧f ()=some r:=by
 unfold L5 at h;split at h
 ·exact⟨by assumption,h⟩
 ·cases h
section
variable{P:Program}{a:Act}{w:World}{dst:Option Tmp}{ty:TypeId}{pos:String}{BR:Array Edge}{g:Option (Nat×Bool)}
theorem Oj{x y:Operand}{m n:Int}{t b:TypeId}(c:a.eval x=.int .i64 m)(d:a.eval y=.int .i64 n)(h0:0≤m)(h1:1≤n)(hf:fits (m/n)):BW P ⟨dst,.binOp .quo t x y b,ty,pos,BR,g⟩ a w (fun u w'=>u=.int .i64 (m/n)∧w'=w):=
 CH (by
  have e:m.tdiv n=m/n:=Int.tdiv_eq_ediv_of_nonneg h0;have hn:¬n=0:=by omega
  simp[execOp,c,d,eqGuard,binOp,Op.intDiv,hn,e,IJ hf])
theorem XB{x y:Operand}{m n:Int}{k:IntKind}{t b:TypeId}(c:a.eval x=.int .i64 m)(d:a.eval y=.int k n)(h:0≤n∧n<64∧fits (J4 m n)):BW P ⟨dst,.binOp .shl t x y b,ty,pos,BR,g⟩ a w (fun u w'=>u=.int .i64 (J4 m n)∧w'=w):=
 CH (by
  have hn:¬n<0:=by omega
  have hb:min n.toNat IntKind.i64.bits=n.toNat:=by
   have:IntKind.i64.bits=64:=rfl;omega
  have hf:IntKind.i64.wrap (m*2^n.toNat)=m*2^n.toNat:=IJ h.2.2;simp[execOp,c,d,eqGuard,binOp,Op.shift,hn,hb,hf,J4])
theorem TI{m:Int}(h0:0≤m)(h1:m≤9223372036854775807):(BitVec.ofInt 64 m).toNat=m.toNat:=by
 rw[BitVec.toNat_ofInt];omega
theorem SR{k:Nat}(h:k≤9223372036854775807):IntKind.i64.wrap (k:Int)=k:=IJ ⟨by omega,by omega⟩
theorem Ym{x y:Operand}{m n:Int}{t b:TypeId}(c:a.eval x=.int .i64 m)(d:a.eval y=.int .i64 n)(h:(0≤m∧m≤9223372036854775807)∧(0≤n∧n≤9223372036854775807)):BW P ⟨dst,.binOp .or t x y b,ty,pos,BR,g⟩ a w (fun u w'=>u=.int .i64 (Oi m n)∧w'=w):=
 CH (by
  have e:(BitVec.ofInt 64 m|||BitVec.ofInt 64 n).toNat=m.toNat|||n.toNat:=by rw[BitVec.toNat_or,TI h.1.1 h.1.2,TI h.2.1 h.2.2]
  have f:m.toNat|||n.toNat<2^63:=Nat.or_lt_two_pow (by omega) (by omega);have hf:IntKind.i64.wrap ((m.toNat|||n.toNat:Nat):Int)=((m.toNat|||n.toNat:Nat):Int):=SR (by omega);have key:(Op.intBits .or .i64 m n).run P w=.ok (.int .i64 (Oi m n)) w:=by
   show(pure (Value.int .i64 (IntKind.i64.wrap ((BitVec.ofInt 64 m|||BitVec.ofInt 64 n).toNat:Int))):Sem Value).run P w=_;rw[e,hf];rfl
  simp[execOp,c,d,eqGuard,binOp,key])
theorem XC {x y:Operand} {v1 v2:Value} {x1 x2:List Int} {n:Nat} {t c:TypeId} (hk:JU P t n) (b:P.eqGuardType P.depth t=false) (d:a.eval x=v1) (e:a.eval y=v2) (h1:v1=EP x1) (h2:v2=EP x2) (f:x1.length=n) (h:x2.length=n):
  BW P ⟨dst,.binOp .eql t x y c,ty,pos,BR,g⟩ a w (fun u w'=>u=.bool (x1==x2)∧w'=w):=by
 refine Tx d e ?_;subst h1;subst h2;have i:=hk w x1 x2 f h;have j:(eqGuard .eql t x y (EP x1) (EP x2)).run P w=.ok () w:=by
  simp[eqGuard,EP,program,Sem.run,b]
 simp only[Sem.run_bind,j,Result.andThen_ok];show(do pure (Value.bool (←Op.equal t (EP x1) (EP x2))):Sem Value).run P w=_;simp only[Sem.run_bind,i,Result.andThen_ok,Sem.run_pure]
theorem QA{x y:Operand}{v1 v2:Value}{x1 x2:List Int}{n:Nat}{t c:TypeId}(hk:JU P t n)(b:P.eqGuardType P.depth t=false)(d:a.eval x=v1)(e:a.eval y=v2)(h1:v1=EP x1)(h2:v2=EP x2)(f:x1.length=n)(h:x2.length=n):
  BW P ⟨dst,.binOp .neq t x y c,ty,pos,BR,g⟩ a w (fun u w'=>u=.bool (x1 !=x2)∧w'=w):=by
 refine Tx d e ?_;subst h1;subst h2;have i:=hk w x1 x2 f h;have j:(eqGuard .neq t x y (EP x1) (EP x2)).run P w=.ok () w:=by
  simp[eqGuard,EP,program,Sem.run,b]
 simp only[Sem.run_bind,j,Result.andThen_ok];show(do pure (Value.bool (!(←Op.equal t (EP x1) (EP x2)))):Sem Value).run P w=_;simp only[Sem.run_bind,i,Result.andThen_ok,Sem.run_pure];rfl
theorem MD {t t2 e:TypeId} (b:P.underlying t=some (.slice e)) {i:TypeInfo} (hi:P.info? e=some i) {A B:Option Addr} {n c d:Nat} (hn:n≤c) (f:A=none→n=0) (a:P.underlying t2=some (.slice e)):
  (Builtin.append_ #[t,t2] ty #[.slice A n c,.slice B 0 d]).run P w=.ok (.slice A n c) w:=by
 have hf:(Builtin.firstCells i.size 0 (.slice B 0 d)).run P w=.ok #[] w:=by
  cases B with
  |none=>simp[Builtin.firstCells]
  |some ad=>simp[Builtin.firstCells,loadCells,loadCellsFrom]
 cases A with
 |none=>simp[Builtin.append_,run_underlying b,run_underlying a,sizeOf,typeInfo,program,Sem.run,hi,Builtin.lenOf,hn,hf]
 |some ad=>simp[Builtin.append_,run_underlying b,run_underlying a,sizeOf,typeInfo,program,Sem.run,hi,Builtin.lenOf,hn,hf,storeCells]
theorem V7 {α:Type} {e:Ci α} {s x:Operand} {t h:TypeId} {z:Value} {sz bytes:Nat} (q:P.underlying t=some (.slice h)) (hi:(P.info? h).map (fun i=>(i.zero,i.size,i.bytes))=some (some z,sz,bytes)) (y:z.cells.size=sz) (aA:e.sz=sz) (h0:0<sz)
  {n0:Nat} {Z:Nat→Prop} {A B:Option Addr} {c d n:Nat} {xs ys:List α} (hs:a.eval s=.slice A n c) (hn:xs.length=n) (aB:a.eval x=.slice B ys.length d) (b:Bd e h n0 w Z A c xs) (aF:Sl e w Z B d ys)
  (aC:xs.length+ys.length≤maxLen) (j:(xs.length+ys.length)*bytes≤140737488355328) (m:n0≤w.heap.size):
  BW P ⟨dst,.call {callee:=.builtin .append,args:= #[s,x],argTypes:= #[t,t]},ty,pos,BR,g⟩ a w (fun v w'=>∃r c',v=.slice r (xs++ys).length c'∧w.grownBy w' (ob A)∧(∀k,ob r=some k→(ob A=some k∨w.heap.size≤k)∧k<w'.heap.size)∧
   ∃Bu o,R2 e w Z Bu xs∧R2 e w Z o ys∧EJ w' n0 h e.sz r (xs++ys).length c' (Bu++o).flatten):=by
 by_cases p:ys=[]
 ·subst p;subst hn;obtain⟨Bu,h2,aD⟩:=id b;have f:xs.length≤c∧(A=none→xs.length=0):=by
   rcases aD.2 with⟨u,h0⟩|⟨g,cap,cur,u,_,_,f,_⟩
   ·obtain⟨rfl,-,rfl⟩:=Value.slice.inj u;exact⟨by omega,fun _=>h0⟩
   ·cases u;exact⟨f,fun e=>by cases e⟩
  cases l:P.info? h with
  |none=>simp[l] at hi
  |some i=>
   have aG:=MD (P:=P) (w:=w) (ty:=ty) (B:=B) (d:=d) q l f.1 f.2 q;have he:(execOp a.eval ⟨dst,.call {callee:=.builtin .append,args:= #[s,x],argTypes:= #[t,t]},ty,pos,BR,g⟩).run P w=.ok (.value (.slice A xs.length c)) w:=by
    have aE:a.eval x=.slice B 0 d:=aB;unfold execOp;simp only[resolve,invoke,builtin,Sem.run_bind,Sem.run_pure,Result.andThen_ok,List.map_toArray,List.map_cons,List.map_nil,hs,aE,aG]
   unfold BW;rw[he];refine⟨A,c,by rw[List.append_nil],World.grownBy.refl w _,fun k hk=>⟨.inl hk,b.PA k hk⟩,Bu,[],h2,trivial,?_⟩;rw[List.append_nil,List.append_nil];exact aD
 ·exact IB q hi y aA h0 hs hn aB b aF.news aC j m p
end
theorem K6:∀(l:List Value) (cs:Array Value) (o j:Nat),o+l.length≤cs.size→(setCells cs o l)[j]?=if o≤j∧j<o+l.length then l[j-o]? else cs[j]?
 |[],cs,o,j,_=>by
  rw[if_neg (by simp only[List.length_nil];omega)];rfl
 |v::l,cs,o,j,h=>by
  rw[List.length_cons] at h;unfold setCells;rw[K6 l _ (o+1) j (by simp;omega)]
  by_cases h1:o+1≤j∧j<o+1+l.length
  ·rw[if_pos h1,if_pos (by simp;omega),show j-o=(j-(o+1))+1 by omega,List.getElem?_cons_succ]
  ·rw[if_neg h1,Array.getElem?_setIfInBounds]
   by_cases h2:o=j
   ·subst h2;rw[if_pos rfl,if_pos (by omega),if_pos (by rw[List.length_cons];omega)];simp
   ·rw[if_neg h2,if_neg (by rw[List.length_cons];omega)]
theorem Ol{sz:Nat}{c':List Value}(hc:c'.length=sz)(h0:0<sz):∀(k:Nat) (Bu:List (List Value)) (j:Nat),(∀c∈Bu,c.length=sz)→k<Bu.length→(Bu.set k c').flatten[j]?=if k*sz≤j∧j<k*sz+sz then c'[j-k*sz]? else Bu.flatten[j]?
 |_,[],_,_,h=>by simp at h
 |0,c::Bu,j,hs,_=>by
  have h1:=hs c (List.mem_cons_self ..);rw[List.set_cons_zero,List.flatten_cons,List.flatten_cons]
  by_cases h:j<sz
  ·rw[if_pos (by omega),List.getElem?_append_left (by omega)];simp
  ·rw[if_neg (by omega),List.getElem?_append_right (by omega),List.getElem?_append_right (by omega),hc,h1]
 |k+1,c::Bu,j,hs,h=>by
  have h1:=hs c (List.mem_cons_self ..);rw[List.set_cons_succ,List.flatten_cons,List.flatten_cons];have e:(k+1)*sz=k*sz+sz:=by rw[Nat.add_mul];omega
  by_cases a:j<sz
  ·rw[if_neg (by omega),List.getElem?_append_left (by omega),List.getElem?_append_left (by omega)]
  ·rw[List.getElem?_append_right (by omega),List.getElem?_append_right (by omega),h1,Ol hc h0 k Bu (j-sz) (fun c hm=>hs c (List.mem_cons_of_mem _ hm)) (by simpa using h)]
   by_cases h2:k*sz≤j-sz∧j-sz<k*sz+sz
   ·rw[if_pos h2,if_pos (by omega),show j-sz-k*sz=j-(k+1)*sz by omega]
   ·rw[if_neg h2,if_neg (by omega)]
section
variable{α:Type}{e:Ci α}{n0:Nat}{w w':World}{Z Z':Nat→Prop}
theorem R2.lens:∀{Bu:List (List Value)} {xs:List α},R2 e w Z Bu xs→∀c∈Bu,c.length=e.sz
 |[],[],_=>by simp
 |c::cs,_::_,h=>by
  intro d a;rcases List.mem_cons.1 a with rfl|a
  ·exact e.len h.1
  ·exact R2.lens h.2 d a
 |[],_::_,h=>h.elim
 |_::_,[],h=>h.elim
theorem R2.free(a:∀w Z w' Z' cs x,e.R w Z cs x→e.R w' Z' cs x):∀{Bu:List (List Value)} {xs:List α},R2 e w Z Bu xs→R2 e w' Z' Bu xs
 |[],[],_=>trivial
 |_::_,_::_,h=>⟨a _ _ _ _ _ _ h.1,R2.free a h.2⟩
 |[],_::_,h=>h.elim
 |_::_,[],h=>h.elim
end
section
variable{P:Program}{a:Act}{w:World}{dst:Option Tmp}{ty:TypeId}{pos:String}{BR:Array Edge}{g:Option (Nat×Bool)}
theorem SS{α:Type}{e:Ci α}{t:TypeId}{n0:Nat}{w w':World}{Z Z':Nat→Prop}{A:Option Addr}{c:Nat}{xs:List α}
  (h:∃Bu,R2 e w Z Bu xs∧EJ w' n0 t e.sz A xs.length c Bu.flatten)(hm:Mv w Z w' Z'):Bd e t n0 w' Z' A c xs:=by
 obtain⟨Bu,h1,h2⟩:=h;exact⟨Bu,h1.mv hm,h2⟩
end
def KC (P:Program) (fv:Value) (vs:Array Value) (w:World) (R:Value→World→Prop):Prop:=
 ∀(a:Act) (dst:Option Tmp) (f:Operand) (xs:Array Operand) (b:Array TypeId) (ty:TypeId) (pos:String) (BR:Array Edge) (g:Option (Nat×Bool)),a.eval f=fv→xs.map a.eval=vs→
  BW P ⟨dst,.call {callee:=.value f,args:=xs,argTypes:=b},ty,pos,BR,g⟩ a w R
section
variable{P:Program}{fv:Value}{vs:Array Value}{w:World}{R R':Value→World→Prop}
theorem Ew{fn:FuncId}{first cap all:Array Value}(a:AU P fn)(b:first++vs++cap=all)(h:BG P fn all w R):KC P (.func (.func fn) first cap) vs w R:=fun _ _ _ _ _ _ _ _ _ hf c=>Ig a hf c b h
theorem Jg{l:Nat}(h:YieldAt Fence.wide 0 P l vs w (fun e w'=>∃v,e=.returned v∧R v w')):KC P (.func (.yield l) #[] #[]) vs w R:=fun _ _ _ _ _ _ _ _ _ hf a=>Uc hf a h
theorem KC.mono(h:KC P fv vs w R)(b:∀v w',R v w'→R' v w'):KC P fv vs w R':=fun a dst f xs c ty pos BR g hf d=>(h a dst f xs c ty pos BR g hf d).mono b
theorem F7{F:Nat→Prop}{M:List (Option Nat)}{b:Nat}(h:¬FU F M b):¬F b∧some b∉M:=⟨fun h1=>h (.inl h1),fun h1=>h (.inr h1)⟩
theorem EL{a:Act}{dst:Option Tmp}{f:Operand}{xs:Array Operand}{b:Array TypeId}{ty:TypeId}{pos:String}{BR:Array Edge}{g:Option (Nat×Bool)}(h:KC P fv vs w R)(hf:a.eval f=fv)(c:xs.map a.eval=vs):
  BW P ⟨dst,.call {callee:=.value f,args:=xs,argTypes:=b},ty,pos,BR,g⟩ a w R:=h a dst f xs b ty pos BR g hf c
end
structure VL (α:Type) where
 R:World→(Nat→Prop)→Array Value→α→Prop
def v0:VL Unit:=⟨fun _ _ vs _=>vs= #[]⟩
def v1{α:Type}(a:VE α):VL α:=⟨fun w Z vs x=>∃v,vs= #[v]∧a.R w Z v x⟩
def v2{α β:Type}(a:VE α)(b:VE β):VL (α×β):=⟨fun w Z vs x=>∃v u,vs= #[v,u]∧a.R w Z v x.1∧b.R w Z u x.2⟩
def v3{α β d:Type}(a:VE α)(b:VE β)(c:VE d):VL (α×β×d):=⟨fun w Z vs x=>∃v u t,vs= #[v,u,t]∧a.R w Z v x.1∧b.R w Z u x.2.1∧c.R w Z t x.2.2⟩
def NS:VE Unit:=⟨fun _ _ v _=>v=.tuple #[],fun h _=>h⟩
structure Cb (P:Program) {σ α β:Type} (fv:Value) (F:Nat→Prop) (n:Nat) (I:σ→World→(Nat→Prop)→Option Nat→Prop) (ea:VL α) (er:VE β) (cb:σ→α→Option (β×σ)):Prop where
 fc:fv.cells= #[fv]
 f1:fv.oneCell'=true
 ff:∀k,F k→k<n
 call:∀(s:σ) (x:α) (r:β×σ) (w:World) (Z Za:Nat→Prop) (o:Option Nat) (vs:Array Value),n≤w.heap.size→(∀b,Z b→Za b)→(∀b,Za b→¬F b∧some b≠o)→I s w Z o→ea.R w Za vs x→cb s x=some r→
  KC P fv vs w (fun v w'=>∃o',Br (FU F [o]) w w'∧(∀k,o'=some k→(o=some k∨w.heap.size≤k)∧k<w'.heap.size)∧er.R w' (ZZ FN [] Z w.heap.size [o']) v r.1∧I r.2 w' (ZZ FN [] Z w.heap.size [o']) o')
 JJ:∀(s:σ) (w w':World) (Z Z':Nat→Prop) (o:Option Nat),I s w Z o→Mv w Z w' Z'→(∀b,FU F [o] b→w'.heap[b]?=w.heap[b]?)→I s w' Z' o
 lt:∀(s:σ) (w:World) (Z:Nat→Prop) (o:Option Nat),I s w Z o→∀k,o=some k→k<w.heap.size∧¬F k
section
variable{P:Program}{σ α β:Type}{fv:Value}{F:Nat→Prop}{n:Nat}{I:σ→World→(Nat→Prop)→Option Nat→Prop}{ea:VL α}{er:VE β}{cb:σ→α→Option (β×σ)}
variable{B:List (Option Nat)}{w0 w w':World}{Z:Nat→Prop}{L:List (Option Nat)}
theorem Cb.El (h:Cb P fv F n I ea er cb) {s:σ} {o:Option Nat} (a:I s w (ZZ F B Z w0.heap.size L) o) (hp:Hp F B w0 L w) {D:Nat→Prop} (g:Br D w w') (c:∀k,D k→some k∈L) (i:Nat) (hi:L[i]?=some o) (d:∀k,o=some k→¬D k) {Z':Nat→Prop} (hm:Mv w (ZZ F B Z w0.heap.size L) w' Z'):
  I s w' Z' o:=h.JJ s w w' _ _ o a hm fun b hb=>by
 rcases hb with hb|hb
 ·exact g.block b (Nat.lt_of_lt_of_le (hp.ff b hb) hp.sz) fun e=>(hp.lo b (c b e)).2.1 hb
 ·rw[List.mem_singleton] at hb;exact g.block b (h.lt s w _ o a b hb.symm).1 (d b hb.symm)
theorem Cb.me(h:Cb P fv F n I ea er cb){s:σ}{o:Option Nat}(a:I s w (ZZ F B Z w0.heap.size L) o)(hp:Hp F B w0 L w)(g:Ext w w'){Z':Nat→Prop}(hm:Mv w (ZZ F B Z w0.heap.size L) w' Z'):I s w' Z' o:=
 h.JJ s w w' _ _ o a hm fun b hb=>g.block b (by
  rcases hb with hb|hb
  ·exact Nat.lt_of_lt_of_le (hp.ff b hb) hp.sz
  ·rw[List.mem_singleton] at hb;exact(h.lt s w _ o a b hb.symm).1) (by simp)
theorem Cb.mz(h:Cb P fv F n I ea er cb){s:σ}{o:Option Nat}{a Z':Nat→Prop}(b:I s w a o)(hm:Mv w a w Z'):I s w Z' o:=h.JJ s w w _ _ o b hm fun _ _=>rfl
theorem Cb.mg(h:Cb P fv F n I ea er cb){s:σ}{o r:Option Nat}(c:I s w (ZZ F B Z w0.heap.size L) o)(hp:Hp F B w0 L w)(g:w.grownBy w' r)(j:Nat)(a:L[j]?=some r)(i:Nat)(hi:L[i]?=some o)(b:(i==j)=false){Z':Nat→Prop}(hm:Mv w (ZZ F B Z w0.heap.size L) w' Z'):I s w' Z' o:=
 h.El c hp (D:=fun k=>some k=r) (JH g fun _ e=>e.symm) (fun k e=>by rw[e];exact List.mem_of_getElem? a) i hi (fun k hk e=>hp.ap i j k (by simpa using b) (by rw[hi,hk]) (by rw[a,e])) hm
theorem Cb.mm(h:Cb P fv F n I ea er cb){s:σ}{o:Option Nat}{M:List (Option Nat)}(d:I s w (ZZ F B Z w0.heap.size L) o)(hp:Hp F B w0 L w)(g:Br (FU FN M) w w')(a:List Nat)(b:Hh L a M)(i:Nat)(hi:L[i]?=some o)(c:(a.all fun j=> !Nat.beq i j)=true){Z':Nat→Prop}(hm:Mv w (ZZ F B Z w0.heap.size L) w' Z'):I s w' Z' o:=
 h.El d hp g (fun k hk=>by
  rcases hk with hk|hk
  ·exact hk.elim
  ·exact b.sub _ hk) i hi (fun k hk=>hp.Cc (F':=FN) i (by rw[hi,hk]) a c b (fun _ h=>h.elim)) hm
end
def Cr {α:Type} (ev:α→Value) (w:World) (r n:Nat) (L:List (List Int×α)):Prop:=
 ∃es clock,w.heap[r]?=some (.map es clock)∧es.toList.map (fun e=>(e.key,e.val))=L.map (fun p=>(EP p.1,ev p.2))∧∀p∈L,p.1.length=n
def BO{α:Type}(L:List (List Int×α))(k:List Int):Option α:=(L.find? fun p=>k==p.1).map (·.2)
def EE{α:Type}(L:List (List Int×α))(k:List Int)(v:α):List (List Int×α):=match L.findIdx? (fun p=>k==p.1) with|some i=>L.set i (k,v)|none=>L++[(k,v)]
structure Yn{α:Type}(ev:α→Value)(w w':World)(r n:Nat):Prop where
 Dl:r=w.heap.size
 sz:w'.heap.size=r+1
 mp:Cr ev w' r n []
 gr:Ext w w'
structure Yo{α:Type}(ev:α→Value)(w w':World)(r n:Nat)(L:List (List Int×α)):Prop where
 sz:w'.heap.size=w.heap.size
 mp:Cr ev w' r n L
 gr:If r w w'
section
variable{α:Type}{ev:α→Value}{w w':World}{r n b:Nat}{L:List (List Int×α)}
theorem Cr.lt(h:Cr ev w r n L):r<w.heap.size:=by obtain⟨es,c,h,_⟩:=h;exact lt_of_block h
theorem Cr.ext(h:Cr ev w r n L)(g:Ext w w'):Cr ev w' r n L:=by
 have hl:=h.lt;obtain⟨es,c,h1,h2⟩:=h;exact⟨es,c,(g.block r hl (by simp)).trans h1,h2⟩
theorem Cr.NX(h:Cr ev w r n L)(g:If b w w')(a:r≠b):Cr ev w' r n L:=by
 have hl:=h.lt;obtain⟨es,c,h1,h2⟩:=h;exact⟨es,c,(g.block r hl (by simpa using a)).trans h1,h2⟩
end
section
variable{α:Type}{ev:α→Value}{z:α}{P:Program}{a:Act}{w:World}{dst:Option Tmp}{ty:TypeId}{pos:String}{BR:Array Edge}{g:Option (Nat×Bool)}{K E T r n:Nat}{L:List (List Int×α)}{k:List Int}
theorem JW(z:α)(a:JU P K n)(hk:k.length=n):∀(es:List MapEntry) (L:List (List Int×α)) (i:Nat),es.map (fun e=>(e.key,e.val))=L.map (fun p=>(EP p.1,ev p.2))→(∀p∈L,p.1.length=n)→
  (Instr.findAsking K (EP k) es i).run P w=.ok (match L.findIdx? (fun p=>k==p.1) with|some j=>some (i+j,ev ((L.getD j ([],z)).2))|none=>none) w
 |[],[],i,_,_=>by simp[Instr.findAsking]
 |[],p::L,i,h,_=>by simp at h
 |e::es,[],i,h,_=>by simp at h
 |e::es,p::L,i,h,hl=>by
  simp only[List.map_cons,List.cons.injEq,Prod.mk.injEq] at h;obtain⟨⟨h1,h2⟩,b⟩:=h;have ih:=JW z a hk es L (i+1) b (fun q a=>hl q (List.mem_cons_of_mem _ a));have he:=a w k p.1 hk (hl p (List.mem_cons_self ..));simp only[Instr.findAsking,Sem.run_bind,h1,he,Result.andThen_ok,List.findIdx?_cons];cases hb:(k==p.1)
  ·simp only[Bool.false_eq_true,if_false,ih];cases List.findIdx? (fun p=>k==p.1) L with
   |none=>rfl
   |some j=>simp[Nat.add_assoc,Nat.add_comm 1 j]
  ·simp[h2]
theorem K7(z:α)(c:JU P K n)(hw:Ju P K)(hk:k.length=n){es:List MapEntry}(h:es.map (fun e=>(e.key,e.val))=L.map (fun p=>(EP p.1,ev p.2)))(hl:∀p∈L,p.1.length=n):
  (Instr.findKey K (EP k) es).run P w=.ok (match L.findIdx? (fun p=>k==p.1) with|some j=>some (j,ev ((L.getD j ([],z)).2))|none=>none) w:=by
 unfold Ju at hw;cases hu:P.underlying K with
 |none=>simp[hu] at hw
 |some d=>
  unfold Instr.findKey;simp only[Sem.run_bind,run_underlying hu,Result.andThen_ok];cases es with
  |nil=>
   have:L=[]:=by cases L with|nil=>rfl|cons _ _=>simp at h
   subst this;simp[Instr.findNow]
  |cons e es=>
   have hn:Instr.findNow d (EP k) (e::es) 0=none:=by
    refine Pg ?_ _ _ _ (fun a b=>?_) (by simp)
    ·rw[hu] at hw;cases d<;>simp at hw<;>trivial
    ·have:(a.key,a.val)∈(e::es).map (fun e=>(e.key,e.val)):=List.mem_map.2 ⟨a,b,rfl⟩;rw[h] at this;obtain⟨p,_,hp⟩:=List.mem_map.1 this;exact⟨(Jk p.1).toArray,by simp only[Prod.mk.injEq] at hp;exact hp.1.symm⟩
   rw[hn];have:=JW z (P:=P) (w:=w) c hk (e::es) L 0 h hl;simpa using this
theorem Nv(z:α)(L:List (List Int×α))(k:List Int):BO L k=(L.findIdx? (fun p=>k==p.1)).map (fun j=>(L.getD j ([],z)).2):=by
 unfold BO
 induction L with
 |nil=>rfl
 |cons p L ih=>
  simp only[List.find?_cons,List.findIdx?_cons];cases hb:(k==p.1)
  ·simp only[Bool.false_eq_true,if_false,ih];cases List.findIdx? (fun p=>k==p.1) L<;>simp
  ·simp
theorem Ph(b:P.underlying T=some (.map K E))(d:(P.info? E).bind (·.zero)=some (ev z))(g:JU P K n)(hc:M0 P K n)(hw:Ju P K)(hk:k.length=n)(hm:Cr ev w r n L)(ok:Bool):
  (Instr.lookup T (.map (some r)) (EP k) ok).run P w=.ok (if ok then .tuple #[ev ((BO L k).getD z),.bool (BO L k).isSome] else ev ((BO L k).getD z)) w:=by
 obtain⟨es,clock,l,he,hl⟩:=hm;obtain⟨i,hi,a⟩:=Option.bind_eq_some_iff.1 d;have h1:=IX (P:=P) l (by intro c e f h;cases h);have h2:=K7 z (P:=P) (w:=w) g hw hk he hl;have m:(zeroValue E).run P w=.ok (ev z) w:=by simp[zeroValue,typeInfo,program,Sem.run,hi,a]
 unfold Instr.lookup;simp only[Sem.run_bind,run_underlying b,Result.andThen_ok,h1,hc w es.isEmpty k hk,h2,Nv z,Sem.run_pure];cases List.findIdx? (fun p=>k==p.1) L with
 |none=>cases ok<;>simp[m]
 |some j=>cases ok<;>simp
theorem K8{x y:Operand}(b:P.underlying T=some (.map K E))(c:(P.info? E).bind (·.zero)=some (ev z))(d:JU P K n)(hc:M0 P K n)(hw:Ju P K)(e:a.eval x=.map (some r))(f:a.eval y=EP k)(hk:k.length=n)(hm:Cr ev w r n L):
  BW P ⟨dst,.lookup T x y true,ty,pos,BR,g⟩ a w (fun u w'=>u=.tuple #[ev ((BO L k).getD z),.bool (BO L k).isSome]∧w'=w):=
 Jd (S:=Instr.lookup T (.map (some r)) (EP k) true) (by simp only[execOp,e,f]) (Ph b c d hc hw hk hm true)
theorem KD{T:TypeId}:BW P ⟨dst,.makeMap T none,ty,pos,BR,g⟩ a w (fun u w'=>∃r,u=.map (some r)∧Yn ev w w' r n):=by
 unfold BW;simp only[execOp,Option.map_none,Sem.run_bind,run_makeMap,Result.andThen_ok,Sem.run_pure];exact⟨_,rfl,rfl,by simp,⟨#[],0,heap_alloc_new w _,rfl,by simp⟩,World.grownBy_alloc w _ _⟩
theorem K9{x y u:Operand}{v:α}(aH:P.underlying T=some (.map K E))(aI:JU P K n)(hc:M0 P K n)(hw:Ju P K)(aJ:a.eval x=.map (some r))(aK:a.eval y=EP k)(aL:a.eval u=ev v)(hk:k.length=n)(hm:Cr ev w r n L):
  BW P ⟨dst,.mapUpdate T x y u,ty,pos,BR,g⟩ a w (fun _ w'=>Yo ev w w' r n (EE L k v)):=by
 have d:=hm.lt;obtain⟨es,clock,z,he,hl⟩:=hm;have h1:=IX (P:=P) z (by intro c e f h;cases h);have h2:=K7 v (P:=P) (w:=w) aI hw hk he hl;have b:∀o:Obj,(setObj r o).run P w=.ok () {w with heap:=w.heap.setIfInBounds r o}:=by
  intro o;unfold setObj;simp only[Sem.run,z]
 have m:∀o:Obj,If r w {w with heap:=w.heap.setIfInBounds r o}:=fun o=>⟨rfl,rfl,rfl,by simp,fun j _ aA=>by
  have:¬r=j:=fun e=>aA (by rw[e]);simp[Array.getElem?_setIfInBounds,this]⟩
 have hlen:es.toList.length=L.length:=by have:=congrArg List.length he;simpa using this
 unfold BW;simp only[execOp,aJ,aK,aL,Sem.run_bind,Instr.mapUpdate,run_underlying aH,Result.andThen_ok,h1,hc w false k hk,h2];cases hf:List.findIdx? (fun p=>k==p.1) L with
 |none=>
  simp only[b,Result.andThen_ok,Sem.run_pure];refine⟨by simp,⟨_,_,by simp[d];exact⟨rfl,rfl⟩,?_,?_⟩,m _⟩
  ·simp[EE,hf,he]
  ·intro p hp;simp only[EE,hf,List.mem_append,List.mem_singleton] at hp;rcases hp with hp|rfl
   ·exact hl p hp
   ·exact hk
 |some j=>
  have aM:=List.findIdx?_eq_some_iff_getElem.1 hf;obtain⟨aB,aC,_⟩:=aM;have q:j<es.toList.length:=by omega
  have t:(es.toList[j]).key=EP k:=by
   have:=congrArg (fun l=>l[j]?) he;simp only[List.getElem?_map,List.getElem?_eq_getElem q,List.getElem?_eq_getElem aB,Option.map_some,Option.some.injEq,Prod.mk.injEq] at this;rw[this.1,←eq_of_beq aC]
  have aD:((es[j]?).map (·.key)).getD (EP k)=EP k:=by
   have aE:j<es.size:=by simpa using q
   rw[Array.getElem?_eq_getElem aE];simpa using t
  simp only[aD,Instr.keyThatStays,Oa 9999 k,if_true,Sem.run_pure,Result.andThen_ok,b,Sem.run_bind];refine⟨by simp,⟨_,_,by simp[d];exact⟨rfl,rfl⟩,?_,?_⟩,m _⟩
  ·simp only[EE,hf];apply List.ext_getElem
   ·simp[hlen]
   ·intro i aN aO;have aF:i<es.toList.length:=by simpa using aN
    have aG:i<L.length:=by omega
    have:=congrArg (fun l=>l[i]?) he;simp only[List.getElem?_map,List.getElem?_eq_getElem aF,List.getElem?_eq_getElem aG,Option.map_some,Option.some.injEq,Prod.mk.injEq] at this
    by_cases s:j=i
    ·subst s;simp
    ·simpa[Array.getElem_modify,s,List.getElem_set] using this
  ·intro p hp;simp only[EE,hf] at hp;rcases List.mem_or_eq_of_mem_set hp with hp|rfl
   ·exact hl p hp
   ·exact hk
end
section
variable{α:Type}{ev:α→Value}{w w':World}{r n:Nat}{L:List (List Int×α)}
theorem Cr.of(h:Cr ev w r n L)(e:w'.heap[r]?=w.heap[r]?):Cr ev w' r n L:=by
 obtain⟨es,c,h1,h2⟩:=h;exact⟨es,c,e.trans h1,h2⟩
theorem Cr.gr{x:Option Nat}(h:Cr ev w r n L)(g:w.grownBy w' x)(a:some r≠x):Cr ev w' r n L:=h.of (g.block r h.lt a)
end
theorem IC{α:Type}(L:List (List Int×α))(k k':List Int)(v:α):BO (EE L k v) k'=if k'=k then some v else BO L k':=by
 induction L with
 |nil=>
  unfold BO EE
  by_cases h:k'=k
  ·subst h;simp
  ·have:(k'==k)=false:=by simpa using h
   simp[h]
 |cons p L ih=>
  unfold BO EE at*;simp only[List.findIdx?_cons];cases hb:(k==p.1)
  ·simp only[Bool.false_eq_true,if_false];cases hf:List.findIdx? (fun p=>k==p.1) L with
   |none=>
    rw[hf] at ih;simp only[Option.map_none,List.cons_append,List.find?_cons];cases a:(k'==p.1)
    ·simpa using ih
    ·have b:k'≠k:=by
      intro e;rw[e,hb] at a;cases a
     simp[b]
   |some j=>
    rw[hf] at ih;simp only[Option.map_some,List.set_cons_succ,List.find?_cons];cases a:(k'==p.1)
    ·simpa using ih
    ·have b:k'≠k:=by
      intro e;rw[e,hb] at a;cases a
     simp[b]
  ·have hk:=eq_of_beq hb;simp only[if_true,List.set_cons_zero,List.find?_cons]
   by_cases h:k'=k
   ·subst h;simp
   ·have h1:(k'==k)=false:=by simpa using h
    have h2:(k'==p.1)=false:=by rw[←hk];exact h1
    simp[h,h1,h2]
section
variable{F F' F0:Nat→Prop}{B:List (Option Nat)}{w0 w w' w1 w2:World}{Z Z':Nat→Prop}{L L' M C:List (Option Nat)}{D:Nat→Prop}
theorem AX(a:List Nat)(h:Hh L a M):∀x∈M,x∈L:=h.sub
theorem AI(a:List Nat)(h:Hh L a M)(b:∀k,F' k→F k):∀k,FU F' M k→F k∨some k∈L:=V4 h.sub b
theorem Co(h:∀k,F0 k→F k):∀k,FU F0 C k→F k∨some k∈C:=fun k hk=>hk.imp (h k) id
theorem F8{k:Nat}{o:Obj}{r:Option Nat}(h:w.heap[k]?=some o)(g:w.grownBy w' r)(a:some k≠r):w'.heap[k]?=some o:=(g.block k (Array.getElem?_eq_some_iff.1 h).1 a).trans h
theorem H5{k:Nat}{o:Obj}(h:w.heap[k]?=some o)(g:Br D w w')(a:¬D k):w'.heap[k]?=some o:=(g.block k (Array.getElem?_eq_some_iff.1 h).1 a).trans h
theorem Cr.B5{α:Type}{ev:α→Value}{r n:Nat}{a:List (List Int×α)}(h:Cr ev w r n a)(g:Br D w w')(b:¬D r):Cr ev w' r n a:=h.of (g.block r h.lt b)
theorem Cr.HK{α:Type}{ev:α→Value}{r n:Nat}{a:List (List Int×α)}(h:Cr ev w r n a)(e:w'.heap[r]?=w.heap[r]?):Cr ev w' r n a:=h.of e
theorem Bk.HK{b:Nat}{t:TypeId}{cs:Array Value}(h:Bk w b t cs)(e:w'.heap[b]?=w.heap[b]?):Bk w' b t cs:=e.trans h
theorem Hp.zz(h:Hp F B w0 L w)(a c:List Nat)(d:Hh L a M)(e:Hh L c C)(f:∀k,F' k→F k∨some k∈C):∀b,ZZ F B Z w0.heap.size L b→¬F' b∧some b∉M:=h.zc d.sub fun k hk=>(f k hk).imp id (e.sub _)
theorem Hp.mz(h:Hp F B w0 L w)(a b:List Nat)(c:Hh L a M)(d:Hh L b C)(e:∀k,F' k→F k∨some k∈C):Mv w (ZZ F B Z w0.heap.size L) w (ZC F' M):=ED (h.zz a b c d e)
theorem PB{i:Nat}{a b:List Nat}(h:((a++b).all fun j=> !Nat.beq i j)=true):(a.all fun j=> !Nat.beq i j)=true∧(b.all fun j=> !Nat.beq i j)=true:=by
 rw[List.all_append,Bool.and_eq_true] at h;exact h
theorem Hp.bz(h:Hp F B w0 L w)(i:Nat){b:Nat}(hi:L[i]?=some (some b))(a c:List Nat)(e:Hh L a M)(f:Hh L c C)(g:∀k,F' k→F k∨some k∈C)(d:((a++c).all fun j=> !Nat.beq i j)=true):ZC F' M b:=by
 have h1:=h.Cc (F':=F) i hi a (PB d).1 e (fun _ h=>h);have h2:=h.Cc (F':=F) i hi c (PB d).2 f (fun _ h=>h);exact⟨fun hb=>h2 ((g b hb).imp id id),fun hm=>h1 (.inr hm)⟩
theorem Hp.rz{α:Type}{e:Ci α}{t:TypeId}{n0:Nat}{A:Option Addr}{c:Nat}{xs:List α}(h:Hp F B w0 L w)(i:Nat)(hi:L[i]?=some (ob A))(a b:List Nat)(d:Hh L a M)(f:Hh L b C)(g:∀k,F' k→F k∨some k∈C)(l:((a++b).all fun j=> !Nat.beq i j)=true)
  (m:Bd e t n0 w (ZZ F B Z w0.heap.size L) A c xs):Sl e w (ZC F' M) A c xs:=
 (m.up (h.mz a b d f g)).sl fun k hk _=>h.bz i (by rw[hi,hk]) a b d f g l
theorem Bw{Z:Nat→Prop}(w:World):Mv w Z w (ZZ FN [] Z w.heap.size L):=AM (fun _ _=>⟨id,by simp⟩) w
theorem Dq(h:Mv w Z w' Z):Mv w Z w' (ZZ FN [] Z w.heap.size M):=⟨h.size,fun b hb hl=>⟨.inl ⟨hl,hb,id,by simp⟩,(h.stay b hb hl).2⟩⟩
theorem IK{n:Nat}{o:Option Nat}(h:o∈M:=by simp):Mv w (ZZ FN [] Z n M) w (ZZ FN [] Z n [o]):=JV fun b hb _=>hb.imp id fun⟨h1,h2⟩=>⟨h1,fun hm=>by
 rw[List.mem_singleton] at hm;exact h2 (by rw[hm];exact h)⟩
theorem G4(g:Br D w w')(h:∀b,Z b→¬D b):Mv w Z w' Z:=⟨g.size,fun b hb hl=>⟨hb,g.block b hl (h b hb)⟩⟩
theorem Fx{b:Nat}{o:Option Nat}(h:¬FU FN C b∧some b≠o):¬FU FN C b:=h.1
theorem Dc{b:Nat}{o:Option Nat}(h:¬FU F C b)(k:some b≠o):¬F b∧some b∉C++[o]:=
 ⟨fun h1=>h (.inl h1),fun h1=>by
  rcases List.mem_append.1 h1 with h2|h2
  ·exact h (.inr h2)
  ·exact k (by simpa using h2)⟩
theorem Br.lf{o:Option Nat}(g:Br (FU F (C++[o])) w w'):Br (FU (FU F C) [o]) w w':=g.mono fun k h=>by
 rcases h with h|h
 ·exact .inl (.inl h)
 ·rcases List.mem_append.1 h with h2|h2
  ·exact .inl (.inr h2)
  ·exact .inr h2
theorem Br.PC{o:Option Nat}(g:Br (FU F C) w w'):Br (FU (FU F C) [o]) w w':=g.mono fun _ h=>.inl h
theorem Br.cl{M1 M2:List (Option Nat)}(g:Br (FU (FU F M1) M2) w w'):Br (FU F (M1++M2)) w w':=g.fl
theorem Hp.Iz(h:Hp F B w0 L w)(a:List Nat)(b:Hh L a C)(c:∀k,F0 k→F k):∀k,FU F0 C k→k<w.heap.size:=fun k hk=>by
 rcases hk with hk|hk
 ·exact Nat.lt_of_lt_of_le (h.ff k (c k hk)) h.sz
 ·exact(h.lo k (b.sub _ hk)).1
theorem Hp.La(h:Hp F B w0 L w)(i:Nat){k:Nat}(hi:L[i]?=some (some k))(a:List Nat)(b:(a.all fun j=> !Nat.beq i j)=true)(c:Hh L a C):k<w.heap.size∧¬FU F C k:=
 ⟨(h.lo k (List.mem_of_getElem? hi)).1,h.Cc (F':=F) i hi a b c fun _ h=>h⟩
theorem Hp.Wa{x c:Option Nat}(h:Hp F B w0 L w)(i:Nat)(hi:L[i]?=some x)(a:List Nat)(d:(a.all fun j=> !Nat.beq i j)=true)(e:Hh L a M)(f:∀y∈B,y=c∨y∈M):∀k,x=some k→(c=some k∨w0.heap.size≤k)∧k<w.heap.size:=fun k hk=>by
 have h1:=h.lo k (List.mem_of_getElem? (by rw[hi,hk]));refine⟨?_,h1.1⟩;rcases Nat.lt_or_ge k w0.heap.size with h2|h2
 ·left;rcases f _ (h1.2.2 h2) with b|b
  ·exact b.symm
  ·exact absurd (.inr b) (h.Cc (F':=F) i (by rw[hi,hk]) a d e fun _ h=>h)
 ·exact .inr h2
theorem Bp.snoc{o:Option Nat}(h:Bp F C w)(f:∀k,o=some k→k<w.heap.size∧¬FU F C k):Bp F (C++[o]) w:=by
 refine⟨fun k hk=>?_,fun i j x g hi d=>?_,h.ff⟩
 ·rcases List.mem_append.1 hk with h1|h1
  ·exact h.lt k h1
  ·have h2:=f k (by rw[List.mem_singleton] at h1;exact h1.symm);exact⟨h2.1,fun hf=>h2.2 (.inl hf)⟩
 ·have key:∀(a b:Nat),a<C.length→¬b<C.length→(C++[o])[a]?=some (some x)→(C++[o])[b]?=some (some x)→False:=fun a b n hb h1 h2=>by
   rw[List.getElem?_append_left n] at h1;rw[List.getElem?_append_right (by omega)] at h2;have l:b-C.length=0:=by
    rcases Nat.eq_zero_or_pos (b-C.length) with h|h
    ·exact h
    ·rw[List.getElem?_eq_none (by simp;omega)] at h2;cases h2
   rw[l] at h2;have m:o=some x:=by simpa using h2
   exact(f x m).2 (.inr (List.mem_of_getElem? h1))
  by_cases e:i<C.length
  ·by_cases c:j<C.length
   ·rw[List.getElem?_append_left e] at hi;rw[List.getElem?_append_left c] at d;exact h.ap i j x g hi d
   ·exact key i j e c hi d
  ·by_cases c:j<C.length
   ·exact key j i c e d hi
   ·have hl:(C++[o]).length=C.length+1:=by simp
    have h1:=(List.getElem?_eq_some_iff.1 hi).1;have h2:=(List.getElem?_eq_some_iff.1 d).1;omega
theorem Bp.keep{o o':Option Nat}(h:Bp F C w)(hn:w.heap.size≤w1.heap.size)(b:∀k,o=some k→k<w1.heap.size∧¬FU F C k)(c:∀k,o'=some k→(o=some k∨w1.heap.size≤k)∧k<w2.heap.size):∀k,o'=some k→k<w2.heap.size∧¬FU F C k:=fun k hk=>by
 obtain⟨h1,h2⟩:=c k hk;refine⟨h2,?_⟩;rcases h1 with h1|h1
 ·exact(b k h1).2
 ·rintro(a|a)
  ·have:=h.ff k a;omega
  ·have:=(h.lt k a).1;omega
def X7(L:List (Option Nat))(n:Nat):List (Option Nat)→Prop
 |[]=>True
 |x::M=>((∃j:Nat,L[j]?=some x)∨∀k,x=some k→some k∈L∨n≤k)∧X7 L n M
theorem B3{n:Nat}:∀{M:List (Option Nat)},X7 L n M→∀k,some k∈M→some k∈L∨n≤k
 |[],_,_,h=>by cases h
 |x::M,h,k,hk=>by
  rcases List.mem_cons.1 hk with e|hk
  ·rcases h.1 with⟨j,a⟩|h1
   ·left;rw[e];exact List.mem_of_getElem? a
   ·exact h1 k e.symm
  ·exact B3 h.2 k hk
theorem Cp{y:Option Nat}(i:Nat)(h:y∈M):∀x∈L.set i y,x∈L∨x∈M:=fun x a=>by
 rcases List.mem_or_eq_of_mem_set a with h1|e
 ·exact .inl h1
 ·exact .inr (by rw[e];exact h)
theorem HL{o:Option Nat}:∀b,ZC F [o] b→¬F b∧some b≠o:=fun _ h=>⟨h.1,fun e=>h.2 (by rw[e];exact List.mem_singleton_self _)⟩
end
theorem PD{F:Nat→Prop}{B L:List (Option Nat)}{n:Nat}{Z Z':Nat→Prop}(h:∀b,Z b→Z' b):∀b,ZZ F B Z n L b→ZZ F B Z' n L b:=fun b hb=>hb.imp (fun⟨h1,h2,a⟩=>⟨h1,h b h2,a⟩) id
def L6{α:Type}(e:Ci α)(w:World)(Z:Nat→Prop)(A:Option Addr)(c:Nat)(xs:List α):Prop:=
 xs.length≤c∧(A=none→c=0)∧∃Bu,R2 e w Z Bu xs∧Rz w ZA A Bu.flatten
section
variable{α:Type}{e:Ci α}{t:TypeId}{n0:Nat}{w w':World}{Z Z':Nat→Prop}{A:Option Addr}{c:Nat}{xs:List α}
theorem L6.ext(h:L6 e w Z A c xs)(g:Ext w w')(hm:Mv w Z w' Z'):L6 e w' Z' A c xs:=⟨h.1,h.2.1,h.2.2.imp fun _ h=>⟨h.1.mv hm,h.2.mv (Ab g)⟩⟩
theorem Bd.n(h:Bd e t n0 w Z A c xs):L6 e w Z A c xs:=by
 have h2:=h.all;obtain⟨Bu,a,b⟩:=h;refine⟨h2.1,h2.2.1,Bu,a,?_⟩;have d:=b.rd;exact Ob d fun _ _ _=>trivial
theorem Sl.n(h:Sl e w Z A c xs):L6 e w Z A c xs:=⟨h.1,h.2.1,h.2.2.imp fun _ h=>⟨h.1,h.2.mv K5⟩⟩
theorem Sl.HT(hf:∀w Z w' Z' cs x,e.R w Z cs x→e.R w' Z' cs x)(h:Sl e w Z A c xs):L6 e w Z' A c xs:=⟨h.1,h.2.1,h.2.2.imp fun _ h=>⟨h.1.free hf,h.2.mv K5⟩⟩
theorem Bd.HT(hf:∀w Z w' Z' cs x,e.R w Z cs x→e.R w' Z' cs x)(h:Bd e t n0 w Z A c xs):L6 e w Z' A c xs:=h.all.HT hf
end
section
variable{P:Program}{a:Act}{w:World}{dst:Option Tmp}{ty:TypeId}{pos:String}{BR:Array Edge}{g:Option (Nat×Bool)}
theorem G5{α:Type}{e:Ci α}{s x:Operand}{t j:TypeId}{z:Value}{sz bytes:Nat}(y:P.underlying t=some (.slice j))(hi:(P.info? j).map (fun i=>(i.zero,i.size,i.bytes))=some (some z,sz,bytes))(l:z.cells.size=sz)(m:e.sz=sz)(h0:0<sz)
  {n0:Nat}{Z:Nat→Prop}{A B:Option Addr}{c d n:Nat}{xs ys:List α}(hs:a.eval s=.slice A n c)(hn:xs.length=n)(aA:a.eval x=.slice B ys.length d)(h:Bd e j n0 w Z A c xs)(r:L6 e w Z B d ys)
  (o:xs.length+ys.length≤maxLen)(b:(xs.length+ys.length)*bytes≤140737488355328)(f:n0≤w.heap.size):
  BW P ⟨dst,.call {callee:=.builtin .append,args:= #[s,x],argTypes:= #[t,t]},ty,pos,BR,g⟩ a w (fun v w'=>∃u c',v=.slice u (xs++ys).length c'∧w.grownBy w' (ob A)∧(∀k,ob u=some k→(ob A=some k∨w.heap.size≤k)∧k<w'.heap.size)∧
   ∃Bu p,R2 e w Z Bu xs∧R2 e w Z p ys∧EJ w' n0 j e.sz u (xs++ys).length c' (Bu++p).flatten):=by
 by_cases q:ys=[]
 ·refine V7 y hi l m h0 hs hn aA h ?_ o b f;subst q;exact⟨r.1,r.2.1,[],trivial,.inl rfl⟩
 ·obtain⟨_,_,Bu,h1,h2⟩:=r;exact IB y hi l m h0 hs hn aA h ⟨Bu,h1,h2⟩ o b f q
end
section
variable{α:Type}{e:Ci α}{t:TypeId}{n0:Nat}{w w':World}{Z Z':Nat→Prop}{A:Option Addr}{c:Nat}{xs:List α}
theorem Bd.XD(hf:∀w Z w' Z' cs x,e.R w Z cs x→e.R w' Z' cs x)(h:Bd e t n0 w Z A c xs):Bd e t n0 w Z' A c xs:=by
 obtain⟨Bu,h1,h2⟩:=h;exact⟨Bu,h1.free hf,h2⟩
theorem Bd.Yp(h:Bd e t n0 w Z A c xs):A=none→c=0:=h.all.2.1
theorem Bd.keep(h:Bd e t n0 w Z A c xs)(hm:Mv w Z w' Z')(hk:∀k,ob A=some k→w'.heap[k]?=w.heap[k]?):Bd e t n0 w' Z' A c xs:=by
 obtain⟨Bu,h1,h2⟩:=h;refine⟨Bu,h1.mv hm,h2.1,h2.2.imp id ?_⟩;rintro⟨b,cap,cur,a,d,f,h5⟩;cases a;exact⟨b,_,cur,rfl,d,(hk b rfl).trans f,h5⟩
end
def Jm{α:Type}(xs:List α)(l h:Int):List α:=(xs.take h.toNat).drop l.toNat
def QB(n:Nat)(l h:Int):Option Unit:=if 0≤l∧l≤h∧h≤(n:Int) then some () else none
theorem Rj{α:Type}{n:Nat}{l h:Int}{f:Unit→Option α}{r:α}(a:(QB n l h).bind f=some r):(0≤l∧l≤h∧h≤(n:Int))∧f ()=some r:=by
 unfold QB at a;split at a
 ·exact⟨by assumption,a⟩
 ·cases a
def SB(a:Act)(o:Option Operand)(v d:Int):Prop:=(o=none∧v=d)∨∃x k,o=some x∧a.eval x=.int k v
theorem Wb{a:Act}{d:Int}:SB a none d d:=.inl ⟨rfl,rfl⟩
theorem Yq{a:Act}{x:Operand}{k:IntKind}{v d:Int}(h:a.eval x=.int k v):SB a (some x) v d:=.inr ⟨x,k,rfl,h⟩
theorem QC{P:Program}(w:World)(k:IntKind)(i:Int)(y:Nat)(code:BoundsCode)(h0:0≤i)(h1:i≤(y:Int)):(Instr.sliceBound (.int k i) y code).run P w=.ok i.toNat w:=by
 simp[Instr.sliceBound,asIntOf,h0,h1]
def TJ(n:Int)(b:Nat):Option Unit:=if 0≤n∧n*b≤140737488355328∧n≤140737488355328 then some () else none
theorem SU{α:Type}{n:Int}{b:Nat}{f:Unit→Option α}{r:α}(h:(TJ n b).bind f=some r):(0≤n∧n*b≤140737488355328∧n≤140737488355328)∧f ()=some r:=by
 unfold TJ at h;split at h
 ·exact⟨by assumption,h⟩
 ·cases h
theorem Lb(z:Array Value):∀m:Nat,(madeCells z (m*z.size)).toList=(List.replicate m z.toList).flatten
 |0=>by simp[madeCells]
 |m+1=>by
  have ih:=Lb z m;have e:∀k,(madeCells z k).toList=(List.range k).map (z[· %z.size]!):=fun k=>by simp[madeCells]
  rw[e] at ih⊢;rw[Nat.add_mul,Nat.one_mul,List.range_add,List.map_append,ih,List.replicate_succ',List.flatten_append]
  congr 1
  simp only[List.map_map,List.flatten_cons,List.flatten_nil,List.append_nil];refine List.ext_getElem (by simp) fun i h1 h2=>?_;simp only[List.getElem_map,List.getElem_range,Function.comp];have hi:i<z.size:=by simpa using h2
  rw[Nat.add_comm,Nat.add_mul_mod_self_right,Nat.mod_eq_of_lt hi];simp[hi]
theorem R2.X8{α:Type}{e:Ci α}{w:World}{Z:Nat→Prop}{c:List Value}{x:α}(h:e.R w Z c x):∀m:Nat,R2 e w Z (List.replicate m c) (List.replicate m x)
 |0=>trivial
 |m+1=>⟨h,R2.X8 h m⟩
section
variable{P:Program}{a:Act}{w:World}{dst:Option Tmp}{ty:TypeId}{pos:String}{BR:Array Edge}{g:Option (Nat×Bool)}
theorem Uh{α:Type}{e:Ci α}{z:α}{zc:List Value}{n0:Nat}{t j:TypeId}{d:Value}{sz bytes:Nat}{n:Int}{x y:Operand}{l m:IntKind}{b':Nat}(v:P.underlying t=some (.slice j))(hi:(P.info? j).map (fun i=>(i.zero,i.size,i.bytes))=some (some d,sz,bytes))
  (o:d.cells.toList=zc)(c:e.sz=sz)(aA:a.eval x=.int l n)(aB:a.eval y=.int m n)(hm:0≤n∧n*b'≤140737488355328∧n≤140737488355328)(p:∀w Z,e.R w Z zc z)(hb:n0≤w.heap.size)(aE:bytes≤b'):
  BW P ⟨dst,.makeSlice t x y,ty,pos,BR,g⟩ a w (fun u w'=>∃b,u=.slice (some ⟨b,0,none⟩) (List.replicate n.toNat z).length n.toNat∧w.heap.size≤b∧b<w'.heap.size∧Ext w w'∧∀Z,Bd e j n0 w' Z (some ⟨b,0,none⟩) n.toNat (List.replicate n.toNat z)):=by
 subst o;subst c;cases f:P.info? j with
 |none=>simp[f] at hi
 |some i=>
  rw[f] at hi;simp only[Option.map_some,Option.some.injEq,Prod.mk.injEq] at hi;obtain⟨h1,h2,aC⟩:=hi;obtain⟨q,aF,aG⟩:=hm;have r:d.cells.toList.length=e.sz:=e.len (p w ZA);have c:d.cells.size=e.sz:=by simpa using r
  have s:(i.bytes:Int)*n≤281474976710656:=by
   rw[aC];have h5:(bytes:Int)*n≤(b':Int)*n:=Int.mul_le_mul_of_nonneg_right (by omega) q;rw[Int.mul_comm (b':Int)] at h5;omega
  have aD:=run_make (P:=P) w t j i d v f h1 l m n n q (Int.le_refl _) s (by omega);refine(Jd (S:=Instr.makeSlice t (a.eval x) (a.eval y)) rfl (by rw[aA,aB];exact aD)).mono fun u w' h=>?_;obtain⟨rfl,rfl⟩:=h;have hn:=Js w j (madeCells d.cells (n.toNat*i.size));refine⟨w.heap.size,by rw[List.length_replicate],Nat.le_refl _,by rw[hn.sz];exact Nat.lt_succ_self _,hn.gr,fun Z=>⟨_,R2.X8 (p _ Z) n.toNat,?_⟩⟩;rw[List.length_replicate];have k:(List.replicate n.toNat d.cells.toList).flatten.length=n.toNat*e.sz:=by rw[←Lb,←c];simp[size_madeCells]
  refine⟨k,.inr ⟨w.heap.size,n.toNat,_,rfl,hb,hn.bk,Nat.le_refl _,by simp only[maxLen];omega,by rw[size_madeCells,h2],?_⟩⟩;rw[h2,←c,Lb,List.take_of_length_le (by rw[k,c];exact Nat.le_refl _)]
end
section
variable{P:Program}{a:Act}{w:World}{dst:Option Tmp}{ty:TypeId}{pos:String}{BR:Array Edge}{g:Option (Nat×Bool)}
theorem SV {α:Type} {e:Ci α} {s t:TypeId} {x y:Operand} {b o k p c:Nat} {v:Value} {n0:Nat} {Z:Nat→Prop} {A:Option Addr} {xs:List α} {z z':α} {l:List Value} {n:Nat}
  (aA:Bd e s n0 w Z A c xs) (aC:xs[k]?=some z) (aL:A=some ⟨b,o,none⟩) (hp:p=o+k*e.sz) (aM:a.eval x=.pointer (some ⟨b,p,none⟩)) (aN:a.eval y=v) (hs:(P.info? t).map (·.size)=some n) (hl:v.cells.toList=l) (hn:l.length=n)
  (h1:∀u∈l,u.oneCell'=true) (aD:e.R w Z l z'):
  BW P ⟨dst,.store t x y,ty,pos,BR,g⟩ a w (fun _ w'=>w.grownBy w' (ob A)∧∃Bu,R2 e w Z Bu (xs.set k z')∧EJ w' n0 s e.sz A (xs.set k z').length c Bu.flatten):=by
 obtain⟨Bu,h2,aO⟩:=aA;obtain⟨aX,aS,aE,aT⟩:=h2.get aC;have aU:=e.len aE;have aF:=e.len aD;subst aL;subst hp;have aG:k<xs.length:=(List.getElem?_eq_some_iff.1 aC).1;have hlen:=h2.len;have f:=h2.lens;rcases aO.2 with⟨aH,h0⟩|⟨aY,cap,cur,aH,aI,aP,m,aJ,aB,h⟩
 ·omega
 ·cases aH;have aV:k*e.sz+e.sz≤xs.length*e.sz:=by
   have:(k+1)*e.sz≤xs.length*e.sz:=Nat.mul_le_mul_right _ aG;rw[Nat.add_mul,Nat.one_mul] at this;exact this
  have aW:xs.length*e.sz≤c*e.sz:=Nat.mul_le_mul_right _ m;have aK:Bk w b s cur:=aP;refine(Bj (Cn:=setCells cur (0+k*e.sz) l) aM aN hs aK hl hn (by omega) h1 rfl).mono ?_;rintro _ w' ⟨s1,s2,aQ⟩;have d:=h2.set aD k;refine⟨aQ,_,d,by rw[d.Ma],.inr ⟨b,c,setCells cur (0+k*e.sz) l,rfl,aI,s2,by rw[List.length_set];exact m,aJ,by rw[KQ 0];exact aB,?_⟩⟩;rw[List.length_set];rcases Nat.eq_zero_or_pos e.sz with h0|h0
  ·have aR:(Bu.set k l).flatten=[]:=List.eq_nil_of_length_eq_zero (by rw[d.Ma,h0,Nat.mul_zero]);rw[aR,h0,Nat.mul_zero,List.take_zero]
  ·refine List.ext_getElem? fun j=>?_;rw[Ol aF h0 k Bu j f (by omega),List.getElem?_take,Array.getElem?_toList,K6 _ _ _ _ (by omega)];have q:∀j:Nat,Bu.flatten[j]?=if j<xs.length*e.sz then cur[j]? else none:=fun j=>by
    rw[←h,List.getElem?_take,Array.getElem?_toList]
   by_cases i:j<xs.length*e.sz
   ·rw[if_pos i]
    by_cases r:k*e.sz≤j∧j<k*e.sz+e.sz
    ·rw[if_pos (by omega),if_pos r,show j-(0+k*e.sz)=j-k*e.sz by omega]
    ·rw[if_neg (by omega),if_neg r,q,if_pos i]
   ·rw[if_neg i,if_neg (by omega),q,if_neg i]
theorem Rk{α:Type}{e:Ci α}{f t:TypeId}{x y:Operand}{b o k p c:Nat}{v:Value}{n0:Nat}{Z:Nat→Prop}{A:Option Addr}{xs:List α}{z z':α}{l:List Value}{n:Nat}
  (d:Bd e f n0 w Z A c xs)(i:xs[k]?=some z)(j:A=some ⟨b,o,none⟩)(hp:p=o+k)(m:a.eval x=.pointer (some ⟨b,p,none⟩))(q:a.eval y=v)(hs:(P.info? t).map (·.size)=some n)(hl:v.cells.toList=l)(hn:l.length=n)
  (h1:∀u∈l,u.oneCell'=true)(r:e.R w Z l z')(h:e.sz=1:=by rfl):
  BW P ⟨dst,.store t x y,ty,pos,BR,g⟩ a w (fun _ w'=>w.grownBy w' (ob A)∧∃Bu,R2 e w Z Bu (xs.set k z')∧EJ w' n0 f e.sz A (xs.set k z').length c Bu.flatten):=
 SV d i j (by rw[h,Nat.mul_one];exact hp) m q hs hl hn h1 r
end
theorem Kg{l:List Int}{i:Nat}{x:Int}(h:l[i]?=some x):(l.map fun n=>Value.int .i64 n)[i]?=some (.int .i64 x):=by rw[List.getElem?_map,h];rfl
def TC(w:World)(D:Nat→Prop)(M:World→Prop):Nat→World→Prop
 |0,w'=>Ext w w'
 |_+1,w'=>Br D w w'∧M w'
section
variable{w w' Bi:World}{D:Nat→Prop}{M:World→Prop}{ph:Nat}
theorem Rl(h:TC w D M ph w'):Br D w w':=by
 cases ph with
 |zero=>exact EK h
 |succ=>exact h.1
theorem E3(h:TC w D M ph w')(hp:ph=0):Ext w w':=by subst hp;exact h
theorem Rm(c:∀a b,M a→Ext a b→M b)(h:TC w D M ph w')(g:Ext w' Bi):TC w D M ph Bi:=by
 cases ph with
 |zero=>exact Ext.trans h g
 |succ=>exact⟨(show Br D w w' from h.1).trans (EK g),c _ _ h.2 g⟩
theorem TK(h:TC w D M ph w')(hp:ph=0)(g:Br D w' Bi)(a:M Bi):TC w D M (ph+1) Bi:=by
 subst hp;exact⟨(EK h).trans g,a⟩
theorem Ui{r:Option Nat}(g:w.grownBy w' r):Br (FU FN [r]) w w':=JH g fun k e=>.inr (by rw[e];exact List.mem_singleton_self _)
end
section
variable{F F':Nat→Prop}{B:List (Option Nat)}{w0 w w':World}{L M:List (Option Nat)}
theorem Hp.ME{α:Type}{e:Ci α}{t:TypeId}{A:Option Addr}{c:Nat}{xs:List α}{Z Z':Nat→Prop}(h:Hp F B w0 L w)(hf:∀w Z w' Z' cs x,e.R w Z cs x→e.R w' Z' cs x)(a:Bd e t w.heap.size w' Z' A c xs):Bd e t w0.heap.size w' Z A c xs:=
 Bd.XD hf (a.base (n1:=w0.heap.size) fun k hk=>Nat.le_trans h.sz (a.ge k hk))
theorem Hp.PE (h:Hp F B w0 L w) (d:Hp F B w0 L w') {b:Nat} (hb:w.heap.size≤b) (hs:b<w'.heap.size):Hp F B w0 (some b::L) w':=by
 refine⟨d.ch,fun k hk=>?_,?_,h.ff⟩
 ·rcases List.mem_cons.1 hk with e|hk
  ·cases e;exact⟨hs,fun g=>absurd (h.ff _ g) (by have:=h.sz;omega),fun hl=>absurd hl (by have:=h.sz;omega)⟩
  ·exact d.lo k hk
 ·have key:∀(j:Nat) (x:Nat),L[j]?=some (some x)→x≠b:=fun j x l e=>by
   have:=(h.lo x (List.mem_of_getElem? l)).1;omega
  intro i j x f hi a;cases i with
  |zero=>
   cases j with
   |zero=>exact f rfl
   |succ j=>
    have c:b=x:=by simpa using hi
    exact key j x (by simpa using a) c.symm
  |succ i=>
   cases j with
   |zero=>
    have c:b=x:=by simpa using a
    exact key i x (by simpa using hi) c.symm
   |succ j=>exact h.ap i j x (by omega) (by simpa using hi) (by simpa using a)
theorem Hn{Z:Nat→Prop}{n0:Nat}{b:Nat}(hm:Mv w (ZZ F B Z n0 L) w' (ZZ F B Z n0 L))(hb:w.heap.size≤b):Mv w (ZZ F B Z n0 L) w' (ZZ F B Z n0 (some b::L)):=
 ⟨hm.size,fun k hk hl=>⟨(hm.stay k hk hl).1.imp id fun⟨h1,h2⟩=>⟨h1,fun a=>by
  rcases List.mem_cons.1 a with e|a
  ·cases e;omega
  ·exact h2 a⟩,(hm.stay k hk hl).2⟩⟩
end
def XE (w:World) (R:World→Value→World→Prop):KR Ext:=
 ⟨fun v a=>∃w1 w2,Ext w w1∧R w1 v w2∧Ext w2 a,fun _ _ _ ⟨w1,w2,h1,h2,b⟩ g=>⟨w1,w2,h1,h2,Ext.trans b g⟩⟩
def QD(w:World)(R:World→Value→World→Prop)(a:World):Prop:=∃v w1 w2,Ext w w1∧R w1 v w2∧Ext w2 a
theorem Rn{w:World}{R:World→Value→World→Prop}:∀a b,QD w R a→Ext a b→QD w R b:=fun _ _ ⟨v,w1,w2,h1,h2,c⟩ g=>⟨v,w1,w2,h1,h2,Ext.trans c g⟩
def QE(_:World):Prop:=True
theorem Ro:∀a b,QE a→Ext a b→QE b:=fun _ _ _ _=>trivial
def FR(n:Nat)(w:World):List Nat→Prop
 |[]=>True
 |b::l=>n≤b∧b<w.heap.size∧(l.all fun x=> !Nat.beq b x)=true∧FR n w l
section
variable{F F':Nat→Prop}{B:List (Option Nat)}{w0 w w':World}{L M:List (Option Nat)}{Z:Nat→Prop}
theorem FR.mem{n:Nat}:∀{l:List Nat},FR n w l→∀b∈l,n≤b∧b<w.heap.size
 |[],_,_,h=>by cases h
 |x::l,h,b,hb=>by
  rcases List.mem_cons.1 hb with rfl|hb
  ·exact⟨h.1,h.2.1⟩
  ·exact FR.mem h.2.2.2 b hb
theorem FR.grow{n a:Nat}(hn:a≤n)(hs:w.heap.size≤w'.heap.size):∀{l:List Nat},FR n w l→FR a w' l
 |[],_=>trivial
 |_::_,h=>⟨Nat.le_trans hn h.1,Nat.lt_of_lt_of_le h.2.1 hs,h.2.2.1,FR.grow hn hs h.2.2.2⟩
theorem Hp.Md(h:Hp F B w0 L w):∀{l:List Nat},Hp F B w0 L w'→FR w.heap.size w' l→Hp F B w0 (l.map some++L) w'
 |[],a,_=>a
 |b::l,a,hl=>by
  have h2:=Hp.Md h a hl.2.2.2;refine⟨h2.ch,fun k hk=>?_,?_,h.ff⟩
  ·rcases List.mem_cons.1 hk with e|hk
   ·cases e;exact⟨hl.2.1,fun m=>absurd (h.ff _ m) (by have:=h.sz;have:=hl.1;omega),fun f=>absurd f (by have:=h.sz;have:=hl.1;omega)⟩
   ·exact h2.lo k hk
  ·have key:∀(j:Nat) (x:Nat),(l.map some++L)[j]?=some (some x)→x≠b:=fun j x n e=>by
    subst e;have hm:=List.mem_of_getElem? n;rcases List.mem_append.1 hm with hm|hm
    ·obtain⟨y,o,e⟩:=List.mem_map.1 hm;cases e;have:=List.all_eq_true.1 hl.2.2.1 x o;rw[Nat.beq_refl] at this;cases this
    ·have:=(h.lo x hm).1;have:=hl.1;omega
   intro i j x g hi c;cases i with
   |zero=>
    cases j with
    |zero=>exact g rfl
    |succ j=>
     have d:b=x:=by simpa using hi
     exact key j x (by simpa using c) d.symm
   |succ i=>
    cases j with
    |zero=>
     have d:b=x:=by simpa using c
     exact key i x (by simpa using hi) d.symm
    |succ j=>exact h2.ap i j x (by omega) (by simpa using hi) (by simpa using c)
theorem Hp.IY(h:Hp F B w0 L w)(g:Ext w w'){l:List Nat}(hl:FR w.heap.size w' l):Hp F B w0 (l.map some++L) w':=h.Md (h.ext g) hl
theorem Ca{n0:Nat}{l:List Nat}(hm:Mv w (ZZ F B Z n0 L) w' (ZZ F B Z n0 L))(hl:FR w.heap.size w' l):Mv w (ZZ F B Z n0 L) w' (ZZ F B Z n0 (l.map some++L)):=
 ⟨hm.size,fun k hk b=>⟨(hm.stay k hk b).1.imp id fun⟨h1,h2⟩=>⟨h1,fun a=>by
  rcases List.mem_append.1 a with a|a
  ·obtain⟨y,c,e⟩:=List.mem_map.1 a;cases e;have:=(hl.mem k c).1;omega
  ·exact h2 a⟩,(hm.stay k hk b).2⟩⟩
theorem NT{b c:Nat}(hb:w.heap.size≤b)(a:b<w'.heap.size)(hc:w.heap.size≤c)(d:c<w'.heap.size)(e:b≠c):FR w.heap.size w' [b,c]:=
 ⟨hb,a,by
  have:Nat.beq b c=false:=by
   cases h:Nat.beq b c with
   |false=>rfl
   |true=>exact absurd (Nat.eq_of_beq_eq_true h) e
  simp[this],hc,d,rfl,trivial⟩
theorem Hp.J5 (h:Hp F B w0 L w):∀(l:List Nat) (c:List Nat),Hh L c (l.map some)→Kf c=true→(∀b∈l,w0.heap.size≤b)→FR w0.heap.size w l
 |[],_,_,_,_=>trivial
 |b::l,[],a,_,_=>a.elim
 |b::l,j::c,a,hn,d=>by
  simp only[Kf,Bool.and_eq_true] at hn;refine⟨d b (List.mem_cons_self ..),(h.lo b (List.mem_of_getElem? a.1)).1,?_,h.J5 l c a.2 hn.2 fun x e=>d x (List.mem_cons_of_mem _ e)⟩;rw[List.all_eq_true];intro x e;cases hb:Nat.beq b x with
  |false=>rfl
  |true=>
   have f:=Nat.eq_of_beq_eq_true hb;subst f;have h1:=h.Cc (F':=FN) j a.1 c hn.1 a.2 (fun _ h=>h.elim);exact absurd (.inr (List.mem_map.2 ⟨b,e,rfl⟩)) h1
end
section
variable{P:Program}{N:Nat}{Q:Exit→Act→World→Prop}{a:Act}{l:Env}{w:World}
def QF(a:Act):Act:={a with defers:=[]}
theorem Nw(a:Act):∀l:Env,BX (QF a) l=QF (BX a l)
 |[]=>rfl
 |(d,v)::l=>by simp only[BX,Nw a l];rfl
theorem Kh{D:Nat}{fn:Func}{R:Value→World→Prop}(c:w.heap[D]?=some (.deferred (some [])))(h:∀w',If D w w'→LV X0 N (bodyPost P fn (fun e w'=>∃v,e=.returned v∧R v w')) .ret (QF a) l w'):
  LV (X1 D) N (PM P fn R) .ret a l w:=fun s=>by
 have hs:St X0 N (QF a) l:=⟨s.sz,rfl,s.lt⟩;obtain⟨_,v,b,d⟩:=h _ (Iq w D (.deferred none)) hs;show LeavesInM Fence.wide 0 P fn _ _ (BX a l).defers .returning w;rw[DM,show a.defers=mark D from s.df];refine⟨by simp,.inl ⟨D,_,rfl,run_takeDeferred c,?_⟩⟩;rw[Nw] at b;exact⟨v,b,d⟩
end
theorem Uj{α:Type}{b:Bool}{x:Option α}{r:α}(h:cond b none x=some r):b=false∧x=some r:=by
 cases b with
 |true=>cases h
 |false=>exact⟨rfl,h⟩
section
variable{P:Program}{N:Nat}{a:Act}{l:Env}{w:World}
theorem Me{fn:Func}{t q n:ResultVar}{v v' L8:Value}{R:Value→World→Prop}(g:fn.results= #[t,q,n])(h1:Og P a l w t v)(h2:Og P a l w q v')(i:Og P a l w n L8)(h:R (.tuple #[v,v',L8]) w):
  LV X0 N (bodyPost P fn (fun e w'=>∃v,e=.returned v∧R v w')) .ret a l w:=fun s=>by
 refine bodyPost_ret (v:=.tuple #[v,v',L8]) ?_ (by rw[DM,s.df]) ⟨_,rfl,h⟩;cases t with
 |tmp t0=>
  have d:(BX a l).tmps.getD t0 undef=v:=ee s h1;simp only[Array.getD_eq_getD_getElem?] at d;cases q with
  |tmp t1=>
   have c:(BX a l).tmps.getD t1 undef=v':=ee s h2;simp only[Array.getD_eq_getD_getElem?] at c;cases n with
   |tmp t2=>
    have b:(BX a l).tmps.getD t2 undef=L8:=ee s i;simp only[Array.getD_eq_getD_getElem?] at b;simp[results,g,d,c,b]
   |cell j t2=>
    obtain⟨f,k,m⟩:=i;have b:(BX a l).tmps.getD j undef=.pointer (some f):=ee s k;simp only[Array.getD_eq_getD_getElem?] at b;simp[results,g,d,c,b,asAddr,m]
  |cell u t1=>
   obtain⟨o,x,p⟩:=h2;have c:(BX a l).tmps.getD u undef=.pointer (some o):=ee s x;simp only[Array.getD_eq_getD_getElem?] at c;cases n with
   |tmp t2=>
    have b:(BX a l).tmps.getD t2 undef=L8:=ee s i;simp only[Array.getD_eq_getD_getElem?] at b;simp[results,g,d,c,asAddr,p,b]
   |cell j t2=>
    obtain⟨f,k,m⟩:=i;have b:(BX a l).tmps.getD j undef=.pointer (some f):=ee s k;simp only[Array.getD_eq_getD_getElem?] at b;simp[results,g,d,c,asAddr,p,b,asAddr,m]
 |cell z t0=>
  obtain⟨y,aA,r⟩:=h1;have d:(BX a l).tmps.getD z undef=.pointer (some y):=ee s aA;simp only[Array.getD_eq_getD_getElem?] at d;cases q with
  |tmp t1=>
   have c:(BX a l).tmps.getD t1 undef=v':=ee s h2;simp only[Array.getD_eq_getD_getElem?] at c;cases n with
   |tmp t2=>
    have b:(BX a l).tmps.getD t2 undef=L8:=ee s i;simp only[Array.getD_eq_getD_getElem?] at b;simp[results,g,d,asAddr,r,c,b]
   |cell j t2=>
    obtain⟨f,k,m⟩:=i;have b:(BX a l).tmps.getD j undef=.pointer (some f):=ee s k;simp only[Array.getD_eq_getD_getElem?] at b;simp[results,g,d,asAddr,r,c,b,asAddr,m]
  |cell u t1=>
   obtain⟨o,x,p⟩:=h2;have c:(BX a l).tmps.getD u undef=.pointer (some o):=ee s x;simp only[Array.getD_eq_getD_getElem?] at c;cases n with
   |tmp t2=>
    have b:(BX a l).tmps.getD t2 undef=L8:=ee s i;simp only[Array.getD_eq_getD_getElem?] at b;simp[results,g,d,asAddr,r,c,asAddr,p,b]
   |cell j t2=>
    obtain⟨f,k,m⟩:=i;have b:(BX a l).tmps.getD j undef=.pointer (some f):=ee s k;simp only[Array.getD_eq_getD_getElem?] at b;simp[results,g,d,asAddr,r,c,asAddr,p,b,asAddr,m]
end
end Go.Proofs.YtcdofnchafcfpaaGreat
end
section
namespace Go.Proofs.YtcdofnchafcfpaaGreat
open Go.RowKit
theorem J6{b:Bool}(h:b=false)(k:b=true):False:=by rw[h] at k;cases k
section
variable{F F':Nat→Prop}{B:List (Option Nat)}{w0 w w' Bi:World}{Z:Nat→Prop}{L M:List (Option Nat)}
theorem Hp.Wc(h:Hp F B w0 L w)(i:Nat){x:Option Nat}(hi:L[i]?=some x):Hp F B w0 (L.set i none) w:=
 h.DF (D:=FN) (Br.refl _ _) (fun _ h=>h.elim) i hi (fun k e=>by cases e)
theorem Hp.Ki(h:Hp F B w0 L w)(i:Nat){x:Option Nat}(hi:L[i]?=some x):Mv w (ZZ F B Z w0.heap.size L) w (ZZ F B Z w0.heap.size (L.set i none)):=
 h.FP (D:=FN) (Br.refl _ _) (fun _ h=>h.elim) i hi (fun k e=>by cases e)
theorem Hp.Yr{α:Type}{e:Ci α}{t:TypeId}{A:Option Addr}{c:Nat}{xs:List α}(h:Hp F B w0 L w)(i:Nat)(hi:L[i]?=some (ob A))(d:Bd e t w0.heap.size w (ZZ F B Z w0.heap.size L) A c xs):Sl e w (ZZ F B Z w0.heap.size (L.set i none)) A c xs:=
 (d.up (h.Ki i hi)).sl fun k hk h0=>.inr ⟨h0,fun hm=>by
  obtain⟨j,b⟩:=List.mem_iff_getElem?.1 hm
  by_cases a:j=i
  ·subst a;rw[List.getElem?_set_self (List.getElem?_eq_some_iff.1 hi).1] at b;cases b
  ·rw[List.getElem?_set_ne (fun e=>a e.symm)] at b;exact h.ap i j k (fun e=>a e.symm) (by rw[hi,hk]) b⟩
theorem KE(h:Ext w w'){r:Option Nat}(g:w'.grownBy Bi r)(a:∀k,r=some k→w.heap.size≤k):Ext w Bi:=
 ⟨g.os.trans h.os,g.tape.trans h.tape,g.output.trans h.output,Nat.le_trans h.size g.size,fun k hk _=>(g.block k (Nat.lt_of_lt_of_le hk h.size) (fun e=>by have:=a k e.symm;omega)).trans (h.block k hk (by simp))⟩
theorem GO{D:Nat→Prop}(h:Br D w w'){r:Option Nat}(g:w'.grownBy Bi r)(a:∀k,r=some k→D k∨w.heap.size≤k):Br D w Bi:=
 ⟨g.os.trans h.os,g.tape.trans h.tape,g.output.trans h.output,Nat.le_trans h.size g.size,fun k hk hn=>(g.block k (Nat.lt_of_lt_of_le hk h.size) (fun e=>by
  rcases a k e.symm with h1|h1
  ·exact hn h1
  ·omega)).trans (h.block k hk hn)⟩
theorem F3{x y:Option Nat}{n:Nat}(hl:∀k,x=some k→n≤k)(hs:n≤w'.heap.size)(a:∀k,y=some k→(x=some k∨w'.heap.size≤k)∧k<Bi.heap.size):∀k,y=some k→n≤k:=fun k hk=>
 (a k hk).1.elim (hl k) (fun h=>Nat.le_trans hs h)
theorem JK{x y a:Option Nat}{n:Nat}(hl:∀k,x=some k→a=some k∨n≤k)(hs:n≤w'.heap.size)(b:∀k,y=some k→(x=some k∨w'.heap.size≤k)∧k<Bi.heap.size):∀k,y=some k→a=some k∨n≤k:=fun k hk=>
 (b k hk).1.elim (hl k) (fun h=>.inr (Nat.le_trans hs h))
theorem IZ{b:Nat}{t:TypeId}{cs:Array Value}(nb:J1 w' Bi b t cs):∀k,ob (some ⟨b,0,none⟩)=some k→((none:Option Nat)=some k∨w'.heap.size≤k)∧k<Bi.heap.size:=fun k e=>by
 cases e;exact⟨.inr (Nat.le_of_eq nb.Dl.symm),nb.bk.lt⟩
theorem Om{α:Type}{e:Ci α}{t:TypeId}{A:Option Addr}{c:Nat}{xs:List α}{Z:Nat→Prop}(h:Bd e t w'.heap.size Bi Z A c xs):∀k,ob A=some k→((none:Option Nat)=some k∨w'.heap.size≤k)∧k<Bi.heap.size:=fun k e=>⟨.inr (h.ge k e),h.PA k e⟩
end
theorem qz{X:Ctx}{N:Nat}{a:Act}{l:Env}(st:St X N a l):(BX a l).tmps.size=N:=(Jj _ _).trans st.sz
theorem qd{X:Ctx}{N:Nat}{a:Act}{l:Env}(st:St X N a l):(BX a l).defers=X.ds:=(DM _ _).trans st.df
theorem sp{X:Ctx}{N:Nat}{a:Act}{l:Env}(st:St X N a l)(k:Nat){v:Value}(h:lk (sl a k) l k=v):sl (BX a l) k=v:=(Jy st k).trans h
theorem Hp.nb{F:Nat→Prop}{B L:List (Option Nat)}{w0 w w':World}{b:Nat}{t:TypeId}{cs:Array Value}(h:Hp F B w0 L w)(n:J1 w w' b t cs):Hp F B w0 (some b::L) w':=h.new n.gr (Nat.le_of_eq n.Dl.symm) (Nat.lt_of_lt_of_eq (Nat.lt_succ_self _) n.sz.symm)
theorem Hp.BD{F:Nat→Prop}{B L:List (Option Nat)}{w0 w w':World}{b:Nat}{t:TypeId}{cs:Array Value}(h:Hp F B w0 L w)(n:J1 w w' b t cs):w0.heap.size≤b:=by rw[n.Dl];exact h.sz
theorem Aq{F:Nat→Prop}{B L:List (Option Nat)}{Z:Nat→Prop}{w w':World}{n0 b:Nat}{t:TypeId}{cs:Array Value}(n:J1 w w' b t cs):Mv w (ZZ F B Z n0 L) w' (ZZ F B Z n0 (some b::L)):=G3 n.gr (Nat.le_of_eq n.Dl.symm)
theorem X2{b c:Sort _}{p:b→c→Prop}{C:Prop}(h:∃a x1,p a x1)(k:∀a x1,p a x1→C):C:=h.elim fun a h=>h.elim fun x1 h=>k a x1 h
theorem X4{c d e f:Sort _}{p:c→d→e→f→Prop}{C:Prop}(h:∃a x1 x2 b,p a x1 x2 b)(k:∀a x1 x2 b,p a x1 x2 b→C):C:=h.elim fun a h=>h.elim fun x1 h=>h.elim fun x2 h=>h.elim fun b h=>k a x1 x2 b h
theorem Y2{a0 a1 r C:Prop}(h:a0∧a1∧r)(k:a0→a1→r→C):C:=h.elim fun a h=>h.elim fun x1 h=>k a x1 h
theorem Y4{a0 a1 a2 a3 r C:Prop}(h:a0∧a1∧a2∧a3∧r)(k:a0→a1→a2→a3→r→C):C:=h.elim fun a h=>h.elim fun x1 h=>h.elim fun x2 h=>h.elim fun b h=>k a x1 x2 b h
theorem Y8{a0 a1 a2 a3 a4 a5 a6 a7 r C:Prop}(h:a0∧a1∧a2∧a3∧a4∧a5∧a6∧a7∧r)(k:a0→a1→a2→a3→a4→a5→a6→a7→r→C):C:=h.elim fun a h=>h.elim fun x1 h=>h.elim fun x2 h=>h.elim fun b h=>h.elim fun c h=>h.elim fun d h=>h.elim fun e h=>h.elim fun f h=>k a x1 x2 b c d e f h
theorem QG{α β:Type}{o:Option α}{A:Option β}{f:α→Option β}{r:β}(h:o=none)(a:Option.elim o A f=some r):A=some r:=by rw[h] at a;exact a
theorem QH{α β:Type}{o:Option α}{A:Option β}{f:α→Option β}{r:β}{x:α}(h:o=some x)(a:Option.elim o A f=some r):f x=some r:=by rw[h] at a;exact a
theorem Hp.MF{F:Nat→Prop}{B L:List (Option Nat)}{Z:Nat→Prop}{w0 w w':World}{b r:Nat}(h:Hp F B w0 L w)(hn:FR w.heap.size w' [b,r]):Mv w' (ZZ FN [] (ZZ F B Z w0.heap.size L) w.heap.size [some b,some r]) w' (ZZ F B Z w0.heap.size (some b::some r::L)):=
 h.call (Nat.le_refl _) (fun k hk=>.inr (by
  have e:k=b∨k=r:=by simpa using hk
  rcases e with e|e<;>rw[e]
  ·exact(hn.mem _ (by simp)).1
  ·exact(hn.mem _ (by simp)).1)) (fun x a=>by
  simp only[List.mem_cons] at a;rcases a with rfl|rfl|a
  ·right;simp
  ·right;simp
  ·left;exact a)
theorem MG{w:World}{Z:Nat→Prop}{b:Nat}{t:TypeId}{cs:Array Value}{l:List Value}(h:Bk w b t cs)(a:Z b)(hl:l=cs.toList):Rz w Z (some ⟨b,0,none⟩) l:=
 .inr ⟨b,0,rfl,a,h.lt,fun j u hu=>by rw[Nat.zero_add,h.cell];subst hl;simpa using hu⟩
theorem XF{w w':World}{b:Nat}(hb:w.heap.size≤b)(hs:b<w'.heap.size):FR w.heap.size w' [b]:=⟨hb,hs,(by simp),trivial⟩
theorem Uk{n b r:Nat}{w:World}(hn:FR n w [b,r]):Bp FN [some r] w:=⟨fun k hk=>by
  have e:k=r:=by simpa using hk
  rw[e];exact⟨(hn.mem r (by simp)).2,fun h=>h⟩,fun i j k a hi c=>by
  cases i with
  |zero=>cases j with
   |zero=>exact absurd rfl a
   |succ j=>simp at c
  |succ i=>simp at hi,fun _ h=>h.elim⟩
theorem We{n b r:Nat}{w:World}(hn:FR n w [b,r]):b≠r:=fun e=>by
 have h:=hn.2.2.1;simp[e] at h
theorem Ys{n b r:Nat}{w:World}(hn:FR n w [b,r]):ZC FN [some r] b:=⟨fun h=>h,fun hm=>We hn (by simpa using hm)⟩
theorem JX{n b r:Nat}{w:World}{Z:Nat→Prop}(hn:FR n w [b,r]):∀k,ZZ FN [] Z n [some b,some r] k→ZC FN [some r] k:=fun k hk=>⟨fun h=>h,fun hm=>by
 have e:k=r:=by simpa using hm
 have h1:=(hn.mem r (by simp)).1;rcases hk with⟨h,_⟩|⟨_,h⟩
 ·omega
 ·exact h (by rw[e];simp)⟩
theorem Pj{w0 w w':World}{r:Nat}(h:Ext w0 w)(g:Br (FU FN [some r]) w w')(c:w0.heap.size≤r):Ext w0 w':=⟨g.os.trans h.os,g.tape.trans h.tape,g.output.trans h.output,Nat.le_trans h.size g.size,fun b hb _=>by
 have h1:=h.block b hb (by simp);have h2:=g.block b (Nat.lt_of_lt_of_le hb h.size) (fun a=>by
  rcases a with a|a
  ·exact a
  ·have e:b=r:=by simpa using a
   omega)
 exact h2.trans h1⟩
theorem XG{α:Type}{ev:α→Value}{n:Nat}{L:List (List Int×α)}{w:World}{b r:Nat}{t:TypeId}{cs:Array Value}(h:Bk w b t cs)(hm:Cr ev w r n L):¬FU FN [some r] b:=by
 rintro(a|a)
 ·exact a
 ·have e:b=r:=by simpa using a
  obtain⟨es,cl,h1,_⟩:=hm;rw[←e] at h1;have h2:w.heap[b]?=some (.cells cs t (0,0)):=h;rw[h2] at h1;cases h1
theorem EJ.cut{w:World}{base e sz n c k:Nat}{A:Option Addr}{xs:List Value}(h:EJ w base e sz A n c xs)(hk:k≤n):EJ w base e sz A k c (xs.take (k*sz)):=by
 have hl:=h.1;have hle:k*sz≤n*sz:=Nat.mul_le_mul_right _ hk;refine⟨by rw[List.length_take];omega,?_⟩;rcases h.2 with⟨a,h0⟩|⟨g,cap,cur,a,hb,f,j,b,d,i⟩
 ·have:k=0:=by omega
  subst this;subst h0;cases a;exact .inl ⟨rfl,rfl⟩
 ·cases a;refine .inr ⟨g,c,cur,rfl,hb,f,by omega,b,d,?_⟩;rw[←i,List.take_take,Nat.min_eq_left hle]
section
variable{α:Type}{e:Ci α}{t:TypeId}{n0:Nat}{w w':World}{Z Z':Nat→Prop}{A:Option Addr}{c:Nat}{xs:List α}
theorem R2.NU:∀(k:Nat) {Bu:List (List Value)} {xs:List α},R2 e w Z Bu xs→k≤xs.length→Bu.flatten.take (k*e.sz)=(Bu.take k).flatten
 |0,_,_,_,_=>by simp
 |k+1,[],[],_,hk=>by simp at hk
 |k+1,[],_::_,h,_=>by cases h
 |k+1,_::_,[],h,_=>by cases h
 |k+1,cs::Bu,x::xs,h,hk=>by
  have h1:cs.length=e.sz:=e.len h.1;have ih:=R2.NU k h.2 (by simpa using hk);rw[List.flatten_cons,List.take_succ_cons,List.flatten_cons,←ih,Nat.succ_mul,Nat.add_comm,List.take_append,h1,List.take_of_length_le (by omega)]
  congr 2
  omega
theorem Bd.cut(h:Bd e t n0 w Z A c xs){k:Nat}(hk:k≤xs.length):Bd e t n0 w Z A c (xs.take k):=by
 obtain⟨Bu,h1,h2⟩:=h;refine⟨Bu.take k,h1.take k,?_⟩;have a:=h2.cut hk;rw[R2.NU k h1 hk] at a
 rwa[List.length_take,Nat.min_eq_left hk]
end
section
variable{P:Program}{a:Act}{w:World}{dst:Option Tmp}{ty:TypeId}{pos:String}{BR:Array Edge}{g:Option (Nat×Bool)}
theorem On {v:Value} {n:Nat} {t c:TypeId} {sz:Nat} {x:Operand} {b:Nat} {hi:Option Operand} {h:Int} (f:P.underlying t=some (.array n c)) (hs:(P.info? c).map (·.size)=some sz) (hn:0<n)
  (i:a.eval x=.pointer (some ⟨b,0,none⟩)) (d:SB a hi h n) (hb:0≤h∧h≤(n:Int)) (j:Value.slice (some ⟨b,0,none⟩) h.toNat n=v):
  BW P ⟨dst,.slice t x none hi none,ty,pos,BR,g⟩ a w (fun u w'=>u=v∧w'=w):=by
 subst j;have l:(Instr.sliceBounds false n n none (hi.map a.eval) none).run P w=.ok (0,h.toNat,n) w:=by
  unfold Instr.sliceBounds;rcases d with⟨rfl,rfl⟩|⟨y,k,rfl,m⟩
  ·simp
  ·have o:=fun code=>QC (P:=P) w k h n code hb.1 hb.2;simp[m,o]
 refine T7 i rfl rfl ?_;have e:n≠0:=by omega
 have p:(Instr.sureAddr (.pointer (some ⟨b,0,none⟩))).run P w=.ok ⟨b,0,none⟩ w:=rfl;simp only[Instr.sliceAt,Sem.run_bind,run_underlying f,Result.andThen_ok,p,l,JC hs,Sem.run_pure,Option.map_none];simp[e,Gf]
theorem Wf {α:Type} {e:Ci α} {Z:Nat→Prop} {A:Option Addr} {c:Nat} {xs:List α} {h:Int} (i:Sl e w Z A c xs) (hb:0≤(0:Int)∧(0:Int)≤h∧h≤(xs.length:Int)):Sl e w Z A c (Jm xs 0 h):=by
 obtain⟨hc,f,Bu,h2,d⟩:=i;have hlen:(Jm xs 0 h).length≤xs.length:=by unfold Jm;rw[List.length_drop,List.length_take];omega
 have k:(0:Int).toNat=0:=rfl;have hk:h.toNat≤xs.length:=by omega
 refine⟨by omega,f,Bu.take h.toNat,?_,?_⟩
 ·have:=h2.take h.toNat;unfold Jm
  rwa[k,List.drop_zero]
 ·rcases d with d|⟨b,o,rfl,l,g,a⟩
  ·left;have hf:=R2.NU h.toNat h2 hk;rw[←hf,d];simp
  ·refine .inr ⟨b,o,rfl,l,g,fun j u hu=>a j u ?_⟩;rw[←R2.NU h.toNat h2 hk] at hu;exact List.getElem?_eq_some_iff.2 (by
    obtain⟨m,he⟩:=List.getElem?_eq_some_iff.1 hu;rw[List.length_take] at m;exact⟨by omega,by rw[←he,List.getElem_take]⟩)
def vI(x:Int):Value:=.int .i64 x
def PF (xs ys:List Int):List Int:=xs.take ys.length++ys.drop xs.length
theorem PG{d s:Operand}{t e:TypeId}(x:P.underlying t=some (.slice e))(hs:(P.info? e).map (·.size)=some 1){b:Nat}{l:TypeId}{Z:Nat→Prop}{A:Option Addr}{xs ys:List Int}{c n:Nat}{cs Cn:Array Value}(hn:ys.length=n)
  (aG:a.eval d=.slice (some ⟨b,0,none⟩) n n)(aH:a.eval s=.slice A xs.length c)(hb:Bk w b l cs)(m:cs.toList=ys.map vI)(z:Sl (Ao .i64) w Z A c xs)(p:Cn.toList=(PF xs ys).map vI):
  BW P ⟨dst,.call {callee:=.builtin .copy,args:= #[d,s],argTypes:= #[t,t]},ty,pos,BR,g⟩ a w (fun _ w'=>NW w w' b l Cn):=by
 have fin:∀(v:Int) (w':World),(Builtin.copy_ #[t,t] ty #[.slice (some ⟨b,0,none⟩) n n,.slice A xs.length c]).run P w=.ok (.int .i64 v) w'→NW w w' b l Cn→BW P ⟨dst,.call {callee:=.builtin .copy,args:= #[d,s],argTypes:= #[t,t]},ty,pos,BR,g⟩ a w (fun _ w'=>NW w w' b l Cn):=by
  intro v w' f h;have hex:(execOp a.eval ⟨dst,.call {callee:=.builtin .copy,args:= #[d,s],argTypes:= #[t,t]},ty,pos,BR,g⟩).run P w=.ok (.value (.int .i64 v)) w':=by
   unfold execOp;simp only[resolve,invoke,builtin,Sem.run_bind,Sem.run_pure,Result.andThen_ok,List.map_toArray,List.map_cons,List.map_nil,aG,aH,f]
  unfold BW;rw[hex];exact h
 by_cases h0:Nat.min xs.length n=0
 ·have f:=run_copy_none (P:=P) w t t ty e (some ⟨b,0,none⟩) A n n xs.length c x hs h0;have he:Cn=cs:=by
   apply Array.toList_inj.1;rw[p,m];have aA:min xs.length n=0:=h0;have h1:xs.length=0∨n=0:=by omega
   rcases h1 with h1|h1
   ·have:xs=[]:=List.eq_nil_of_length_eq_zero h1;subst this;simp[PF]
   ·have:ys=[]:=List.eq_nil_of_length_eq_zero (by omega);subst this;simp[PF]
  exact fin 0 w f ⟨rfl,by rw[he];exact hb,World.grownBy.refl _ _⟩
 ·have aB:0<xs.length:=by
   have aA:¬min xs.length n=0:=h0;omega
  obtain⟨aC,o,_,aI,_,_⟩:=Sl.CZ z rfl (List.getElem?_eq_getElem aB);subst aI;have q:∀(j:Nat) (v:Value),((xs.map vI).take n)[j]?=some v→w.cell? ((⟨aC,o,none⟩:Addr).add j)=some v:=by
   intro j v r;have i:(xs.map vI)[j]?=some v:=by
    obtain⟨aJ,he⟩:=List.getElem?_eq_some_iff.1 r;rw[List.length_take] at aJ;exact List.getElem?_eq_some_iff.2 ⟨by omega,by rw[←he,List.getElem_take]⟩
   rw[List.getElem?_map] at i;cases u:xs[j]? with
   |none=>rw[u] at i;cases i
   |some y=>
    rw[u] at i;obtain⟨b2,aN,aK,aD,aL,aM⟩:=Sl.CZ z rfl u;cases aD;have aE:aK=[.int .i64 y]:=aL;subst aE;have:=aM.cells 0 (.int .i64 y) rfl;rw[Gf];rw[Nat.add_zero] at this;rw[this];exact i
  have hlen:((xs.map vI).take n).length=Nat.min xs.length n:=by rw[List.length_take,List.length_map];exact Nat.min_comm _ _
  have aF:cs.size=n:=by rw[←Array.length_toList,m,List.length_map,hn]
  have f:=run_copy_row (P:=P) w t t ty e b 0 n n ⟨aC,o,none⟩ xs.length c cs l ((xs.map vI).take n) x hs hb hlen q (by rw[hlen,aF,Nat.zero_add];exact Nat.min_le_right _ _) (fun v r=>by
   have:=List.mem_of_mem_take r;obtain⟨y,_,rfl⟩:=List.mem_map.1 this;rfl)
  have he:(cs.toList.take 0++(xs.map vI).take n++cs.toList.drop (0+((xs.map vI).take n).length)).toArray=Cn:=by
   apply Array.toList_inj.1;rw[p,m];unfold PF;rw[hn];simp only[List.take_zero,List.nil_append,Nat.zero_add,hlen];rw[List.map_append,List.map_take,List.map_drop];show List.take n (List.map vI xs)++List.drop (min xs.length n) (List.map vI ys)=_
   congr 1
   rcases Nat.le_total xs.length n with h|h
   ·rw[Nat.min_eq_left h]
   ·rw[Nat.min_eq_right h,List.drop_of_length_le (by rw[List.length_map];omega),List.drop_of_length_le (by rw[List.length_map];omega)]
  rw[he] at f;exact fin _ _ f ⟨by simp[World.setRow],setRow_heap w b _ _ l _ hb,⟨rfl,rfl,rfl,by simp[World.setRow],fun k _ hk=>setRow_other w b k _ (fun e=>hk (by rw[e]))⟩⟩
end
theorem Ul{α:Type}{xs:List α}{h:Int}(hb:0≤(0:Int)∧(0:Int)≤h∧h≤(xs.length:Int)):(Jm xs 0 h).length=h.toNat:=by
 unfold Jm;rw[List.length_drop,List.length_take];show min h.toNat xs.length-0=_;omega
theorem Bd.Jm{α:Type}{e:Ci α}{t:TypeId}{n0:Nat}{w:World}{Z:Nat→Prop}{A:Option Addr}{c:Nat}{xs:List α}{k:Int}(h:Bd e t n0 w Z A c xs)(hb:0≤(0:Int)∧(0:Int)≤k∧k≤(xs.length:Int)):Bd e t n0 w Z A c (Jm xs 0 k):=by
 unfold Go.Proofs.YtcdofnchafcfpaaGreat.Jm;exact h.cut (by omega)
theorem eL{P:Nat→Prop}:∀k,FN k→P k:=fun _ h=>h.elim
theorem oi{α:Type}{a b:α}(h:some a=some b):a=b:=Option.some.inj h
abbrev zf(Z:Nat→Prop)(w:World)(L:List (Option Nat)):Nat→Prop:=ZZ FN [] Z w.heap.size L
abbrev zb(B:List (Option Nat))(Z:Nat→Prop)(w:World)(L:List (Option Nat)):Nat→Prop:=ZZ FN B Z w.heap.size L
theorem mt{w w1 w2:World}{Z a b:Nat→Prop}(h:Mv w Z w1 a)(g:Mv w1 a w2 b):Mv w Z w2 b:=h.trans g
theorem KS{a:Type}{b:Type}{w w':World}{Z Z':Nat→Prop}{c:Ci a}{d:Option Addr}{e:Nat}{f:List a}{g:Ci b}{h:Option Addr}{i:Nat}{x1:List b}(h0:Sl c w Z d e f)(h1:Sl g w Z h i x1)(m:Mv w Z w' Z'):Sl c w' Z' d e f∧Sl g w' Z' h i x1:=⟨h0.mv m,h1.mv m⟩
theorem Dd{a:Type}{b:Type}{c:Type}{w w':World}{Z Z':Nat→Prop}{d:Ci a}{e:Option Addr}{f:Nat}{g:List a}{h:Ci b}{i:Option Addr}{j:Nat}{x1:List b}{k:Ci c}{l:Option Addr}{n:Nat}{x2:List c}(h0:Sl d w Z e f g)(h1:Sl h w Z i j x1)(h2:Sl k w Z l n x2)(m:Mv w Z w' Z'):Sl d w' Z' e f g∧Sl h w' Z' i j x1∧Sl k w' Z' l n x2:=⟨h0.mv m,h1.mv m,h2.mv m⟩
theorem E1{a:Type}{b:Type}{c:Type}{d:Type}{w w':World}{Z Z':Nat→Prop}{e:Ci a}{f:Option Addr}{g:Nat}{h:List a}{i:Ci b}{j:Option Addr}{k:Nat}{x1:List b}{l:Ci c}{n:Option Addr}{o:Nat}{x2:List c}{p:Ci d}{q:Option Addr}{r:Nat}{s:List d}(h0:Sl e w Z f g h)(h1:Sl i w Z j k x1)(h2:Sl l w Z n o x2)(t:Sl p w Z q r s)(m:Mv w Z w' Z'):Sl e w' Z' f g h∧Sl i w' Z' j k x1∧Sl l w' Z' n o x2∧Sl p w' Z' q r s:=⟨h0.mv m,h1.mv m,h2.mv m,t.mv m⟩
theorem PH{a:Type}{b:Type}{c:Type}{d:Type}{e:Type}{w w':World}{Z Z':Nat→Prop}{f:Ci a}{g:Option Addr}{h:Nat}{i:List a}{j:Ci b}{k:Option Addr}{l:Nat}{x1:List b}{n:Ci c}{o:Option Addr}{p:Nat}{x2:List c}{q:Ci d}{r:Option Addr}{s:Nat}{t:List d}{u:Ci e}{v:Option Addr}{x:Nat}{y:List e}(h0:Sl f w Z g h i)(h1:Sl j w Z k l x1)(h2:Sl n w Z o p x2)(z:Sl q w Z r s t)(aA:Sl u w Z v x y)(m:Mv w Z w' Z'):Sl f w' Z' g h i∧Sl j w' Z' k l x1∧Sl n w' Z' o p x2∧Sl q w' Z' r s t∧Sl u w' Z' v x y:=⟨h0.mv m,h1.mv m,h2.mv m,z.mv m,aA.mv m⟩
theorem FL{a:Type}{b:Type}{c:Type}{d:Type}{e:Type}{f:Type}{w w':World}{Z Z':Nat→Prop}{g:Ci a}{h:Option Addr}{i:Nat}{j:List a}{k:Ci b}{l:Option Addr}{n:Nat}{x1:List b}{o:Ci c}{p:Option Addr}{q:Nat}{x2:List c}{r:Ci d}{s:Option Addr}{t:Nat}{u:List d}{v:Ci e}{x:Option Addr}{y:Nat}{z:List e}{aA:Ci f}{aB:Option Addr}{aC:Nat}{aD:List f}(h0:Sl g w Z h i j)(h1:Sl k w Z l n x1)(h2:Sl o w Z p q x2)(aE:Sl r w Z s t u)(aF:Sl v w Z x y z)(h5:Sl aA w Z aB aC aD)(m:Mv w Z w' Z'):Sl g w' Z' h i j∧Sl k w' Z' l n x1∧Sl o w' Z' p q x2∧Sl r w' Z' s t u∧Sl v w' Z' x y z∧Sl aA w' Z' aB aC aD:=⟨h0.mv m,h1.mv m,h2.mv m,aE.mv m,aF.mv m,h5.mv m⟩
theorem L7{a:Type}{b:Type}{c:Type}{d:Type}{e:Type}{f:Type}{g:Type}{w w':World}{Z Z':Nat→Prop}{h:Ci a}{i:Option Addr}{j:Nat}{k:List a}{l:Ci b}{n:Option Addr}{o:Nat}{x1:List b}{p:Ci c}{q:Option Addr}{r:Nat}{x2:List c}{s:Ci d}{t:Option Addr}{u:Nat}{v:List d}{x:Ci e}{y:Option Addr}{z:Nat}{aA:List e}{aB:Ci f}{aC:Option Addr}{aD:Nat}{aE:List f}{aF:Ci g}{aG:Option Addr}{aH:Nat}{aI:List g}(h0:Sl h w Z i j k)(h1:Sl l w Z n o x1)(h2:Sl p w Z q r x2)(aJ:Sl s w Z t u v)(aK:Sl x w Z y z aA)(h5:Sl aB w Z aC aD aE)(aL:Sl aF w Z aG aH aI)(m:Mv w Z w' Z'):Sl h w' Z' i j k∧Sl l w' Z' n o x1∧Sl p w' Z' q r x2∧Sl s w' Z' t u v∧Sl x w' Z' y z aA∧Sl aB w' Z' aC aD aE∧Sl aF w' Z' aG aH aI:=⟨h0.mv m,h1.mv m,h2.mv m,aJ.mv m,aK.mv m,h5.mv m,aL.mv m⟩
theorem G6{a:Type}{b:Type}{c:Type}{d:Type}{e:Type}{f:Type}{g:Type}{h:Type}{w w':World}{Z Z':Nat→Prop}{i:Ci a}{j:Option Addr}{k:Nat}{l:List a}{n:Ci b}{o:Option Addr}{p:Nat}{x1:List b}{q:Ci c}{r:Option Addr}{s:Nat}{x2:List c}{t:Ci d}{u:Option Addr}{v:Nat}{x:List d}{y:Ci e}{z:Option Addr}{aA:Nat}{aB:List e}{aC:Ci f}{aD:Option Addr}{aE:Nat}{aF:List f}{aG:Ci g}{aH:Option Addr}{aI:Nat}{aJ:List g}{aK:Ci h}{aL:Option Addr}{aM:Nat}{aN:List h}(h0:Sl i w Z j k l)(h1:Sl n w Z o p x1)(h2:Sl q w Z r s x2)(aO:Sl t w Z u v x)(aP:Sl y w Z z aA aB)(h5:Sl aC w Z aD aE aF)(aQ:Sl aG w Z aH aI aJ)(aR:Sl aK w Z aL aM aN)(m:Mv w Z w' Z'):Sl i w' Z' j k l∧Sl n w' Z' o p x1∧Sl q w' Z' r s x2∧Sl t w' Z' u v x∧Sl y w' Z' z aA aB∧Sl aC w' Z' aD aE aF∧Sl aG w' Z' aH aI aJ∧Sl aK w' Z' aL aM aN:=⟨h0.mv m,h1.mv m,h2.mv m,aO.mv m,aP.mv m,h5.mv m,aQ.mv m,aR.mv m⟩
theorem Wg{a:Type}{b:Type}{c:Type}{d:Type}{e:Type}{f:Type}{g:Type}{h:Type}{i:Type}{w w':World}{Z Z':Nat→Prop}{j:Ci a}{k:Option Addr}{l:Nat}{n:List a}{o:Ci b}{p:Option Addr}{q:Nat}{x1:List b}{r:Ci c}{s:Option Addr}{t:Nat}{x2:List c}{u:Ci d}{v:Option Addr}{x:Nat}{y:List d}{z:Ci e}{aA:Option Addr}{aB:Nat}{aC:List e}{aD:Ci f}{aE:Option Addr}{aF:Nat}{aG:List f}{aH:Ci g}{aI:Option Addr}{aJ:Nat}{aK:List g}{aL:Ci h}{aM:Option Addr}{aN:Nat}{aO:List h}{aP:Ci i}{aQ:Option Addr}{aR:Nat}{aS:List i}(h0:Sl j w Z k l n)(h1:Sl o w Z p q x1)(h2:Sl r w Z s t x2)(aT:Sl u w Z v x y)(aU:Sl z w Z aA aB aC)(h5:Sl aD w Z aE aF aG)(aV:Sl aH w Z aI aJ aK)(aW:Sl aL w Z aM aN aO)(aX:Sl aP w Z aQ aR aS)(m:Mv w Z w' Z'):Sl j w' Z' k l n∧Sl o w' Z' p q x1∧Sl r w' Z' s t x2∧Sl u w' Z' v x y∧Sl z w' Z' aA aB aC∧Sl aD w' Z' aE aF aG∧Sl aH w' Z' aI aJ aK∧Sl aL w' Z' aM aN aO∧Sl aP w' Z' aQ aR aS:=⟨h0.mv m,h1.mv m,h2.mv m,aT.mv m,aU.mv m,h5.mv m,aV.mv m,aW.mv m,aX.mv m⟩
theorem Yt{a:Type}{b:Type}{c:Type}{d:Type}{e:Type}{f:Type}{g:Type}{h:Type}{i:Type}{j:Type}{w w':World}{Z Z':Nat→Prop}{k:Ci a}{l:Option Addr}{n:Nat}{o:List a}{p:Ci b}{q:Option Addr}{r:Nat}{x1:List b}{s:Ci c}{t:Option Addr}{u:Nat}{x2:List c}{v:Ci d}{x:Option Addr}{y:Nat}{z:List d}{aA:Ci e}{aB:Option Addr}{aC:Nat}{aD:List e}{aE:Ci f}{aF:Option Addr}{aG:Nat}{aH:List f}{aI:Ci g}{aJ:Option Addr}{aK:Nat}{aL:List g}{aM:Ci h}{aN:Option Addr}{aO:Nat}{aP:List h}{aQ:Ci i}{aR:Option Addr}{aS:Nat}{aT:List i}{aU:Ci j}{aV:Option Addr}{aW:Nat}{aX:List j}(h0:Sl k w Z l n o)(h1:Sl p w Z q r x1)(h2:Sl s w Z t u x2)(aY:Sl v w Z x y z)(aZ:Sl aA w Z aB aC aD)(h5:Sl aE w Z aF aG aH)(a0:Sl aI w Z aJ aK aL)(a2:Sl aM w Z aN aO aP)(a3:Sl aQ w Z aR aS aT)(a4:Sl aU w Z aV aW aX)(m:Mv w Z w' Z'):Sl k w' Z' l n o∧Sl p w' Z' q r x1∧Sl s w' Z' t u x2∧Sl v w' Z' x y z∧Sl aA w' Z' aB aC aD∧Sl aE w' Z' aF aG aH∧Sl aI w' Z' aJ aK aL∧Sl aM w' Z' aN aO aP∧Sl aQ w' Z' aR aS aT∧Sl aU w' Z' aV aW aX:=⟨h0.mv m,h1.mv m,h2.mv m,aY.mv m,aZ.mv m,h5.mv m,a0.mv m,a2.mv m,a3.mv m,a4.mv m⟩
theorem eR{X:Ctx}{N:Nat}{a:Act}{l:Env}{x:Operand}{v:Value}(h:St X N a l)(b:ev a l x=v:=by exact rfl):(BX a l).eval x=v:=ee h b
theorem sA(i:Nat){a:Act}{args:Array Value}{n:Nat}{v:Value}(h:a.tmps=args++Array.replicate n undef)(hi:args[i]?=some v:=by exact rfl):sl a i=v:=FO h hi
theorem Hp.nq{F:Nat→Prop}{B L:List (Option Nat)}{w0 w:World}(h:Hp F B w0 L w)(i j:Nat){x:Option Nat}{b:Nat}(a:(i==j)=false:=by exact rfl)(hi:L[i]?=some (some b):=by exact rfl)(c:L[j]?=some x:=by exact rfl):some b≠x:=h.ne i j a hi c
theorem Jf.dq{L:List Oper}{a:Act}{l:Env}{D:Nat→Bool}{V:Nat→Value}{k:Nat}{o:Oper}{a':Act}(K:Jf L a l D V k o a')(j d:Nat)(h1:E8 o j=true:=by exact rfl)(h2:Cd L j=some d:=by exact rfl):sl a' d=V j:=K.TD j d h1 h2
theorem HI.dq{L:List Oper}{a:Act}{l:Env}{T:Nat→Act→World→Prop}{Φ:Nat→Value→World→Prop}{sp:List Nat}{k:Nat}{o:Oper}{a':Act}{w':World}{ph:Nat}(K:HI L a l T Φ sp k o a' w' ph)(j d:Nat)(h1:E8 o j=true:=by exact rfl)(h2:Cd L j=some d:=by exact rfl):Φ j (sl a' d) w':=K.TD j d h1 h2
section
variable{P:Program}{X:Ctx}{N:Nat}{ops:Array Oper}{Q:Exit→Act→World→Prop}{rest:List Oper}{a:Act}{l:Env}{w:World}{op:Op}{ty:TypeId}{pos:String}{BR:Array Edge}{d:Nat}
theorem wD{v:Value}{w':World}(b:St X N a l→BW P ⟨some d,op,ty,pos,BR,none⟩ (BX a l) w (fun u Bi=>u=v∧Bi=w'))(hk:WL P X N ops Q rest a ((d,v)::l) w')(c:Nat.blt d N=true:=by exact rfl):WL P X N ops Q (⟨some d,op,ty,pos,BR,none⟩::rest) a l w:=wd c b hk
theorem wM{x:Operand}{v:Value}(b:ev a l x=v)(hk:WL P X N ops Q rest a ((d,v)::l) w)(c:Nat.blt d N=true:=by exact rfl):WL P X N ops Q (⟨some d,.move x,ty,pos,BR,none⟩::rest) a l w:=wm c b hk
theorem wA{x:Operand}{v:Value}(b:ev a l x=v)(hk:WL P X N ops Q rest a ((d,v)::l) w)(c:Nat.blt d N=true:=by exact rfl):WL P X N ops Q (⟨some d,.assign x,ty,pos,BR,none⟩::rest) a l w:=wa c b hk
theorem wE{R:Value→World→Prop}(b:St X N a l→BW P ⟨some d,op,ty,pos,BR,none⟩ (BX a l) w R)(hk:∀v w',R v w'→WL P X N ops Q rest a ((d,v)::l) w')(c:Nat.blt d N=true:=by exact rfl):WL P X N ops Q (⟨some d,op,ty,pos,BR,none⟩::rest) a l w:=we c b hk
end
section
variable{P:Program}{L:List Oper}{a:Act}{l:Env}{T:Nat→Act→World→Prop}{Φ:Nat→Value→World→Prop}{sp:List Nat}{S:Nat→World→World→Prop}{k:Nat}
theorem oD{op:Op}{ty:TypeId}{pos:String}{BR:Array Edge}{dst:Option Nat}{c:Value}(h:∀{a' w' ph},HI L a l T Φ sp k ⟨dst,op,ty,pos,BR,none⟩ a' w' ph→BW P ⟨dst,op,ty,pos,BR,none⟩ a' w' (fun u Bi=>u=c∧Bi=w'))(hs:sp.contains k=false:=by exact rfl)(b:∀w,Φ k c w:=by exact fun _=>rfl):HJ P L a l S T Φ sp k ⟨dst,op,ty,pos,BR,none⟩:=od hs b h
end
theorem Ht{F:Nat→Prop}{L:List (Option Nat)}{w:World}{Z:Nat→Prop}(a:Bp F L w)(c:∀b,Z b→¬F b∧some b∉L):∃B,B=L∧Hp F B w L w∧(∀b,Z b→¬F b∧some b∉B)∧∀w',Br (FU F B) w w'→Br (FU F L) w w':=⟨L,rfl,Hp.start a,c,fun _ h=>h⟩
theorem I0{F:Nat→Prop}{L:List (Option Nat)}{w:World}{Z Za:Nat→Prop}(c:Bp F L w)(d:∀b,Z b→¬F b∧some b∉L)(a:∀b,Za b→¬F b∧some b∉L):∃B,B=L∧Hp F B w L w∧(∀b,Z b→¬F b∧some b∉B)∧(∀b,Za b→¬F b∧some b∉B)∧∀w',Br (FU F B) w w'→Br (FU F L) w w':=⟨L,rfl,Hp.start c,d,a,fun _ h=>h⟩
section
variable{P:Program}{X:Ctx}{N:Nat}{ops:Array Oper}{Q:Exit→Act→World→Prop}{rest:List Oper}{a:Act}{l:Env}{w:World}{op:Op}{ty:TypeId}{pos:String}{BR:Array Edge}{d j dj:Nat}{b c x:Bool}
theorem wF(e:x=c)(hk:WL P X N ops Q rest a ((d,undef)::l) w)(f:(ops[j]?).bind (·.dst)=some dj:=by exact rfl)(g:ev a l (.tmp dj)=.bool x:=by exact rfl)(hc:c≠b:=by decide)(h:Nat.blt d N=true:=by exact rfl):WL P X N ops Q (⟨some d,op,ty,pos,BR,some (j,b)⟩::rest) a l w:=Pv rfl f (L9 g e) hc rfl (by simpa[Nat.blt_eq] using h) hk
theorem wH(hk:WL P X N ops Q rest a ((d,undef)::l) w)(e:(ops[j]?).bind (·.dst)=some dj:=by exact rfl)(f:ev a l (.tmp dj)=.bool c:=by exact rfl)(hc:c≠b:=by decide)(g:Nat.blt d N=true:=by exact rfl):WL P X N ops Q (⟨some d,op,ty,pos,BR,some (j,b)⟩::rest) a l w:=Pv rfl e f hc rfl (by simpa[Nat.blt_eq] using g) hk
theorem wX{R:Value→World→Prop}(hb:x=b)(c:St X N a l→BW P ⟨some d,op,ty,pos,BR,some (j,b)⟩ (BX a l) w R)(hk:∀v w',R v w'→WL P X N ops Q rest a ((d,v)::l) w')(e:(ops[j]?).bind (·.dst)=some dj:=by exact rfl)(f:ev a l (.tmp dj)=.bool x:=by exact rfl)(g:Nat.blt d N=true:=by exact rfl):WL P X N ops Q (⟨some d,op,ty,pos,BR,some (j,b)⟩::rest) a l w:=Q6 rfl e (L9 f hb) rfl (by simpa[Nat.blt_eq] using g) c hk
theorem wG{v:Value}{w':World}(hb:x=b)(c:St X N a l→BW P ⟨some d,op,ty,pos,BR,some (j,b)⟩ (BX a l) w (fun u Bi=>u=v∧Bi=w'))(hk:WL P X N ops Q rest a ((d,v)::l) w')(e:(ops[j]?).bind (·.dst)=some dj:=by exact rfl)(f:ev a l (.tmp dj)=.bool x:=by exact rfl)(g:Nat.blt d N=true:=by exact rfl):WL P X N ops Q (⟨some d,op,ty,pos,BR,some (j,b)⟩::rest) a l w:=T6 rfl e (L9 f hb) rfl (by simpa[Nat.blt_eq] using g) c hk
theorem wN{y:Operand}{v:Value}(hb:x=b)(c:ev a l y=v)(hk:WL P X N ops Q rest a ((d,v)::l) w)(e:(ops[j]?).bind (·.dst)=some dj:=by exact rfl)(f:ev a l (.tmp dj)=.bool x:=by exact rfl)(g:Nat.blt d N=true:=by exact rfl):WL P X N ops Q (⟨some d,.move y,ty,pos,BR,some (j,b)⟩::rest) a l w:=wG hb (fun st=>Ba (ee st c)) hk e f g
theorem wn{y:Code}(h:CC P X N y Q a l w):WL P X N ops (Exit.then (CW P X.ro y Q) Q) [] a l w:=AZ (BI h)
theorem cr{id:Nat}{L:List Oper}{y:Code}(h:WL P X N L.toArray (Exit.then (CW P X.ro y Q) Q) L a l w):CC P X N (.seq (.region id L.toArray false) y) Q a l w:=Ag (Aj h)
theorem wr{id:Nat}{L:List Oper}{y:Code}(h:WL P X N L.toArray (Exit.then (CW P X.ro y Q) Q) L a l w):WL P X N ops (Exit.then (CW P X.ro (.seq (.region id L.toArray false) y) Q) Q) [] a l w:=wn (cr h)
theorem cn{y:Code}(h:CC P X N y Q a l w):CC P X N .skip (Exit.then (CW P X.ro y Q) Q) a l w:=Cw (BI h)
theorem C5{id:Nat}{K:Act→World→Prop}(h:LV X N Q .ret a l w):LV X N (Exit.inBlock id (Exit.then K Q)) .ret a l w:=IU (AN h)
theorem De{id:Nat}{y:Code}(h:CC P X N y Q a l w):LV X N (Exit.inBlock id (Exit.then (CW P X.ro y Q) Q)) .normal a l w:=HA (BI h)
theorem D3{id:Nat}{K b:Act→World→Prop}(h:LV X N Q (.exit id) a l w):CC P X N (.exit id) (Exit.then K (Exit.then b Q)) a l w:=Ly (G2 (G2 h))
abbrev Fo(X:Ctx)(N:Nat)(a:Act):Prop:=a.tmps.size=N∧a.defers=X.ds
theorem qo(st:St X N a l):Fo X N (BX a l):=⟨qz st,qd st⟩
theorem ro{c:Code}(hf:Fo X N a)(h:CC P X N c Q a [] w):CW P X.ro c Q a w:=SF hf.1 hf.2 h
theorem lf{e:Exit}(hf:Fo X N a)(h:LV X N Q e a [] w):Q e a w:=XA hf.1 hf.2 h
end
theorem rq{P:Program}{w:World}{f:FuncId}{fn:Func}{c:Code}{args:Array Value}{N:Nat}{R:Value→World→Prop}(hf:P.funcs[f]?=some fn)
  (h:∀a:Act,a.tmps=args++Array.replicate (N-args.size) undef→a.defers=[]→CC P X0 N c (bodyPost P fn (fun e w'=>∃v,e=.returned v∧R v w')) a [] w)(hb:fn.body=some c:=by exact rfl)(b:fn.ntmps=N:=by exact rfl)(d:args.size≤N:=by simp):BG P f args w R:=Q8 hf hb b d h
section
variable{P:Program}{L:List Oper}{a:Act}{l:Env}{T:Nat→Act→World→Prop}{Φ:Nat→Value→World→Prop}{sp:List Nat}{S:Nat→World→World→Prop}{k j d:Nat}{o:Oper}{b c x:Bool}
theorem oV{v:Value}(f:o.guard=some (j,b))(c:Cd L j=some d)(e:E8 o j=true)(hf:∀u w,Φ j u w→u=v):∀a' w' ph,HI L a l T Φ sp k o a' w' ph→sl a' d=v:=fun _ _ _ K=>hf _ _ (K.TD j d e c)
theorem oT(g:x=c)(e:o.guard=some (j,b):=by exact rfl)(f:Cd L j=some d:=by exact rfl)(i:E8 o j=true:=by exact rfl)(hf:∀u w,Φ j u w→u=.bool x:=by exact fun _ _ h=>h)(hs:sp.contains k=false:=by exact rfl)(hc:c≠b:=by decide)(m:∀w,Φ k undef w:=by exact fun _=>rfl):HJ P L a l S T Φ sp k o:=Ub e f hs hc (by rw[←g];exact oV e f i hf) m
theorem oX(f:x=b)(h:∀{a' w' ph},HI L a l T Φ sp k o a' w' ph→BW P o a' w' (fun v Bi=>Φ k v Bi∧Ext w' Bi))(c:o.guard=some (j,b):=by exact rfl)(e:Cd L j=some d:=by exact rfl)(g:E8 o j=true:=by exact rfl)(hf:∀u w,Φ j u w→u=.bool x:=by exact fun _ _ h=>h)(hs:sp.contains k=false:=by exact rfl):HJ P L a l S T Φ sp k o:=Pz c e hs (by rw[←f];exact oV c e g hf) fun _ _ _ K=>h K
theorem oG{v:Value}(f:x=b)(h:∀{a' w' ph},HI L a l T Φ sp k o a' w' ph→BW P o a' w' (fun u Bi=>u=v∧Bi=w'))(c:o.guard=some (j,b):=by exact rfl)(e:Cd L j=some d:=by exact rfl)(g:E8 o j=true:=by exact rfl)(hf:∀u w,Φ j u w→u=.bool x:=by exact fun _ _ h=>h)(hs:sp.contains k=false:=by exact rfl)(i:∀w,Φ k v w:=by exact fun _=>rfl):HJ P L a l S T Φ sp k o:=Ua c e hs i (by rw[←f];exact oV c e g hf) fun _ _ _ K=>h K
theorem oE(h:∀{a' w' ph},HI L a l T Φ sp k o a' w' ph→BW P o a' w' (fun v Bi=>Φ k v Bi∧Ext w' Bi))(b:o.guard=none:=by exact rfl)(hs:sp.contains k=false:=by exact rfl):HJ P L a l S T Φ sp k o:=Ke b hs fun _ _ _ K=>h K
theorem HI.kO{a':Act}{w':World}{ph:Nat}{v:Value}(K:HI L a l T Φ sp k o a' w' ph)(s:Nat)(h:isDst L s=false:=by exact rfl)(b:lk (sl a s) l s=v:=by exact rfl):a'.eval (.tmp s)=v:=es ((K.out s h).trans b)
theorem Jf.kO{D:Nat→Bool}{V:Nat→Value}{a':Act}{v:Value}(K:Jf L a l D V k o a')(s:Nat)(h:isDst L s=false:=by exact rfl)(b:lk (sl a s) l s=v:=by exact rfl):a'.eval (.tmp s)=v:=es ((K.out s h).trans b)
end
abbrev IT(σ:Type):=σ→World→(Nat→Prop)→Option Nat→Prop
theorem gm{α:Type}{L:List α}{x:α}(i:Nat)(h:L[i]?=some x:=by exact rfl):x∈L:=List.mem_of_getElem? h
theorem hw{L:List (Option Nat)}{o o':Option Nat}{n:Nat}{p:Nat→Prop}(a:∀k,o'=some k→(o=some k∨n≤k)∧p k)(i:Nat)(h:L[i]?=some o:=by exact rfl):∀k,o'=some k→some k∈L∨n≤k:=fun k hk=>(a k hk).1.imp (fun e=>by rw[←e];exact gm i h) id
theorem Hp.mq{F:Nat→Prop}{B b L M:List (Option Nat)}{w0 w:World}{x c:Option Nat}(h:Hp F B w0 L w)(i:Nat)(a:List Nat)(e:Hh L a M)(d:B=b)(hi:L[i]?=some x:=by exact rfl)(f:(a.all fun j=> !Nat.beq i j)=true:=by exact rfl)(g:∀y∈b,y=c∨y∈M:=by simp):∀k,x=some k→(c=some k∨w0.heap.size≤k)∧k<w.heap.size:=h.Wa i hi a f e (by rw[d];exact g)
end Go.Proofs.YtcdofnchafcfpaaGreat
end
section
namespace Go.Proofs.YtcdofnchafcfpaaGreat
open Go.RowKit Go.WideShapes
structure AH where
 Lo:Int
 Hi:Int
structure Bq where
 BQ:Bool
 Number:Int
 AO:Int
 AP:Int
structure B4 where
 BV:Int
 C0:Int
structure CL where
 Hf:Int
 Hu:Int
structure CT where
 BQ:Int
 C9:Int
 Da:Int
structure AA where
 a0:Int
 a1:Int
 a2:Int
def AA.set(x:AA)(k:Nat)(v:Int):AA:=⟨if k=0 then v else x.a0,if k=1 then v else x.a1,if k=2 then v else x.a2⟩
def AA.l(x:AA):List Int:=[x.a0,x.a1,x.a2]
theorem AA.Wh(x:AA)(k:Nat)(v:Int)(h:k<3): #[.int .i64 (x.set k v).a0,.int .i64 (x.set k v).a1,.int .i64 (x.set k v).a2]=setCells #[.int .i64 x.a0,.int .i64 x.a1,.int .i64 x.a2] k [.int .i64 v]:=by
 match k,h with
 |0,_=>rfl
 |1,_=>rfl
 |2,_=>rfl
 |k+3,h=>omega
def AA.cp(x:AA)(l:List Int):AA:=⟨l.getD 0 x.a0,l.getD 1 x.a1,l.getD 2 x.a2⟩
theorem AA.X9(x:AA)(l:List Int):(#[.int .i64 (x.cp l).a0,.int .i64 (x.cp l).a1,.int .i64 (x.cp l).a2]:Array Value).toList=(PF l [x.a0,x.a1,x.a2]).map vI:=by
 match l with
 |[]=>rfl
 |[_]=>rfl
 |[_,_]=>rfl
 |_::_::_::_=>simp[PF,vI,AA.cp]
structure Cf where
 AE:List AH
 AF:List (List Int)
 AB:List Bq
 B6:Int
 AR:List B4
 AY:List CL
 Bf:List CT
 weights:List Int
 BL:List AA
 known:List (List Int×Int)
structure Av where
 Ac:List AH
 Ai:List (List Int)
 Ap:List Bq
structure E9 where
 As:List AH
 Ad:List (List Int)
 AJ:List Bq
 BL:List AA
structure AS where
 As:List AH
 Ad:List (List Int)
 AJ:List Bq
 Flat:Int
 Bl:List B4
 B8:List CL
 BA:List CT
structure MH where
 DE:Int
 Cy:Int
def Ay:Ci AH:=⟨2,fun _ _ cs x=>cs=[.int .i64 x.Lo,.int .i64 x.Hi],fun h=>by rw[h];rfl,fun h=>by rw[h];simp[Value.oneCell'],fun h _=>h⟩
def AG:Ci Bq:=⟨4,fun _ _ cs x=>cs=[.bool x.BQ,.int .i64 x.Number,.int .i64 x.AO,.int .i64 x.AP],fun h=>by rw[h];rfl,fun h=>by rw[h];simp[Value.oneCell'],fun h _=>h⟩
def BP:Ci AA:=⟨3,fun _ _ cs x=>cs=[.int .i64 x.a0,.int .i64 x.a1,.int .i64 x.a2],fun h=>by rw[h];rfl,fun h=>by rw[h];simp[Value.oneCell'],fun h _=>h⟩
def BC:Ci B4:=⟨2,fun _ _ cs x=>cs=[.int .i64 x.BV,.int .i64 x.C0],fun h=>by rw[h];rfl,fun h=>by rw[h];simp[Value.oneCell'],fun h _=>h⟩
def BE:Ci CL:=⟨2,fun _ _ cs x=>cs=[.int .i64 x.Hf,.int .i64 x.Hu],fun h=>by rw[h];rfl,fun h=>by rw[h];simp[Value.oneCell'],fun h _=>h⟩
def BM:Ci CT:=⟨3,fun _ _ cs x=>cs=[.int .i64 x.BQ,.int .i64 x.C9,.int .i64 x.Da],fun h=>by rw[h];rfl,fun h=>by rw[h];simp[Value.oneCell'],fun h _=>h⟩
def Oo:Ci Av:=⟨3,fun w Z cs x=>∃a b c d e f,cs=[.slice a x.Ac.length b,.slice c x.Ai.length d,.slice e x.Ap.length f]∧Sl Ay w Z a b x.Ac∧Sl (BJ (Ao .i64)) w Z c d x.Ai∧Sl AG w Z e f x.Ap,fun⟨_,_,_,_,_,_,h,_⟩=>by rw[h];rfl,fun⟨_,_,_,_,_,_,h,_⟩=>by rw[h];simp[Value.oneCell'],fun⟨a,b,c,d,e,f,h,h0,h1,h2⟩ g=>⟨a,b,c,d,e,f,h,h0.mv g,h1.mv g,h2.mv g⟩⟩
abbrev DX(a:Option Addr)(b:Nat)(c:Option Addr)(d:Nat)(e:Option Addr)(f:Nat)(g:Option Addr)(h:Nat)(i:Option Addr)(j:Nat)(k:Option Addr)(l:Nat)(m:Option Addr)(n:Nat)(o:Option Addr)(p:Nat)(r:Nat)(x:Cf):List Value:=[.slice a x.AE.length b,.slice c x.AF.length d,.slice e x.AB.length f,I x.B6,.slice g x.AR.length h,.slice i x.AY.length j,.slice k x.Bf.length l,.slice m x.weights.length n,.slice o x.BL.length p,.map (some r)]
abbrev An(a:Option Addr)(b:Nat)(c:Option Addr)(d:Nat)(e:Option Addr)(f:Nat)(x:Av):List Value:=[.slice a x.Ac.length b,.slice c x.Ai.length d,.slice e x.Ap.length f]
abbrev Gg(a:Option Addr)(b:Nat)(c:Option Addr)(d:Nat)(e:Option Addr)(f:Nat)(g:Option Addr)(h:Nat)(x:E9):List Value:=[.slice a x.As.length b,.slice c x.Ad.length d,.slice e x.AJ.length f,.slice g x.BL.length h]
abbrev Bh(a:Option Addr)(b:Nat)(c:Option Addr)(d:Nat)(e:Option Addr)(f:Nat)(g:Option Addr)(h:Nat)(i:Option Addr)(j:Nat)(k:Option Addr)(l:Nat)(x:AS):List Value:=[.slice a x.As.length b,.slice c x.Ad.length d,.slice e x.AJ.length f,I x.Flat,.slice g x.Bl.length h,.slice i x.B8.length j,.slice k x.BA.length l]
def JL(n:Nat)(w:World)(Z:Nat→Prop)(p:Value):Option E9→Prop
 |none=>p=.pointer none
 |some x=>∃(b:Nat) (a:Option Addr) (c:Nat) (d:Option Addr) (e:Nat) (f:Option Addr) (g:Nat) (h:Option Addr) (i:Nat),p=pt b 0∧FR n w [b]∧Bk w b 132 #[.slice a x.As.length c,.slice d x.Ad.length e,.slice f x.AJ.length g,.slice h x.BL.length i]∧Sl Ay w (ZZ FN [] Z n [some b]) a c x.As∧Sl (BJ (Ao .i64)) w (ZZ FN [] Z n [some b]) d e x.Ad∧Sl AG w (ZZ FN [] Z n [some b]) f g x.AJ∧Sl BP w (ZZ FN [] Z n [some b]) h i x.BL
theorem JL.cases{n:Nat}{w:World}{Z:Nat→Prop}{p:Value}:∀{o:Option E9},JL n w Z p o→(o=none∧p=.pointer none)∨(∃x,o=some x∧∃(b:Nat) (a:Option Addr) (c:Nat) (d:Option Addr) (e:Nat) (f:Option Addr) (g:Nat) (i:Option Addr) (j:Nat),p=pt b 0∧FR n w [b]∧Bk w b 132 #[.slice a x.As.length c,.slice d x.Ad.length e,.slice f x.AJ.length g,.slice i x.BL.length j]∧Sl Ay w (ZZ FN [] Z n [some b]) a c x.As∧Sl (BJ (Ao .i64)) w (ZZ FN [] Z n [some b]) d e x.Ad∧Sl AG w (ZZ FN [] Z n [some b]) f g x.AJ∧Sl BP w (ZZ FN [] Z n [some b]) i j x.BL)
 |none,h=>.inl ⟨rfl,h⟩
 |some x,h=>.inr ⟨x,rfl,h⟩
theorem JL.ext{n:Nat}{w w':World}{Z:Nat→Prop}{p:Value}:∀{o:Option E9},JL n w Z p o→Ext w w'→JL n w' Z p o
 |none,h,_=>h
 |some x,⟨b,a,c,d,f,i,j,k,l,e,hn,hb,s0,s1,s2,m⟩,g=>⟨b,a,c,d,f,i,j,k,l,e,hn.grow (Nat.le_refl _) g.size,hb.ext g,s0.mv (Ab g),s1.mv (Ab g),s2.mv (Ab g),m.mv (Ab g)⟩
def GR(n:Nat)(w:World)(Z:Nat→Prop)(p:Value):Option Cf→Prop
 |none=>p=.pointer none
 |some x=>∃(b r:Nat) (a:Option Addr) (c:Nat) (d:Option Addr) (e:Nat) (f:Option Addr) (g:Nat) (h:Option Addr) (i:Nat) (j:Option Addr) (k:Nat) (l:Option Addr) (m:Nat) (o:Option Addr) (q:Nat) (s:Option Addr) (t:Nat),p=pt b 0∧FR n w [b,r]∧Bk w b 109 #[.slice a x.AE.length c,.slice d x.AF.length e,.slice f x.AB.length g,I x.B6,.slice h x.AR.length i,.slice j x.AY.length k,.slice l x.Bf.length m,.slice o x.weights.length q,.slice s x.BL.length t,.map (some r)]∧Cr (fun x:Int=>I x) w r 2 x.known∧Sl Ay w (ZZ FN [] Z n [some b,some r]) a c x.AE∧Sl (BJ (Ao .i64)) w (ZZ FN [] Z n [some b,some r]) d e x.AF∧Sl AG w (ZZ FN [] Z n [some b,some r]) f g x.AB∧Sl BC w (ZZ FN [] Z n [some b,some r]) h i x.AR∧Sl BE w (ZZ FN [] Z n [some b,some r]) j k x.AY∧Sl BM w (ZZ FN [] Z n [some b,some r]) l m x.Bf∧Sl (Ao .i64) w (ZZ FN [] Z n [some b,some r]) o q x.weights∧Sl BP w (ZZ FN [] Z n [some b,some r]) s t x.BL
theorem GR.cases{n:Nat}{w:World}{Z:Nat→Prop}{p:Value}:∀{o:Option Cf},GR n w Z p o→(o=none∧p=.pointer none)∨(∃x,o=some x∧∃(b r:Nat) (a:Option Addr) (c:Nat) (d:Option Addr) (e:Nat) (f:Option Addr) (g:Nat) (i:Option Addr) (j:Nat) (k:Option Addr) (l:Nat) (m:Option Addr) (q:Nat) (s:Option Addr) (t:Nat) (u:Option Addr) (v:Nat),p=pt b 0∧FR n w [b,r]∧Bk w b 109 #[.slice a x.AE.length c,.slice d x.AF.length e,.slice f x.AB.length g,I x.B6,.slice i x.AR.length j,.slice k x.AY.length l,.slice m x.Bf.length q,.slice s x.weights.length t,.slice u x.BL.length v,.map (some r)]∧Cr (fun x:Int=>I x) w r 2 x.known∧Sl Ay w (ZZ FN [] Z n [some b,some r]) a c x.AE∧Sl (BJ (Ao .i64)) w (ZZ FN [] Z n [some b,some r]) d e x.AF∧Sl AG w (ZZ FN [] Z n [some b,some r]) f g x.AB∧Sl BC w (ZZ FN [] Z n [some b,some r]) i j x.AR∧Sl BE w (ZZ FN [] Z n [some b,some r]) k l x.AY∧Sl BM w (ZZ FN [] Z n [some b,some r]) m q x.Bf∧Sl (Ao .i64) w (ZZ FN [] Z n [some b,some r]) s t x.weights∧Sl BP w (ZZ FN [] Z n [some b,some r]) u v x.BL)
 |none,h=>.inl ⟨rfl,h⟩
 |some x,h=>.inr ⟨x,rfl,h⟩
theorem GR.ext{n:Nat}{w w':World}{Z:Nat→Prop}{p:Value}:∀{o:Option Cf},GR n w Z p o→Ext w w'→GR n w' Z p o
 |none,h,_=>h
 |some x,⟨b,r,a,c,d,f,i,j,k,l,m,q,s,t,u,v,y,z,e,hn,hb,hm,s0,s1,s2,aA,aB,aC,aD,aE⟩,g=>⟨b,r,a,c,d,f,i,j,k,l,m,q,s,t,u,v,y,z,e,hn.grow (Nat.le_refl _) g.size,hb.ext g,hm.ext g,s0.mv (Ab g),s1.mv (Ab g),s2.mv (Ab g),aA.mv (Ab g),aB.mv (Ab g),aC.mv (Ab g),aD.mv (Ab g),aE.mv (Ab g)⟩
theorem GR.use{n:Nat}{w:World}{Z:Nat→Prop}{p:Value}{x:Cf}:GR n w Z p (some x)→∃(b r:Nat) (a:Option Addr) (c:Nat) (d:Option Addr) (f:Nat) (g:Option Addr) (h:Nat) (i:Option Addr) (j:Nat) (k:Option Addr) (l:Nat) (m:Option Addr) (o:Nat) (q:Option Addr) (s:Nat) (t:Option Addr) (u:Nat),p=pt b 0∧Bp FN [some r] w∧n≤r∧Rz w (ZC FN [some r]) (some ⟨b,0,none⟩) [.slice a x.AE.length c,.slice d x.AF.length f,.slice g x.AB.length h,I x.B6,.slice i x.AR.length j,.slice k x.AY.length l,.slice m x.Bf.length o,.slice q x.weights.length s,.slice t x.BL.length u,.map (some r)]∧Cr (fun x:Int=>I x) w r 2 x.known∧Sl Ay w (ZC FN [some r]) a c x.AE∧Sl (BJ (Ao .i64)) w (ZC FN [some r]) d f x.AF∧Sl AG w (ZC FN [some r]) g h x.AB∧Sl BC w (ZC FN [some r]) i j x.AR∧Sl BE w (ZC FN [some r]) k l x.AY∧Sl BM w (ZC FN [some r]) m o x.Bf∧Sl (Ao .i64) w (ZC FN [some r]) q s x.weights∧Sl BP w (ZC FN [some r]) t u x.BL
 |⟨b,r,a,c,d,f,g,h,i,j,k,l,m,o,q,s,t,u,e,hn,hb,hm,s0,s1,s2,v,y,z,aA,aB⟩=>⟨b,r,a,c,d,f,g,h,i,j,k,l,m,o,q,s,t,u,e,Uk hn,(hn.mem _ (by simp)).1,MG hb (Ys hn) rfl,hm,s0.mv (ED (JX hn)),s1.mv (ED (JX hn)),s2.mv (ED (JX hn)),v.mv (ED (JX hn)),y.mv (ED (JX hn)),z.mv (ED (JX hn)),aA.mv (ED (JX hn)),aB.mv (ED (JX hn))⟩
def EZ(d:Nat)(a:Int)(b:Int)(c:Int):Option (Bool):=
 cond (decide (b≤a)) (some (decide (a≤c))) (some (false))
def Ex(b:Nat)(a:AH):Option (Bool):=
 cond (decide ((0:Int)≤a.Lo)) (cond (decide (a.Lo≤a.Hi)) (some (decide (a.Hi≤100))) (some (false))) (some (false))
def GS(b:Nat)(a:AH):Option (Int):=
 (i64 (a.Hi-a.Lo)).bind fun _=>(i64 ((a.Hi-a.Lo)+1)).bind fun _=>some ((a.Hi-a.Lo)+1)
def ER(b:Nat)(a:AH)(c:Int):Option (Bool):=
 (EZ b c a.Lo a.Hi).bind fun d=>some (d)
def H6(a:Nat)(b:Int):Option (Bool):=
 (EZ a b 0 30).bind fun c=>some (c)
def E0(c:List Int):Nat→Int→Int→Option (Int)
 |0,_,_=>none
 |e+1,b,a=>cond (decide (a<(c.length:Int))) ((idx c a).bind fun d=>(i64 (b+d)).bind fun _=>(i64 (a+1)).bind fun _=>E0 c e (b+d) (a+1)) (some (b))
def It(a:Nat)(b:List Int):Option (Int):=
 (E0 b a (0:Int) (0:Int)).bind fun c=>some (c)
def Ga(c:Nat)(b:Av)(a:Bq):Option (Int):=
 cond (a.BQ) ((i64 ((b.Ac.length:Int)+a.Number)).bind fun _=>some ((b.Ac.length:Int)+a.Number)) (some (a.Number))
def Fc(c:List Int):Nat→Int→Int→Option (Int)
 |0,_,_=>none
 |d+1,b,a=>cond (decide (a<(c.length:Int))) ((idx c a).bind fun e=>(i64 (a+1)).bind fun _=>Fc c d (min b e) (a+1)) (some (b))
def Gh(b:Nat)(a:List Int):Option (Int):=
 cond (decide ((a.length:Int)<1)) (none) ((idx a (0:Int)).bind fun x2=>(Fc a b x2 (1:Int)).bind fun z3=>some (z3))
def HM(a:Nat)(b:List Int):Option (Int):=
 (Gh a b).bind fun c=>some (c)
def IG(a:Nat)(b:Int):Option (Bool):=
 (EZ a b 0 100).bind fun c=>some (c)
def Gs{a:Type}(f:Nat)(b:a→AH→Option (Bool×a))(d:AH)(e:a):Option (Bool×a):=
 (b e d).bind fun c=>some ((!c.1,c.2))
def D6{c:Type}(d:c→AH→Option (Bool×c))(e:List AH):Nat→Int→c→Option ((Int×c)⊕(c))
 |0,_,_=>none
 |g+1,a,b=>cond (decide (a<(e.length:Int))) ((idx e a).bind fun h=>(d b h).bind fun f=>cond (f.1) (some (.inl (a,f.2))) ((i64 (a+1)).bind fun _=>D6 d e g (a+1) f.2)) (some (.inr b))
def G7{b:Type}(d:Nat)(c:b→AH→Option (Bool×b))(e:List AH)(f:b):Option (Int×b):=
 (D6 c e d (0:Int) f).bind fun z=>Sum.elim (fun a=>some ((a.1,a.2))) (fun a=>some (((-1),a))) z
def Gt{a:Type}(d:Nat)(b:a→AH→Option (Bool×a))(e:List AH)(f:a):Option (Bool×a):=
 (G7 d b e f).bind fun c=>some ((decide ((0:Int)≤c.1),c.2))
def HU{a:Type}(b:Nat)(c:a→AH→Option (Bool×a))(e:List AH)(f:a):Option (Bool×a):=
 (Gt b (fun(st:a) (x:AH)=>(Gs b c x st).bind fun r=>some (r.1,r.2)) e f).bind fun d=>some ((!d.1,d.2))
def GU{a:Type}(f:Nat)(b:a→(List Int)→Option (Bool×a))(d:List Int)(e:a):Option (Bool×a):=
 (b e d).bind fun c=>some ((!c.1,c.2))
def En{c:Type}(d:c→(List Int)→Option (Bool×c))(e:List (List Int)):Nat→Int→c→Option ((Int×c)⊕(c))
 |0,_,_=>none
 |g+1,a,b=>cond (decide (a<(e.length:Int))) ((idx e a).bind fun h=>(d b h).bind fun f=>cond (f.1) (some (.inl (a,f.2))) ((i64 (a+1)).bind fun _=>En d e g (a+1) f.2)) (some (.inr b))
def Hl{b:Type}(d:Nat)(c:b→(List Int)→Option (Bool×b))(e:List (List Int))(f:b):Option (Int×b):=
 (En c e d (0:Int) f).bind fun z=>Sum.elim (fun a=>some ((a.1,a.2))) (fun a=>some (((-1),a))) z
def GP{a:Type}(d:Nat)(b:a→(List Int)→Option (Bool×a))(e:List (List Int))(f:a):Option (Bool×a):=
 (Hl d b e f).bind fun c=>some ((decide ((0:Int)≤c.1),c.2))
def Ie{a:Type}(b:Nat)(c:a→(List Int)→Option (Bool×a))(e:List (List Int))(f:a):Option (Bool×a):=
 (GP b (fun(st:a) (x:(List Int))=>(GU b c x st).bind fun r=>some (r.1,r.2)) e f).bind fun d=>some ((!d.1,d.2))
def Gu{a:Type}(f:Nat)(b:a→Bq→Option (Bool×a))(d:Bq)(e:a):Option (Bool×a):=
 (b e d).bind fun c=>some ((!c.1,c.2))
def Ea{c:Type}(d:c→Bq→Option (Bool×c))(e:List Bq):Nat→Int→c→Option ((Int×c)⊕(c))
 |0,_,_=>none
 |g+1,a,b=>cond (decide (a<(e.length:Int))) ((idx e a).bind fun h=>(d b h).bind fun f=>cond (f.1) (some (.inl (a,f.2))) ((i64 (a+1)).bind fun _=>Ea d e g (a+1) f.2)) (some (.inr b))
def G8{b:Type}(d:Nat)(c:b→Bq→Option (Bool×b))(e:List Bq)(f:b):Option (Int×b):=
 (Ea c e d (0:Int) f).bind fun z=>Sum.elim (fun a=>some ((a.1,a.2))) (fun a=>some (((-1),a))) z
def Gv{a:Type}(d:Nat)(b:a→Bq→Option (Bool×a))(e:List Bq)(f:a):Option (Bool×a):=
 (G8 d b e f).bind fun c=>some ((decide ((0:Int)≤c.1),c.2))
def HV{a:Type}(b:Nat)(c:a→Bq→Option (Bool×a))(e:List Bq)(f:a):Option (Bool×a):=
 (Gv b (fun(st:a) (x:Bq)=>(Gu b c x st).bind fun r=>some (r.1,r.2)) e f).bind fun d=>some ((!d.1,d.2))
def G9{a:Type}(f:Nat)(b:a→Int→Option (Bool×a))(d:Int)(e:a):Option (Bool×a):=
 (b e d).bind fun c=>some ((!c.1,c.2))
def EF{c:Type}(d:c→Int→Option (Bool×c))(e:List Int):Nat→Int→c→Option ((Int×c)⊕(c))
 |0,_,_=>none
 |g+1,a,b=>cond (decide (a<(e.length:Int))) ((idx e a).bind fun h=>(d b h).bind fun f=>cond (f.1) (some (.inl (a,f.2))) ((i64 (a+1)).bind fun _=>EF d e g (a+1) f.2)) (some (.inr b))
def HB{b:Type}(d:Nat)(c:b→Int→Option (Bool×b))(e:List Int)(f:b):Option (Int×b):=
 (EF c e d (0:Int) f).bind fun z=>Sum.elim (fun a=>some ((a.1,a.2))) (fun a=>some (((-1),a))) z
def GY{a:Type}(d:Nat)(b:a→Int→Option (Bool×a))(e:List Int)(f:a):Option (Bool×a):=
 (HB d b e f).bind fun c=>some ((decide ((0:Int)≤c.1),c.2))
def Iu{a:Type}(b:Nat)(c:a→Int→Option (Bool×a))(e:List Int)(f:a):Option (Bool×a):=
 (GY b (fun(st:a) (x:Int)=>(G9 b c x st).bind fun r=>some (r.1,r.2)) e f).bind fun d=>some ((!d.1,d.2))
def FA(a:Nat)(c:Av)(b:List Int):Option (Bool):=
 cond ((b.length:Int)==(c.Ac.length:Int)) ((Iu a (fun(st:Unit) (x:Int)=>(H6 a x).bind fun r=>some (r,())) b ()).bind fun d=>some (d.1)) (some (false))
def E4(a:Nat)(c:Av)(b:List Int):Option (Bool):=
 (FA a c b).bind fun d=>cond (d) ((It a b).bind fun e=>some (decide ((0:Int)<e))) (some (false))
def Fe(b:Nat)(c:Av)(a:Bq):Option (Bool):=
 cond (a.BQ) ((i64 ((c.Ai.length:Int)-1)).bind fun _=>(EZ b a.Number 0 ((c.Ai.length:Int)-1)).bind fun f=>cond (f) ((Ex b (⟨a.AO,a.AP⟩:AH)).bind fun g=>some (g)) (some (false))) ((i64 ((c.Ac.length:Int)-1)).bind fun _=>(EZ b a.Number 0 ((c.Ac.length:Int)-1)).bind fun d=>cond (d) ((Ex b (⟨a.AO,a.AP⟩:AH)).bind fun e=>some (e)) (some (false)))
def CA(d:Nat)(e:Av):Nat→Int→Int→Option (Int)
 |0,_,_=>none
 |h+1,b,a=>cond (decide (a<(e.Ac.length:Int))) ((idx e.Ac a).bind fun f=>(GS d f).bind fun c=>(i64 (b*c)).bind fun _=>(HM d [b*c,2001]).bind fun g=>(i64 (a+1)).bind fun _=>CA d e h g (a+1)) (some (b))
def Du(b:Nat)(a:Av):Option (Int):=
 cond (decide ((3:Int)<(a.Ac.length:Int))) (some (3)) (cond (decide ((3:Int)<(a.Ai.length:Int))) (some (3)) (cond (decide ((5:Int)<(a.Ap.length:Int))) (some (3)) (cond ((a.Ac.length:Int)==0) (some (1)) ((HU b (fun(st:Unit) (x:AH)=>(Ex b x).bind fun r=>some (r,())) a.Ac ()).bind fun e=>cond (!e.1) (some (1)) ((Ie b (fun(st:Unit) (x:(List Int))=>(E4 b a x).bind fun r=>some (r,())) a.Ai ()).bind fun c=>cond (!c.1) (some (1)) ((HV b (fun(st:Unit) (x:Bq)=>(Fe b a x).bind fun r=>some (r,())) a.Ap ()).bind fun d=>cond (!d.1) (some (1)) ((CA b a b (1:Int) (0:Int)).bind fun z25=>cond (decide ((2000:Int)<z25)) (some (3)) (some (0)))))))))
def DY(b:List Int)(c:Int):Nat→Int→Option ((Int)⊕(Unit))
 |0,_=>none
 |d+1,a=>cond (decide (a<(b.length:Int))) ((idx b a).bind fun e=>cond (c==e) (some (.inl a)) ((i64 (a+1)).bind fun _=>DY b c d (a+1))) (some (.inr ()))
def Ih(b:Nat)(c:List Int)(d:Int):Option (Int):=
 (DY c d b (0:Int)).bind fun z=>Sum.elim (fun a=>some (a)) (fun a=>some ((-1))) z
def EM(a:Nat)(b:List Int)(c:Int):Option (Bool):=
 (Ih a b c).bind fun d=>some (decide ((0:Int)≤d))
def Dy(c:AA)(d:List Int):Nat→Int→Int→Option (Int)
 |0,_,_=>none
 |g+1,b,a=>cond (decide (a<(d.length:Int))) ((idx d a).bind fun e=>(idx ([c.a0,c.a1,c.a2]:List Int) a).bind fun f=>(i64 (e*f)).bind fun _=>(i64 (b+(e*f))).bind fun _=>(i64 (a+1)).bind fun _=>Dy c d g (b+(e*f)) (a+1)) (some (b))
def DB(b:Nat)(d:AA)(c:List Int):Option (Int):=
 (Dy d c b (0:Int) (0:Int)).bind fun z2=>(It b c).bind fun a=>(quo z2 a).bind fun _=>(i64 (z2/a)).bind fun _=>some (z2/a)
def Dz(d:Nat)(a:Av)(b:AA)(c:Int):Option (Int):=
 cond (decide ((a.Ac.length:Int)≤c)) ((i64 (c-(a.Ac.length:Int))).bind fun _=>(idx a.Ai (c-(a.Ac.length:Int))).bind fun e=>(DB d b e).bind fun f=>some (f)) ((idx ([b.a0,b.a1,b.a2]:List Int) c).bind fun g=>some (g))
def CB(b:Nat)(c:Av)(d:AA)(e:List Int):Nat→Int→Option ((Bool)⊕(Unit))
 |0,_=>none
 |g+1,a=>cond (decide (a<(c.Ap.length:Int))) ((idx c.Ap a).bind fun f=>(EM b e a).bind fun k=>cond (!k) ((Ga b c f).bind fun h=>(Dz b c d h).bind fun i=>(ER b (⟨f.AO,f.AP⟩:AH) i).bind fun j=>cond (!j) (some (.inl false)) ((i64 (a+1)).bind fun _=>CB b c d e g (a+1))) ((i64 (a+1)).bind fun _=>CB b c d e g (a+1))) (some (.inr ()))
def Ff(b:Nat)(c:Av)(d:AA)(e:List Int):Option (Bool):=
 (CB b c d e b (0:Int)).bind fun z=>Sum.elim (fun a=>some (a)) (fun a=>some (true)) z
def DG(c:Nat)(b:Av)(d:List Int):Nat→Int→Option ((Bool)⊕(Unit))
 |0,_=>none
 |g+1,a=>cond (decide (a<(b.Ac.length:Int))) ((idx b.Ac a).bind fun h=>(idx d a).bind fun e=>(ER c h e).bind fun f=>cond (!f) (some (.inl false)) ((i64 (a+1)).bind fun _=>DG c b d g (a+1))) (some (.inr ()))
def E5(c:Nat)(d:Av)(b:List Int):Option (AA×Bool):=
 cond ((b.length:Int) !=(d.Ac.length:Int)) (some (((⟨0,0,0⟩:AA),false))) ((DG c d b c (0:Int)).bind fun z=>Sum.elim (fun a=>some (((⟨0,0,0⟩:AA),a))) (fun a=>some ((((⟨0,0,0⟩:AA).cp b),true))) z)
def FT(e:Nat)(d:Av)(f:AA×Bool):Nat→(List Int)→Int→Option ((List Int))
 |0,_,_=>none
 |h+1,b,a=>cond (decide (a<(d.Ai.length:Int))) ((idx d.Ai a).bind fun g=>(DB e f.1 g).bind fun c=>(Hs (((b.length+[c].length:Nat):Int)≤140737488355328/8)).bind fun _=>(i64 (a+1)).bind fun _=>FT e d f h (b++[c]) (a+1)) (some (b))
def Ib(a:Nat)(b:Av)(e:List Int):Option ((List Int)×Int):=
 (Du a b).bind fun c=>cond (c !=0) (some ((([]:List Int),c))) ((E5 a b e).bind fun d=>cond (!d.2) (some ((([]:List Int),2))) ((FT a b d a ([]:List Int) (0:Int)).bind fun z12=>some ((z12,0))))
def F4(a:Nat)(b:Av)(e:List Int):Option (Bool):=
 (Du a b).bind fun f=>cond (f !=0) (some (false)) ((E5 a b e).bind fun c=>cond (c.2) ((Ff a b c.1 ([]:List Int)).bind fun d=>some (d)) (some (false)))
def DZ(d:Nat)(a:Int)(b:Int)(c:Int):Option (Bool):=
 cond (decide (b≤a)) (some (decide (a≤c))) (some (false))
def HW(c:Nat)(a:AH)(b:Int):Option (Bool):=
 cond (decide ((0:Int)≤a.Lo)) (cond (decide (a.Lo≤a.Hi)) (some (decide (a.Hi≤b))) (some (false))) (some (false))
def Eu(b:Nat)(a:AH)(c:Int):Option (Bool):=
 (DZ b c a.Lo a.Hi).bind fun d=>some (d)
def Hv(b:Nat)(a:AH):Option (Int):=
 (i64 (a.Hi-a.Lo)).bind fun _=>(i64 ((a.Hi-a.Lo)+1)).bind fun _=>some ((a.Hi-a.Lo)+1)
def Hw(a:Nat)(b:List Int):Option (Int):=
 (Gh a b).bind fun c=>some (c)
def Fg(c:Nat)(a:AH)(b:Int):Option (AH):=
 (Hw c [a.Lo,b]).bind fun d=>some ((⟨d,max a.Hi b⟩:AH))
def H7(a:Nat)(b:Int):Option (Bool):=
 (DZ a b 0 100).bind fun c=>some (c)
def Gw(b:Nat)(a:AS)(c:Int):Option (Bool):=
 (i64 ((a.Ad.length:Int)-1)).bind fun _=>(DZ b c 0 ((a.Ad.length:Int)-1)).bind fun d=>some (d)
def Fh(a:Nat)(b:AS)(c:CL):Option (Bool):=
 (i64 ((b.Bl.length:Int)-1)).bind fun _=>(DZ a c.Hf 0 ((b.Bl.length:Int)-1)).bind fun d=>cond (d) ((DZ a c.Hu 1 90).bind fun e=>some (e)) (some (false))
def FB(b:Nat)(c:AS)(a:CT):Option (Bool):=
 (Gw b c a.BQ).bind fun d=>cond (d) ((HW b (⟨a.C9,a.Da⟩:AH) 9000).bind fun e=>some (e)) (some (false))
def Gb{a:Type}(f:Nat)(b:a→B4→Option (Bool×a))(d:B4)(e:a):Option (Bool×a):=
 (b e d).bind fun c=>some ((!c.1,c.2))
def Eb{c:Type}(d:c→B4→Option (Bool×c))(e:List B4):Nat→Int→c→Option ((Int×c)⊕(c))
 |0,_,_=>none
 |g+1,a,b=>cond (decide (a<(e.length:Int))) ((idx e a).bind fun h=>(d b h).bind fun f=>cond (f.1) (some (.inl (a,f.2))) ((i64 (a+1)).bind fun _=>Eb d e g (a+1) f.2)) (some (.inr b))
def Ha{b:Type}(d:Nat)(c:b→B4→Option (Bool×b))(e:List B4)(f:b):Option (Int×b):=
 (Eb c e d (0:Int) f).bind fun z=>Sum.elim (fun a=>some ((a.1,a.2))) (fun a=>some (((-1),a))) z
def Gx{a:Type}(d:Nat)(b:a→B4→Option (Bool×a))(e:List B4)(f:a):Option (Bool×a):=
 (Ha d b e f).bind fun c=>some ((decide ((0:Int)≤c.1),c.2))
def HG{a:Type}(b:Nat)(c:a→B4→Option (Bool×a))(e:List B4)(f:a):Option (Bool×a):=
 (Gx b (fun(st:a) (x:B4)=>(Gb b c x st).bind fun r=>some (r.1,r.2)) e f).bind fun d=>some ((!d.1,d.2))
def Gc{a:Type}(f:Nat)(b:a→CL→Option (Bool×a))(d:CL)(e:a):Option (Bool×a):=
 (b e d).bind fun c=>some ((!c.1,c.2))
def Ec{c:Type}(d:c→CL→Option (Bool×c))(e:List CL):Nat→Int→c→Option ((Int×c)⊕(c))
 |0,_,_=>none
 |g+1,a,b=>cond (decide (a<(e.length:Int))) ((idx e a).bind fun h=>(d b h).bind fun f=>cond (f.1) (some (.inl (a,f.2))) ((i64 (a+1)).bind fun _=>Ec d e g (a+1) f.2)) (some (.inr b))
def Hb{b:Type}(d:Nat)(c:b→CL→Option (Bool×b))(e:List CL)(f:b):Option (Int×b):=
 (Ec c e d (0:Int) f).bind fun z=>Sum.elim (fun a=>some ((a.1,a.2))) (fun a=>some (((-1),a))) z
def Gy{a:Type}(d:Nat)(b:a→CL→Option (Bool×a))(e:List CL)(f:a):Option (Bool×a):=
 (Hb d b e f).bind fun c=>some ((decide ((0:Int)≤c.1),c.2))
def HH{a:Type}(b:Nat)(c:a→CL→Option (Bool×a))(e:List CL)(f:a):Option (Bool×a):=
 (Gy b (fun(st:a) (x:CL)=>(Gc b c x st).bind fun r=>some (r.1,r.2)) e f).bind fun d=>some ((!d.1,d.2))
def Gz{a:Type}(f:Nat)(b:a→CT→Option (Bool×a))(d:CT)(e:a):Option (Bool×a):=
 (b e d).bind fun c=>some ((!c.1,c.2))
def Eo{c:Type}(d:c→CT→Option (Bool×c))(e:List CT):Nat→Int→c→Option ((Int×c)⊕(c))
 |0,_,_=>none
 |g+1,a,b=>cond (decide (a<(e.length:Int))) ((idx e a).bind fun h=>(d b h).bind fun f=>cond (f.1) (some (.inl (a,f.2))) ((i64 (a+1)).bind fun _=>Eo d e g (a+1) f.2)) (some (.inr b))
def Hm{b:Type}(d:Nat)(c:b→CT→Option (Bool×b))(e:List CT)(f:b):Option (Int×b):=
 (Eo c e d (0:Int) f).bind fun z=>Sum.elim (fun a=>some ((a.1,a.2))) (fun a=>some (((-1),a))) z
def GQ{a:Type}(d:Nat)(b:a→CT→Option (Bool×a))(e:List CT)(f:a):Option (Bool×a):=
 (Hm d b e f).bind fun c=>some ((decide ((0:Int)≤c.1),c.2))
def HX{a:Type}(b:Nat)(c:a→CT→Option (Bool×a))(e:List CT)(f:a):Option (Bool×a):=
 (GQ b (fun(st:a) (x:CT)=>(Gz b c x st).bind fun r=>some (r.1,r.2)) e f).bind fun d=>some ((!d.1,d.2))
def Ep(c:Nat)(a:B4)(b:B4):Option (Bool×B4):=
 (i64 (b.BV-1)).bind fun _=>(DZ c a.BV 0 (b.BV-1)).bind fun d=>cond (d) ((DZ c a.C0 0 b.C0).bind fun e=>some ((e,a))) (some ((false,a)))
def FV(a:Nat)(b:AS):Option (Bool):=
 cond (decide ((0:Int)<(b.Bl.length:Int))) ((HG a (fun(st:B4) (x:B4)=>(Ep a x st).bind fun r=>some (r.1,r.2)) b.Bl (⟨101,100⟩:B4)).bind fun c=>some (c.1)) (some (false))
def FC(b:Nat)(a:AS):Option (Int):=
 (Du b (⟨a.As,a.Ad,a.AJ⟩:Av)).bind fun c=>cond (c !=0) (some (c)) (cond (decide ((3:Int)<(a.Bl.length:Int))) (some (3)) (cond (decide ((3:Int)<(a.B8.length:Int))) (some (3)) (cond (decide ((5:Int)<(a.BA.length:Int))) (some (3)) ((H7 b a.Flat).bind fun g=>cond (!g) (some (1)) ((FV b a).bind fun d=>cond (!d) (some (1)) ((HH b (fun(st:Unit) (x:CL)=>(Fh b a x).bind fun r=>some (r,())) a.B8 ()).bind fun e=>cond (!e.1) (some (1)) ((HX b (fun(st:Unit) (x:CT)=>(FB b a x).bind fun r=>some (r,())) a.BA ()).bind fun f=>cond (!f.1) (some (1)) (some (0)))))))))
def DN(c:AS):Nat→(List AH)→Int→Option ((List AH))
 |0,_,_=>none
 |e+1,b,a=>cond (decide (a<(c.As.length:Int))) ((idx c.As a).bind fun d=>(Hs (((b.length+[d].length:Nat):Int)≤140737488355328/16)).bind fun _=>(i64 (a+1)).bind fun _=>DN c e (b++[d]) (a+1)) (some (b))
def Fi(a:Nat)(b:AS):Option ((List AH)):=
 (DN b a ([]:List AH) (0:Int)).bind fun z2=>some (z2)
def Cx(d:List Int):Nat→Int→Int→Option (Int)
 |0,_,_=>none
 |e+1,b,a=>cond (decide (a<(d.length:Int))) ((idx d a).bind fun c=>(i64 (b+c)).bind fun _=>(i64 (a+1)).bind fun _=>Cx d e (b+c) (a+1)) (some (b))
def Df(d:Nat)(c:AS):Nat→Int→(List Int)→Option ((List Int))
 |0,_,_=>none
 |f+1,a,b=>cond (decide (a<(c.Ad.length:Int))) ((idx c.Ad a).bind fun g=>(Cx g d (0:Int) (0:Int)).bind fun e=>(Hs (((b.length+[e].length:Nat):Int)≤140737488355328/8)).bind fun _=>(i64 (a+1)).bind fun _=>Df d c f (a+1) (b++[e])) (some (b))
def Ed(b:Nat)(a:AS):Option (Cf):=
 (Df b a b (0:Int) ([]:List Int)).bind fun z4=>some ((⟨a.As,a.Ad,a.AJ,a.Flat,a.Bl,a.B8,a.BA,z4,([]:List AA),[]⟩:Cf))
def Ee{f:Type}(g:Int→(List AH)→(List Int)→f→Option (Bool×(List Int)×f))(e:Int)(i:List AH)(j:Int):Nat→Int→(List Int)→f→Option ((Bool×(List Int)×f)⊕((List Int)×f))
 |0,_,_,_=>none
 |k+1,a,b,d=>cond (decide (a<j)) ((idx i e).bind fun h=>(i64 (h.Lo+a)).bind fun _=>(idx b e).bind fun l=>(i64 (e+1)).bind fun _=>(g (e+1) i (b.set e.toNat (h.Lo+a)) d).bind fun c=>cond (!c.1) (some (.inl (false,c.2.1,c.2.2))) ((i64 (a+1)).bind fun _=>Ee g e i j k (a+1) c.2.1 c.2.2)) (some (.inr (b,d)))
def DT{b:Type}(d:Nat)(c:b→(List Int)→Option (Bool×b)):Nat→Int→(List AH)→(List Int)→b→Option (Bool×(List Int)×b)
 |0,_,_,_,_=>none
 |j+1,e,f,g,h=>cond (e==(f.length:Int)) ((c h g).bind fun i=>some ((i.1,g,i.2))) ((idx f e).bind fun k=>(Hv d k).bind fun l=>(Ee (DT d c j) e f l d (0:Int) g h).bind fun z=>Sum.elim (fun a=>some ((a.1,a.2.1,a.2.2))) (fun a=>some ((true,a.1,a.2))) z)
def Hx{a:Type}(c:Nat)(d:a→(List Int)→Option (Bool×a))(b:List AH)(e:a):Option (a):=
 (TJ (b.length:Int) 8).bind fun _=>(DT c d c 0 b (List.replicate (b.length:Int).toNat (0:Int)) e).bind fun f=>some (f.2.2)
def E6(b:Nat)(a:AS)(c:List Int):Option (AA):=
 (Ib b (⟨a.As,a.Ad,a.AJ⟩:Av) c).bind fun d=>some (((⟨0,0,0⟩:AA).cp d.1))
def DO(f:Nat)(d:AS)(a:List AA)(e:(List Int)):Option (Bool×(List AA)):=
 (F4 f (⟨d.As,d.Ad,d.AJ⟩:Av) e).bind fun g=>cond (!g) (some (true,a)) ((E6 f d e).bind fun b=>cond ((a.length:Int)==0) ((Hs (((a.length+[b].length:Nat):Int)≤140737488355328/24)).bind fun _=>some (true,a++[b])) ((i64 ((a.length:Int)-1)).bind fun _=>(idx a ((a.length:Int)-1)).bind fun c=>cond ([c.a0,c.a1,c.a2] !=[b.a0,b.a1,b.a2]) ((Hs (((a.length+[b].length:Nat):Int)≤140737488355328/24)).bind fun _=>some (true,a++[b])) (some (true,a))))
def GA(b:Nat)(c:AS):Option (Cf):=
 (Ed b c).bind fun a=>(Fi b c).bind fun e=>(Hx b (fun(st:(List AA)) (x:(List Int))=>DO b c st x) e ([]:List AA)).bind fun d=>some ((⟨a.AE,a.AF,a.AB,a.B6,a.AR,a.AY,a.Bf,a.weights,d,a.known⟩:Cf))
def Dv(c:Cf)(e:MH):Nat→Int→Int→Option (Int)
 |0,_,_=>none
 |g+1,b,a=>cond (decide (a<(c.AR.length:Int))) ((idx c.AR a).bind fun f=>cond (decide (f.BV≤e.Cy)) ((idx c.weights e.DE).bind fun d=>(i64 (f.C0*d)).bind fun _=>some (f.C0*d)) ((i64 (a+1)).bind fun _=>Dv c e g b (a+1))) (some (b))
def Fj(c:Nat)(b:Cf)(a:MH):Option (Int×(List (List Int×Int))):=
 cond (!((BO b.known [a.DE,a.Cy]).isSome)) ((Dv b a c ((BO b.known [a.DE,a.Cy]).getD 0) (0:Int)).bind fun z5=>some ((z5,EE b.known [a.DE,a.Cy] z5))) (some ((((BO b.known [a.DE,a.Cy]).getD 0),b.known)))
def Dg(i:Nat)(e:Cf)(g:AA):Nat→Int→Int→Int→Int→(List (List Int×Int))→Option (Int×Int×Int×(List (List Int×Int)))
 |0,_,_,_,_,_=>none
 |j+1,a,b,c,d,f=>cond (decide (a<(e.weights.length:Int))) ((idx ([g.a0,g.a1,g.a2]:List Int) a).bind fun k=>(Fj i (⟨e.AE,e.AF,e.AB,e.B6,e.AR,e.AY,e.Bf,e.weights,e.BL,f⟩:Cf) (⟨a,k⟩:MH)).bind fun h=>(idx ([b,c,d]:List Int) a).bind fun l=>(i64 (a+1)).bind fun _=>Dg i e g j (a+1) (((⟨b,c,d⟩:AA).set a.toNat h.1).a0) (((⟨b,c,d⟩:AA).set a.toNat h.1).a1) (((⟨b,c,d⟩:AA).set a.toNat h.1).a2) h.2) (some ((b,c,d,f)))
def ES(a:Nat)(b:Cf)(c:AA):Option (AA×(List (List Int×Int))):=
 (Dg a b c a (0:Int) (0:Int) (0:Int) (0:Int) b.known).bind fun z3=>some (((⟨z3.1,z3.2.1,z3.2.2.1⟩:AA),z3.2.2.2))
def Dw(c:Nat)(d:AS)(b:AA)(e:List Int):Nat→Int→Option ((Bool)⊕(Unit))
 |0,_=>none
 |g+1,a=>cond (decide (a<(d.BA.length:Int))) ((idx d.BA a).bind fun f=>(EM c e a).bind fun j=>cond (!j) ((idx ([b.a0,b.a1,b.a2]:List Int) f.BQ).bind fun h=>(Eu c (⟨f.C9,f.Da⟩:AH) h).bind fun i=>cond (!i) (some (.inl false)) ((i64 (a+1)).bind fun _=>Dw c d b e g (a+1))) ((i64 (a+1)).bind fun _=>Dw c d b e g (a+1))) (some (.inr ()))
def Ey(b:Nat)(c:AS)(d:AA)(e:List Int):Option (Bool):=
 (Dw b c d e b (0:Int)).bind fun z=>Sum.elim (fun a=>some (a)) (fun a=>some (true)) z
def Db{e:Type}(f:e→(AA×AA)→Option (Bool×e))(i:Nat)(a:Cf)(j:List Int):Nat→Int→(List (List Int×Int))→e→Option (((List (List Int×Int))×e)⊕((List (List Int×Int))×e))
 |0,_,_,_=>none
 |k+1,b,d,c=>cond (decide (b<(a.BL.length:Int))) ((idx a.BL b).bind fun l=>(ES i (⟨a.AE,a.AF,a.AB,a.B6,a.AR,a.AY,a.Bf,a.weights,a.BL,d⟩:Cf) l).bind fun g=>(Ey i (⟨a.AE,a.AF,a.AB,a.B6,a.AR,a.AY,a.Bf⟩:AS) g.1 j).bind fun m=>cond (m) ((f c (l,g.1)).bind fun h=>cond (!h.1) (some (.inl (g.2,h.2))) ((i64 (b+1)).bind fun _=>Db f i a j k (b+1) g.2 h.2)) ((i64 (b+1)).bind fun _=>Db f i a j k (b+1) g.2 c)) (some (.inr (d,c)))
def FD{b:Type}(c:Nat)(d:b→(AA×AA)→Option (Bool×b))(e:Cf)(f:List Int)(g:b):Option ((List (List Int×Int))×b):=
 (Db d c e f c (0:Int) e.known g).bind fun z=>Sum.elim (fun a=>some ((a.1,a.2))) (fun a=>some ((a.1,a.2))) z
def ET(a:Bool)(b:AA×AA):Option (Bool×(Bool×Bool)):=
 some (false,true,true)
def D0(b:Nat)(c:Cf)(d:List Int):Option (Bool×(List (List Int×Int))):=
 (FD b (fun(st:Bool×Bool) (x:AA×AA)=>cond st.2 none (ET st.1 x)) c d (false,false)).bind fun a=>cond (a.2.2) (some ((a.2.1,a.1))) (some ((false,a.1)))
def DH(c:Nat)(d:List Int)(b:(List AH)):Nat→Int→Option ((Bool)⊕(Unit))
 |0,_=>none
 |g+1,a=>cond (decide (a<(b.length:Int))) ((idx b a).bind fun h=>(idx d a).bind fun e=>(Eu c h e).bind fun f=>cond (!f) (some (.inl false)) ((i64 (a+1)).bind fun _=>DH c d b g (a+1))) (some (.inr ()))
def FW(b:Nat)(c:AS)(d:List Int):Option (Bool):=
 cond ((d.length:Int) !=(c.As.length:Int)) (some (false)) ((Fi b c).bind fun e=>(DH b d e b (0:Int)).bind fun z=>Sum.elim (fun a=>some (a)) (fun a=>some (true)) z)
def Hc(c:Nat)(b:AS)(d:List Int):Option ((List Int)×Int):=
 (FC c b).bind fun e=>cond (e !=0) (some ((([]:List Int),e))) ((FW c b d).bind fun h=>cond (!h) (some ((([]:List Int),2))) ((Ed c b).bind fun f=>(E6 c b d).bind fun g=>(ES c f g).bind fun a=>(QB [a.1.a0,a.1.a1,a.1.a2].length (0:Int) (b.Ad.length:Int)).bind fun _=>(Hs (((0+(Jm [a.1.a0,a.1.a1,a.1.a2] (0:Int) (b.Ad.length:Int)).length:Nat):Int)≤140737488355328/8)).bind fun _=>some ((Jm [a.1.a0,a.1.a1,a.1.a2] (0:Int) (b.Ad.length:Int),0))))
def EN(a:Nat)(b:AS)(e:Bool):Option ((Option Cf)×Int):=
 (FC a b).bind fun c=>cond (c !=0) (some (((none:Option Cf),c))) (cond (!e) (some (((none:Option Cf),2))) ((GA a b).bind fun d=>cond ((d.BL.length:Int)==0) (some (((none:Option Cf),11))) (some (((some d),0)))))
def Ez(c:Nat)(e:AS)(f:Bool):Option ((Option Cf)×Int):=
 (EN c e f).bind fun b=>Option.elim b.1 (cond (b.2 !=0) (some (((none:Option Cf),b.2))) (none)) (fun a=>cond (b.2 !=0) (some (((none:Option Cf),b.2))) ((D0 c a ([]:List Int)).bind fun d=>cond (!d.1) (some (((none:Option Cf),9))) (some (((some (⟨a.AE,a.AF,a.AB,a.B6,a.AR,a.AY,a.Bf,a.weights,a.BL,d.2⟩:Cf)),0)))))
def Cq{e:Type}(i:e→AA→Option (Int×e))(j:Nat)(c:Int)(d:Int)(a:Bool)(f:e)(k:AA×AA):Option (Bool×(Int×Int×Bool×e)):=
 (i f k.2).bind fun b=>cond (a) ((Fg j (⟨b.1,b.1⟩:AH) b.1).bind fun g=>some (true,g.Lo,g.Hi,false,b.2)) ((Fg j (⟨c,d⟩:AH) b.1).bind fun h=>some (true,h.Lo,h.Hi,a,b.2))
def EA{a:Type}(c:Nat)(d:a→AA→Option (Int×a))(e:Cf)(f:a):Option (AH×(List (List Int×Int))×a):=
 (FD c (fun(st:Int×Int×Bool×a) (x:AA×AA)=>Cq d c st.1 st.2.1 st.2.2.1 st.2.2.2 x) e ([]:List Int) ((0:Int),(0:Int),true,f)).bind fun b=>some (((⟨b.2.1,b.2.2.1⟩:AH),b.1,b.2.2.2.2))
def EU(c:Nat)(a:AA)(b:Int):Option (Int):=
 (idx ([a.a0,a.a1,a.a2]:List Int) b).bind fun x2=>some (x2)
def Ev(f:Nat)(b:Cf):Nat→(List AH)→Int→(List (List Int×Int))→Option ((List AH)×(List (List Int×Int)))
 |0,_,_,_=>none
 |g+1,d,a,c=>cond (decide (a<(b.weights.length:Int))) ((EA f (fun(st:Unit) (x:AA)=>(EU f x a).bind fun r=>some (r,())) (⟨b.AE,b.AF,b.AB,b.B6,b.AR,b.AY,b.Bf,b.weights,b.BL,c⟩:Cf) ()).bind fun e=>(Hs (((d.length+[e.1].length:Nat):Int)≤140737488355328/16)).bind fun _=>(i64 (a+1)).bind fun _=>Ev f b g (d++[e.1]) (a+1) e.2.1) (some ((d,c)))
def Gi(b:Nat)(d:AS):Option ((List AH)×Int):=
 (Ez b d true).bind fun a=>Option.elim a.1 (cond (a.2 !=0) (some ((([]:List AH),a.2))) (none)) (fun c=>cond (a.2 !=0) (some ((([]:List AH),a.2))) ((Ev b c b ([]:List AH) (0:Int) c.known).bind fun e=>some ((e.1,0))))
def CY(e:Nat)(d:AA)(c:Cf)(f:List Int):Nat→Int→Int→Option (Int)
 |0,_,_=>none
 |h+1,b,a=>cond (decide (a<(c.weights.length:Int))) ((idx c.weights a).bind fun g=>(EM e f a).bind fun j=>cond (j) ((idx ([d.a0,d.a1,d.a2]:List Int) a).bind fun i=>(i64 (b+i)).bind fun _=>(i64 (a+1)).bind fun _=>CY e d c f h (b+i) (a+1)) ((i64 (g*c.B6)).bind fun _=>(i64 (b+(g*c.B6))).bind fun _=>(i64 (a+1)).bind fun _=>CY e d c f h (b+(g*c.B6)) (a+1))) (some (b))
def DJ(a:Nat)(b:AA)(c:Cf)(d:List Int):Option (Int):=
 (CY a b c d a (0:Int) (0:Int)).bind fun z2=>some (z2)
def EV(a:Nat)(b:Cf)(d:List Int):Option (AH×(List (List Int×Int))):=
 (EA a (fun(st:Unit) (x:AA)=>(DJ a x b d).bind fun r=>some (r,())) b ()).bind fun c=>some ((c.1,c.2.1))
end Go.Proofs.YtcdofnchafcfpaaGreat
end
