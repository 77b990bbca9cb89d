import Derived.WalkKit
import Derived.KernelRfl
import Derived.WalkSpells
import Derived.WalkLawsBesides
import Derived.Maps.AppendAt
import Derived.OrdersIn
import Derived.RangeFuncIn
import Derived.RangeFuncLeaves
import Derived.RangeFuncRecord
import Derived.RangeFuncSeq
import Derived.Scope
import Derived.DeepKeys3
import Derived.Laws.CopyRow
import Derived.Laws.OwnMore
import Derived.Laws.MakeOwn
import Derived.Laws.IdiomCopy
import Derived.Sort.OwnSortedInts
import Derived.Lib.RowBridge
/-
  The contracts of the functions of the program and of the reference, and the logic that they are proved in: the base that several claims of this seat share.
-/
set_option linter.all false
section
namespace Go.Proofs.YtamobliaoknclaaGreat
open Go.RowKit
abbrev Env:=List (Nat×Value)
def Cl(a:Act):Env→Act
 |[]=>a
 |(d,v)::l=>(Cl a l).put (some d) v
def sl(a:Act)(s:Nat):Value:=a.tmps.getD s undef
def lk(b:Value):Env→Nat→Value
 |[],_=>b
 |(d,v)::l,s=>match Nat.beq d s with|true=>v|false=>lk b l s
def ev(a:Act)(l:Env):Operand→Value
 |.tmp t=>lk (sl a t) l t
 |.const v=>v
 |.global g=>.pointer (some ⟨g,0,none⟩)
 |.func f=>.func (.func f) #[] #[]
structure Ctx where
 ro:Option Nat
 ds:List Deferred
abbrev X0:Ctx:=⟨none,[]⟩
def Wd:Option Nat→Fence
 |none=>Fence.wide
 |some r=>Fence.wide.inRound r
theorem NH(ro:Option Nat)(f:FuncId):(Wd ro).fn f:=by cases ro<;>trivial
theorem TG(ro:Option Nat):(Wd ro).depth=none:=by cases ro<;>rfl
theorem TH(ro:Option Nat){n:Nat}:(Wd ro).depth.isSome=true→1≤n:=fun h=>by rw[TG] at h;cases h
structure St(X:Ctx)(N:Nat)(a:Act)(l:Env):Prop where
 sz:a.tmps.size=N
 df:a.defers=X.ds
 lt:∀p∈l,p.1<N
theorem JB(a:Act)(l:Env):(Cl a l).tmps.size=a.tmps.size:=by
 induction l with
 |nil=>rfl
 |cons p l ih=>simp[Cl,Act.put,ih]
theorem Ev(a:Act)(l:Env):(Cl a l).defers=a.defers:=by
 induction l with
 |nil=>rfl
 |cons p l ih=>simp[Cl,Act.put,ih]
theorem St.cons{X:Ctx}{N:Nat}{a:Act}{l:Env}(h:St X N a l){d:Nat}(c:d<N)(v:Value):St X N a ((d,v)::l):=
 ⟨h.sz,h.df,fun p b=>by
  rcases List.mem_cons.1 b with rfl|b
  ·exact c
  ·exact h.lt p b⟩
theorem J6{X:Ctx}{N:Nat}{a:Act}:∀{l:Env},St X N a l→∀s,sl (Cl a l) s=lk (sl a s) l s
 |[],_,_=>rfl
 |(d,v)::l,h,s=>by
  have e:St X N a l:=⟨h.sz,h.df,fun p f=>h.lt p (List.mem_cons_of_mem _ f)⟩;have ih:=J6 e s;have g:d<N:=h.lt (d,v) (List.mem_cons_self ..);unfold sl at*;simp only[Cl,Act.put,lk];cases b:Nat.beq d s with
  |true=>
   obtain rfl:d=s:=Nat.eq_of_beq_eq_true b;simp[JB,h.sz,g]
  |false=>
   have c:d≠s:=Nat.ne_of_beq_eq_false b;rw[←ih];simp[Array.getElem?_setIfInBounds_ne c]
theorem UU{X:Ctx}{N:Nat}{a:Act}{l:Env}(h:St X N a l)(x:Operand):(Cl a l).eval x=ev a l x:=by
 cases x with
 |tmp t=>exact J6 h t
 |_=>rfl
theorem ee{X:Ctx}{N:Nat}{a:Act}{l:Env}{x:Operand}{v:Value}(h:St X N a l)(b:ev a l x=v):(Cl a l).eval x=v:=(UU h x).trans b
def B7 (P:Program) (o:Oper) (a:Act) (w:World) (R:Value→World→Prop):Prop:=
 match (execOp a.eval o).run P w with
 |.ok (.value v) w'=>R v w'
 |.ok .skip w'=>R undef w'
 |.ok (.enter f args) w'=>Calls P f args w' (fun e Bc=>∃v,e=.returned v∧R v Bc)
 |.ok (.round l f tmps assign body) w'=>RoundIn Fence.wide 0 P l f tmps assign body w' (fun e Bc=>∃v,e=.returned v∧R v Bc)
 |_=>False
theorem B7.UW{P:Program}{o:Oper}{a:Act}{w:World}{R:Value→World→Prop}(h:B7 P o a w R):∀c,o.op≠.defer c:=by
 intro c b;unfold B7 at h;have he:execOp a.eval o=(do pure (.defer (←resolve a.eval c o.type))):=by
  unfold execOp;rw[b]
 rw[he,Sem.run_bind] at h;cases d:(resolve a.eval c o.type).run P w<;>simp[d,Result.andThen] at h
theorem B7.wp{P:Program}{ro:Option Nat}{o:Oper}{a:Act}{w:World}{R:Value→World→Prop}{K:Act→World→Prop}{Q:Exit→Act→World→Prop}
  (h:B7 P o a w R)(b:∀v w',R v w'→K (a.put o.dst v) w'):o.wpIn (Wd ro) 0 P a w K Q:=by
 refine⟨fun f _=>NH ro f,?_⟩;rw[Oper.semAt_eq _ _ _ h.UW];unfold B7 at h;generalize (execOp a.eval o).run P w=r at*;cases r with
 |ok n w'=>
  cases n<;>simp only[Oper.uponIn] at h⊢
  case value=>exact b _ _ h
  case skip=>exact b _ _ h
  case enter f args=>
   refine⟨TH ro,?_⟩;have c:CallsIn Fence.wide (0-1) P f args w' (fun e Bc=>∃v,e=.returned v∧R v Bc):=callsIn_wide.2 h;have g:CallsIn (Wd ro) (0-1) P f args w' (fun e Bc=>∃v,e=.returned v∧R v Bc):=by cases ro<;>exact c
   refine g.mono ?_;rintro e Bc ⟨v,rfl,d⟩;exact b _ _ d
  case round l f tmps assign body=>
   refine⟨TH ro,?_⟩;have c:RoundIn (Wd ro) (0-1) P l f tmps assign body w' (fun e Bc=>∃v,e=.returned v∧R v Bc):=by cases ro<;>exact h
   refine c.mono ?_;rintro e Bc ⟨v,rfl,d⟩;exact b _ _ d
 |halt=>exact h.elim
theorem B7.mono{P:Program}{o:Oper}{a:Act}{w:World}{R R':Value→World→Prop}(h:B7 P o a w R)(b:∀v w',R v w'→R' v w'):B7 P o a w R':=by
 unfold B7 at*;generalize (execOp a.eval o).run P w=r at*;cases r with
 |ok n w'=>
  cases n<;>simp only[] at h⊢
  case value=>exact b _ _ h
  case skip=>exact b _ _ h
  case enter f args=>
   refine h.mono ?_;rintro e Bc ⟨v,rfl,c⟩;exact⟨v,rfl,b _ _ c⟩
  case round=>
   refine h.mono ?_;rintro e Bc ⟨v,rfl,c⟩;exact⟨v,rfl,b _ _ c⟩
 |halt=>exact h.elim
def WL(P:Program)(X:Ctx)(N:Nat)(ops:Array Oper)(Q:Exit→Act→World→Prop)(rest:List Oper)(a:Act)(l:Env)(w:World):Prop:=
 St X N a l→wpListIn (Wd X.ro) 0 P ops Q rest (Cl a l) w
section
variable{P:Program}{X:Ctx}{N:Nat}{ops:Array Oper}{Q:Exit→Act→World→Prop}{rest:List Oper}{a:Act}{l:Env}{w:World}{o:Oper}
theorem Uu{R:Value→World→Prop}{d:Nat}(b:o.guard=none)(c:o.dst=some d)(e:d<N)
  (f:St X N a l→B7 P o (Cl a l) w R)(g:∀v w',R v w'→WL P X N ops Q rest a ((d,v)::l) w'):WL P X N ops Q (o::rest) a l w:=fun s=>
 wpListIn_plain b fun K hK=>(f s).wp fun v w' h=>hK _ _ (by rw[c];exact g v w' h (s.cons e v))
theorem BC{R:Value→World→Prop}(b:o.guard=none)(c:o.dst=none)
  (d:St X N a l→B7 P o (Cl a l) w R)(e:∀v w',R v w'→WL P X N ops Q rest a l w'):WL P X N ops Q (o::rest) a l w:=fun s=>
 wpListIn_plain b fun K hK=>(d s).wp fun v w' f=>hK _ _ (by rw[c];exact e v w' f s)
theorem WM {d:Nat} {v:Value} {w':World} (b:o.guard=none) (c:o.dst=some d) (e:d<N)
  (f:St X N a l→B7 P o (Cl a l) w (fun u Bc=>u=v∧Bc=w')) (g:WL P X N ops Q rest a ((d,v)::l) w'):WL P X N ops Q (o::rest) a l w:=
 Uu b c e f (by rintro _ _ ⟨rfl,rfl⟩;exact g)
theorem NI{j d:Nat}{b:Bool}(s:St X N a l)(f:(ops[j]?).bind (·.dst)=some d)(g:ev a l (.tmp d)=.bool b):yielded ops (Cl a l).tmps j=some b:=by
 have h:=ee s g;unfold yielded;simp only[f,Option.bind_some];have c:(Cl a l).tmps.getD d undef=.bool b:=h;rw[Array.getD_eq_getD_getElem?] at c;cases e:(Cl a l).tmps[d]? with
 |none=>rw[e] at c;simp[undef] at c
 |some u=>rw[e] at c;simp at c;rw[c]
theorem Gc {R:Value→World→Prop} {d j dj:Nat} {b:Bool} (c:o.guard=some (j,b)) (e:(ops[j]?).bind (·.dst)=some dj) (f:ev a l (.tmp dj)=.bool b)
  (g:o.dst=some d) (h:d<N) (i:St X N a l→B7 P o (Cl a l) w R) (k:∀v w',R v w'→WL P X N ops Q rest a ((d,v)::l) w'):WL P X N ops Q (o::rest) a l w:=fun s=>by
 have hw:Region.wanted o (yielded ops (Cl a l).tmps)=true:=by
  unfold Region.wanted;rw[c];simp[NI s e f]
 exact wpListIn_step fun K hK=>by rw[if_pos hw];exact(i s).wp fun v w' m=>hK _ _ (by rw[g];exact k v w' m (s.cons h v))
theorem BK{d j dj:Nat}{b:Bool}{v:Value}{w':World}(c:o.guard=some (j,b))(e:(ops[j]?).bind (·.dst)=some dj)(f:ev a l (.tmp dj)=.bool b)
  (g:o.dst=some d)(h:d<N)(i:St X N a l→B7 P o (Cl a l) w (fun u Bc=>u=v∧Bc=w'))(k:WL P X N ops Q rest a ((d,v)::l) w'):WL P X N ops Q (o::rest) a l w:=
 Gc c e f g h i (by rintro _ _ ⟨rfl,rfl⟩;exact k)
theorem Bm {d j dj:Nat} {b c:Bool} (e:o.guard=some (j,b)) (g:(ops[j]?).bind (·.dst)=some dj) (h:ev a l (.tmp dj)=.bool c) (i:c≠b)
  (k:o.dst=some d) (m:d<N) (n:WL P X N ops Q rest a ((d,undef)::l) w):WL P X N ops Q (o::rest) a l w:=fun s=>by
 have hw:Region.wanted o (yielded ops (Cl a l).tmps)=false:=by
  unfold Region.wanted;rw[e];simp[NI s g h,i]
 exact wpListIn_step fun K hK=>by rw[if_neg (by rw[hw];simp)];exact⟨fun f _=>NH X.ro f,hK _ _ (by rw[k];exact n (s.cons m undef))⟩
theorem DA {d j dj:Nat} {b:Bool} (e:o.guard=some (j,b)) (g:(ops[j]?).bind (·.dst)=some dj) (i:ev a l (.tmp dj)=undef)
  (k:o.dst=some d) (m:d<N) (n:WL P X N ops Q rest a ((d,undef)::l) w):WL P X N ops Q (o::rest) a l w:=fun s=>by
 have hw:Region.wanted o (yielded ops (Cl a l).tmps)=false:=by
  have h:=ee s i;have p:yielded ops (Cl a l).tmps j=none:=by
   unfold yielded;simp only[g,Option.bind_some];have c:(Cl a l).tmps.getD dj undef=undef:=h;rw[Array.getD_eq_getD_getElem?] at c;cases q:(Cl a l).tmps[dj]? with
   |none=>rfl
   |some u=>rw[q] at c;simp at c;rw[c];rfl
  unfold Region.wanted;rw[e];simp[p]
 exact wpListIn_step fun K hK=>by rw[if_neg (by rw[hw];simp)];exact⟨fun f _=>NH X.ro f,hK _ _ (by rw[k];exact n (s.cons m undef))⟩
end
def CW(P:Program)(ro:Option Nat)(c:Code)(Q:Exit→Act→World→Prop)(a:Act)(w:World):Prop:=c.wpIn (Wd ro) 0 P Q a w
def CC(P:Program)(X:Ctx)(N:Nat)(c:Code)(Q:Exit→Act→World→Prop)(a:Act)(l:Env)(w:World):Prop:=
 St X N a l→CW P X.ro c Q (Cl a l) w
section
variable{P:Program}{X:Ctx}{N:Nat}{Q:Exit→Act→World→Prop}{a:Act}{l:Env}{w:World}
def LV (X:Ctx) (N:Nat) (Q:Exit→Act→World→Prop) (e:Exit) (a:Act) (l:Env) (w:World):Prop:=St X N a l→Q e (Cl a l) w
theorem Ah{x y:Code}(h:CC P X N x (Exit.then (CW P X.ro y Q) Q) a l w):CC P X N (.seq x y) Q a l w:=fun s=>wpIn_seq (h s)
theorem Aj{id:Nat}{L:List Oper}(h:WL P X N L.toArray Q L a l w):CC P X N (.region id L.toArray false) Q a l w:=fun s=>wpIn_region_lit (h s)
theorem AJ{ops:Array Oper}(h:LV X N Q .normal a l w):WL P X N ops Q [] a l w:=fun s=>wpListIn_nil (h s)
theorem B5(h:LV X N Q .normal a l w):CC P X N .skip Q a l w:=fun s=>wpIn_skip (h s)
theorem MD{id:Nat}(h:LV X N Q (.exit id) a l w):CC P X N (.exit id) Q a l w:=fun s=>wpIn_exit (h s)
theorem Ap(h:LV X N Q .ret a l w):CC P X N .ret Q a l w:=fun s=>wpIn_ret (h s)
theorem AX{id:Nat}{c:Code}(h:CC P X N c (Exit.inBlock id Q) a l w):CC P X N (.block id c) Q a l w:=fun s=>wpIn_block (h s)
theorem Aw{c:Operand}{x y:Code}{t:Bool}(b:ev a l c=.bool t)(h:t=true)(d:CC P X N x Q a l w):CC P X N (.cond c x y) Q a l w:=fun s=>wpIn_cond_true (by rw[ee s b,h]) (d s)
theorem AI{c:Operand}{x y:Code}{t:Bool}(b:ev a l c=.bool t)(h:t=false)(d:CC P X N y Q a l w):CC P X N (.cond c x y) Q a l w:=fun s=>wpIn_cond_false (by rw[ee s b,h]) (d s)
theorem AL {y:Code} (h:CC P X N y Q a l w):LV X N (Exit.then (CW P X.ro y Q) Q) .normal a l w:=fun s=>h s
theorem Gv{K:Act→World→Prop}{id:Nat}(h:LV X N Q (.exit id) a l w):LV X N (Exit.then K Q) (.exit id) a l w:=h
theorem AZ{K:Act→World→Prop}(h:LV X N Q .ret a l w):LV X N (Exit.then K Q) .ret a l w:=h
theorem Da{id:Nat}(h:LV X N Q .normal a l w):LV X N (Exit.inBlock id Q) .normal a l w:=h
theorem CB{id:Nat}(h:LV X N Q .ret a l w):LV X N (Exit.inBlock id Q) .ret a l w:=h
theorem BE{id:Nat}(h:LV X N Q .normal a l w):LV X N (Exit.inBlock id Q) (.exit id) a l w:=fun s=>by
 show(if id=id then Q .normal _ _ else Q (.exit id) _ _);rw[if_pos rfl];exact h s
theorem Sv {c:Code} (I:Nat→Act→World→Prop) (m:Nat) (h0:I m a w)
  (u:∀m a w,I m a w→CW P X.ro c (Exit.then (fun a' w'=>∃j,j<m∧I j a' w') Q) a w):CW P X.ro (Code.loop c) Q a w:=by
 intro b k cs q p i;have key:∀n a w,I n a w→∃e a' w',Q e a' w'∧ArrivesIn (Machine.fenced P (Wd X.ro)) P (lone (b.atR a (.code c::.inLoop c::k)) cs w) b k cs e a' w':=by
  intro n
  induction n using Nat.strongRecOn with
  |_ n ih=>
   intro a w v;obtain⟨e,g,h,f,d⟩:=u n a w v b (.inLoop c::k) cs q p i;cases e with
   |normal=>
    obtain⟨j,r,s⟩:=f;obtain⟨y,z,aA,t,o⟩:=ih j r g h s;exact⟨y,z,aA,t,.of_steps (StepsIn.trans d (.one (fenced_calm p i rfl) stepR_inLoop)) o⟩
   |exit id=>exact⟨_,g,h,f,.pass (x:=.inLoop c) rfl (fun _ _=>.inl (by simp)) d⟩
   |goto l=>exact⟨_,g,h,f,.pass (x:=.inLoop c) rfl (fun _ _=>.inl (by simp)) d⟩
   |ret=>exact⟨_,g,h,f,.pass (x:=.inLoop c) rfl (fun _ _=>.inl (by simp)) d⟩
   |panic ch=>exact⟨_,g,h,f,.pass (x:=.inLoop c) rfl (fun _ _=>.inl (by simp)) d⟩
   |outgrown=>exact⟨_,g,h,f,.pass (x:=.inLoop c) rfl (fun _ _=>.inl (by simp)) d⟩
 obtain⟨e,a',w',f,d⟩:=key m a w h0;exact⟨e,a',w',f,.of_steps (.one (fenced_calm p i rfl) stepR_loop) d⟩
theorem Cn{c:Code}(I:Nat→Act→World→Prop)(m:Nat)(h0:St X N a l→I m (Cl a l) w)
  (d:∀m a w,I m a w→CW P X.ro c (Exit.then (fun a' w'=>∃b,b<m∧I b a' w') Q) a w):CC P X N (.loop c) Q a l w:=fun s=>
 Sv I m (h0 s) d
theorem Lg {c:Code} (b:a.tmps.size=N) (d:a.defers=X.ds) (h:CC P X N c Q a [] w):CW P X.ro c Q a w:=
 h ⟨b,d,fun _ e=>by cases e⟩
theorem BN{I:Nat→Act→World→Prop}{m:Nat}(b:Nat)(c:b<m)(h:St X N a l→I b (Cl a l) w):LV X N (Exit.then (fun a' w'=>∃b,b<m∧I b a' w') Q) .normal a l w:=
 fun s=>⟨b,c,h s⟩
end
def Bk (w:World) (b:Nat) (t:TypeId) (cs:Array Value):Prop:=w.heap[b]?=some (.cells cs t (0,0))
abbrev Ext (w w':World):Prop:=w.grownBy w' none
abbrev HV (b:Nat) (w w':World):Prop:=w.grownBy w' (some b)
structure KK(w w':World)(b:Nat)(t:TypeId)(cs:Array Value):Prop where
 EZ:b=w.heap.size
 sz:w'.heap.size=b+1
 bk:Bk w' b t cs
 gr:Ext w w'
structure TI(w w':World)(b:Nat)(t:TypeId)(cs:Array Value):Prop where
 sz:w'.heap.size=w.heap.size
 bk:Bk w' b t cs
 gr:HV b w w'
section
variable{w w':World}{b b':Nat}{t:TypeId}{cs:Array Value}
theorem Bk.lt(h:Bk w b t cs):b<w.heap.size:=lt_of_block h
theorem Bk.cell(h:Bk w b t cs)(i:Nat):w.cell? ⟨b,i,none⟩=cs[i]?:=cell_of_row w b i cs t (0,0) h
theorem Bk.frozen(h:Bk w b t cs)(i:Nat):w.frozen? ⟨b,i,none⟩=false:=frozen_of_row w b i cs t h
theorem Bk.ext(h:Bk w b t cs)(g:Ext w w'):Bk w' b t cs:=(g.block b h.lt (by simp)).trans h
theorem Bk.Pv(h:Bk w b t cs)(g:HV b' w w')(a:b≠b'):Bk w' b t cs:=(g.block b h.lt (by simpa using a)).trans h
theorem Sw{B:Nat}{w0:World}(h:Below B w0 w)(g:Ext w w')(a:B≤w.heap.size):Below B w0 w':=h.grown g a (by simp)
theorem Sx{B:Nat}{w0:World}(h:Below B w0 w)(g:HV b w w')(a:B≤w.heap.size)(c:B≤b):Below B w0 w':=
 h.grown g a (fun k d=>by cases d;exact c)
theorem Pw(h:Below w.heap.size w w'):Ext w w':=⟨h.os,h.tape,h.output,h.size,fun k a _=>h.block k a⟩
theorem LU(h:Ext w w'):Below w.heap.size w w':=⟨h.os,h.tape,h.output,h.size,fun k a=>h.block k a (by simp)⟩
theorem Ext.refl(w:World):Ext w w:=World.grownBy.refl w _
theorem Ext.trans{a b c:World}(h:Ext a b)(k:Ext b c):Ext a c:=World.grownBy.trans h k
theorem JV(w:World)(t:TypeId)(cs:Array Value):KK w (w.alloc (.cells cs t)) w.heap.size t cs:=
 ⟨rfl,by simp,heap_alloc_new w _,World.grownBy_alloc w _ _⟩
def Rd (w:World) (lo hi:Nat) (A:Option Addr) (cs:List Value):Prop:=
 hi≤w.heap.size∧(cs=[]∨∃b o,A=some ⟨b,o,none⟩∧lo≤b∧b<hi∧∀j u,cs[j]?=some u→w.cell? ⟨b,o+j,none⟩=some u)
section
variable{lo hi:Nat}{A:Option Addr}{cs:List Value}
theorem Rd.le(h:Rd w lo hi A cs):hi≤w.heap.size:=h.1
theorem Rd.ext(h:Rd w lo hi A cs)(g:Ext w w'):Rd w' lo hi A cs:=
 ⟨Nat.le_trans h.1 g.size,h.2.imp id fun⟨b,o,d,e,c,f⟩=>⟨b,o,d,e,c,fun j u hu=>
  (World.cell?_of_block (a:=⟨b,o+j,none⟩) (g.block b (Nat.lt_of_lt_of_le c h.1) (by simp))).trans (f j u hu)⟩⟩
theorem Rd.Pv(h:Rd w lo hi A cs)(g:HV b' w w')(i:b'<lo∨hi≤b'):Rd w' lo hi A cs:=
 ⟨Nat.le_trans h.1 g.size,h.2.imp id fun⟨b,o,d,e,c,f⟩=>⟨b,o,d,e,c,fun j u hu=>
  (World.cell?_of_block (a:=⟨b,o+j,none⟩) (g.block b (Nat.lt_of_lt_of_le c h.1) (by simp;omega))).trans (f j u hu)⟩⟩
theorem Rd.mono{c a:Nat}(h:Rd w lo hi A cs)(g:c≤lo)(i:hi≤a)(d:a≤w.heap.size):Rd w c a A cs:=
 ⟨d,h.2.imp id fun⟨b,o,e,j,k,f⟩=>⟨b,o,e,by omega,by omega,f⟩⟩
theorem Rd.wide(h:Rd w lo hi A cs):Rd w 0 w.heap.size A cs:=h.mono (Nat.zero_le _) h.le (Nat.le_refl _)
theorem Rd.nil{A:Option Addr}(a:hi≤w.heap.size):Rd w lo hi A []:=⟨a,.inl rfl⟩
theorem Rd.cells(h:Rd w lo hi A cs){b o:Nat}(c:A=some ⟨b,o,none⟩):∀j u,cs[j]?=some u→w.cell? ⟨b,o+j,none⟩=some u:=by
 rcases h.2 with rfl|⟨b',o',a,_,_,d⟩
 ·simp
 ·rw[c] at a;injection a with a
  injection a with e f
  subst e;subst f;exact d
theorem Rd.at_ (h:Rd w lo hi A cs) {k:Nat} {u:Value} (hu:cs[k]?=some u):∃b o,A=some ⟨b,o,none⟩∧lo≤b∧b<hi∧∀j u,cs[j]?=some u→w.cell? ⟨b,o+j,none⟩=some u:=by
 rcases h.2 with rfl|h
 ·simp at hu
 ·exact h
end
end
section
variable{P:Program}{a:Act}{w:World}{dst:Option Tmp}{ty:TypeId}{pos:String}{B6:Array Edge}{g:Option (Nat×Bool)}
theorem CA{o:Oper}{v:Value}{w':World}(h:(execOp a.eval o).run P w=.ok (.value v) w'):B7 P o a w (fun u Bc=>u=v∧Bc=w'):=by
 unfold B7;rw[h];exact⟨rfl,rfl⟩
theorem Ay{x:Operand}{v:Value}(b:a.eval x=v):B7 P ⟨dst,.move x,ty,pos,B6,g⟩ a w (fun u w'=>u=v∧w'=w):=⟨b,rfl⟩
theorem Nl{x:Operand}{v:Value}(b:a.eval x=v):B7 P ⟨dst,.assign x,ty,pos,B6,g⟩ a w (fun u w'=>u=v∧w'=w):=⟨b,rfl⟩
theorem AH{c x y:Operand}{t:Bool}{v:Value}(b:a.eval c=.bool t)(d:t=true)(e:a.eval x=v):B7 P ⟨dst,.pick c x y,ty,pos,B6,g⟩ a w (fun u w'=>u=v∧w'=w):=
 CA (by subst d;simp[execOp,b,asBool,e])
theorem AO{c x y:Operand}{t:Bool}{v:Value}(b:a.eval c=.bool t)(d:t=false)(e:a.eval y=v):B7 P ⟨dst,.pick c x y,ty,pos,B6,g⟩ a w (fun u w'=>u=v∧w'=w):=
 CA (by subst d;simp[execOp,b,asBool,e])
theorem Ch{e:TypeId}{z:Value}{cs:Array Value}(d:(P.info? e).bind (·.zero)=some z)(f:z.cells=cs):
  B7 P ⟨dst,.alloc e,ty,pos,B6,g⟩ a w (fun u w'=>∃b,u=.pointer (some ⟨b,0,none⟩)∧KK w w' b e cs):=by
 have h:(Instr.alloc e true (.tuple #[])).run P w=.ok (.pointer (some ⟨w.heap.size,0,none⟩)) (w.alloc (.cells cs e)):=by
  obtain⟨i,hi,c⟩:=Option.bind_eq_some_iff.1 d;simp[Instr.alloc,zeroValue,typeInfo,hi,c,newVar,newRow,newObj,program,Sem.run,f]
 unfold B7;simp only[execOp,Sem.run_bind,h,Result.andThen_ok,Sem.run_pure];exact⟨_,rfl,JV w e cs⟩
theorem BQ{e:TypeId}{x:Operand}{v:Value}{cs:Array Value}(c:a.eval x=v)(d:v.cells=cs):
  B7 P ⟨dst,.box e x,ty,pos,B6,g⟩ a w (fun u w'=>∃b,u=.pointer (some ⟨b,0,none⟩)∧KK w w' b e cs):=by
 have h:(Instr.box e (a.eval x)).run P w=.ok (.pointer (some ⟨w.heap.size,0,none⟩)) (w.alloc (.cells cs e)):=by
  simp[Instr.box,newVar,newRow,newObj,Sem.run,c,d]
 unfold B7;simp only[execOp,Sem.run_bind,h,Result.andThen_ok,Sem.run_pure];exact⟨_,rfl,JV w e cs⟩
theorem JW{o:Oper}{S:Sem Value}{v:Value}{w':World}(b:execOp a.eval o=(do pure (.value (←S))))(h:S.run P w=.ok v w'):B7 P o a w (fun u Bc=>u=v∧Bc=w'):=
 CA (by rw[b];simp[h])
theorem Dj{t:TypeId}{ps:Array (Nat×Operand)}{vs:Array (Nat×Value)}{v:Value}(b:ps.map (fun(i,x)=>(i,a.eval x))=vs)(h:(Instr.build t vs).run P w=.ok v w):
  B7 P ⟨dst,.build t ps,ty,pos,B6,g⟩ a w (fun u w'=>u=v∧w'=w):=JW (S:=Instr.build t vs) (by simp only[execOp];rw[b]) h
theorem Cw{t e:TypeId}{n:Nat}{ps:Array (Nat×Operand)}{vs:Array (Nat×Value)}{cs:Array Value}(c:ps.map (fun(i,x)=>(i,a.eval x))=vs)
  (h:(Instr.buildSlice t n vs).run P w=.ok (.slice (some ⟨w.heap.size,0,none⟩) n n) (w.alloc (.cells cs e))):
  B7 P ⟨dst,.buildSlice t n ps,ty,pos,B6,g⟩ a w (fun u w'=>∃b,u=.slice (some ⟨b,0,none⟩) n n∧KK w w' b e cs):=
 (JW (S:=Instr.buildSlice t n vs) (by simp only[execOp];rw[c]) h).mono fun u w' ⟨hu,hw⟩=>⟨_,hu,by rw[hw];exact JV w e cs⟩
def EK(P:Program)(t:TypeId)(n:Nat):Prop:=(match P.underlying t with|some (.struct _)|some (.array ..)=>true|_=>false)=true∧(P.info? t).map (·.size)=some n
def One(P:Program)(t:TypeId):Prop:=(match P.underlying t with|some (.struct _)|some (.array ..)|none=>false|_=>true)=true∧(P.info? t).map (·.size)=some 1
theorem QR{t:TypeId}{n:Nat}(h:EK P t n):(isAgg t).run P w=.ok true w:=by
 unfold isAgg;cases hu:P.underlying t with
 |none=>simp[EK,hu] at h
 |some d=>cases d<;>simp[EK,hu] at h<;>simp[underlying,program,Sem.run,hu]
theorem KL{t:TypeId}(h:One P t):(isAgg t).run P w=.ok false w:=by
 unfold isAgg;cases hu:P.underlying t with
 |none=>simp[One,hu] at h
 |some d=>cases d<;>simp[One,hu] at h<;>simp[underlying,program,Sem.run,hu]
theorem Kf{t:TypeId}{n:Nat}(h:(P.info? t).map (·.size)=some n):(sizeOf t).run P w=.ok n w:=by
 obtain⟨i,hi,a⟩:=Option.map_eq_some_iff.1 h;simp[sizeOf,typeInfo,program,Sem.run,hi,a]
theorem GK(b o j:Nat):(⟨b,o,none⟩:Addr).add j=⟨b,o+j,none⟩:=by unfold Addr.add;split<;>simp_all
theorem JC{t:TypeId}{ad:Addr}{v:Value}(h:One P t)(a:w.cell? ad=some v):(loadVar t ad).run P w=.ok v w:=by
 simp[loadVar,KL h,load,Sem.run,a]
theorem LW{t:TypeId}{n b o:Nat}{cs:List Value}(h:EK P t n)(a:cs.length=n)(c:∀j u,cs[j]?=some u→w.cell? ⟨b,o+j,none⟩=some u):(loadVar t ⟨b,o,none⟩).run P w=.ok (.agg cs.toArray) w:=by
 have d:=run_loadCells_list (P:=P) (w:=w) ⟨b,o,none⟩ cs (fun j v e=>by rw[GK];exact c j v e);subst a;simp[loadVar,QR h,Kf h.2,d]
theorem NJ{t:TypeId}{x:Operand}{ad:Addr}{v:Value}(b:a.eval x=.pointer (some ad))(h:(loadVar t ad).run P w=.ok v w):B7 P ⟨dst,.load t x,ty,pos,B6,g⟩ a w (fun u w'=>u=v∧w'=w):=
 JW (S:=Instr.loadAt t (a.eval x)) rfl (by simp[Instr.loadAt,Instr.sureAddr,b,h])
theorem Ag {t c:TypeId} {x:Operand} {b o:Nat} {cs:Array Value} {v:Value} (h:One P t) (d:a.eval x=.pointer (some ⟨b,o,none⟩)) (e:Bk w b c cs) (f:cs.toList[o]?=some v):
  B7 P ⟨dst,.load t x,ty,pos,B6,g⟩ a w (fun u w'=>u=v∧w'=w):=NJ d (JC h ((e.cell o).trans (by simpa using f)))
theorem AU {t c:TypeId} {x:Operand} {n b o:Nat} {cs:Array Value} {l:List Value} (h:EK P t n) (d:a.eval x=.pointer (some ⟨b,o,none⟩)) (e:Bk w b c cs) (f:(cs.toList.drop o).take n=l) (i:l.length=n):
  B7 P ⟨dst,.load t x,ty,pos,B6,g⟩ a w (fun u w'=>u=.agg l.toArray∧w'=w):=NJ d (LW h i fun j u hu=>by
 rw[e.cell];subst f;rw[List.getElem?_take] at hu;split at hu
 ·simpa using hu
 ·cases hu)
theorem OO {t:TypeId} {x:Operand} {b o k:Nat} {cs:List Value} {v:Value} (h:One P t) (c:a.eval x=.pointer (some ⟨b,o+k,none⟩)) (d:∀j u,cs[j]?=some u→w.cell? ⟨b,o+j,none⟩=some u) (e:cs[k]?=some v):
  B7 P ⟨dst,.load t x,ty,pos,B6,g⟩ a w (fun u w'=>u=v∧w'=w):=NJ c (JC h (d k v e))
theorem NK {t:TypeId} {x:Operand} {n b o k:Nat} {cs l:List Value} (h:EK P t n) (c:a.eval x=.pointer (some ⟨b,o+k,none⟩)) (d:∀j u,cs[j]?=some u→w.cell? ⟨b,o+j,none⟩=some u)
  (e:(cs.drop k).take n=l) (f:l.length=n):B7 P ⟨dst,.load t x,ty,pos,B6,g⟩ a w (fun u w'=>u=.agg l.toArray∧w'=w):=NJ c (LW h f fun j u hu=>by
 rw[Nat.add_assoc];refine d _ _ ?_;subst e;rw[List.getElem?_take] at hu;split at hu
 ·simpa using hu
 ·cases hu)
def setCells(cs:Array Value)(o:Nat):List Value→Array Value
 |[]=>cs
 |v::l=>setCells (cs.setIfInBounds o v) (o+1) l
theorem LM(o:Nat):∀(l:List Value) (cs:Array Value) (o:Nat),(setCells cs o l).size=cs.size
 |[],_,_=>rfl
 |v::l,cs,o=>by simp[setCells,LM o l]
theorem JR{b:Nat}{t:TypeId}{o:Nat}:∀(l:List Value) (i:Nat) (cs:Array Value) (w:World),Bk w b t cs→o+i+l.length≤cs.size→(∀u∈l,u.oneCell'=true)→
  ∃w',(storeCells ⟨b,o,none⟩ l i).run P w=.ok () w'∧TI w w' b t (setCells cs (o+i) l)
 |[],i,cs,w,h,_,_=>⟨w,by simp[storeCells],rfl,h,World.grownBy.refl w _⟩
 |v::l,i,cs,w,h,hle,c=>by
  have d:o+i<cs.size:=by simp at hle;omega
  have g:=c v (List.mem_cons_self ..);have a:w.cell? ⟨b,o+i,none⟩=some cs[o+i]:=by rw[h.cell];simp[d]
  have e:(store ((⟨b,o,none⟩:Addr).add i) v).run P w=.ok () (w.setCell ⟨b,o+i,none⟩ v):=by
   rw[GK];cases v<;>simp[Value.oneCell'] at g<;>simp[store,Sem.run,a,h.frozen]
  have j:Bk (w.setCell ⟨b,o+i,none⟩ v) b t (cs.setIfInBounds (o+i) v):=by
   unfold Bk at h⊢;simp[World.setCell,Array.getElem?_modify,h]
  obtain⟨w',m,s1,s2,n⟩:=JR (o:=o) l (i+1) _ _ j (by simp at hle⊢;omega) (fun u hu=>c u (List.mem_cons_of_mem _ hu));refine⟨w',?_,by rw[s1];simp,s2,?_⟩
  ·simp only[storeCells,Sem.run_bind,e,Result.andThen_ok,m]
  ·have g1:HV b w (w.setCell ⟨b,o+i,none⟩ v):=⟨rfl,rfl,rfl,by simp,fun k _ f=>Below.heap_setCell w ⟨b,o+i,none⟩ v k (by simpa using f)⟩;exact World.grownBy.trans g1 n
theorem Bt{t d:TypeId}{x y:Operand}{n b o:Nat}{v:Value}{cs Cm:Array Value}{l:List Value}(i:a.eval x=.pointer (some ⟨b,o,none⟩))(j:a.eval y=v)(k:(P.info? t).map (·.size)=some n)(m:Bk w b d cs)
  (e:v.cells.toList=l)(p:l.length=n)(hle:o+n≤cs.size)(q:∀u∈l,u.oneCell'=true)(r:setCells cs o l=Cm):
  B7 P ⟨dst,.store t x y,ty,pos,B6,g⟩ a w (fun _ w'=>TI w w' b d Cm):=by
 obtain⟨w',s,c⟩:=JR (P:=P) (t:=d) (o:=o) l 0 cs w m (by omega) q;have f:v.cells.size=n:=by rw[←p,←e];simp
 have h:(Instr.storeAt t (a.eval x) (a.eval y)).run P w=.ok () w':=by
  simp[Instr.storeAt,Instr.sureAddr,i,j,storeVar,Kf k,f,e,s]
 unfold B7;simp only[execOp,Sem.run_bind,h,Result.andThen_ok,Sem.run_pure];rw[Nat.add_zero,r] at c;exact c
theorem Dc{x:Operand}{ad:Addr}(b:a.eval x=.pointer (some ad)):B7 P ⟨dst,.nilCheck x,ty,pos,B6,g⟩ a w (fun u w'=>u=.pointer (some ad)∧w'=w):=
 CA (by simp[execOp,b])
def fits(x:Int):Prop:=-9223372036854775808≤x∧x≤9223372036854775807
theorem Jl{x:Int}(h:fits x):IntKind.i64.wrap x=x:=by
 rw[IntKind.wrap_i64];unfold fits at h;omega
theorem BV{x y:Operand}{m n:Int}{t b:TypeId}(c:a.eval x=.int .i64 m)(d:a.eval y=.int .i64 n)(e:fits (m+n)):B7 P ⟨dst,.binOp .add t x y b,ty,pos,B6,g⟩ a w (fun u w'=>u=.int .i64 (m+n)∧w'=w):=
 CA (by simp[execOp,c,d,eqGuard,binOp,Op.intArith,Jl e])
theorem HR{x y:Operand}{m n:Int}{t b:TypeId}(c:a.eval x=.int .i64 m)(d:a.eval y=.int .i64 n)(e:fits (m-n)):B7 P ⟨dst,.binOp .sub t x y b,ty,pos,B6,g⟩ a w (fun u w'=>u=.int .i64 (m-n)∧w'=w):=
 CA (by simp[execOp,c,d,eqGuard,binOp,Op.intArith,Jl e])
theorem Kz{x y:Operand}{m n:Int}{t b:TypeId}(c:a.eval x=.int .i64 m)(d:a.eval y=.int .i64 n)(e:fits (m*n)):B7 P ⟨dst,.binOp .mul t x y b,ty,pos,B6,g⟩ a w (fun u w'=>u=.int .i64 (m*n)∧w'=w):=
 CA (by simp[execOp,c,d,eqGuard,binOp,Op.intArith,Jl e])
theorem JX{x y:Operand}{k:IntKind}{m n:Int}{t b:TypeId}(c:a.eval x=.int k m)(d:a.eval y=.int k n)(h0:0≤m)(h:1≤n):B7 P ⟨dst,.binOp .rem t x y b,ty,pos,B6,g⟩ a w (fun u w'=>u=.int k (m%n)∧w'=w):=
 CA (by
  have e:m.tmod n=m%n:=Int.tmod_eq_emod_of_nonneg h0;have f:¬n=0:=by omega
  simp[execOp,c,d,eqGuard,binOp,Op.intDiv,f,e])
theorem Q1(op:BinOp)(t:TypeId)(x y:Operand)(k:IntKind)(m n:Int):(eqGuard op t x y (.int k m) (.int k n)).run P w=.ok () w:=by
 unfold eqGuard;cases op<;>rfl
theorem Ew{x y:Operand}{k:IntKind}{m n:Int}{t b:TypeId}(c:a.eval x=.int k m)(d:a.eval y=.int k n):B7 P ⟨dst,.binOp .eql t x y b,ty,pos,B6,g⟩ a w (fun u w'=>u=.bool (m==n)∧w'=w):=
 CA (by simp[execOp,c,d,Q1,binOp,Op.intCmp])
theorem DO{x y:Operand}{k:IntKind}{m n:Int}{t b:TypeId}(c:a.eval x=.int k m)(d:a.eval y=.int k n):B7 P ⟨dst,.binOp .neq t x y b,ty,pos,B6,g⟩ a w (fun u w'=>u=.bool (m !=n)∧w'=w):=
 CA (by simp[execOp,c,d,Q1,binOp,Op.intCmp])
theorem C3{x y:Operand}{k:IntKind}{m n:Int}{t b:TypeId}(c:a.eval x=.int k m)(d:a.eval y=.int k n):B7 P ⟨dst,.binOp .lss t x y b,ty,pos,B6,g⟩ a w (fun u w'=>u=.bool (decide (m<n))∧w'=w):=
 CA (by simp[execOp,c,d,Q1,binOp,Op.intCmp])
theorem ET{x y:Operand}{k:IntKind}{m n:Int}{t b:TypeId}(c:a.eval x=.int k m)(d:a.eval y=.int k n):B7 P ⟨dst,.binOp .leq t x y b,ty,pos,B6,g⟩ a w (fun u w'=>u=.bool (decide (m≤n))∧w'=w):=
 CA (by simp[execOp,c,d,Q1,binOp,Op.intCmp])
theorem F9{x y:Operand}{k:IntKind}{m n:Int}{t b:TypeId}(c:a.eval x=.int k m)(d:a.eval y=.int k n):B7 P ⟨dst,.binOp .gtr t x y b,ty,pos,B6,g⟩ a w (fun u w'=>u=.bool (decide (n<m))∧w'=w):=
 CA (by simp[execOp,c,d,Q1,binOp,Op.intCmp])
theorem JY{x y:Operand}{k:IntKind}{m n:Int}{t b:TypeId}(c:a.eval x=.int k m)(d:a.eval y=.int k n):B7 P ⟨dst,.binOp .geq t x y b,ty,pos,B6,g⟩ a w (fun u w'=>u=.bool (decide (n≤m))∧w'=w):=
 CA (by simp[execOp,c,d,Q1,binOp,Op.intCmp])
theorem Uv {op:BinOp} {x y:Operand} {v v1 v2:Value} {t b:TypeId} (c:a.eval x=v1) (d:a.eval y=v2) (h:(do eqGuard op t x y v1 v2;binOp op t v1 v2:Sem Value).run P w=.ok v w):B7 P ⟨dst,.binOp op t x y b,ty,pos,B6,g⟩ a w (fun u w'=>u=v∧w'=w):=
 JW (S:=do eqGuard op t x y v1 v2;binOp op t v1 v2) (by simp only[execOp,c,d]) h
theorem Cd{x:Operand}{b:Bool}{t:TypeId}(c:a.eval x=.bool b):B7 P ⟨dst,.unOp .not t x,ty,pos,B6,g⟩ a w (fun u w'=>u=.bool (!b)∧w'=w):=
 CA (by simp[execOp,c,Op.unary])
theorem Iw{s t:TypeId}{k k':IntKind}{x:Operand}{n:Int}(b:(P.underlying s).isSome=true)(c:P.underlying t=some (.int k))(e:a.eval x=.int k' n)(f:k.wrap n=n):B7 P ⟨dst,.convert s t x,ty,pos,B6,g⟩ a w (fun u w'=>u=.int k n∧w'=w):=by
 obtain⟨d,h⟩:=Option.isSome_iff_exists.1 b;exact CA (by cases d<;>simp[execOp,e,convert,underlying,program,Sem.run,h,c,Conv.intToInt,f])
theorem Dv{fn:Fn}{b cs:Array Operand}{vs us:Array Value}(c:b.map a.eval=vs)(d:cs.map a.eval=us):B7 P ⟨dst,.makeFunc fn b cs,ty,pos,B6,g⟩ a w (fun u w'=>u=.func fn vs us∧w'=w):=
 CA (by simp[execOp,Instr.makeFunc,c,d])
theorem Ac{s:TypeId}{x:Operand}{i:Nat}{ad b:Addr}(c:a.eval x=.pointer (some ad))(h:(Instr.fieldAt s (.pointer (some ad)) i).run P w=.ok (.pointer (some b)) w):B7 P ⟨dst,.fieldAddr s x i,ty,pos,B6,g⟩ a w (fun u w'=>u=.pointer (some b)∧w'=w):=
 JW (S:=Instr.fieldAt s (.pointer (some ad)) i) (by simp only[execOp,c]) h
theorem DI{x:Operand}{i:Nat}{vs:Array Value}{v:Value}(b:a.eval x=.tuple vs)(h:vs[i]?=some v):B7 P ⟨dst,.extract x i,ty,pos,B6,g⟩ a w (fun u w'=>u=v∧w'=w):=
 CA (by simp[execOp,b,Instr.extract,h])
theorem UX{t:TypeId}{x:Operand}{lo hi:Option Operand}{v:Value}{b c:Option Value}{v':Value}(d:a.eval x=v)(e:lo.map a.eval=b)(f:hi.map a.eval=c)(h:(Instr.sliceAt t v b c none).run P w=.ok v' w):B7 P ⟨dst,.slice t x lo hi none,ty,pos,B6,g⟩ a w (fun u w'=>u=v'∧w'=w):=
 JW (S:=Instr.sliceAt t v b c none) (by simp only[execOp,d,e,f,Option.map_none]) h
theorem M0 {t e:TypeId} {x y:Operand} {sz b o n c k:Nat} {i:Int} {d:IntKind} (f:P.underlying t=some (.slice e)) (h:(P.info? e).map (·.size)=some sz) (j:a.eval x=.slice (some ⟨b,o,none⟩) n c) (l:a.eval y=.int d i)
  (hi:i=k) (m:k<n):B7 P ⟨dst,.indexAddr t x y,ty,pos,B6,g⟩ a w (fun u w'=>u=.pointer (some ⟨b,o+k*sz,none⟩)∧w'=w):=
 CA (by
  subst hi;have p:(0:Int)≤k∧(k:Int)<n:=⟨by omega,by omega⟩;have q:¬n≤k:=by omega
  simp[execOp,j,l,Instr.indexAt,asIntOf,underlying,program,Sem.run,f,p,Kf h,GK,m,q])
theorem Px {t e:TypeId} {x y:Operand} {sz b o n k:Nat} {i:Int} {c:IntKind} (d:P.underlying t=some (.array n e)) (f:(P.info? e).map (·.size)=some sz) (h:a.eval x=.pointer (some ⟨b,o,none⟩)) (j:a.eval y=.int c i)
  (hi:i=k) (l:k<n):B7 P ⟨dst,.indexAddr t x y,ty,pos,B6,g⟩ a w (fun u w'=>u=.pointer (some ⟨b,o+k*sz,none⟩)∧w'=w):=
 CA (by
  subst hi;have m:(0:Int)≤k∧(k:Int)<n:=⟨by omega,by omega⟩;have p:¬n≤k:=by omega
  simp[execOp,h,j,Instr.indexAt,asIntOf,underlying,program,Sem.run,d,m,Kf f,GK,Instr.sureAddr,l,p])
theorem BM{t e:TypeId}{x:Operand}{A:Option Addr}{n c:Nat}(b:P.underlying t=some (.slice e))(d:a.eval x=.slice A n c):B7 P ⟨dst,.call {callee:=.builtin .len,args:= #[x],argTypes:= #[t]},ty,pos,B6,g⟩ a w (fun u w'=>u=.int .i64 n∧w'=w):=
 CA (by simp[execOp,resolve,invoke,builtin,Builtin.len_,d,underlying,program,Sem.run,b,goInt])
theorem Lh{x y:Operand}{m n:Int}{t b:TypeId}(c:a.eval x=.int .i64 m)(d:a.eval y=.int .i64 n):B7 P ⟨dst,.call {callee:=.builtin .max,args:= #[x,y],argTypes:= #[t,b]},ty,pos,B6,g⟩ a w (fun u w'=>u=.int .i64 (max m n)∧w'=w):=
 CA (by
  have e:(if m<n then n else m)=max m n:=by omega
  simp[execOp,resolve,invoke,builtin,Builtin.max_,c,d,Builtin.max2,e])
theorem Pk{x y:Operand}{m n:Int}{t b:TypeId}(c:a.eval x=.int .i64 m)(d:a.eval y=.int .i64 n):B7 P ⟨dst,.call {callee:=.builtin .min,args:= #[x,y],argTypes:= #[t,b]},ty,pos,B6,g⟩ a w (fun u w'=>u=.int .i64 (min m n)∧w'=w):=
 CA (by
  have e:(if n<m then n else m)=min m n:=by omega
  simp[execOp,resolve,invoke,builtin,Builtin.min_,c,d,Builtin.min2,e])
def BW (P:Program) (f:FuncId) (args:Array Value) (w:World) (R:Value→World→Prop):Prop:=Calls P f args w (fun e w'=>∃v,e=.returned v∧R v w')
theorem BW.mono{f:FuncId}{args:Array Value}{R R':Value→World→Prop}(h:BW P f args w R)(a:∀v w',R v w'→R' v w'):BW P f args w R':=
 Calls.mono h fun _ _ ⟨v,he,b⟩=>⟨v,he,a _ _ b⟩
def Ba (P:Program) (f:FuncId):Prop:=(match P.funcs[f]? with|some fn=>fn.name !="runtime.NumGoroutine"&&fn.body.isSome|none=>false)=true
theorem LX{f:FuncId}(h:Ba P f)(args:Array Value):(callFunc f args).run P w=.ok (.enter f args) w:=by
 unfold Ba at h;unfold callFunc;cases a:P.funcs[f]? with
 |none=>simp[a] at h
 |some fn=>
  simp only[a,Bool.and_eq_true,bne_iff_ne,ne_eq] at h;obtain⟨b,c⟩:=h;have e:fn.body.isNone=false:=by cases g:fn.body<;>simp_all
  have d:¬fn.body=none:=by intro h;simp[h] at c
  simp[program,Sem.run,a,b,d]
theorem KR{f:Operand}{xs:Array Operand}{b:Array TypeId}{fn:FuncId}{first cap vs all:Array Value}{R:Value→World→Prop}(c:Ba P fn)(d:a.eval f=.func (.func fn) first cap)(e:xs.map a.eval=vs)(i:first++vs++cap=all)
  (h:BW P fn all w R):B7 P ⟨dst,.call {callee:=.value f,args:=xs,argTypes:=b},ty,pos,B6,g⟩ a w R:=by
 have j:(execOp a.eval ⟨dst,.call {callee:=.value f,args:=xs,argTypes:=b},ty,pos,B6,g⟩).run P w=.ok (.enter fn all) w:=by
  simp only[execOp,resolve,d,e,Deferred.ofValue];simp only[Sem.run_bind,Sem.run_pure,Result.andThen_ok,invoke,LX c,i]
 unfold B7;rw[j];exact h
theorem Iq{f:Operand→Value}:(#[]:Array Operand).map f= #[]:=by simp
theorem Cf{f:Operand→Value}{a:Operand}{v0:Value}(h0:f a=v0): #[a].map f= #[v0]:=by simp[h0]
theorem Dn{f:Operand→Value}{a x1:Operand}{v0 v1:Value}(h0:f a=v0)(b:f x1=v1): #[a,x1].map f= #[v0,v1]:=by simp[h0,b]
theorem EV{f:Operand→Value}{a x1 x2:Operand}{v0 v1 v2:Value}(h0:f a=v0)(b:f x1=v1)(c:f x2=v2): #[a,x1,x2].map f= #[v0,v1,v2]:=by simp[h0,b,c]
theorem Sy{f:Operand→Value}{a x1 x2 b:Operand}{v0 v1 v2 v3:Value}(h0:f a=v0)(c:f x1=v1)(d:f x2=v2)(e:f b=v3): #[a,x1,x2,b].map f= #[v0,v1,v2,v3]:=by simp[h0,c,d,e]
theorem Py{f:Operand→Value}{a x1 x2 b c:Operand}{v0 v1 v2 v3 v4:Value}(h0:f a=v0)(d:f x1=v1)(e:f x2=v2)(g:f b=v3)(h:f c=v4): #[a,x1,x2,b,c].map f= #[v0,v1,v2,v3,v4]:=by simp[h0,d,e,g,h]
theorem Uw{f:Operand→Value}:(#[]:Array (Nat×Operand)).map (fun(i,x)=>(i,f x))= #[]:=by simp
theorem Jj{f:Operand→Value}{i0:Nat}{a:Operand}{v0:Value}(h0:f a=v0): #[(i0,a)].map (fun(i,x)=>(i,f x))= #[(i0,v0)]:=by simp[h0]
theorem JD{f:Operand→Value}{i0 i1:Nat}{a x1:Operand}{v0 v1:Value}(h0:f a=v0)(b:f x1=v1): #[(i0,a),(i1,x1)].map (fun(i,x)=>(i,f x))= #[(i0,v0),(i1,v1)]:=by simp[h0,b]
theorem M3{f:Operand→Value}{i0 i1 i2:Nat}{a x1 x2:Operand}{v0 v1 v2:Value}(h0:f a=v0)(b:f x1=v1)(c:f x2=v2): #[(i0,a),(i1,x1),(i2,x2)].map (fun(i,x)=>(i,f x))= #[(i0,v0),(i1,v1),(i2,v2)]:=by simp[h0,b,c]
theorem ZM{f:Operand→Value}{i0 i1 i2 i3:Nat}{a x1 x2 b:Operand}{v0 v1 v2 v3:Value}(h0:f a=v0)(c:f x1=v1)(d:f x2=v2)(e:f b=v3): #[(i0,a),(i1,x1),(i2,x2),(i3,b)].map (fun(i,x)=>(i,f x))= #[(i0,v0),(i1,v1),(i2,v2),(i3,v3)]:=by simp[h0,c,d,e]
theorem KA {f:FuncId} {fn:Func} {c:Code} {args:Array Value} {N:Nat} {R:Value→World→Prop} (b:P.funcs[f]?=some fn) (d:fn.body=some c) (g:fn.ntmps=N) (j:args.size≤N)
  (h:∀a:Act,a.tmps=args++Array.replicate (N-args.size) undef→a.defers=[]→CC P X0 N c (bodyPost P fn (fun e w'=>∃v,e=.returned v∧R v w')) a [] w):BW P f args w R:=by
 refine calls_of_wp b d ?_;rw[g];have:=h {tmps:=args++Array.replicate (N-args.size) undef,defers:=[]} rfl rfl;exact wpIn_wide.1 (this ⟨by simp;omega,rfl,fun _ i=>by cases i⟩)
theorem FG{a:Act}{args:Array Value}{n i:Nat}{v:Value}(h:a.tmps=args++Array.replicate n undef)(hi:args[i]?=some v):sl a i=v:=by
 obtain⟨b,he⟩:=Array.getElem?_eq_some_iff.1 hi;unfold sl;rw[h,Array.getD_eq_getD_getElem?,Array.getElem?_append_left b,hi];rfl
theorem AA {fn:Func} {N t:Nat} {a:Act} {l:Env} {v:Value} {R:Value→World→Prop} (b:fn.results= #[.tmp t]) (c:ev a l (.tmp t)=v) (h:R v w):LV X0 N (bodyPost P fn (fun e w'=>∃v,e=.returned v∧R v w')) .ret a l w:=fun s=>
 bodyPost_ret (results_tmp b _ _ _) (by rw[Ev,s.df]) ⟨_,rfl,by rw[show(Cl a l).tmps.getD t undef=v from ee s c];exact h⟩
theorem E0{fn:Func}{N t u:Nat}{a:Act}{l:Env}{v v':Value}{R:Value→World→Prop}(b:fn.results= #[.tmp t,.tmp u])(c:ev a l (.tmp t)=v)(hu:ev a l (.tmp u)=v')(h:R (.tuple #[v,v']) w):
  LV X0 N (bodyPost P fn (fun e w'=>∃v,e=.returned v∧R v w')) .ret a l w:=fun s=>
 bodyPost_ret (results_tmp2 b _ _ _) (by rw[Ev,s.df]) ⟨_,rfl,by rw[show(Cl a l).tmps.getD t undef=v from ee s c,show(Cl a l).tmps.getD u undef=v' from ee s hu];exact h⟩
theorem Gk {fn:Func} {N p:Nat} {t:TypeId} {a:Act} {l:Env} {ad:Addr} {v:Value} {R:Value→World→Prop} (c:fn.results= #[.cell p t]) (d:ev a l (.tmp p)=.pointer (some ad)) (f:(loadVar t ad).run P w=.ok v w) (h:R v w):
  LV X0 N (bodyPost P fn (fun e w'=>∃v,e=.returned v∧R v w')) .ret a l w:=fun s=>by
 have b:(Cl a l).tmps.getD p undef=.pointer (some ad):=ee s d;refine bodyPost_ret (v:=v) ?_ (by rw[Ev,s.df]) ⟨_,rfl,h⟩;simp only[Array.getD_eq_getD_getElem?] at b;simp[results,c,b,asAddr,f]
theorem KS{fn:Func}{N:Nat}{a:Act}{l:Env}{R:Value→World→Prop}(b:fn.results= #[])(h:R (.tuple #[]) w):LV X0 N (bodyPost P fn (fun e w'=>∃v,e=.returned v∧R v w')) .normal a l w:=fun s=>
 bodyPost_end (results_none b _ _ _) (by rw[Ev,s.df]) ⟨_,rfl,h⟩
end
section
variable{P:Program}{a:Act}{w:World}{dst:Option Tmp}{ty:TypeId}{pos:String}{B6:Array Edge}{g:Option (Nat×Bool)}
def HQ(l:List Int):List Value:=l.map (Value.int .i64)
def F8(l:List Int):Value:=.agg (HQ l).toArray
theorem UY(l:List Int):(HQ l).length=l.length:=by simp[HQ]
theorem UZ(l:List Int)(k:Nat)(h:k<l.length):(HQ l)[k]?=some (.int .i64 (l.getD k 0)):=by
 simp[HQ,List.getElem?_eq_getElem h]
theorem TJ(l:List Int)(k:Nat)(h:k<l.length):(HQ l).toArray[k]?=some (.int .i64 (l.getD k 0)):=by
 simpa using UZ l k h
theorem DV{t a:TypeId}{n b o:Nat}{cs:Array Value}{l:List Value}(h:EK P t n)(c:Bk w b a cs)(d:(cs.toList.drop o).take n=l)(e:l.length=n):(loadVar t ⟨b,o,none⟩).run P w=.ok (.agg l.toArray) w:=
 LW h e fun j u hu=>by
  rw[c.cell];subst d;rw[List.getElem?_take] at hu;split at hu
  ·simpa using hu
  ·cases hu
theorem KT:∀(l pre:List Value) (cs:List Value),cs.length=l.length→setCells (pre++cs).toArray pre.length l=(pre++l).toArray
 |[],pre,cs,h=>by
  have:cs=[]:=List.eq_nil_of_length_eq_zero (by simpa using h);subst this;rfl
 |v::l,pre,[],h=>by simp at h
 |v::l,pre,c::cs,h=>by
  have a:(pre++c::cs).toArray.setIfInBounds pre.length v=((pre++[v])++cs).toArray:=by simp
  have b:cs.length=l.length:=by simpa using h
  have ih:=KT l (pre++[v]) cs b;have d:(pre++[v]).length=pre.length+1:=by simp
  simp only[setCells,a];rw[←d,ih];simp
theorem HL {t c:TypeId} {x y:Operand} {n b:Nat} {v:Value} {cs Cm:Array Value} (d:a.eval x=.pointer (some ⟨b,0,none⟩)) (e:a.eval y=v) (f:(P.info? t).map (·.size)=some n) (h:Bk w b c cs)
  (i:v.cells=Cm) (j:Cm.size=n) (m:cs.size=n) (k:∀u∈Cm.toList,u.oneCell'=true):
  B7 P ⟨dst,.store t x y,ty,pos,B6,g⟩ a w (fun _ w'=>TI w w' b c Cm):=by
 refine Bt (n:=n) (o:=0) (l:=Cm.toList) d e f h (by rw[i]) (by simpa using j) (by omega) k ?_;have:=KT Cm.toList [] cs.toList (by simp;omega);simpa using this
theorem Ar{f:Operand}{xs:Array Operand}{b:Array TypeId}{fn:FuncId}{vs:Array Value}{R:Value→World→Prop}(c:Ba P fn)(d:a.eval f=.func (.func fn) #[] #[])(e:xs.map a.eval=vs)
  (h:BW P fn vs w R):B7 P ⟨dst,.call {callee:=.value f,args:=xs,argTypes:=b},ty,pos,B6,g⟩ a w R:=
 KR c d e (by simp) h
theorem GL {t e:TypeId} {x y:Operand} {b n k:Nat} {i:Int} {c:IntKind} (d:P.underlying t=some (.array n e)) (f:(P.info? e).map (·.size)=some 1) (h:a.eval x=.pointer (some ⟨b,0,none⟩)) (j:a.eval y=.int c i)
  (hi:i=k) (l:k<n):B7 P ⟨dst,.indexAddr t x y,ty,pos,B6,g⟩ a w (fun u w'=>u=.pointer (some ⟨b,k,none⟩)∧w'=w):=by
 have:=Px (P:=P) (a:=a) (w:=w) (dst:=dst) (ty:=ty) (pos:=pos) (B6:=B6) (g:=g) d f h j hi l;simpa using this
theorem Bu{t e:TypeId}{x y:Operand}{b o n c k:Nat}{A:Option Addr}{i:Int}{d:IntKind}(f:P.underlying t=some (.slice e))(h:(P.info? e).map (·.size)=some 1)(j:a.eval x=.slice A n c)(l:A=some ⟨b,o,none⟩)(m:a.eval y=.int d i)
  (hi:i=k)(p:k<n):B7 P ⟨dst,.indexAddr t x y,ty,pos,B6,g⟩ a w (fun u w'=>u=.pointer (some ⟨b,o+k,none⟩)∧w'=w):=by
 subst l;have:=M0 (P:=P) (a:=a) (w:=w) (dst:=dst) (ty:=ty) (pos:=pos) (B6:=B6) (g:=g) f h j m hi p;simpa using this
theorem B9{t e:TypeId}{x y:Operand}{sz b o n c k:Nat}{A:Option Addr}{i:Int}{d:IntKind}(f:P.underlying t=some (.slice e))(h:(P.info? e).map (·.size)=some sz)(j:a.eval x=.slice A n c)(l:A=some ⟨b,o,none⟩)(m:a.eval y=.int d i)
  (hi:i=k)(p:k<n):B7 P ⟨dst,.indexAddr t x y,ty,pos,B6,g⟩ a w (fun u w'=>u=.pointer (some ⟨b,o+k*sz,none⟩)∧w'=w):=by
 subst l;exact M0 f h j m hi p
theorem Af(b:Bool):b=true∨b=false:=by cases b<;>simp
theorem AW{l:List Value}(h:l.all (·.oneCell')=true):∀u∈l,u.oneCell'=true:=by simpa using h
theorem ec{a:Act}{v:Value}:a.eval (.const v)=v:=rfl
theorem es{a:Act}{t:Nat}{v:Value}(h:sl a t=v):a.eval (.tmp t)=v:=h
theorem Aq{v:Value}{b c:Bool}(h:v=.bool b)(a:b=c):v=.bool c:=by rw[h,a]
theorem WN{w0 w w':World}(h:Below w0.heap.size w0 w)(g:Ext w w'):Below w0.heap.size w0 w':=Sw h g h.size
theorem WO{w0 w w':World}{b:Nat}(h:Below w0.heap.size w0 w)(g:HV b w w')(a:w0.heap.size≤b):Below w0.heap.size w0 w':=Sx h g h.size a
theorem Li{fn:Func}{N:Nat}{a:Act}{l:Env}{R:Value→World→Prop}(b:fn.results= #[])(h:R (.tuple #[]) w):LV X0 N (bodyPost P fn (fun e w'=>∃v,e=.returned v∧R v w')) .ret a l w:=fun s=>
 bodyPost_ret (results_none b _ _ _) (by rw[Ev,s.df]) ⟨_,rfl,h⟩
def flat{α:Type}(enc:α→List Value)(xs:List α):List Value:=xs.flatMap enc
theorem Pz{α:Type}(enc:α→List Value)(sz:Nat)(he:∀x,(enc x).length=sz):∀xs:List α,(flat enc xs).length=xs.length*sz
 |[]=>by simp[flat]
 |x::xs=>by
  have:=Pz enc sz he xs;unfold flat at*;simp only[List.flatMap_cons,List.length_append,he,this,List.length_cons,Nat.add_mul,Nat.one_mul];omega
theorem Rd.elem {α:Type} {enc:α→List Value} {sz:Nat} (he:∀x,(enc x).length=sz) (a:0<sz) {w:World} {lo hi:Nat} {A:Option Addr} {xs:List α} (h:Rd w lo hi A (flat enc xs)) {k:Nat} (e:k<xs.length):
  ∃b o,A=some ⟨b,o,none⟩∧lo≤b∧b<hi∧∀j u,(flat enc xs)[j]?=some u→w.cell? ⟨b,o+j,none⟩=some u:=by
 have c:=Pz enc sz he xs;have d:0<(flat enc xs).length:=by rw[c];exact Nat.mul_pos (by omega) a
 exact h.at_ (k:=0) (u:=(flat enc xs)[0]) (List.getElem?_eq_getElem d)
theorem Rd.C4{w:World}{lo hi:Nat}{A:Option Addr}{cs:List Value}(h:Rd w lo hi A cs){k:Nat}(a:k<cs.length):
  ∃b o,A=some ⟨b,o,none⟩∧lo≤b∧b<hi∧∀j u,cs[j]?=some u→w.cell? ⟨b,o+j,none⟩=some u:=h.at_ (List.getElem?_eq_getElem a)
end
def E1(o:Oper)(j:Nat):Bool:=o.after.toList.any fun e=>Region.binds .any e&&Nat.beq e.on j
def Ci(L:List Oper)(j:Nat):Option Nat:=(L[j]?).bind (·.dst)
def isDst(L:List Oper)(s:Nat):Bool:=L.any fun o=>match o.dst with|some d=>Nat.beq d s|none=>false
def JE:Nat→List Oper→Bool
 |_,[]=>true
 |k,o::L=>(o.after.toList.all fun e=> !Region.binds .any e||Nat.blt e.on k)&&JE (k+1) L
def LY(N:Nat):List Oper→Bool
 |[]=>true
 |o::L=>(match o.dst with|some d=>Nat.blt d N&& !isDst L d|none=>true)&&LY N L
def KU(L:List Oper):List Nat→Bool
 |[]=>true
 |[k]=>Nat.blt k L.length
 |k::j::r=>Nat.blt k j&&(match L[j]? with|some o=>E1 o k|none=>false)&&KU L (j::r)
def ME(N:Nat)(L:List Oper)(sp:List Nat):Bool:=JE 0 L&&LY N L&&KU L sp
theorem LZ{L:List Oper}{s:Nat}:isDst L s=true↔∃j,Ci L j=some s:=by
 unfold isDst Ci;rw[List.any_eq_true];constructor
 ·rintro⟨o,a,h⟩;obtain⟨j,b,rfl⟩:=List.mem_iff_getElem.1 a;refine⟨j,?_⟩;rw[List.getElem?_eq_getElem b];cases c:L[j].dst with
  |none=>simp[c] at h
  |some d=>simp only[c] at h;simp[c,Nat.eq_of_beq_eq_true h]
 ·rintro⟨j,b⟩;cases a:L[j]? with
  |none=>simp[a] at b
  |some o=>
   refine⟨o,List.mem_of_getElem? a,?_⟩;simp only[a,Option.bind_some] at b;simp[b]
theorem Jw{N:Nat}:∀{L:List Oper},LY N L=true→∀i j d,Ci L i=some d→d<N∧(Ci L j=some d→i=j)
 |[],_,i,j,d,hi=>by simp[Ci] at hi
 |o::L,h,i,j,d,hi=>by
  simp only[LY,Bool.and_eq_true] at h;obtain⟨c,f⟩:=h;have ih:=Jw f;have e:∀d,o.dst=some d→d<N∧∀j,Ci L j≠some d:=by
   intro d g;rw[g] at c;simp only[Bool.and_eq_true,Bool.not_eq_true'] at c;refine⟨by simpa[Nat.blt_eq] using c.1,fun j b=>?_⟩;have:=LZ.2 ⟨j,b⟩;rw[this] at c;cases c.2
  cases i with
  |zero=>
   have a:o.dst=some d:=by simpa[Ci] using hi
   refine⟨(e d a).1,fun b=>?_⟩;cases j with
   |zero=>rfl
   |succ j=>exact absurd (by simpa[Ci] using b) ((e d a).2 j)
  |succ i=>
   have a:Ci L i=some d:=by simpa[Ci] using hi
   cases j with
   |zero=>
    refine⟨(ih i i d a).1,fun b=>?_⟩;exact absurd a ((e d (by simpa[Ci] using b)).2 i)
   |succ j=>
    refine⟨(ih i j d a).1,fun b=>?_⟩;rw[(ih i j d a).2 (by simpa[Ci] using b)]
theorem E2:∀{L:List Oper} {k:Nat},JE k L=true→∀i o,L[i]?=some o→∀e∈o.after,Region.binds .any e=true→e.on<k+i
 |[],_,_,i,o,a=>by simp at a
 |o'::L,k,h,i,o,a=>by
  simp only[JE,Bool.and_eq_true,List.all_eq_true] at h;cases i with
  |zero=>
   obtain rfl:o'=o:=by simpa using a
   intro e he b;have:=h.1 e (by simpa using he);simp only[Bool.or_eq_true,Bool.not_eq_true',b,Bool.true_eq_false,false_or] at this;simpa[Nat.blt_eq] using this
  |succ i=>
   intro e he b;have:=E2 h.2 i o (by simpa using a) e he b;omega
theorem Fv{o:Oper}{j:Nat}:E1 o j=true↔∃e∈o.after,Region.binds .any e=true∧e.on=j:=by
 unfold E1;rw[List.any_eq_true];constructor
 ·rintro⟨e,he,h⟩;simp only[Bool.and_eq_true] at h;exact⟨e,by simpa using he,h.1,Nat.eq_of_beq_eq_true h.2⟩
 ·rintro⟨e,he,a,rfl⟩;exact⟨e,by simpa using he,by simp[a]⟩
theorem L0{L:List Oper}:∀{sp:List Nat},KU L sp=true→
  (∀(i k j:Nat),sp[i]?=some k→sp[i+1]?=some j→∃o,L[j]?=some o∧E1 o k=true)∧(∀(i j k:Nat),sp[i]?=some k→sp[j]?=some k→i=j)∧(∀k∈sp,k<L.length)∧(∀k∈sp,∀(e:Nat),sp[0]?=some e→e≤k)
 |[],_=>⟨by simp,by simp,by simp,by simp⟩
 |[k],h=>by
  have p:k<L.length:=by simpa[KU,Nat.blt_eq] using h
  refine⟨by simp,?_,by simpa using p,by simp⟩;intro i j x hi u;cases i<;>cases j<;>simp_all
 |k::j::r,h=>by
  simp only[KU,Bool.and_eq_true] at h;obtain⟨⟨q,f⟩,s⟩:=h;obtain⟨a1,a2,a3,a4⟩:=L0 s;have t:k<j:=by simpa[Nat.blt_eq] using q
  refine⟨?_,?_,?_,?_⟩
  ·intro i x y a g;cases i with
   |zero=>
    obtain rfl:k=x:=by simpa using a
    obtain rfl:j=y:=by simpa using g
    cases l:L[j]? with
    |none=>simp[l] at f
    |some o=>exact⟨o,rfl,by simpa[l] using f⟩
   |succ i=>exact a1 i x y (by simpa using a) (by simpa using g)
  ·intro i b x a c;have d:∀m,(j::r)[m]?=some x→j≤x:=fun m hm=>a4 x (List.mem_of_getElem? hm) j (by simp);cases i with
   |zero=>
    obtain rfl:k=x:=by simpa using a
    cases b with
    |zero=>rfl
    |succ b=>have:=d b (by simpa using c);omega
   |succ i=>
    cases b with
    |zero=>
     obtain rfl:k=x:=by simpa using c
     have:=d i (by simpa using a);omega
    |succ b=>rw[a2 i b x (by simpa using a) (by simpa using c)]
  ·intro x a;rcases List.mem_cons.1 a with rfl|a
   ·have:=a3 j (by simp);omega
   ·exact a3 x a
  ·intro x a e n;obtain rfl:k=e:=by simpa using n
   rcases List.mem_cons.1 a with rfl|a
   ·exact Nat.le_refl _
   ·have:=a4 x a j (by simp);omega
section
variable(P:Program)(X:Ctx)(N:Nat)(L:List Oper)(a:Act)(l:Env)(S:Nat→World→World→Prop)(T:Nat→Act→World→Prop)(Φ:Nat→Value→World→Prop)(sp:List Nat)
structure Hs (k:Nat) (o:Oper) (a':Act) (w':World) (ph:Nat):Prop where
 out:∀s,isDst L s=false→sl a' s=lk (sl a s) l s
 later:∀(j d:Nat) (o':Oper),L[j]?=some o'→o'.dst=some d→E1 o' k=true→sl a' d=lk (sl a d) l d
 BR:∀(j d:Nat),E1 o j=true→Ci L j=some d→Φ j (sl a' d) w'
 Al:T ph a' w'
 Cq:∀(i:Nat),sp[i]?=some k→ph=i
 KB:∀(i j:Nat) (o':Oper),sp[i]?=some j→L[j]?=some o'→E1 o' k=true→ph≤i
def GM(k:Nat)(o:Oper):Prop:=∀a' w' ph,Hs L a l T Φ sp k o a' w' ph→
 (Region.wanted o (yielded L.toArray a'.tmps)=true∧B7 P o a' w' (fun v Bc=>Φ k v Bc∧(if k∈sp then S k w' Bc∧T (ph+1) (a'.put o.dst v) Bc else Ext w' Bc)))∨
 (Region.wanted o (yielded L.toArray a'.tmps)=false∧Φ k undef w'∧k∉sp)
def L1:Nat→Nat→List Oper→Prop
 |0,_,_=>True
 |_+1,_,[]=>True
 |m+1,k,o::R=>GM P L a l S T Φ sp k o∧L1 m (k+1) R
end
def Lj(X:Ctx)(N:Nat)(a:Act)(Φ:Nat→Value→World→Prop)(c:Act→World→Prop)(G:Env→Prop)(w':World):Nat→Nat→List Oper→Env→Prop
 |0,_,_,b=>c (Cl a b) w'→G b
 |_+1,_,[],b=>c (Cl a b) w'→G b
 |m+1,k,o::R,b=>match o.dst with
  |some d=>∀v,Φ k v w'→Lj X N a Φ c G w' m (k+1) R ((d,v)::b)
  |none=>Lj X N a Φ c G w' m (k+1) R b
def okD (L:List Oper) (sp:List Nat) (D:Nat→List Nat):Bool:=
 (List.range (sp.length+1)).all fun ph=>(D ph).all fun s=>(List.range L.length).all fun i=>match Ci L i with
  |some d=> !Nat.beq d s||(sp.take ph).any fun k=>Nat.beq k i||(match L[k]? with|some o=>E1 o i|none=>false)
  |none=>true
theorem TK{L:List Oper}{sp:List Nat}{D:Nat→List Nat}(h:okD L sp D=true){ph:Nat}(l:ph≤sp.length){i s:Nat}(f:s∈D ph)(hi:Ci L i=some s):
  ∃m k,m<ph∧sp[m]?=some k∧(k=i∨∃o,L[k]?=some o∧E1 o i=true):=by
 have c:i<L.length:=by
  rcases Nat.lt_or_ge i L.length with h|h
  ·exact h
  ·simp[Ci,List.getElem?_eq_none h] at hi
 simp only[okD,List.all_eq_true,List.mem_range] at h;have:=h ph (by omega) s f i c;rw[hi] at this;simp only[Nat.beq_refl,Bool.not_true,Bool.false_or,List.any_eq_true] at this;obtain⟨k,g,j⟩:=this;obtain⟨m,hm,d⟩:=List.mem_iff_getElem.1 g;have b:m<ph∧m<sp.length:=by simp at hm;omega
 refine⟨m,k,b.1,?_,?_⟩
 ·rw[←d,List.getElem_take,List.getElem?_eq_getElem b.2]
 ·rcases Bool.or_eq_true _ _▸j with a|a
  ·exact .inl (Nat.eq_of_beq_eq_true a)
  ·cases e:L[k]? with
   |none=>simp[e] at a
   |some o=>exact .inr ⟨o,rfl,by simpa[e] using a⟩
section
variable{P:Program}{X:Ctx}{N:Nat}{L:List Oper}{a:Act}{l:Env}{S:Nat→World→World→Prop}{T:Nat→Act→World→Prop}{Φ:Nat→Value→World→Prop}{sp:List Nat}{Q:Exit→Act→World→Prop}{w:World}{k:Nat}{o:Oper}{R:List Oper}
structure Inv(listed:Array Bool)(a':Act)(w':World):Prop where
 PA:listed.size=L.length
 sz:a'.tmps.size=N
 df:a'.defers=X.ds
 out:∀s,(∀j,Ci L j=some s→listed.getD j false=false)→sl a' s=lk (sl a s) l s
 done:∀(j d:Nat),listed.getD j false=true→Ci L j=some d→Φ j (sl a' d) w'
 down:∀(j:Nat) (o:Oper),L[j]?=some o→listed.getD j false=true→∀e∈o.after,Region.binds .any e=true→listed.getD e.on false=true
 ph:∃ph,T ph a' w'∧ph≤sp.length∧∀(i k:Nat),sp[i]?=some k→(listed.getD k false=true↔i<ph)
theorem U0{x y:Act}(a:x.tmps.size=y.tmps.size)(b:x.defers=y.defers)(h:∀s,sl x s=sl y s):x=y:=by
 obtain⟨t,d⟩:=x;obtain⟨c,g⟩:=y;simp only at b a;subst b;have:t=c:=by
  apply Array.ext a;intro i e f;have:=h i;unfold sl at this;simp only[Array.getD_eq_getD_getElem?,Array.getElem?_eq_getElem e,Array.getElem?_eq_getElem f,Option.getD_some] at this;exact this
 rw[this]
theorem MF(q:Act→World→Prop)(G:Env→Prop)(w':World)(a':Act)(c:q a' w')(e:a'.tmps.size=N)(f:a'.defers=X.ds){K:Prop}(u:∀b,St X N a b→G b→a'=Cl a b→K):
  ∀(m:Nat) (R:List Oper) (k:Nat) (b:Env),St X N a b→m≤R.length→(∀i d,Ci R i=some d→d<N)→(∀i j d,Ci R i=some d→Ci R j=some d→i=j)→Lj X N a Φ q G w' m k R b→
   (∀i d,i<m→Ci R i=some d→Φ (k+i) (sl a' d) w')→(∀s,(∀i,i<m→Ci R i≠some s)→sl a' s=lk (sl a s) b s)→K
 |0,R,k,b,st,_,_,_,h,_,g=>by
  have:a'=Cl a b:=U0 (by rw[JB,st.sz,e]) (by rw[Ev,st.df,f]) (fun s=>by rw[J6 st s];exact g s (fun i hi=>absurd hi (by omega)));exact u b st (h (by rw[←this];exact c)) this
 |m+1,[],k,b,st,hm,_,_,h,_,g=>by simp at hm
 |m+1,o::R,k,b,st,hm,r,w,h,x,g=>by
  have l:∀i d,Ci R i=some d→d<N:=fun i d hi=>r (i+1) d (by simpa[Ci] using hi);have n:∀i j d,Ci R i=some d→Ci R j=some d→i=j:=fun i j d hi z=>by
   have:=w (i+1) (j+1) d (by simpa[Ci] using hi) (by simpa[Ci] using z);omega
  have t:∀i d,i<m→Ci R i=some d→Φ (k+1+i) (sl a' d) w':=fun i d aA hi=>by
   have:=x (i+1) d (by omega) (by simpa[Ci] using hi);rw[show k+1+i=k+(i+1) from by omega];exact this
  simp only[Lj] at h;cases p:o.dst with
  |none=>
   rw[p] at h;refine MF q G w' a' c e f u m R (k+1) b st (by simpa using hm) l n h t fun s v=>g s fun i hi=>?_;cases i with
   |zero=>simp[Ci,p]
   |succ i=>simpa[Ci] using v i (by omega)
  |some d=>
   rw[p] at h;have h0:Ci (o::R) 0=some d:=by simp[Ci,p]
   refine MF q G w' a' c e f u m R (k+1) _ (st.cons (r 0 d h0) (sl a' d)) (by simpa using hm) l n (h _ (x 0 d (by omega) h0)) t fun s v=>?_;simp only[lk];cases y:Nat.beq d s with
   |true=>
    obtain rfl:d=s:=Nat.eq_of_beq_eq_true y;rfl
   |false=>
    refine g s fun i hi=>?_;cases i with
    |zero=>simp[Ci,p,Nat.ne_of_beq_eq_false y]
    |succ i=>simpa[Ci] using v i (by omega)
theorem PB:∀{m:Nat} {R:List Oper} {k:Nat},L1 P L a l S T Φ sp m k R→∀(i:Nat) (o:Oper),i<m→R[i]?=some o→GM P L a l S T Φ sp (k+i) o
 |0,_,_,_,i,o,hi,_=>absurd hi (by omega)
 |_+1,[],_,_,i,o,_,b=>by simp at b
 |m+1,o'::R,k,h,i,o,hi,b=>by
  cases i with
  |zero=>
   obtain rfl:o'=o:=by simpa using b
   exact h.1
  |succ i=>
   have:=PB h.2 i o (by omega) (by simpa using b);rw[Nat.add_assoc,Nat.add_comm 1 i] at this;exact this
variable(P) in
theorem BH:L1 P L a l S T Φ sp 0 k R:=trivial
theorem Aa{m:Nat}(h:GM P L a l S T Φ sp k o)(b:L1 P L a l S T Φ sp m (k+1) R):L1 P L a l S T Φ sp (m+1) k (o::R):=⟨h,b⟩
theorem M4{x:Act}{d:Nat}{v:Value}(h:d<x.tmps.size):sl (x.put (some d) v) d=v:=by
 unfold sl Act.put;simp[h]
theorem L2{x:Act}{d s:Nat}{v:Value}(h:d≠s):sl (x.put (some d) v) s=sl x s:=by
 unfold sl Act.put;simp[Array.getElem?_setIfInBounds_ne h]
theorem GN{listed:Array Bool}{i:Nat}(h:i<listed.size):(listed.setIfInBounds i true).getD i false=true:=by simp[h]
theorem DW{listed:Array Bool}{i j:Nat}(h:i≠j):(listed.setIfInBounds i true).getD j false=listed.getD j false:=by
 simp[Array.getElem?_setIfInBounds_ne h]
inductive PC (L:List Oper):Nat→Nat→Prop
 |one {i j:Nat} {o:Oper}:L[i]?=some o→E1 o j=true→PC L i j
 |step {i d j:Nat} {o:Oper}:L[i]?=some o→E1 o d=true→PC L d j→PC L i j
theorem Lk{L:List Oper}{p:Nat→Prop}(a:∀d o,L[d]?=some o→p d→∀k,E1 o k=true→p k){i j:Nat}(h:PC L i j):(∀o,L[i]?=some o→∀k,E1 o k=true→p k)→p j:=by
 induction h with
 |one b c=>exact fun hi=>hi _ b _ c
 |step b c _ ih=>exact fun hi=>ih fun o' e k f=>a _ o' e (hi _ b _ c) k f
def RU (acc:List Nat) (m:Nat) (e:Edge):Nat:=if Region.binds .any e then m|||(2^e.on|||acc.getD e.on 0) else m
def NL(acc:List Nat)(o:Oper):Nat:=o.after.toList.foldl (RU acc) 0
def Pm:List Oper→List Nat→List Nat
 |[],acc=>acc
 |o::R,acc=>Pm R (acc++[NL acc o])
def Kg (L:List Oper) (m:Nat):Bool:=(List.range L.length).all fun i=>Nat.blt i m||(List.range i).all fun j=>(match L[i]? with|some o=>E1 o j|none=>false)||((Pm L []).getD i 0).testBit j
theorem RV{acc:List Nat}{o:Oper}{j:Nat}(h:(NL acc o).testBit j=true):∃d,E1 o d=true∧(d=j∨(acc.getD d 0).testBit j=true):=by
 have key:∀(es:List Edge) (m:Nat),(es.foldl (RU acc) m).testBit j=true→m.testBit j=true∨∃e∈es,Region.binds .any e=true∧(e.on=j∨(acc.getD e.on 0).testBit j=true):=by
  intro es
  induction es with
  |nil=>intro m h;exact .inl h
  |cons e es ih=>
   intro m h;rw[List.foldl_cons] at h;rcases ih _ h with a|⟨f,c,a⟩
   ·unfold RU at a;split at a
    ·rename_i b
     rw[Nat.testBit_or,Nat.testBit_or,Bool.or_eq_true,Bool.or_eq_true,Nat.testBit_two_pow,decide_eq_true_eq] at a;rcases a with a|a
     ·exact .inl a
     ·exact .inr ⟨e,List.mem_cons_self ..,b,a⟩
    ·exact .inl a
   ·exact .inr ⟨f,List.mem_cons_of_mem _ c,a⟩
 rcases key _ _ h with a|⟨e,he,b,a⟩
 ·simp at a
 ·exact⟨e.on,Fv.2 ⟨e,by simpa using he,b,rfl⟩,a⟩
theorem NM{L:List Oper}:∀(R:List Oper) (acc:List Nat),L.drop acc.length=R→(∀i j,(acc.getD i 0).testBit j=true→PC L i j)→∀i j,((Pm R acc).getD i 0).testBit j=true→PC L i j
 |[],acc,_,h=>h
 |o::R,acc,c,h=>by
  unfold Pm;have e:L[acc.length]?=some o:=by
   have:(L.drop acc.length)[0]?=some o:=by rw[c];rfl
   simpa using this
  refine NM R _ (by rw[List.length_append,List.length_singleton,←List.tail_drop,c];rfl) fun i j a=>?_;rcases Nat.lt_trichotomy i acc.length with hi|hi|hi
  ·rw[List.getD_eq_getElem?_getD,List.getElem?_append_left hi,←List.getD_eq_getElem?_getD] at a;exact h i j a
  ·subst hi;have:(acc++[NL acc o]).getD acc.length 0=NL acc o:=by simp
   rw[this] at a;obtain⟨d,f,b⟩:=RV a;rcases b with rfl|b
   ·exact .one e f
   ·exact .step e f (h d j b)
  ·have:(acc++[NL acc o]).getD i 0=0:=by
    rw[List.getD_eq_getElem?_getD,List.getElem?_eq_none (by simp;omega)];rfl
   rw[this] at a;simp at a
theorem KM{L:List Oper}{m:Nat}(h:Kg L m=true){i:Nat}{o:Oper}(b:L[i]?=some o)(hi:m≤i):∀j,j<i→PC L i j:=by
 have c:i<L.length:=(List.getElem?_eq_some_iff.1 b).1;simp only[Kg,List.all_eq_true,List.mem_range] at h;have a:=h i c;rw[Bool.or_eq_true] at a;rcases a with a|a
 ·have:i<m:=by simpa[Nat.blt_eq] using a
  omega
 ·simp only[List.all_eq_true,List.mem_range,b,Bool.or_eq_true] at a;exact fun j d=>(a j d).elim (fun h=>.one b h) fun h=>NM L [] rfl (fun i j e=>by simp at e) i j h
theorem PD {m:Nat} (aP:Kg L m=true) (g:JE 0 L=true):∀(rest:List Oper) (j fuel:Nat) (listed:Array Bool) (a':Act) (w':World),L.drop j=rest→m≤j→rest.length≤fuel→listed.size=L.length→(∀i,i<L.length→(listed.getD i false=true↔i<j))→
  wpListIn (Wd X.ro) 0 P L.toArray Q rest a' w'→wpAnyIn (Wd X.ro) 0 P .any L.toArray Q fuel listed a' w':=by
 intro rest
 induction rest with
 |nil=>
  intro j fuel listed a' w' n hm u r f h;have z:L.length≤j:=List.drop_eq_nil_iff.1 n;have v:Region.ready .any L.toArray listed=[]:=by
   rw[List.eq_nil_iff_forall_not_mem];intro i hi;obtain⟨h0,o,q,_⟩:=mem_ready.1 hi;have s:i<L.length:=by simpa using(Array.getElem?_eq_some_iff.1 q).1
   have c:=(f i s).2 (by omega);have l:i<listed.size:=by omega
   simp[l] at h0 c;rw[h0] at c;cases c
  cases fuel with
  |zero=>exact⟨v,h⟩
  |succ fuel=>exact⟨fun _=>h,fun i hi=>by rw[v] at hi;cases hi⟩
 |cons o rest ih=>
  intro j fuel listed a' w' n hm u r f h;have z:j<L.length:=by
   rcases Nat.lt_or_ge j L.length with h|h
   ·exact h
   ·rw[List.drop_of_length_le h] at n;cases n
  have q:L[j]?=some o:=by
   have:(L.drop j)[0]?=some o:=by rw[n];rfl
   simpa using this
  have aA:L.drop (j+1)=rest:=by rw[←List.tail_drop,n];rfl
  cases fuel with
  |zero=>simp at u
  |succ fuel=>
   refine⟨fun v=>?_,fun i hi=>?_⟩
   ·exfalso;have hm:j∈Region.ready .any L.toArray listed:=mem_ready.2 ⟨by
     have:listed.getD j false=false:=by
      cases aQ:listed.getD j false with
      |false=>rfl
      |true=>have:=(f j z).1 aQ;omega
     have aI:j<listed.size:=by omega
     simp[aI] at this⊢;exact this,o,by simpa using q,fun e he b=>by
      rcases Nat.lt_or_ge e.on L.length with s|aJ
      ·refine(f e.on s).2 ?_;exact E2 g j o q e he b|>fun h=>by omega
      ·have:=E2 g j o q e he b;omega⟩
    rw[v] at hm;cases hm
   ·obtain⟨h0,o',aB,y⟩:=mem_ready.1 hi;have aK:i<L.length:=by simpa using(Array.getElem?_eq_some_iff.1 aB).1
    have l:i<listed.size:=by omega
    have aC:listed.getD i false=false:=by simp[l] at h0⊢;exact h0
    have aJ:j≤i:=by
     rcases Nat.lt_or_ge i j with c|c
     ·rw[(f i aK).2 c] at aC;cases aC
     ·exact c
    have aL:i=j:=by
     rcases Nat.lt_or_ge j i with c|c
     ·have t:L[i]?=some o':=by simpa using aB
      have:=Lk (p:=fun x=>x<j) (fun d od aM aU k aH=>by
       obtain⟨e,he,b,aD⟩:=Fv.1 aH;have:=E2 g d od aM e he b;omega) (KM aP t (by omega) j c) (fun aR aE k aH=>by
       rw[t] at aE;obtain rfl:o'=aR:=by simpa using aE
       obtain⟨e,he,b,aD⟩:=Fv.1 aH;have aN:=y e he b;rw[aD] at aN;have aV:=E2 g i o' t e he b;exact(f k (by omega)).1 aN)
      omega
     ·omega
    subst aL;unfold wpOpIn;have aO:L.toArray[i]?=some o:=by simpa using q
    simp only[aO];unfold wpListIn at h;have aF:∀x,x<L.length→((listed.setIfInBounds i true).getD x false=true↔x<i+1):=by
     intro x aS
     by_cases aG:i=x
     ·subst aG;simp only[GN l,true_iff];omega
     ·rw[DW aG,f x aS];omega
    split
    ·rename_i hw
     rw[if_pos hw] at h;exact Oper.wpIn_mono (fun a w aT=>ih (i+1) fuel _ a w aA (by omega) (by simpa using u) (by simpa using r) aF aT) h
    ·rename_i hw
     rw[if_neg hw] at h;exact⟨h.1,ih (i+1) fuel _ _ _ aA (by omega) (by simpa using u) (by simpa using r) aF h.2⟩
theorem TM{m:Nat}(bS:m≤L.length)(bK:Kg L m=true)(bO:(sp.all fun k=>Nat.blt k m)=true)(a2:∀k w w',Ext w w'→S k w w')(cF:∀k j v w w',j≠k→(∀o,L[j]?=some o→E1 o k=false)→Φ j v w→S k w w'→Φ j v w')(D:Nat→List Nat)(cG:okD L sp D=true)(cH:∀k x w y w',T k x w→Ext w w'→(∀s,s∈D k→sl y s=sl x s)→T k y w')(aN:ME N L sp=true)(bT:St X N a l)
  (bU:L1 P L a l S T Φ sp m 0 L)(bP:∀w',Lj X N a Φ (T sp.length) (fun bG=>WL P X N L.toArray Q (L.drop m) a bG w') w' m 0 L l):
  ∀(fuel:Nat) (listed:Array Bool) (a':Act) (w':World),listed.toList.count false≤fuel→Inv (X:=X) (N:=N) (L:=L) (a:=a) (l:=l) (T:=T) (Φ:=Φ) (sp:=sp) listed a' w'→(∀j,m≤j→listed.getD j false=false)→
   wpAnyIn (Wd X.ro) 0 P .any L.toArray Q fuel listed a' w':=by
 simp only[ME,Bool.and_eq_true] at aN;obtain⟨⟨bL,bV⟩,bW⟩:=aN;obtain⟨bX,cP,cQ,_⟩:=L0 bW;have aF:=Jw bV
 
 have fin:∀(fuel:Nat) (listed:Array Bool) (a':Act) (w':World),listed.toList.count false≤fuel→Inv (X:=X) (N:=N) (L:=L) (a:=a) (l:=l) (T:=T) (Φ:=Φ) (sp:=sp) listed a' w'→(∀j,m≤j→listed.getD j false=false)→(∀j,j<m→listed.getD j false=true)→wpAnyIn (Wd X.ro) 0 P .any L.toArray Q fuel listed a' w':=by
  intro fuel listed a' w' a3 b q aS;obtain⟨ph,aW,hle,aB⟩:=b.ph;have a4:ph=sp.length:=by
   rcases Nat.lt_or_ge ph sp.length with t|a5
   ·have bY:sp[ph]<m:=by
     have:=List.all_eq_true.1 bO sp[ph] (List.getElem_mem t);simpa[Nat.blt_eq] using this
    have bH:=(aB ph sp[ph] (List.getElem?_eq_getElem t)).1 (aS _ bY);omega
   ·omega
  subst a4;have bZ:wpListIn (Wd X.ro) 0 P L.toArray Q (L.drop m) a' w':=by
   refine MF (T sp.length) (fun bG=>WL P X N L.toArray Q (L.drop m) a bG w') w' a' aW b.sz b.df (fun bG st cI e=>by rw[e];exact cI st) m L 0 l bT bS (fun i d hi=>(aF i i d hi).1) (fun i j d hi g=>(aF i j d hi).2 g) (bP w') (fun i d a9 hi=>?_) (fun s u=>?_)
   ·rw[Nat.zero_add];exact b.done i d (aS i a9) hi
   ·refine b.out s fun j g=>?_;rcases Nat.lt_or_ge j m with h|h
    ·exact absurd g (u j h)
    ·exact q j h
  refine PD bK bL (L.drop m) m fuel listed a' w' rfl (Nat.le_refl _) ?_ b.PA (fun i hi=>?_) bZ
  ·
   refine Nat.le_trans ?_ a3;have cR:listed.toList.length=L.length:=by simpa using b.PA
   have e:listed.toList.drop m=List.replicate (L.length-m) false:=by
    apply List.ext_getElem
    ·simp[b.PA]
    ·intro i aT bQ;simp at aT;have:=q (m+i) (by omega);rw[Array.getD_eq_getD_getElem?,Array.getElem?_eq_getElem (by omega)] at this;simpa using this
   have bQ:(listed.toList.drop m).count false≤listed.toList.count false:=(List.drop_sublist m listed.toList).count_le false;rw[e,List.count_replicate_self] at bQ;simpa using bQ
  ·rcases Nat.lt_or_ge i m with h|h
   ·simp[aS i h,h]
   ·simp only[q i h];constructor
    ·intro b1;cases b1
    ·intro b1;omega
 intro fuel
 induction fuel with
 |zero=>
  intro listed a' w' a3 b q;refine fin 0 listed a' w' a3 b q fun j g=>?_;have aP:j<listed.size:=by rw[b.PA];omega
  cases aA:listed[j] with
  |true=>simp[aP,aA]
  |false=>
   have:false∈listed.toList:=by rw[←aA];simp
   have:=List.count_pos_iff.2 this;omega
 |succ fuel ih=>
  intro listed a' w' a3 b q
  by_cases aX:∀j,j<m→listed.getD j false=true
  ·exact fin (fuel+1) listed a' w' a3 b q aX
  have hex:∃j,j<m∧listed.getD j false=false:=by
   false_or_by_contra
   rename_i b2
   refine aX fun j g=>?_;cases aA:listed.getD j false with
   |true=>rfl
   |false=>exact absurd ⟨j,g,aA⟩ b2
  constructor
  ·intro aG;exfalso;obtain⟨j,g,aA⟩:=hex;refine absurd aA ?_;rw[Bool.not_eq_false];clear aA
   induction j using Nat.strongRecOn with
   |_ j b3=>
    cases aA:listed.getD j false with
    |true=>rfl
    |false=>
     exfalso;have aP:j<listed.size:=by rw[b.PA];omega
     have hm:j∈Region.ready .any L.toArray listed:=mem_ready.2 ⟨by simp[aP] at aA⊢;exact aA,L[j],by simp,fun e he c=>by
      have aT:=E2 bL j L[j] (List.getElem?_eq_getElem (by omega)) e he c;exact b3 e.on (by omega) (by omega)⟩
     rw[aG] at hm;cases hm
  ·intro i hi;obtain⟨h0,o,b4,aE⟩:=mem_ready.1 hi;have aC:L[i]?=some o:=by simpa using b4
   have b5:i<L.length:=(List.getElem?_eq_some_iff.1 aC).1;have aL:i<listed.size:=by rw[b.PA];exact b5
   have aD:listed.getD i false=false:=by simp[aL] at h0⊢;exact h0
   have a9:i<m:=by
    rcases Nat.lt_or_ge i m with h|h
    ·exact h
    ·obtain⟨j,g,aA⟩:=hex;have:=Lk (p:=fun x=>listed.getD x false=true) (fun d od b6 aM k aN=>by
      obtain⟨e,he,c,n⟩:=Fv.1 aN;have:=b.down d od b6 aM e he c
      rwa[n] at this) (KM bK aC h j (by omega)) (fun cJ bM k aN=>by
      rw[aC] at bM;obtain rfl:o=cJ:=by simpa using bM
      obtain⟨e,he,c,n⟩:=Fv.1 aN;have:=aE e he c
      rwa[n] at this)
     rw[aA] at this;cases this
   obtain⟨ph,aW,hle,aB⟩:=b.ph;have aO:∀r,sp[r]?=some i→ph=r:=by
    intro r aU;have a5:¬r<ph:=fun t=>by
     have:=(aB r i aU).2 t;rw[aD] at this;cases this
    cases r with
    |zero=>omega
    |succ m=>
     have hm:m<sp.length:=by
      have:=(List.getElem?_eq_some_iff.1 aU).1;omega
     obtain⟨bR,aY,b7⟩:=bX m sp[m] i (List.getElem?_eq_getElem hm) aU;rw[aC] at aY;obtain rfl:o=bR:=by simpa using aY
     obtain⟨e,he,c,n⟩:=Fv.1 b7;have:=aE e he c;rw[n] at this;have:=(aB m sp[m] (List.getElem?_eq_getElem hm)).1 this;omega
   have bI:Hs L a l T Φ sp i o a' w' ph:=by
    refine⟨fun s u=>b.out s fun j g=>?_,fun j d o' g aV aH=>?_,fun j d g aI=>?_,aW,aO,fun r j o' b8 g aH=>?_⟩
    rotate_left 3
    ·rcases Nat.lt_or_ge r ph with t|a5
     ·have aZ:=(aB r j b8).2 t;obtain⟨e,he,c,n⟩:=Fv.1 aH;have:=b.down j o' g aZ e he c;rw[n,aD] at this;cases this
     ·exact a5
    ·have:=LZ.2 ⟨j,g⟩;rw[u] at this;cases this
    ·have b9:Ci L j=some d:=by simp[Ci,g,aV]
     refine b.out d fun cK aP=>?_;obtain rfl:=(aF j cK d b9).2 aP;cases aA:listed.getD j false with
     |false=>rfl
     |true=>
      obtain⟨e,he,c,n⟩:=Fv.1 aH;have:=b.down j o' g aA e he c;rw[n,aD] at this;cases this
    ·obtain⟨e,he,c,n⟩:=Fv.1 g;have:=aE e he c;rw[n] at this;exact b.done j d this aI
   
   have step:∀v Bc,Φ i v Bc→S i w' Bc→(∃aJ,T aJ (a'.put o.dst v) Bc∧aJ≤sp.length∧∀(r k:Nat),sp[r]?=some k→((listed.setIfInBounds i true).getD k false=true↔r<aJ))→
     wpAnyIn (Wd X.ro) 0 P .any L.toArray Q fuel (listed.setIfInBounds i true) (a'.put o.dst v) Bc:=by
    intro v Bc bJ cL a4;have aM:Ci L i=o.dst:=by simp[Ci,aC]
    refine ih _ _ _ ?_ ?_ (fun j g=>by rw[DW (by omega)];exact q j g)
    ·have t:i<listed.toList.length:=by simpa using aL
     have bA:listed.toList[i]=false:=by
      simp[aL] at aD;simpa using aD
     have cA:(listed.setIfInBounds i true).toList=listed.toList.set i true:=by simp
     rw[cA,List.count_set t,bA];have aT:0<listed.toList.count false:=List.count_pos_iff.2 (by rw[←bA];exact List.getElem_mem t);have cM:(if (false==false)=true then 1 else 0)=1:=rfl;have cN:(if (true==false)=true then 1 else 0)=0:=rfl;rw[cM,cN];omega
    ·have bB:∀s,(∀d,o.dst=some d→d≠s)→sl (a'.put o.dst v) s=sl a' s:=by
      intro s u;cases aV:o.dst with
      |none=>rfl
      |some d=>exact L2 (u d aV)
     refine⟨by simp[b.PA],?_,?_,?_,?_,?_,a4⟩
     ·cases o.dst<;>simp[Act.put,b.sz]
     ·cases o.dst<;>simp[Act.put,b.df]
     ·intro s u;rw[bB s (fun d aV bC=>by
       subst bC;have:=u i (by rw[aM,aV]);rw[GN aL] at this;cases this)]
      refine b.out s fun j g=>?_;have:=u j g
      by_cases z:i=j
      ·subst z;exact aD
      ·rwa[DW z] at this
     ·intro j d g aI
      by_cases z:i=j
      ·subst z;rw[aM] at aI;have t:d<a'.tmps.size:=by rw[b.sz];exact(aF i i d (by rw[aM,aI])).1
       rw[aI,M4 t];exact bJ
      ·rw[DW z] at g;have aT:=cF i j _ _ _ (Ne.symm z) (fun bD cB=>by
        cases bE:E1 bD i with
        |false=>rfl
        |true=>
         obtain⟨e,he,c,n⟩:=Fv.1 bE;have:=b.down j bD cB g e he c;rw[n,aD] at this;cases this) (b.done j d g aI) cL
       have:sl (a'.put o.dst v) d=sl a' d:=by
        refine bB d fun cO cC bE=>?_;subst bE;exact z ((aF i j cO (by rw[aM,cC])).2 aI)
       rw[this];exact aT
     ·intro j bD g aZ e he c
      by_cases bN:i=e.on
      ·rw[←bN];exact GN aL
      ·rw[DW bN]
       by_cases z:i=j
       ·subst z;rw[aC] at g;obtain rfl:o=bD:=by simpa using g
        exact aE e he c
       ·rw[DW z] at aZ;exact b.down j bD g aZ e he c
   have bF:∀v Bc,Ext w' Bc→i∉sp→∃aJ,T aJ (a'.put o.dst v) Bc∧aJ≤sp.length∧∀(r k:Nat),sp[r]?=some k→((listed.setIfInBounds i true).getD k false=true↔r<aJ):=by
    intro v Bc bH aQ;refine⟨ph,cH _ _ _ _ _ aW bH (fun s u=>?_),hle,fun r k aK=>?_⟩
    ·cases aV:o.dst with
     |none=>rfl
     |some d=>
      refine L2 fun bC=>?_;subst bC;obtain⟨m,k,hm,aN,cD⟩:=TK cG hle u (i:=i) (by simp[Ci,aC,aV]);have cE:=(aB m k aN).2 hm;rcases cD with rfl|⟨bR,aY,aH⟩
      ·exact aQ (List.mem_of_getElem? aN)
      ·obtain⟨e,he,c,n⟩:=Fv.1 aH;have:=b.down k bR aY cE e he c;rw[n,aD] at this;cases this
    rw[DW (fun aR=>aQ (by rw[aR];exact List.mem_of_getElem? aK))];exact aB r k aK
   unfold wpOpIn;simp only[b4];rcases PB bU i o a9 aC a' w' ph (by rw[Nat.zero_add];exact bI) with⟨hw,bH⟩|⟨hw,hu,aQ⟩
   ·rw[if_pos hw];refine(bH.wp fun v Bc aG=>?_);rw[Nat.zero_add] at aG;obtain⟨bJ,aG⟩:=aG
    by_cases u:i∈sp
    ·rw[if_pos u] at aG;refine step v Bc bJ aG.1 ⟨ph+1,aG.2,?_,fun r k aK=>?_⟩
     ·obtain⟨m,hm,a0⟩:=List.mem_iff_getElem.1 u;have:=aO m (by rw[List.getElem?_eq_getElem hm,a0]);omega
     ·by_cases aR:i=k
      ·subst aR;have:=aO r aK;simp only[GN aL,true_iff];omega
      ·rw[DW aR,aB r k aK];have cS:r≠ph:=by
        intro e;obtain⟨m,hm,a0⟩:=List.mem_iff_getElem.1 u;have aT:=aO m (by rw[List.getElem?_eq_getElem hm,a0]);rw[e,aT,List.getElem?_eq_getElem hm,a0] at aK;exact aR (by simpa using aK)
       omega
    ·rw[if_neg u] at aG;exact step v Bc bJ (a2 _ _ _ aG) (bF v Bc aG u)
   ·rw[if_neg (by rw[hw];simp)];rw[Nat.zero_add] at hu aQ;exact⟨fun f _=>NH X.ro f,step undef w' hu (a2 _ _ _ (Ext.refl _)) (bF undef w' (Ext.refl _) aQ)⟩
structure KV (S:World→World→Prop) where
 p:Value→World→Prop
 st:∀v w w',p v w→S w w'→p v w'
def Kc {S:World→World→Prop} (c:Value):KV S:=⟨fun v _=>v=c,fun _ _ _ h _=>h⟩
def Kt{S:World→World→Prop}:KV S:=⟨fun _ _=>True,fun _ _ _ h _=>h⟩
def Ll{S:World→World→Prop}(a:List (KV S))(j:Nat):Value→World→Prop:=(a.getD j Kt).p
theorem CT(w:World):Ext w w.drew:=⟨rfl,rfl,rfl,Nat.le_refl _,fun _ _ _=>rfl⟩
theorem HW(L:List Oper)(sp:List Nat):okD L sp (fun _=>[])=true:=by simp[okD]
def PE (L:List Oper) (k:Nat) (w w':World):Nat→List (KV Ext)→Prop
 |_,[]=>True
 |i,x::xs=>(i≠k→(∀o,L[i]?=some o→E1 o k=false)→∀v,x.p v w→x.p v w')∧PE L k w w' (i+1) xs
def Ux(L:List Oper)(a:List (KV Ext))(k:Nat)(w w':World):Prop:=∀j,j≠k→(∀o,L[j]?=some o→E1 o k=false)→∀v,Ll a j v w→Ll a j v w'
theorem Ih{a:List (KV Ext)}{k:Nat}{w w':World}(h:PE L k w w' 0 a):Ux L a k w w':=by
 have key:∀(a:List (KV Ext)) (i:Nat),PE L k w w' i a→∀j,i+j≠k→(∀o,L[i+j]?=some o→E1 o k=false)→∀v,(a.getD j Kt).p v w→(a.getD j Kt).p v w':=by
  intro a
  induction a with
  |nil=>intro i _ j _ _ v h;simpa[Kt] using h
  |cons x xs ih=>
   intro i h j d b v c;cases j with
   |zero=>exact h.1 d b v c
   |succ j=>exact ih (i+1) h.2 j (by omega) (by rw[show i+1+j=i+(j+1) by omega];exact b) v c
 exact fun j d b v c=>key a 0 h j (by omega) (by rw[Nat.zero_add];exact b) v c
theorem HX {id:Nat} (m:Nat) (T:Nat→Act→World→Prop) (D:Nat→List Nat) (sp:List Nat) (c:List (KV Ext)) (hm:P.follows .mixedOrders=true) (u:ME N L sp=true) (b:(Nat.ble m L.length&&Kg L m&&(sp.all fun k=>Nat.blt k m))=true)
  (z:okD L sp D=true) (aA:∀k x w y w',T k x w→Ext w w'→(∀s,s∈D k→sl y s=sl x s)→T k y w') (q:St X N a l→T 0 (Cl a l) w.drew)
  (r:L1 P L a l (Ux L c) T (Ll c) sp m 0 L) (n:∀w',Lj X N a (Ll c) (T sp.length) (fun aB=>WL P X N L.toArray Q (L.drop m) a aB w') w' m 0 L l):CC P X N (.region id L.toArray true) Q a l w:=fun st=>
 wpIn_region_any hm (by
  simp only[Bool.and_eq_true] at b;have aC:Inv (X:=X) (N:=N) (L:=L) (a:=a) (l:=l) (T:=T) (Φ:=Ll c) (sp:=sp) (Array.replicate L.length false) (Cl a l) w.drew:=by
   have p:∀j,(Array.replicate L.length false).getD j false=false:=by
    intro j;rw[Array.getD_eq_getD_getElem?];rcases Nat.lt_or_ge j L.length with h|h
    ·simp[h]
    ·simp[h]
   refine⟨by simp,by rw[JB,st.sz],by rw[Ev,st.df],fun s _=>J6 st s,fun j d h=>?_,fun j o _ h=>?_,⟨0,q st,Nat.zero_le _,fun i k _=>?_⟩⟩
   ·rw[p j] at h;cases h
   ·rw[p j] at h;cases h
   ·rw[p k];simp
  have f:=TM (m:=m) (by simpa[Nat.ble_eq] using b.1.1) b.1.2 b.2 (S:=Ux L c) (fun _ w w' g j _ _ v=>fun h=>(c.getD j Kt).st v w w' h g) (fun k j v w w' t aD h aE=>aE j t aD v h) D z aA u st r n L.length (Array.replicate L.length false) (Cl a l) w.drew (by
   refine Nat.le_trans (List.count_le_length ..) (by simp)) aC (fun j _=>by
    rw[Array.getD_eq_getD_getElem?];rcases Nat.lt_or_ge j L.length with h|h
    ·simp[h]
    ·simp[h])
  have e:L.toArray.size=L.length:=by simp
  rw[e];exact f)
theorem B1 {id:Nat} (m:Nat) (b:List (KV Ext)) (hm:P.follows .mixedOrders=true) (f:ME N L []=true) (d:(Nat.ble m L.length&&Kg L m&&true)=true)
  (e:L1 P L a l (Ux L b) (fun _ _ w'=>Ext w w') (Ll b) [] m 0 L) (c:∀w',Lj X N a (Ll b) (fun _ w'=>Ext w w') (fun i=>WL P X N L.toArray Q (L.drop m) a i w') w' m 0 L l):CC P X N (.region id L.toArray true) Q a l w:=
 HX m (fun _ _ w'=>Ext w w') (fun _=>[]) [] b hm f d (HW L []) (fun _ _ _ _ _ h g _=>Ext.trans h g) (fun _=>CT w) e c
theorem I9{k:Nat}{o:Oper}(c:o.guard=none)(d:sp.contains k=false)(h:∀a' w' ph,Hs L a l T Φ sp k o a' w' ph→B7 P o a' w' (fun v Bc=>Φ k v Bc∧Ext w' Bc)):GM P L a l S T Φ sp k o:=fun a' w' ph hK=>
 .inl ⟨by unfold Region.wanted;rw[c],(h a' w' ph hK).mono fun v Bc b=>⟨b.1,by
  have:k∉sp:=by simpa using d
  rw[if_neg this];exact b.2⟩⟩
theorem WQ{k:Nat}{o:Oper}{c:Value}(b:o.guard=none)(d:sp.contains k=false)(e:∀w,Φ k c w)(h:∀a' w' ph,Hs L a l T Φ sp k o a' w' ph→B7 P o a' w' (fun u Bc=>u=c∧Bc=w')):GM P L a l S T Φ sp k o:=
 I9 b d fun a' w' ph hK=>(h a' w' ph hK).mono (by rintro _ _ ⟨rfl,rfl⟩;exact⟨e _,Ext.refl _⟩)
theorem Hw{k:Nat}{o:Oper}(c:o.guard=none)(d:sp.contains k=true)(h:∀a' w' ph,Hs L a l T Φ sp k o a' w' ph→B7 P o a' w' (fun v Bc=>Φ k v Bc∧S k w' Bc∧T (ph+1) (a'.put o.dst v) Bc)):GM P L a l S T Φ sp k o:=fun a' w' ph hK=>
 .inl ⟨by unfold Region.wanted;rw[c],(h a' w' ph hK).mono fun v Bc b=>⟨b.1,by
  have:k∈sp:=by simpa using d
  rw[if_pos this];exact b.2⟩⟩
theorem M5{a':Act}{j d:Nat}{b:Bool}(c:Ci L j=some d)(a:sl a' d=.bool b):yielded L.toArray a'.tmps j=some b:=by
 unfold yielded;unfold Ci at c;have e:((L.toArray)[j]?).bind (·.dst)=some d:=by simpa using c
 simp only[e,Option.bind_some];unfold sl at a;rw[Array.getD_eq_getD_getElem?] at a;cases f:a'.tmps[d]? with
 |none=>rw[f] at a;simp[undef] at a
 |some u=>rw[f] at a;simp at a;rw[a]
theorem J7{k j d:Nat}{o:Oper}{b:Bool}(e:o.guard=some (j,b))(f:Ci L j=some d)(g:sp.contains k=false)(i:∀a' w' ph,Hs L a l T Φ sp k o a' w' ph→sl a' d=.bool b)
  (h:∀a' w' ph,Hs L a l T Φ sp k o a' w' ph→B7 P o a' w' (fun v Bc=>Φ k v Bc∧Ext w' Bc)):GM P L a l S T Φ sp k o:=fun a' w' ph hK=>
 .inl ⟨by unfold Region.wanted;rw[e];simp[M5 f (i a' w' ph hK)],(h a' w' ph hK).mono fun v Bc c=>⟨c.1,by
  have:k∉sp:=by simpa using g
  rw[if_neg this];exact c.2⟩⟩
theorem Db{k j d:Nat}{o:Oper}{b:Bool}{c:Value}(e:o.guard=some (j,b))(f:Ci L j=some d)(g:sp.contains k=false)(i:∀w,Φ k c w)(m:∀a' w' ph,Hs L a l T Φ sp k o a' w' ph→sl a' d=.bool b)
  (h:∀a' w' ph,Hs L a l T Φ sp k o a' w' ph→B7 P o a' w' (fun u Bc=>u=c∧Bc=w')):GM P L a l S T Φ sp k o:=
 J7 e f g m fun a' w' ph hK=>(h a' w' ph hK).mono (by rintro _ _ ⟨rfl,rfl⟩;exact⟨i _,Ext.refl _⟩)
theorem EF{k j d:Nat}{o:Oper}{b c:Bool}(e:o.guard=some (j,b))(f:Ci L j=some d)(g:sp.contains k=false)(h:c≠b)(i:∀a' w' ph,Hs L a l T Φ sp k o a' w' ph→sl a' d=.bool c)(m:∀w,Φ k undef w):GM P L a l S T Φ sp k o:=fun a' w' ph hK=>
 .inr ⟨by unfold Region.wanted;rw[e];simp[M5 f (i a' w' ph hK),h],m _,by simpa using g⟩
theorem Ph{a':Act}{j d:Nat}(b:Ci L j=some d)(a:sl a' d=undef):yielded L.toArray a'.tmps j=none:=by
 unfold yielded;unfold Ci at b;have c:((L.toArray)[j]?).bind (·.dst)=some d:=by simpa using b
 simp only[c,Option.bind_some];unfold sl at a;rw[Array.getD_eq_getD_getElem?] at a;cases e:a'.tmps[d]? with
 |none=>rfl
 |some u=>rw[e] at a;simp at a;rw[a];rfl
theorem Fz{k j d:Nat}{o:Oper}{b:Bool}(c:o.guard=some (j,b))(e:Ci L j=some d)(f:sp.contains k=false)(g:∀a' w' ph,Hs L a l T Φ sp k o a' w' ph→sl a' d=undef)(h:∀w,Φ k undef w):GM P L a l S T Φ sp k o:=fun a' w' ph hK=>
 .inr ⟨by unfold Region.wanted;rw[c];simp[Ph e (g a' w' ph hK)],h _,by simpa using f⟩
def Kn (B:Nat) (mk:Nat→Value) (t:TypeId) (cs:Array Value):KV Ext:=⟨fun v w=>∃b,v=mk b∧B≤b∧Bk w b t cs,fun _ _ _ ⟨b,a,c,d⟩ h=>⟨b,a,c,d.ext h⟩⟩
theorem Uy{w w' Bc:World}{mk:Nat→Value}{t:TypeId}{cs:Array Value}{u:Value}(h0:w.heap.size≤w'.heap.size)(h:∃b,u=mk b∧KK w' Bc b t cs):(Kn w.heap.size mk t cs).p u Bc∧Ext w' Bc:=by
 obtain⟨b,hu,a⟩:=h;exact⟨⟨b,hu,by rw[a.EZ];exact h0,a.bk⟩,a.gr⟩
end
def T2 (w:World) (r:Nat) (M:World→Prop):Nat→World→Prop
 |0,w'=>Ext w w'
 |_+1,w'=>HV r w w'∧M w'
theorem RW{a b:World}{r:Nat}(h:Ext a b):HV r a b:=⟨h.os,h.tape,h.output,h.size,fun k c _=>h.block k c (by simp)⟩
theorem PF{w w':World}{r ph:Nat}{M:World→Prop}(h:T2 w r M ph w'):HV r w w':=by
 cases ph with
 |zero=>exact RW h
 |succ=>exact h.1
theorem Bk.t2{w w':World}{r ph b:Nat}{t:TypeId}{cs:Array Value}{M:World→Prop}(h:Bk w b t cs)(g:T2 w r M ph w')(a:b≠r):Bk w' b t cs:=h.Pv (PF g) a
theorem Rd.t2{w w':World}{r ph lo hi:Nat}{A:Option Addr}{cs:List Value}{M:World→Prop}(h:Rd w lo hi A cs)(g:T2 w r M ph w')(a:r<lo∨hi≤r):Rd w' lo hi A cs:=h.Pv (PF g) a
abbrev I(n:Int):Value:=.int .i64 n
abbrev pt(b o:Nat):Value:=.pointer (some ⟨b,o,none⟩)
section
variable{P:Program}{X:Ctx}{N:Nat}{ops:Array Oper}{Q:Exit→Act→World→Prop}{rest:List Oper}{a:Act}{l:Env}{w:World}{op:Op}{ty:TypeId}{pos:String}{B6:Array Edge}{d:Nat}
theorem wd{v:Value}{w':World}(b:Nat.blt d N=true)(c:St X N a l→B7 P ⟨some d,op,ty,pos,B6,none⟩ (Cl a l) w (fun u Bc=>u=v∧Bc=w'))(e:WL P X N ops Q rest a ((d,v)::l) w'):WL P X N ops Q (⟨some d,op,ty,pos,B6,none⟩::rest) a l w:=
 WM rfl rfl (by simpa[Nat.blt_eq] using b) c e
theorem wm{x:Operand}{v:Value}(b:Nat.blt d N=true)(c:ev a l x=v)(e:WL P X N ops Q rest a ((d,v)::l) w):WL P X N ops Q (⟨some d,.move x,ty,pos,B6,none⟩::rest) a l w:=
 wd b (fun st=>Ay (ee st c)) e
theorem wa{x:Operand}{v:Value}(b:Nat.blt d N=true)(c:ev a l x=v)(e:WL P X N ops Q rest a ((d,v)::l) w):WL P X N ops Q (⟨some d,.assign x,ty,pos,B6,none⟩::rest) a l w:=
 wd b (fun st=>Nl (ee st c)) e
theorem we{R:Value→World→Prop}(b:Nat.blt d N=true)(c:St X N a l→B7 P ⟨some d,op,ty,pos,B6,none⟩ (Cl a l) w R)(e:∀v w',R v w'→WL P X N ops Q rest a ((d,v)::l) w'):WL P X N ops Q (⟨some d,op,ty,pos,B6,none⟩::rest) a l w:=
 Uu rfl rfl (by simpa[Nat.blt_eq] using b) c e
end
section
variable{P:Program}{a:Act}{w:World}{dst:Option Tmp}{ty:TypeId}{pos:String}{B6:Array Edge}{g:Option (Nat×Bool)}
theorem U1{f:Operand}{xs:Array Operand}{b:Array TypeId}{l:Nat}{vs:Array Value}{R:Value→World→Prop}(c:a.eval f=.func (.yield l) #[] #[])(d:xs.map a.eval=vs)
  (h:YieldAt Fence.wide 0 P l vs w (fun e w'=>∃v,e=.returned v∧R v w')):B7 P ⟨dst,.call {callee:=.value f,args:=xs,argTypes:=b},ty,pos,B6,g⟩ a w R:=by
 obtain⟨fn,tmps,assign,body,i,j⟩:=h;have k:(execOp a.eval ⟨dst,.call {callee:=.value f,args:=xs,argTypes:=b},ty,pos,B6,g⟩).run P w=.ok (.round l fn tmps assign body) w:=by
  simp only[execOp,resolve,c,d,Deferred.ofValue];simp only[Sem.run_bind,Sem.run_pure,Result.andThen_ok,invoke];simpa using i
 unfold B7;rw[k];exact j
end
theorem B3{w w':World}{k:Nat}{o:Obj}(h:w.heap[k]?=some o)(g:Ext w w'):w'.heap[k]?=some o:=(g.block k (Array.getElem?_eq_some_iff.1 h).1 (by simp)).trans h
def mark(D:Nat):List Deferred:=[{target:=.collected D,args:= #[]}]
abbrev X1(D:Nat):Ctx:=⟨none,mark D⟩
abbrev XR(r:Nat):Ctx:=⟨some r,[]⟩
def Kh(a:Act)(D:Nat):Act:={a with defers:=mark D}
theorem OP(a:Act)(D:Nat):∀l:Env,Cl (Kh a D) l=Kh (Cl a l) D
 |[]=>rfl
 |(d,v)::l=>by simp only[Cl,OP a D l];rfl
theorem St.Kh{N:Nat}{a:Act}{l:Env}(s:St X0 N a l)(D:Nat):St (X1 D) N (Kh a D) l:=⟨s.sz,rfl,s.lt⟩
theorem St.inr{N:Nat}{a:Act}{l:Env}(s:St X0 N a l)(r:Nat):St (XR r) N a l:=⟨s.sz,s.df,s.lt⟩
theorem Ib(w:World)(r:Nat)(o:Obj):HV r w (w.putObj r o):=
 ⟨rfl,rfl,rfl,by simp,fun k _ a=>World.putObj_heap_other (fun e=>a (by rw[e]))⟩
section
variable{P:Program}{N:Nat}{Q:Exit→Act→World→Prop}{a:Act}{l:Env}{w:World}
def NN(a:Act)(l:Env)(fn:FuncId)(ps:Array Nat)(assign body:Code)(D:Nat):Loop:=
 {state:=.ready,pending:=none,fn,tmps:=(Cl a l).tmps,params:=ps,assign,body,defers:=D}
structure RX(lp:Loop)(a:Act)(l:Env)(qs:Array Nat)(assign body:Code):Prop where
 st:lp.state=.ready
 pe:lp.pending=none
 tm:lp.tmps=(Cl a l).tmps
 ps:lp.params=qs
 ZN:lp.assign=assign
 bo:lp.body=body
theorem TN{g:Operand}{p:Array Nat}{assign body:Code}{b:FuncId}{cap:Array Value}(q:Ba P b)(t:ev a l g=.func (.func b) #[] cap)
  (h:St X0 N a l→∀(lp:Loop) (w1:World),RX lp a l p assign body→Ext w w1→w1.heap.size=w.heap.size+2→w1.heap[w.heap.size]?=some (.deferred (some []))→w1.heap[w.heap.size+1]?=some (.loop lp)→
   BW P b (#[.func (.yield (w.heap.size+1)) #[] #[]]++cap) w1 (fun _ f=>∃r,f.heap[w.heap.size+1]?=some (.loop r)∧r.state≠.busy∧
    (r.pending=none→∀d,HV (w.heap.size+1) f d→LV (X1 w.heap.size) N Q .normal (Kh a w.heap.size) l d)∧
    (∀c,r.pending=some c→∀d,HV (w.heap.size+1) f d→CC P (X1 w.heap.size) N c Q (Kh a w.heap.size) l d))):
  CC P X0 N (.rangeFunc g p assign body) Q a l w:=fun s=>by
 refine wpIn_rangeFunc (F:=Fence.wide) fun fn _=>?_;have j:(Cl a l).eval g=.func (.func b) #[] cap:=ee s t
 let w1:=(w.alloc (.deferred (some []))).alloc (.loop (NN a l fn p assign body w.heap.size))
 have u:Ext w w1:=Ext.trans (World.grownBy_alloc w _ _) (World.grownBy_alloc _ _ _);have k:w1.heap.size=w.heap.size+2:=by simp[w1]
 have x:w1.heap[w.heap.size]?=some (.deferred (some [])):=by
  have y:(w.alloc (.deferred (some []))).heap[w.heap.size]?=some (.deferred (some [])):=World.alloc_heap_new w _;exact(Below.heap_alloc _ _ _ (by simp)).trans y
 have m:w1.heap[w.heap.size+1]?=some (.loop (NN a l fn p assign body w.heap.size)):=by
  have:=World.alloc_heap_new (w.alloc (.deferred (some []))) (.loop (NN a l fn p assign body w.heap.size));simpa[w1] using this
 have i:=h s (NN a l fn p assign body w.heap.size) w1 ⟨rfl,rfl,rfl,rfl,rfl,rfl⟩ u k x m;refine⟨w.heap.size+1,mark w.heap.size,w1,⟨.fn (.func b) cap, #[]++ #[.func (.yield (w.heap.size+1)) #[] #[]]⟩,w1,b, #[.func (.yield (w.heap.size+1)) #[] #[]]++cap,w1,run_enterLoop_outer fn _ _ _ _,?_,fun _ _=>trivial,?_,TH none,?_⟩
 ·have z:(#[Operand.const (.func (.yield (w.heap.size+1)) #[] #[])]).map (Cl a l).eval= #[.func (.yield (w.heap.size+1)) #[] #[]]:=Cf rfl;simp only[resolve,j,Deferred.ofValue,z];simp only[Sem.run_bind,Sem.run_pure,Result.andThen_ok]
 ·simp[invoke,LX q]
 ·have aA:CallsIn Fence.wide (0-1) P b (#[.func (.yield (w.heap.size+1)) #[] #[]]++cap) w1 _:=callsIn_wide.2 i;refine aA.mono ?_;rintro e f ⟨v,rfl,r,aB,aC,aD,aE⟩;refine⟨r.pending,_,run_endLoop aB aC,?_⟩;have n:mark w.heap.size++(Cl a l).defers=mark w.heap.size:=by rw[Ev,s.df];rfl
  have he:({Cl a l with defers:=mark w.heap.size++(Cl a l).defers}:Act)=Cl (Kh a w.heap.size) l:=by rw[OP,n];rfl
  cases o:r.pending with
  |none=>simp only[];rw[he];exact aD o _ (Ib _ _ _) (s.Kh _)
  |some c=>simp only[];rw[he];exact aE c o _ (Ib _ _ _) (s.Kh _)
theorem IW {r:Nat} {lp:Loop} {p:Nat} {assign body:Code} {v:Value} {R:Value→World→Prop} (s:St X0 N a l) (f:w.heap[r]?=some (.loop lp)) (b:RX lp a l #[p] assign body)
  (h:CC P (XR r) N assign (Exit.then (fun g i=>∃c,(Instr.beginRound r).run P i=.ok () c∧CW P (XR r).ro body (roundPost P r (fun e w'=>∃v,e=.returned v∧R v w')) g c) (fun _ _ _=>False)) a ((p,v)::l) w) (d:p<N):
  YieldAt Fence.wide 0 P r #[v] w (fun e w'=>∃v,e=.returned v∧R v w'):=by
 refine⟨_,_,_,_,run_yield f (by rw[b.ps];rfl),?_⟩;have j:((lp.params.zip #[v]).foldl (fun tmps (t,a)=>tmps.setIfInBounds t a) lp.tmps)=(Cl a ((p,v)::l)).tmps:=by
  rw[b.ps,b.tm];simp[Cl,Act.put]
 rw[j,b.ZN,b.bo];refine roundIn_of_wpIn trivial ?_;have k:=h ((s.inr r).cons d v);have m:({tmps:=(Cl a ((p,v)::l)).tmps,defers:=[]}:Act)=Cl a ((p,v)::l):=by
  have:(Cl a ((p,v)::l)).defers=[]:=by rw[Ev];exact s.df
  rw[←this]
 rw[m];exact k
theorem IX{r:Nat}{lp:Loop}{body:Code}{R:Ending→World→Prop}(b:w.heap[r]?=some (.loop lp))(d:lp.state=.ready)
  (h:∀w',HV r w w'→w'.heap[r]?=some (.loop {lp with state:=.busy})→CC P (XR r) N body (roundPost P r R) a l w'):
  LV (XR r) N (Exit.then (fun e f=>∃c,(Instr.beginRound r).run P f=.ok () c∧CW P (XR r).ro body (roundPost P r R) e c) (fun _ _ _=>False)) .normal a l w:=fun s=>
 ⟨_,run_beginRound b d,h _ (Ib _ _ _) (World.putObj_heap_same (Array.getElem?_eq_some_iff.1 b).1) s⟩
theorem G8{r:Nat}{lp:Loop}{R:Value→World→Prop}(b:w.heap[r]?=some (.loop lp))(h:∀w',HV r w w'→w'.heap[r]?=some (.loop {lp with state:=.ready,pending:=none})→R (.bool true) w'):
  LV (XR r) N (roundPost P r (fun e w'=>∃v,e=.returned v∧R v w')) .normal a l w:=fun _=>⟨_,_,run_endRound none b,_,rfl,h _ (Ib _ _ _) (World.putObj_heap_same (Array.getElem?_eq_some_iff.1 b).1)⟩
theorem G6{r:Nat}{lp:Loop}{R:Value→World→Prop}(b:w.heap[r]?=some (.loop lp))(h:∀w',HV r w w'→w'.heap[r]?=some (.loop {lp with state:=.done,pending:=some .ret})→R (.bool false) w'):
  LV (XR r) N (roundPost P r (fun e w'=>∃v,e=.returned v∧R v w')) .ret a l w:=fun _=>⟨_,_,run_endRound (some .ret) b,_,rfl,h _ (Ib _ _ _) (World.putObj_heap_same (Array.getElem?_eq_some_iff.1 b).1)⟩
def PM (P:Program) (fn:Func) (R:Value→World→Prop):Exit→Act→World→Prop:=bodyPostM Fence.wide 0 P fn (fun e w'=>∃v,e=.returned v∧R v w')
theorem IE{f:FuncId}{fn:Func}{c:Code}{args:Array Value}{N:Nat}{R:Value→World→Prop}(b:P.funcs[f]?=some fn)(d:fn.body=some c)(e:fn.ntmps=N)(i:args.size≤N)
  (h:∀a:Act,a.tmps=args++Array.replicate (N-args.size) undef→a.defers=[]→CC P X0 N c (PM P fn R) a [] w):BW P f args w R:=by
 refine callsIn_wide.1 (callsIn_of_wp_marks (n:=0) b d trivial ?_);rw[e];exact h {tmps:=args++Array.replicate (N-args.size) undef,defers:=[]} rfl rfl ⟨by simp;omega,rfl,fun _ g=>by cases g⟩
theorem KC {fn:Func} {R:Value→World→Prop} (h:LV X0 N (bodyPost P fn (fun e w'=>∃v,e=.returned v∧R v w')) .ret a l w):LV X0 N (PM P fn R) .ret a l w:=fun s=>by
 obtain⟨b,v,c,d⟩:=h s;show LeavesInM Fence.wide 0 P fn _ _ (Cl a l).defers .returning w;rw[b];exact⟨v,c,d⟩
end
theorem G9{lp:Loop}{a:Act}{l:Env}{p:Array Nat}{assign body:Code}(h:RX lp a l p assign body):({{lp with state:=.busy} with state:=.ready,pending:=none}:Loop)=lp:=by
 obtain⟨b,c,_⟩:=h;cases lp;simp only at b c;subst b;subst c;rfl
section
variable{P:Program}{N:Nat}{Q:Exit→Act→World→Prop}{a:Act}{l:Env}{w:World}
theorem I6 {g:Operand} {p:Array Nat} {assign body:Code} {d:FuncId} {cap:Array Value} (i:Ba P d) (j:ev a l g=.func (.func d) #[] cap)
  (h:St X0 N a l→∀(lp:Loop) (w1:World) (D lo:Nat),RX lp a l p assign body→Ext w w1→w.heap.size≤D→D<w1.heap.size→w.heap.size≤lo→lo<w1.heap.size→lo≠D→w1.heap[D]?=some (.deferred (some []))→w1.heap[lo]?=some (.loop lp)→
   BW P d (#[.func (.yield lo) #[] #[]]++cap) w1 (fun _ e=>∃r,e.heap[lo]?=some (.loop r)∧r.state≠.busy∧
    (r.pending=none→∀b,HV lo e b→LV (X1 D) N Q .normal (Kh a D) l b)∧
    (∀c,r.pending=some c→∀b,HV lo e b→CC P (X1 D) N c Q (Kh a D) l b))):
  CC P X0 N (.rangeFunc g p assign body) Q a l w:=
 TN i j fun s lp w1 f k o m n=>h s lp w1 w.heap.size (w.heap.size+1) f k (Nat.le_refl _) (by omega) (by omega) (by omega) (by omega) m n
end
end Go.Proofs.YtamobliaoknclaaGreat
end
section
namespace Go.Proofs.YtamobliaoknclaaGreat
open Go.RowKit Go.WideShapes
section
variable{P:Program}{w:World}
theorem Ki{e:TypeId}(he:One P e)(x:List Int)(i:Nat)(hi:i<x.length):(part e (HQ x).toArray i).run P w=.ok (.int .i64 (x.getD i 0)) w:=by
 have:(HQ x).toArray[i]?=some (.int .i64 (x.getD i 0)):=TJ x i hi;simp only[part,Sem.run_bind,KL he,Result.andThen_ok,this];rfl
theorem M6{e:TypeId}(hu:P.underlying e=some (.int .i64))(d:Nat)(a b:Int):(Op.equalIn (d+1) e (.int .i64 a) (.int .i64 b)).run P w=.ok (a==b) w:=run_equalIn_int w d e .i64 .i64 a b hu
theorem M7{e:TypeId}(he:One P e)(hu:P.underlying e=some (.int .i64))(d:Nat)(x y:List Int):∀is:List Nat,(∀i∈is,i<x.length∧i<y.length)→
  (Op.eqItems (d+1) e 1 (HQ x).toArray (HQ y).toArray is).run P w=.ok (is.all fun i=>x.getD i 0==y.getD i 0) w
 |[],_=>by simp[Op.eqItems]
 |i::is,h=>by
  have ih:=M7 he hu d x y is (fun j a=>h j (List.mem_cons_of_mem _ a));obtain⟨b,c⟩:=h i (List.mem_cons_self ..);simp only[Op.eqItems,Sem.run_bind,Nat.mul_one,Ki he x i b,Ki he y i c,M6 hu,Result.andThen_ok,List.all_cons];cases f:(x.getD i 0==y.getD i 0)
  ·simp
  ·simpa using ih
theorem L3(x y:List Int)(n:Nat)(c:x.length=n)(d:y.length=n):((List.range n).all fun i=>x.getD i 0==y.getD i 0)=(x==y):=by
 rw[Bool.eq_iff_iff];simp only[List.all_eq_true,List.mem_range,beq_iff_eq];constructor
 ·intro h;apply List.ext_getElem (by omega);intro i a b;have:=h i (by omega);simpa[List.getElem?_eq_getElem a,List.getElem?_eq_getElem b] using this
 ·rintro rfl i _;rfl
def M8 (P:Program) (K:TypeId) (n:Nat):Prop:=∀(w:World) (x y:List Int),x.length=n→y.length=n→(Op.equal K (F8 x) (F8 y)).run P w=.ok (x==y) w
def PG(P:Program)(K:TypeId)(n:Nat):Prop:=∀(w:World) (em:Bool) (x:List Int),x.length=n→(Instr.checkKey em 10000 K (F8 x)).run P w=.ok () w
def IF(P:Program)(K:TypeId):Prop:=(match P.underlying K with|some (.array _ _)|some (.struct _)=>true|_=>false)=true
theorem Sz{K e n:Nat}(hK:P.underlying K=some (.array n e))(he:One P e)(hu:P.underlying e=some (.int .i64)):M8 P K n:=by
 intro w x y b c;obtain⟨i,hi,d⟩:=Option.map_eq_some_iff.1 he.2;have h:=run_equalIn_array w 9999 (HQ x).toArray (HQ y).toArray hK hi;have f:P.cellsOf e=1:=by unfold Program.cellsOf;rw[hi];simpa using d
 rw[f,M7 he hu 9998 x y (List.range n) (fun i a=>by have:=List.mem_range.1 a;omega),L3 x y n b c] at h;exact h
end
def OQ (e:TypeId):Nat→List Field→Bool
 |_,[]=>true
 |i,f::a=>f.name !="_"&&Nat.beq f.type e&&Nat.beq f.offset i&&OQ e (i+1) a
theorem PH{e i:Nat}{f:Field}{a:List Field}(h:OQ e i (f::a)=true):f.name≠"_"∧f.type=e∧f.offset=i∧OQ e (i+1) a=true:=by
 simp only[OQ,Bool.and_eq_true] at h;exact⟨by simpa using h.1.1.1,Nat.eq_of_beq_eq_true h.1.1.2,Nat.eq_of_beq_eq_true h.1.2,h.2⟩
section
variable{P:Program}{w:World}
theorem L4{e:TypeId}(he:One P e)(hu:P.underlying e=some (.int .i64))(d:Nat)(x y:List Int):∀(a:List Field) (i:Nat),OQ e i a=true→i+a.length≤x.length→i+a.length≤y.length→
  (Op.eqFields (d+1) (HQ x).toArray (HQ y).toArray a).run P w=.ok ((List.range' i a.length).all fun j=>x.getD j 0==y.getD j 0) w
 |[],i,_,_,_=>by simp[Op.eqFields]
 |f::a,i,h,b,c=>by
  obtain⟨g,k,l,m⟩:=PH h;simp only[List.length_cons] at b c;have ih:=L4 he hu d x y a (i+1) m (by omega) (by omega);simp only[Op.eqFields,g,ne_eq,not_false_eq_true,if_true,Sem.run_bind,k,l,Ki he x i (by omega),Ki he y i (by omega),M6 hu,Result.andThen_ok,List.length_cons,List.range'_succ,List.all_cons];cases n:(x.getD i 0==y.getD i 0)
  ·simp
  ·simpa using ih
theorem RY{K e:Nat}{a:Array Field}(n:Nat)(hK:P.underlying K=some (.struct a))(c:P.stoodInHeld K=false)(d:OQ e 0 a.toList=true)(f:a.toList.length=n)(he:One P e)(hu:P.underlying e=some (.int .i64)):M8 P K n:=by
 intro w x y g i;have b:P.fieldsOf K=a:=by simp[Program.fieldsOf,hK]
 have h:=run_equalIn_struct w 9999 K (HQ x).toArray (HQ y).toArray (by rw[b];exact hK) c;rw[b,L4 he hu 9998 x y a.toList 0 d (by omega) (by omega),←List.range_eq_range',f,L3 x y n g i] at h;exact h
theorem QS{K e:Nat}{a:Array Field}(n:Nat)(hK:P.underlying K=some (.struct a))(c:OQ e 0 a.toList=true)(m:a.toList.length=n)(he:One P e)(hu:P.underlying e=some (.int .i64)):PG P K n:=by
 intro w em x o;have b:∀v:Int,(Instr.checkKey em 9999 e (.int .i64 v)).run P w=.ok () w:=by
  intro v;rw[show(9999:Nat)=9998+1 from rfl,Instr.checkKey];simp only[Sem.run_bind,run_underlying hu,Result.andThen_ok];rfl
 rw[show(10000:Nat)=9999+1 from rfl,F8,Instr.checkKey];simp only[Sem.run_bind,run_underlying hK,Result.andThen_ok];rw[←Array.forIn_toList];have key:∀(L:List Field) (i:Nat),OQ e i L=true→i+L.length≤x.length→(forIn L PUnit.unit (fun f (_:PUnit)=>do
   if f.name≠"_"then
    let v←part f.type (HQ x).toArray f.offset
    Instr.checkKey em 9999 f.type v
    pure PUnit.unit
    pure (ForInStep.yield PUnit.unit)
   else pure (ForInStep.yield PUnit.unit)):Sem PUnit).run P w=.ok PUnit.unit w:=by
  intro L
  induction L with
  |nil=>intro i _ _;simp
  |cons f L ih=>
   intro i h d;obtain⟨g,j,k,l⟩:=PH h;simp only[List.length_cons] at d;simp only[List.forIn_cons,Sem.run_bind,g,ne_eq,not_false_eq_true,if_true,j,k,Ki he x i (by omega),b,Result.andThen_ok,Sem.run_pure];exact ih (i+1) l (by omega)
 have:=key a.toList 0 c (by omega);simp at this;simp[this]
end
def Kj (w:World) (r n:Nat) (L:List (List Int×Int)):Prop:=
 ∃es clock,w.heap[r]?=some (.map es clock)∧es.toList.map (fun e=>(e.key,e.val))=L.map (fun p=>(F8 p.1,Value.int .i64 p.2))∧∀p∈L,p.1.length=n
section
variable{w w':World}{r n b:Nat}{L:List (List Int×Int)}
theorem Kj.lt(h:Kj w r n L):r<w.heap.size:=by obtain⟨es,c,h,_⟩:=h;exact lt_of_block h
theorem Kj.ext(h:Kj w r n L)(g:Ext w w'):Kj w' r n L:=by
 have a:=h.lt;obtain⟨es,c,b,d⟩:=h;exact⟨es,c,(g.block r a (by simp)).trans b,d⟩
theorem Kj.Pv(h:Kj w r n L)(g:HV b w w')(a:r≠b):Kj w' r n L:=by
 have d:=h.lt;obtain⟨es,c,e,f⟩:=h;exact⟨es,c,(g.block r d (by simpa using a)).trans e,f⟩
end
section
variable{P:Program}{a:Act}{w:World}{dst:Option Tmp}{ty:TypeId}{pos:String}{B6:Array Edge}{g:Option (Nat×Bool)}{K E T r n:Nat}{L:List (List Int×Int)}{k:List Int}
theorem M9{kind:TypeDesc}(a:match kind with|.array _ _|.struct _=>True|_=>False)(cs:Array Value):∀(es:List MapEntry) (i:Nat),(∀e∈es,∃ds,e.key=.agg ds)→es≠[]→Instr.findNow kind (.agg cs) es i=none
 |[],_,_,h=>absurd rfl h
 |e::es,i,he,_=>by
  obtain⟨ds,b⟩:=he e (List.mem_cons_self ..);unfold Instr.findNow;rw[b];cases kind<;>simp at a<;>simp[Instr.sameNow]
theorem JZ{o:Obj}(h:w.heap[r]?=some o)(a:∀c e f,o≠.cells c e f):(getObj r).run P w=.ok o w:=by
 unfold getObj;cases o<;>first|exact absurd rfl (a _ _ _)|(simp only[Sem.run,h])
theorem PI(d:Nat)(x:List Int):Instr.sameBits (d+1) (F8 x) (F8 x)=true:=by
 unfold F8 Instr.sameBits;simp only[beq_self_eq_true,Bool.true_and,List.all_eq_true];rintro⟨u,v⟩ h;rw[List.mem_iff_getElem] at h;obtain⟨i,hi,he⟩:=h;simp only[List.getElem_zip,Prod.mk.injEq] at he;obtain⟨a,b⟩:=he;subst a;subst b;simp only[HQ,List.getElem_map];cases d<;>simp[Instr.sameBits]
end
theorem Kj.t2{w w':World}{r ph b n:Nat}{L:List (List Int×Int)}{M:World→Prop}(h:Kj w b n L)(g:T2 w r M ph w')(a:b≠r):Kj w' b n L:=h.Pv (PF g) a
end Go.Proofs.YtamobliaoknclaaGreat
end
section
namespace Go.Proofs.YtamobliaoknclaaGreat
open Go.RowKit
def Ey (w:World) (base:Nat) (e:TypeId) (sz:Nat) (A:Option Addr) (n c:Nat) (xs:List Value):Prop:=w.ownsRow base e sz (.slice A n c) n xs
section
variable{w w':World}{base:Nat}{e:TypeId}{sz:Nat}{A:Option Addr}{n c:Nat}{xs:List Value}
theorem Ey.nil(w:World)(base:Nat)(e:TypeId)(sz:Nat):Ey w base e sz none 0 0 []:=World.ownsRow_nil w base e sz
theorem Ey.len(h:Ey w base e sz A n c xs):xs.length=n*sz:=h.1
theorem Ey.rd(h:Ey w base e sz A n c xs):Rd w base w.heap.size A xs:=by
 refine⟨Nat.le_refl _,?_⟩;rcases h.2 with⟨_,h0⟩|⟨g,cap,cur,a,b,d,_,_,_,_⟩
 ·exact .inl (List.eq_nil_of_length_eq_zero (by rw[h.1,h0,Nat.zero_mul]))
 ·refine .inr ⟨g,0,?_,b,lt_of_block d,fun j u hu=>?_⟩
  ·cases a;rfl
  ·have:=World.ownsRow.cells h (g:=g) (by cases a;rfl) j u hu;rw[GK] at this;exact this
theorem Ey.kept(h:Ey w base e sz A n c xs){r:Option Nat}(g:w.grownBy w' r)(a:∀k,r=some k→∀o,A≠some ⟨k,o,none⟩):Ey w' base e sz A n c xs:=
 World.ownsRow.kept h g (by
  rcases h.2 with⟨h0,_⟩|⟨b,cap,cur,d,_⟩
  ·exact .inl (by rw[h0];rfl)
  ·refine .inr ?_;cases d;intro he;exact a b (by simpa[Value.ownBlock] using he.symm) 0 rfl)
theorem Ey.ext(h:Ey w base e sz A n c xs)(g:Ext w w'):Ey w' base e sz A n c xs:=h.kept g (fun _ e=>by cases e)
theorem Ey.L5 (h:Ey w base e sz A n c xs) {k o:Nat} (b:A=some ⟨k,o,none⟩):base≤k∧k<w.heap.size∧∃cur,w.heap[k]?=some (.cells cur e (0,0)):=by
 subst b;rcases h.2 with⟨h0,_⟩|⟨g,cap,cur,d,f,a,_⟩
 ·cases h0
 ·cases d;exact⟨f,lt_of_block a,cur,a⟩
theorem Ey.Pv{r:Nat}(h:Ey w base e sz A n c xs)(g:HV r w w')(d:r<base):Ey w' base e sz A n c xs:=h.kept g (fun k a o b=>by
 cases a;have:=(h.L5 b).1;omega)
theorem Rd.pre{α:Type}{enc:α→List Value}{lo hi:Nat}{A:Option Addr}{xs:List α}(h:Rd w lo hi A (flat enc xs))(k:Nat):Rd w lo hi A (flat enc (xs.take k)):=by
 refine⟨h.1,?_⟩;have e:flat enc xs=flat enc (xs.take k)++flat enc (xs.drop k):=by unfold flat;rw[←List.flatMap_append,List.take_append_drop]
 rcases h.2 with h0|⟨b,o,a,c,d,f⟩
 ·refine .inl ?_;rw[e] at h0;exact(List.append_eq_nil_iff.1 h0).1
 ·refine .inr ⟨b,o,a,c,d,fun j u hu=>f j u ?_⟩;rw[e,List.getElem?_append_left (List.getElem?_eq_some_iff.1 hu).1];exact hu
theorem Bk.row {b:Nat} {t:TypeId} {cs:Array Value} (h:Ey w base e sz A n c xs) {w1 w2:World} (a:Bk w1 b t cs) (i:w.heap.size≤b) (g:w1.grownBy w2 (Value.ownBlock (.slice A n c))):Bk w2 b t cs:=
 (g.block b a.lt (fun e=>by
  cases A with
  |none=>cases e
  |some ad=>
   have:b=ad.block:=by simpa[Value.ownBlock] using e
   rcases h.2 with⟨h0,_⟩|⟨g,cap,cur,d,_,f,_⟩
   ·cases h0
   ·cases d;have:=lt_of_block f;simp only at*;omega)).trans a
end
section
variable{P:Program}{a:Act}{w:World}{dst:Option Tmp}{ty:TypeId}{pos:String}{B6:Array Edge}{g:Option (Nat×Bool)}
theorem U2 {t e:TypeId} {i:TypeInfo} {z:Value} {sz:Nat} (s:P.underlying t=some (.slice e)) (hi:P.info? e=some i) (aB:i.zero=some z) (l:i.size=sz) (aK:z.cells.size=sz)
  {A v:Option Addr} {n c x base m cap:Nat} {xs news:List Value} {ad:Addr} {w':World} (d:Ey w base e sz A n c xs) (p:news.length=m*sz) (a:∀j u,news[j]?=some u→w.cell? (ad.add j)=some u) (aG:∀u∈news,u.oneCell'=true)
  (aC:n+m≤maxLen) (b:(n+m)*i.bytes≤140737488355328) (h:(Builtin.append_ #[t,t] ty #[.slice A n c,.slice (some ad) m cap]).run P w=.ok (.slice v (n+m) x) w')
  (y:(Value.slice v (n+m) x=.slice none 0 0↔Value.slice A n c=.slice none 0 0∧m=0)):Ext w w'∨(v=A∧x=c):=by
 subst l;have aD:n+m≤9223372036854775807:=by simp only[maxLen] at aC;omega
 have r:∀o:Obj,Ext w (w.drew.alloc o):=fun o=>Ext.trans (CT w) (World.grownBy_alloc _ _ _);rcases d.2 with⟨k,h0⟩|⟨q,aH,cur,k,aL,aI,aM,aN,aE,aF⟩
 ·cases k;rcases Nat.eq_zero_or_pos m with rfl|hm
  ·have:=y.2 ⟨rfl,rfl⟩;exact .inr (by cases this;exact⟨rfl,rfl⟩)
  ·have:=run_append_nil (P:=P) w t ty e i z s hi aB ad m cap news p a (by omega) (by omega) (by have aJ:=b;simp only[Nat.zero_add] at aJ;omega);rw[this] at h;injection h with _ hw
   exact .inl (hw▸r _)
 ·cases k
  by_cases f:n+m≤c
  ·have aA:n*i.size+news.length≤cur.size:=by rw[p,aE,←Nat.add_mul];exact Nat.mul_le_mul_right _ f
   have:=run_append_room (P:=P) w t ty e i s hi q n c cur aI ad m cap news p a aG f aA;rw[this] at h;injection h with k _
   exact .inr (by cases k;exact⟨rfl,rfl⟩)
  ·have holds:∀j u,xs[j]?=some u→w.cell? ((⟨q,0,none⟩:Addr).add j)=some u:=World.ownsRow.cells d (g:=q) rfl;have:=run_append_grow (P:=P) w t ty e i z s hi aB ⟨q,0,none⟩ n c xs d.1 holds ad m cap news p a (by omega) (by omega) (growslice_fits (by omega) b);rw[this] at h;injection h with _ hw
   exact .inl (hw▸r _)
theorem SA {s x:Operand} {t e:TypeId} {z:Value} {sz bytes:Nat} (aE:P.underlying t=some (.slice e)) (hi:(P.info? e).map (fun i=>(i.zero,i.size,i.bytes))=some (some z,sz,bytes)) (y:z.cells.size=sz) (aF:0<sz)
  {A:Option Addr} {n c base:Nat} {xs news:List Value} {m cap:Nat} {ad:Addr} (aJ:a.eval s=.slice A n c) (aK:a.eval x=.slice (some ad) m cap) (p:Ey w base e sz A n c xs)
  (q:∀j u,news[j]?=some u→w.cell? (ad.add j)=some u)
  (aG:news.length=m*sz) (aH:∀u∈news,u.oneCell'=true) (aA:n+m≤maxLen) (f:(n+m)*bytes≤140737488355328) (r:base≤w.heap.size):
  B7 P ⟨dst,.call {callee:=.builtin .append,args:= #[s,x],argTypes:= #[t,t]},ty,pos,B6,g⟩ a w (fun v w'=>∃b l,v=.slice b (n+m) l∧Ey w' base e sz b (n+m) l (xs++news)∧w.grownBy w' (Value.ownBlock (.slice A n c))∧(Ext w w'∨(b=A∧l=c))∧(∀k o,b=some ⟨k,o,none⟩→(∃o',A=some ⟨k,o',none⟩)∨w.heap.size≤k)):=by
 cases d:P.info? e with
 |none=>simp[d] at hi
 |some i=>
  simp only[d,Option.map_some,Option.some.injEq,Prod.mk.injEq] at hi;obtain⟨v',w',aI,aB,aL,aM,aN⟩:=run_append_own_at (P:=P) w base t ty e i z sz bytes aE d hi.1 hi.2.1 hi.2.2 y aF (.slice A n c) n xs p ad m cap news aG q aH aA f r;have he:(execOp a.eval ⟨dst,.call {callee:=.builtin .append,args:= #[s,x],argTypes:= #[t,t]},ty,pos,B6,g⟩).run P w=.ok (.value v') w':=by
   unfold execOp;simp only[resolve,invoke,builtin,Sem.run_bind,Sem.run_pure,Result.andThen_ok,List.map_toArray,List.map_cons,List.map_nil,aJ,aK,aI]
  have key:∃b l,v'=.slice b (n+m) l∧Ey w' base e sz b (n+m) l (xs++news):=by
   rcases aB.2 with⟨rfl,h0⟩|⟨aO,aC,cur,rfl,_⟩
   ·refine⟨none,0,by rw[h0],?_⟩;have:=aB;rw[h0] at this⊢;exact this
   ·exact⟨_,_,rfl,aB⟩
  obtain⟨b,l,rfl,aP⟩:=key;unfold B7;rw[he];refine⟨b,l,rfl,aP,aL,U2 aE d hi.1 hi.2.1 y p aG q aH aA (by rw[hi.2.2];exact f) aI aM,?_⟩;rintro k o rfl;rcases aN with h|h
  ·left;cases A with
   |none=>simp[Value.ownBlock] at h
   |some ad=>
    have aQ:k=ad.block:=by simpa[Value.ownBlock] using h
    rcases p.2 with⟨aD,_⟩|⟨aO,aC,cur,aD,_⟩
    ·cases aD
    ·cases aD;exact⟨0,by rw[aQ]⟩
  ·right;have:k=w.heap.size:=by simpa[Value.ownBlock] using h
   omega
theorem Ey.new{w w':World}{b base:Nat}{e:TypeId}{sz:Nat}(h:KK w w' b e #[])(a:base≤w.heap.size):Ey w' base e sz (some ⟨b,0,none⟩) 0 0 []:=
 ⟨by simp,.inr ⟨b,0, #[],rfl,by rw[h.EZ];exact a,h.bk,Nat.le_refl _,by simp[maxLen],by simp,by simp⟩⟩
theorem Pn{x y:Operand}{t u:TypeId}{A B:Option Addr}{n c m d:Nat}{b:Bool}(e:a.eval x=.slice A n c)(f:a.eval y=.slice B m d)(h:(eqGuard .eql t x y (.slice A n c) (.slice B m d)).run P w=.ok () w)(i:(Op.equal t (.slice A n c) (.slice B m d)).run P w=.ok b w):B7 P ⟨dst,.binOp .eql t x y u,ty,pos,B6,g⟩ a w (fun v w'=>v=.bool b∧w'=w):=
 CA (by simp[execOp,e,f,binOp,h,i])
end
structure Mv (w:World) (Z:Nat→Prop) (w':World) (Z':Nat→Prop):Prop where
 size:w.heap.size≤w'.heap.size
 stay:∀b,Z b→b<w.heap.size→Z' b∧w'.heap[b]?=w.heap[b]?
theorem Mv.refl(w:World)(Z:Nat→Prop):Mv w Z w Z:=⟨Nat.le_refl _,fun _ h _=>⟨h,rfl⟩⟩
theorem Mv.trans{w1 w2 a:World}{c d e:Nat→Prop}(h:Mv w1 c w2 d)(k:Mv w2 d a e):Mv w1 c a e:=
 ⟨Nat.le_trans h.size k.size,fun b g f=>by
  obtain⟨i,j⟩:=h.stay b g f;obtain⟨l,m⟩:=k.stay b i (Nat.lt_of_lt_of_le f h.size);exact⟨l,m.trans j⟩⟩
theorem Ab{w w':World}{Z:Nat→Prop}(h:Ext w w'):Mv w Z w' Z:=⟨h.size,fun b a c=>⟨a,h.block b c (by simp)⟩⟩
theorem J0{w:World}{Z Z':Nat→Prop}(h:∀b,Z b→b<w.heap.size→Z' b):Mv w Z w Z':=⟨Nat.le_refl _,fun b a c=>⟨h b a c,rfl⟩⟩
def ZA:Nat→Prop:=fun _=>True
theorem KW{w:World}{Z:Nat→Prop}:Mv w Z w ZA:=J0 fun _ _ _=>trivial
def Rz (w:World) (Z:Nat→Prop) (A:Option Addr) (cs:List Value):Prop:=
 cs=[]∨∃b o,A=some ⟨b,o,none⟩∧Z b∧b<w.heap.size∧∀j u,cs[j]?=some u→w.cell? ⟨b,o+j,none⟩=some u
theorem Rz.mv{w w':World}{Z Z':Nat→Prop}{A:Option Addr}{cs:List Value}(h:Rz w Z A cs)(g:Mv w Z w' Z'):Rz w' Z' A cs:=
 h.imp id fun⟨b,o,e,d,c,f⟩=>⟨b,o,e,(g.stay b d c).1,Nat.lt_of_lt_of_le c g.size,fun j u hu=>
  (World.cell?_of_block (a:=⟨b,o+j,none⟩) (g.stay b d c).2).trans (f j u hu)⟩
theorem Rz.cells{w:World}{Z:Nat→Prop}{b o:Nat}{cs:List Value}(h:Rz w Z (some ⟨b,o,none⟩) cs):∀j u,cs[j]?=some u→w.cell? ⟨b,o+j,none⟩=some u:=by
 rcases h with rfl|⟨b',o',a,_,_,c⟩
 ·simp
 ·cases a;exact c
theorem Rz.rd{w:World}{Z:Nat→Prop}{A:Option Addr}{cs:List Value}(h:Rz w Z A cs):Rd w 0 w.heap.size A cs:=
 ⟨Nat.le_refl _,h.imp id fun⟨b,o,a,_,c,d⟩=>⟨b,o,a,Nat.zero_le _,c,d⟩⟩
theorem PJ{w:World}{lo hi:Nat}{A:Option Addr}{cs:List Value}{Z:Nat→Prop}(h:Rd w lo hi A cs)(c:∀b,lo≤b→b<hi→Z b):Rz w Z A cs:=
 h.2.imp id fun⟨b,o,d,e,a,f⟩=>⟨b,o,d,c b e a,Nat.lt_of_lt_of_le a h.1,f⟩
structure CH (α:Type) where
 sz:Nat
 R:World→(Nat→Prop)→List Value→α→Prop
 len:∀{w Z cs x},R w Z cs x→cs.length=sz
 one:∀{w Z cs x},R w Z cs x→∀u∈cs,u.oneCell'=true
 mv:∀{w Z w' Z' cs x},R w Z cs x→Mv w Z w' Z'→R w' Z' cs x
def R2{α:Type}(e:CH α)(w:World)(Z:Nat→Prop):List (List Value)→List α→Prop
 |[],[]=>True
 |c::cs,x::xs=>e.R w Z c x∧R2 e w Z cs xs
 |_,_=>False
section
variable{α:Type}{e:CH α}{w w':World}{Z Z':Nat→Prop}
theorem R2.len:∀{Bw:List (List Value)} {xs:List α},R2 e w Z Bw xs→Bw.length=xs.length
 |[],[],_=>rfl
 |_::_,_::_,h=>by simp[R2.len h.2]
 |[],_::_,h=>h.elim
 |_::_,[],h=>h.elim
theorem R2.mv(g:Mv w Z w' Z'):∀{Bw:List (List Value)} {xs:List α},R2 e w Z Bw xs→R2 e w' Z' Bw xs
 |[],[],_=>trivial
 |_::_,_::_,h=>⟨e.mv h.1 g,R2.mv g h.2⟩
 |[],_::_,h=>h.elim
 |_::_,[],h=>h.elim
theorem R2.one:∀{Bw:List (List Value)} {xs:List α},R2 e w Z Bw xs→∀u∈Bw.flatten,u.oneCell'=true
 |[],[],_=>by simp
 |c::cs,_::_,h=>by
  intro u hu;rw[List.flatten_cons,List.mem_append] at hu;exact hu.elim (e.one h.1 u) (R2.one h.2 u)
 |[],_::_,h=>h.elim
 |_::_,[],h=>h.elim
theorem R2.KN:∀{Bw:List (List Value)} {xs:List α},R2 e w Z Bw xs→Bw.flatten.length=xs.length*e.sz
 |[],[],_=>by simp
 |c::cs,_::xs,h=>by
  rw[List.flatten_cons,List.length_append,e.len h.1,R2.KN h.2,List.length_cons,Nat.add_mul,Nat.one_mul,Nat.add_comm]
 |[],_::_,h=>h.elim
 |_::_,[],h=>h.elim
theorem R2.get:∀{Bw:List (List Value)} {xs:List α},R2 e w Z Bw xs→∀{k:Nat} {x:α},xs[k]?=some x→∃c,Bw[k]?=some c∧e.R w Z c x∧(Bw.flatten.drop (k*e.sz)).take e.sz=c
 |[],[],_,k,x,a=>by simp at a
 |c::cs,y::xs,h,0,x,a=>by
  obtain rfl:y=x:=by simpa using a
  refine⟨c,rfl,h.1,?_⟩;have b:=e.len h.1;rw[Nat.zero_mul,List.drop_zero,List.flatten_cons,List.take_append_of_le_length (by rw[b];exact Nat.le_refl _),List.take_of_length_le (by rw[b];exact Nat.le_refl _)]
 |c::cs,y::xs,h,k+1,x,a=>by
  obtain⟨d,f,g,i⟩:=R2.get h.2 (k:=k) (x:=x) (by simpa using a);refine⟨d,by simpa using f,g,?_⟩;rw[←i,List.flatten_cons,List.drop_append,e.len h.1,List.drop_of_length_le (by rw[e.len h.1,Nat.add_mul];omega),List.nil_append]
  congr 2
  rw[Nat.add_mul];omega
 |[],_::_,h,_,_,_=>h.elim
 |_::_,[],h,_,_,_=>h.elim
theorem R2.append:∀{Bw a:List (List Value)} {xs ys:List α},R2 e w Z Bw xs→R2 e w Z a ys→R2 e w Z (Bw++a) (xs++ys)
 |[],_,[],_,_,h=>h
 |_::_,_,_::_,_,h,k=>⟨h.1,R2.append h.2 k⟩
 |[],_,_::_,_,h,_=>h.elim
 |_::_,_,[],_,h,_=>h.elim
theorem R2.drop:∀(k:Nat) {Bw:List (List Value)} {xs:List α},R2 e w Z Bw xs→R2 e w Z (Bw.drop k) (xs.drop k)
 |0,_,_,h=>h
 |k+1,[],[],_=>trivial
 |k+1,_::cs,_::xs,h=>by simpa using R2.drop k h.2
 |_+1,[],_::_,h=>h.elim
 |_+1,_::_,[],h=>h.elim
theorem R2.take:∀(k:Nat) {Bw:List (List Value)} {xs:List α},R2 e w Z Bw xs→R2 e w Z (Bw.take k) (xs.take k)
 |0,_,_,_=>trivial
 |k+1,[],[],_=>trivial
 |k+1,_::cs,_::xs,h=>⟨h.1,R2.take k h.2⟩
 |_+1,[],_::_,h=>h.elim
 |_+1,_::_,[],h=>h.elim
theorem R2.set{x:α}{c:List Value}(a:e.R w Z c x):∀(k:Nat) {Bw:List (List Value)} {xs:List α},R2 e w Z Bw xs→R2 e w Z (Bw.set k c) (xs.set k x)
 |_,[],[],_=>trivial
 |0,_::_,_::_,h=>⟨a,h.2⟩
 |k+1,_::cs,_::xs,h=>⟨h.1,R2.set a k h.2⟩
 |_,[],_::_,h=>h.elim
 |_,_::_,[],h=>h.elim
theorem R2.Uz(h0:0<e.sz):∀(k:Nat) {Bw:List (List Value)} {xs:List α},R2 e w Z Bw xs→Bw.flatten.drop (k*e.sz)=(Bw.drop k).flatten
 |0,_,_,_=>by simp
 |k+1,[],[],_=>by simp
 |k+1,c::cs,_::xs,h=>by
  rw[List.drop_succ_cons,←R2.Uz h0 k h.2,List.flatten_cons,List.drop_append,e.len h.1,List.drop_of_length_le (by rw[e.len h.1,Nat.add_mul];omega),List.nil_append]
  congr 1
  rw[Nat.add_mul];omega
 |_+1,[],_::_,h=>h.elim
 |_+1,_::_,[],h=>h.elim
end
def Sl {α:Type} (e:CH α) (w:World) (Z:Nat→Prop) (A:Option Addr) (c:Nat) (xs:List α):Prop:=
 xs.length≤c∧(A=none→c=0)∧∃Bw,R2 e w Z Bw xs∧Rz w Z A Bw.flatten
section
variable{α:Type}{e:CH α}{w w':World}{Z Z':Nat→Prop}{A:Option Addr}{c:Nat}{xs:List α}
theorem Sl.mv(h:Sl e w Z A c xs)(g:Mv w Z w' Z'):Sl e w' Z' A c xs:=⟨h.1,h.2.1,h.2.2.imp fun _ ⟨a,b⟩=>⟨a.mv g,b.mv g⟩⟩
theorem Sl.all(h:Sl e w Z A c xs):Sl e w ZA A c xs:=h.mv KW
theorem Sl.nil(e:CH α)(w:World)(Z:Nat→Prop):Sl e w Z none 0 []:=⟨Nat.le_refl _,fun _=>rfl,[],trivial,.inl rfl⟩
theorem Sl.elem (h:Sl e w Z A c xs) (h0:0<e.sz) {k:Nat} {x:α} (l:xs[k]?=some x):∃b o cs,A=some ⟨b,o,none⟩∧e.R w Z cs x∧Rz w Z (some ⟨b,o+k*e.sz,none⟩) cs:=by
 obtain⟨-,-,Bw,m,f⟩:=h;obtain⟨cs,n,g,a⟩:=m.get l;have p:=e.len g;have s:k<Bw.length:=(List.getElem?_eq_some_iff.1 n).1;rcases f with f|⟨b,o,q,r,i,d⟩
 ·rw[f] at a;simp at a;subst a;simp at p;omega
 ·refine⟨b,o,cs,q,g,.inr ⟨b,_,rfl,r,i,fun j u hu=>?_⟩⟩;rw[Nat.add_assoc];refine d _ _ ?_;subst a;rw[List.getElem?_take] at hu;split at hu
  ·simpa using hu
  ·cases hu
theorem Sl.C4(h:Sl e w Z A c xs)(d:e.sz=1){k:Nat}{x:α}(f:xs[k]?=some x):∃b o cs,A=some ⟨b,o,none⟩∧e.R w Z cs x∧Rz w Z (some ⟨b,o+k,none⟩) cs:=by
 obtain⟨b,o,cs,g,i,a⟩:=h.elem (by omega) f;rw[d,Nat.mul_one] at a;exact⟨b,o,cs,g,i,a⟩
end
def Ae(k:IntKind):CH Int:=⟨1,fun _ _ cs x=>cs=[.int k x],fun h=>by rw[h];rfl,fun h=>by rw[h];simp[Value.oneCell'],fun h _=>h⟩
def C6:CH Bool:=⟨1,fun _ _ cs x=>cs=[.bool x],fun h=>by rw[h];rfl,fun h=>by rw[h];simp[Value.oneCell'],fun h _=>h⟩
def JS{α:Type}(e:CH α):CH (List α):=
 ⟨1,fun w Z cs xs=>∃A c,cs=[.slice A xs.length c]∧Sl e w Z A c xs,fun⟨_,_,h,_⟩=>by rw[h];rfl,fun⟨_,_,h,_⟩=>by rw[h];simp[Value.oneCell'],
  fun⟨A,c,a,b⟩ g=>⟨A,c,a,b.mv g⟩⟩
structure VE (α:Type) where
 R:World→(Nat→Prop)→Value→α→Prop
 mv:∀{w Z w' Z' v x},R w Z v x→Mv w Z w' Z'→R w' Z' v x
def DP(k:IntKind):VE Int:=⟨fun _ _ v x=>v=.int k x,fun h _=>h⟩
def BA:VE Bool:=⟨fun _ _ v x=>v=.bool x,fun h _=>h⟩
def HC{α:Type}(e:CH α):VE (List α):=⟨fun w Z v xs=>∃A c,v=.slice A xs.length c∧Sl e w Z A c xs,fun⟨A,c,a,b⟩ g=>⟨A,c,a,b.mv g⟩⟩
def Dd{α:Type}(e:CH α):VE α:=⟨fun w Z v x=>∃cs,v=.agg cs.toArray∧e.R w Z cs x,fun h g=>h.imp fun _ h=>⟨h.1,e.mv h.2 g⟩⟩
def UA{α β:Type}(a:VE α)(b:VE β):VE (α×β):=⟨fun w Z v x=>∃u t,v=.tuple #[u,t]∧a.R w Z u x.1∧b.R w Z t x.2,fun⟨u,t,h,c,d⟩ g=>⟨u,t,h,a.mv c g,b.mv d g⟩⟩
def Kv{α:Type}(v:VE α)(Z:Nat→Prop)(x:α):KV Ext:=⟨fun u w=>v.R w Z u x,fun _ _ _ h g=>v.mv h (Ab g)⟩
def ob:Option Addr→Option Nat:=Option.map (·.block)
theorem WR(A:Option Addr)(n c:Nat):Value.ownBlock (.slice A n c)=ob A:=by cases A<;>rfl
def FN:Nat→Prop:=fun _=>False
def FU (F:Nat→Prop) (M:List (Option Nat)):Nat→Prop:=fun k=>F k∨some k∈M
structure Bp (D:Nat→Prop) (w w':World):Prop where
 os:w'.os=w.os
 tape:w'.tape=w.tape
 output:w'.output=w.output
 size:w.heap.size≤w'.heap.size
 block:∀k,k<w.heap.size→¬D k→w'.heap[k]?=w.heap[k]?
section
variable{D D' F F':Nat→Prop}{M M':List (Option Nat)}{w w' Bc:World}
theorem Bp.refl(D:Nat→Prop)(w:World):Bp D w w:=⟨rfl,rfl,rfl,Nat.le_refl _,fun _ _ _=>rfl⟩
theorem Bp.trans(h:Bp D w w')(k:Bp D w' Bc):Bp D w Bc:=
 ⟨k.os.trans h.os,k.tape.trans h.tape,k.output.trans h.output,Nat.le_trans h.size k.size,fun b a c=>(k.block b (Nat.lt_of_lt_of_le a h.size) c).trans (h.block b a c)⟩
theorem Bp.mono(h:Bp D w w')(a:∀k,D k→D' k):Bp D' w w':=⟨h.os,h.tape,h.output,h.size,fun b c d=>h.block b c fun e=>d (a b e)⟩
theorem Kk{r:Option Nat}(g:w.grownBy w' r)(a:∀k,r=some k→D k):Bp D w w':=⟨g.os,g.tape,g.output,g.size,fun b c d=>g.block b c fun e=>d (a b e.symm)⟩
theorem E3(g:Ext w w'):Bp D w w':=Kk g fun _ e=>by cases e
theorem Bp.gr{r:Option Nat}(g:Bp (fun k=>some k=r) w w'):w.grownBy w' r:=⟨g.os,g.tape,g.output,g.size,fun b a c=>g.block b a c⟩
theorem Bp.ext(g:Bp (FU FN []) w w'):Ext w w':=⟨g.os,g.tape,g.output,g.size,fun b a _=>g.block b a (by rintro(h|h);exact h;cases h)⟩
theorem Bp.fl{M2:List (Option Nat)}(g:Bp (FU (FU F M) M2) w w'):Bp (FU F (M++M2)) w w':=g.mono fun k h=>by
 rcases h with(h|h)|h
 ·exact .inl h
 ·exact .inr (List.mem_append_left _ h)
 ·exact .inr (List.mem_append_right _ h)
theorem Bk.Bs{b:Nat}{t:TypeId}{cs:Array Value}(h:Bk w b t cs)(g:Bp D w w')(a:¬D b):Bk w' b t cs:=(g.block b h.lt a).trans h
theorem Bk.gr{b:Nat}{t:TypeId}{cs:Array Value}{r:Option Nat}(h:Bk w b t cs)(g:w.grownBy w' r)(a:some b≠r):Bk w' b t cs:=(g.block b h.lt a).trans h
end
def ZZ (F:Nat→Prop) (B:List (Option Nat)) (Z:Nat→Prop) (n0:Nat) (L:List (Option Nat)):Nat→Prop:=fun b=>(b<n0∧Z b∧¬F b∧some b∉B)∨(n0≤b∧some b∉L)
def ZC (F:Nat→Prop) (M:List (Option Nat)):Nat→Prop:=fun b=>¬F b∧some b∉M
theorem GG{F:Nat→Prop}{M:List (Option Nat)}:∀b,ZC F M b→¬F b∧some b∉M:=fun _ h=>h
def HD (L:List (Option Nat)):List Nat→List (Option Nat)→Prop
 |[],[]=>True
 |j::a,m::M=>L[j]?=some m∧HD L a M
 |_,_=>False
theorem HD.mem{L:List (Option Nat)}:∀{b:List Nat} {M:List (Option Nat)},HD L b M→∀x∈M,∃j∈b,L[j]?=some x
 |[],[],_,x,a=>by cases a
 |j::b,m::M,h,x,a=>by
  rcases List.mem_cons.1 a with rfl|a
  ·exact⟨j,List.mem_cons_self ..,h.1⟩
  ·obtain⟨i,hi,he⟩:=HD.mem h.2 x a;exact⟨i,List.mem_cons_of_mem _ hi,he⟩
 |[],_::_,h,_,_=>h.elim
 |_::_,[],h,_,_=>h.elim
theorem HD.get{L:List (Option Nat)}:∀{b:List Nat} {M:List (Option Nat)},HD L b M→∀(i:Nat) x,M[i]?=some x→∃j,b[i]?=some j∧L[j]?=some x
 |[],[],_,i,x,a=>by simp at a
 |j::b,m::M,h,0,x,a=>by
  obtain rfl:m=x:=by simpa using a
  exact⟨j,rfl,h.1⟩
 |j::b,m::M,h,i+1,x,a=>by
  obtain⟨k,c,he⟩:=HD.get h.2 i x (by simpa using a);exact⟨k,by simpa using c,he⟩
 |[],_::_,h,_,_,_=>h.elim
 |_::_,[],h,_,_,_=>h.elim
theorem HD.sub{L:List (Option Nat)}{a:List Nat}{M:List (Option Nat)}(h:HD L a M):∀x∈M,x∈L:=fun x b=>by
 obtain⟨j,_,he⟩:=h.mem x b;exact List.mem_of_getElem? he
def KX:List Nat→Bool
 |[]=>true
 |x::l=>l.all (fun y=> !Nat.beq x y)&&KX l
theorem Lm:∀{l:List Nat},KX l=true→∀(i j k:Nat),l[i]?=some k→l[j]?=some k→i=j
 |[],_,i,j,k,hi,_=>by simp at hi
 |x::l,h,i,j,k,hi,a=>by
  simp only[KX,Bool.and_eq_true,List.all_eq_true] at h;have key:∀(m:Nat),l[m]?=some x→False:=fun m hm=>by
   have:=h.1 x (List.mem_of_getElem? hm);rw[Nat.beq_refl] at this;cases this
  cases i with
  |zero=>
   obtain rfl:x=k:=by simpa using hi
   cases j with
   |zero=>rfl
   |succ j=>exact(key j (by simpa using a)).elim
  |succ i=>
   cases j with
   |zero=>
    obtain rfl:x=k:=by simpa using a
    exact(key i (by simpa using hi)).elim
   |succ j=>rw[Lm h.2 i j k (by simpa using hi) (by simpa using a)]
structure BB (F:Nat→Prop) (B:List (Option Nat)) (w:World):Prop where
 lt:∀k,some k∈B→k<w.heap.size∧¬F k
 ap:∀(i j:Nat) (x:Nat),i≠j→B[i]?=some (some x)→B[j]?≠some (some x)
 ff:∀k,F k→k<w.heap.size
theorem BB.none(w:World):BB FN [] w:=⟨fun _ h=>(by cases h),fun _ _ _ _ h=>by simp at h,fun _ h=>h.elim⟩
theorem BB.grow{F:Nat→Prop}{B:List (Option Nat)}{w w':World}(h:BB F B w)(b:w.heap.size≤w'.heap.size):BB F B w':=
 ⟨fun k a=>⟨Nat.lt_of_lt_of_le (h.lt k a).1 b,(h.lt k a).2⟩,h.ap,fun k a=>Nat.lt_of_lt_of_le (h.ff k a) b⟩
structure Hp (F:Nat→Prop) (B:List (Option Nat)) (w0:World) (L:List (Option Nat)) (w:World):Prop where
 ch:Bp (FU F B) w0 w
 lo:∀k,some k∈L→k<w.heap.size∧¬F k∧(k<w0.heap.size→some k∈B)
 ap:∀(i j:Nat) (x:Nat),i≠j→L[i]?=some (some x)→L[j]?≠some (some x)
 ff:∀k,F k→k<w0.heap.size
theorem Hp.start{F:Nat→Prop}{B:List (Option Nat)}{w:World}(h:BB F B w):Hp F B w B w:=⟨Bp.refl _ _,fun k a=>⟨(h.lt k a).1,(h.lt k a).2,fun _=>a⟩,h.ap,h.ff⟩
section
variable{F F':Nat→Prop}{B:List (Option Nat)}{w0 w w':World}{Z Z':Nat→Prop}{L L' M:List (Option Nat)}
theorem Hp.sz(h:Hp F B w0 L w):w0.heap.size≤w.heap.size:=h.ch.size
theorem Hp.Bs(h:Hp F B w0 L w){D:Nat→Prop}(g:Bp D w w')(d:∀k,D k→F k∨some k∈L):Hp F B w0 L w':=by
 refine⟨⟨g.os.trans h.ch.os,g.tape.trans h.ch.tape,g.output.trans h.ch.output,Nat.le_trans h.sz g.size,fun k a b=>?_⟩,fun k a=>⟨Nat.lt_of_lt_of_le (h.lo k a).1 g.size,(h.lo k a).2⟩,h.ap,h.ff⟩;refine(g.block k (Nat.lt_of_lt_of_le a h.sz) fun e=>?_).trans (h.ch.block k a b);rcases d k e with c|c
 ·exact b (.inl c)
 ·exact b (.inr ((h.lo k c).2.2 a))
theorem Hp.ext(h:Hp F B w0 L w)(g:Ext w w'):Hp F B w0 L w':=h.Bs (D:=FN) (E3 g) fun _ h=>h.elim
theorem Hp.gr(h:Hp F B w0 L w){r:Option Nat}(g:w.grownBy w' r)(i:Nat)(hi:L[i]?=some r):Hp F B w0 L w':=
 h.Bs (D:=fun k=>some k=r) (Kk g fun _ e=>e.symm) fun k e=>.inr (by rw[e];exact List.mem_of_getElem? hi)
theorem Hp.new(h:Hp F B w0 L w)(g:Ext w w'){b:Nat}(q:w.heap.size≤b)(m:b<w'.heap.size):Hp F B w0 (some b::L) w':=by
 have f:=h.ext g;refine⟨f.ch,fun k a=>?_,?_,h.ff⟩
 ·rcases List.mem_cons.1 a with e|a
  ·cases e;exact⟨m,fun n=>absurd (h.ff _ n) (by have:=h.sz;omega),fun o=>absurd o (by have:=h.sz;omega)⟩
  ·exact f.lo k a
 ·have key:∀(j:Nat) (x:Nat),L[j]?=some (some x)→x≠b:=fun j x p e=>by
   have:=(h.lo x (List.mem_of_getElem? p)).1;omega
  intro i j x l hi c;cases i with
  |zero=>
   cases j with
   |zero=>exact l rfl
   |succ j=>
    have d:b=x:=by simpa using hi
    exact key j x (by simpa using c) d.symm
  |succ i=>
   cases j with
   |zero=>
    have d:b=x:=by simpa using c
    exact key i x (by simpa using hi) d.symm
   |succ j=>exact h.ap i j x (by omega) (by simpa using hi) (by simpa using c)
theorem Hp.nil(h:Hp F B w0 L w):Hp F B w0 (none::L) w:=by
 refine⟨h.ch,fun k b=>h.lo k (by simpa using b),?_,h.ff⟩;intro i j x c hi a;cases i with
 |zero=>simp at hi
 |succ i=>
  cases j with
  |zero=>simp at a
  |succ j=>exact h.ap i j x (by omega) (by simpa using hi) (by simpa using a)
theorem Hp.DQ (h:Hp F B w0 L w) {D:Nat→Prop} (g:Bp D w w') (u:∀k,D k→F k∨some k∈L) (i:Nat) {x y:Option Nat} (hi:L[i]?=some x) (q:∀k,y=some k→(x=some k∨w.heap.size≤k)∧k<w'.heap.size):Hp F B w0 (L.set i y) w':=by
 have n:=h.Bs g u;refine⟨n.ch,fun k o=>?_,?_,h.ff⟩
 ·rcases List.mem_or_eq_of_mem_set o with o|e
  ·exact n.lo k o
  ·obtain⟨c,v⟩:=q k e.symm;rcases c with c|c
   ·exact n.lo k (by rw[←c];exact List.mem_of_getElem? hi)
   ·exact⟨v,fun aA=>absurd (h.ff _ aA) (by have:=h.sz;omega),fun aB=>absurd aB (by have:=h.sz;omega)⟩
 ·have l:i<L.length:=(List.getElem?_eq_some_iff.1 hi).1;have key:∀(j z:Nat),j≠i→L[j]?=some (some z)→y≠some z:=fun j z aC r e=>by
   rcases(q z e).1 with c|c
   ·exact h.ap j i z aC r (by rw[hi,c])
   ·have:=(h.lo z (List.mem_of_getElem? r)).1;omega
  intro a b z s f d
  by_cases m:a=i
  ·subst m;have p:y=some z:=by simpa[List.getElem?_set,l] using f
   rw[List.getElem?_set_ne (by omega)] at d;exact key b z (by omega) d p
  ·rw[List.getElem?_set_ne (by omega)] at f
   by_cases t:b=i
   ·subst t;have p:y=some z:=by simpa[List.getElem?_set,l] using d
    exact key a z m f p
   ·rw[List.getElem?_set_ne (by omega)] at d;exact h.ap a b z s f d
theorem Hp.row(h:Hp F B w0 L w){x:Option Nat}(g:w.grownBy w' x)(i:Nat){y:Option Nat}(hi:L[i]?=some x)(a:∀k,y=some k→(x=some k∨w.heap.size≤k)∧k<w'.heap.size):Hp F B w0 (L.set i y) w':=
 h.DQ (D:=fun k=>some k=x) (Kk g fun _ e=>e.symm) (fun k e=>.inr (by rw[e];exact List.mem_of_getElem? hi)) i hi a
theorem Hp.erase(h:Hp F B w0 L w)(i:Nat):Hp F B w0 (L.eraseIdx i) w:=by
 refine⟨h.ch,fun k f=>h.lo k (List.mem_of_mem_eraseIdx f),fun a b x e c d=>?_,h.ff⟩;rw[List.getElem?_eraseIdx] at c d;split at c<;>split at d
 ·exact h.ap a b x e c d
 ·exact h.ap a (b+1) x (by omega) c d
 ·exact h.ap (a+1) b x (by omega) c d
 ·exact h.ap (a+1) (b+1) x (by omega) c d
theorem Hp.ne(h:Hp F B w0 L w)(i j:Nat){x:Option Nat}{b:Nat}(a:(i==j)=false)(hi:L[i]?=some (some b))(c:L[j]?=some x):some b≠x:=fun e=>h.ap i j b (by simpa using a) hi (by rw[c,e])
theorem Hp.Br (h:Hp F B w0 L w) (i:Nat) {b:Nat} (hi:L[i]?=some (some b)) (c:List Nat) (f:(c.all fun j=> !Nat.beq i j)=true) (g:HD L c M) (l:∀k,F' k→F k):¬FU F' M b:=by
 rintro(a|a)
 ·exact(h.lo b (List.mem_of_getElem? hi)).2.1 (l b a)
 ·obtain⟨j,d,he⟩:=g.mem _ a;have:=List.all_eq_true.1 f j d;refine h.ap i j b (fun e=>?_) hi he;rw[e,Nat.beq_refl] at this;cases this
theorem WS(a:∀x∈M,x∈L)(b:∀k,F' k→F k):∀k,FU F' M k→F k∨some k∈L:=fun k h=>h.imp (b k) (a _)
theorem Hp.CD (h:Hp F B w0 L w) (d n:List Nat) {C:List (Option Nat)} (o:KX (d++n)=true) (f:HD L d M) (p:HD L n C) (q:∀k,F' k→F k∨some k∈C):BB F' M w:=by
 refine⟨fun k g=>⟨(h.lo k (f.sub _ g)).1,fun aE=>?_⟩,fun i j x r hi m=>?_,fun k g=>?_⟩
 ·rcases q k aE with c|c
  ·exact(h.lo k (f.sub _ g)).2.1 c
  ·obtain⟨i,hi⟩:=List.mem_iff_getElem?.1 g;obtain⟨s,t⟩:=List.mem_iff_getElem?.1 c;obtain⟨j,m,he⟩:=f.get i _ hi;obtain⟨u,v,y⟩:=p.get s _ t;have e:j=u:=by
    refine Decidable.byContradiction fun l=>h.ap j u k l he y
   subst e;have z:i<d.length:=(List.getElem?_eq_some_iff.1 m).1;have aF:=Lm o i (d.length+s) j (by rw[List.getElem?_append_left z];exact m) (by rw[List.getElem?_append_right (by omega)];simpa using v);omega
 ·obtain⟨a,aA,aB⟩:=f.get i _ hi;obtain⟨b,aC,aD⟩:=f.get j _ m;have e:a=b:=Decidable.byContradiction fun l=>h.ap a b x l aB aD;subst e;have l1:i<d.length:=(List.getElem?_eq_some_iff.1 aA).1;have l2:j<d.length:=(List.getElem?_eq_some_iff.1 aC).1;exact r (Lm o i j a (by rw[List.getElem?_append_left l1];exact aA) (by rw[List.getElem?_append_left l2];exact aC))
 ·rcases q k g with c|c
  ·exact Nat.lt_of_lt_of_le (h.ff k c) h.sz
  ·exact(h.lo k (p.sub _ c)).1
theorem Hp.OR (h:Hp F B w0 L w) {D:Nat→Prop} (c:∀k,D k→F k∨some k∈L):∀b,ZZ F B Z w0.heap.size L b→¬D b:=fun b g d=>by
 rcases g with⟨e,f,i,j⟩|⟨e,f⟩
 ·rcases c b d with a|a
  ·exact i a
  ·exact j ((h.lo b a).2.2 e)
 ·rcases c b d with a|a
  ·have:=h.ff b a;omega
  ·exact f a
theorem Hp.zc(h:Hp F B w0 L w)(c:∀x∈M,x∈L)(d:∀k,F' k→F k∨some k∈L):∀b,ZZ F B Z w0.heap.size L b→¬F' b∧some b∉M:=fun b a=>
 ⟨h.OR (D:=F') d b a,fun hm=>h.OR (D:=fun k=>some k∈M) (fun k e=>.inr (c _ e)) b a hm⟩
theorem Jx(h:∀b,Z b→Z' b):Mv w Z w Z':=J0 fun b a _=>h b a
theorem Hp.DN (h:Hp F B w0 L w) {D:Nat→Prop} (g:Bp D w w') (c:∀k,D k→F k∨some k∈L):Mv w (ZZ F B Z w0.heap.size L) w' (ZZ F B Z w0.heap.size L):=
 ⟨g.size,fun b a d=>⟨a,g.block b d (h.OR c b a)⟩⟩
theorem Hp.Ak(h:Hp F B w0 L w){r:Option Nat}(g:w.grownBy w' r)(i:Nat)(hi:L[i]?=some r):Mv w (ZZ F B Z w0.heap.size L) w' (ZZ F B Z w0.heap.size L):=
 h.DN (D:=fun k=>some k=r) (Kk g fun _ e=>e.symm) fun k e=>.inr (by rw[e];exact List.mem_of_getElem? hi)
theorem Hp.Cg(h:Hp F B w0 L w){D:Nat→Prop}(g:Bp D w w')(f:∀k,D k→F k∨some k∈L)(i:Nat){x:Option Nat}(hi:L[i]?=some x){y:Option Nat}(j:∀k,y=some k→(x=some k∨w.heap.size≤k)):Mv w (ZZ F B Z w0.heap.size L) w' (ZZ F B Z w0.heap.size (L.set i y)):=
 ⟨g.size,fun b a l=>⟨a.imp id fun⟨m,c⟩=>⟨m,fun hm=>by
  rcases List.mem_or_eq_of_mem_set hm with hm|e
  ·exact c hm
  ·rcases j b e.symm with d|d
   ·exact c (by rw[←d];exact List.mem_of_getElem? hi)
   ·omega⟩,g.block b l (h.OR f b a)⟩⟩
theorem Hp.CM(h:Hp F B w0 L w){r:Option Nat}(g:w.grownBy w' r)(i:Nat)(hi:L[i]?=some r){y:Option Nat}(a:∀k,y=some k→(r=some k∨w.heap.size≤k)):Mv w (ZZ F B Z w0.heap.size L) w' (ZZ F B Z w0.heap.size (L.set i y)):=
 h.Cg (D:=fun k=>some k=r) (Kk g fun _ e=>e.symm) (fun k e=>.inr (by rw[e];exact List.mem_of_getElem? hi)) i hi a
theorem HE{n0:Nat}(g:Ext w w'){b:Nat}(h:w.heap.size≤b):Mv w (ZZ F B Z n0 L) w' (ZZ F B Z n0 (some b::L)):=
 ⟨g.size,fun k a c=>⟨a.imp id fun⟨d,f⟩=>⟨d,fun hm=>by
  rcases List.mem_cons.1 hm with e|hm
  ·cases e;omega
  ·exact f hm⟩,g.block k c (by simp)⟩⟩
theorem BD{n0:Nat}:Mv w (ZZ F B Z n0 L) w (ZZ F B Z n0 (none::L)):=J0 fun b a _=>a.imp id fun⟨c,d⟩=>⟨c,by simpa using d⟩
theorem WT{n0:Nat}(h:∀x∈L',x∈L):Mv w (ZZ F B Z n0 L) w (ZZ F B Z n0 L'):=J0 fun b a _=>a.imp id fun⟨c,d⟩=>⟨c,fun hm=>d (h _ hm)⟩
theorem AB{n0:Nat}(i:Nat):Mv w (ZZ F B Z n0 L) w (ZZ F B Z n0 (L.eraseIdx i)):=WT fun _ h=>List.mem_of_mem_eraseIdx h
theorem AQ(c:∀b,Z b→¬F b∧some b∉B)(w:World):Mv w Z w (ZZ F B Z w.heap.size L):=J0 fun b a d=>.inl ⟨d,a,c b a⟩
theorem AG {n0:Nat} (d:∀x∈M,x∈L):Mv w (ZZ F B Z n0 L) w (ZZ FN [] Z n0 M):=J0 fun b e _=>by
 rcases e with⟨a,c,_⟩|⟨a,c⟩
 ·exact .inl ⟨a,c,id,by simp⟩
 ·exact .inr ⟨a,fun hm=>c (d _ hm)⟩
theorem FH{n0:Nat}(a:∀b,Z b→Z' b):Mv w (ZZ F B Z n0 L) w (ZZ F B Z' n0 L):=J0 fun b c _=>c.imp (fun⟨d,e,f⟩=>⟨d,a b e,f⟩) id
theorem Hp.call (h:Hp F B w0 L w) {c:Nat} (n:w.heap.size≤c) (j:∀k,some k∈M→some k∈L∨c≤k) (f:∀x∈L',x∈L∨x∈M):Mv w' (ZZ FN [] (ZZ F B Z w0.heap.size L) c M) w' (ZZ F B Z w0.heap.size L'):=
 J0 fun b l _=>by
  have h0:=h.sz;rcases l with⟨m,d,_⟩|⟨m,d⟩
  ·rcases d with e|⟨e,g⟩
   ·exact .inl e
   ·refine .inr ⟨e,fun hm=>?_⟩;rcases f _ hm with a|a
    ·exact g a
    ·rcases j b a with i|i
     ·exact g i
     ·omega
  ·refine .inr ⟨by omega,fun hm=>?_⟩;rcases f _ hm with a|a
   ·have:=(h.lo b a).1;omega
   ·exact d a
theorem Hp.EU(h:Hp F B w0 L w){a:Nat}(b:w.heap.size≤a):Mv w' (ZZ FN [] (ZZ F B Z w0.heap.size L) a []) w' (ZZ F B Z w0.heap.size L):=h.call b (fun _ h=>by cases h) (fun _ h=>.inl h)
theorem Hp.fin(h:Hp F B w0 L w):Bp (FU F B) w0 w:=h.ch
theorem Hp.Bl(h:Hp FN [] w0 L w):Ext w0 w:=h.ch.ext
theorem Hp.lit{b:Nat}(h:Hp F B w0 L w)(i:Nat)(hi:L[i]?=some (some b))(c:w0.heap.size≤b):ZZ F B Z w0.heap.size (L.eraseIdx i) b:=
 .inr ⟨c,fun hm=>by
  obtain⟨j,a⟩:=List.mem_iff_getElem?.1 hm;rw[List.getElem?_eraseIdx] at a;split at a
  ·exact h.ap i j b (by omega) hi a
  ·exact h.ap i (j+1) b (by omega) hi a⟩
theorem Hp.own {b:Nat} (h:Hp F B w0 L w) (i:Nat) (hi:L[i]?=some (some b)) (c:some b∉B):w0.heap.size≤b:=by
 rcases Nat.lt_or_ge b w0.heap.size with a|a
 ·exact absurd ((h.lo b (List.mem_of_getElem? hi)).2.2 a) c
 ·exact a
end
def Be {α:Type} (e:CH α) (t:TypeId) (n0:Nat) (w:World) (Z:Nat→Prop) (A:Option Addr) (c:Nat) (xs:List α):Prop:=
 ∃Bw,R2 e w Z Bw xs∧Ey w n0 t e.sz A xs.length c Bw.flatten
section
variable{α:Type}{e:CH α}{t:TypeId}{n0:Nat}{w w':World}{Z Z':Nat→Prop}{A:Option Addr}{c:Nat}{xs:List α}
theorem Be.nil(e:CH α)(t:TypeId)(n0:Nat)(w:World)(Z:Nat→Prop):Be e t n0 w Z none 0 []:=⟨[],trivial,Ey.nil _ _ _ _⟩
theorem Be.gr(h:Be e t n0 w Z A c xs){r:Option Nat}(g:w.grownBy w' r)(a:∀k,ob A=some k→some k≠r)(hm:Mv w Z w' Z'):Be e t n0 w' Z' A c xs:=by
 obtain⟨Bw,b,d⟩:=h;exact⟨Bw,b.mv hm,d.kept g fun k f o i=>a k (by rw[i];rfl) f.symm⟩
theorem Be.ext(h:Be e t n0 w Z A c xs)(g:Ext w w')(hm:Mv w Z w' Z'):Be e t n0 w' Z' A c xs:=h.gr g (fun _ _ e=>by cases e) hm
theorem Be.up(h:Be e t n0 w Z A c xs)(hm:Mv w Z w Z'):Be e t n0 w Z' A c xs:=by
 obtain⟨Bw,a,b⟩:=h;exact⟨Bw,a.mv hm,b⟩
theorem Be.sl(h:Be e t n0 w Z A c xs)(m:∀k,ob A=some k→n0≤k→Z k):Sl e w Z A c xs:=by
 obtain⟨Bw,f,a⟩:=h;have n:=a;rcases a.2 with⟨d,h0⟩|⟨g,cap,cur,d,i,o,l,_,_,_⟩
 ·have:xs=[]:=List.eq_nil_of_length_eq_zero h0;subst this;cases d;exact Sl.nil _ _ _
 ·cases d;refine⟨l,(fun e=>by cases e),Bw,f,?_⟩;refine PJ (hi:=g+1) (lo:=g) ?_ (fun b f a=>by
   obtain rfl:b=g:=by omega
   exact m b rfl i)
  refine⟨lt_of_block o,.inr ⟨g,0,rfl,Nat.le_refl _,Nat.lt_succ_self _,fun j u hu=>?_⟩⟩;have:=World.ownsRow.cells n (g:=g) rfl j u hu;rw[GK] at this;exact this
theorem Be.all(h:Be e t n0 w Z A c xs):Sl e w ZA A c xs:=(h.up KW).sl fun _ _ _=>trivial
theorem Be.L5(h:Be e t n0 w Z A c xs):∀k,ob A=some k→k<w.heap.size:=by
 obtain⟨Bw,j,d⟩:=h;intro k b;rcases d.2 with⟨a,h0⟩|⟨g,cap,cur,a,i,f,_⟩
 ·obtain⟨rfl,-,-⟩:=Value.slice.inj a;cases b
 ·cases a;cases b;exact lt_of_block f
end
section
variable{α:Type}{e:CH α}{t:TypeId}{F F':Nat→Prop}{B L M:List (Option Nat)}{n0 n1:Nat}{w0 w w':World}{Z Z':Nat→Prop}{A:Option Addr}{c:Nat}{xs:List α}
theorem Be.Bs(h:Be e t n0 w Z A c xs){D:Nat→Prop}(g:Bp D w w')(i:∀k,ob A=some k→¬D k)(hm:Mv w Z w' Z'):Be e t n0 w' Z' A c xs:=by
 obtain⟨Bw,j,a⟩:=h;refine⟨Bw,j.mv hm,a.1,a.2.imp id ?_⟩;rintro⟨b,cap,cur,d,l,f,m⟩;refine⟨b,cap,cur,d,l,?_,m⟩;cases d;exact(g.block b (lt_of_block f) (i b rfl)).trans f
theorem Be.base(h:Be e t n0 w Z A c xs)(d:∀k,ob A=some k→n1≤k):Be e t n1 w Z A c xs:=by
 obtain⟨Bw,f,a⟩:=h;refine⟨Bw,f,a.1,a.2.imp id ?_⟩;rintro⟨b,cap,cur,g,_,i⟩;cases g;exact⟨b,_,cur,rfl,d b rfl,i⟩
theorem Be.ge(h:Be e t n0 w Z A c xs):∀k,ob A=some k→n0≤k:=by
 obtain⟨Bw,i,f⟩:=h;intro k d;rcases f.2 with⟨a,_⟩|⟨b,cap,cur,a,g,_⟩
 ·obtain⟨rfl,-,-⟩:=Value.slice.inj a;cases d
 ·cases a;cases d;exact g
theorem Hp.ZO (h:Hp F B w0 L w) (i:Nat) (hi:L[i]?=some (ob A)) (d:Be e t w0.heap.size w (ZZ F B Z w0.heap.size L) A c xs):Sl e w (ZZ F B Z w0.heap.size (L.eraseIdx i)) A c xs:=
 (d.up (AB i)).sl fun k b h0=>.inr ⟨h0,fun hm=>by
  obtain⟨j,a⟩:=List.mem_iff_getElem?.1 hm;rw[List.getElem?_eraseIdx] at a;split at a
  ·exact h.ap i j k (by omega) (by rw[hi,b]) a
  ·exact h.ap i (j+1) k (by omega) (by rw[hi,b]) a⟩
theorem Hp.Jm (h:Hp F B w0 L w) (i:Nat) (hi:L[i]?=some (ob A)) (a:List Nat) (d:(a.all fun j=> !Nat.beq i j)=true) (b:HD L a M) (f:Be e t w0.heap.size w (ZZ F B Z w0.heap.size L) A c xs):Sl e w (ZZ FN [] Z w0.heap.size M) A c xs:=
 (f.up (AG b.sub)).sl fun k g h0=>.inr ⟨h0,fun hm=>h.Br (F':=FN) i (by rw[hi,g]) a d b (fun _ h=>h.elim) (.inr hm)⟩
theorem Hp.kn{b:Nat}(h:Hp F B w0 L w)(a:w.heap.size≤b):ZZ F B Z w0.heap.size L b:=
 .inr ⟨Nat.le_trans h.sz a,fun hm=>absurd (h.lo b hm).1 (Nat.not_lt.2 a)⟩
theorem L6 {b:Nat} {cs:Array Value} {Bw:List (List Value)} (g:Bk w b t cs) (c:n0≤b) (h:R2 e w Z Bw xs) (d:Bw.flatten=cs.toList) (hm:xs.length≤maxLen):Be e t n0 w Z (some ⟨b,0,none⟩) xs.length xs:=by
 have f:=h.KN;have a:cs.size=xs.length*e.sz:=by rw[←f,d];simp
 refine⟨Bw,h,f,.inr ⟨b,xs.length,cs,rfl,c,g,Nat.le_refl _,hm,a,?_⟩⟩;rw[d,List.take_of_length_le (by simp[a])]
theorem Hp.hand (h:Hp F B w0 L w) {D:Nat→Prop} (g:Bp D w w') (p:∀k,D k→F k∨some k∈L) (l:Be e t w.heap.size w' Z' A c xs):Hp F B w0 (ob A::L) w':=by
 have b:=h.Bs g p;cases m:ob A with
 |none=>exact b.nil
 |some k=>
  have s:=l.ge k m;have n:=l.L5 k m;refine⟨b.ch,fun x a=>?_,?_,h.ff⟩
  ·rcases List.mem_cons.1 a with e|a
   ·cases e;have u:=h.sz;exact⟨n,fun q=>absurd (h.ff _ q) (by omega),fun r=>absurd r (by omega)⟩
   ·exact b.lo x a
  ·have key:∀(j:Nat) (x:Nat),L[j]?=some (some x)→x≠k:=fun j x a e=>by
    have:=(h.lo x (List.mem_of_getElem? a)).1;omega
   intro i j x o hi d;cases i with
   |zero=>
    cases j with
    |zero=>exact o rfl
    |succ j=>
     have f:k=x:=by simpa using hi
     exact key j x (by simpa using d) f.symm
   |succ i=>
    cases j with
    |zero=>
     have f:k=x:=by simpa using d
     exact key i x (by simpa using hi) f.symm
    |succ j=>exact h.ap i j x (by omega) (by simpa using hi) (by simpa using d)
theorem Hp.SC(h:Hp F B w0 L w){D:Nat→Prop}(g:Bp D w w')(f:∀k,D k→F k∨some k∈L)(i:Be e t w.heap.size w' Z' A c xs){a:Nat→Prop}:Mv w (ZZ F B a w0.heap.size L) w' (ZZ F B a w0.heap.size (ob A::L)):=by
 refine⟨g.size,fun b d j=>⟨d.imp id fun⟨l,m⟩=>⟨l,fun hm=>?_⟩,g.block b j (h.OR f b d)⟩⟩;rcases List.mem_cons.1 hm with e|hm
 ·have:=i.ge b e.symm;omega
 ·exact m hm
theorem Hp.Yn(h:Hp F B w0 L w){b:Nat}(g:w.heap.size≤b)(d:Be e t b w' (ZZ FN [] (ZZ F B Z w0.heap.size L) b [ob A]) A c xs):Be e t w0.heap.size w' (ZZ F B Z w0.heap.size (ob A::L)) A c xs:=
 (d.base (n1:=w0.heap.size) fun k a=>Nat.le_trans h.sz (Nat.le_trans g (d.ge k a))).up (h.call g (fun k a=>by
  rw[List.mem_singleton] at a;exact .inr (d.ge k a.symm)) fun x f=>by
  rcases List.mem_cons.1 f with e|f
  ·exact .inr (by rw[e];exact List.mem_singleton_self _)
  ·exact .inl f)
end
def i64(x:Int):Option Int:=if-9223372036854775808≤x∧x≤9223372036854775807 then some x else none
theorem TO{x y:Int}(h:i64 x=some y):y=x∧fits x:=by
 unfold i64 at h;split at h
 ·exact⟨(Option.some.inj h).symm,by assumption⟩
 ·cases h
theorem WU{x:Int}(h0:-9223372036854775808≤x)(a:x≤9223372036854775807):i64 x=some x:=if_pos ⟨h0,a⟩
def idx{α:Type}(xs:List α)(i:Int):Option α:=if 0≤i then xs[i.toNat]? else none
theorem TP{α:Type}{xs:List α}{i:Int}{x:α}(h:idx xs i=some x):∃k:Nat,i=k∧xs[k]?=some x∧k<xs.length:=by
 unfold idx at h;split at h
 ·exact⟨i.toNat,by omega,h,(List.getElem?_eq_some_iff.1 h).1⟩
 ·cases h
theorem idx_eq{α:Type}{xs:List α}{k:Nat}(h:k<xs.length):idx xs (k:Int)=some xs[k]:=by
 unfold idx;rw[if_pos (by omega)];simp[h]
def quo(a b:Int):Option Int:=if 0≤a∧1≤b then some (a/b) else none
theorem TQ{a b y:Int}(h:quo a b=some y):y=a/b∧0≤a∧1≤b:=by
 unfold quo at h;split at h
 ·exact⟨(Option.some.inj h).symm,by assumption⟩
 ·cases h
def rem(a b:Int):Option Int:=if 0≤a∧1≤b then some (a%b) else none
theorem TR{a b y:Int}(h:rem a b=some y):y=a%b∧0≤a∧1≤b:=by
 unfold rem at h;split at h
 ·exact⟨(Option.some.inj h).symm,by assumption⟩
 ·cases h
theorem AT{α:Type}{x:Int}{f:Int→Option α}{r:α}(h:(i64 x).bind f=some r):fits x∧f x=some r:=by
 obtain⟨y,a,b⟩:=Option.bind_eq_some_iff.1 h;obtain⟨rfl,c⟩:=TO a;exact⟨c,b⟩
theorem Bn{α β:Type}{xs:List α}{i:Int}{f:α→Option β}{r:β}(h:(idx xs i).bind f=some r):∃(k:Nat) (x:α),i=k∧xs[k]?=some x∧k<xs.length∧f x=some r:=by
 obtain⟨x,a,b⟩:=Option.bind_eq_some_iff.1 h;obtain⟨k,c,d,e⟩:=TP a;exact⟨k,x,c,d,e,b⟩
theorem Kl{α:Type}{a b:Int}{f:Int→Option α}{r:α}(h:(quo a b).bind f=some r):(0≤a∧1≤b)∧f (a/b)=some r:=by
 obtain⟨y,c,d⟩:=Option.bind_eq_some_iff.1 h;obtain⟨rfl,e⟩:=TQ c;exact⟨e,d⟩
theorem Ic{α:Type}{a b:Int}{f:Int→Option α}{r:α}(h:(rem a b).bind f=some r):(0≤a∧1≤b)∧f (a%b)=some r:=by
 obtain⟨y,c,d⟩:=Option.bind_eq_some_iff.1 h;obtain⟨rfl,e⟩:=TR c;exact⟨e,d⟩
def HG (p:Prop) [Decidable p]:Option Unit:=if p then some () else none
theorem D2{α:Type}{p:Prop}[Decidable p]{f:Unit→Option α}{r:α}(h:(HG p).bind f=some r):p∧f ()=some r:=by
 unfold HG at h;split at h
 ·exact⟨by assumption,h⟩
 ·cases h
theorem AD{α:Type}{b:Bool}{x y:Option α}{r:α}(h:cond b x y=some r)(a:b=true):x=some r:=by subst a;exact h
theorem AE{α:Type}{b:Bool}{x y:Option α}{r:α}(h:cond b x y=some r)(a:b=false):y=some r:=by subst a;exact h
theorem bind_some{α β:Type}{x:Option α}{f:α→Option β}{r:β}(h:x.bind f=some r):∃a,x=some a∧f a=some r:=Option.bind_eq_some_iff.1 h
theorem EW{α β a:Type}{x:α}{f:α→Option a}{g:β→Option a}{r:a}(h:Sum.elim f g (.inl x)=some r):f x=some r:=h
theorem EX{α β a:Type}{x:β}{f:α→Option a}{g:β→Option a}{r:a}(h:Sum.elim f g (.inr x)=some r):g x=some r:=h
theorem U3{P:Program}{ro:Option Nat}{c:Code}{Q d:Exit→Act→World→Prop}{a:Act}{w:World}(h:CW P ro c Q a w)(i:∀e a w,Q e a w→d e a w):CW P ro c d a w:=by
 intro b k cs f j g;obtain⟨e,l,m,n,o⟩:=h b k cs f j g;exact⟨e,l,m,i _ _ _ n,o⟩
theorem Co {P:Program} {X:Ctx} {N:Nat} {c:Code} {Q:Exit→Act→World→Prop} {a:Act} {l:Env} {w:World} (d:Exit→Act→World→Prop) (h:CC P X N c d a l w) (b:∀e a w,d e a w→Q e a w):CC P X N c Q a l w:=
 fun s=>U3 (h s) b
theorem Po{X:Ctx}{N:Nat}{Q:Exit→Act→World→Prop}{e:Exit}{a:Act}{w:World}(b:a.tmps.size=N)(c:a.defers=X.ds)(h:LV X N Q e a [] w):Q e a w:=h ⟨b,c,fun _ d=>by cases d⟩
theorem Cj{X:Ctx}{N:Nat}{Q:Exit→Act→World→Prop}{e:Exit}{a:Act}{l:Env}{w:World}(h:St X N a l→Q e (Cl a l) w):LV X N Q e a l w:=h
section
variable{P:Program}{a:Act}{w:World}{dst:Option Tmp}{ty:TypeId}{pos:String}{B6:Array Edge}{g:Option (Nat×Bool)}
theorem FI {t:TypeId} {x:Operand} {Z:Nat→Prop} {b o k:Nat} {cs:List Value} {v:Value} (h:One P t) (c:a.eval x=.pointer (some ⟨b,o+k,none⟩)) (d:Rz w Z (some ⟨b,o,none⟩) cs) (e:cs[k]?=some v):
  B7 P ⟨dst,.load t x,ty,pos,B6,g⟩ a w (fun u w'=>u=v∧w'=w):=OO h c d.cells e
theorem BJ{t:TypeId}{x:Operand}{Z:Nat→Prop}{b o:Nat}{cs:List Value}{v:Value}(h:One P t)(c:a.eval x=.pointer (some ⟨b,o,none⟩))(d:Rz w Z (some ⟨b,o,none⟩) cs)(e:cs[0]?=some v):
  B7 P ⟨dst,.load t x,ty,pos,B6,g⟩ a w (fun u w'=>u=v∧w'=w):=OO (k:=0) h c d.cells e
theorem OS{t:TypeId}{x:Operand}{Z:Nat→Prop}{n b o k:Nat}{cs l:List Value}(h:EK P t n)(c:a.eval x=.pointer (some ⟨b,o+k,none⟩))(d:Rz w Z (some ⟨b,o,none⟩) cs)
  (e:(cs.drop k).take n=l)(f:l.length=n):B7 P ⟨dst,.load t x,ty,pos,B6,g⟩ a w (fun u w'=>u=.agg l.toArray∧w'=w):=NK h c d.cells e f
theorem CN{t:TypeId}{x:Operand}{Z:Nat→Prop}{n b o:Nat}{cs l:List Value}(h:EK P t n)(c:a.eval x=.pointer (some ⟨b,o,none⟩))(d:Rz w Z (some ⟨b,o,none⟩) cs)
  (e:cs.take n=l)(f:l.length=n):B7 P ⟨dst,.load t x,ty,pos,B6,g⟩ a w (fun u w'=>u=.agg l.toArray∧w'=w):=NK (k:=0) h c d.cells (by simpa using e) f
theorem IN {α:Type} {e:CH α} {s x:Operand} {t r:TypeId} {z:Value} {sz bytes:Nat} (aP:P.underlying t=some (.slice r)) (hi:(P.info? r).map (fun i=>(i.zero,i.size,i.bytes))=some (some z,sz,bytes)) (aE:z.cells.size=sz) (aF:e.sz=sz) (h0:0<sz)
  {n0:Nat} {Z:Nat→Prop} {A B:Option Addr} {c d n:Nat} {xs ys:List α} (aQ:a.eval s=.slice A n c) (aR:xs.length=n) (aS:a.eval x=.slice B ys.length d) (aC:Be e r n0 w Z A c xs) (aG:∃Bw,R2 e w Z Bw ys∧Rz w ZA B Bw.flatten)
  (aH:xs.length+ys.length≤maxLen) (l:(xs.length+ys.length)*bytes≤140737488355328) (y:n0≤w.heap.size) (aI:ys≠[]):
  B7 P ⟨dst,.call {callee:=.builtin .append,args:= #[s,x],argTypes:= #[t,t]},ty,pos,B6,g⟩ a w (fun v w'=>∃p aA,v=.slice p (xs++ys).length aA∧w.grownBy w' (ob A)∧(∀k,ob p=some k→(ob A=some k∨w.heap.size≤k)∧k<w'.heap.size)∧
   ∃Bw f,R2 e w Z Bw xs∧R2 e w Z f ys∧Ey w' n0 r e.sz p (xs++ys).length aA (Bw++f).flatten):=by
 obtain⟨Bw,aT,aU⟩:=aC;obtain⟨f,aB,aV⟩:=aG;subst aF;subst aR;have aJ:f.flatten≠[]:=fun aW=>by
  have:=aB.KN;rw[aW] at this;have aX:0<ys.length:=List.length_pos_iff.2 aI;have:=Nat.mul_pos aX h0;simp at*;omega
 obtain⟨b,o,rfl,-,-,aY⟩:=aV.resolve_left aJ;refine(SA (ad:=⟨b,o,none⟩) (news:=f.flatten) (m:=ys.length) aP hi aE h0 aQ aS aU (fun j u hu=>by rw[GK];exact aY j u hu) aB.KN aB.one aH l y).mono ?_;rintro v w' ⟨p,aA,rfl,q,aK,-,aZ⟩;rw[WR] at aK;refine⟨p,aA,by rw[List.length_append],aK,fun k aL=>?_,Bw,f,aT,aB,by rw[List.length_append,List.flatten_append];exact q⟩;have a4:=q.L5 (k:=k) (o:=0);rcases q.2 with⟨aD,_⟩|⟨aM,a0,a2,aD,_,aN,_⟩
 ·obtain⟨rfl,-,-⟩:=Value.slice.inj aD;cases aL
 ·cases aD;have aO:aM=k:=by simpa[ob] using aL
  subst aO;refine⟨?_,lt_of_block aN⟩;rcases aZ aM 0 rfl with⟨o',a3⟩|h
  ·left;rw[a3];rfl
  ·exact .inr h
theorem E4{α:Type}{e:CH α}{t:TypeId}{n0:Nat}{w w':World}{Z Z':Nat→Prop}{A:Option Addr}{c:Nat}{xs ys:List α}
  (h:∃Bw a,R2 e w Z Bw xs∧R2 e w Z a ys∧Ey w' n0 t e.sz A (xs++ys).length c (Bw++a).flatten)(hm:Mv w Z w' Z'):Be e t n0 w' Z' A c (xs++ys):=by
 obtain⟨Bw,a,b,d,f⟩:=h;exact⟨Bw++a,(b.mv hm).append (d.mv hm),f⟩
theorem Sl.news{α:Type}{e:CH α}{Z:Nat→Prop}{A:Option Addr}{c:Nat}{xs:List α}(h:Sl e w Z A c xs):∃Bw,R2 e w Z Bw xs∧Rz w ZA A Bw.flatten:=by
 obtain⟨_,_,Bw,a,b⟩:=h;exact⟨Bw,a,b.mv KW⟩
theorem I7 {α:Type} {e:CH α} {Z:Nat→Prop} {b:Nat} {t:TypeId} {cs:Array Value} {Bw:List (List Value)} {xs:List α} (a:Bk w b t cs) (h:R2 e w Z Bw xs) (c:Bw.flatten=cs.toList):∃Bw,R2 e w Z Bw xs∧Rz w ZA (some ⟨b,0,none⟩) Bw.flatten:=
 ⟨Bw,h,.inr ⟨b,0,rfl,trivial,a.lt,fun j u hu=>by rw[Nat.zero_add,a.cell];rw[c] at hu;simpa using hu⟩⟩
theorem Jy{α:Type}{e:CH α}{Z:Nat→Prop}{b:Nat}{t:TypeId}{cs:Array Value}{Bw:List (List Value)}{xs:List α}(a:Bk w b t cs)(d:Z b)(h:R2 e w Z Bw xs)(f:Bw.flatten=cs.toList){c:Nat}(g:xs.length≤c):Sl e w Z (some ⟨b,0,none⟩) c xs:=
 ⟨g,(fun e=>by cases e),Bw,h,.inr ⟨b,0,rfl,d,a.lt,fun j u hu=>by rw[Nat.zero_add,a.cell];rw[f] at hu;simpa using hu⟩⟩
end
def Ln(D:Nat→Bool)(i:Nat):Nat→Bool:=fun j=>cond (Nat.beq j i) true (D j)
def Lp(V:Nat→Value)(i:Nat)(v:Value):Nat→Value:=fun j=>cond (Nat.beq j i) v (V j)
theorem SD(D:Nat→Bool)(i:Nat):Ln D i i=true:=by unfold Ln;rw[Nat.beq_refl];rfl
theorem U4(D:Nat→Bool){i j:Nat}(h:j≠i):Ln D i j=D j:=by
 have:Nat.beq j i=false:=by
  cases a:Nat.beq j i with
  |false=>rfl
  |true=>exact absurd (Nat.eq_of_beq_eq_true a) h
 unfold Ln;rw[this];rfl
theorem SE(V:Nat→Value)(i:Nat)(v:Value):Lp V i v i=v:=by unfold Lp;rw[Nat.beq_refl];rfl
theorem U5(V:Nat→Value){i j:Nat}(v:Value)(h:j≠i):Lp V i v j=V j:=by
 have:Nat.beq j i=false:=by
  cases a:Nat.beq j i with
  |false=>rfl
  |true=>exact absurd (Nat.eq_of_beq_eq_true a) h
 unfold Lp;rw[this];rfl
structure Jz (L:List Oper) (a:Act) (l:Env) (D:Nat→Bool) (V:Nat→Value) (k:Nat) (o:Oper) (a':Act):Prop where
 out:∀s,isDst L s=false→sl a' s=lk (sl a s) l s
 BR:∀j d,E1 o j=true→Ci L j=some d→sl a' d=V j
 dn:∀j,E1 o j=true→D j=true
 me:D k=false
 down:∀j o',L[j]?=some o'→D j=true→∀k',E1 o' k'=true→D k'=true
theorem Jz.no{L:List Oper}{a:Act}{l:Env}{D:Nat→Bool}{V:Nat→Value}{k:Nat}{o:Oper}{a':Act}(K:Jz L a l D V k o a')(j:Nat)(o':Oper)(b:L[j]?=some o')(h:E1 o' k=true):D j=false:=by
 cases c:D j with
 |false=>rfl
 |true=>have:=K.down j o' b c k h;rw[K.me] at this;cases this
theorem Jz.later {N:Nat} {L:List Oper} {a:Act} {l:Env} {D:Nat→Bool} {V:Nat→Value} {k:Nat} {o:Oper} {a':Act} (K:Jz L a l D V k o a') (g:LY N L=true) (e:∀s,(∀j,Ci L j=some s→D j=false)→sl a' s=lk (sl a s) l s)
  (j d:Nat) (o':Oper) (f:L[j]?=some o') (b:o'.dst=some d) (c:E1 o' k=true):sl a' d=lk (sl a d) l d:=e d fun i hi=>by
 have h:Ci L j=some d:=by simp[Ci,f,b]
 obtain rfl:=(Jw g j i d h).2 hi;exact K.no j o' f c
section
variable(P:Program)(L:List Oper)(a:Act)(l:Env)(I:(Nat→Bool)→(Nat→Value)→World→Prop)
structure RZ (D:Nat→Bool) (V:Nat→Value) (k:Nat) (o:Oper) (a':Act):Prop extends Jz L a l D V k o a' where
 later:∀(j d:Nat) (o':Oper),L[j]?=some o'→o'.dst=some d→E1 o' k=true→sl a' d=lk (sl a d) l d
def R0(k:Nat)(o:Oper):Prop:=∀D V a' w',RZ L a l D V k o a'→I D V w'→
 (Region.wanted o (yielded L.toArray a'.tmps)=true∧B7 P o a' w' (fun v Bc=>I (Ln D k) (Lp V k v) Bc))∨
 (Region.wanted o (yielded L.toArray a'.tmps)=false∧I (Ln D k) (Lp V k undef) w')
def PK:Nat→Nat→List Oper→Prop
 |0,_,_=>True
 |_+1,_,[]=>True
 |m+1,k,o::R=>R0 P L a l I k o∧PK m (k+1) R
def PL:Nat→Nat→List Oper→(Nat→Value)→Env→Env
 |0,_,_,_,l=>l
 |_+1,_,[],_,l=>l
 |m+1,k,o::R,V,l=>match o.dst with
  |some d=>PL m (k+1) R V ((d,V k)::l)
  |none=>PL m (k+1) R V l
end
section
variable{P:Program}{X:Ctx}{N:Nat}{L:List Oper}{Q:Exit→Act→World→Prop}{a:Act}{l:Env}{w:World}{I:(Nat→Bool)→(Nat→Value)→World→Prop}{k:Nat}{o:Oper}
theorem sj(b:o.guard=none)(h:∀D V a' w',RZ L a l D V k o a'→I D V w'→B7 P o a' w' (fun v Bc=>I (Ln D k) (Lp V k v) Bc)):R0 P L a l I k o:=
 fun D V a' w' K c=>.inl ⟨by unfold Region.wanted;rw[b],h D V a' w' K c⟩
theorem NO:∀{m:Nat} {R:List Oper} {k:Nat},PK P L a l I m k R→∀(i:Nat) (o:Oper),i<m→R[i]?=some o→R0 P L a l I (k+i) o
 |0,_,_,_,i,o,hi,_=>absurd hi (by omega)
 |_+1,[],_,_,i,o,_,b=>by simp at b
 |m+1,o'::R,k,h,i,o,hi,b=>by
  cases i with
  |zero=>
   obtain rfl:o'=o:=by simpa using b
   exact h.1
  |succ i=>
   have:=NO h.2 i o (by omega) (by simpa using b);rw[Nat.add_assoc,Nat.add_comm 1 i] at this;exact this
theorem PN{V:Nat→Value}{G:Env→Prop}{w':World}:∀(m:Nat) (R:List Oper) (k:Nat) (b:Env),G (PL m k R V b)→Lj X N a (fun k v _=>v=V k) (fun _ _=>True) G w' m k R b
 |0,_,_,_,h=>fun _=>h
 |_+1,[],_,_,h=>fun _=>h
 |m+1,o::R,k,b,h=>by
  simp only[Lj];simp only[PL] at h;cases c:o.dst with
  |none=>rw[c] at h;exact PN m R (k+1) b h
  |some d=>rw[c] at h;rintro v rfl;exact PN m R (k+1) _ h
theorem J8{id:Nat}(m:Nat)(I:(Nat→Bool)→(Nat→Value)→World→Prop)(hm:P.follows .mixedOrders=true)(aW:ME N L []=true)(a9:(Nat.ble m L.length&&Kg L m)=true)(h0:I (fun _=>false) (fun _=>undef) w.drew)
  (b1:PK P L a l I m 0 L)(bH:∀D V w',(∀j,Nat.blt j m=true→D j=true)→I D V w'→WL P X N L.toArray Q (L.drop m) a (PL m 0 L V l) w'):CC P X N (.region id L.toArray true) Q a l w:=fun st=>
 wpIn_region_any hm (by
  have aQ:=aW;simp only[ME,Bool.and_eq_true] at aQ;obtain⟨⟨aR,bA⟩,_⟩:=aQ;rw[Bool.and_eq_true] at a9;obtain⟨bI,bB⟩:=a9;have bJ:m≤L.length:=Nat.le_of_ble_eq_true bI;have aG:=Jw bA;have fin:∀(fuel:Nat) (listed:Array Bool) (a':Act) (w':World) (D:Nat→Bool) (V:Nat→Value),listed.toList.count false≤fuel→listed.size=L.length→a'.tmps.size=N→a'.defers=X.ds→
    (∀s,(∀j,Ci L j=some s→listed.getD j false=false)→sl a' s=lk (sl a s) l s)→(∀j d,listed.getD j false=true→Ci L j=some d→sl a' d=V j)→(∀j,j<L.length→D j=listed.getD j false)→
    I D V w'→(∀j,m≤j→listed.getD j false=false)→(∀j,j<m→listed.getD j false=true)→wpAnyIn (Wd X.ro) 0 P .any L.toArray Q fuel listed a' w':=by
   intro fuel listed a' w' D V aX z aA aE r q aB aV c aN;have bK:wpListIn (Wd X.ro) 0 P L.toArray Q (L.drop m) a' w':=by
    refine MF (K:=wpListIn (Wd X.ro) 0 P L.toArray Q (L.drop m) a' w') (X:=X) (N:=N) (Φ:=fun k v _=>v=V k) (fun _ _=>True) (fun bL=>WL P X N L.toArray Q (L.drop m) a bL w') w' a' trivial aA aE (fun bL bM b2 e=>by rw[e];exact b2 bM) m L 0 l st bJ (fun i d hi=>(aG i i d hi).1) (fun i j d hi b=>(aG i j d hi).2 b)
     (PN m L 0 l (bH D V w' (fun j b=>by
      have aK:j<m:=by simpa[Nat.blt_eq] using b
      rw[aB j (by omega)];exact aN j aK) aV)) (fun i d aY aO=>?_) (fun s t=>?_)
    ·rw[Nat.zero_add];exact q i d (aN i aY) aO
    ·refine r s fun j b=>?_;rcases Nat.lt_or_ge j m with h|h
     ·exact absurd b (t j h)
     ·exact c j h
   refine PD bB aR (L.drop m) m fuel listed a' w' rfl (Nat.le_refl _) ?_ z (fun i hi=>?_) bK
   ·refine Nat.le_trans ?_ aX;have e:listed.toList.drop m=List.replicate (L.length-m) false:=by
     apply List.ext_getElem
     ·simp[z]
     ·intro i aH aP;simp at aH;have:=c (m+i) (by omega);rw[Array.getD_eq_getD_getElem?,Array.getElem?_eq_getElem (by omega)] at this;simpa using this
    have aP:(listed.toList.drop m).count false≤listed.toList.count false:=(List.drop_sublist m listed.toList).count_le false;rw[e,List.count_replicate_self] at aP;simpa using aP
   ·rcases Nat.lt_or_ge i m with h|h
    ·simp[aN i h,h]
    ·simp only[c i h];constructor
     ·intro aZ;cases aZ
     ·intro aZ;omega
  have main:∀(fuel:Nat) (listed:Array Bool) (a':Act) (w':World) (D:Nat→Bool) (V:Nat→Value),listed.toList.count false≤fuel→listed.size=L.length→a'.tmps.size=N→a'.defers=X.ds→
    (∀s,(∀j,Ci L j=some s→listed.getD j false=false)→sl a' s=lk (sl a s) l s)→(∀j d,listed.getD j false=true→Ci L j=some d→sl a' d=V j)→(∀j,j<L.length→D j=listed.getD j false)→
    (∀(j:Nat) (o:Oper),L[j]?=some o→listed.getD j false=true→∀e∈o.after,Region.binds .any e=true→listed.getD e.on false=true)→I D V w'→(∀j,m≤j→listed.getD j false=false)→wpAnyIn (Wd X.ro) 0 P .any L.toArray Q fuel listed a' w':=by
   intro fuel
   induction fuel with
   |zero=>
    intro listed a' w' D V aX z aA aE r q aB y aV c;refine fin 0 listed a' w' D V aX z aA aE r q aB aV c fun j b=>?_;have aK:j<listed.size:=by omega
    cases u:listed[j] with
    |true=>simp[aK,u]
    |false=>
     have:false∈listed.toList:=by rw[←u];simp
     have:=List.count_pos_iff.2 this;omega
   |succ fuel ih=>
    intro listed a' w' D V aX z aA aE r q aB y aV c
    by_cases aS:∀j,j<m→listed.getD j false=true
    ·exact fin (fuel+1) listed a' w' D V aX z aA aE r q aB aV c aS
    have hex:∃j,j<m∧listed.getD j false=false:=by
     false_or_by_contra
     rename_i bN
     refine aS fun j b=>?_;cases u:listed.getD j false with
     |true=>rfl
     |false=>exact absurd ⟨j,b,u⟩ bN
    constructor
    ·intro b3;exfalso;obtain⟨j,b,u⟩:=hex;refine absurd u ?_;rw[Bool.not_eq_false];clear u
     induction j using Nat.strongRecOn with
     |_ j bO=>
      cases u:listed.getD j false with
      |true=>rfl
      |false=>
       exfalso;have aK:j<listed.size:=by omega
       have hm:j∈Region.ready .any L.toArray listed:=mem_ready.2 ⟨by simp[aK] at u⊢;exact u,L[j],by simp,fun e he g=>by
        have aH:=E2 aR j L[j] (List.getElem?_eq_getElem (by omega)) e he g;exact bO e.on (by omega) (by omega)⟩
       rw[b3] at hm;cases hm
    ·intro i hi;obtain⟨h0,o,bP,aI⟩:=mem_ready.1 hi;have aC:L[i]?=some o:=by simpa using bP
     have bQ:i<L.length:=(List.getElem?_eq_some_iff.1 aC).1;have aF:i<listed.size:=by omega
     have aT:listed.getD i false=false:=by simp[aF] at h0⊢;exact h0
     have aY:i<m:=by
      rcases Nat.lt_or_ge i m with h|h
      ·exact h
      ·obtain⟨j,b,u⟩:=hex;have:=Lk (p:=fun x=>listed.getD x false=true) (fun d od bR aL k aW=>by
        obtain⟨e,he,g,aD⟩:=Fv.1 aW;have:=y d od bR aL e he g
        rwa[aD] at this) (KM bB aC h j (by omega)) (fun b4 bC k aW=>by
        rw[aC] at bC;obtain rfl:o=b4:=by simpa using bC
        obtain⟨e,he,g,aD⟩:=Fv.1 aW;have:=aI e he g
        rwa[aD] at this)
       rw[u] at this;cases this
     have aL:∀j,E1 o j=true→listed.getD j false=true∧j<L.length:=fun j b=>by
      obtain⟨e,he,g,aD⟩:=Fv.1 b;have aH:=aI e he g;have aP:=E2 aR i o aC e he g;rw[aD] at aH aP;exact⟨aH,by omega⟩
     have bD:Jz L a l D V i o a':=by
      refine⟨fun s t=>r s fun j b=>?_,fun j d b aO=>q j d (aL j b).1 aO,fun j b=>by rw[aB j (aL j b).2];exact(aL j b).1,by rw[aB i bQ];exact aT,fun j bS b bE k' aQ=>?_⟩
      ·have:=LZ.2 ⟨j,b⟩;rw[t] at this;cases this
      ·have a0:j<L.length:=(List.getElem?_eq_some_iff.1 b).1;rw[aB j a0] at bE;obtain⟨e,he,g,aD⟩:=Fv.1 aQ;have aH:=y j bS b bE e he g;have aP:=E2 aR j bS b e he g;rw[aD] at aH aP;rw[aB k' (by omega)];exact aH
     have hK:RZ L a l D V i o a':=⟨bD,bD.later bA fun s t=>r s fun j b=>by
      have a0:j<L.length:=by
       unfold Ci at b;cases bT:L[j]? with
       |none=>rw[bT] at b;cases b
       |some o=>exact(List.getElem?_eq_some_iff.1 bT).1
      rw[←aB j a0];exact t j b⟩
     have aJ:Ci L i=o.dst:=by simp[Ci,aC]
     have step:∀v Bc,I (Ln D i) (Lp V i v) Bc→wpAnyIn (Wd X.ro) 0 P .any L.toArray Q fuel (listed.setIfInBounds i true) (a'.put o.dst v) Bc:=by
      intro v Bc a2;have a3:∀s,(∀d,o.dst=some d→d≠s)→sl (a'.put o.dst v) s=sl a' s:=by
       intro s t;cases aO:o.dst with
       |none=>rfl
       |some d=>exact L2 (t d aO)
      refine ih _ _ _ (Ln D i) (Lp V i v) ?_ (by simp[z]) ?_ ?_ ?_ ?_ ?_ ?_ a2 (fun j b=>by rw[DW (by omega)];exact c j b)
      ·have aU:i<listed.toList.length:=by simpa using aF
       have a4:listed.toList[i]=false:=by
        simp[aF] at aT;simpa using aT
       have bU:(listed.setIfInBounds i true).toList=listed.toList.set i true:=by simp
       rw[bU,List.count_set aU,a4];have aH:0<listed.toList.count false:=List.count_pos_iff.2 (by rw[←a4];exact List.getElem_mem aU);have b5:(if (false==false)=true then 1 else 0)=1:=rfl;have b6:(if (true==false)=true then 1 else 0)=0:=rfl;rw[b5,b6];omega
      ·cases o.dst<;>simp[Act.put,aA]
      ·cases o.dst<;>simp[Act.put,aE]
      ·intro s t;rw[a3 s (fun d aO bV=>by
        subst bV;have:=t i (by rw[aJ,aO]);rw[GN aF] at this;cases this)]
       refine r s fun j b=>?_;have:=t j b
       by_cases n:i=j
       ·subst n;exact aT
       ·rwa[DW n] at this
      ·intro j d b aM
       by_cases n:i=j
       ·subst n;rw[aJ] at aM;have aU:d<a'.tmps.size:=by rw[aA];exact(aG i i d (by rw[aJ,aM])).1
        rw[aM,M4 aU,SE]
       ·rw[DW n] at b;have:sl (a'.put o.dst v) d=sl a' d:=by
         refine a3 d fun b7 bW bX=>?_;subst bX;exact n ((aG i j b7 (by rw[aJ,bW])).2 aM)
        rw[this,U5 _ _ (Ne.symm n)];exact q j d b aM
      ·intro j b
       by_cases n:i=j
       ·subst n;rw[SD,GN aF]
       ·rw[U4 _ (Ne.symm n),DW n];exact aB j b
      ·intro j bY b bF e he g
       by_cases bG:i=e.on
       ·rw[←bG];exact GN aF
       ·rw[DW bG]
        by_cases n:i=j
        ·subst n;rw[aC] at b;obtain rfl:o=bY:=by simpa using b
         exact aI e he g
        ·rw[DW n] at bF;exact y j bY b bF e he g
     have b8:=NO b1 i o aY aC;unfold wpOpIn;simp only[bP];rcases b8 D V a' w' (by rw[Nat.zero_add];exact hK) aV with⟨hw,bZ⟩|⟨hw,hu⟩
     ·rw[if_pos hw];rw[Nat.zero_add] at bZ;exact bZ.wp fun v Bc a2=>step v Bc a2
     ·rw[if_neg (by rw[hw];simp)];rw[Nat.zero_add] at hu;exact⟨fun f _=>NH X.ro f,step undef w' hu⟩
  have a5:∀j,(Array.replicate L.length false).getD j false=false:=by
   intro j;rw[Array.getD_eq_getD_getElem?];rcases Nat.lt_or_ge j L.length with h|h
   ·simp[h]
   ·simp[h]
  have e:L.toArray.size=L.length:=by simp
  rw[e];refine main L.length (Array.replicate L.length false) (Cl a l) w.drew (fun _=>false) (fun _=>undef) (Nat.le_trans (List.count_le_length ..) (by simp)) (by simp) (by rw[JB,st.sz]) (by rw[Ev,st.df]) (fun s _=>J6 st s) (fun j d h=>?_) (fun j _=>(a5 j).symm) (fun j o h aZ=>?_) h0 (fun j _=>a5 j)
  ·rw[a5 j] at h;cases h
  ·rw[a5 j] at aZ;cases aZ)
end
end Go.Proofs.YtamobliaoknclaaGreat
end
section
namespace Go.Proofs.YtamobliaoknclaaGreat
open Go.RowKit Go.WideShapes
section
variable{P:Program}{L:List Oper}{a:Act}{l:Env}{T:Nat→Act→World→Prop}{Φ:Nat→Value→World→Prop}{sp:List Nat}{S:Nat→World→World→Prop}{k:Nat}{op:Op}{ty:TypeId}{pos:String}{B6:Array Edge}{dst:Option Nat}
theorem od{c:Value}(b:sp.contains k=false)(d:∀w,Φ k c w)(h:∀{a' w' ph},Hs L a l T Φ sp k ⟨dst,op,ty,pos,B6,none⟩ a' w' ph→B7 P ⟨dst,op,ty,pos,B6,none⟩ a' w' (fun u Bc=>u=c∧Bc=w')):GM P L a l S T Φ sp k ⟨dst,op,ty,pos,B6,none⟩:=
 WQ rfl b d fun _ _ _ K=>h K
end
def WV(P:Program)(a:Act)(l:Env)(w:World):ResultVar→Value→Prop
 |.tmp t,v=>ev a l (.tmp t)=v
 |.cell p t,v=>∃ad,ev a l (.tmp p)=.pointer (some ad)∧(loadVar t ad).run P w=.ok v w
section
variable{P:Program}{N:Nat}{a:Act}{l:Env}{w:World}
theorem TS{fn:Func}{r1 r2:ResultVar}{v v':Value}{R:Value→World→Prop}(d:fn.results= #[r1,r2])(j:WV P a l w r1 v)(f:WV P a l w r2 v')(h:R (.tuple #[v,v']) w):
  LV X0 N (bodyPost P fn (fun e w'=>∃v,e=.returned v∧R v w')) .ret a l w:=fun s=>by
 refine bodyPost_ret (v:=.tuple #[v,v']) ?_ (by rw[Ev,s.df]) ⟨_,rfl,h⟩;cases r1 with
 |tmp t=>
  have c:(Cl a l).tmps.getD t undef=v:=ee s j;simp only[Array.getD_eq_getD_getElem?] at c;cases r2 with
  |tmp u=>
   have b:(Cl a l).tmps.getD u undef=v':=ee s f;simp only[Array.getD_eq_getD_getElem?] at b;simp[results,d,c,b]
  |cell p t=>
   obtain⟨ad,i,g⟩:=f;have b:(Cl a l).tmps.getD p undef=.pointer (some ad):=ee s i;simp only[Array.getD_eq_getD_getElem?] at b;simp[results,d,c,b,asAddr,g]
 |cell q t=>
  obtain⟨k,i,g⟩:=j;have c:(Cl a l).tmps.getD q undef=.pointer (some k):=ee s i;simp only[Array.getD_eq_getD_getElem?] at c;cases r2 with
  |tmp u=>
   have b:(Cl a l).tmps.getD u undef=v':=ee s f;simp only[Array.getD_eq_getD_getElem?] at b;simp[results,d,c,b,asAddr,g]
  |cell p t=>
   obtain⟨ad,m,n⟩:=f;have b:(Cl a l).tmps.getD p undef=.pointer (some ad):=ee s m;simp only[Array.getD_eq_getD_getElem?] at b;simp[results,d,c,b,asAddr,g,n]
end
def G1(a n:Int):Int:=a*2^n.toNat
def Lq(a n:Int):Option Unit:=if 0≤n∧n<64∧-9223372036854775808≤a*2^n.toNat∧a*2^n.toNat≤9223372036854775807 then some () else none
theorem KD{α:Type}{a n:Int}{f:Unit→Option α}{r:α}(h:(Lq a n).bind f=some r):(0≤n∧n<64∧fits (G1 a n))∧f ()=some r:=by
 unfold Lq at h;split at h
 ·rename_i b;exact⟨⟨b.1,b.2.1,b.2.2⟩,h⟩
 ·cases h
def FJ(a n:Int):Int:=a/2^n.toNat
def Nn(a n:Int):Option Unit:=if 0≤n∧n<64 then some () else none
theorem L7{α:Type}{a n:Int}{f:Unit→Option α}{r:α}(h:(Nn a n).bind f=some r):(0≤n∧n<64)∧f ()=some r:=by
 unfold Nn at h;split at h
 ·exact⟨by assumption,h⟩
 ·cases h
def PO(a b:Int):Option Unit:=if (0≤a∧a≤9223372036854775807)∧(0≤b∧b≤9223372036854775807) then some () else none
theorem OT{α:Type}{a b:Int}{f:Unit→Option α}{r:α}(h:(PO a b).bind f=some r):((0≤a∧a≤9223372036854775807)∧(0≤b∧b≤9223372036854775807))∧f ()=some r:=by
 unfold PO at h;split at h
 ·exact⟨by assumption,h⟩
 ·cases h
def Ob(a b:Int):Int:=((a.toNat&&&b.toNat:Nat):Int)
def PQ(a b:Int):Int:=((a.toNat|||b.toNat:Nat):Int)
def JF(k:IntKind)(n:Int):Option Unit:=if k.wrap n=n then some () else none
theorem He{α:Type}{k:IntKind}{n:Int}{f:Unit→Option α}{r:α}(h:(JF k n).bind f=some r):k.wrap n=n∧f ()=some r:=by
 unfold JF at h;split at h
 ·exact⟨by assumption,h⟩
 ·cases h
section
variable{P:Program}{a:Act}{w:World}{dst:Option Tmp}{ty:TypeId}{pos:String}{B6:Array Edge}{g:Option (Nat×Bool)}
theorem L8{x y:Operand}{m n:Int}{t b:TypeId}(c:a.eval x=.int .i64 m)(d:a.eval y=.int .i64 n)(h0:0≤m)(i:1≤n)(f:fits (m/n)):B7 P ⟨dst,.binOp .quo t x y b,ty,pos,B6,g⟩ a w (fun u w'=>u=.int .i64 (m/n)∧w'=w):=
 CA (by
  have e:m.tdiv n=m/n:=Int.tdiv_eq_ediv_of_nonneg h0;have h:¬n=0:=by omega
  simp[execOp,c,d,eqGuard,binOp,Op.intDiv,h,e,Jl f])
theorem Pp{x y:Operand}{m n:Int}{k:IntKind}{t b:TypeId}(c:a.eval x=.int .i64 m)(d:a.eval y=.int k n)(h:0≤n∧n<64∧fits (G1 m n)):B7 P ⟨dst,.binOp .shl t x y b,ty,pos,B6,g⟩ a w (fun u w'=>u=.int .i64 (G1 m n)∧w'=w):=
 CA (by
  have e:¬n<0:=by omega
  have f:min n.toNat IntKind.i64.bits=n.toNat:=by
   have:IntKind.i64.bits=64:=rfl;omega
  have i:IntKind.i64.wrap (m*2^n.toNat)=m*2^n.toNat:=Jl h.2.2;simp[execOp,c,d,eqGuard,binOp,Op.shift,e,f,i,G1])
theorem R1{x y:Operand}{m n:Int}{k:IntKind}{t b:TypeId}(c:a.eval x=.int .i64 m)(d:a.eval y=.int k n)(h:0≤n∧n<64):B7 P ⟨dst,.binOp .shr t x y b,ty,pos,B6,g⟩ a w (fun u w'=>u=.int .i64 (FJ m n)∧w'=w):=
 CA (by
  have e:¬n<0:=by omega
  have f:min n.toNat IntKind.i64.bits=n.toNat:=by
   have:IntKind.i64.bits=64:=rfl;omega
  have i:m.fdiv (2^n.toNat)=m/2^n.toNat:=Int.fdiv_eq_ediv_of_nonneg m (Int.le_of_lt (Int.pow_pos (by decide)));simp[execOp,c,d,eqGuard,binOp,Op.shift,e,f,i,FJ])
theorem Pq{m:Int}(h0:0≤m)(a:m≤9223372036854775807):(BitVec.ofInt 64 m).toNat=m.toNat:=by
 rw[BitVec.toNat_ofInt];omega
theorem PR{k:Nat}(h:k≤9223372036854775807):IntKind.i64.wrap (k:Int)=k:=Jl ⟨by omega,by omega⟩
theorem Yo{x y:Operand}{m n:Int}{t b:TypeId}(c:a.eval x=.int .i64 m)(d:a.eval y=.int .i64 n)(h:(0≤m∧m≤9223372036854775807)∧(0≤n∧n≤9223372036854775807)):B7 P ⟨dst,.binOp .and t x y b,ty,pos,B6,g⟩ a w (fun u w'=>u=.int .i64 (Ob m n)∧w'=w):=
 CA (by
  have e:(BitVec.ofInt 64 m&&&BitVec.ofInt 64 n).toNat=m.toNat&&&n.toNat:=by rw[BitVec.toNat_and,Pq h.1.1 h.1.2,Pq h.2.1 h.2.2]
  have f:IntKind.i64.wrap ((m.toNat&&&n.toNat:Nat):Int)=((m.toNat&&&n.toNat:Nat):Int):=PR (Nat.le_trans Nat.and_le_left (by omega));have key:(Op.intBits .and .i64 m n).run P w=.ok (.int .i64 (Ob m n)) w:=by
   show(pure (Value.int .i64 (IntKind.i64.wrap ((BitVec.ofInt 64 m&&&BitVec.ofInt 64 n).toNat:Int))):Sem Value).run P w=_;rw[e,f];rfl
  simp[execOp,c,d,eqGuard,binOp,key])
theorem Ze{x y:Operand}{m n:Int}{t b:TypeId}(c:a.eval x=.int .i64 m)(d:a.eval y=.int .i64 n)(h:(0≤m∧m≤9223372036854775807)∧(0≤n∧n≤9223372036854775807)):B7 P ⟨dst,.binOp .or t x y b,ty,pos,B6,g⟩ a w (fun u w'=>u=.int .i64 (PQ m n)∧w'=w):=
 CA (by
  have e:(BitVec.ofInt 64 m|||BitVec.ofInt 64 n).toNat=m.toNat|||n.toNat:=by rw[BitVec.toNat_or,Pq h.1.1 h.1.2,Pq h.2.1 h.2.2]
  have i:m.toNat|||n.toNat<2^63:=Nat.or_lt_two_pow (by omega) (by omega);have f:IntKind.i64.wrap ((m.toNat|||n.toNat:Nat):Int)=((m.toNat|||n.toNat:Nat):Int):=PR (by omega);have key:(Op.intBits .or .i64 m n).run P w=.ok (.int .i64 (PQ m n)) w:=by
   show(pure (Value.int .i64 (IntKind.i64.wrap ((BitVec.ofInt 64 m|||BitVec.ofInt 64 n).toNat:Int))):Sem Value).run P w=_;rw[e,f];rfl
  simp[execOp,c,d,eqGuard,binOp,key])
theorem Yp{x y:Operand}{v1 v2:Value}{x1 x2:List Int}{n:Nat}{t c:TypeId}(d:M8 P t n)(b:P.eqGuardType P.depth t=false)(e:a.eval x=v1)(f:a.eval y=v2)(h:v1=F8 x1)(i:v2=F8 x2)(l1:x1.length=n)(l2:x2.length=n):
  B7 P ⟨dst,.binOp .neq t x y c,ty,pos,B6,g⟩ a w (fun u w'=>u=.bool (x1 !=x2)∧w'=w):=by
 refine Uv e f ?_;subst h;subst i;have j:=d w x1 x2 l1 l2;have k:(eqGuard .neq t x y (F8 x1) (F8 x2)).run P w=.ok () w:=by
  simp[eqGuard,F8,program,Sem.run,b]
 simp only[Sem.run_bind,k,Result.andThen_ok];show(do pure (Value.bool (!(←Op.equal t (F8 x1) (F8 x2)))):Sem Value).run P w=_;simp only[Sem.run_bind,j,Result.andThen_ok,Sem.run_pure];rfl
theorem Yq{x y:Operand}{b c:Bool}{t d:TypeId}(e:∀b c w,(Op.equal t (.bool b) (.bool c)).run P w=.ok (b==c) w)(f:a.eval x=.bool b)(h:a.eval y=.bool c):
  B7 P ⟨dst,.binOp .neq t x y d,ty,pos,B6,g⟩ a w (fun u w'=>u=.bool (b !=c)∧w'=w):=by
 refine Uv f h ?_;show(do eqGuard .neq t x y (.bool b) (.bool c);pure (Value.bool (!(←Op.equal t (.bool b) (.bool c)))):Sem Value).run P w=_;have i:(eqGuard .neq t x y (.bool b) (.bool c)).run P w=.ok () w:=by simp[eqGuard]
 simp only[Sem.run_bind,i,Result.andThen_ok,e,Sem.run_pure];rfl
theorem NP {t t2 e:TypeId} (b:P.underlying t=some (.slice e)) {i:TypeInfo} (hi:P.info? e=some i) {A B:Option Addr} {n c d:Nat} (f:n≤c) (h:A=none→n=0) (a:P.underlying t2=some (.slice e)):
  (Builtin.append_ #[t,t2] ty #[.slice A n c,.slice B 0 d]).run P w=.ok (.slice A n c) w:=by
 have g:(Builtin.firstCells i.size 0 (.slice B 0 d)).run P w=.ok #[] w:=by
  cases B with
  |none=>simp[Builtin.firstCells]
  |some ad=>simp[Builtin.firstCells,loadCells,loadCellsFrom]
 cases A with
 |none=>simp[Builtin.append_,run_underlying b,run_underlying a,sizeOf,typeInfo,program,Sem.run,hi,Builtin.lenOf,f,g]
 |some ad=>simp[Builtin.append_,run_underlying b,run_underlying a,sizeOf,typeInfo,program,Sem.run,hi,Builtin.lenOf,f,g,storeCells]
theorem WW {α:Type} {e:CH α} {s x:Operand} {t h:TypeId} {z:Value} {sz bytes:Nat} (q:P.underlying t=some (.slice h)) (hi:(P.info? h).map (fun i=>(i.zero,i.size,i.bytes))=some (some z,sz,bytes)) (y:z.cells.size=sz) (aA:e.sz=sz) (h0:0<sz)
  {n0:Nat} {Z:Nat→Prop} {A B:Option Addr} {c d n:Nat} {xs ys:List α} (aB:a.eval s=.slice A n c) (aC:xs.length=n) (aD:a.eval x=.slice B ys.length d) (b:Be e h n0 w Z A c xs) (aJ:Sl e w Z B d ys)
  (aE:xs.length+ys.length≤maxLen) (j:(xs.length+ys.length)*bytes≤140737488355328) (m:n0≤w.heap.size):
  B7 P ⟨dst,.call {callee:=.builtin .append,args:= #[s,x],argTypes:= #[t,t]},ty,pos,B6,g⟩ a w (fun v w'=>∃r aF,v=.slice r (xs++ys).length aF∧w.grownBy w' (ob A)∧(∀k,ob r=some k→(ob A=some k∨w.heap.size≤k)∧k<w'.heap.size)∧
   ∃Bw o,R2 e w Z Bw xs∧R2 e w Z o ys∧Ey w' n0 h e.sz r (xs++ys).length aF (Bw++o).flatten):=by
 by_cases p:ys=[]
 ·subst p;subst aC;obtain⟨Bw,aK,aG⟩:=id b;have f:xs.length≤c∧(A=none→xs.length=0):=by
   rcases aG.2 with⟨u,h0⟩|⟨g,cap,cur,u,_,_,f,_⟩
   ·obtain⟨rfl,-,rfl⟩:=Value.slice.inj u;exact⟨by omega,fun _=>h0⟩
   ·cases u;exact⟨f,fun e=>by cases e⟩
  cases l:P.info? h with
  |none=>simp[l] at hi
  |some i=>
   have aL:=NP (P:=P) (w:=w) (ty:=ty) (B:=B) (d:=d) q l f.1 f.2 q;have he:(execOp a.eval ⟨dst,.call {callee:=.builtin .append,args:= #[s,x],argTypes:= #[t,t]},ty,pos,B6,g⟩).run P w=.ok (.value (.slice A xs.length c)) w:=by
    have aH:a.eval x=.slice B 0 d:=aD;unfold execOp;simp only[resolve,invoke,builtin,Sem.run_bind,Sem.run_pure,Result.andThen_ok,List.map_toArray,List.map_cons,List.map_nil,aB,aH,aL]
   unfold B7;rw[he];refine⟨A,c,by rw[List.append_nil],World.grownBy.refl w _,fun k aI=>⟨.inl aI,b.L5 k aI⟩,Bw,[],aK,trivial,?_⟩;rw[List.append_nil,List.append_nil];exact aG
 ·exact IN q hi y aA h0 aB aC aD b aJ.news aE j m p
end
theorem L9:∀(l:List Value) (cs:Array Value) (o j:Nat),o+l.length≤cs.size→(setCells cs o l)[j]?=if o≤j∧j<o+l.length then l[j-o]? else cs[j]?
 |[],cs,o,j,_=>by
  rw[if_neg (by simp only[List.length_nil];omega)];rfl
 |v::l,cs,o,j,h=>by
  rw[List.length_cons] at h;unfold setCells;rw[L9 l _ (o+1) j (by simp;omega)]
  by_cases a:o+1≤j∧j<o+1+l.length
  ·rw[if_pos a,if_pos (by simp;omega),show j-o=(j-(o+1))+1 by omega,List.getElem?_cons_succ]
  ·rw[if_neg a,Array.getElem?_setIfInBounds]
   by_cases b:o=j
   ·subst b;rw[if_pos rfl,if_pos (by omega),if_pos (by rw[List.length_cons];omega)];simp
   ·rw[if_neg b,if_neg (by rw[List.length_cons];omega)]
theorem PS{sz:Nat}{b:List Value}(f:b.length=sz)(h0:0<sz):∀(k:Nat) (Bw:List (List Value)) (j:Nat),(∀c∈Bw,c.length=sz)→k<Bw.length→(Bw.set k b).flatten[j]?=if k*sz≤j∧j<k*sz+sz then b[j-k*sz]? else Bw.flatten[j]?
 |_,[],_,_,h=>by simp at h
 |0,c::Bw,j,a,_=>by
  have d:=a c (List.mem_cons_self ..);rw[List.set_cons_zero,List.flatten_cons,List.flatten_cons]
  by_cases h:j<sz
  ·rw[if_pos (by omega),List.getElem?_append_left (by omega)];simp
  ·rw[if_neg (by omega),List.getElem?_append_right (by omega),List.getElem?_append_right (by omega),f,d]
 |k+1,c::Bw,j,a,h=>by
  have d:=a c (List.mem_cons_self ..);rw[List.set_cons_succ,List.flatten_cons,List.flatten_cons];have e:(k+1)*sz=k*sz+sz:=by rw[Nat.add_mul];omega
  by_cases i:j<sz
  ·rw[if_neg (by omega),List.getElem?_append_left (by omega),List.getElem?_append_left (by omega)]
  ·rw[List.getElem?_append_right (by omega),List.getElem?_append_right (by omega),d,PS f h0 k Bw (j-sz) (fun c hm=>a c (List.mem_cons_of_mem _ hm)) (by simpa using h)]
   by_cases g:k*sz≤j-sz∧j-sz<k*sz+sz
   ·rw[if_pos g,if_pos (by omega),show j-sz-k*sz=j-(k+1)*sz by omega]
   ·rw[if_neg g,if_neg (by omega)]
section
variable{α:Type}{e:CH α}{n0:Nat}{w w':World}{Z Z':Nat→Prop}
theorem R2.lens:∀{Bw:List (List Value)} {xs:List α},R2 e w Z Bw xs→∀c∈Bw,c.length=e.sz
 |[],[],_=>by simp
 |c::cs,_::_,h=>by
  intro d a;rcases List.mem_cons.1 a with rfl|a
  ·exact e.len h.1
  ·exact R2.lens h.2 d a
 |[],_::_,h=>h.elim
 |_::_,[],h=>h.elim
theorem R2.free(a:∀w Z w' Z' cs x,e.R w Z cs x→e.R w' Z' cs x):∀{Bw:List (List Value)} {xs:List α},R2 e w Z Bw xs→R2 e w' Z' Bw xs
 |[],[],_=>trivial
 |_::_,_::_,h=>⟨a _ _ _ _ _ _ h.1,R2.free a h.2⟩
 |[],_::_,h=>h.elim
 |_::_,[],h=>h.elim
end
section
variable{P:Program}{a:Act}{w:World}{dst:Option Tmp}{ty:TypeId}{pos:String}{B6:Array Edge}{g:Option (Nat×Bool)}
theorem Lr{α:Type}{e:CH α}{t:TypeId}{n0:Nat}{w w':World}{Z Z':Nat→Prop}{A:Option Addr}{c:Nat}{xs:List α}
  (h:∃Bw,R2 e w Z Bw xs∧Ey w' n0 t e.sz A xs.length c Bw.flatten)(hm:Mv w Z w' Z'):Be e t n0 w' Z' A c xs:=by
 obtain⟨Bw,a,b⟩:=h;exact⟨Bw,a.mv hm,b⟩
end
section
variable{w0 w w':World}{b:Nat}{t:TypeId}{n z:Array Value}{c:Bool}
theorem Yr(h:c=false)(a:Bk w b t z):Bk w b t (cond c n z):=by subst h;exact a
theorem Ys(h:c=false)(a:Bk w b t (cond c n z)):Bk w b t z:=by subst h;exact a
theorem Yt(h:c=true)(a:Bk w b t (cond c n z)):Bk w b t n:=by subst h;exact a
theorem QT(h:Ext w0 w)(g:HV b w w')(a:w0.heap.size≤b):Ext w0 w':=
 Pw (WO (Below.refl _ _|>fun k=>WN k h) g a)
end
def Ls (P:Program) (fv:Value) (vs:Array Value) (w:World) (R:Value→World→Prop):Prop:=
 ∀(a:Act) (dst:Option Tmp) (f:Operand) (xs:Array Operand) (b:Array TypeId) (ty:TypeId) (pos:String) (B6:Array Edge) (g:Option (Nat×Bool)),a.eval f=fv→xs.map a.eval=vs→
  B7 P ⟨dst,.call {callee:=.value f,args:=xs,argTypes:=b},ty,pos,B6,g⟩ a w R
section
variable{P:Program}{fv:Value}{vs:Array Value}{w:World}{R R':Value→World→Prop}
theorem EM{fn:FuncId}{first cap all:Array Value}(a:Ba P fn)(b:first++vs++cap=all)(h:BW P fn all w R):Ls P (.func (.func fn) first cap) vs w R:=fun _ _ _ _ _ _ _ _ _ c d=>KR a c d b h
theorem HM{l:Nat}(h:YieldAt Fence.wide 0 P l vs w (fun e w'=>∃v,e=.returned v∧R v w')):Ls P (.func (.yield l) #[] #[]) vs w R:=fun _ _ _ _ _ _ _ _ _ a b=>U1 a b h
theorem Ls.mono(h:Ls P fv vs w R)(b:∀v w',R v w'→R' v w'):Ls P fv vs w R':=fun a dst f xs c ty pos B6 g d e=>(h a dst f xs c ty pos B6 g d e).mono b
theorem F7{F:Nat→Prop}{M:List (Option Nat)}{b:Nat}(h:¬FU F M b):¬F b∧some b∉M:=⟨fun a=>h (.inl a),fun a=>h (.inr a)⟩
theorem Eo{a:Act}{dst:Option Tmp}{f:Operand}{xs:Array Operand}{b:Array TypeId}{ty:TypeId}{pos:String}{B6:Array Edge}{g:Option (Nat×Bool)}(h:Ls P fv vs w R)(c:a.eval f=fv)(d:xs.map a.eval=vs):
  B7 P ⟨dst,.call {callee:=.value f,args:=xs,argTypes:=b},ty,pos,B6,g⟩ a w R:=h a dst f xs b ty pos B6 g c d
end
structure VL (α:Type) where
 R:World→(Nat→Prop)→Array Value→α→Prop
def v0:VL Unit:=⟨fun _ _ vs _=>vs= #[]⟩
def v1{α:Type}(a:VE α):VL α:=⟨fun w Z vs x=>∃v,vs= #[v]∧a.R w Z v x⟩
def v2{α β:Type}(a:VE α)(b:VE β):VL (α×β):=⟨fun w Z vs x=>∃v u,vs= #[v,u]∧a.R w Z v x.1∧b.R w Z u x.2⟩
def v3{α β d:Type}(a:VE α)(b:VE β)(c:VE d):VL (α×β×d):=⟨fun w Z vs x=>∃v u t,vs= #[v,u,t]∧a.R w Z v x.1∧b.R w Z u x.2.1∧c.R w Z t x.2.2⟩
def NQ:VE Unit:=⟨fun _ _ v _=>v=.tuple #[],fun h _=>h⟩
structure Cb (P:Program) {σ α β:Type} (fv:Value) (F:Nat→Prop) (n:Nat) (I:σ→World→(Nat→Prop)→Option Nat→Prop) (ea:VL α) (er:VE β) (cb:σ→α→Option (β×σ)):Prop where
 fc:fv.cells= #[fv]
 f1:fv.oneCell'=true
 ff:∀k,F k→k<n
 call:∀(s:σ) (x:α) (r:β×σ) (w:World) (Z Za:Nat→Prop) (o:Option Nat) (vs:Array Value),n≤w.heap.size→(∀b,Z b→Za b)→(∀b,Za b→¬F b∧some b≠o)→I s w Z o→ea.R w Za vs x→cb s x=some r→
  Ls P fv vs w (fun v w'=>∃o',Bp (FU F [o]) w w'∧(∀k,o'=some k→(o=some k∨w.heap.size≤k)∧k<w'.heap.size)∧er.R w' (ZZ FN [] Z w.heap.size [o']) v r.1∧I r.2 w' (ZZ FN [] Z w.heap.size [o']) o')
 Ja:∀(s:σ) (w w':World) (Z Z':Nat→Prop) (o:Option Nat),I s w Z o→Mv w Z w' Z'→(∀b,FU F [o] b→w'.heap[b]?=w.heap[b]?)→I s w' Z' o
 lt:∀(s:σ) (w:World) (Z:Nat→Prop) (o:Option Nat),I s w Z o→∀k,o=some k→k<w.heap.size∧¬F k
section
variable{P:Program}{σ α β:Type}{fv:Value}{F:Nat→Prop}{n:Nat}{I:σ→World→(Nat→Prop)→Option Nat→Prop}{ea:VL α}{er:VE β}{cb:σ→α→Option (β×σ)}
variable{B:List (Option Nat)}{w0 w w':World}{Z:Nat→Prop}{L:List (Option Nat)}
theorem Cb.DN (h:Cb P fv F n I ea er cb) {s:σ} {o:Option Nat} (d:I s w (ZZ F B Z w0.heap.size L) o) (c:Hp F B w0 L w) {D:Nat→Prop} (g:Bp D w w') (e:∀k,D k→some k∈L) (i:Nat) (hi:L[i]?=some o) (f:∀k,o=some k→¬D k) {Z':Nat→Prop} (hm:Mv w (ZZ F B Z w0.heap.size L) w' Z'):
  I s w' Z' o:=h.Ja s w w' _ _ o d hm fun b a=>by
 rcases a with a|a
 ·exact g.block b (Nat.lt_of_lt_of_le (c.ff b a) c.sz) fun j=>(c.lo b (e b j)).2.1 a
 ·rw[List.mem_singleton] at a;exact g.block b (h.lt s w _ o d b a.symm).1 (f b a.symm)
theorem Cb.me(h:Cb P fv F n I ea er cb){s:σ}{o:Option Nat}(c:I s w (ZZ F B Z w0.heap.size L) o)(d:Hp F B w0 L w)(g:Ext w w'){Z':Nat→Prop}(hm:Mv w (ZZ F B Z w0.heap.size L) w' Z'):I s w' Z' o:=
 h.Ja s w w' _ _ o c hm fun b a=>g.block b (by
  rcases a with a|a
  ·exact Nat.lt_of_lt_of_le (d.ff b a) d.sz
  ·rw[List.mem_singleton] at a;exact(h.lt s w _ o c b a.symm).1) (by simp)
theorem Cb.mz(h:Cb P fv F n I ea er cb){s:σ}{o:Option Nat}{a Z':Nat→Prop}(b:I s w a o)(hm:Mv w a w Z'):I s w Z' o:=h.Ja s w w _ _ o b hm fun _ _=>rfl
theorem Cb.mg(h:Cb P fv F n I ea er cb){s:σ}{o r:Option Nat}(d:I s w (ZZ F B Z w0.heap.size L) o)(a:Hp F B w0 L w)(g:w.grownBy w' r)(j:Nat)(b:L[j]?=some r)(i:Nat)(hi:L[i]?=some o)(c:(i==j)=false){Z':Nat→Prop}(hm:Mv w (ZZ F B Z w0.heap.size L) w' Z'):I s w' Z' o:=
 h.DN d a (D:=fun k=>some k=r) (Kk g fun _ e=>e.symm) (fun k e=>by rw[e];exact List.mem_of_getElem? b) i hi (fun k f e=>a.ap i j k (by simpa using c) (by rw[hi,f]) (by rw[b,e])) hm
theorem Cb.mm(h:Cb P fv F n I ea er cb){s:σ}{o:Option Nat}{M:List (Option Nat)}(f:I s w (ZZ F B Z w0.heap.size L) o)(c:Hp F B w0 L w)(g:Bp (FU FN M) w w')(b:List Nat)(d:HD L b M)(i:Nat)(hi:L[i]?=some o)(e:(b.all fun j=> !Nat.beq i j)=true){Z':Nat→Prop}(hm:Mv w (ZZ F B Z w0.heap.size L) w' Z'):I s w' Z' o:=
 h.DN f c g (fun k a=>by
  rcases a with a|a
  ·exact a.elim
  ·exact d.sub _ a) i hi (fun k a=>c.Br (F':=FN) i (by rw[hi,a]) b e d (fun _ h=>h.elim)) hm
end
def Eg {α:Type} (ev:α→Value) (w:World) (r n:Nat) (L:List (List Int×α)):Prop:=
 ∃es clock,w.heap[r]?=some (.map es clock)∧es.toList.map (fun e=>(e.key,e.val))=L.map (fun p=>(F8 p.1,ev p.2))∧∀p∈L,p.1.length=n
def BI{α:Type}(L:List (List Int×α))(k:List Int):Option α:=(L.find? fun p=>k==p.1).map (·.2)
def GH{α:Type}(L:List (List Int×α))(k:List Int)(v:α):List (List Int×α):=match L.findIdx? (fun p=>k==p.1) with|some i=>L.set i (k,v)|none=>L++[(k,v)]
structure Zf{α:Type}(ev:α→Value)(w w':World)(r n:Nat):Prop where
 EZ:r=w.heap.size
 sz:w'.heap.size=r+1
 mp:Eg ev w' r n []
 gr:Ext w w'
structure Zg{α:Type}(ev:α→Value)(w w':World)(r n:Nat)(L:List (List Int×α)):Prop where
 sz:w'.heap.size=w.heap.size
 mp:Eg ev w' r n L
 gr:HV r w w'
section
variable{α:Type}{ev:α→Value}{w w':World}{r n b:Nat}{L:List (List Int×α)}
theorem Eg.lt(h:Eg ev w r n L):r<w.heap.size:=by obtain⟨es,c,h,_⟩:=h;exact lt_of_block h
theorem Eg.ext(h:Eg ev w r n L)(g:Ext w w'):Eg ev w' r n L:=by
 have a:=h.lt;obtain⟨es,c,b,d⟩:=h;exact⟨es,c,(g.block r a (by simp)).trans b,d⟩
theorem Eg.Pv(h:Eg ev w r n L)(g:HV b w w')(a:r≠b):Eg ev w' r n L:=by
 have d:=h.lt;obtain⟨es,c,e,f⟩:=h;exact⟨es,c,(g.block r d (by simpa using a)).trans e,f⟩
end
section
variable{α:Type}{ev:α→Value}{z:α}{P:Program}{a:Act}{w:World}{dst:Option Tmp}{ty:TypeId}{pos:String}{B6:Array Edge}{g:Option (Nat×Bool)}{K E T r n:Nat}{L:List (List Int×α)}{k:List Int}
theorem KE(z:α)(a:M8 P K n)(b:k.length=n):∀(es:List MapEntry) (L:List (List Int×α)) (i:Nat),es.map (fun e=>(e.key,e.val))=L.map (fun p=>(F8 p.1,ev p.2))→(∀p∈L,p.1.length=n)→
  (Instr.findAsking K (F8 k) es i).run P w=.ok (match L.findIdx? (fun p=>k==p.1) with|some j=>some (i+j,ev ((L.getD j ([],z)).2))|none=>none) w
 |[],[],i,_,_=>by simp[Instr.findAsking]
 |[],p::L,i,h,_=>by simp at h
 |e::es,[],i,h,_=>by simp at h
 |e::es,p::L,i,h,c=>by
  simp only[List.map_cons,List.cons.injEq,Prod.mk.injEq] at h;obtain⟨⟨d,f⟩,g⟩:=h;have ih:=KE z a b es L (i+1) g (fun q a=>c q (List.mem_cons_of_mem _ a));have he:=a w k p.1 b (c p (List.mem_cons_self ..));simp only[Instr.findAsking,Sem.run_bind,d,he,Result.andThen_ok,List.findIdx?_cons];cases l:(k==p.1)
  ·simp only[Bool.false_eq_true,if_false,ih];cases List.findIdx? (fun p=>k==p.1) L with
   |none=>rfl
   |some j=>simp[Nat.add_assoc,Nat.add_comm 1 j]
  ·simp[f]
theorem Ma(z:α)(f:M8 P K n)(hw:IF P K)(g:k.length=n){es:List MapEntry}(h:es.map (fun e=>(e.key,e.val))=L.map (fun p=>(F8 p.1,ev p.2)))(i:∀p∈L,p.1.length=n):
  (Instr.findKey K (F8 k) es).run P w=.ok (match L.findIdx? (fun p=>k==p.1) with|some j=>some (j,ev ((L.getD j ([],z)).2))|none=>none) w:=by
 unfold IF at hw;cases hu:P.underlying K with
 |none=>simp[hu] at hw
 |some d=>
  unfold Instr.findKey;simp only[Sem.run_bind,run_underlying hu,Result.andThen_ok];cases es with
  |nil=>
   have:L=[]:=by cases L with|nil=>rfl|cons _ _=>simp at h
   subst this;simp[Instr.findNow]
  |cons e es=>
   have l:Instr.findNow d (F8 k) (e::es) 0=none:=by
    refine M9 ?_ _ _ _ (fun a b=>?_) (by simp)
    ·rw[hu] at hw;cases d<;>simp at hw<;>trivial
    ·have:(a.key,a.val)∈(e::es).map (fun e=>(e.key,e.val)):=List.mem_map.2 ⟨a,b,rfl⟩;rw[h] at this;obtain⟨p,_,c⟩:=List.mem_map.1 this;exact⟨(HQ p.1).toArray,by simp only[Prod.mk.injEq] at c;exact c.1.symm⟩
   rw[l];have:=KE z (P:=P) (w:=w) f g (e::es) L 0 h i;simpa using this
theorem OU(z:α)(L:List (List Int×α))(k:List Int):BI L k=(L.findIdx? (fun p=>k==p.1)).map (fun j=>(L.getD j ([],z)).2):=by
 unfold BI
 induction L with
 |nil=>rfl
 |cons p L ih=>
  simp only[List.find?_cons,List.findIdx?_cons];cases a:(k==p.1)
  ·simp only[Bool.false_eq_true,if_false,ih];cases List.findIdx? (fun p=>k==p.1) L<;>simp
  ·simp
theorem QU(d:P.underlying T=some (.map K E))(g:(P.info? E).bind (·.zero)=some (ev z))(l:M8 P K n)(m:PG P K n)(hw:IF P K)(a:k.length=n)(hm:Eg ev w r n L)(ok:Bool):
  (Instr.lookup T (.map (some r)) (F8 k) ok).run P w=.ok (if ok then .tuple #[ev ((BI L k).getD z),.bool (BI L k).isSome] else ev ((BI L k).getD z)) w:=by
 obtain⟨es,clock,o,he,q⟩:=hm;obtain⟨i,hi,b⟩:=Option.bind_eq_some_iff.1 g;have s:=JZ (P:=P) o (by intro c e f h;cases h);have t:=Ma z (P:=P) (w:=w) l hw a he q;have u:(zeroValue E).run P w=.ok (ev z) w:=by simp[zeroValue,typeInfo,program,Sem.run,hi,b]
 unfold Instr.lookup;simp only[Sem.run_bind,run_underlying d,Result.andThen_ok,s,m w es.isEmpty k a,t,OU z,Sem.run_pure];cases List.findIdx? (fun p=>k==p.1) L with
 |none=>cases ok<;>simp[u]
 |some j=>cases ok<;>simp
theorem PT{x y:Operand}(b:P.underlying T=some (.map K E))(c:(P.info? E).bind (·.zero)=some (ev z))(d:M8 P K n)(e:PG P K n)(hw:IF P K)(f:a.eval x=.map (some r))(h:a.eval y=F8 k)(i:k.length=n)(hm:Eg ev w r n L):
  B7 P ⟨dst,.lookup T x y true,ty,pos,B6,g⟩ a w (fun u w'=>u=.tuple #[ev ((BI L k).getD z),.bool (BI L k).isSome]∧w'=w):=
 JW (S:=Instr.lookup T (.map (some r)) (F8 k) true) (by simp only[execOp,f,h]) (QU b c d e hw i hm true)
theorem NR{T:TypeId}:B7 P ⟨dst,.makeMap T none,ty,pos,B6,g⟩ a w (fun u w'=>∃r,u=.map (some r)∧Zf ev w w' r n):=by
 unfold B7;simp only[execOp,Option.map_none,Sem.run_bind,run_makeMap,Result.andThen_ok,Sem.run_pure];exact⟨_,rfl,rfl,by simp,⟨#[],0,heap_alloc_new w _,rfl,by simp⟩,World.grownBy_alloc w _ _⟩
theorem PU{x y aC:Operand}{v:α}(aL:P.underlying T=some (.map K E))(aM:M8 P K n)(aN:PG P K n)(hw:IF P K)(aO:a.eval x=.map (some r))(aP:a.eval y=F8 k)(aQ:a.eval aC=ev v)(q:k.length=n)(hm:Eg ev w r n L):
  B7 P ⟨dst,.mapUpdate T x y aC,ty,pos,B6,g⟩ a w (fun _ w'=>Zg ev w w' r n (GH L k v)):=by
 have s:=hm.lt;obtain⟨es,clock,aD,he,aA⟩:=hm;have aR:=JZ (P:=P) aD (by intro c e f h;cases h);have aS:=Ma v (P:=P) (w:=w) aM hw q he aA;have d:∀o:Obj,(setObj r o).run P w=.ok () {w with heap:=w.heap.setIfInBounds r o}:=by
  intro o;unfold setObj;simp only[Sem.run,aD]
 have t:∀o:Obj,HV r w {w with heap:=w.heap.setIfInBounds r o}:=fun o=>⟨rfl,rfl,rfl,by simp,fun j _ aE=>by
  have:¬r=j:=fun e=>aE (by rw[e]);simp[Array.getElem?_setIfInBounds,this]⟩
 have hlen:es.toList.length=L.length:=by have:=congrArg List.length he;simpa using this
 unfold B7;simp only[execOp,aO,aP,aQ,Sem.run_bind,Instr.mapUpdate,run_underlying aL,Result.andThen_ok,aR,aN w false k q,aS];cases m:List.findIdx? (fun p=>k==p.1) L with
 |none=>
  simp only[d,Result.andThen_ok,Sem.run_pure];refine⟨by simp,⟨_,_,by simp[s];exact⟨rfl,rfl⟩,?_,?_⟩,t _⟩
  ·simp[GH,m,he]
  ·intro p b;simp only[GH,m,List.mem_append,List.mem_singleton] at b;rcases b with b|rfl
   ·exact aA p b
   ·exact q
 |some j=>
  have aT:=List.findIdx?_eq_some_iff_getElem.1 m;obtain⟨aF,aG,_⟩:=aT;have u:j<es.toList.length:=by omega
  have aB:(es.toList[j]).key=F8 k:=by
   have:=congrArg (fun l=>l[j]?) he;simp only[List.getElem?_map,List.getElem?_eq_getElem u,List.getElem?_eq_getElem aF,Option.map_some,Option.some.injEq,Prod.mk.injEq] at this;rw[this.1,←eq_of_beq aG]
  have aH:((es[j]?).map (·.key)).getD (F8 k)=F8 k:=by
   have aI:j<es.size:=by simpa using u
   rw[Array.getElem?_eq_getElem aI];simpa using aB
  simp only[aH,Instr.keyThatStays,PI 9999 k,if_true,Sem.run_pure,Result.andThen_ok,d,Sem.run_bind];refine⟨by simp,⟨_,_,by simp[s];exact⟨rfl,rfl⟩,?_,?_⟩,t _⟩
  ·simp only[GH,m];apply List.ext_getElem
   ·simp[hlen]
   ·intro i aU aV;have aJ:i<es.toList.length:=by simpa using aU
    have aK:i<L.length:=by omega
    have:=congrArg (fun l=>l[i]?) he;simp only[List.getElem?_map,List.getElem?_eq_getElem aJ,List.getElem?_eq_getElem aK,Option.map_some,Option.some.injEq,Prod.mk.injEq] at this
    by_cases z:j=i
    ·subst z;simp
    ·simpa[Array.getElem_modify,z,List.getElem_set] using this
  ·intro p b;simp only[GH,m] at b;rcases List.mem_or_eq_of_mem_set b with b|rfl
   ·exact aA p b
   ·exact q
end
section
variable{α:Type}{ev:α→Value}{w w':World}{r n:Nat}{L:List (List Int×α)}
theorem Eg.of(h:Eg ev w r n L)(e:w'.heap[r]?=w.heap[r]?):Eg ev w' r n L:=by
 obtain⟨es,c,a,b⟩:=h;exact⟨es,c,e.trans a,b⟩
theorem Eg.gr{x:Option Nat}(h:Eg ev w r n L)(g:w.grownBy w' x)(a:some r≠x):Eg ev w' r n L:=h.of (g.block r h.lt a)
end
theorem Na{α:Type}(L:List (List Int×α))(k k':List Int)(v:α):BI (GH L k v) k'=if k'=k then some v else BI L k':=by
 induction L with
 |nil=>
  unfold BI GH
  by_cases h:k'=k
  ·subst h;simp
  ·have:(k'==k)=false:=by simpa using h
   simp[h]
 |cons p L ih=>
  unfold BI GH at*;simp only[List.findIdx?_cons];cases c:(k==p.1)
  ·simp only[Bool.false_eq_true,if_false];cases d:List.findIdx? (fun p=>k==p.1) L with
   |none=>
    rw[d] at ih;simp only[Option.map_none,List.cons_append,List.find?_cons];cases a:(k'==p.1)
    ·simpa using ih
    ·have b:k'≠k:=by
      intro e;rw[e,c] at a;cases a
     simp[b]
   |some j=>
    rw[d] at ih;simp only[Option.map_some,List.set_cons_succ,List.find?_cons];cases a:(k'==p.1)
    ·simpa using ih
    ·have b:k'≠k:=by
      intro e;rw[e,c] at a;cases a
     simp[b]
  ·have g:=eq_of_beq c;simp only[if_true,List.set_cons_zero,List.find?_cons]
   by_cases h:k'=k
   ·subst h;simp
   ·have f:(k'==k)=false:=by simpa using h
    have i:(k'==p.1)=false:=by rw[←g];exact f
    simp[h,f,i]
theorem ZP{f:Operand→Value}{i0 i1 i2 i3 i4:Nat}{a x1 x2 b c:Operand}{v0 v1 v2 v3 v4:Value}(h0:f a=v0)(d:f x1=v1)(e:f x2=v2)(g:f b=v3)(h:f c=v4): #[(i0,a),(i1,x1),(i2,x2),(i3,b),(i4,c)].map (fun(i,x)=>(i,f x))= #[(i0,v0),(i1,v1),(i2,v2),(i3,v3),(i4,v4)]:=by simp[h0,d,e,g,h]
theorem ZQ{f:Operand→Value}{i0 i1 i2 i3 i4 i5 i6:Nat}{a x1 x2 b c d e:Operand}{v0 v1 v2 v3 v4 v5 v6:Value}(h0:f a=v0)(g:f x1=v1)(h:f x2=v2)(j:f b=v3)(k:f c=v4)(l:f d=v5)(m:f e=v6): #[(i0,a),(i1,x1),(i2,x2),(i3,b),(i4,c),(i5,d),(i6,e)].map (fun(i,x)=>(i,f x))= #[(i0,v0),(i1,v1),(i2,v2),(i3,v3),(i4,v4),(i5,v5),(i6,v6)]:=by simp[h0,g,h,j,k,l,m]
section
variable{F F' F0:Nat→Prop}{B:List (Option Nat)}{w0 w w' w1 w2:World}{Z Z':Nat→Prop}{L L' M C:List (Option Nat)}{D:Nat→Prop}
theorem A9(a:List Nat)(h:HD L a M):∀x∈M,x∈L:=h.sub
theorem An(a:List Nat)(h:HD L a M)(b:∀k,F' k→F k):∀k,FU F' M k→F k∨some k∈L:=WS h.sub b
theorem B2(h:∀k,F0 k→F k):∀k,FU F0 C k→F k∨some k∈C:=fun k a=>a.imp (h k) id
theorem Cu{k:Nat}{o:Obj}{r:Option Nat}(h:w.heap[k]?=some o)(g:w.grownBy w' r)(a:some k≠r):w'.heap[k]?=some o:=(g.block k (Array.getElem?_eq_some_iff.1 h).1 a).trans h
theorem DB{k:Nat}{o:Obj}(h:w.heap[k]?=some o)(g:Bp D w w')(a:¬D k):w'.heap[k]?=some o:=(g.block k (Array.getElem?_eq_some_iff.1 h).1 a).trans h
theorem Eg.Bs{α:Type}{ev:α→Value}{r n:Nat}{a:List (List Int×α)}(h:Eg ev w r n a)(g:Bp D w w')(b:¬D r):Eg ev w' r n a:=h.of (g.block r h.lt b)
theorem Eg.Fc{α:Type}{ev:α→Value}{r n:Nat}{a:List (List Int×α)}(h:Eg ev w r n a)(e:w'.heap[r]?=w.heap[r]?):Eg ev w' r n a:=h.of e
theorem Bk.Fc{b:Nat}{t:TypeId}{cs:Array Value}(h:Bk w b t cs)(e:w'.heap[b]?=w.heap[b]?):Bk w' b t cs:=e.trans h
theorem Hp.zz(h:Hp F B w0 L w)(a c:List Nat)(d:HD L a M)(e:HD L c C)(f:∀k,F' k→F k∨some k∈C):∀b,ZZ F B Z w0.heap.size L b→¬F' b∧some b∉M:=h.zc d.sub fun k g=>(f k g).imp id (e.sub _)
theorem Hp.mz(h:Hp F B w0 L w)(a b:List Nat)(c:HD L a M)(d:HD L b C)(e:∀k,F' k→F k∨some k∈C):Mv w (ZZ F B Z w0.heap.size L) w (ZC F' M):=Jx (h.zz a b c d e)
theorem Q2{i:Nat}{a b:List Nat}(h:((a++b).all fun j=> !Nat.beq i j)=true):(a.all fun j=> !Nat.beq i j)=true∧(b.all fun j=> !Nat.beq i j)=true:=by
 rw[List.all_append,Bool.and_eq_true] at h;exact h
theorem Hp.bz(h:Hp F B w0 L w)(i:Nat){b:Nat}(hi:L[i]?=some (some b))(a c:List Nat)(e:HD L a M)(f:HD L c C)(g:∀k,F' k→F k∨some k∈C)(d:((a++c).all fun j=> !Nat.beq i j)=true):ZC F' M b:=by
 have l:=h.Br (F':=F) i hi a (Q2 d).1 e (fun _ h=>h);have m:=h.Br (F':=F) i hi c (Q2 d).2 f (fun _ h=>h);exact⟨fun n=>m ((g b n).imp id id),fun hm=>l (.inr hm)⟩
theorem Hp.rz{α:Type}{e:CH α}{t:TypeId}{n0:Nat}{A:Option Addr}{c:Nat}{xs:List α}(h:Hp F B w0 L w)(i:Nat)(hi:L[i]?=some (ob A))(a b:List Nat)(d:HD L a M)(f:HD L b C)(g:∀k,F' k→F k∨some k∈C)(l:((a++b).all fun j=> !Nat.beq i j)=true)
  (m:Be e t n0 w (ZZ F B Z w0.heap.size L) A c xs):Sl e w (ZC F' M) A c xs:=
 (m.up (h.mz a b d f g)).sl fun k n _=>h.bz i (by rw[hi,n]) a b d f g l
theorem BF{Z:Nat→Prop}(w:World):Mv w Z w (ZZ FN [] Z w.heap.size L):=AQ (fun _ _=>⟨id,by simp⟩) w
theorem Fm(h:Mv w Z w' Z):Mv w Z w' (ZZ FN [] Z w.heap.size M):=⟨h.size,fun b a c=>⟨.inl ⟨c,a,id,by simp⟩,(h.stay b a c).2⟩⟩
theorem IY{n:Nat}{o:Option Nat}(h:o∈M:=by simp):Mv w (ZZ FN [] Z n M) w (ZZ FN [] Z n [o]):=J0 fun b a _=>a.imp id fun⟨c,d⟩=>⟨c,fun hm=>by
 rw[List.mem_singleton] at hm;exact d (by rw[hm];exact h)⟩
theorem Hf(g:Bp D w w')(h:∀b,Z b→¬D b):Mv w Z w' Z:=⟨g.size,fun b a c=>⟨a,g.block b c (h b a)⟩⟩
theorem IZ{b:Nat}{o:Option Nat}(h:¬FU FN C b∧some b≠o):¬FU FN C b:=h.1
theorem H9{b:Nat}{o:Option Nat}(h:¬FU F C b∧some b≠o):¬FU F (C++[o]) b:=by
 rintro(a|a)
 ·exact h.1 (.inl a)
 ·rcases List.mem_append.1 a with c|c
  ·exact h.1 (.inr c)
  ·exact h.2 (by simpa using c)
theorem CR{b:Nat}{o:Option Nat}(h:¬FU F C b)(k:some b≠o):¬F b∧some b∉C++[o]:=
 ⟨fun a=>h (.inl a),fun a=>by
  rcases List.mem_append.1 a with c|c
  ·exact h (.inr c)
  ·exact k (by simpa using c)⟩
theorem Bp.lf{o:Option Nat}(g:Bp (FU F (C++[o])) w w'):Bp (FU (FU F C) [o]) w w':=g.mono fun k h=>by
 rcases h with h|h
 ·exact .inl (.inl h)
 ·rcases List.mem_append.1 h with a|a
  ·exact .inl (.inr a)
  ·exact .inr a
theorem Bp.Q3{o:Option Nat}(g:Bp (FU F C) w w'):Bp (FU (FU F C) [o]) w w':=g.mono fun _ h=>.inl h
theorem Bp.cl{M1 M2:List (Option Nat)}(g:Bp (FU (FU F M1) M2) w w'):Bp (FU F (M1++M2)) w w':=g.fl
theorem Hp.Ir(h:Hp F B w0 L w)(b:List Nat)(c:HD L b C)(d:∀k,F0 k→F k):∀k,FU F0 C k→k<w.heap.size:=fun k a=>by
 rcases a with a|a
 ·exact Nat.lt_of_lt_of_le (h.ff k (d k a)) h.sz
 ·exact(h.lo k (c.sub _ a)).1
theorem Hp.Nb(h:Hp F B w0 L w)(i:Nat){k:Nat}(hi:L[i]?=some (some k))(a:List Nat)(b:(a.all fun j=> !Nat.beq i j)=true)(c:HD L a C):k<w.heap.size∧¬FU F C k:=
 ⟨(h.lo k (List.mem_of_getElem? hi)).1,h.Br (F':=F) i hi a b c fun _ h=>h⟩
theorem Hp.Ii{x d:Option Nat}(h:Hp F B w0 L w)(i:Nat)(hi:L[i]?=some x)(a:List Nat)(g:(a.all fun j=> !Nat.beq i j)=true)(l:HD L a M)(m:∀y∈B,y=d∨y∈M):∀k,x=some k→(d=some k∨w0.heap.size≤k)∧k<w.heap.size:=fun k e=>by
 have f:=h.lo k (List.mem_of_getElem? (by rw[hi,e]));refine⟨?_,f.1⟩;rcases Nat.lt_or_ge k w0.heap.size with b|b
 ·left;rcases m _ (f.2.2 b) with c|c
  ·exact c.symm
  ·exact absurd (.inr c) (h.Br (F':=F) i (by rw[hi,e]) a g l fun _ h=>h)
 ·exact .inr b
theorem BB.snoc{o:Option Nat}(h:BB F C w)(l:∀k,o=some k→k<w.heap.size∧¬FU F C k):BB F (C++[o]) w:=by
 refine⟨fun k q=>?_,fun i j x m hi f=>?_,h.ff⟩
 ·rcases List.mem_append.1 q with d|d
  ·exact h.lt k d
  ·have c:=l k (by rw[List.mem_singleton] at d;exact d.symm);exact⟨c.1,fun r=>c.2 (.inl r)⟩
 ·have key:∀(a b:Nat),a<C.length→¬b<C.length→(C++[o])[a]?=some (some x)→(C++[o])[b]?=some (some x)→False:=fun a b s t d c=>by
   rw[List.getElem?_append_left s] at d;rw[List.getElem?_append_right (by omega)] at c;have n:b-C.length=0:=by
    rcases Nat.eq_zero_or_pos (b-C.length) with h|h
    ·exact h
    ·rw[List.getElem?_eq_none (by simp;omega)] at c;cases c
   rw[n] at c;have p:o=some x:=by simpa using c
   exact(l x p).2 (.inr (List.mem_of_getElem? d))
  by_cases g:i<C.length
  ·by_cases e:j<C.length
   ·rw[List.getElem?_append_left g] at hi;rw[List.getElem?_append_left e] at f;exact h.ap i j x m hi f
   ·exact key i j g e hi f
  ·by_cases e:j<C.length
   ·exact key j i e g f hi
   ·have u:(C++[o]).length=C.length+1:=by simp
    have d:=(List.getElem?_eq_some_iff.1 hi).1;have c:=(List.getElem?_eq_some_iff.1 f).1;omega
theorem BB.keep{o o':Option Nat}(h:BB F C w)(g:w.heap.size≤w1.heap.size)(c:∀k,o=some k→k<w1.heap.size∧¬FU F C k)(d:∀k,o'=some k→(o=some k∨w1.heap.size≤k)∧k<w2.heap.size):∀k,o'=some k→k<w2.heap.size∧¬FU F C k:=fun k e=>by
 obtain⟨a,f⟩:=d k e;refine⟨f,?_⟩;rcases a with a|a
 ·exact(c k a).2
 ·rintro(b|b)
  ·have:=h.ff k b;omega
  ·have:=(h.lt k b).1;omega
def YZ(L:List (Option Nat))(n:Nat):List (Option Nat)→Prop
 |[]=>True
 |x::M=>((∃j:Nat,L[j]?=some x)∨∀k,x=some k→some k∈L∨n≤k)∧YZ L n M
theorem B8{n:Nat}:∀{M:List (Option Nat)},YZ L n M→∀k,some k∈M→some k∈L∨n≤k
 |[],_,_,h=>by cases h
 |x::M,h,k,a=>by
  rcases List.mem_cons.1 a with e|a
  ·rcases h.1 with⟨j,b⟩|c
   ·left;rw[e];exact List.mem_of_getElem? b
   ·exact c k e.symm
  ·exact B8 h.2 k a
theorem Cv{y:Option Nat}(i:Nat)(h:y∈M):∀x∈L.set i y,x∈L∨x∈M:=fun x a=>by
 rcases List.mem_or_eq_of_mem_set a with b|e
 ·exact .inl b
 ·exact .inr (by rw[e];exact h)
theorem Hg{o:Option Nat}:∀b,ZC F [o] b→¬F b∧some b≠o:=fun _ h=>⟨h.1,fun e=>h.2 (by rw[e];exact List.mem_singleton_self _)⟩
end
theorem Oc{F:Nat→Prop}{B L:List (Option Nat)}{n:Nat}{Z Z':Nat→Prop}(h:∀b,Z b→Z' b):∀b,ZZ F B Z n L b→ZZ F B Z' n L b:=fun b a=>a.imp (fun⟨c,d,e⟩=>⟨c,h b d,e⟩) id
def LN{α:Type}(e:CH α)(w:World)(Z:Nat→Prop)(A:Option Addr)(c:Nat)(xs:List α):Prop:=
 xs.length≤c∧(A=none→c=0)∧∃Bw,R2 e w Z Bw xs∧Rz w ZA A Bw.flatten
section
variable{α:Type}{e:CH α}{t:TypeId}{n0:Nat}{w w':World}{Z Z':Nat→Prop}{A:Option Addr}{c:Nat}{xs:List α}
theorem LN.ext(h:LN e w Z A c xs)(g:Ext w w')(hm:Mv w Z w' Z'):LN e w' Z' A c xs:=⟨h.1,h.2.1,h.2.2.imp fun _ h=>⟨h.1.mv hm,h.2.mv (Ab g)⟩⟩
theorem Be.n(h:Be e t n0 w Z A c xs):LN e w Z A c xs:=by
 have a:=h.all;obtain⟨Bw,b,d⟩:=h;refine⟨a.1,a.2.1,Bw,b,?_⟩;have f:=d.rd;exact PJ f fun _ _ _=>trivial
theorem Sl.n(h:Sl e w Z A c xs):LN e w Z A c xs:=⟨h.1,h.2.1,h.2.2.imp fun _ h=>⟨h.1,h.2.mv KW⟩⟩
theorem Sl.MG(a:∀w Z w' Z' cs x,e.R w Z cs x→e.R w' Z' cs x)(h:Sl e w Z A c xs):LN e w Z' A c xs:=⟨h.1,h.2.1,h.2.2.imp fun _ h=>⟨h.1.free a,h.2.mv KW⟩⟩
theorem Be.MG(a:∀w Z w' Z' cs x,e.R w Z cs x→e.R w' Z' cs x)(h:Be e t n0 w Z A c xs):LN e w Z' A c xs:=h.all.MG a
end
section
variable{P:Program}{a:Act}{w:World}{dst:Option Tmp}{ty:TypeId}{pos:String}{B6:Array Edge}{g:Option (Nat×Bool)}
theorem Ix{α:Type}{e:CH α}{s x:Operand}{t j:TypeId}{z:Value}{sz bytes:Nat}(y:P.underlying t=some (.slice j))(hi:(P.info? j).map (fun i=>(i.zero,i.size,i.bytes))=some (some z,sz,bytes))(l:z.cells.size=sz)(m:e.sz=sz)(h0:0<sz)
  {n0:Nat}{Z:Nat→Prop}{A B:Option Addr}{c d n:Nat}{xs ys:List α}(aA:a.eval s=.slice A n c)(aB:xs.length=n)(aC:a.eval x=.slice B ys.length d)(h:Be e j n0 w Z A c xs)(r:LN e w Z B d ys)
  (o:xs.length+ys.length≤maxLen)(b:(xs.length+ys.length)*bytes≤140737488355328)(f:n0≤w.heap.size):
  B7 P ⟨dst,.call {callee:=.builtin .append,args:= #[s,x],argTypes:= #[t,t]},ty,pos,B6,g⟩ a w (fun v w'=>∃u aD,v=.slice u (xs++ys).length aD∧w.grownBy w' (ob A)∧(∀k,ob u=some k→(ob A=some k∨w.heap.size≤k)∧k<w'.heap.size)∧
   ∃Bw p,R2 e w Z Bw xs∧R2 e w Z p ys∧Ey w' n0 j e.sz u (xs++ys).length aD (Bw++p).flatten):=by
 by_cases q:ys=[]
 ·refine WW y hi l m h0 aA aB aC h ?_ o b f;subst q;exact⟨r.1,r.2.1,[],trivial,.inl rfl⟩
 ·obtain⟨_,_,Bw,aE,aF⟩:=r;exact IN y hi l m h0 aA aB aC h ⟨Bw,aE,aF⟩ o b f q
end
section
variable{α:Type}{e:CH α}{t:TypeId}{n0:Nat}{w w':World}{Z Z':Nat→Prop}{A:Option Addr}{c:Nat}{xs:List α}
theorem Be.UB(a:∀w Z w' Z' cs x,e.R w Z cs x→e.R w' Z' cs x)(h:Be e t n0 w Z A c xs):Be e t n0 w Z' A c xs:=by
 obtain⟨Bw,b,d⟩:=h;exact⟨Bw,b.free a,d⟩
theorem Be.WX(h:Be e t n0 w Z A c xs):A=none→c=0:=h.all.2.1
theorem Be.keep(h:Be e t n0 w Z A c xs)(hm:Mv w Z w' Z')(d:∀k,ob A=some k→w'.heap[k]?=w.heap[k]?):Be e t n0 w' Z' A c xs:=by
 obtain⟨Bw,f,a⟩:=h;refine⟨Bw,f.mv hm,a.1,a.2.imp id ?_⟩;rintro⟨b,cap,cur,g,i,j,l⟩;cases g;exact⟨b,_,cur,rfl,i,(d b rfl).trans j,l⟩
end
def BG{α:Type}(xs:List α)(l h:Int):List α:=(xs.take h.toNat).drop l.toNat
def Od(n:Nat)(l h:Int):Option Unit:=if 0≤l∧l≤h∧h≤(n:Int) then some () else none
theorem Mb{α:Type}{n:Nat}{l h:Int}{f:Unit→Option α}{r:α}(a:(Od n l h).bind f=some r):(0≤l∧l≤h∧h≤(n:Int))∧f ()=some r:=by
 unfold Od at a;split at a
 ·exact⟨by assumption,a⟩
 ·cases a
def SB(a:Act)(o:Option Operand)(v d:Int):Prop:=(o=none∧v=d)∨∃x k,o=some x∧a.eval x=.int k v
theorem TU{a:Act}{d:Int}:SB a none d d:=.inl ⟨rfl,rfl⟩
theorem TV{a:Act}{x:Operand}{k:IntKind}{v d:Int}(h:a.eval x=.int k v):SB a (some x) v d:=.inr ⟨x,k,rfl,h⟩
theorem Lt{P:Program}(w:World)(k:IntKind)(i:Int)(y:Nat)(code:BoundsCode)(h0:0≤i)(a:i≤(y:Int)):(Instr.sliceBound (.int k i) y code).run P w=.ok i.toNat w:=by
 simp[Instr.sliceBound,asIntOf,h0,a]
section
variable{P:Program}{a:Act}{w:World}{dst:Option Tmp}{ty:TypeId}{pos:String}{B6:Array Edge}{g:Option (Nat×Bool)}
theorem PV{α:Type}{e:CH α}{Z:Nat→Prop}{xs:List α}{t v:TypeId}{sz:Nat}{x:Operand}{A:Option Addr}{c:Nat}{lo hi:Option Operand}{l h:Int}(aJ:P.underlying t=some (.slice v))(aK:(P.info? v).map (·.size)=some sz)(z:e.sz=sz)
  (aL:a.eval x=.slice A xs.length c)(i:SB a lo l 0)(aA:SB a hi h xs.length)(aM:Sl e w Z A c xs)(aN:0≤l∧l≤h∧h≤(xs.length:Int)):
  B7 P ⟨dst,.slice t x lo hi none,ty,pos,B6,g⟩ a w (fun u w'=>(∃aB aC,u=.slice aB (BG xs l h).length aC∧Sl e w Z aB aC (BG xs l h))∧w'=w):=by
 subst z;obtain⟨aU,m,Bw,n,aO⟩:=aM;obtain⟨aV,aW,aX⟩:=aN;have hlen:(BG xs l h).length=h.toNat-l.toNat:=by
  unfold BG;rw[List.length_drop,List.length_take];omega
 have p:(Instr.sliceAt t (.slice A xs.length c) (lo.map a.eval) (hi.map a.eval) none).run P w=.ok (.slice (if c=l.toNat then A else A.map (·.add (l.toNat*e.sz))) (h.toNat-l.toNat) (c-l.toNat)) w:=by
  have aP:(Instr.sliceBounds true xs.length c (lo.map a.eval) (hi.map a.eval) none).run P w=.ok (l.toNat,h.toNat,c) w:=by
   unfold Instr.sliceBounds;rcases aA with⟨rfl,rfl⟩|⟨y,k,rfl,aD⟩
   ·rcases i with⟨rfl,rfl⟩|⟨aQ,k',rfl,d⟩
    ·simp
    ·simp[d,Lt w k' l xs.length _ (by omega) (by omega)]
   ·have aE:=fun code=>Lt (P:=P) w k h c code (by omega) (by omega);rcases i with⟨rfl,rfl⟩|⟨aQ,k',rfl,d⟩
    ·simp[aD,aE]
    ·simp[aD,d,aE,Lt w k' l h.toNat _ (by omega) (by omega)]
  simp[Instr.sliceAt,Instr.slice,underlying,program,Sem.run,aJ,aP,Kf aK]
 refine(UX aL rfl rfl p).mono ?_;rintro u w' ⟨rfl,rfl⟩;refine⟨⟨_,_,by rw[hlen],?_⟩,rfl⟩;have q:=(n.take h.toNat).drop l.toNat;have aF:((Bw.take h.toNat).drop l.toNat).flatten=[]∨(0<e.sz∧l.toNat<h.toNat):=by
  rcases Nat.eq_zero_or_pos e.sz with h0|h0
  ·left;exact List.eq_nil_of_length_eq_zero (by rw[q.KN,h0,Nat.mul_zero])
  ·rcases Nat.lt_or_ge l.toNat h.toNat with r|r
   ·exact .inr ⟨h0,r⟩
   ·left;exact List.eq_nil_of_length_eq_zero (by rw[q.KN,List.length_drop,List.length_take,show min h.toNat xs.length-l.toNat=0 by omega,Nat.zero_mul])
 refine⟨by rw[hlen];omega,fun s=>?_,_,q,?_⟩
 ·split at s
  ·have:=m s;omega
  ·have:=m (by simpa using s);omega
 ·rcases aF with h0|⟨h0,r⟩
  ·exact .inl h0
  ·rcases aO with aR|⟨b,o,rfl,aS,aG,f⟩
   ·left;have aH:=n.KN;rw[aR] at aH;simp only[List.length_nil] at aH;have aY:0<xs.length*e.sz:=Nat.mul_pos (by omega) h0;omega
   ·right;have aI:¬c=l.toNat:=by omega
    refine⟨b,o+l.toNat*e.sz,by simp[aI,GK],aS,aG,fun j u hu=>?_⟩;rw[Nat.add_assoc];refine f _ _ ?_;rw[←(n.take h.toNat).Uz h0,List.getElem?_drop] at hu;have aT:Bw.flatten=(Bw.take h.toNat).flatten++(Bw.drop h.toNat).flatten:=by rw[←List.flatten_append,List.take_append_drop]
    rw[aT,List.getElem?_append_left (List.getElem?_eq_some_iff.1 hu).1];exact hu
end
def OV(n:Int)(b:Nat):Option Unit:=if 0≤n∧n*b≤140737488355328∧n≤140737488355328 then some () else none
theorem Lu{α:Type}{n:Int}{b:Nat}{f:Unit→Option α}{r:α}(h:(OV n b).bind f=some r):(0≤n∧n*b≤140737488355328∧n≤140737488355328)∧f ()=some r:=by
 unfold OV at h;split at h
 ·exact⟨by assumption,h⟩
 ·cases h
theorem Mc(z:Array Value):∀m:Nat,(madeCells z (m*z.size)).toList=(List.replicate m z.toList).flatten
 |0=>by simp[madeCells]
 |m+1=>by
  have ih:=Mc z m;have e:∀k,(madeCells z k).toList=(List.range k).map (z[· %z.size]!):=fun k=>by simp[madeCells]
  rw[e] at ih⊢;rw[Nat.add_mul,Nat.one_mul,List.range_add,List.map_append,ih,List.replicate_succ',List.flatten_append]
  congr 1
  simp only[List.map_map,List.flatten_cons,List.flatten_nil,List.append_nil];refine List.ext_getElem (by simp) fun i b a=>?_;simp only[List.getElem_map,List.getElem_range,Function.comp];have hi:i<z.size:=by simpa using a
  rw[Nat.add_comm,Nat.add_mul_mod_self_right,Nat.mod_eq_of_lt hi];simp[hi]
theorem R2.Y0{α:Type}{e:CH α}{w:World}{Z:Nat→Prop}{c:List Value}{x:α}(h:e.R w Z c x):∀m:Nat,R2 e w Z (List.replicate m c) (List.replicate m x)
 |0=>trivial
 |m+1=>⟨h,R2.Y0 h m⟩
section
variable{P:Program}{a:Act}{w:World}{dst:Option Tmp}{ty:TypeId}{pos:String}{B6:Array Edge}{g:Option (Nat×Bool)}
theorem MH{α:Type}{e:CH α}{z:α}{zc:List Value}{n0:Nat}{t j:TypeId}{d:Value}{sz bytes:Nat}{n:Int}{x y:Operand}{m o:IntKind}{b':Nat}(aB:P.underlying t=some (.slice j))(hi:(P.info? j).map (fun i=>(i.zero,i.size,i.bytes))=some (some d,sz,bytes))
  (p:d.cells.toList=zc)(c:e.sz=sz)(aC:a.eval x=.int m n)(aD:a.eval y=.int o n)(hm:0≤n∧n*b'≤140737488355328∧n≤140737488355328)(q:∀w Z,e.R w Z zc z)(aE:n0≤w.heap.size)(aJ:bytes≤b'):
  B7 P ⟨dst,.makeSlice t x y,ty,pos,B6,g⟩ a w (fun u w'=>∃b,u=.slice (some ⟨b,0,none⟩) (List.replicate n.toNat z).length n.toNat∧w.heap.size≤b∧b<w'.heap.size∧Ext w w'∧∀Z,Be e j n0 w' Z (some ⟨b,0,none⟩) n.toNat (List.replicate n.toNat z)):=by
 subst p;subst c;cases f:P.info? j with
 |none=>simp[f] at hi
 |some i=>
  rw[f] at hi;simp only[Option.map_some,Option.some.injEq,Prod.mk.injEq] at hi;obtain⟨aF,r,aG⟩:=hi;obtain⟨s,aK,aL⟩:=hm;have v:d.cells.toList.length=e.sz:=e.len (q w ZA);have c:d.cells.size=e.sz:=by simpa using v
  have aA:(i.bytes:Int)*n≤281474976710656:=by
   rw[aG];have aH:(bytes:Int)*n≤(b':Int)*n:=Int.mul_le_mul_of_nonneg_right (by omega) s;rw[Int.mul_comm (b':Int)] at aH;omega
  have aI:=run_make (P:=P) w t j i d aB f aF m o n n s (Int.le_refl _) aA (by omega);refine(JW (S:=Instr.makeSlice t (a.eval x) (a.eval y)) rfl (by rw[aC,aD];exact aI)).mono fun u w' h=>?_;obtain⟨rfl,rfl⟩:=h;have l:=JV w j (madeCells d.cells (n.toNat*i.size));refine⟨w.heap.size,by rw[List.length_replicate],Nat.le_refl _,by rw[l.sz];exact Nat.lt_succ_self _,l.gr,fun Z=>⟨_,R2.Y0 (q _ Z) n.toNat,?_⟩⟩;rw[List.length_replicate];have k:(List.replicate n.toNat d.cells.toList).flatten.length=n.toNat*e.sz:=by rw[←Mc,←c];simp[size_madeCells]
  refine⟨k,.inr ⟨w.heap.size,n.toNat,_,rfl,aE,l.bk,Nat.le_refl _,by simp only[maxLen];omega,by rw[size_madeCells,r],?_⟩⟩;rw[r,←c,Mc,List.take_of_length_le (by rw[k,c];exact Nat.le_refl _)]
end
def Md:Int⊕Bool→Value
 |.inl n=>.int .i64 n
 |.inr b=>.bool b
def Y1(l:List (Int⊕Bool)):Value:=.agg (l.map Md).toArray
def OW:Int⊕Bool→Bool
 |.inl _=>true
 |.inr _=>false
def NS:List (Int⊕Bool)→List (Int⊕Bool)→Bool
 |[],[]=>true
 |.inl a::l,.inl b::m=>a==b&&NS l m
 |.inr a::l,.inr b::m=>a==b&&NS l m
 |_,_=>false
def No(P:Program)(t:TypeId)(a:List Bool):Prop:=∀(w:World) (x y:List (Int⊕Bool)),x.map OW=a→y.map OW=a→(Op.equal t (Y1 x) (Y1 y)).run P w=.ok (NS x y) w
def Oe(a b:TypeId):Nat→List Field→List Bool→Bool
 |_,[],[]=>true
 |i,f::c,k::d=>f.name !="_"&&Nat.beq f.type (cond k a b)&&Nat.beq f.offset i&&Oe a b (i+1) c d
 |_,_,_=>false
section
variable{P:Program}{w:World}
theorem Lv{e:TypeId}(he:One P e){cs:Array Value}{i:Nat}{v:Value}(h:cs[i]?=some v):(part e cs i).run P w=.ok v w:=by
 simp only[part,Sem.run_bind,KL he,Result.andThen_ok,h];rfl
theorem OX{l o:TypeId}(v:One P l)(u1:P.underlying l=some (.int .i64))(z:One P o)(aA:P.underlying o=some .bool)(d:Nat):∀(p:List Field) (c:List Bool) (x y b e:List (Int⊕Bool)),b.length=e.length→Oe l o b.length p c=true→x.map OW=c→y.map OW=c→
  (Op.eqFields (d+1) ((b++x).map Md).toArray ((e++y).map Md).toArray p).run P w=.ok (NS x y) w
 |[],[],[],[],_,_,_,_,_,_=>by simp[Op.eqFields,NS]
 |[],_::_,_,_,_,_,_,h,_,_=>by simp[Oe] at h
 |_::_,[],_,_,_,_,_,h,_,_=>by simp[Oe] at h
 |[],[],_::_,_,_,_,_,_,h,_=>by simp at h
 |[],[],_,_::_,_,_,_,_,_,h=>by simp at h
 |_::_,_::_,[],_,_,_,_,_,h,_=>by simp at h
 |_::_,_::_,_,[],_,_,_,_,_,h=>by simp at h
 |f::p,k::c,g::x,i::y,b,e,aB,aC,r,s=>by
  simp only[Oe,Bool.and_eq_true] at aC;obtain⟨⟨⟨t,a⟩,u⟩,aF⟩:=aC;have t:f.name≠"_":=by simpa using t
  have a:=Nat.eq_of_beq_eq_true a;have u:=Nat.eq_of_beq_eq_true u;simp only[List.map_cons,List.cons.injEq] at r s;have ih:=OX v u1 z aA d p c x y (b++[g]) (e++[i]) (by simp[aB]) (by simpa using aF) r.2 s.2;rw[List.append_assoc,List.append_assoc] at ih;simp only[List.singleton_append] at ih;have aD:((b++g::x).map Md).toArray[f.offset]?=some (Md g):=by rw[u];simp
  have aE:((e++i::y).map Md).toArray[f.offset]?=some (Md i):=by rw[u,aB];simp
  cases k with
  |true=>
   cases g with
   |inr _=>simp[OW] at r
   |inl m=>
    cases i with
    |inr _=>simp[OW] at s
    |inl n=>
     have a:f.type=l:=a;have j:One P f.type:=by rw[a];exact v
     have q:=run_equalIn_int (P:=P) w d f.type .i64 .i64 m n (by rw[a];exact u1);simp only[Op.eqFields,t,ne_eq,not_false_eq_true,if_true,Sem.run_bind,Lv j aD,Lv j aE,Md,q,Result.andThen_ok,NS];cases aG:(m==n)
     ·simp
     ·simpa using ih
  |false=>
   cases g with
   |inl _=>simp[OW] at r
   |inr m=>
    cases i with
    |inl _=>simp[OW] at s
    |inr n=>
     have a:f.type=o:=a;have j:One P f.type:=by rw[a];exact z
     have q:=run_equalIn_bool (P:=P) w d f.type m n (by rw[a];exact aA);simp only[Op.eqFields,t,ne_eq,not_false_eq_true,if_true,Sem.run_bind,Lv j aD,Lv j aE,Md,q,Result.andThen_ok,NS];cases aG:(m==n)
     ·simp
     ·simpa using ih
theorem QV{K c d:Nat}{a:Array Field}{e:List Bool}(hK:P.underlying K=some (.struct a))(f:P.stoodInHeld K=false)(g:Oe c d 0 a.toList e=true)(i:One P c)(u1:P.underlying c=some (.int .i64))(j:One P d)(l:P.underlying d=some .bool):No P K e:=by
 intro w x y m n;have b:P.fieldsOf K=a:=by simp[Program.fieldsOf,hK]
 have h:=run_equalIn_struct (P:=P) w 9999 K (x.map Md).toArray (y.map Md).toArray (by rw[b];exact hK) f;have k:=OX (P:=P) (w:=w) i u1 j l 9998 a.toList e x y [] [] rfl g m n;simp only[List.nil_append] at k;rw[b,k] at h;exact h
end
section
variable{P:Program}{a:Act}{w:World}{dst:Option Tmp}{ty:TypeId}{pos:String}{B6:Array Edge}{g:Option (Nat×Bool)}
theorem UC{x y:Operand}{p q:Option Addr}{t u:TypeId}{b:Bool}(c:a.eval x=.pointer p)(d:a.eval y=.pointer q)(e:(Op.equal t (.pointer p) (.pointer q)).run P w=.ok b w):B7 P ⟨dst,.binOp .eql t x y u,ty,pos,B6,g⟩ a w (fun v w'=>v=.bool b∧w'=w):=
 CA (by simp[execOp,c,d,binOp,e,eqGuard])
theorem PW {α:Type} {e:CH α} {aA t:TypeId} {x y:Operand} {b o k p c:Nat} {v:Value} {n0:Nat} {Z:Nat→Prop} {A:Option Addr} {xs:List α} {z z':α} {l:List Value} {n:Nat}
  (aB:Be e aA n0 w Z A c xs) (aD:xs[k]?=some z) (aM:A=some ⟨b,o,none⟩) (aN:p=o+k*e.sz) (aO:a.eval x=.pointer (some ⟨b,p,none⟩)) (aP:a.eval y=v) (aQ:(P.info? t).map (·.size)=some n) (aR:v.cells.toList=l) (aS:l.length=n)
  (aT:∀u∈l,u.oneCell'=true) (aE:e.R w Z l z'):
  B7 P ⟨dst,.store t x y,ty,pos,B6,g⟩ a w (fun _ w'=>w.grownBy w' (ob A)∧∃Bw,R2 e w Z Bw (xs.set k z')∧Ey w' n0 aA e.sz A (xs.set k z').length c Bw.flatten):=by
 obtain⟨Bw,f,aU⟩:=aB;obtain⟨a4,aY,aF,aZ⟩:=f.get aD;have a0:=e.len aF;have aG:=e.len aE;subst aM;subst aN;have aH:k<xs.length:=(List.getElem?_eq_some_iff.1 aD).1;have hlen:=f.len;have h:=f.lens;rcases aU.2 with⟨aI,h0⟩|⟨a5,cap,cur,aI,aJ,aV,q,aK,aC,i⟩
 ·omega
 ·cases aI;have a2:k*e.sz+e.sz≤xs.length*e.sz:=by
   have:(k+1)*e.sz≤xs.length*e.sz:=Nat.mul_le_mul_right _ aH;rw[Nat.add_mul,Nat.one_mul] at this;exact this
  have a3:xs.length*e.sz≤c*e.sz:=Nat.mul_le_mul_right _ q;have aL:Bk w b aA cur:=aV;refine(Bt (Cm:=setCells cur (0+k*e.sz) l) aO aP aQ aL aR aS (by omega) aT rfl).mono ?_;rintro _ w' ⟨s1,s2,aW⟩;have d:=f.set aE k;refine⟨aW,_,d,by rw[d.KN],.inr ⟨b,c,setCells cur (0+k*e.sz) l,rfl,aJ,s2,by rw[List.length_set];exact q,aK,by rw[LM 0];exact aC,?_⟩⟩;rw[List.length_set];rcases Nat.eq_zero_or_pos e.sz with h0|h0
  ·have aX:(Bw.set k l).flatten=[]:=List.eq_nil_of_length_eq_zero (by rw[d.KN,h0,Nat.mul_zero]);rw[aX,h0,Nat.mul_zero,List.take_zero]
  ·refine List.ext_getElem? fun j=>?_;rw[PS aG h0 k Bw j h (by omega),List.getElem?_take,Array.getElem?_toList,L9 _ _ _ _ (by omega)];have r:∀j:Nat,Bw.flatten[j]?=if j<xs.length*e.sz then cur[j]? else none:=fun j=>by
    rw[←i,List.getElem?_take,Array.getElem?_toList]
   by_cases m:j<xs.length*e.sz
   ·rw[if_pos m]
    by_cases s:k*e.sz≤j∧j<k*e.sz+e.sz
    ·rw[if_pos (by omega),if_pos s,show j-(0+k*e.sz)=j-k*e.sz by omega]
    ·rw[if_neg (by omega),if_neg s,r,if_pos m]
   ·rw[if_neg m,if_neg (by omega),r,if_neg m]
theorem Me{α:Type}{e:CH α}{f t:TypeId}{x y:Operand}{b o k p c:Nat}{v:Value}{n0:Nat}{Z:Nat→Prop}{A:Option Addr}{xs:List α}{z z':α}{l:List Value}{n:Nat}
  (d:Be e f n0 w Z A c xs)(i:xs[k]?=some z)(j:A=some ⟨b,o,none⟩)(m:p=o+k)(q:a.eval x=.pointer (some ⟨b,p,none⟩))(r:a.eval y=v)(s:(P.info? t).map (·.size)=some n)(aA:v.cells.toList=l)(aB:l.length=n)
  (aC:∀u∈l,u.oneCell'=true)(aD:e.R w Z l z')(h:e.sz=1:=by rfl):
  B7 P ⟨dst,.store t x y,ty,pos,B6,g⟩ a w (fun _ w'=>w.grownBy w' (ob A)∧∃Bw,R2 e w Z Bw (xs.set k z')∧Ey w' n0 f e.sz A (xs.set k z').length c Bw.flatten):=
 PW d i j (by rw[h,Nat.mul_one];exact m) q r s aA aB aC aD
end
theorem Mf{l:List Int}{i:Nat}{x:Int}(h:l[i]?=some x):(l.map fun n=>Value.int .i64 n)[i]?=some (.int .i64 x):=by rw[List.getElem?_map,h];rfl
def TC(w:World)(D:Nat→Prop)(M:World→Prop):Nat→World→Prop
 |0,w'=>Ext w w'
 |_+1,w'=>Bp D w w'∧M w'
section
variable{w w' Bc:World}{D:Nat→Prop}{M:World→Prop}{ph:Nat}
theorem GP(h:TC w D M ph w'):Bp D w w':=by
 cases ph with
 |zero=>exact E3 h
 |succ=>exact h.1
theorem Bz(h:TC w D M ph w')(a:ph=0):Ext w w':=by subst a;exact h
theorem Jb(c:∀a b,M a→Ext a b→M b)(h:TC w D M ph w')(g:Ext w' Bc):TC w D M ph Bc:=by
 cases ph with
 |zero=>exact Ext.trans h g
 |succ=>exact⟨(show Bp D w w' from h.1).trans (E3 g),c _ _ h.2 g⟩
theorem J1(h:TC w D M ph w')(a:ph=0)(g:Bp D w' Bc)(b:M Bc):TC w D M (ph+1) Bc:=by
 subst a;exact⟨(E3 h).trans g,b⟩
theorem MI{r:Option Nat}(g:w.grownBy w' r):Bp (FU FN [r]) w w':=Kk g fun k e=>.inr (by rw[e];exact List.mem_singleton_self _)
end
section
variable{F F':Nat→Prop}{B:List (Option Nat)}{w0 w w':World}{L M:List (Option Nat)}
theorem Hp.Yu{α:Type}{e:CH α}{t:TypeId}{A:Option Addr}{c:Nat}{xs:List α}{Z Z':Nat→Prop}(h:Hp F B w0 L w)(b:∀w Z w' Z' cs x,e.R w Z cs x→e.R w' Z' cs x)(a:Be e t w.heap.size w' Z' A c xs):Be e t w0.heap.size w' Z A c xs:=
 Be.UB b (a.base (n1:=w0.heap.size) fun k d=>Nat.le_trans h.sz (a.ge k d))
theorem Hp.SF{α:Type}{e:CH α}{t:TypeId}{A:Option Addr}{c:Nat}{xs:List α}{Z a:Nat→Prop}(h:Hp F B w0 L w)(b:∀w Z w' Z' cs x,e.R w Z cs x→e.R w' Z' cs x)(d:Be e t w.heap.size w' a A c xs):Sl e w' (ZZ F B Z w0.heap.size L) A c xs:=
 (Be.UB b d).sl fun k _ h0=>h.kn h0
theorem Hp.MJ (h:Hp F B w0 L w) (f:Hp F B w0 L w') {b:Nat} (p:w.heap.size≤b) (l:b<w'.heap.size):Hp F B w0 (some b::L) w':=by
 refine⟨f.ch,fun k a=>?_,?_,h.ff⟩
 ·rcases List.mem_cons.1 a with e|a
  ·cases e;exact⟨l,fun m=>absurd (h.ff _ m) (by have:=h.sz;omega),fun n=>absurd n (by have:=h.sz;omega)⟩
  ·exact f.lo k a
 ·have key:∀(j:Nat) (x:Nat),L[j]?=some (some x)→x≠b:=fun j x o e=>by
   have:=(h.lo x (List.mem_of_getElem? o)).1;omega
  intro i j x g hi c;cases i with
  |zero=>
   cases j with
   |zero=>exact g rfl
   |succ j=>
    have d:b=x:=by simpa using hi
    exact key j x (by simpa using c) d.symm
  |succ i=>
   cases j with
   |zero=>
    have d:b=x:=by simpa using c
    exact key i x (by simpa using hi) d.symm
   |succ j=>exact h.ap i j x (by omega) (by simpa using hi) (by simpa using c)
theorem B4{Z:Nat→Prop}{n0:Nat}{b:Nat}(hm:Mv w (ZZ F B Z n0 L) w' (ZZ F B Z n0 L))(h:w.heap.size≤b):Mv w (ZZ F B Z n0 L) w' (ZZ F B Z n0 (some b::L)):=
 ⟨hm.size,fun k c d=>⟨(hm.stay k c d).1.imp id fun⟨f,g⟩=>⟨f,fun a=>by
  rcases List.mem_cons.1 a with e|a
  ·cases e;omega
  ·exact g a⟩,(hm.stay k c d).2⟩⟩
end
def NT (w:World) (R:World→Value→World→Prop):KV Ext:=
 ⟨fun v a=>∃w1 w2,Ext w w1∧R w1 v w2∧Ext w2 a,fun _ _ _ ⟨w1,w2,b,c,d⟩ g=>⟨w1,w2,b,c,Ext.trans d g⟩⟩
def MK(w:World)(R:World→Value→World→Prop)(a:World):Prop:=∃v w1 w2,Ext w w1∧R w1 v w2∧Ext w2 a
theorem KF{w:World}{R:World→Value→World→Prop}:∀a b,MK w R a→Ext a b→MK w R b:=fun _ _ ⟨v,w1,w2,c,d,e⟩ g=>⟨v,w1,w2,c,d,Ext.trans e g⟩
def Lw(_:World):Prop:=True
theorem JG:∀a b,Lw a→Ext a b→Lw b:=fun _ _ _ _=>trivial
def HN(n:Nat)(w:World):List Nat→Prop
 |[]=>True
 |b::l=>n≤b∧b<w.heap.size∧(l.all fun x=> !Nat.beq b x)=true∧HN n w l
section
variable{F F':Nat→Prop}{B:List (Option Nat)}{w0 w w':World}{L M:List (Option Nat)}{Z:Nat→Prop}
theorem HN.mem{n:Nat}:∀{l:List Nat},HN n w l→∀b∈l,n≤b∧b<w.heap.size
 |[],_,_,h=>by cases h
 |x::l,h,b,a=>by
  rcases List.mem_cons.1 a with rfl|a
  ·exact⟨h.1,h.2.1⟩
  ·exact HN.mem h.2.2.2 b a
theorem HN.grow{n a:Nat}(b:a≤n)(c:w.heap.size≤w'.heap.size):∀{l:List Nat},HN n w l→HN a w' l
 |[],_=>trivial
 |_::_,h=>⟨Nat.le_trans b h.1,Nat.lt_of_lt_of_le h.2.1 c,h.2.2.1,HN.grow b c h.2.2.2⟩
theorem Hp.Np(h:Hp F B w0 L w):∀{l:List Nat},Hp F B w0 L w'→HN w.heap.size w' l→Hp F B w0 (l.map some++L) w'
 |[],c,_=>c
 |b::l,c,a=>by
  have d:=Hp.Np h c a.2.2.2;refine⟨d.ch,fun k f=>?_,?_,h.ff⟩
  ·rcases List.mem_cons.1 f with e|f
   ·cases e;exact⟨a.2.1,fun p=>absurd (h.ff _ p) (by have:=h.sz;have:=a.1;omega),fun n=>absurd n (by have:=h.sz;have:=a.1;omega)⟩
   ·exact d.lo k f
  ·have key:∀(j:Nat) (x:Nat),(l.map some++L)[j]?=some (some x)→x≠b:=fun j x q e=>by
    subst e;have hm:=List.mem_of_getElem? q;rcases List.mem_append.1 hm with hm|hm
    ·obtain⟨y,r,e⟩:=List.mem_map.1 hm;cases e;have:=List.all_eq_true.1 a.2.2.1 x r;rw[Nat.beq_refl] at this;cases this
    ·have:=(h.lo x hm).1;have:=a.1;omega
   intro i j x o hi g;cases i with
   |zero=>
    cases j with
    |zero=>exact o rfl
    |succ j=>
     have m:b=x:=by simpa using hi
     exact key j x (by simpa using g) m.symm
   |succ i=>
    cases j with
    |zero=>
     have m:b=x:=by simpa using g
     exact key i x (by simpa using hi) m.symm
    |succ j=>exact d.ap i j x (by omega) (by simpa using hi) (by simpa using g)
theorem Hp.I0(h:Hp F B w0 L w)(g:Ext w w'){l:List Nat}(a:HN w.heap.size w' l):Hp F B w0 (l.map some++L) w':=h.Np (h.ext g) a
theorem BT{n0:Nat}{l:List Nat}(hm:Mv w (ZZ F B Z n0 L) w' (ZZ F B Z n0 L))(d:HN w.heap.size w' l):Mv w (ZZ F B Z n0 L) w' (ZZ F B Z n0 (l.map some++L)):=
 ⟨hm.size,fun k c b=>⟨(hm.stay k c b).1.imp id fun⟨f,g⟩=>⟨f,fun a=>by
  rcases List.mem_append.1 a with a|a
  ·obtain⟨y,h,e⟩:=List.mem_map.1 a;cases e;have:=(d.mem k h).1;omega
  ·exact g a⟩,(hm.stay k c b).2⟩⟩
theorem ML{b c:Nat}(f:w.heap.size≤b)(a:b<w'.heap.size)(g:w.heap.size≤c)(d:c<w'.heap.size)(e:b≠c):HN w.heap.size w' [b,c]:=
 ⟨f,a,by
  have:Nat.beq b c=false:=by
   cases h:Nat.beq b c with
   |false=>rfl
   |true=>exact absurd (Nat.eq_of_beq_eq_true h) e
  simp[this],g,d,rfl,trivial⟩
theorem Hp.Mg (h:Hp F B w0 L w):∀(l:List Nat) (c:List Nat),HD L c (l.map some)→KX c=true→(∀b∈l,w0.heap.size≤b)→HN w0.heap.size w l
 |[],_,_,_,_=>trivial
 |b::l,[],a,_,_=>a.elim
 |b::l,j::c,a,e,d=>by
  simp only[KX,Bool.and_eq_true] at e;refine⟨d b (List.mem_cons_self ..),(h.lo b (List.mem_of_getElem? a.1)).1,?_,h.Mg l c a.2 e.2 fun x f=>d x (List.mem_cons_of_mem _ f)⟩;rw[List.all_eq_true];intro x f;cases i:Nat.beq b x with
  |false=>rfl
  |true=>
   have g:=Nat.eq_of_beq_eq_true i;subst g;have k:=h.Br (F':=FN) j a.1 c e.1 a.2 (fun _ h=>h.elim);exact absurd (.inr (List.mem_map.2 ⟨b,f,rfl⟩)) k
end
section
variable{P:Program}{N:Nat}{Q:Exit→Act→World→Prop}{a:Act}{l:Env}{w:World}
def Of(a:Act):Act:={a with defers:=[]}
theorem Mh(a:Act):∀l:Env,Cl (Of a) l=Of (Cl a l)
 |[]=>rfl
 |(d,v)::l=>by simp only[Cl,Mh a l];rfl
theorem JH{D:Nat}{fn:Func}{R:Value→World→Prop}(c:w.heap[D]?=some (.deferred (some [])))(h:∀w',HV D w w'→LV X0 N (bodyPost P fn (fun e w'=>∃v,e=.returned v∧R v w')) .ret (Of a) l w'):
  LV (X1 D) N (PM P fn R) .ret a l w:=fun s=>by
 have d:St X0 N (Of a) l:=⟨s.sz,rfl,s.lt⟩;obtain⟨_,v,b,f⟩:=h _ (Ib w D (.deferred none)) d;show LeavesInM Fence.wide 0 P fn _ _ (Cl a l).defers .returning w;rw[Ev,show a.defers=mark D from s.df];refine⟨by simp,.inl ⟨D,_,rfl,run_takeDeferred c,?_⟩⟩;rw[Mh] at b;exact⟨v,b,f⟩
theorem Og{D:Nat}{fn:Func}{R:Value→World→Prop}(c:w.heap[D]?=some (.deferred (some [])))(h:∀w',HV D w w'→LV X0 N (bodyPost P fn (fun e w'=>∃v,e=.returned v∧R v w')) .normal (Of a) l w'):
  LV (X1 D) N (PM P fn R) .normal a l w:=fun s=>by
 have d:St X0 N (Of a) l:=⟨s.sz,rfl,s.lt⟩;obtain⟨_,v,b,f⟩:=h _ (Ib w D (.deferred none)) d;show LeavesInM Fence.wide 0 P fn _ _ (Cl a l).defers .returning w;rw[Ev,show a.defers=mark D from s.df];refine⟨by simp,.inl ⟨D,_,rfl,run_takeDeferred c,?_⟩⟩;rw[Mh] at b;exact⟨v,b,f⟩
end
theorem MM{α:Type}{b:Bool}{x:Option α}{r:α}(h:cond b none x=some r):b=false∧x=some r:=by
 cases b with
 |true=>cases h
 |false=>exact⟨rfl,h⟩
def Dk(xs:List Int):List Int:=xs.mergeSort fun x y=>decide (x≤y)
theorem Km(xs:List Int):(Dk xs).length=xs.length:=List.length_mergeSort _
theorem SG{w:World}{Z:Nat→Prop}:∀{Bw:List (List Value)} {xs:List Int},R2 (Ae .i64) w Z Bw xs→Bw.flatten=HQ xs
 |[],[],_=>rfl
 |c::Bw,x::xs,h=>by
  have a:c=[.int .i64 x]:=h.1;rw[List.flatten_cons,SG h.2,a];rfl
 |[],_::_,h=>h.elim
 |_::_,[],h=>h.elim
theorem SH{w:World}{Z:Nat→Prop}:∀xs:List Int,R2 (Ae .i64) w Z (xs.map fun x=>[.int .i64 x]) xs
 |[]=>trivial
 |_::xs=>⟨rfl,SH xs⟩
theorem TW(xs:List Int):(xs.map fun x=>[Value.int .i64 x]).flatten=HQ xs:=by
 induction xs with
 |nil=>rfl
 |cons x xs ih=>rw[List.map_cons,List.flatten_cons,ih];rfl
theorem WY{t:TypeId}{n0:Nat}{w:World}{Z:Nat→Prop}{A:Option Addr}{c:Nat}{xs:List Int}(h:Be (Ae .i64) t n0 w Z A c xs):Ey w n0 t 1 A xs.length c (HQ xs):=by
 obtain⟨Bw,a,b⟩:=h;rw[←SG a];exact b
theorem R3{t:TypeId}{n0:Nat}{w:World}{Z:Nat→Prop}{A:Option Addr}{c:Nat}{xs:List Int}(h:Ey w n0 t 1 A xs.length c (HQ xs)):Be (Ae .i64) t n0 w Z A c xs:=
 ⟨_,SH xs,by rw[TW];exact h⟩
theorem Yv{α β:Type}{x:Option β}{f:α→Option β}{r:β}(h:Option.elim none x f=some r):x=some r:=h
theorem Yw{α β:Type}{a:α}{x:Option β}{f:α→Option β}{r:β}(h:Option.elim (some a) x f=some r):f a=some r:=h
theorem Ly{F:Nat→Prop}{b:Nat}{L:List (Option Nat)}(h:¬F b∧some b∉L):¬F b∧some b∉L++[none]:=⟨h.1,fun hm=>by
 rcases List.mem_append.1 hm with a|a
 ·exact h.2 a
 ·simp at a⟩
theorem Bp.Q4{F:Nat→Prop}{C:List (Option Nat)}{o:Option Nat}{w w':World}(g:Bp (FU F (C++[o]++[none])) w w'):Bp (FU (FU F C) [o]) w w':=g.mono fun k h=>by
 rcases h with h|h
 ·exact .inl (.inl h)
 ·rcases List.mem_append.1 h with a|a
  ·rcases List.mem_append.1 a with b|b
   ·exact .inl (.inr b)
   ·exact .inr b
  ·simp at a
theorem Sl.UD{α β:Type}{e:CH α}{ev:β→Value}{F:Nat→Prop}{B L:List (Option Nat)}{Z:Nat→Prop}{n0 r n:Nat}{w:World}{i:List (List Int×β)}{A:Option Addr}{c:Nat}{xs:List α}
  (j:∀w Z w' Z' cs x,e.R w Z cs x→e.R w' Z' cs x)(hm:Eg ev w r n i)(h:Sl e w (ZZ F B Z n0 L) A c xs):Sl e w (ZZ F B Z n0 (some r::L)) A c xs:=by
 obtain⟨k,m,Bw,p,d⟩:=h;refine⟨k,m,Bw,p.free j,?_⟩;rcases d with d|⟨b,o,q,s,t,f⟩
 ·exact .inl d
 ·cases g:Bw.flatten with
  |nil=>exact .inl rfl
  |cons u l=>
   rw[g] at f;refine .inr ⟨b,o,q,s.imp id fun⟨v,y⟩=>⟨v,fun a=>?_⟩,t,f⟩;rcases List.mem_cons.1 a with e|a
   ·cases e;obtain⟨es,aA,z,_⟩:=hm;have:=f 0 u rfl;unfold World.cell? at this;simp[z] at this
   ·exact y a
end Go.Proofs.YtamobliaoknclaaGreat
end
section
namespace Go.Proofs.YtamobliaoknclaaGreat
open Go.RowKit
theorem R4{w:World}{base t g c:Nat}{cur:Array Value}{l:List Value}(a:base≤g)(d:Bk w g t cur)(e:l.length≤c)(f:c≤maxLen)(i:cur.size=c)(h:∀j,j<l.length→cur[j]?=l[j]?):Ey w base t 1 (some ⟨g,0,none⟩) l.length c l:=by
 refine⟨by simp,.inr ⟨g,c,cur,rfl,a,d,e,f,by simp[i],?_⟩⟩;rw[Nat.mul_one];apply List.ext_getElem?;intro j;rw[List.getElem?_take];split
 ·rename_i b
  rw[←h j b];simp
 ·rename_i b
  rw[List.getElem?_eq_none (by omega)]
theorem WZ{b:Bool}(h:b=true→False):b=false:=by cases b<;>simp_all
theorem Jn{b:Bool}(h:b=false)(k:b=true):False:=by rw[h] at k;cases k
section
variable{F F':Nat→Prop}{B:List (Option Nat)}{w0 w w' Bc:World}{Z:Nat→Prop}{L M:List (Option Nat)}
theorem Hp.W0(h:Hp F B w0 L w)(i:Nat){x:Option Nat}(hi:L[i]?=some x):Hp F B w0 (L.set i none) w:=
 h.DQ (D:=FN) (Bp.refl _ _) (fun _ h=>h.elim) i hi (fun k e=>by cases e)
theorem Hp.GQ(h:Hp F B w0 L w)(i:Nat){x:Option Nat}(hi:L[i]?=some x):Mv w (ZZ F B Z w0.heap.size L) w (ZZ F B Z w0.heap.size (L.set i none)):=
 h.Cg (D:=FN) (Bp.refl _ _) (fun _ h=>h.elim) i hi (fun k e=>by cases e)
theorem Hp.Zh{α:Type}{e:CH α}{t:TypeId}{A:Option Addr}{c:Nat}{xs:List α}(h:Hp F B w0 L w)(i:Nat)(hi:L[i]?=some (ob A))(d:Be e t w0.heap.size w (ZZ F B Z w0.heap.size L) A c xs):Sl e w (ZZ F B Z w0.heap.size (L.set i none)) A c xs:=
 (d.up (h.GQ i hi)).sl fun k f h0=>.inr ⟨h0,fun hm=>by
  obtain⟨j,b⟩:=List.mem_iff_getElem?.1 hm
  by_cases a:j=i
  ·subst a;rw[List.getElem?_set_self (List.getElem?_eq_some_iff.1 hi).1] at b;cases b
  ·rw[List.getElem?_set_ne (fun e=>a e.symm)] at b;exact h.ap i j k (fun e=>a e.symm) (by rw[hi,f]) b⟩
theorem TX(h:Ext w w'){r:Option Nat}(g:w'.grownBy Bc r)(b:∀k,r=some k→w.heap.size≤k):Ext w Bc:=
 ⟨g.os.trans h.os,g.tape.trans h.tape,g.output.trans h.output,Nat.le_trans h.size g.size,fun k a _=>(g.block k (Nat.lt_of_lt_of_le a h.size) (fun e=>by have:=b k e.symm;omega)).trans (h.block k a (by simp))⟩
theorem Ko{D:Nat→Prop}(h:Bp D w w'){r:Option Nat}(g:w'.grownBy Bc r)(d:∀k,r=some k→D k∨w.heap.size≤k):Bp D w Bc:=
 ⟨g.os.trans h.os,g.tape.trans h.tape,g.output.trans h.output,Nat.le_trans h.size g.size,fun k a b=>(g.block k (Nat.lt_of_lt_of_le a h.size) (fun e=>by
  rcases d k e.symm with c|c
  ·exact b c
  ·omega)).trans (h.block k a b)⟩
theorem KY{x y:Option Nat}{n:Nat}(a:∀k,x=some k→n≤k)(b:n≤w'.heap.size)(c:∀k,y=some k→(x=some k∨w'.heap.size≤k)∧k<Bc.heap.size):∀k,y=some k→n≤k:=fun k d=>
 (c k d).1.elim (a k) (fun h=>Nat.le_trans b h)
theorem TY{x y a:Option Nat}{n:Nat}(b:∀k,x=some k→a=some k∨n≤k)(c:n≤w'.heap.size)(d:∀k,y=some k→(x=some k∨w'.heap.size≤k)∧k<Bc.heap.size):∀k,y=some k→a=some k∨n≤k:=fun k e=>
 (d k e).1.elim (b k) (fun h=>.inr (Nat.le_trans c h))
theorem NU{b:Nat}{t:TypeId}{cs:Array Value}(nb:KK w' Bc b t cs):∀k,ob (some ⟨b,0,none⟩)=some k→((none:Option Nat)=some k∨w'.heap.size≤k)∧k<Bc.heap.size:=fun k e=>by
 cases e;exact⟨.inr (Nat.le_of_eq nb.EZ.symm),nb.bk.lt⟩
end
theorem qz{X:Ctx}{N:Nat}{a:Act}{l:Env}(st:St X N a l):(Cl a l).tmps.size=N:=(JB _ _).trans st.sz
theorem qd{X:Ctx}{N:Nat}{a:Act}{l:Env}(st:St X N a l):(Cl a l).defers=X.ds:=(Ev _ _).trans st.df
theorem sp{X:Ctx}{N:Nat}{a:Act}{l:Env}(st:St X N a l)(k:Nat){v:Value}(h:lk (sl a k) l k=v):sl (Cl a l) k=v:=(J6 st k).trans h
theorem Hp.nb{F:Nat→Prop}{B L:List (Option Nat)}{w0 w w':World}{b:Nat}{t:TypeId}{cs:Array Value}(h:Hp F B w0 L w)(n:KK w w' b t cs):Hp F B w0 (some b::L) w':=h.new n.gr (Nat.le_of_eq n.EZ.symm) (Nat.lt_of_lt_of_eq (Nat.lt_succ_self _) n.sz.symm)
theorem Hp.BZ{F:Nat→Prop}{B L:List (Option Nat)}{w0 w w':World}{b:Nat}{t:TypeId}{cs:Array Value}(h:Hp F B w0 L w)(n:KK w w' b t cs):w0.heap.size≤b:=by rw[n.EZ];exact h.sz
theorem Ai{F:Nat→Prop}{B L:List (Option Nat)}{Z:Nat→Prop}{w w':World}{n0 b:Nat}{t:TypeId}{cs:Array Value}(n:KK w w' b t cs):Mv w (ZZ F B Z n0 L) w' (ZZ F B Z n0 (some b::L)):=HE n.gr (Nat.le_of_eq n.EZ.symm)
theorem X2{b c:Sort _}{p:b→c→Prop}{C:Prop}(h:∃a x1,p a x1)(k:∀a x1,p a x1→C):C:=h.elim fun a h=>h.elim fun x1 h=>k a x1 h
theorem X3{b c d:Sort _}{p:b→c→d→Prop}{C:Prop}(h:∃a x1 x2,p a x1 x2)(k:∀a x1 x2,p a x1 x2→C):C:=h.elim fun a h=>h.elim fun x1 h=>h.elim fun x2 h=>k a x1 x2 h
theorem X4{c d e f:Sort _}{p:c→d→e→f→Prop}{C:Prop}(h:∃a x1 x2 b,p a x1 x2 b)(k:∀a x1 x2 b,p a x1 x2 b→C):C:=h.elim fun a h=>h.elim fun x1 h=>h.elim fun x2 h=>h.elim fun b h=>k a x1 x2 b h
theorem Y4{a0 a1 a2 a3 r C:Prop}(h:a0∧a1∧a2∧a3∧r)(k:a0→a1→a2→a3→r→C):C:=h.elim fun a h=>h.elim fun x1 h=>h.elim fun x2 h=>h.elim fun b h=>k a x1 x2 b h
theorem Y8{a0 a1 a2 a3 a4 a5 a6 a7 r C:Prop}(h:a0∧a1∧a2∧a3∧a4∧a5∧a6∧a7∧r)(k:a0→a1→a2→a3→a4→a5→a6→a7→r→C):C:=h.elim fun a h=>h.elim fun x1 h=>h.elim fun x2 h=>h.elim fun b h=>h.elim fun c h=>h.elim fun d h=>h.elim fun e h=>h.elim fun f h=>k a x1 x2 b c d e f h
theorem NV{w w':World}(g:Bp (FU (FU FN []) [none]) w w'):Ext w w':=Bp.ext (g.mono fun k h=>by
 rcases h with h|h
 ·exact h
 ·simp at h)
theorem W1{α β:Type}{o:Option α}{A:Option β}{f:α→Option β}{r:β}(h:o=none)(a:Option.elim o A f=some r):A=some r:=by rw[h] at a;exact a
theorem W2{α β:Type}{o:Option α}{A:Option β}{f:α→Option β}{r:β}{x:α}(h:o=some x)(a:Option.elim o A f=some r):f x=some r:=by rw[h] at a;exact a
theorem Hp.R5{F:Nat→Prop}{B L:List (Option Nat)}{Z:Nat→Prop}{w0 w w':World}{b r:Nat}(h:Hp F B w0 L w)(c:HN w.heap.size w' [b,r]):Mv w' (ZZ FN [] (ZZ F B Z w0.heap.size L) w.heap.size [some b,some r]) w' (ZZ F B Z w0.heap.size (some b::some r::L)):=
 h.call (Nat.le_refl _) (fun k d=>.inr (by
  have e:k=b∨k=r:=by simpa using d
  rcases e with e|e<;>rw[e]
  ·exact(c.mem _ (by simp)).1
  ·exact(c.mem _ (by simp)).1)) (fun x a=>by
  simp only[List.mem_cons] at a;rcases a with rfl|rfl|a
  ·right;simp
  ·right;simp
  ·left;exact a)
theorem Hp.W3{F:Nat→Prop}{B L:List (Option Nat)}{Z:Nat→Prop}{w0 w w':World}{b r n:Nat}(h:Hp F B w0 L w)(d:w.heap.size≤n)(c:HN n w' [b,r]):Mv w' (ZZ FN [] (ZZ F B Z w0.heap.size L) n [some b,some r]) w' (ZZ F B Z w0.heap.size (some b::some r::L)):=
 h.call d (fun k f=>.inr (by
  have e:k=b∨k=r:=by simpa using f
  rcases e with e|e<;>rw[e]
  ·exact(c.mem _ (by simp)).1
  ·exact(c.mem _ (by simp)).1)) (fun x a=>by
  simp only[List.mem_cons] at a;rcases a with rfl|rfl|a
  ·right;simp
  ·right;simp
  ·left;exact a)
theorem R6{w:World}{Z:Nat→Prop}{b:Nat}{t:TypeId}{cs:Array Value}{l:List Value}(h:Bk w b t cs)(a:Z b)(c:l=cs.toList):Rz w Z (some ⟨b,0,none⟩) l:=
 .inr ⟨b,0,rfl,a,h.lt,fun j u hu=>by rw[Nat.zero_add,h.cell];subst c;simpa using hu⟩
theorem Ey.cut{w:World}{base e sz n c k:Nat}{A:Option Addr}{xs:List Value}(h:Ey w base e sz A n c xs)(f:k≤n):Ey w base e sz A k c (xs.take (k*sz)):=by
 have o:=h.1;have hle:k*sz≤n*sz:=Nat.mul_le_mul_right _ f;refine⟨by rw[List.length_take];omega,?_⟩;rcases h.2 with⟨a,h0⟩|⟨g,cap,cur,a,i,j,m,b,d,l⟩
 ·have:k=0:=by omega
  subst this;subst h0;cases a;exact .inl ⟨rfl,rfl⟩
 ·cases a;refine .inr ⟨g,c,cur,rfl,i,j,by omega,b,d,?_⟩;rw[←l,List.take_take,Nat.min_eq_left hle]
section
variable{α:Type}{e:CH α}{t:TypeId}{n0:Nat}{w w':World}{Z Z':Nat→Prop}{A:Option Addr}{c:Nat}{xs:List α}
theorem R2.UE:∀(k:Nat) {Bw:List (List Value)} {xs:List α},R2 e w Z Bw xs→k≤xs.length→Bw.flatten.take (k*e.sz)=(Bw.take k).flatten
 |0,_,_,_,_=>by simp
 |k+1,[],[],_,a=>by simp at a
 |k+1,[],_::_,h,_=>by cases h
 |k+1,_::_,[],h,_=>by cases h
 |k+1,cs::Bw,x::xs,h,a=>by
  have b:cs.length=e.sz:=e.len h.1;have ih:=R2.UE k h.2 (by simpa using a);rw[List.flatten_cons,List.take_succ_cons,List.flatten_cons,←ih,Nat.succ_mul,Nat.add_comm,List.take_append,b,List.take_of_length_le (by omega)]
  congr 2
  omega
theorem Be.cut(h:Be e t n0 w Z A c xs){k:Nat}(a:k≤xs.length):Be e t n0 w Z A c (xs.take k):=by
 obtain⟨Bw,b,d⟩:=h;refine⟨Bw.take k,b.take k,?_⟩;have f:=d.cut a;rw[R2.UE k b a] at f
 rwa[List.length_take,Nat.min_eq_left a]
end
theorem Be.BG{α:Type}{e:CH α}{t:TypeId}{n0:Nat}{w:World}{Z:Nat→Prop}{A:Option Addr}{c:Nat}{xs:List α}{k:Int}(h:Be e t n0 w Z A c xs)(a:0≤(0:Int)∧(0:Int)≤k∧k≤(xs.length:Int)):Be e t n0 w Z A c (BG xs 0 k):=by
 unfold Go.Proofs.YtamobliaoknclaaGreat.BG;exact h.cut (by omega)
theorem eL{P:Nat→Prop}:∀k,FN k→P k:=fun _ h=>h.elim
theorem oi{α:Type}{a b:α}(h:some a=some b):a=b:=Option.some.inj h
abbrev zf(Z:Nat→Prop)(w:World)(L:List (Option Nat)):Nat→Prop:=ZZ FN [] Z w.heap.size L
abbrev zb(B:List (Option Nat))(Z:Nat→Prop)(w:World)(L:List (Option Nat)):Nat→Prop:=ZZ FN B Z w.heap.size L
theorem mt{w w1 w2:World}{Z a b:Nat→Prop}(h:Mv w Z w1 a)(g:Mv w1 a w2 b):Mv w Z w2 b:=h.trans g
theorem Gr{a:Type}{b:Type}{w w':World}{Z Z':Nat→Prop}{c:CH a}{d:Option Addr}{e:Nat}{f:List a}{g:CH b}{h:Option Addr}{i:Nat}{x1:List b}(h0:Sl c w Z d e f)(j:Sl g w Z h i x1)(m:Mv w Z w' Z'):Sl c w' Z' d e f∧Sl g w' Z' h i x1:=⟨h0.mv m,j.mv m⟩
theorem Mi{a:Type}{b:Type}{c:Type}{w w':World}{Z Z':Nat→Prop}{d:CH a}{e:Option Addr}{f:Nat}{g:List a}{h:CH b}{i:Option Addr}{j:Nat}{x1:List b}{k:CH c}{l:Option Addr}{n:Nat}{x2:List c}(h0:Sl d w Z e f g)(o:Sl h w Z i j x1)(p:Sl k w Z l n x2)(m:Mv w Z w' Z'):Sl d w' Z' e f g∧Sl h w' Z' i j x1∧Sl k w' Z' l n x2:=⟨h0.mv m,o.mv m,p.mv m⟩
theorem W4{a:Type}{b:Type}{c:Type}{d:Type}{w w':World}{Z Z':Nat→Prop}{e:CH a}{f:Option Addr}{g:Nat}{h:List a}{i:CH b}{j:Option Addr}{k:Nat}{x1:List b}{l:CH c}{n:Option Addr}{o:Nat}{x2:List c}{p:CH d}{q:Option Addr}{r:Nat}{s:List d}(h0:Sl e w Z f g h)(t:Sl i w Z j k x1)(u:Sl l w Z n o x2)(v:Sl p w Z q r s)(m:Mv w Z w' Z'):Sl e w' Z' f g h∧Sl i w' Z' j k x1∧Sl l w' Z' n o x2∧Sl p w' Z' q r s:=⟨h0.mv m,t.mv m,u.mv m,v.mv m⟩
theorem C2{a:Type}{b:Type}{c:Type}{d:Type}{e:Type}{w w':World}{Z Z':Nat→Prop}{f:CH a}{g:Option Addr}{h:Nat}{i:List a}{j:CH b}{k:Option Addr}{l:Nat}{x1:List b}{n:CH c}{o:Option Addr}{p:Nat}{x2:List c}{q:CH d}{r:Option Addr}{s:Nat}{t:List d}{u:CH e}{v:Option Addr}{x:Nat}{y:List e}(h0:Sl f w Z g h i)(z:Sl j w Z k l x1)(aA:Sl n w Z o p x2)(aB:Sl q w Z r s t)(aC:Sl u w Z v x y)(m:Mv w Z w' Z'):Sl f w' Z' g h i∧Sl j w' Z' k l x1∧Sl n w' Z' o p x2∧Sl q w' Z' r s t∧Sl u w' Z' v x y:=⟨h0.mv m,z.mv m,aA.mv m,aB.mv m,aC.mv m⟩
theorem JI{a:Type}{b:Type}{c:Type}{d:Type}{e:Type}{f:Type}{w w':World}{Z Z':Nat→Prop}{g:CH a}{h:Option Addr}{i:Nat}{j:List a}{k:CH b}{l:Option Addr}{n:Nat}{x1:List b}{o:CH c}{p:Option Addr}{q:Nat}{x2:List c}{r:CH d}{s:Option Addr}{t:Nat}{u:List d}{v:CH e}{x:Option Addr}{y:Nat}{z:List e}{aA:CH f}{aB:Option Addr}{aC:Nat}{aD:List f}(h0:Sl g w Z h i j)(aE:Sl k w Z l n x1)(aF:Sl o w Z p q x2)(aG:Sl r w Z s t u)(aH:Sl v w Z x y z)(aI:Sl aA w Z aB aC aD)(m:Mv w Z w' Z'):Sl g w' Z' h i j∧Sl k w' Z' l n x1∧Sl o w' Z' p q x2∧Sl r w' Z' s t u∧Sl v w' Z' x y z∧Sl aA w' Z' aB aC aD:=⟨h0.mv m,aE.mv m,aF.mv m,aG.mv m,aH.mv m,aI.mv m⟩
theorem W5{a:Type}{b:Type}{c:Type}{d:Type}{e:Type}{f:Type}{g:Type}{w w':World}{Z Z':Nat→Prop}{h:CH a}{i:Option Addr}{j:Nat}{k:List a}{l:CH b}{n:Option Addr}{o:Nat}{x1:List b}{p:CH c}{q:Option Addr}{r:Nat}{x2:List c}{s:CH d}{t:Option Addr}{u:Nat}{v:List d}{x:CH e}{y:Option Addr}{z:Nat}{aA:List e}{aB:CH f}{aC:Option Addr}{aD:Nat}{aE:List f}{aF:CH g}{aG:Option Addr}{aH:Nat}{aI:List g}(h0:Sl h w Z i j k)(aJ:Sl l w Z n o x1)(aK:Sl p w Z q r x2)(aL:Sl s w Z t u v)(aM:Sl x w Z y z aA)(aN:Sl aB w Z aC aD aE)(aO:Sl aF w Z aG aH aI)(m:Mv w Z w' Z'):Sl h w' Z' i j k∧Sl l w' Z' n o x1∧Sl p w' Z' q r x2∧Sl s w' Z' t u v∧Sl x w' Z' y z aA∧Sl aB w' Z' aC aD aE∧Sl aF w' Z' aG aH aI:=⟨h0.mv m,aJ.mv m,aK.mv m,aL.mv m,aM.mv m,aN.mv m,aO.mv m⟩
theorem SI{a:Type}{b:Type}{c:Type}{d:Type}{e:Type}{f:Type}{g:Type}{h:Type}{w w':World}{Z Z':Nat→Prop}{i:CH a}{j:Option Addr}{k:Nat}{l:List a}{n:CH b}{o:Option Addr}{p:Nat}{x1:List b}{q:CH c}{r:Option Addr}{s:Nat}{x2:List c}{t:CH d}{u:Option Addr}{v:Nat}{x:List d}{y:CH e}{z:Option Addr}{aA:Nat}{aB:List e}{aC:CH f}{aD:Option Addr}{aE:Nat}{aF:List f}{aG:CH g}{aH:Option Addr}{aI:Nat}{aJ:List g}{aK:CH h}{aL:Option Addr}{aM:Nat}{aN:List h}(h0:Sl i w Z j k l)(aO:Sl n w Z o p x1)(aP:Sl q w Z r s x2)(aQ:Sl t w Z u v x)(aR:Sl y w Z z aA aB)(aS:Sl aC w Z aD aE aF)(aT:Sl aG w Z aH aI aJ)(aU:Sl aK w Z aL aM aN)(m:Mv w Z w' Z'):Sl i w' Z' j k l∧Sl n w' Z' o p x1∧Sl q w' Z' r s x2∧Sl t w' Z' u v x∧Sl y w' Z' z aA aB∧Sl aC w' Z' aD aE aF∧Sl aG w' Z' aH aI aJ∧Sl aK w' Z' aL aM aN:=⟨h0.mv m,aO.mv m,aP.mv m,aQ.mv m,aR.mv m,aS.mv m,aT.mv m,aU.mv m⟩
theorem eR{X:Ctx}{N:Nat}{a:Act}{l:Env}{x:Operand}{v:Value}(h:St X N a l)(b:ev a l x=v:=by exact rfl):(Cl a l).eval x=v:=ee h b
theorem sA(i:Nat){a:Act}{args:Array Value}{n:Nat}{v:Value}(h:a.tmps=args++Array.replicate n undef)(hi:args[i]?=some v:=by exact rfl):sl a i=v:=FG h hi
theorem Hp.nq{F:Nat→Prop}{B L:List (Option Nat)}{w0 w:World}(h:Hp F B w0 L w)(i j:Nat){x:Option Nat}{b:Nat}(a:(i==j)=false:=by exact rfl)(hi:L[i]?=some (some b):=by exact rfl)(c:L[j]?=some x:=by exact rfl):some b≠x:=h.ne i j a hi c
theorem Jz.dq{L:List Oper}{a:Act}{l:Env}{D:Nat→Bool}{V:Nat→Value}{k:Nat}{o:Oper}{a':Act}(K:Jz L a l D V k o a')(j d:Nat)(b:E1 o j=true:=by exact rfl)(c:Ci L j=some d:=by exact rfl):sl a' d=V j:=K.BR j d b c
theorem Hs.dq{L:List Oper}{a:Act}{l:Env}{T:Nat→Act→World→Prop}{Φ:Nat→Value→World→Prop}{sp:List Nat}{k:Nat}{o:Oper}{a':Act}{w':World}{ph:Nat}(K:Hs L a l T Φ sp k o a' w' ph)(j d:Nat)(b:E1 o j=true:=by exact rfl)(c:Ci L j=some d:=by exact rfl):Φ j (sl a' d) w':=K.BR j d b c
section
variable{P:Program}{X:Ctx}{N:Nat}{ops:Array Oper}{Q:Exit→Act→World→Prop}{rest:List Oper}{a:Act}{l:Env}{w:World}{op:Op}{ty:TypeId}{pos:String}{B6:Array Edge}{d:Nat}
theorem wD{v:Value}{w':World}(b:St X N a l→B7 P ⟨some d,op,ty,pos,B6,none⟩ (Cl a l) w (fun u Bc=>u=v∧Bc=w'))(c:WL P X N ops Q rest a ((d,v)::l) w')(e:Nat.blt d N=true:=by exact rfl):WL P X N ops Q (⟨some d,op,ty,pos,B6,none⟩::rest) a l w:=wd e b c
theorem wM{x:Operand}{v:Value}(b:ev a l x=v)(c:WL P X N ops Q rest a ((d,v)::l) w)(e:Nat.blt d N=true:=by exact rfl):WL P X N ops Q (⟨some d,.move x,ty,pos,B6,none⟩::rest) a l w:=wm e b c
theorem wA{x:Operand}{v:Value}(b:ev a l x=v)(c:WL P X N ops Q rest a ((d,v)::l) w)(e:Nat.blt d N=true:=by exact rfl):WL P X N ops Q (⟨some d,.assign x,ty,pos,B6,none⟩::rest) a l w:=wa e b c
theorem wE{R:Value→World→Prop}(b:St X N a l→B7 P ⟨some d,op,ty,pos,B6,none⟩ (Cl a l) w R)(c:∀v w',R v w'→WL P X N ops Q rest a ((d,v)::l) w')(e:Nat.blt d N=true:=by exact rfl):WL P X N ops Q (⟨some d,op,ty,pos,B6,none⟩::rest) a l w:=we e b c
end
section
variable{P:Program}{L:List Oper}{a:Act}{l:Env}{T:Nat→Act→World→Prop}{Φ:Nat→Value→World→Prop}{sp:List Nat}{S:Nat→World→World→Prop}{k:Nat}
theorem oD{op:Op}{ty:TypeId}{pos:String}{B6:Array Edge}{dst:Option Nat}{c:Value}(h:∀{a' w' ph},Hs L a l T Φ sp k ⟨dst,op,ty,pos,B6,none⟩ a' w' ph→B7 P ⟨dst,op,ty,pos,B6,none⟩ a' w' (fun u Bc=>u=c∧Bc=w'))(b:sp.contains k=false:=by exact rfl)(d:∀w,Φ k c w:=by exact fun _=>rfl):GM P L a l S T Φ sp k ⟨dst,op,ty,pos,B6,none⟩:=od b d h
theorem oS{j d:Nat}{o:Oper}{b c:Bool}(e:∀a' w' ph,Hs L a l T Φ sp k o a' w' ph→sl a' d=.bool c)(f:o.guard=some (j,b):=by exact rfl)(g:Ci L j=some d:=by exact rfl)(h:sp.contains k=false:=by exact rfl)(i:c≠b:=by decide)(m:∀w,Φ k undef w:=by exact fun _=>rfl):GM P L a l S T Φ sp k o:=EF f g h i e m
end
theorem Ij{F:Nat→Prop}{L:List (Option Nat)}{w:World}{Z:Nat→Prop}(a:BB F L w)(c:∀b,Z b→¬F b∧some b∉L):∃B,B=L∧Hp F B w L w∧(∀b,Z b→¬F b∧some b∉B)∧∀w',Bp (FU F B) w w'→Bp (FU F L) w w':=⟨L,rfl,Hp.start a,c,fun _ h=>h⟩
theorem JT{F:Nat→Prop}{L:List (Option Nat)}{w:World}{Z Za:Nat→Prop}(c:BB F L w)(d:∀b,Z b→¬F b∧some b∉L)(a:∀b,Za b→¬F b∧some b∉L):∃B,B=L∧Hp F B w L w∧(∀b,Z b→¬F b∧some b∉B)∧(∀b,Za b→¬F b∧some b∉B)∧∀w',Bp (FU F B) w w'→Bp (FU F L) w w':=⟨L,rfl,Hp.start c,d,a,fun _ h=>h⟩
section
variable{P:Program}{X:Ctx}{N:Nat}{ops:Array Oper}{Q:Exit→Act→World→Prop}{rest:List Oper}{a:Act}{l:Env}{w:World}{op:Op}{ty:TypeId}{pos:String}{B6:Array Edge}{d j dj:Nat}{b c x:Bool}
theorem wF(e:x=c)(f:WL P X N ops Q rest a ((d,undef)::l) w)(g:(ops[j]?).bind (·.dst)=some dj:=by exact rfl)(h:ev a l (.tmp dj)=.bool x:=by exact rfl)(i:c≠b:=by decide)(k:Nat.blt d N=true:=by exact rfl):WL P X N ops Q (⟨some d,op,ty,pos,B6,some (j,b)⟩::rest) a l w:=Bm rfl g (Aq h e) i rfl (by simpa[Nat.blt_eq] using k) f
theorem wH(e:WL P X N ops Q rest a ((d,undef)::l) w)(f:(ops[j]?).bind (·.dst)=some dj:=by exact rfl)(g:ev a l (.tmp dj)=.bool c:=by exact rfl)(h:c≠b:=by decide)(i:Nat.blt d N=true:=by exact rfl):WL P X N ops Q (⟨some d,op,ty,pos,B6,some (j,b)⟩::rest) a l w:=Bm rfl f g h rfl (by simpa[Nat.blt_eq] using i) e
theorem wX{R:Value→World→Prop}(c:x=b)(e:St X N a l→B7 P ⟨some d,op,ty,pos,B6,some (j,b)⟩ (Cl a l) w R)(f:∀v w',R v w'→WL P X N ops Q rest a ((d,v)::l) w')(g:(ops[j]?).bind (·.dst)=some dj:=by exact rfl)(h:ev a l (.tmp dj)=.bool x:=by exact rfl)(i:Nat.blt d N=true:=by exact rfl):WL P X N ops Q (⟨some d,op,ty,pos,B6,some (j,b)⟩::rest) a l w:=Gc rfl g (Aq h c) rfl (by simpa[Nat.blt_eq] using i) e f
theorem wG{v:Value}{w':World}(c:x=b)(e:St X N a l→B7 P ⟨some d,op,ty,pos,B6,some (j,b)⟩ (Cl a l) w (fun u Bc=>u=v∧Bc=w'))(f:WL P X N ops Q rest a ((d,v)::l) w')(g:(ops[j]?).bind (·.dst)=some dj:=by exact rfl)(h:ev a l (.tmp dj)=.bool x:=by exact rfl)(i:Nat.blt d N=true:=by exact rfl):WL P X N ops Q (⟨some d,op,ty,pos,B6,some (j,b)⟩::rest) a l w:=BK rfl g (Aq h c) rfl (by simpa[Nat.blt_eq] using i) e f
theorem wN{y:Operand}{v:Value}(c:x=b)(e:ev a l y=v)(f:WL P X N ops Q rest a ((d,v)::l) w)(g:(ops[j]?).bind (·.dst)=some dj:=by exact rfl)(h:ev a l (.tmp dj)=.bool x:=by exact rfl)(i:Nat.blt d N=true:=by exact rfl):WL P X N ops Q (⟨some d,.move y,ty,pos,B6,some (j,b)⟩::rest) a l w:=wG c (fun st=>Ay (ee st e)) f g h i
theorem wn{y:Code}(h:CC P X N y Q a l w):WL P X N ops (Exit.then (CW P X.ro y Q) Q) [] a l w:=AJ (AL h)
theorem cr{id:Nat}{L:List Oper}{y:Code}(h:WL P X N L.toArray (Exit.then (CW P X.ro y Q) Q) L a l w):CC P X N (.seq (.region id L.toArray false) y) Q a l w:=Ah (Aj h)
theorem wr{id:Nat}{L:List Oper}{y:Code}(h:WL P X N L.toArray (Exit.then (CW P X.ro y Q) Q) L a l w):WL P X N ops (Exit.then (CW P X.ro (.seq (.region id L.toArray false) y) Q) Q) [] a l w:=wn (cr h)
theorem cn{y:Code}(h:CC P X N y Q a l w):CC P X N .skip (Exit.then (CW P X.ro y Q) Q) a l w:=B5 (AL h)
theorem Ee{id:Nat}{K:Act→World→Prop}(h:LV X N Q .ret a l w):LV X N (Exit.inBlock id (Exit.then K Q)) .ret a l w:=CB (AZ h)
theorem Ef{id:Nat}{y:Code}(h:CC P X N y Q a l w):LV X N (Exit.inBlock id (Exit.then (CW P X.ro y Q) Q)) .normal a l w:=Da (AL h)
theorem FF{id:Nat}{K b:Act→World→Prop}(h:LV X N Q (.exit id) a l w):CC P X N (.exit id) (Exit.then K (Exit.then b Q)) a l w:=MD (Gv (Gv h))
abbrev Fo(X:Ctx)(N:Nat)(a:Act):Prop:=a.tmps.size=N∧a.defers=X.ds
theorem qo(st:St X N a l):Fo X N (Cl a l):=⟨qz st,qd st⟩
theorem ro{c:Code}(b:Fo X N a)(h:CC P X N c Q a [] w):CW P X.ro c Q a w:=Lg b.1 b.2 h
theorem lf{e:Exit}(b:Fo X N a)(h:LV X N Q e a [] w):Q e a w:=Po b.1 b.2 h
end
theorem rq{P:Program}{w:World}{f:FuncId}{fn:Func}{c:Code}{args:Array Value}{N:Nat}{R:Value→World→Prop}(b:P.funcs[f]?=some fn)
  (h:∀a:Act,a.tmps=args++Array.replicate (N-args.size) undef→a.defers=[]→CC P X0 N c (bodyPost P fn (fun e w'=>∃v,e=.returned v∧R v w')) a [] w)(d:fn.body=some c:=by exact rfl)(g:fn.ntmps=N:=by exact rfl)(i:args.size≤N:=by simp):BW P f args w R:=KA b d g i h
section
variable{P:Program}{L:List Oper}{a:Act}{l:Env}{T:Nat→Act→World→Prop}{Φ:Nat→Value→World→Prop}{sp:List Nat}{S:Nat→World→World→Prop}{k j d:Nat}{o:Oper}{b c x:Bool}
theorem oV{v:Value}(g:o.guard=some (j,b))(c:Ci L j=some d)(e:E1 o j=true)(f:∀u w,Φ j u w→u=v):∀a' w' ph,Hs L a l T Φ sp k o a' w' ph→sl a' d=v:=fun _ _ _ K=>f _ _ (K.BR j d e c)
theorem oT(g:x=c)(e:o.guard=some (j,b):=by exact rfl)(f:Ci L j=some d:=by exact rfl)(i:E1 o j=true:=by exact rfl)(m:∀u w,Φ j u w→u=.bool x:=by exact fun _ _ h=>h)(n:sp.contains k=false:=by exact rfl)(p:c≠b:=by decide)(q:∀w,Φ k undef w:=by exact fun _=>rfl):GM P L a l S T Φ sp k o:=EF e f n p (by rw[←g];exact oV e f i m) q
theorem oU(c:o.guard=some (j,b):=by exact rfl)(e:Ci L j=some d:=by exact rfl)(f:E1 o j=true:=by exact rfl)(g:∀u w,Φ j u w→u=undef:=by exact fun _ _ h=>h)(i:sp.contains k=false:=by exact rfl)(m:∀w,Φ k undef w:=by exact fun _=>rfl):GM P L a l S T Φ sp k o:=Fz c e i (oV c e f g) m
theorem oX(f:x=b)(h:∀{a' w' ph},Hs L a l T Φ sp k o a' w' ph→B7 P o a' w' (fun v Bc=>Φ k v Bc∧Ext w' Bc))(c:o.guard=some (j,b):=by exact rfl)(e:Ci L j=some d:=by exact rfl)(g:E1 o j=true:=by exact rfl)(i:∀u w,Φ j u w→u=.bool x:=by exact fun _ _ h=>h)(m:sp.contains k=false:=by exact rfl):GM P L a l S T Φ sp k o:=J7 c e m (by rw[←f];exact oV c e g i) fun _ _ _ K=>h K
theorem oG{v:Value}(f:x=b)(h:∀{a' w' ph},Hs L a l T Φ sp k o a' w' ph→B7 P o a' w' (fun u Bc=>u=v∧Bc=w'))(c:o.guard=some (j,b):=by exact rfl)(e:Ci L j=some d:=by exact rfl)(g:E1 o j=true:=by exact rfl)(i:∀u w,Φ j u w→u=.bool x:=by exact fun _ _ h=>h)(m:sp.contains k=false:=by exact rfl)(n:∀w,Φ k v w:=by exact fun _=>rfl):GM P L a l S T Φ sp k o:=Db c e m n (by rw[←f];exact oV c e g i) fun _ _ _ K=>h K
theorem oE(h:∀{a' w' ph},Hs L a l T Φ sp k o a' w' ph→B7 P o a' w' (fun v Bc=>Φ k v Bc∧Ext w' Bc))(b:o.guard=none:=by exact rfl)(c:sp.contains k=false:=by exact rfl):GM P L a l S T Φ sp k o:=I9 b c fun _ _ _ K=>h K
theorem Hs.kO{a':Act}{w':World}{ph:Nat}{v:Value}(K:Hs L a l T Φ sp k o a' w' ph)(s:Nat)(h:isDst L s=false:=by exact rfl)(b:lk (sl a s) l s=v:=by exact rfl):a'.eval (.tmp s)=v:=es ((K.out s h).trans b)
theorem Jz.kO{D:Nat→Bool}{V:Nat→Value}{a':Act}{v:Value}(K:Jz L a l D V k o a')(s:Nat)(h:isDst L s=false:=by exact rfl)(b:lk (sl a s) l s=v:=by exact rfl):a'.eval (.tmp s)=v:=es ((K.out s h).trans b)
end
abbrev IT(σ:Type):=σ→World→(Nat→Prop)→Option Nat→Prop
theorem gm{α:Type}{L:List α}{x:α}(i:Nat)(h:L[i]?=some x:=by exact rfl):x∈L:=List.mem_of_getElem? h
theorem hw{L:List (Option Nat)}{o o':Option Nat}{n:Nat}{p:Nat→Prop}(a:∀k,o'=some k→(o=some k∨n≤k)∧p k)(i:Nat)(h:L[i]?=some o:=by exact rfl):∀k,o'=some k→some k∈L∨n≤k:=fun k b=>(a k b).1.imp (fun e=>by rw[←e];exact gm i h) id
theorem Hp.mq{F:Nat→Prop}{B b L M:List (Option Nat)}{w0 w:World}{x c:Option Nat}(h:Hp F B w0 L w)(i:Nat)(a:List Nat)(e:HD L a M)(d:B=b)(hi:L[i]?=some x:=by exact rfl)(f:(a.all fun j=> !Nat.beq i j)=true:=by exact rfl)(g:∀y∈b,y=c∨y∈M:=by simp):∀k,x=some k→(c=some k∨w0.heap.size≤k)∧k<w.heap.size:=h.Ii i hi a f e (by rw[d];exact g)
end Go.Proofs.YtamobliaoknclaaGreat
end
section
namespace Go.Proofs.YtamobliaoknclaaGreat
open Go.RowKit Go.WideShapes
def Iy {α:Type} (ev:α→Value) (w:World) (r n:Nat) (L:List (List Int×α)):Prop:=
 ∃es clock,w.heap[r]?=some (.map es clock)∧es.toList.map (fun e=>(e.key,e.val))=L.map (fun p=>(Value.int .i64 (p.1.headD 0),ev p.2))∧∀p∈L,p.1.length=n∧n=1
section
variable{α:Type}{ev:α→Value}{D:Nat→Prop}{w w':World}{r n b:Nat}{L:List (List Int×α)}
theorem Iy.lt(h:Iy ev w r n L):r<w.heap.size:=by obtain⟨es,c,h,_⟩:=h;exact lt_of_block h
theorem Iy.of(h:Iy ev w r n L)(e:w'.heap[r]?=w.heap[r]?):Iy ev w' r n L:=by
 obtain⟨es,c,a,b⟩:=h;exact⟨es,c,e.trans a,b⟩
theorem Iy.ext(h:Iy ev w r n L)(g:Ext w w'):Iy ev w' r n L:=h.of (g.block r h.lt (by simp))
theorem Iy.gr{x:Option Nat}(h:Iy ev w r n L)(g:w.grownBy w' x)(a:some r≠x):Iy ev w' r n L:=h.of (g.block r h.lt a)
theorem Iy.Bs(h:Iy ev w r n L)(g:Bp D w w')(a:¬D r):Iy ev w' r n L:=h.of (g.block r h.lt a)
theorem Iy.Fc(h:Iy ev w r n L)(e:w'.heap[r]?=w.heap[r]?):Iy ev w' r n L:=h.of e
end
def KZ(cs:List Value):KV Ext:=⟨fun v w=>∃b o,v=.pointer (some ⟨b,o,none⟩)∧Rz w ZA (some ⟨b,o,none⟩) cs,fun _ _ _ ⟨b,o,h,a⟩ g=>⟨b,o,h,a.mv (Ab g)⟩⟩
theorem TZ{α:Type}{e:CH α}{Z:Nat→Prop}{P:Program}{a:Act}{w:World}{dst:Option Tmp}{ty:TypeId}{pos:String}{B6:Array Edge}{g:Option (Nat×Bool)}{t el k c:Nat}{x y:Operand}{A:Option Addr}{xs:List α}{z:α}{i:Int}{j:IntKind}{cs:List Value}
  (l:P.underlying t=some (.slice el))(m:(P.info? el).map (·.size)=some e.sz)(n:a.eval x=.slice A xs.length c)(q:a.eval y=.int j i)(h:Sl e w Z A c xs)(hi:i=k)(d:xs[k]?=some z)(h0:0<e.sz)(r:∀Cm,e.R w Z Cm z→Cm=cs):
  B7 P ⟨dst,.indexAddr t x y,ty,pos,B6,g⟩ a w (fun u w'=>(KZ cs).p u w'∧Ext w w'):=by
 obtain⟨b,o,Cm,s,v,f⟩:=h.elem h0 d;have aA:=r Cm v;subst aA;exact(B9 l m n s q hi ((List.getElem?_eq_some_iff.1 d).1)).mono fun u w' ⟨hu,hw⟩=>by
  subst hu;subst hw;exact⟨⟨b,_,rfl,f.mv KW⟩,Ext.refl _⟩
def OY(w:World)(D:Nat→Prop)(M:Nat→World→Prop):Nat→World→Prop
 |0,w'=>Ext w w'
 |n+1,w'=>Bp D w w'∧M n w'
section
variable{w w' Bc:World}{D:Nat→Prop}{M:Nat→World→Prop}{ph n:Nat}
theorem Jo(h:OY w D M ph w'):Bp D w w':=by
 cases ph with
 |zero=>exact E3 h
 |succ=>exact h.1
theorem DR(h:OY w D M ph w')(a:ph=0):Ext w w':=by subst a;exact h
theorem SJ(h:OY w D M ph w')(a:ph=n+1):M n w':=by subst a;exact h.2
theorem U6(c:∀n a b,M n a→Ext a b→M n b)(h:OY w D M ph w')(g:Ext w' Bc):OY w D M ph Bc:=by
 cases ph with
 |zero=>exact Ext.trans h g
 |succ=>exact⟨(show Bp D w w' from h.1).trans (E3 g),c _ _ _ h.2 g⟩
theorem PX(h:OY w D M ph w')(a:ph=n)(g:Bp D w' Bc)(b:M n Bc):OY w D M (ph+1) Bc:=by
 subst a;exact⟨(Jo h).trans g,b⟩
end
def IG(n:Int):Option (List Int):=if 0≤n∧n*8≤140737488355328 then some [] else none
def FK(b:Bool):Int:=cond b 1 0
def Nc(k:List Int):Value:=.agg #[.int .i64 (k.getD 0 0),.bool (k.getD 1 0==1)]
theorem KG(n:Int)(b:Bool):Nc [n,FK b]=.agg #[.int .i64 n,.bool b]:=by cases b<;>rfl
def Nd(k:List Int):Prop:=∃n b,k=[n,FK b]
def CU{α:Type}(ev:α→Value)(w:World)(r n:Nat)(L:List (List Int×α)):Prop:=
 ∃es clock,w.heap[r]?=some (.map es clock)∧es.toList.map (fun e=>(e.key,e.val))=L.map (fun p=>(Nc p.1,ev p.2))∧∀p∈L,Nd p.1∧n=2
structure Yx{α:Type}(ev:α→Value)(w w':World)(r n:Nat):Prop where
 EZ:r=w.heap.size
 sz:w'.heap.size=r+1
 mp:CU ev w' r n []
 gr:Ext w w'
structure Yy{α:Type}(ev:α→Value)(w w':World)(r n:Nat)(L:List (List Int×α)):Prop where
 sz:w'.heap.size=w.heap.size
 mp:CU ev w' r n L
 gr:HV r w w'
section
variable{α:Type}{ev:α→Value}{D:Nat→Prop}{w w':World}{r n b:Nat}{L:List (List Int×α)}
theorem CU.lt(h:CU ev w r n L):r<w.heap.size:=by obtain⟨es,c,h,_⟩:=h;exact lt_of_block h
theorem CU.of(h:CU ev w r n L)(e:w'.heap[r]?=w.heap[r]?):CU ev w' r n L:=by
 obtain⟨es,c,a,b⟩:=h;exact⟨es,c,e.trans a,b⟩
theorem CU.ext(h:CU ev w r n L)(g:Ext w w'):CU ev w' r n L:=h.of (g.block r h.lt (by simp))
theorem CU.gr{x:Option Nat}(h:CU ev w r n L)(g:w.grownBy w' x)(a:some r≠x):CU ev w' r n L:=h.of (g.block r h.lt a)
theorem CU.Bs(h:CU ev w r n L)(g:Bp D w w')(a:¬D r):CU ev w' r n L:=h.of (g.block r h.lt a)
theorem CU.Fc(h:CU ev w r n L)(e:w'.heap[r]?=w.heap[r]?):CU ev w' r n L:=h.of e
end
section
variable{α:Type}{ev:α→Value}{z:α}{P:Program}{a:Act}{w:World}{dst:Option Tmp}{ty:TypeId}{pos:String}{B6:Array Edge}{g:Option (Nat×Bool)}{K E T r n:Nat}{L:List (List Int×α)}{k:List Int}
theorem ZR(d:No P K [true,false]){x y:List Int}(f:Nd x)(g:Nd y):(Op.equal K (Nc x) (Nc y)).run P w=.ok (x==y) w:=by
 obtain⟨n1,a,rfl⟩:=f;obtain⟨c,b,rfl⟩:=g;rw[KG,KG];have h:=d w [.inl n1,.inr a] [.inl c,.inr b] rfl rfl;have e:NS [.inl n1,.inr a] [.inl c,.inr b]=([n1,FK a]==[c,FK b]):=by
  cases a<;>cases b<;>simp[NS,FK]
 rw[e] at h;exact h
theorem Nf(z:α)(a:No P K [true,false])(b:Nd k):∀(es:List MapEntry) (L:List (List Int×α)) (i:Nat),es.map (fun e=>(e.key,e.val))=L.map (fun p=>(Nc p.1,ev p.2))→(∀p∈L,Nd p.1∧n=2)→
  (Instr.findAsking K (Nc k) es i).run P w=.ok (match L.findIdx? (fun p=>k==p.1) with|some j=>some (i+j,ev ((L.getD j ([],z)).2))|none=>none) w
 |[],[],i,_,_=>by simp[Instr.findAsking]
 |[],p::L,i,h,_=>by simp at h
 |e::es,[],i,h,_=>by simp at h
 |e::es,p::L,i,h,c=>by
  simp only[List.map_cons,List.cons.injEq,Prod.mk.injEq] at h;obtain⟨⟨d,f⟩,g⟩:=h;have ih:=Nf z a b es L (i+1) g (fun q a=>c q (List.mem_cons_of_mem _ a));have he:=ZR (w:=w) a b (c p (List.mem_cons_self ..)).1;simp only[Instr.findAsking,Sem.run_bind,d,he,Result.andThen_ok,List.findIdx?_cons];cases l:(k==p.1)
  ·simp only[Bool.false_eq_true,if_false,ih];cases List.findIdx? (fun p=>k==p.1) L with
   |none=>rfl
   |some j=>simp[Nat.add_assoc,Nat.add_comm 1 j]
  ·simp[f]
theorem PY(z:α)(f:No P K [true,false])(hw:IF P K)(g:Nd k){es:List MapEntry}(h:es.map (fun e=>(e.key,e.val))=L.map (fun p=>(Nc p.1,ev p.2)))(i:∀p∈L,Nd p.1∧n=2):
  (Instr.findKey K (Nc k) es).run P w=.ok (match L.findIdx? (fun p=>k==p.1) with|some j=>some (j,ev ((L.getD j ([],z)).2))|none=>none) w:=by
 unfold IF at hw;cases hu:P.underlying K with
 |none=>simp[hu] at hw
 |some d=>
  unfold Instr.findKey;simp only[Sem.run_bind,run_underlying hu,Result.andThen_ok];cases es with
  |nil=>
   have:L=[]:=by cases L with|nil=>rfl|cons _ _=>simp at h
   subst this;simp[Instr.findNow]
  |cons e es=>
   have l:Instr.findNow d (Nc k) (e::es) 0=none:=by
    refine M9 ?_ _ _ _ (fun a b=>?_) (by simp)
    ·rw[hu] at hw;cases d<;>simp at hw<;>trivial
    ·have:(a.key,a.val)∈(e::es).map (fun e=>(e.key,e.val)):=List.mem_map.2 ⟨a,b,rfl⟩;rw[h] at this;obtain⟨p,_,c⟩:=List.mem_map.1 this;exact⟨_,by simp only[Prod.mk.injEq] at c;exact c.1.symm⟩
   rw[l];have:=Nf z (P:=P) (w:=w) f g (e::es) L 0 h i;simpa using this
def NW(P:Program)(K:TypeId):Prop:=∀(w:World) (em:Bool) (n:Int) (b:Bool),(Instr.checkKey em 10000 K (.agg #[.int .i64 n,.bool b])).run P w=.ok () w
theorem NW.wf(h:NW P K)(a:Nd k)(em:Bool):(Instr.checkKey em 10000 K (Nc k)).run P w=.ok () w:=by
 obtain⟨n,b,rfl⟩:=a;rw[KG];exact h w em n b
theorem PZ{x y:Operand}{d:Int}{b:Bool}(m:P.underlying T=some (.map K E))(o:(P.info? E).bind (·.zero)=some (ev z))(q:No P K [true,false])(s:NW P K)(hw:IF P K)(t:a.eval x=.map (some r))(v:a.eval y=.agg #[.int .i64 d,.bool b])(hm:CU ev w r n L):
  B7 P ⟨dst,.lookup T x y true,ty,pos,B6,g⟩ a w (fun u w'=>u=.tuple #[ev ((BI L [d,FK b]).getD z),.bool (BI L [d,FK b]).isSome]∧w'=w):=by
 obtain⟨es,clock,aA,he,aB⟩:=hm;obtain⟨i,hi,k⟩:=Option.bind_eq_some_iff.1 o;have aC:Nd [d,FK b]:=⟨d,b,rfl⟩;have aD:=JZ (P:=P) aA (by intro c e f h;cases h);have l:=PY z (P:=P) (w:=w) q hw aC he aB;rw[KG] at l;have aE:(zeroValue E).run P w=.ok (ev z) w:=by simp[zeroValue,typeInfo,program,Sem.run,hi,k]
 refine JW (S:=Instr.lookup T (.map (some r)) (.agg #[.int .i64 d,.bool b]) true) (by simp only[execOp,t,v]) ?_;unfold Instr.lookup;simp only[Sem.run_bind,run_underlying m,Result.andThen_ok,aD,s w es.isEmpty d b,l,OU z,Sem.run_pure];cases List.findIdx? (fun p=>[d,FK b]==p.1) L with
 |none=>simp[aE]
 |some j=>simp
theorem R7{T:TypeId}:B7 P ⟨dst,.makeMap T none,ty,pos,B6,g⟩ a w (fun u w'=>∃r,u=.map (some r)∧Yx ev w w' r n):=by
 unfold B7;simp only[execOp,Option.map_none,Sem.run_bind,run_makeMap,Result.andThen_ok,Sem.run_pure];exact⟨_,rfl,rfl,by simp,⟨#[],0,heap_alloc_new w _,rfl,by simp⟩,World.grownBy_alloc w _ _⟩
theorem Mj{x y aD:Operand}{v:α}{d:Int}{b:Bool}(aP:P.underlying T=some (.map K E))(aQ:No P K [true,false])(aR:NW P K)(hw:IF P K)(aS:a.eval x=.map (some r))(aT:a.eval y=.agg #[.int .i64 d,.bool b])(aU:a.eval aD=ev v)(aE:n=2)(hm:CU ev w r n L):
  B7 P ⟨dst,.mapUpdate T x y aD,ty,pos,B6,g⟩ a w (fun _ w'=>Yy ev w w' r n (GH L [d,FK b] v)):=by
 have s:=hm.lt;obtain⟨es,clock,aF,he,aA⟩:=hm;have aB:Nd [d,FK b]:=⟨d,b,rfl⟩;have aV:=JZ (P:=P) aF (by intro c e f h;cases h);have aG:=PY v (P:=P) (w:=w) aQ hw aB he aA;rw[KG] at aG;have m:∀o:Obj,(setObj r o).run P w=.ok () {w with heap:=w.heap.setIfInBounds r o}:=by
  intro o;unfold setObj;simp only[Sem.run,aF]
 have t:∀o:Obj,HV r w {w with heap:=w.heap.setIfInBounds r o}:=fun o=>⟨rfl,rfl,rfl,by simp,fun j _ aH=>by
  have:¬r=j:=fun e=>aH (by rw[e]);simp[Array.getElem?_setIfInBounds,this]⟩
 have hlen:es.toList.length=L.length:=by have:=congrArg List.length he;simpa using this
 unfold B7;simp only[execOp,aS,aT,aU,Sem.run_bind,Instr.mapUpdate,run_underlying aP,Result.andThen_ok,aV,aR w false d b,aG];cases q:List.findIdx? (fun p=>[d,FK b]==p.1) L with
 |none=>
  simp only[m,Result.andThen_ok,Sem.run_pure];refine⟨by simp,⟨_,_,by simp[s];exact⟨rfl,rfl⟩,?_,?_⟩,t _⟩
  ·simp[GH,q,he,KG]
  ·intro p k;simp only[GH,q,List.mem_append,List.mem_singleton] at k;rcases k with k|rfl
   ·exact aA p k
   ·exact⟨aB,aE⟩
 |some j=>
  have aW:=List.findIdx?_eq_some_iff_getElem.1 q;obtain⟨aI,aJ,_⟩:=aW;have u:j<es.toList.length:=by omega
  have aC:(es.toList[j]).key=.agg #[.int .i64 d,.bool b]:=by
   have:=congrArg (fun l=>l[j]?) he;simp only[List.getElem?_map,List.getElem?_eq_getElem u,List.getElem?_eq_getElem aI,Option.map_some,Option.some.injEq,Prod.mk.injEq] at this;rw[this.1,←eq_of_beq aJ,KG]
  have aK:((es[j]?).map (·.key)).getD (.agg #[.int .i64 d,.bool b])=.agg #[.int .i64 d,.bool b]:=by
   have aL:j<es.size:=by simpa using u
   rw[Array.getElem?_eq_getElem aL];simpa using aC
  have aM:Instr.sameBits 10000 (.agg #[.int .i64 d,.bool b]) (.agg #[.int .i64 d,.bool b])=true:=by simp[Instr.sameBits]
  simp only[aK,Instr.keyThatStays,aM,if_true,Sem.run_pure,Result.andThen_ok,m,Sem.run_bind];refine⟨by simp,⟨_,_,by simp[s];exact⟨rfl,rfl⟩,?_,?_⟩,t _⟩
  ·simp only[GH,q];apply List.ext_getElem
   ·simp[hlen]
   ·intro i aX aY;have aN:i<es.toList.length:=by simpa using aX
    have aO:i<L.length:=by omega
    have:=congrArg (fun l=>l[i]?) he;simp only[List.getElem?_map,List.getElem?_eq_getElem aN,List.getElem?_eq_getElem aO,Option.map_some,Option.some.injEq,Prod.mk.injEq] at this
    by_cases z:j=i
    ·subst z;simp[KG]
    ·simpa[Array.getElem_modify,z,List.getElem_set] using this
  ·intro p k;simp only[GH,q] at k;rcases List.mem_or_eq_of_mem_set k with k|rfl
   ·exact aA p k
   ·exact⟨aB,aE⟩
end
structure AR where
 Lo:Int
 Hi:Int
structure AP where
 On:Int
 CI:Int
 BP:Bool
structure BS where
 Bi:Int
 BX:Int
 BP:Int
 EA:Int
 Gs:Int
structure Bv where
 Ao:Int
 Bj:Int
 Am:Int
 Cc:Int
 Ax:List BS
structure Cy where
 Comes:List Int
 Am:List Bool
structure De where
 CP:Int
 En:Int
 E7:Int
 E8:Int
 BL:List BS
 DC:List Bool
 known:List (List Int×AP)
structure Kp where
 CS:Int
 day:Int
structure CZ where
 a0:Int
 a1:Int
 a2:Int
 a3:Int
def CZ.set(x:CZ)(k:Nat)(v:Int):CZ:=⟨if k=0 then v else x.a0,if k=1 then v else x.a1,if k=2 then v else x.a2,if k=3 then v else x.a3⟩
def CZ.l(x:CZ):List Int:=[x.a0,x.a1,x.a2,x.a3]
theorem CZ.T0(x:CZ)(k:Nat)(v:Int)(h:k<4): #[.int .i64 (x.set k v).a0,.int .i64 (x.set k v).a1,.int .i64 (x.set k v).a2,.int .i64 (x.set k v).a3]=setCells #[.int .i64 x.a0,.int .i64 x.a1,.int .i64 x.a2,.int .i64 x.a3] k [.int .i64 v]:=by
 match k,h with
 |0,_=>rfl
 |1,_=>rfl
 |2,_=>rfl
 |3,_=>rfl
 |k+4,h=>omega
structure Cx where
 Week:Int
 Bo:Int
 Bq:Int
structure AM where
 Ao:Int
 Ad:List AR
 Am:List Int
 AN:List Int
 Bx:List Int
 Ct:Int
 CF:Int
 Trod:Int
 Looks:List Cx
structure Df where
 Weight:Int
 FL:Int
 HS:Int
structure Ce where
 Bf:Int
 Au:List AR
 AK:List Int
 AF:List Int
 Az:List Int
 Bg:Int
 Bh:Int
 AY:Int
 As:List Cx
 known:List (List Int×Int)
structure Bb where
 Ad:List Int
 Am:List Int
structure BO where
 a0:Int
 a1:Int
 a2:Int
 a3:Int
 a4:Int
 a5:Int
 a6:Int
 a7:Int
 a8:Int
 a9:Int
def BO.set(x:BO)(k:Nat)(v:Int):BO:=⟨if k=0 then v else x.a0,if k=1 then v else x.a1,if k=2 then v else x.a2,if k=3 then v else x.a3,if k=4 then v else x.a4,if k=5 then v else x.a5,if k=6 then v else x.a6,if k=7 then v else x.a7,if k=8 then v else x.a8,if k=9 then v else x.a9⟩
def BO.l(x:BO):List Int:=[x.a0,x.a1,x.a2,x.a3,x.a4,x.a5,x.a6,x.a7,x.a8,x.a9]
theorem BO.T0(x:BO)(k:Nat)(v:Int)(h:k<10): #[.int .i64 (x.set k v).a0,.int .i64 (x.set k v).a1,.int .i64 (x.set k v).a2,.int .i64 (x.set k v).a3,.int .i64 (x.set k v).a4,.int .i64 (x.set k v).a5,.int .i64 (x.set k v).a6,.int .i64 (x.set k v).a7,.int .i64 (x.set k v).a8,.int .i64 (x.set k v).a9]=setCells #[.int .i64 x.a0,.int .i64 x.a1,.int .i64 x.a2,.int .i64 x.a3,.int .i64 x.a4,.int .i64 x.a5,.int .i64 x.a6,.int .i64 x.a7,.int .i64 x.a8,.int .i64 x.a9] k [.int .i64 v]:=by
 match k,h with
 |0,_=>rfl
 |1,_=>rfl
 |2,_=>rfl
 |3,_=>rfl
 |4,_=>rfl
 |5,_=>rfl
 |6,_=>rfl
 |7,_=>rfl
 |8,_=>rfl
 |9,_=>rfl
 |k+10,h=>omega
structure LA where
 weight:Int
 DC:Bool
structure Ep where
 Bo:Int
 Bq:Int
 FL:Int
 T1:Int
 T3:Int
def Gw:CH AP:=⟨3,fun _ _ cs x=>cs=[.int .i64 x.On,.int .i64 x.CI,.bool x.BP],fun h=>by rw[h];rfl,fun h=>by rw[h];simp[Value.oneCell'],fun h _=>h⟩
def Cp:CH BS:=⟨5,fun _ _ cs x=>cs=[.int .i64 x.Bi,.int .i64 x.BX,.int .i64 x.BP,.int .i64 x.EA,.int .i64 x.Gs],fun h=>by rw[h];rfl,fun h=>by rw[h];simp[Value.oneCell'],fun h _=>h⟩
def K0:CH Cy:=⟨2,fun w Z cs x=>∃a b c d,cs=[.slice a x.Comes.length b,.slice c x.Am.length d]∧Sl (Ae .i64) w Z a b x.Comes∧Sl C6 w Z c d x.Am,fun⟨_,_,_,_,h,_⟩=>by rw[h];rfl,fun⟨_,_,_,_,h,_⟩=>by rw[h];simp[Value.oneCell'],fun⟨a,b,c,d,h,h0,e⟩ g=>⟨a,b,c,d,h,h0.mv g,e.mv g⟩⟩
def AS:CH AR:=⟨2,fun _ _ cs x=>cs=[.int .i64 x.Lo,.int .i64 x.Hi],fun h=>by rw[h];rfl,fun h=>by rw[h];simp[Value.oneCell'],fun h _=>h⟩
def Yz:CH CZ:=⟨4,fun _ _ cs x=>cs=[.int .i64 x.a0,.int .i64 x.a1,.int .i64 x.a2,.int .i64 x.a3],fun h=>by rw[h];rfl,fun h=>by rw[h];simp[Value.oneCell'],fun h _=>h⟩
def Bd:CH Cx:=⟨3,fun _ _ cs x=>cs=[.int .i64 x.Week,.int .i64 x.Bo,.int .i64 x.Bq],fun h=>by rw[h];rfl,fun h=>by rw[h];simp[Value.oneCell'],fun h _=>h⟩
def W6:CH BO:=⟨10,fun _ _ cs x=>cs=[.int .i64 x.a0,.int .i64 x.a1,.int .i64 x.a2,.int .i64 x.a3,.int .i64 x.a4,.int .i64 x.a5,.int .i64 x.a6,.int .i64 x.a7,.int .i64 x.a8,.int .i64 x.a9],fun h=>by rw[h];rfl,fun h=>by rw[h];simp[Value.oneCell'],fun h _=>h⟩
def Iz:CH Df:=⟨3,fun _ _ cs x=>cs=[.int .i64 x.Weight,.int .i64 x.FL,.int .i64 x.HS],fun h=>by rw[h];rfl,fun h=>by rw[h];simp[Value.oneCell'],fun h _=>h⟩
def Fe:CH Bb:=⟨2,fun w Z cs x=>∃a b c d,cs=[.slice a x.Ad.length b,.slice c x.Am.length d]∧Sl (Ae .i64) w Z a b x.Ad∧Sl (Ae .i64) w Z c d x.Am,fun⟨_,_,_,_,h,_⟩=>by rw[h];rfl,fun⟨_,_,_,_,h,_⟩=>by rw[h];simp[Value.oneCell'],fun⟨a,b,c,d,h,h0,e⟩ g=>⟨a,b,c,d,h,h0.mv g,e.mv g⟩⟩
def MN:CH AM:=⟨9,fun w Z cs x=>∃a b c d e f i j k l,cs=[.int .i64 x.Ao,.slice a x.Ad.length b,.slice c x.Am.length d,.slice e x.AN.length f,.slice i x.Bx.length j,.int .i64 x.Ct,.int .i64 x.CF,.int .i64 x.Trod,.slice k x.Looks.length l]∧Sl AS w Z a b x.Ad∧Sl (Ae .i64) w Z c d x.Am∧Sl (Ae .i64) w Z e f x.AN∧Sl (Ae .i64) w Z i j x.Bx∧Sl Bd w Z k l x.Looks,fun⟨_,_,_,_,_,_,_,_,_,_,h,_⟩=>by rw[h];rfl,fun⟨_,_,_,_,_,_,_,_,_,_,h,_⟩=>by rw[h];simp[Value.oneCell'],fun⟨a,b,c,d,e,f,i,j,k,l,h,m,n,o,p,q⟩ g=>⟨a,b,c,d,e,f,i,j,k,l,h,m.mv g,n.mv g,o.mv g,p.mv g,q.mv g⟩⟩
def E5:CH Ep:=⟨5,fun _ _ cs x=>cs=[.int .i64 x.Bo,.int .i64 x.Bq,.int .i64 x.FL,.int .i64 x.T1,.int .i64 x.T3],fun h=>by rw[h];rfl,fun h=>by rw[h];simp[Value.oneCell'],fun h _=>h⟩
def NX(w:World)(Z:Nat→Prop)(q:Nat)(o:Option Nat):Option De→Prop
 |none=>Bk w q 170 #[.pointer none]∧o=none
 |some x=>∃(b r:Nat) (a:Option Addr) (c:Nat) (d:Option Addr) (e:Nat),Bk w q 170 #[pt b 0]∧Rz w Z (some ⟨b,0,none⟩) [I x.CP,I x.En,I x.E7,I x.E8,.slice a x.BL.length c,.slice d x.DC.length e,.map (some r)]∧Sl Cp w Z a c x.BL∧Sl C6 w Z d e x.DC∧Eg (fun x:AP=>.agg #[I x.On,I x.CI,.bool x.BP]) w r 2 x.known∧o=some r
theorem NX.keep{w w':World}{Z Z':Nat→Prop}{q:Nat}{o:Option Nat}:∀{x:Option De},NX w Z q o x→Mv w Z w' Z'→w'.heap[q]?=w.heap[q]?→(∀k,o=some k→w'.heap[k]?=w.heap[k]?)→NX w' Z' q o x
 |none,h,_,a,_=>⟨h.1.Fc a,h.2⟩
 |some x,⟨b,r,e,f,g,i,j,l,h0,m,hm,d⟩,c,a,n=>⟨b,r,e,f,g,i,j.Fc a,l.mv c,h0.mv c,m.mv c,hm.Fc (n r d),d⟩
abbrev Av(a:Option Addr)(b:Nat)(c:Option Addr)(d:Nat)(e:Option Addr)(f:Nat)(g:Option Addr)(h:Nat)(i:Option Addr)(j:Nat)(x:AM):List Value:=[I x.Ao,.slice a x.Ad.length b,.slice c x.Am.length d,.slice e x.AN.length f,.slice g x.Bx.length h,I x.Ct,I x.CF,I x.Trod,.slice i x.Looks.length j]
abbrev Dw(a:Option Addr)(b:Nat)(c:Option Addr)(d:Nat)(e:Option Addr)(f:Nat)(g:Option Addr)(h:Nat)(i:Option Addr)(j:Nat)(r:Nat)(x:Ce):List Value:=[I x.Bf,.slice a x.Au.length b,.slice c x.AK.length d,.slice e x.AF.length f,.slice g x.Az.length h,I x.Bg,I x.Bh,I x.AY,.slice i x.As.length j,.map (some r)]
def Jc(n:Nat)(w:World)(Z:Nat→Prop)(p:Value):Option Ce→Prop
 |none=>p=.pointer none
 |some x=>∃(b r:Nat) (a:Option Addr) (c:Nat) (d:Option Addr) (e:Nat) (f:Option Addr) (g:Nat) (h:Option Addr) (i:Nat) (j:Option Addr) (k:Nat),p=pt b 0∧HN n w [b,r]∧Bk w b 97 #[I x.Bf,.slice a x.Au.length c,.slice d x.AK.length e,.slice f x.AF.length g,.slice h x.Az.length i,I x.Bg,I x.Bh,I x.AY,.slice j x.As.length k,.map (some r)]∧CU (fun x:Int=>I x) w r 2 x.known∧Sl AS w (ZZ FN [] Z n [some b,some r]) a c x.Au∧Sl (Ae .i64) w (ZZ FN [] Z n [some b,some r]) d e x.AK∧Sl (Ae .i64) w (ZZ FN [] Z n [some b,some r]) f g x.AF∧Sl (Ae .i64) w (ZZ FN [] Z n [some b,some r]) h i x.Az∧Sl Bd w (ZZ FN [] Z n [some b,some r]) j k x.As
theorem Jc.cases{n:Nat}{w:World}{Z:Nat→Prop}{p:Value}:∀{o:Option Ce},Jc n w Z p o→(o=none∧p=.pointer none)∨(∃x,o=some x∧∃(b r:Nat) (a:Option Addr) (c:Nat) (d:Option Addr) (e:Nat) (f:Option Addr) (g:Nat) (i:Option Addr) (j:Nat) (k:Option Addr) (l:Nat),p=pt b 0∧HN n w [b,r]∧Bk w b 97 #[I x.Bf,.slice a x.Au.length c,.slice d x.AK.length e,.slice f x.AF.length g,.slice i x.Az.length j,I x.Bg,I x.Bh,I x.AY,.slice k x.As.length l,.map (some r)]∧CU (fun x:Int=>I x) w r 2 x.known∧Sl AS w (ZZ FN [] Z n [some b,some r]) a c x.Au∧Sl (Ae .i64) w (ZZ FN [] Z n [some b,some r]) d e x.AK∧Sl (Ae .i64) w (ZZ FN [] Z n [some b,some r]) f g x.AF∧Sl (Ae .i64) w (ZZ FN [] Z n [some b,some r]) i j x.Az∧Sl Bd w (ZZ FN [] Z n [some b,some r]) k l x.As)
 |none,h=>.inl ⟨rfl,h⟩
 |some x,h=>.inr ⟨x,rfl,h⟩
theorem Jc.ext{n:Nat}{w w':World}{Z:Nat→Prop}{p:Value}:∀{o:Option Ce},Jc n w Z p o→Ext w w'→Jc n w' Z p o
 |none,h,_=>h
 |some x,⟨b,r,a,c,d,f,i,j,k,l,m,q,e,s,t,hm,u,s1,s2,v,y⟩,g=>⟨b,r,a,c,d,f,i,j,k,l,m,q,e,s.grow (Nat.le_refl _) g.size,t.ext g,hm.ext g,u.mv (Ab g),s1.mv (Ab g),s2.mv (Ab g),v.mv (Ab g),y.mv (Ab g)⟩
def Ft(d:Nat)(a:Int)(b:Int)(c:Int):Option (Bool):=
 cond (decide (b≤a)) (some (decide (a≤c))) (some (false))
def F1(b:Nat)(a:AR):Option (Int):=
 (i64 (a.Hi-a.Lo)).bind fun _=>(i64 ((a.Hi-a.Lo)+1)).bind fun _=>some ((a.Hi-a.Lo)+1)
def Is(c:Nat)(a:AR)(b:Int):Option (Bool):=
 cond (decide ((0:Int)≤a.Lo)) (cond (decide (a.Lo≤a.Hi)) (some (decide (a.Hi≤b))) (some (false))) (some (false))
def Ik(a:Nat)(b:Int):Option (Bool):=
 (Ft a b 1 5).bind fun r1=>some (r1)
def GR(b:Nat)(a:Bv)(c:Int):Option (Bool):=
 (i64 ((a.Ax.length:Int)-1)).bind fun _=>(Ft b c 0 ((a.Ax.length:Int)-1)).bind fun d=>some (d)
def Fw(c:Nat)(b:BS)(a:AP):Option (Bool):=
 cond (a.BP) (some (decide (a.CI≤b.Gs))) (some (false))
def FM(b:Nat)(c:Bv)(a:BS):Option (Bool):=
 (Is b (⟨a.Bi,a.BX⟩:AR) c.Ao).bind fun e=>cond (e) ((Ik b a.BP).bind fun f=>cond (f) ((Ik b a.EA).bind fun g=>cond (g) ((Ft b a.Gs 0 c.Ao).bind fun d=>some (d)) (some (false))) (some (false))) (some (false))
def Fx{a:Type}(e:Nat)(b:a→BS→Option (Bool×a))(c:BS)(d:a):Option (Bool×a):=
 (b d c).bind fun r2=>some ((!r2.1,r2.2))
def Dx{c:Type}(d:c→BS→Option (Bool×c))(e:List BS):Nat→Int→c→Option ((Int×c)⊕(c))
 |0,_,_=>none
 |g+1,a,b=>cond (decide (a<(e.length:Int))) ((idx e a).bind fun h=>(d b h).bind fun f=>cond (f.1) (some (.inl (a,f.2))) ((i64 (a+1)).bind fun _=>Dx d e g (a+1) f.2)) (some (.inr b))
def Gt{b:Type}(d:Nat)(c:b→BS→Option (Bool×b))(e:List BS)(f:b):Option (Int×b):=
 (Dx c e d (0:Int) f).bind fun z=>Sum.elim (fun a=>some ((a.1,a.2))) (fun a=>some (((-1),a))) z
def FE{a:Type}(c:Nat)(b:a→BS→Option (Bool×a))(d:List BS)(e:a):Option (Bool×a):=
 (Gt c b d e).bind fun r1=>some ((decide ((0:Int)≤r1.1),r1.2))
def HY{a:Type}(b:Nat)(c:a→BS→Option (Bool×a))(d:List BS)(e:a):Option (Bool×a):=
 (FE b (fun(st:a) (x:BS)=>(Fx b c x st).bind fun r=>some (r.1,r.2)) d e).bind fun r2=>some ((!r2.1,r2.2))
def E9{a:Type}(e:Nat)(b:a→Bool→Option (Bool×a))(c:Bool)(d:a):Option (Bool×a):=
 (b d c).bind fun r1=>some ((!r1.1,r1.2))
def Dm{c:Type}(d:c→Bool→Option (Bool×c))(e:List Bool):Nat→Int→c→Option ((Int×c)⊕(c))
 |0,_,_=>none
 |g+1,a,b=>cond (decide (a<(e.length:Int))) ((idx e a).bind fun h=>(d b h).bind fun f=>cond (f.1) (some (.inl (a,f.2))) ((i64 (a+1)).bind fun _=>Dm d e g (a+1) f.2)) (some (.inr b))
def Ga{b:Type}(d:Nat)(c:b→Bool→Option (Bool×b))(e:List Bool)(f:b):Option (Int×b):=
 (Dm c e d (0:Int) f).bind fun z=>Sum.elim (fun a=>some ((a.1,a.2))) (fun a=>some (((-1),a))) z
def Fu{a:Type}(c:Nat)(b:a→Bool→Option (Bool×a))(d:List Bool)(e:a):Option (Bool×a):=
 (Ga c b d e).bind fun r1=>some ((decide ((0:Int)≤r1.1),r1.2))
def HH{a:Type}(b:Nat)(c:a→Bool→Option (Bool×a))(d:List Bool)(e:a):Option (Bool×a):=
 (Fu b (fun(st:a) (x:Bool)=>(E9 b c x st).bind fun r=>some (r.1,r.2)) d e).bind fun r2=>some ((!r2.1,r2.2))
def Er(e:Nat)(d:Bool)(b:Int)(a:Int)(c:Bv):Option (Bool×Int×Int):=
 cond (!d) (some ((true,0,a))) ((i64 (a+1)).bind fun _=>(i64 (b+1)).bind fun _=>cond (decide ((a+1)≤c.Am)) (some ((decide ((b+1)≤c.Cc),b+1,a+1))) (some ((false,b+1,a+1))))
def Gd(a:Nat)(b:Bv)(c:List Bool):Option (Bool):=
 (HH a (fun(st:Int×Int) (x:Bool)=>(Er a x st.1 st.2 b).bind fun r=>some (r.1,(r.2.1,r.2.2))) c (0,0)).bind fun d=>some (d.1)
def Ff(c:List Int):Nat→Int→Int→Option (Int)
 |0,_,_=>none
 |d+1,b,a=>cond (decide (a<(c.length:Int))) ((idx c a).bind fun e=>(i64 (a+1)).bind fun _=>Ff c d (min b e) (a+1)) (some (b))
def Hh(b:Nat)(a:List Int):Option (Int):=
 cond (decide ((a.length:Int)<1)) (none) ((idx a (0:Int)).bind fun x2=>(Ff a b x2 (1:Int)).bind fun z3=>some (z3))
def Ha(a:Nat)(b:List Int):Option (Int):=
 (Hh a b).bind fun r1=>some (r1)
def C7(b:Int)(d:List Bool):Nat→Int→(List Bool)→Option ((List Bool))
 |0,_,_=>none
 |e+1,a,c=>cond (decide (a<(d.length:Int))) ((Nn b a).bind fun _=>(rem (FJ b a) (2:Int)).bind fun _=>(idx c a).bind fun f=>(i64 (a+1)).bind fun _=>C7 b d e (a+1) (c.set a.toNat (((FJ b a)%2)==1))) (some (c))
def C8{c:Type}(d:c→(List Bool)→Option (Bool×c))(g:Nat)(h:Bv):Nat→Int→(List Bool)→c→Option ((c)⊕(c))
 |0,_,_,_=>none
 |j+1,a,e,b=>cond (decide (a<(G1 (1:Int) ((List.replicate (h.Ao+1).toNat false).length:Int)))) ((C7 a e g (0:Int) e).bind fun i=>(Gd g h i).bind fun k=>cond (k) ((d b i).bind fun f=>cond (!f.1) (some (.inl f.2)) ((i64 (a+1)).bind fun _=>C8 d g h j (a+1) i f.2)) ((i64 (a+1)).bind fun _=>C8 d g h j (a+1) i b)) (some (.inr b))
def D5{c:Type}(d:Nat)(e:c→(List Bool)→Option (Bool×c))(a:Bv)(f:c):Option (c):=
 (i64 (a.Ao+1)).bind fun _=>(OV (a.Ao+1) 1).bind fun _=>(Lq (1:Int) ((List.replicate (a.Ao+1).toNat false).length:Int)).bind fun _=>(C8 e d a d (0:Int) (List.replicate (a.Ao+1).toNat false) f).bind fun z=>Sum.elim (fun b=>some (b)) (fun b=>some (b)) z
def FO(a:Int)(b:(List Bool)):Option (Bool×Int):=
 (i64 (a+1)).bind fun _=>some (true,a+1)
def EG(e:Nat)(f:Bv):Nat→Int→Int→Option (Int)
 |0,_,_=>none
 |h+1,b,a=>cond (decide (b<(f.Ax.length:Int))) ((idx f.Ax b).bind fun c=>(F1 e (⟨c.Bi,c.BX⟩:AR)).bind fun d=>(i64 (a*d)).bind fun _=>(Ha e [a*d,1001]).bind fun g=>(i64 (b+1)).bind fun _=>EG e f h (b+1) g) (some (a))
def Hj(b:Nat)(a:Bv):Option (Int):=
 cond (decide ((9:Int)<a.Ao)) (some (3)) (cond (decide ((2:Int)<a.Bj)) (some (3)) (cond (decide ((4:Int)<(a.Ax.length:Int))) (some (3)) (cond (decide (a.Ao<0)) (some (1)) (cond (decide (a.Bj<1)) (some (1)) ((i64 (a.Ao+1)).bind fun _=>(Ft b a.Am 0 (a.Ao+1)).bind fun g=>cond (!g) (some (1)) ((i64 (a.Ao+1)).bind fun _=>(Ft b a.Cc 0 (a.Ao+1)).bind fun c=>cond (!c) (some (1)) ((HY b (fun(st:Unit) (x:BS)=>(FM b a x).bind fun r=>some (r,())) a.Ax ()).bind fun d=>cond (!d.1) (some (1)) ((D5 b (fun(st:Int) (x:(List Bool))=>FO st x) a (0:Int)).bind fun e=>(EG b a b (0:Int) e).bind fun f=>cond (decide ((1000:Int)<f)) (some (3)) (some (0))))))))))
def Cr{f:Type}(g:Int→(List Int)→(List Bool)→Bv→f→Option (Bool×(List Int)×f))(e:Int)(j:List Bool)(i:Bv)(k:Int):Nat→Int→(List Int)→f→Option ((Bool×(List Int)×f)⊕((List Int)×f))
 |0,_,_,_=>none
 |l+1,a,b,d=>cond (decide (a<k)) ((idx i.Ax e).bind fun h=>(i64 (h.Bi+a)).bind fun _=>(idx b e).bind fun m=>(i64 (e+1)).bind fun _=>(g (e+1) (b.set e.toNat (h.Bi+a)) j i d).bind fun c=>cond (!c.1) (some (.inl (false,c.2.1,c.2.2))) ((i64 (a+1)).bind fun _=>Cr g e j i k l (a+1) c.2.1 c.2.2)) (some (.inr (b,d)))
def Ca{b:Type}(e:Nat)(d:b→Cy→Option (Bool×b)):Nat→Int→(List Int)→(List Bool)→Bv→b→Option (Bool×(List Int)×b)
 |0,_,_,_,_,_=>none
 |k+1,f,c,g,h,i=>cond (f==(c.length:Int)) ((d i (⟨c,g⟩:Cy)).bind fun r2=>some ((r2.1,c,r2.2))) ((idx h.Ax f).bind fun j=>(F1 e (⟨j.Bi,j.BX⟩:AR)).bind fun l=>(Cr (Ca e d k) f g h l e (0:Int) c i).bind fun z=>Sum.elim (fun a=>some ((a.1,a.2.1,a.2.2))) (fun a=>some ((true,a.1,a.2))) z)
def DS{c:Type}(e:c→Cy→Option (Bool×c))(f:Nat)(g:Bv)(b:List Int)(d:c)(h:(List Bool)):Option (Bool×((List Int)×c×Bool)):=
 (Ca f e f 0 b h g d).bind fun a=>cond (!a.1) (some (false,a.2.1,a.2.2,true)) (some (true,a.2.1,a.2.2,false))
def FP{a:Type}(d:Nat)(e:a→Cy→Option (Bool×a))(b:Bv)(f:a):Option (a):=
 (OV (b.Ax.length:Int) 8).bind fun _=>(D5 d (fun(st:(List Int)×a×Bool) (x:(List Bool))=>cond st.2.2 none (DS e d b st.1 st.2.1 x)) b (List.replicate (b.Ax.length:Int).toNat (0:Int),f,false)).bind fun c=>cond (c.2.2) (some (c.2.1)) (some (c.2.1))
def D6(b:List Bool)(c:List Bool):Nat→Int→Option ((Bool)⊕(Unit))
 |0,_=>none
 |d+1,a=>cond (decide (a<(b.length:Int))) ((idx b a).bind fun e=>(idx c a).bind fun f=>cond (e !=f) (some (.inl false)) ((i64 (a+1)).bind fun _=>D6 b c d (a+1))) (some (.inr ()))
def Fg(d:Nat)(b:List Bool)(c:List Bool):Option (Bool):=
 cond ((b.length:Int) !=(c.length:Int)) (some (false)) ((D6 b c d (0:Int)).bind fun z=>Sum.elim (fun a=>some (a)) (fun a=>some (true)) z)
def EB(i:De)(h:Kp)(f:BS):Nat→Int→Int→Int→Int→Int→Bool→Option ((Int×Int×Bool)⊕(Int×Int×Bool))
 |0,_,_,_,_,_,_=>none
 |j+1,b,g,a,c,d,e=>cond (decide (a≤i.CP)) ((idx i.DC a).bind fun k=>cond (k) ((i64 (g+1)).bind fun _=>cond (b==f.BP) (some (.inl (h.day,a,b==f.BP))) (cond ((g+1)==f.EA) (some (.inl (h.day,a,b==f.BP))) ((i64 (a+1)).bind fun _=>EB i h f j b (g+1) (a+1) c d e))) ((i64 (b+1)).bind fun _=>cond ((b+1)==f.BP) (some (.inl (h.day,a,(b+1)==f.BP))) (cond ((0:Int)==f.EA) (some (.inl (h.day,a,(b+1)==f.BP))) ((i64 (a+1)).bind fun _=>EB i h f j (b+1) (0:Int) (a+1) c d e)))) (some (.inr (c,d,e)))
def GI(d:Nat)(c:De)(b:Kp):Option (AP):=
 cond (decide (c.CP<b.day)) (some ((⟨(-1),(-1),false⟩:AP))) ((idx c.BL b.CS).bind fun e=>(EB c b e d (0:Int) (0:Int) b.day (0:Int) (0:Int) false).bind fun z=>Sum.elim (fun a=>some ((⟨a.1,a.2.1,a.2.2⟩:AP))) (fun a=>some ((⟨b.day,(-1),false⟩:AP))) z)
def Gl(d:Nat)(b:De)(a:Kp):Option (AP×(List (List Int×AP))):=
 cond (!((BI b.known [a.CS,a.day]).isSome)) ((GI d b a).bind fun c=>some ((c,GH b.known [a.CS,a.day] c))) (some ((((BI b.known [a.CS,a.day]).getD (⟨0,0,false⟩:AP)),b.known)))
def Eh(i:Nat)(c:De)(j:List Int)(g:List Int):Nat→Int→Int→(List AP)→(List (List Int×AP))→Option ((List AP)×(List (List Int×AP)))
 |0,_,_,_,_=>none
 |k+1,h,a,d,e=>cond (decide (a<(g.length:Int))) ((idx g a).bind fun f=>(idx j f).bind fun l=>(Gl i (⟨c.CP,c.En,c.E7,c.E8,c.BL,c.DC,e⟩:De) (⟨f,max h l⟩:Kp)).bind fun b=>(idx d f).bind fun m=>(i64 (b.1.CI+1)).bind fun _=>cond (b.1.CI==(-1)) ((i64 (c.CP+1)).bind fun _=>(i64 (a+1)).bind fun _=>Eh i c j g k (c.CP+1) (a+1) (d.set f.toNat b.1) b.2) ((i64 (a+1)).bind fun _=>Eh i c j g k (b.1.CI+1) (a+1) (d.set f.toNat b.1) b.2)) (some ((d,e)))
def DH(d:Nat)(f:De)(e:List (List Int))(g:List Int):Nat→Int→(List AP)→(List (List Int×AP))→Option ((List AP)×(List (List Int×AP)))
 |0,_,_,_=>none
 |i+1,a,c,b=>cond (decide (a<(e.length:Int))) ((idx e a).bind fun j=>(Eh d f g j d (0:Int) (0:Int) c b).bind fun h=>(i64 (a+1)).bind fun _=>DH d f e g i (a+1) h.1 h.2) (some ((c,b)))
def D9(b:Nat)(a:De)(c:List (List Int))(d:List Int):Option ((List AP)×(List (List Int×AP))):=
 (OV (a.BL.length:Int) 24).bind fun _=>(DH b a c d b (0:Int) (List.replicate (a.BL.length:Int).toNat (⟨0,0,false⟩:AP)) a.known).bind fun z3=>some ((z3.1,z3.2))
def Ea(c:List (List Int)):Nat→(List Int)→Int→Option ((List Int))
 |0,_,_=>none
 |e+1,b,a=>cond (decide (a<(c.length:Int))) ((idx c a).bind fun d=>(HG (((b.length+d.length:Nat):Int)≤140737488355328/8)).bind fun _=>(i64 (a+1)).bind fun _=>Ea c e (b++d) (a+1)) (some (b))
def DT(b:Bv)(z2:(List Int)):Nat→Int→Option ((Bool)⊕(Unit))
 |0,_=>none
 |d+1,a=>cond (decide (a<(b.Ax.length:Int))) (cond (((Dk z2).length:Int) !=(b.Ax.length:Int)) (some (.inl false)) ((idx (Dk z2) a).bind fun c=>cond (c !=a) (some (.inl false)) ((i64 (a+1)).bind fun _=>DT b z2 d (a+1)))) (some (.inr ()))
def Ge(c:Nat)(b:Bv)(d:List (List Int)):Option (Bool):=
 (Ea d c ([]:List Int) (0:Int)).bind fun z2=>(HG ((z2.length:Int)≤100000)).bind fun _=>(DT b z2 c (0:Int)).bind fun z=>Sum.elim (fun a=>some (a)) (fun a=>cond ((d.length:Int)==b.Bj) (some (((Dk z2).length:Int)==(b.Ax.length:Int))) (some (false))) z
def C0{j:Type}(h:j→(BS×AP)→Option (Bool×j))(k:List AP)(l:Bv):Nat→Int→Int→Int→Int→Int→j→Option (Int×Int×Int×Int×j)
 |0,_,_,_,_,_,_=>none
 |m+1,a,b,c,d,e,g=>cond (decide (a<(k.length:Int))) ((idx k a).bind fun o=>(idx l.Ax a).bind fun n=>(h g (n,o)).bind fun i=>cond (i.1) ((idx ([b,c,d,e]:List Int) a).bind fun f=>(i64 (f+1)).bind fun _=>(idx ([b,c,d,e]:List Int) a).bind fun p=>(i64 (a+1)).bind fun _=>C0 h k l m (a+1) (((⟨b,c,d,e⟩:CZ).set a.toNat (f+1)).a0) (((⟨b,c,d,e⟩:CZ).set a.toNat (f+1)).a1) (((⟨b,c,d,e⟩:CZ).set a.toNat (f+1)).a2) (((⟨b,c,d,e⟩:CZ).set a.toNat (f+1)).a3) i.2) ((i64 (a+1)).bind fun _=>C0 h k l m (a+1) b c d e i.2)) (some ((b,c,d,e,g)))
def Dp{a:Type}(e:Nat)(c:a→(BS×AP)→Option (Bool×a))(i:Cy)(f:List AP)(d:Int)(g:Bv)(b:CZ)(h:a):Option (Bool×Int×CZ×a):=
 (i64 (d+1)).bind fun _=>(C0 c f g e (0:Int) b.a0 b.a1 b.a2 b.a3 h).bind fun z4=>some ((true,d+1,(⟨z4.1,z4.2.1,z4.2.2.1,z4.2.2.2.1⟩:CZ),z4.2.2.2.2))
def Ei{m:Type}(f:m→(Cy×(List AP))→Option (Bool×m))(n:Nat)(a:Bv)(o:List (List Int))(e:Option De)(d:m)(c:Cy):Option (Bool×((Option De)×m×Bool)):=
 Option.elim e ((HG (((0+c.Am.length:Nat):Int)≤140737488355328/1)).bind fun _=>(D9 n (⟨a.Ao,a.Bj,a.Am,a.Cc,a.Ax,c.Am,[]⟩:De) o c.Comes).bind fun g=>(f d (c,g.1)).bind fun h=>cond (!h.1) (some (false,(some (⟨a.Ao,a.Bj,a.Am,a.Cc,a.Ax,c.Am,g.2⟩:De)),h.2,true)) (some (true,(some (⟨a.Ao,a.Bj,a.Am,a.Cc,a.Ax,c.Am,g.2⟩:De)),h.2,false))) (fun b=>(Fg n b.DC c.Am).bind fun p=>cond (!p) ((HG (((0+c.Am.length:Nat):Int)≤140737488355328/1)).bind fun _=>(D9 n (⟨a.Ao,a.Bj,a.Am,a.Cc,a.Ax,c.Am,[]⟩:De) o c.Comes).bind fun i=>(f d (c,i.1)).bind fun j=>cond (!j.1) (some (false,(some (⟨a.Ao,a.Bj,a.Am,a.Cc,a.Ax,c.Am,i.2⟩:De)),j.2,true)) (some (true,(some (⟨a.Ao,a.Bj,a.Am,a.Cc,a.Ax,c.Am,i.2⟩:De)),j.2,false))) ((D9 n b o c.Comes).bind fun k=>(f d (c,k.1)).bind fun l=>cond (!l.1) (some (false,(some (⟨b.CP,b.En,b.E7,b.E8,b.BL,b.DC,k.2⟩:De)),l.2,true)) (some (true,(some (⟨b.CP,b.En,b.E7,b.E8,b.BL,b.DC,k.2⟩:De)),l.2,false))))
def Hk{a:Type}(c:Nat)(d:a→(Cy×(List AP))→Option (Bool×a))(e:Bv)(f:List (List Int))(g:a):Option (a):=
 (FP c (fun(st:(Option De)×a×Bool) (x:Cy)=>cond st.2.2 none (Ei d c e f st.1 st.2.1 x)) e (none,g,false)).bind fun b=>cond (b.2.2) (some (b.2.1)) (some (b.2.1))
def ER{a:Type}(c:Nat)(d:a→(BS×AP)→Option (Bool×a))(e:Bv)(f:List (List Int))(g:a):Option (CZ×Int×a):=
 (Hk c (fun(st:Int×CZ×a) (x:Cy×(List AP))=>(Dp c d x.1 x.2 st.1 e st.2.1 st.2.2).bind fun r=>some (r.1,(r.2.1,r.2.2.1,r.2.2.2))) e f (0,(⟨0,0,0,0⟩:CZ),g)).bind fun b=>some ((b.2.1,b.1,b.2.2))
def Hl(b:Nat)(c:Bv)(e:List (List Int))(f:Int):Option (Int×Int):=
 (Hj b c).bind fun r2=>cond (r2 !=0) (some ((0,r2))) ((Ge b c e).bind fun h=>cond (!h) (some ((0,2))) ((GR b c f).bind fun g=>cond (!g) (some ((0,2))) ((ER b (fun(st:Unit) (x:BS×AP)=>(Fw b x.1 x.2).bind fun r=>some (r,())) c e ()).bind fun a=>(idx ([a.1.a0,a.1.a1,a.1.a2,a.1.a3]:List Int) f).bind fun d=>cond (d==a.2.1) (some ((1,0))) (cond (d==0) (some ((2,0))) (some ((3,0)))))))
end Go.Proofs.YtamobliaoknclaaGreat
end
