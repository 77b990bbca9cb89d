import Derived.WalkKit
import Derived.KernelRfl
import Derived.WalkSpells
import Derived.WalkLawsBesides
import Derived.Maps.AppendAt
import Derived.OrdersIn
import Derived.RangeFuncIn
import Derived.RangeFuncLeaves
import Derived.RangeFuncRecord
import Derived.RangeFuncSeq
import Derived.Scope
import Derived.DeepKeys3
import Derived.Laws.CopyRow
import Derived.Laws.OwnMore
import Derived.Laws.MakeOwn
import Derived.Laws.IdiomCopy
import Derived.Sort.OwnSortedInts
import Derived.Lib.RowBridge
/-
  The contracts of the functions of the program and of the reference, and the logic that they are proved in: the base that several claims of this seat share.
-/
set_option linter.all false
section
namespace Go.Proofs.YtamobliaoknclaaGreat
open Go.RowKit
abbrev Env:=List (Nat×Value)
def BQ(a:Act):Env→Act
 |[]=>a
 |(d,v)::l=>(BQ a l).put (some d) v
def sl(a:Act)(s:Nat):Value:=a.tmps.getD s undef
def lk(b:Value):Env→Nat→Value
 |[],_=>b
 |(d,v)::l,s=>match Nat.beq d s with|true=>v|false=>lk b l s
def ev(a:Act)(l:Env):Operand→Value
 |.tmp t=>lk (sl a t) l t
 |.const v=>v
 |.global g=>.pointer (some ⟨g,0,none⟩)
 |.func f=>.func (.func f) #[] #[]
structure Ctx where
 ro:Option Nat
 ds:List Deferred
abbrev X0:Ctx:=⟨none,[]⟩
def Wd:Option Nat→Fence
 |none=>Fence.wide
 |some r=>Fence.wide.inRound r
theorem Lr(ro:Option Nat)(f:FuncId):(Wd ro).fn f:=by cases ro<;>trivial
theorem Q0(ro:Option Nat):(Wd ro).depth=none:=by cases ro<;>rfl
theorem Q1(ro:Option Nat){n:Nat}:(Wd ro).depth.isSome=true→1≤n:=fun h=>by rw[Q0] at h;cases h
structure St(X:Ctx)(N:Nat)(a:Act)(l:Env):Prop where
 sz:a.tmps.size=N
 df:a.defers=X.ds
 lt:∀p∈l,p.1<N
theorem H3(a:Act)(l:Env):(BQ a l).tmps.size=a.tmps.size:=by
 induction l with
 |nil=>rfl
 |cons p l ih=>simp[BQ,Act.put,ih]
theorem Dp(a:Act)(l:Env):(BQ a l).defers=a.defers:=by
 induction l with
 |nil=>rfl
 |cons p l ih=>simp[BQ,Act.put,ih]
theorem St.cons{X:Ctx}{N:Nat}{a:Act}{l:Env}(h:St X N a l){d:Nat}(c:d<N)(v:Value):St X N a ((d,v)::l):=
 ⟨h.sz,h.df,fun p b=>by
  rcases List.mem_cons.1 b with rfl|b
  ·exact c
  ·exact h.lt p b⟩
theorem Bc{X:Ctx}{N:Nat}{a:Act}:∀{l:Env},St X N a l→∀s,sl (BQ a l) s=lk (sl a s) l s
 |[],_,_=>rfl
 |(d,v)::l,h,s=>by
  have e:St X N a l:=⟨h.sz,h.df,fun p f=>h.lt p (List.mem_cons_of_mem _ f)⟩;have ih:=Bc e s;have g:d<N:=h.lt (d,v) (List.mem_cons_self ..);unfold sl at*;simp only[BQ,Act.put,lk];cases b:Nat.beq d s with
  |true=>
   obtain rfl:d=s:=Nat.eq_of_beq_eq_true b;simp[H3,h.sz,g]
  |false=>
   have c:d≠s:=Nat.ne_of_beq_eq_false b;rw[←ih];simp[Array.getElem?_setIfInBounds_ne c]
theorem Si{X:Ctx}{N:Nat}{a:Act}{l:Env}(h:St X N a l)(x:Operand):(BQ a l).eval x=ev a l x:=by
 cases x with
 |tmp t=>exact Bc h t
 |_=>rfl
theorem ee{X:Ctx}{N:Nat}{a:Act}{l:Env}{x:Operand}{v:Value}(h:St X N a l)(b:ev a l x=v):(BQ a l).eval x=v:=(Si h x).trans b
def BT (P:Program) (o:Oper) (a:Act) (w:World) (R:Value→World→Prop):Prop:=
 match (execOp a.eval o).run P w with
 |.ok (.value v) w'=>R v w'
 |.ok .skip w'=>R undef w'
 |.ok (.enter f args) w'=>Calls P f args w' (fun e Bj=>∃v,e=.returned v∧R v Bj)
 |.ok (.round l f tmps assign body) w'=>RoundIn Fence.wide 0 P l f tmps assign body w' (fun e Bj=>∃v,e=.returned v∧R v Bj)
 |_=>False
theorem BT.Sj{P:Program}{o:Oper}{a:Act}{w:World}{R:Value→World→Prop}(h:BT P o a w R):∀c,o.op≠.defer c:=by
 intro c b;unfold BT at h;have he:execOp a.eval o=(do pure (.defer (←resolve a.eval c o.type))):=by
  unfold execOp;rw[b]
 rw[he,Sem.run_bind] at h;cases d:(resolve a.eval c o.type).run P w<;>simp[d,Result.andThen] at h
theorem BT.wp{P:Program}{ro:Option Nat}{o:Oper}{a:Act}{w:World}{R:Value→World→Prop}{K:Act→World→Prop}{Q:Exit→Act→World→Prop}
  (h:BT P o a w R)(b:∀v w',R v w'→K (a.put o.dst v) w'):o.wpIn (Wd ro) 0 P a w K Q:=by
 refine⟨fun f _=>Lr ro f,?_⟩;rw[Oper.semAt_eq _ _ _ h.Sj];unfold BT at h;generalize (execOp a.eval o).run P w=r at*;cases r with
 |ok n w'=>
  cases n<;>simp only[Oper.uponIn] at h⊢
  case value=>exact b _ _ h
  case skip=>exact b _ _ h
  case enter f args=>
   refine⟨Q1 ro,?_⟩;have c:CallsIn Fence.wide (0-1) P f args w' (fun e Bj=>∃v,e=.returned v∧R v Bj):=callsIn_wide.2 h;have g:CallsIn (Wd ro) (0-1) P f args w' (fun e Bj=>∃v,e=.returned v∧R v Bj):=by cases ro<;>exact c
   refine g.mono ?_;rintro e Bj ⟨v,rfl,d⟩;exact b _ _ d
  case round l f tmps assign body=>
   refine⟨Q1 ro,?_⟩;have c:RoundIn (Wd ro) (0-1) P l f tmps assign body w' (fun e Bj=>∃v,e=.returned v∧R v Bj):=by cases ro<;>exact h
   refine c.mono ?_;rintro e Bj ⟨v,rfl,d⟩;exact b _ _ d
 |halt=>exact h.elim
theorem BT.mono{P:Program}{o:Oper}{a:Act}{w:World}{R R':Value→World→Prop}(h:BT P o a w R)(b:∀v w',R v w'→R' v w'):BT P o a w R':=by
 unfold BT at*;generalize (execOp a.eval o).run P w=r at*;cases r with
 |ok n w'=>
  cases n<;>simp only[] at h⊢
  case value=>exact b _ _ h
  case skip=>exact b _ _ h
  case enter f args=>
   refine h.mono ?_;rintro e Bj ⟨v,rfl,c⟩;exact⟨v,rfl,b _ _ c⟩
  case round=>
   refine h.mono ?_;rintro e Bj ⟨v,rfl,c⟩;exact⟨v,rfl,b _ _ c⟩
 |halt=>exact h.elim
def WL(P:Program)(X:Ctx)(N:Nat)(ops:Array Oper)(Q:Exit→Act→World→Prop)(rest:List Oper)(a:Act)(l:Env)(w:World):Prop:=
 St X N a l→wpListIn (Wd X.ro) 0 P ops Q rest (BQ a l) w
section
variable{P:Program}{X:Ctx}{N:Nat}{ops:Array Oper}{Q:Exit→Act→World→Prop}{rest:List Oper}{a:Act}{l:Env}{w:World}{o:Oper}
theorem RT{R:Value→World→Prop}{d:Nat}(b:o.guard=none)(c:o.dst=some d)(e:d<N)
  (f:St X N a l→BT P o (BQ a l) w R)(g:∀v w',R v w'→WL P X N ops Q rest a ((d,v)::l) w'):WL P X N ops Q (o::rest) a l w:=fun s=>
 wpListIn_plain b fun K hK=>(f s).wp fun v w' h=>hK _ _ (by rw[c];exact g v w' h (s.cons e v))
theorem Bh{R:Value→World→Prop}(b:o.guard=none)(c:o.dst=none)
  (d:St X N a l→BT P o (BQ a l) w R)(e:∀v w',R v w'→WL P X N ops Q rest a l w'):WL P X N ops Q (o::rest) a l w:=fun s=>
 wpListIn_plain b fun K hK=>(d s).wp fun v w' f=>hK _ _ (by rw[c];exact e v w' f s)
theorem TG {d:Nat} {v:Value} {w':World} (b:o.guard=none) (c:o.dst=some d) (e:d<N)
  (f:St X N a l→BT P o (BQ a l) w (fun u Bj=>u=v∧Bj=w')) (g:WL P X N ops Q rest a ((d,v)::l) w'):WL P X N ops Q (o::rest) a l w:=
 RT b c e f (by rintro _ _ ⟨rfl,rfl⟩;exact g)
theorem Ls{j d:Nat}{b:Bool}(s:St X N a l)(f:(ops[j]?).bind (·.dst)=some d)(g:ev a l (.tmp d)=.bool b):yielded ops (BQ a l).tmps j=some b:=by
 have h:=ee s g;unfold yielded;simp only[f,Option.bind_some];have c:(BQ a l).tmps.getD d undef=.bool b:=h;rw[Array.getD_eq_getD_getElem?] at c;cases e:(BQ a l).tmps[d]? with
 |none=>rw[e] at c;simp[undef] at c
 |some u=>rw[e] at c;simp at c;rw[c]
theorem DI {R:Value→World→Prop} {d j dj:Nat} {b:Bool} (c:o.guard=some (j,b)) (e:(ops[j]?).bind (·.dst)=some dj) (f:ev a l (.tmp dj)=.bool b)
  (g:o.dst=some d) (h:d<N) (i:St X N a l→BT P o (BQ a l) w R) (k:∀v w',R v w'→WL P X N ops Q rest a ((d,v)::l) w'):WL P X N ops Q (o::rest) a l w:=fun s=>by
 have hw:Region.wanted o (yielded ops (BQ a l).tmps)=true:=by
  unfold Region.wanted;rw[c];simp[Ls s e f]
 exact wpListIn_step fun K hK=>by rw[if_pos hw];exact(i s).wp fun v w' m=>hK _ _ (by rw[g];exact k v w' m (s.cons h v))
theorem As{d j dj:Nat}{b:Bool}{v:Value}{w':World}(c:o.guard=some (j,b))(e:(ops[j]?).bind (·.dst)=some dj)(f:ev a l (.tmp dj)=.bool b)
  (g:o.dst=some d)(h:d<N)(i:St X N a l→BT P o (BQ a l) w (fun u Bj=>u=v∧Bj=w'))(k:WL P X N ops Q rest a ((d,v)::l) w'):WL P X N ops Q (o::rest) a l w:=
 DI c e f g h i (by rintro _ _ ⟨rfl,rfl⟩;exact k)
theorem Ai {d j dj:Nat} {b c:Bool} (e:o.guard=some (j,b)) (g:(ops[j]?).bind (·.dst)=some dj) (h:ev a l (.tmp dj)=.bool c) (i:c≠b)
  (k:o.dst=some d) (m:d<N) (n:WL P X N ops Q rest a ((d,undef)::l) w):WL P X N ops Q (o::rest) a l w:=fun s=>by
 have hw:Region.wanted o (yielded ops (BQ a l).tmps)=false:=by
  unfold Region.wanted;rw[e];simp[Ls s g h,i]
 exact wpListIn_step fun K hK=>by rw[if_neg (by rw[hw];simp)];exact⟨fun f _=>Lr X.ro f,hK _ _ (by rw[k];exact n (s.cons m undef))⟩
theorem J0 {d j dj:Nat} {b:Bool} (e:o.guard=some (j,b)) (g:(ops[j]?).bind (·.dst)=some dj) (i:ev a l (.tmp dj)=undef)
  (k:o.dst=some d) (m:d<N) (n:WL P X N ops Q rest a ((d,undef)::l) w):WL P X N ops Q (o::rest) a l w:=fun s=>by
 have hw:Region.wanted o (yielded ops (BQ a l).tmps)=false:=by
  have h:=ee s i;have p:yielded ops (BQ a l).tmps j=none:=by
   unfold yielded;simp only[g,Option.bind_some];have c:(BQ a l).tmps.getD dj undef=undef:=h;rw[Array.getD_eq_getD_getElem?] at c;cases q:(BQ a l).tmps[dj]? with
   |none=>rfl
   |some u=>rw[q] at c;simp at c;rw[c];rfl
  unfold Region.wanted;rw[e];simp[p]
 exact wpListIn_step fun K hK=>by rw[if_neg (by rw[hw];simp)];exact⟨fun f _=>Lr X.ro f,hK _ _ (by rw[k];exact n (s.cons m undef))⟩
end
def CW(P:Program)(ro:Option Nat)(c:Code)(Q:Exit→Act→World→Prop)(a:Act)(w:World):Prop:=c.wpIn (Wd ro) 0 P Q a w
def CC(P:Program)(X:Ctx)(N:Nat)(c:Code)(Q:Exit→Act→World→Prop)(a:Act)(l:Env)(w:World):Prop:=
 St X N a l→CW P X.ro c Q (BQ a l) w
section
variable{P:Program}{X:Ctx}{N:Nat}{Q:Exit→Act→World→Prop}{a:Act}{l:Env}{w:World}
def LV (X:Ctx) (N:Nat) (Q:Exit→Act→World→Prop) (e:Exit) (a:Act) (l:Env) (w:World):Prop:=St X N a l→Q e (BQ a l) w
theorem Ad{x y:Code}(h:CC P X N x (Exit.then (CW P X.ro y Q) Q) a l w):CC P X N (.seq x y) Q a l w:=fun s=>wpIn_seq (h s)
theorem Ab{id:Nat}{L:List Oper}(h:WL P X N L.toArray Q L a l w):CC P X N (.region id L.toArray false) Q a l w:=fun s=>wpIn_region_lit (h s)
theorem Af{ops:Array Oper}(h:LV X N Q .normal a l w):WL P X N ops Q [] a l w:=fun s=>wpListIn_nil (h s)
theorem AX(h:LV X N Q .normal a l w):CC P X N .skip Q a l w:=fun s=>wpIn_skip (h s)
theorem B7{id:Nat}(h:LV X N Q (.exit id) a l w):CC P X N (.exit id) Q a l w:=fun s=>wpIn_exit (h s)
theorem AG(h:LV X N Q .ret a l w):CC P X N .ret Q a l w:=fun s=>wpIn_ret (h s)
theorem A6{id:Nat}{c:Code}(h:CC P X N c (Exit.inBlock id Q) a l w):CC P X N (.block id c) Q a l w:=fun s=>wpIn_block (h s)
theorem Ay{c:Operand}{x y:Code}{t:Bool}(b:ev a l c=.bool t)(h:t=true)(d:CC P X N x Q a l w):CC P X N (.cond c x y) Q a l w:=fun s=>wpIn_cond_true (by rw[ee s b,h]) (d s)
theorem AJ{c:Operand}{x y:Code}{t:Bool}(b:ev a l c=.bool t)(h:t=false)(d:CC P X N y Q a l w):CC P X N (.cond c x y) Q a l w:=fun s=>wpIn_cond_false (by rw[ee s b,h]) (d s)
theorem Aa {y:Code} (h:CC P X N y Q a l w):LV X N (Exit.then (CW P X.ro y Q) Q) .normal a l w:=fun s=>h s
theorem AM{K:Act→World→Prop}{id:Nat}(h:LV X N Q (.exit id) a l w):LV X N (Exit.then K Q) (.exit id) a l w:=h
theorem Az{K:Act→World→Prop}(h:LV X N Q .ret a l w):LV X N (Exit.then K Q) .ret a l w:=h
theorem Bn{id:Nat}(h:LV X N Q .normal a l w):LV X N (Exit.inBlock id Q) .normal a l w:=h
theorem Bb{id:Nat}(h:LV X N Q .ret a l w):LV X N (Exit.inBlock id Q) .ret a l w:=h
theorem Bs{id:Nat}(h:LV X N Q .normal a l w):LV X N (Exit.inBlock id Q) (.exit id) a l w:=fun s=>by
 show(if id=id then Q .normal _ _ else Q (.exit id) _ _);rw[if_pos rfl];exact h s
theorem PW {c:Code} (I:Nat→Act→World→Prop) (m:Nat) (h0:I m a w)
  (u:∀m a w,I m a w→CW P X.ro c (Exit.then (fun a' w'=>∃j,j<m∧I j a' w') Q) a w):CW P X.ro (Code.loop c) Q a w:=by
 intro b k cs q p i;have key:∀n a w,I n a w→∃e a' w',Q e a' w'∧ArrivesIn (Machine.fenced P (Wd X.ro)) P (lone (b.atR a (.code c::.inLoop c::k)) cs w) b k cs e a' w':=by
  intro n
  induction n using Nat.strongRecOn with
  |_ n ih=>
   intro a w v;obtain⟨e,g,h,f,d⟩:=u n a w v b (.inLoop c::k) cs q p i;cases e with
   |normal=>
    obtain⟨j,r,s⟩:=f;obtain⟨y,z,aA,t,o⟩:=ih j r g h s;exact⟨y,z,aA,t,.of_steps (StepsIn.trans d (.one (fenced_calm p i rfl) stepR_inLoop)) o⟩
   |exit id=>exact⟨_,g,h,f,.pass (x:=.inLoop c) rfl (fun _ _=>.inl (by simp)) d⟩
   |goto l=>exact⟨_,g,h,f,.pass (x:=.inLoop c) rfl (fun _ _=>.inl (by simp)) d⟩
   |ret=>exact⟨_,g,h,f,.pass (x:=.inLoop c) rfl (fun _ _=>.inl (by simp)) d⟩
   |panic ch=>exact⟨_,g,h,f,.pass (x:=.inLoop c) rfl (fun _ _=>.inl (by simp)) d⟩
   |outgrown=>exact⟨_,g,h,f,.pass (x:=.inLoop c) rfl (fun _ _=>.inl (by simp)) d⟩
 obtain⟨e,a',w',f,d⟩:=key m a w h0;exact⟨e,a',w',f,.of_steps (.one (fenced_calm p i rfl) stepR_loop) d⟩
theorem Cc{c:Code}(I:Nat→Act→World→Prop)(m:Nat)(h0:St X N a l→I m (BQ a l) w)
  (d:∀m a w,I m a w→CW P X.ro c (Exit.then (fun a' w'=>∃b,b<m∧I b a' w') Q) a w):CC P X N (.loop c) Q a l w:=fun s=>
 PW I m (h0 s) d
theorem BZ {c:Code} (b:a.tmps.size=N) (d:a.defers=X.ds) (h:CC P X N c Q a [] w):CW P X.ro c Q a w:=
 h ⟨b,d,fun _ e=>by cases e⟩
theorem Bw{I:Nat→Act→World→Prop}{m:Nat}(b:Nat)(c:b<m)(h:St X N a l→I b (BQ a l) w):LV X N (Exit.then (fun a' w'=>∃b,b<m∧I b a' w') Q) .normal a l w:=
 fun s=>⟨b,c,h s⟩
end
def Bk (w:World) (b:Nat) (t:TypeId) (cs:Array Value):Prop:=w.heap[b]?=some (.cells cs t (0,0))
abbrev Ext (w w':World):Prop:=w.grownBy w' none
abbrev Gs (b:Nat) (w w':World):Prop:=w.grownBy w' (some b)
structure I3(w w':World)(b:Nat)(t:TypeId)(cs:Array Value):Prop where
 Eg:b=w.heap.size
 sz:w'.heap.size=b+1
 bk:Bk w' b t cs
 gr:Ext w w'
structure TH(w w':World)(b:Nat)(t:TypeId)(cs:Array Value):Prop where
 sz:w'.heap.size=w.heap.size
 bk:Bk w' b t cs
 gr:Gs b w w'
section
variable{w w':World}{b b':Nat}{t:TypeId}{cs:Array Value}
theorem Bk.lt(h:Bk w b t cs):b<w.heap.size:=lt_of_block h
theorem Bk.cell(h:Bk w b t cs)(i:Nat):w.cell? ⟨b,i,none⟩=cs[i]?:=cell_of_row w b i cs t (0,0) h
theorem Bk.frozen(h:Bk w b t cs)(i:Nat):w.frozen? ⟨b,i,none⟩=false:=frozen_of_row w b i cs t h
theorem Bk.ext(h:Bk w b t cs)(g:Ext w w'):Bk w' b t cs:=(g.block b h.lt (by simp)).trans h
theorem Bk.M9(h:Bk w b t cs)(g:Gs b' w w')(a:b≠b'):Bk w' b t cs:=(g.block b h.lt (by simpa using a)).trans h
theorem PX{B:Nat}{w0:World}(h:Below B w0 w)(g:Ext w w')(a:B≤w.heap.size):Below B w0 w':=h.grown g a (by simp)
theorem PY{B:Nat}{w0:World}(h:Below B w0 w)(g:Gs b w w')(a:B≤w.heap.size)(c:B≤b):Below B w0 w':=
 h.grown g a (fun k d=>by cases d;exact c)
theorem Na(h:Below w.heap.size w w'):Ext w w':=⟨h.os,h.tape,h.output,h.size,fun k a _=>h.block k a⟩
theorem J1(h:Ext w w'):Below w.heap.size w w':=⟨h.os,h.tape,h.output,h.size,fun k a=>h.block k a (by simp)⟩
theorem Ext.refl(w:World):Ext w w:=World.grownBy.refl w _
theorem Ext.trans{a b c:World}(h:Ext a b)(k:Ext b c):Ext a c:=World.grownBy.trans h k
theorem Ic(w:World)(t:TypeId)(cs:Array Value):I3 w (w.alloc (.cells cs t)) w.heap.size t cs:=
 ⟨rfl,by simp,heap_alloc_new w _,World.grownBy_alloc w _ _⟩
def Rd (w:World) (lo hi:Nat) (A:Option Addr) (cs:List Value):Prop:=
 hi≤w.heap.size∧(cs=[]∨∃b o,A=some ⟨b,o,none⟩∧lo≤b∧b<hi∧∀j u,cs[j]?=some u→w.cell? ⟨b,o+j,none⟩=some u)
section
variable{lo hi:Nat}{A:Option Addr}{cs:List Value}
theorem Rd.le(h:Rd w lo hi A cs):hi≤w.heap.size:=h.1
theorem Rd.ext(h:Rd w lo hi A cs)(g:Ext w w'):Rd w' lo hi A cs:=
 ⟨Nat.le_trans h.1 g.size,h.2.imp id fun⟨b,o,d,e,c,f⟩=>⟨b,o,d,e,c,fun j u hu=>
  (World.cell?_of_block (a:=⟨b,o+j,none⟩) (g.block b (Nat.lt_of_lt_of_le c h.1) (by simp))).trans (f j u hu)⟩⟩
theorem Rd.M9(h:Rd w lo hi A cs)(g:Gs b' w w')(i:b'<lo∨hi≤b'):Rd w' lo hi A cs:=
 ⟨Nat.le_trans h.1 g.size,h.2.imp id fun⟨b,o,d,e,c,f⟩=>⟨b,o,d,e,c,fun j u hu=>
  (World.cell?_of_block (a:=⟨b,o+j,none⟩) (g.block b (Nat.lt_of_lt_of_le c h.1) (by simp;omega))).trans (f j u hu)⟩⟩
theorem Rd.mono{c a:Nat}(h:Rd w lo hi A cs)(g:c≤lo)(i:hi≤a)(d:a≤w.heap.size):Rd w c a A cs:=
 ⟨d,h.2.imp id fun⟨b,o,e,j,k,f⟩=>⟨b,o,e,by omega,by omega,f⟩⟩
theorem Rd.wide(h:Rd w lo hi A cs):Rd w 0 w.heap.size A cs:=h.mono (Nat.zero_le _) h.le (Nat.le_refl _)
theorem Rd.nil{A:Option Addr}(a:hi≤w.heap.size):Rd w lo hi A []:=⟨a,.inl rfl⟩
theorem Rd.cells(h:Rd w lo hi A cs){b o:Nat}(c:A=some ⟨b,o,none⟩):∀j u,cs[j]?=some u→w.cell? ⟨b,o+j,none⟩=some u:=by
 rcases h.2 with rfl|⟨b',o',a,_,_,d⟩
 ·simp
 ·rw[c] at a;injection a with a
  injection a with e f
  subst e;subst f;exact d
theorem Rd.at_ (h:Rd w lo hi A cs) {k:Nat} {u:Value} (hu:cs[k]?=some u):∃b o,A=some ⟨b,o,none⟩∧lo≤b∧b<hi∧∀j u,cs[j]?=some u→w.cell? ⟨b,o+j,none⟩=some u:=by
 rcases h.2 with rfl|h
 ·simp at hu
 ·exact h
end
end
section
variable{P:Program}{a:Act}{w:World}{dst:Option Tmp}{ty:TypeId}{pos:String}{BX:Array Edge}{g:Option (Nat×Bool)}
theorem Co{o:Oper}{v:Value}{w':World}(h:(execOp a.eval o).run P w=.ok (.value v) w'):BT P o a w (fun u Bj=>u=v∧Bj=w'):=by
 unfold BT;rw[h];exact⟨rfl,rfl⟩
theorem AT{x:Operand}{v:Value}(b:a.eval x=v):BT P ⟨dst,.move x,ty,pos,BX,g⟩ a w (fun u w'=>u=v∧w'=w):=⟨b,rfl⟩
theorem Nb{x:Operand}{v:Value}(b:a.eval x=v):BT P ⟨dst,.assign x,ty,pos,BX,g⟩ a w (fun u w'=>u=v∧w'=w):=⟨b,rfl⟩
theorem AV{c x y:Operand}{t:Bool}{v:Value}(b:a.eval c=.bool t)(d:t=true)(e:a.eval x=v):BT P ⟨dst,.pick c x y,ty,pos,BX,g⟩ a w (fun u w'=>u=v∧w'=w):=
 Co (by subst d;simp[execOp,b,asBool,e])
theorem Bx{c x y:Operand}{t:Bool}{v:Value}(b:a.eval c=.bool t)(d:t=false)(e:a.eval y=v):BT P ⟨dst,.pick c x y,ty,pos,BX,g⟩ a w (fun u w'=>u=v∧w'=w):=
 Co (by subst d;simp[execOp,b,asBool,e])
theorem BL{e:TypeId}{z:Value}{cs:Array Value}(d:(P.info? e).bind (·.zero)=some z)(f:z.cells=cs):
  BT P ⟨dst,.alloc e,ty,pos,BX,g⟩ a w (fun u w'=>∃b,u=.pointer (some ⟨b,0,none⟩)∧I3 w w' b e cs):=by
 have h:(Instr.alloc e true (.tuple #[])).run P w=.ok (.pointer (some ⟨w.heap.size,0,none⟩)) (w.alloc (.cells cs e)):=by
  obtain⟨i,hi,c⟩:=Option.bind_eq_some_iff.1 d;simp[Instr.alloc,zeroValue,typeInfo,hi,c,newVar,newRow,newObj,program,Sem.run,f]
 unfold BT;simp only[execOp,Sem.run_bind,h,Result.andThen_ok,Sem.run_pure];exact⟨_,rfl,Ic w e cs⟩
theorem B1{e:TypeId}{x:Operand}{v:Value}{cs:Array Value}(c:a.eval x=v)(d:v.cells=cs):
  BT P ⟨dst,.box e x,ty,pos,BX,g⟩ a w (fun u w'=>∃b,u=.pointer (some ⟨b,0,none⟩)∧I3 w w' b e cs):=by
 have h:(Instr.box e (a.eval x)).run P w=.ok (.pointer (some ⟨w.heap.size,0,none⟩)) (w.alloc (.cells cs e)):=by
  simp[Instr.box,newVar,newRow,newObj,Sem.run,c,d]
 unfold BT;simp only[execOp,Sem.run_bind,h,Result.andThen_ok,Sem.run_pure];exact⟨_,rfl,Ic w e cs⟩
theorem IM{o:Oper}{S:Sem Value}{v:Value}{w':World}(b:execOp a.eval o=(do pure (.value (←S))))(h:S.run P w=.ok v w'):BT P o a w (fun u Bj=>u=v∧Bj=w'):=
 Co (by rw[b];simp[h])
theorem C7{t:TypeId}{ps:Array (Nat×Operand)}{vs:Array (Nat×Value)}{v:Value}(b:ps.map (fun(i,x)=>(i,a.eval x))=vs)(h:(Instr.build t vs).run P w=.ok v w):
  BT P ⟨dst,.build t ps,ty,pos,BX,g⟩ a w (fun u w'=>u=v∧w'=w):=IM (S:=Instr.build t vs) (by simp only[execOp];rw[b]) h
theorem BH{t e:TypeId}{n:Nat}{ps:Array (Nat×Operand)}{vs:Array (Nat×Value)}{cs:Array Value}(c:ps.map (fun(i,x)=>(i,a.eval x))=vs)
  (h:(Instr.buildSlice t n vs).run P w=.ok (.slice (some ⟨w.heap.size,0,none⟩) n n) (w.alloc (.cells cs e))):
  BT P ⟨dst,.buildSlice t n ps,ty,pos,BX,g⟩ a w (fun u w'=>∃b,u=.slice (some ⟨b,0,none⟩) n n∧I3 w w' b e cs):=
 (IM (S:=Instr.buildSlice t n vs) (by simp only[execOp];rw[c]) h).mono fun u w' ⟨hu,hw⟩=>⟨_,hu,by rw[hw];exact Ic w e cs⟩
def E0(P:Program)(t:TypeId)(n:Nat):Prop:=(match P.underlying t with|some (.struct _)|some (.array ..)=>true|_=>false)=true∧(P.info? t).map (·.size)=some n
def One(P:Program)(t:TypeId):Prop:=(match P.underlying t with|some (.struct _)|some (.array ..)|none=>false|_=>true)=true∧(P.info? t).map (·.size)=some 1
theorem Oo{t:TypeId}{n:Nat}(h:E0 P t n):(isAgg t).run P w=.ok true w:=by
 unfold isAgg;cases hu:P.underlying t with
 |none=>simp[E0,hu] at h
 |some d=>cases d<;>simp[E0,hu] at h<;>simp[underlying,program,Sem.run,hu]
theorem I4{t:TypeId}(h:One P t):(isAgg t).run P w=.ok false w:=by
 unfold isAgg;cases hu:P.underlying t with
 |none=>simp[One,hu] at h
 |some d=>cases d<;>simp[One,hu] at h<;>simp[underlying,program,Sem.run,hu]
theorem HG{t:TypeId}{n:Nat}(h:(P.info? t).map (·.size)=some n):(sizeOf t).run P w=.ok n w:=by
 obtain⟨i,hi,a⟩:=Option.map_eq_some_iff.1 h;simp[sizeOf,typeInfo,program,Sem.run,hi,a]
theorem E5(b o j:Nat):(⟨b,o,none⟩:Addr).add j=⟨b,o+j,none⟩:=by unfold Addr.add;split<;>simp_all
theorem EV{t:TypeId}{ad:Addr}{v:Value}(h:One P t)(a:w.cell? ad=some v):(loadVar t ad).run P w=.ok v w:=by
 simp[loadVar,I4 h,load,Sem.run,a]
theorem J2{t:TypeId}{n b o:Nat}{cs:List Value}(h:E0 P t n)(a:cs.length=n)(c:∀j u,cs[j]?=some u→w.cell? ⟨b,o+j,none⟩=some u):(loadVar t ⟨b,o,none⟩).run P w=.ok (.agg cs.toArray) w:=by
 have d:=run_loadCells_list (P:=P) (w:=w) ⟨b,o,none⟩ cs (fun j v e=>by rw[E5];exact c j v e);subst a;simp[loadVar,Oo h,HG h.2,d]
theorem Lt{t:TypeId}{x:Operand}{ad:Addr}{v:Value}(b:a.eval x=.pointer (some ad))(h:(loadVar t ad).run P w=.ok v w):BT P ⟨dst,.load t x,ty,pos,BX,g⟩ a w (fun u w'=>u=v∧w'=w):=
 IM (S:=Instr.loadAt t (a.eval x)) rfl (by simp[Instr.loadAt,Instr.sureAddr,b,h])
theorem Ar {t c:TypeId} {x:Operand} {b o:Nat} {cs:Array Value} {v:Value} (h:One P t) (d:a.eval x=.pointer (some ⟨b,o,none⟩)) (e:Bk w b c cs) (f:cs.toList[o]?=some v):
  BT P ⟨dst,.load t x,ty,pos,BX,g⟩ a w (fun u w'=>u=v∧w'=w):=Lt d (EV h ((e.cell o).trans (by simpa using f)))
theorem Bi {t c:TypeId} {x:Operand} {n b o:Nat} {cs:Array Value} {l:List Value} (h:E0 P t n) (d:a.eval x=.pointer (some ⟨b,o,none⟩)) (e:Bk w b c cs) (f:(cs.toList.drop o).take n=l) (i:l.length=n):
  BT P ⟨dst,.load t x,ty,pos,BX,g⟩ a w (fun u w'=>u=.agg l.toArray∧w'=w):=Lt d (J2 h i fun j u hu=>by
 rw[e.cell];subst f;rw[List.getElem?_take] at hu;split at hu
 ·simpa using hu
 ·cases hu)
theorem MC {t:TypeId} {x:Operand} {b o k:Nat} {cs:List Value} {v:Value} (h:One P t) (c:a.eval x=.pointer (some ⟨b,o+k,none⟩)) (d:∀j u,cs[j]?=some u→w.cell? ⟨b,o+j,none⟩=some u) (e:cs[k]?=some v):
  BT P ⟨dst,.load t x,ty,pos,BX,g⟩ a w (fun u w'=>u=v∧w'=w):=Lt c (EV h (d k v e))
theorem Pn {t:TypeId} {x:Operand} {n b o k:Nat} {cs l:List Value} (h:E0 P t n) (c:a.eval x=.pointer (some ⟨b,o+k,none⟩)) (d:∀j u,cs[j]?=some u→w.cell? ⟨b,o+j,none⟩=some u)
  (e:(cs.drop k).take n=l) (f:l.length=n):BT P ⟨dst,.load t x,ty,pos,BX,g⟩ a w (fun u w'=>u=.agg l.toArray∧w'=w):=Lt c (J2 h f fun j u hu=>by
 rw[Nat.add_assoc];refine d _ _ ?_;subst e;rw[List.getElem?_take] at hu;split at hu
 ·simpa using hu
 ·cases hu)
def setCells(cs:Array Value)(o:Nat):List Value→Array Value
 |[]=>cs
 |v::l=>setCells (cs.setIfInBounds o v) (o+1) l
theorem Es(o:Nat):∀(l:List Value) (cs:Array Value) (o:Nat),(setCells cs o l).size=cs.size
 |[],_,_=>rfl
 |v::l,cs,o=>by simp[setCells,Es o l]
theorem H9{b:Nat}{t:TypeId}{o:Nat}:∀(l:List Value) (i:Nat) (cs:Array Value) (w:World),Bk w b t cs→o+i+l.length≤cs.size→(∀u∈l,u.oneCell'=true)→
  ∃w',(storeCells ⟨b,o,none⟩ l i).run P w=.ok () w'∧TH w w' b t (setCells cs (o+i) l)
 |[],i,cs,w,h,_,_=>⟨w,by simp[storeCells],rfl,h,World.grownBy.refl w _⟩
 |v::l,i,cs,w,h,hle,c=>by
  have d:o+i<cs.size:=by simp at hle;omega
  have g:=c v (List.mem_cons_self ..);have a:w.cell? ⟨b,o+i,none⟩=some cs[o+i]:=by rw[h.cell];simp[d]
  have e:(store ((⟨b,o,none⟩:Addr).add i) v).run P w=.ok () (w.setCell ⟨b,o+i,none⟩ v):=by
   rw[E5];cases v<;>simp[Value.oneCell'] at g<;>simp[store,Sem.run,a,h.frozen]
  have j:Bk (w.setCell ⟨b,o+i,none⟩ v) b t (cs.setIfInBounds (o+i) v):=by
   unfold Bk at h⊢;simp[World.setCell,Array.getElem?_modify,h]
  obtain⟨w',m,s1,s2,n⟩:=H9 (o:=o) l (i+1) _ _ j (by simp at hle⊢;omega) (fun u hu=>c u (List.mem_cons_of_mem _ hu));refine⟨w',?_,by rw[s1];simp,s2,?_⟩
  ·simp only[storeCells,Sem.run_bind,e,Result.andThen_ok,m]
  ·have g1:Gs b w (w.setCell ⟨b,o+i,none⟩ v):=⟨rfl,rfl,rfl,by simp,fun k _ f=>Below.heap_setCell w ⟨b,o+i,none⟩ v k (by simpa using f)⟩;exact World.grownBy.trans g1 n
theorem Be{t d:TypeId}{x y:Operand}{n b o:Nat}{v:Value}{cs B6:Array Value}{l:List Value}(i:a.eval x=.pointer (some ⟨b,o,none⟩))(j:a.eval y=v)(k:(P.info? t).map (·.size)=some n)(m:Bk w b d cs)
  (e:v.cells.toList=l)(p:l.length=n)(hle:o+n≤cs.size)(q:∀u∈l,u.oneCell'=true)(r:setCells cs o l=B6):
  BT P ⟨dst,.store t x y,ty,pos,BX,g⟩ a w (fun _ w'=>TH w w' b d B6):=by
 obtain⟨w',s,c⟩:=H9 (P:=P) (t:=d) (o:=o) l 0 cs w m (by omega) q;have f:v.cells.size=n:=by rw[←p,←e];simp
 have h:(Instr.storeAt t (a.eval x) (a.eval y)).run P w=.ok () w':=by
  simp[Instr.storeAt,Instr.sureAddr,i,j,storeVar,HG k,f,e,s]
 unfold BT;simp only[execOp,Sem.run_bind,h,Result.andThen_ok,Sem.run_pure];rw[Nat.add_zero,r] at c;exact c
theorem Fy{x:Operand}{ad:Addr}(b:a.eval x=.pointer (some ad)):BT P ⟨dst,.nilCheck x,ty,pos,BX,g⟩ a w (fun u w'=>u=.pointer (some ad)∧w'=w):=
 Co (by simp[execOp,b])
def fits(x:Int):Prop:=-9223372036854775808≤x∧x≤9223372036854775807
theorem HH{x:Int}(h:fits x):IntKind.i64.wrap x=x:=by
 rw[IntKind.wrap_i64];unfold fits at h;omega
theorem Bv{x y:Operand}{m n:Int}{t b:TypeId}(c:a.eval x=.int .i64 m)(d:a.eval y=.int .i64 n)(e:fits (m+n)):BT P ⟨dst,.binOp .add t x y b,ty,pos,BX,g⟩ a w (fun u w'=>u=.int .i64 (m+n)∧w'=w):=
 Co (by simp[execOp,c,d,eqGuard,binOp,Op.intArith,HH e])
theorem Hl{x y:Operand}{m n:Int}{t b:TypeId}(c:a.eval x=.int .i64 m)(d:a.eval y=.int .i64 n)(e:fits (m-n)):BT P ⟨dst,.binOp .sub t x y b,ty,pos,BX,g⟩ a w (fun u w'=>u=.int .i64 (m-n)∧w'=w):=
 Co (by simp[execOp,c,d,eqGuard,binOp,Op.intArith,HH e])
theorem RU{x y:Operand}{m n:Int}{t b:TypeId}(c:a.eval x=.int .i64 m)(d:a.eval y=.int .i64 n)(e:fits (m*n)):BT P ⟨dst,.binOp .mul t x y b,ty,pos,BX,g⟩ a w (fun u w'=>u=.int .i64 (m*n)∧w'=w):=
 Co (by simp[execOp,c,d,eqGuard,binOp,Op.intArith,HH e])
theorem KC{x y:Operand}{k:IntKind}{m n:Int}{t b:TypeId}(c:a.eval x=.int k m)(d:a.eval y=.int k n)(h0:0≤m)(h:1≤n):BT P ⟨dst,.binOp .rem t x y b,ty,pos,BX,g⟩ a w (fun u w'=>u=.int k (m%n)∧w'=w):=
 Co (by
  have e:m.tmod n=m%n:=Int.tmod_eq_emod_of_nonneg h0;have f:¬n=0:=by omega
  simp[execOp,c,d,eqGuard,binOp,Op.intDiv,f,e])
theorem OE(op:BinOp)(t:TypeId)(x y:Operand)(k:IntKind)(m n:Int):(eqGuard op t x y (.int k m) (.int k n)).run P w=.ok () w:=by
 unfold eqGuard;cases op<;>rfl
theorem CE{x y:Operand}{k:IntKind}{m n:Int}{t b:TypeId}(c:a.eval x=.int k m)(d:a.eval y=.int k n):BT P ⟨dst,.binOp .eql t x y b,ty,pos,BX,g⟩ a w (fun u w'=>u=.bool (m==n)∧w'=w):=
 Co (by simp[execOp,c,d,OE,binOp,Op.intCmp])
theorem Gu{x y:Operand}{k:IntKind}{m n:Int}{t b:TypeId}(c:a.eval x=.int k m)(d:a.eval y=.int k n):BT P ⟨dst,.binOp .neq t x y b,ty,pos,BX,g⟩ a w (fun u w'=>u=.bool (m !=n)∧w'=w):=
 Co (by simp[execOp,c,d,OE,binOp,Op.intCmp])
theorem Cv{x y:Operand}{k:IntKind}{m n:Int}{t b:TypeId}(c:a.eval x=.int k m)(d:a.eval y=.int k n):BT P ⟨dst,.binOp .lss t x y b,ty,pos,BX,g⟩ a w (fun u w'=>u=.bool (decide (m<n))∧w'=w):=
 Co (by simp[execOp,c,d,OE,binOp,Op.intCmp])
theorem EK{x y:Operand}{k:IntKind}{m n:Int}{t b:TypeId}(c:a.eval x=.int k m)(d:a.eval y=.int k n):BT P ⟨dst,.binOp .leq t x y b,ty,pos,BX,g⟩ a w (fun u w'=>u=.bool (decide (m≤n))∧w'=w):=
 Co (by simp[execOp,c,d,OE,binOp,Op.intCmp])
theorem FM{x y:Operand}{k:IntKind}{m n:Int}{t b:TypeId}(c:a.eval x=.int k m)(d:a.eval y=.int k n):BT P ⟨dst,.binOp .gtr t x y b,ty,pos,BX,g⟩ a w (fun u w'=>u=.bool (decide (n<m))∧w'=w):=
 Co (by simp[execOp,c,d,OE,binOp,Op.intCmp])
theorem Lu{x y:Operand}{k:IntKind}{m n:Int}{t b:TypeId}(c:a.eval x=.int k m)(d:a.eval y=.int k n):BT P ⟨dst,.binOp .geq t x y b,ty,pos,BX,g⟩ a w (fun u w'=>u=.bool (decide (n≤m))∧w'=w):=
 Co (by simp[execOp,c,d,OE,binOp,Op.intCmp])
theorem Po {op:BinOp} {x y:Operand} {v v1 v2:Value} {t b:TypeId} (c:a.eval x=v1) (d:a.eval y=v2) (h:(do eqGuard op t x y v1 v2;binOp op t v1 v2:Sem Value).run P w=.ok v w):BT P ⟨dst,.binOp op t x y b,ty,pos,BX,g⟩ a w (fun u w'=>u=v∧w'=w):=
 IM (S:=do eqGuard op t x y v1 v2;binOp op t v1 v2) (by simp only[execOp,c,d]) h
theorem DN{x:Operand}{b:Bool}{t:TypeId}(c:a.eval x=.bool b):BT P ⟨dst,.unOp .not t x,ty,pos,BX,g⟩ a w (fun u w'=>u=.bool (!b)∧w'=w):=
 Co (by simp[execOp,c,Op.unary])
theorem Lv{s t:TypeId}{k k':IntKind}{x:Operand}{n:Int}(b:(P.underlying s).isSome=true)(c:P.underlying t=some (.int k))(e:a.eval x=.int k' n)(f:k.wrap n=n):BT P ⟨dst,.convert s t x,ty,pos,BX,g⟩ a w (fun u w'=>u=.int k n∧w'=w):=by
 obtain⟨d,h⟩:=Option.isSome_iff_exists.1 b;exact Co (by cases d<;>simp[execOp,e,convert,underlying,program,Sem.run,h,c,Conv.intToInt,f])
theorem Et{fn:Fn}{b cs:Array Operand}{vs us:Array Value}(c:b.map a.eval=vs)(d:cs.map a.eval=us):BT P ⟨dst,.makeFunc fn b cs,ty,pos,BX,g⟩ a w (fun u w'=>u=.func fn vs us∧w'=w):=
 Co (by simp[execOp,Instr.makeFunc,c,d])
theorem Am{s:TypeId}{x:Operand}{i:Nat}{ad b:Addr}(c:a.eval x=.pointer (some ad))(h:(Instr.fieldAt s (.pointer (some ad)) i).run P w=.ok (.pointer (some b)) w):BT P ⟨dst,.fieldAddr s x i,ty,pos,BX,g⟩ a w (fun u w'=>u=.pointer (some b)∧w'=w):=
 IM (S:=Instr.fieldAt s (.pointer (some ad)) i) (by simp only[execOp,c]) h
theorem BD{x:Operand}{i:Nat}{vs:Array Value}{v:Value}(b:a.eval x=.tuple vs)(h:vs[i]?=some v):BT P ⟨dst,.extract x i,ty,pos,BX,g⟩ a w (fun u w'=>u=v∧w'=w):=
 Co (by simp[execOp,b,Instr.extract,h])
theorem OF{t:TypeId}{x:Operand}{lo hi:Option Operand}{v:Value}{b c:Option Value}{v':Value}(d:a.eval x=v)(e:lo.map a.eval=b)(f:hi.map a.eval=c)(h:(Instr.sliceAt t v b c none).run P w=.ok v' w):BT P ⟨dst,.slice t x lo hi none,ty,pos,BX,g⟩ a w (fun u w'=>u=v'∧w'=w):=
 IM (S:=Instr.sliceAt t v b c none) (by simp only[execOp,d,e,f,Option.map_none]) h
theorem KV {t e:TypeId} {x y:Operand} {sz b o n c k:Nat} {i:Int} {d:IntKind} (f:P.underlying t=some (.slice e)) (h:(P.info? e).map (·.size)=some sz) (j:a.eval x=.slice (some ⟨b,o,none⟩) n c) (l:a.eval y=.int d i)
  (hi:i=k) (m:k<n):BT P ⟨dst,.indexAddr t x y,ty,pos,BX,g⟩ a w (fun u w'=>u=.pointer (some ⟨b,o+k*sz,none⟩)∧w'=w):=
 Co (by
  subst hi;have p:(0:Int)≤k∧(k:Int)<n:=⟨by omega,by omega⟩;have q:¬n≤k:=by omega
  simp[execOp,j,l,Instr.indexAt,asIntOf,underlying,program,Sem.run,f,p,HG h,E5,m,q])
theorem Nc {t e:TypeId} {x y:Operand} {sz b o n k:Nat} {i:Int} {c:IntKind} (d:P.underlying t=some (.array n e)) (f:(P.info? e).map (·.size)=some sz) (h:a.eval x=.pointer (some ⟨b,o,none⟩)) (j:a.eval y=.int c i)
  (hi:i=k) (l:k<n):BT P ⟨dst,.indexAddr t x y,ty,pos,BX,g⟩ a w (fun u w'=>u=.pointer (some ⟨b,o+k*sz,none⟩)∧w'=w):=
 Co (by
  subst hi;have m:(0:Int)≤k∧(k:Int)<n:=⟨by omega,by omega⟩;have p:¬n≤k:=by omega
  simp[execOp,h,j,Instr.indexAt,asIntOf,underlying,program,Sem.run,d,m,HG f,E5,Instr.sureAddr,l,p])
theorem BO{t e:TypeId}{x:Operand}{A:Option Addr}{n c:Nat}(b:P.underlying t=some (.slice e))(d:a.eval x=.slice A n c):BT P ⟨dst,.call {callee:=.builtin .len,args:= #[x],argTypes:= #[t]},ty,pos,BX,g⟩ a w (fun u w'=>u=.int .i64 n∧w'=w):=
 Co (by simp[execOp,resolve,invoke,builtin,Builtin.len_,d,underlying,program,Sem.run,b,goInt])
theorem U0{x y:Operand}{m n:Int}{t b:TypeId}(c:a.eval x=.int .i64 m)(d:a.eval y=.int .i64 n):BT P ⟨dst,.call {callee:=.builtin .max,args:= #[x,y],argTypes:= #[t,b]},ty,pos,BX,g⟩ a w (fun u w'=>u=.int .i64 (max m n)∧w'=w):=
 Co (by
  have e:(if m<n then n else m)=max m n:=by omega
  simp[execOp,resolve,invoke,builtin,Builtin.max_,c,d,Builtin.max2,e])
theorem RV{x y:Operand}{m n:Int}{t b:TypeId}(c:a.eval x=.int .i64 m)(d:a.eval y=.int .i64 n):BT P ⟨dst,.call {callee:=.builtin .min,args:= #[x,y],argTypes:= #[t,b]},ty,pos,BX,g⟩ a w (fun u w'=>u=.int .i64 (min m n)∧w'=w):=
 Co (by
  have e:(if n<m then n else m)=min m n:=by omega
  simp[execOp,resolve,invoke,builtin,Builtin.min_,c,d,Builtin.min2,e])
def BU (P:Program) (f:FuncId) (args:Array Value) (w:World) (R:Value→World→Prop):Prop:=Calls P f args w (fun e w'=>∃v,e=.returned v∧R v w')
theorem BU.mono{f:FuncId}{args:Array Value}{R R':Value→World→Prop}(h:BU P f args w R)(a:∀v w',R v w'→R' v w'):BU P f args w R':=
 Calls.mono h fun _ _ ⟨v,he,b⟩=>⟨v,he,a _ _ b⟩
def Bp (P:Program) (f:FuncId):Prop:=(match P.funcs[f]? with|some fn=>fn.name !="runtime.NumGoroutine"&&fn.body.isSome|none=>false)=true
theorem J3{f:FuncId}(h:Bp P f)(args:Array Value):(callFunc f args).run P w=.ok (.enter f args) w:=by
 unfold Bp at h;unfold callFunc;cases a:P.funcs[f]? with
 |none=>simp[a] at h
 |some fn=>
  simp only[a,Bool.and_eq_true,bne_iff_ne,ne_eq] at h;obtain⟨b,c⟩:=h;have e:fn.body.isNone=false:=by cases g:fn.body<;>simp_all
  have d:¬fn.body=none:=by intro h;simp[h] at c
  simp[program,Sem.run,a,b,d]
theorem Jb{f:Operand}{xs:Array Operand}{b:Array TypeId}{fn:FuncId}{first cap vs all:Array Value}{R:Value→World→Prop}(c:Bp P fn)(d:a.eval f=.func (.func fn) first cap)(e:xs.map a.eval=vs)(i:first++vs++cap=all)
  (h:BU P fn all w R):BT P ⟨dst,.call {callee:=.value f,args:=xs,argTypes:=b},ty,pos,BX,g⟩ a w R:=by
 have j:(execOp a.eval ⟨dst,.call {callee:=.value f,args:=xs,argTypes:=b},ty,pos,BX,g⟩).run P w=.ok (.enter fn all) w:=by
  simp only[execOp,resolve,d,e,Deferred.ofValue];simp only[Sem.run_bind,Sem.run_pure,Result.andThen_ok,invoke,J3 c,i]
 unfold BT;rw[j];exact h
theorem Ia{f:Operand→Value}:(#[]:Array Operand).map f= #[]:=by simp
theorem CF{f:Operand→Value}{a:Operand}{v0:Value}(h0:f a=v0): #[a].map f= #[v0]:=by simp[h0]
theorem Ex{f:Operand→Value}{a x1:Operand}{v0 v1:Value}(h0:f a=v0)(b:f x1=v1): #[a,x1].map f= #[v0,v1]:=by simp[h0,b]
theorem FB{f:Operand→Value}{a x1 x2:Operand}{v0 v1 v2:Value}(h0:f a=v0)(b:f x1=v1)(c:f x2=v2): #[a,x1,x2].map f= #[v0,v1,v2]:=by simp[h0,b,c]
theorem TI{f:Operand→Value}{a x1 x2 b:Operand}{v0 v1 v2 v3:Value}(h0:f a=v0)(c:f x1=v1)(d:f x2=v2)(e:f b=v3): #[a,x1,x2,b].map f= #[v0,v1,v2,v3]:=by simp[h0,c,d,e]
theorem Vz{f:Operand→Value}{a x1 x2 b c:Operand}{v0 v1 v2 v3 v4:Value}(h0:f a=v0)(d:f x1=v1)(e:f x2=v2)(g:f b=v3)(h:f c=v4): #[a,x1,x2,b,c].map f= #[v0,v1,v2,v3,v4]:=by simp[h0,d,e,g,h]
theorem JX{f:Operand→Value}:(#[]:Array (Nat×Operand)).map (fun(i,x)=>(i,f x))= #[]:=by simp
theorem Hm{f:Operand→Value}{i0:Nat}{a:Operand}{v0:Value}(h0:f a=v0): #[(i0,a)].map (fun(i,x)=>(i,f x))= #[(i0,v0)]:=by simp[h0]
theorem IN{f:Operand→Value}{i0 i1:Nat}{a x1:Operand}{v0 v1:Value}(h0:f a=v0)(b:f x1=v1): #[(i0,a),(i1,x1)].map (fun(i,x)=>(i,f x))= #[(i0,v0),(i1,v1)]:=by simp[h0,b]
theorem J4{f:Operand→Value}{i0 i1 i2:Nat}{a x1 x2:Operand}{v0 v1 v2:Value}(h0:f a=v0)(b:f x1=v1)(c:f x2=v2): #[(i0,a),(i1,x1),(i2,x2)].map (fun(i,x)=>(i,f x))= #[(i0,v0),(i1,v1),(i2,v2)]:=by simp[h0,b,c]
theorem TJ{f:Operand→Value}{i0 i1 i2 i3:Nat}{a x1 x2 b:Operand}{v0 v1 v2 v3:Value}(h0:f a=v0)(c:f x1=v1)(d:f x2=v2)(e:f b=v3): #[(i0,a),(i1,x1),(i2,x2),(i3,b)].map (fun(i,x)=>(i,f x))= #[(i0,v0),(i1,v1),(i2,v2),(i3,v3)]:=by simp[h0,c,d,e]
theorem Ba {f:FuncId} {fn:Func} {c:Code} {args:Array Value} {N:Nat} {R:Value→World→Prop} (b:P.funcs[f]?=some fn) (d:fn.body=some c) (g:fn.ntmps=N) (j:args.size≤N)
  (h:∀a:Act,a.tmps=args++Array.replicate (N-args.size) undef→a.defers=[]→CC P X0 N c (bodyPost P fn (fun e w'=>∃v,e=.returned v∧R v w')) a [] w):BU P f args w R:=by
 refine calls_of_wp b d ?_;rw[g];have:=h {tmps:=args++Array.replicate (N-args.size) undef,defers:=[]} rfl rfl;exact wpIn_wide.1 (this ⟨by simp;omega,rfl,fun _ i=>by cases i⟩)
theorem AK{a:Act}{args:Array Value}{n i:Nat}{v:Value}(h:a.tmps=args++Array.replicate n undef)(hi:args[i]?=some v):sl a i=v:=by
 obtain⟨b,he⟩:=Array.getElem?_eq_some_iff.1 hi;unfold sl;rw[h,Array.getD_eq_getD_getElem?,Array.getElem?_append_left b,hi];rfl
theorem AQ {fn:Func} {N t:Nat} {a:Act} {l:Env} {v:Value} {R:Value→World→Prop} (b:fn.results= #[.tmp t]) (c:ev a l (.tmp t)=v) (h:R v w):LV X0 N (bodyPost P fn (fun e w'=>∃v,e=.returned v∧R v w')) .ret a l w:=fun s=>
 bodyPost_ret (results_tmp b _ _ _) (by rw[Dp,s.df]) ⟨_,rfl,by rw[show(BQ a l).tmps.getD t undef=v from ee s c];exact h⟩
theorem FO{fn:Func}{N t u:Nat}{a:Act}{l:Env}{v v':Value}{R:Value→World→Prop}(b:fn.results= #[.tmp t,.tmp u])(c:ev a l (.tmp t)=v)(hu:ev a l (.tmp u)=v')(h:R (.tuple #[v,v']) w):
  LV X0 N (bodyPost P fn (fun e w'=>∃v,e=.returned v∧R v w')) .ret a l w:=fun s=>
 bodyPost_ret (results_tmp2 b _ _ _) (by rw[Dp,s.df]) ⟨_,rfl,by rw[show(BQ a l).tmps.getD t undef=v from ee s c,show(BQ a l).tmps.getD u undef=v' from ee s hu];exact h⟩
theorem GF {fn:Func} {N p:Nat} {t:TypeId} {a:Act} {l:Env} {ad:Addr} {v:Value} {R:Value→World→Prop} (c:fn.results= #[.cell p t]) (d:ev a l (.tmp p)=.pointer (some ad)) (f:(loadVar t ad).run P w=.ok v w) (h:R v w):
  LV X0 N (bodyPost P fn (fun e w'=>∃v,e=.returned v∧R v w')) .ret a l w:=fun s=>by
 have b:(BQ a l).tmps.getD p undef=.pointer (some ad):=ee s d;refine bodyPost_ret (v:=v) ?_ (by rw[Dp,s.df]) ⟨_,rfl,h⟩;simp only[Array.getD_eq_getD_getElem?] at b;simp[results,c,b,asAddr,f]
theorem KD{fn:Func}{N:Nat}{a:Act}{l:Env}{R:Value→World→Prop}(b:fn.results= #[])(h:R (.tuple #[]) w):LV X0 N (bodyPost P fn (fun e w'=>∃v,e=.returned v∧R v w')) .normal a l w:=fun s=>
 bodyPost_end (results_none b _ _ _) (by rw[Dp,s.df]) ⟨_,rfl,h⟩
end
section
variable{P:Program}{a:Act}{w:World}{dst:Option Tmp}{ty:TypeId}{pos:String}{BX:Array Edge}{g:Option (Nat×Bool)}
def Cd(l:List Int):List Value:=l.map (Value.int .i64)
def EY(l:List Int):Value:=.agg (Cd l).toArray
theorem FP(l:List Int):(Cd l).length=l.length:=by simp[Cd]
theorem Sk(l:List Int)(k:Nat)(h:k<l.length):(Cd l)[k]?=some (.int .i64 (l.getD k 0)):=by
 simp[Cd,List.getElem?_eq_getElem h]
theorem Q2(l:List Int)(k:Nat)(h:k<l.length):(Cd l).toArray[k]?=some (.int .i64 (l.getD k 0)):=by
 simpa using Sk l k h
theorem Da{t a:TypeId}{n b o:Nat}{cs:Array Value}{l:List Value}(h:E0 P t n)(c:Bk w b a cs)(d:(cs.toList.drop o).take n=l)(e:l.length=n):(loadVar t ⟨b,o,none⟩).run P w=.ok (.agg l.toArray) w:=
 J2 h e fun j u hu=>by
  rw[c.cell];subst d;rw[List.getElem?_take] at hu;split at hu
  ·simpa using hu
  ·cases hu
theorem AO{f:Operand}{xs:Array Operand}{b:Array TypeId}{fn:FuncId}{vs:Array Value}{R:Value→World→Prop}(c:Bp P fn)(d:a.eval f=.func (.func fn) #[] #[])(e:xs.map a.eval=vs)
  (h:BU P fn vs w R):BT P ⟨dst,.call {callee:=.value f,args:=xs,argTypes:=b},ty,pos,BX,g⟩ a w R:=
 Jb c d e (by simp) h
theorem FQ {t e:TypeId} {x y:Operand} {b n k:Nat} {i:Int} {c:IntKind} (d:P.underlying t=some (.array n e)) (f:(P.info? e).map (·.size)=some 1) (h:a.eval x=.pointer (some ⟨b,0,none⟩)) (j:a.eval y=.int c i)
  (hi:i=k) (l:k<n):BT P ⟨dst,.indexAddr t x y,ty,pos,BX,g⟩ a w (fun u w'=>u=.pointer (some ⟨b,k,none⟩)∧w'=w):=by
 have:=Nc (P:=P) (a:=a) (w:=w) (dst:=dst) (ty:=ty) (pos:=pos) (BX:=BX) (g:=g) d f h j hi l;simpa using this
theorem A8{t e:TypeId}{x y:Operand}{b o n c k:Nat}{A:Option Addr}{i:Int}{d:IntKind}(f:P.underlying t=some (.slice e))(h:(P.info? e).map (·.size)=some 1)(j:a.eval x=.slice A n c)(l:A=some ⟨b,o,none⟩)(m:a.eval y=.int d i)
  (hi:i=k)(p:k<n):BT P ⟨dst,.indexAddr t x y,ty,pos,BX,g⟩ a w (fun u w'=>u=.pointer (some ⟨b,o+k,none⟩)∧w'=w):=by
 subst l;have:=KV (P:=P) (a:=a) (w:=w) (dst:=dst) (ty:=ty) (pos:=pos) (BX:=BX) (g:=g) f h j m hi p;simpa using this
theorem CO{t e:TypeId}{x y:Operand}{sz b o n c k:Nat}{A:Option Addr}{i:Int}{d:IntKind}(f:P.underlying t=some (.slice e))(h:(P.info? e).map (·.size)=some sz)(j:a.eval x=.slice A n c)(l:A=some ⟨b,o,none⟩)(m:a.eval y=.int d i)
  (hi:i=k)(p:k<n):BT P ⟨dst,.indexAddr t x y,ty,pos,BX,g⟩ a w (fun u w'=>u=.pointer (some ⟨b,o+k*sz,none⟩)∧w'=w):=by
 subst l;exact KV f h j m hi p
theorem Ap(b:Bool):b=true∨b=false:=by cases b<;>simp
theorem AL{l:List Value}(h:l.all (·.oneCell')=true):∀u∈l,u.oneCell'=true:=by simpa using h
theorem ec{a:Act}{v:Value}:a.eval (.const v)=v:=rfl
theorem es{a:Act}{t:Nat}{v:Value}(h:sl a t=v):a.eval (.tmp t)=v:=h
theorem Ae{v:Value}{b c:Bool}(h:v=.bool b)(a:b=c):v=.bool c:=by rw[h,a]
theorem TK{w0 w w':World}(h:Below w0.heap.size w0 w)(g:Ext w w'):Below w0.heap.size w0 w':=PX h g h.size
theorem TL{w0 w w':World}{b:Nat}(h:Below w0.heap.size w0 w)(g:Gs b w w')(a:w0.heap.size≤b):Below w0.heap.size w0 w':=PY h g h.size a
theorem Lc{fn:Func}{N:Nat}{a:Act}{l:Env}{R:Value→World→Prop}(b:fn.results= #[])(h:R (.tuple #[]) w):LV X0 N (bodyPost P fn (fun e w'=>∃v,e=.returned v∧R v w')) .ret a l w:=fun s=>
 bodyPost_ret (results_none b _ _ _) (by rw[Dp,s.df]) ⟨_,rfl,h⟩
def flat{α:Type}(enc:α→List Value)(xs:List α):List Value:=xs.flatMap enc
theorem Nd{α:Type}(enc:α→List Value)(sz:Nat)(he:∀x,(enc x).length=sz):∀xs:List α,(flat enc xs).length=xs.length*sz
 |[]=>by simp[flat]
 |x::xs=>by
  have:=Nd enc sz he xs;unfold flat at*;simp only[List.flatMap_cons,List.length_append,he,this,List.length_cons,Nat.add_mul,Nat.one_mul];omega
theorem Rd.elem {α:Type} {enc:α→List Value} {sz:Nat} (he:∀x,(enc x).length=sz) (a:0<sz) {w:World} {lo hi:Nat} {A:Option Addr} {xs:List α} (h:Rd w lo hi A (flat enc xs)) {k:Nat} (e:k<xs.length):
  ∃b o,A=some ⟨b,o,none⟩∧lo≤b∧b<hi∧∀j u,(flat enc xs)[j]?=some u→w.cell? ⟨b,o+j,none⟩=some u:=by
 have c:=Nd enc sz he xs;have d:0<(flat enc xs).length:=by rw[c];exact Nat.mul_pos (by omega) a
 exact h.at_ (k:=0) (u:=(flat enc xs)[0]) (List.getElem?_eq_getElem d)
theorem Rd.D1{w:World}{lo hi:Nat}{A:Option Addr}{cs:List Value}(h:Rd w lo hi A cs){k:Nat}(a:k<cs.length):
  ∃b o,A=some ⟨b,o,none⟩∧lo≤b∧b<hi∧∀j u,cs[j]?=some u→w.cell? ⟨b,o+j,none⟩=some u:=h.at_ (List.getElem?_eq_getElem a)
end
def E6(o:Oper)(j:Nat):Bool:=o.after.toList.any fun e=>Region.binds .any e&&Nat.beq e.on j
def B4(L:List Oper)(j:Nat):Option Nat:=(L[j]?).bind (·.dst)
def isDst(L:List Oper)(s:Nat):Bool:=L.any fun o=>match o.dst with|some d=>Nat.beq d s|none=>false
def H4:Nat→List Oper→Bool
 |_,[]=>true
 |k,o::L=>(o.after.toList.all fun e=> !Region.binds .any e||Nat.blt e.on k)&&H4 (k+1) L
def J5(N:Nat):List Oper→Bool
 |[]=>true
 |o::L=>(match o.dst with|some d=>Nat.blt d N&& !isDst L d|none=>true)&&J5 N L
def Jc(L:List Oper):List Nat→Bool
 |[]=>true
 |[k]=>Nat.blt k L.length
 |k::j::r=>Nat.blt k j&&(match L[j]? with|some o=>E6 o k|none=>false)&&Jc L (j::r)
def KE(N:Nat)(L:List Oper)(sp:List Nat):Bool:=H4 0 L&&J5 N L&&Jc L sp
theorem J6{L:List Oper}{s:Nat}:isDst L s=true↔∃j,B4 L j=some s:=by
 unfold isDst B4;rw[List.any_eq_true];constructor
 ·rintro⟨o,a,h⟩;obtain⟨j,b,rfl⟩:=List.mem_iff_getElem.1 a;refine⟨j,?_⟩;rw[List.getElem?_eq_getElem b];cases c:L[j].dst with
  |none=>simp[c] at h
  |some d=>simp only[c] at h;simp[c,Nat.eq_of_beq_eq_true h]
 ·rintro⟨j,b⟩;cases a:L[j]? with
  |none=>simp[a] at b
  |some o=>
   refine⟨o,List.mem_of_getElem? a,?_⟩;simp only[a,Option.bind_some] at b;simp[b]
theorem HQ{N:Nat}:∀{L:List Oper},J5 N L=true→∀i j d,B4 L i=some d→d<N∧(B4 L j=some d→i=j)
 |[],_,i,j,d,hi=>by simp[B4] at hi
 |o::L,h,i,j,d,hi=>by
  simp only[J5,Bool.and_eq_true] at h;obtain⟨c,f⟩:=h;have ih:=HQ f;have e:∀d,o.dst=some d→d<N∧∀j,B4 L j≠some d:=by
   intro d g;rw[g] at c;simp only[Bool.and_eq_true,Bool.not_eq_true'] at c;refine⟨by simpa[Nat.blt_eq] using c.1,fun j b=>?_⟩;have:=J6.2 ⟨j,b⟩;rw[this] at c;cases c.2
  cases i with
  |zero=>
   have a:o.dst=some d:=by simpa[B4] using hi
   refine⟨(e d a).1,fun b=>?_⟩;cases j with
   |zero=>rfl
   |succ j=>exact absurd (by simpa[B4] using b) ((e d a).2 j)
  |succ i=>
   have a:B4 L i=some d:=by simpa[B4] using hi
   cases j with
   |zero=>
    refine⟨(ih i i d a).1,fun b=>?_⟩;exact absurd a ((e d (by simpa[B4] using b)).2 i)
   |succ j=>
    refine⟨(ih i j d a).1,fun b=>?_⟩;rw[(ih i j d a).2 (by simpa[B4] using b)]
theorem Ea:∀{L:List Oper} {k:Nat},H4 k L=true→∀i o,L[i]?=some o→∀e∈o.after,Region.binds .any e=true→e.on<k+i
 |[],_,_,i,o,a=>by simp at a
 |o'::L,k,h,i,o,a=>by
  simp only[H4,Bool.and_eq_true,List.all_eq_true] at h;cases i with
  |zero=>
   obtain rfl:o'=o:=by simpa using a
   intro e he b;have:=h.1 e (by simpa using he);simp only[Bool.or_eq_true,Bool.not_eq_true',b,Bool.true_eq_false,false_or] at this;simpa[Nat.blt_eq] using this
  |succ i=>
   intro e he b;have:=Ea h.2 i o (by simpa using a) e he b;omega
theorem Ey{o:Oper}{j:Nat}:E6 o j=true↔∃e∈o.after,Region.binds .any e=true∧e.on=j:=by
 unfold E6;rw[List.any_eq_true];constructor
 ·rintro⟨e,he,h⟩;simp only[Bool.and_eq_true] at h;exact⟨e,by simpa using he,h.1,Nat.eq_of_beq_eq_true h.2⟩
 ·rintro⟨e,he,a,rfl⟩;exact⟨e,by simpa using he,by simp[a]⟩
theorem J7{L:List Oper}:∀{sp:List Nat},Jc L sp=true→
  (∀(i k j:Nat),sp[i]?=some k→sp[i+1]?=some j→∃o,L[j]?=some o∧E6 o k=true)∧(∀(i j k:Nat),sp[i]?=some k→sp[j]?=some k→i=j)∧(∀k∈sp,k<L.length)∧(∀k∈sp,∀(e:Nat),sp[0]?=some e→e≤k)
 |[],_=>⟨by simp,by simp,by simp,by simp⟩
 |[k],h=>by
  have p:k<L.length:=by simpa[Jc,Nat.blt_eq] using h
  refine⟨by simp,?_,by simpa using p,by simp⟩;intro i j x hi u;cases i<;>cases j<;>simp_all
 |k::j::r,h=>by
  simp only[Jc,Bool.and_eq_true] at h;obtain⟨⟨q,f⟩,s⟩:=h;obtain⟨a1,a2,a3,a4⟩:=J7 s;have t:k<j:=by simpa[Nat.blt_eq] using q
  refine⟨?_,?_,?_,?_⟩
  ·intro i x y a g;cases i with
   |zero=>
    obtain rfl:k=x:=by simpa using a
    obtain rfl:j=y:=by simpa using g
    cases l:L[j]? with
    |none=>simp[l] at f
    |some o=>exact⟨o,rfl,by simpa[l] using f⟩
   |succ i=>exact a1 i x y (by simpa using a) (by simpa using g)
  ·intro i b x a c;have d:∀m,(j::r)[m]?=some x→j≤x:=fun m hm=>a4 x (List.mem_of_getElem? hm) j (by simp);cases i with
   |zero=>
    obtain rfl:k=x:=by simpa using a
    cases b with
    |zero=>rfl
    |succ b=>have:=d b (by simpa using c);omega
   |succ i=>
    cases b with
    |zero=>
     obtain rfl:k=x:=by simpa using c
     have:=d i (by simpa using a);omega
    |succ b=>rw[a2 i b x (by simpa using a) (by simpa using c)]
  ·intro x a;rcases List.mem_cons.1 a with rfl|a
   ·have:=a3 j (by simp);omega
   ·exact a3 x a
  ·intro x a e n;obtain rfl:k=e:=by simpa using n
   rcases List.mem_cons.1 a with rfl|a
   ·exact Nat.le_refl _
   ·have:=a4 x a j (by simp);omega
section
variable(P:Program)(X:Ctx)(N:Nat)(L:List Oper)(a:Act)(l:Env)(S:Nat→World→World→Prop)(T:Nat→Act→World→Prop)(Φ:Nat→Value→World→Prop)(sp:List Nat)
structure It (k:Nat) (o:Oper) (a':Act) (w':World) (ph:Nat):Prop where
 out:∀s,isDst L s=false→sl a' s=lk (sl a s) l s
 later:∀(j d:Nat) (o':Oper),L[j]?=some o'→o'.dst=some d→E6 o' k=true→sl a' d=lk (sl a d) l d
 AB:∀(j d:Nat),E6 o j=true→B4 L j=some d→Φ j (sl a' d) w'
 Br:T ph a' w'
 DS:∀(i:Nat),sp[i]?=some k→ph=i
 Ib:∀(i j:Nat) (o':Oper),sp[i]?=some j→L[j]?=some o'→E6 o' k=true→ph≤i
def GP(k:Nat)(o:Oper):Prop:=∀a' w' ph,It L a l T Φ sp k o a' w' ph→
 (Region.wanted o (yielded L.toArray a'.tmps)=true∧BT P o a' w' (fun v Bj=>Φ k v Bj∧(if k∈sp then S k w' Bj∧T (ph+1) (a'.put o.dst v) Bj else Ext w' Bj)))∨
 (Region.wanted o (yielded L.toArray a'.tmps)=false∧Φ k undef w'∧k∉sp)
def J8:Nat→Nat→List Oper→Prop
 |0,_,_=>True
 |_+1,_,[]=>True
 |m+1,k,o::R=>GP P L a l S T Φ sp k o∧J8 m (k+1) R
end
def Jr(X:Ctx)(N:Nat)(a:Act)(Φ:Nat→Value→World→Prop)(c:Act→World→Prop)(G:Env→Prop)(w':World):Nat→Nat→List Oper→Env→Prop
 |0,_,_,b=>c (BQ a b) w'→G b
 |_+1,_,[],b=>c (BQ a b) w'→G b
 |m+1,k,o::R,b=>match o.dst with
  |some d=>∀v,Φ k v w'→Jr X N a Φ c G w' m (k+1) R ((d,v)::b)
  |none=>Jr X N a Φ c G w' m (k+1) R b
def okD (L:List Oper) (sp:List Nat) (D:Nat→List Nat):Bool:=
 (List.range (sp.length+1)).all fun ph=>(D ph).all fun s=>(List.range L.length).all fun i=>match B4 L i with
  |some d=> !Nat.beq d s||(sp.take ph).any fun k=>Nat.beq k i||(match L[k]? with|some o=>E6 o i|none=>false)
  |none=>true
theorem Q3{L:List Oper}{sp:List Nat}{D:Nat→List Nat}(h:okD L sp D=true){ph:Nat}(l:ph≤sp.length){i s:Nat}(f:s∈D ph)(hi:B4 L i=some s):
  ∃m k,m<ph∧sp[m]?=some k∧(k=i∨∃o,L[k]?=some o∧E6 o i=true):=by
 have c:i<L.length:=by
  rcases Nat.lt_or_ge i L.length with h|h
  ·exact h
  ·simp[B4,List.getElem?_eq_none h] at hi
 simp only[okD,List.all_eq_true,List.mem_range] at h;have:=h ph (by omega) s f i c;rw[hi] at this;simp only[Nat.beq_refl,Bool.not_true,Bool.false_or,List.any_eq_true] at this;obtain⟨k,g,j⟩:=this;obtain⟨m,hm,d⟩:=List.mem_iff_getElem.1 g;have b:m<ph∧m<sp.length:=by simp at hm;omega
 refine⟨m,k,b.1,?_,?_⟩
 ·rw[←d,List.getElem_take,List.getElem?_eq_getElem b.2]
 ·rcases Bool.or_eq_true _ _▸j with a|a
  ·exact .inl (Nat.eq_of_beq_eq_true a)
  ·cases e:L[k]? with
   |none=>simp[e] at a
   |some o=>exact .inr ⟨o,rfl,by simpa[e] using a⟩
section
variable{P:Program}{X:Ctx}{N:Nat}{L:List Oper}{a:Act}{l:Env}{S:Nat→World→World→Prop}{T:Nat→Act→World→Prop}{Φ:Nat→Value→World→Prop}{sp:List Nat}{Q:Exit→Act→World→Prop}{w:World}{k:Nat}{o:Oper}{R:List Oper}
structure Inv(listed:Array Bool)(a':Act)(w':World):Prop where
 Nf:listed.size=L.length
 sz:a'.tmps.size=N
 df:a'.defers=X.ds
 out:∀s,(∀j,B4 L j=some s→listed.getD j false=false)→sl a' s=lk (sl a s) l s
 done:∀(j d:Nat),listed.getD j false=true→B4 L j=some d→Φ j (sl a' d) w'
 down:∀(j:Nat) (o:Oper),L[j]?=some o→listed.getD j false=true→∀e∈o.after,Region.binds .any e=true→listed.getD e.on false=true
 ph:∃ph,T ph a' w'∧ph≤sp.length∧∀(i k:Nat),sp[i]?=some k→(listed.getD k false=true↔i<ph)
theorem Sm{x y:Act}(a:x.tmps.size=y.tmps.size)(b:x.defers=y.defers)(h:∀s,sl x s=sl y s):x=y:=by
 obtain⟨t,d⟩:=x;obtain⟨c,g⟩:=y;simp only at b a;subst b;have:t=c:=by
  apply Array.ext a;intro i e f;have:=h i;unfold sl at this;simp only[Array.getD_eq_getD_getElem?,Array.getElem?_eq_getElem e,Array.getElem?_eq_getElem f,Option.getD_some] at this;exact this
 rw[this]
theorem KF(q:Act→World→Prop)(G:Env→Prop)(w':World)(a':Act)(c:q a' w')(e:a'.tmps.size=N)(f:a'.defers=X.ds){K:Prop}(u:∀b,St X N a b→G b→a'=BQ a b→K):
  ∀(m:Nat) (R:List Oper) (k:Nat) (b:Env),St X N a b→m≤R.length→(∀i d,B4 R i=some d→d<N)→(∀i j d,B4 R i=some d→B4 R j=some d→i=j)→Jr X N a Φ q G w' m k R b→
   (∀i d,i<m→B4 R i=some d→Φ (k+i) (sl a' d) w')→(∀s,(∀i,i<m→B4 R i≠some s)→sl a' s=lk (sl a s) b s)→K
 |0,R,k,b,st,_,_,_,h,_,g=>by
  have:a'=BQ a b:=Sm (by rw[H3,st.sz,e]) (by rw[Dp,st.df,f]) (fun s=>by rw[Bc st s];exact g s (fun i hi=>absurd hi (by omega)));exact u b st (h (by rw[←this];exact c)) this
 |m+1,[],k,b,st,hm,_,_,h,_,g=>by simp at hm
 |m+1,o::R,k,b,st,hm,r,w,h,x,g=>by
  have l:∀i d,B4 R i=some d→d<N:=fun i d hi=>r (i+1) d (by simpa[B4] using hi);have n:∀i j d,B4 R i=some d→B4 R j=some d→i=j:=fun i j d hi z=>by
   have:=w (i+1) (j+1) d (by simpa[B4] using hi) (by simpa[B4] using z);omega
  have t:∀i d,i<m→B4 R i=some d→Φ (k+1+i) (sl a' d) w':=fun i d aA hi=>by
   have:=x (i+1) d (by omega) (by simpa[B4] using hi);rw[show k+1+i=k+(i+1) from by omega];exact this
  simp only[Jr] at h;cases p:o.dst with
  |none=>
   rw[p] at h;refine KF q G w' a' c e f u m R (k+1) b st (by simpa using hm) l n h t fun s v=>g s fun i hi=>?_;cases i with
   |zero=>simp[B4,p]
   |succ i=>simpa[B4] using v i (by omega)
  |some d=>
   rw[p] at h;have h0:B4 (o::R) 0=some d:=by simp[B4,p]
   refine KF q G w' a' c e f u m R (k+1) _ (st.cons (r 0 d h0) (sl a' d)) (by simpa using hm) l n (h _ (x 0 d (by omega) h0)) t fun s v=>?_;simp only[lk];cases y:Nat.beq d s with
   |true=>
    obtain rfl:d=s:=Nat.eq_of_beq_eq_true y;rfl
   |false=>
    refine g s fun i hi=>?_;cases i with
    |zero=>simp[B4,p,Nat.ne_of_beq_eq_false y]
    |succ i=>simpa[B4] using v i (by omega)
theorem Ng:∀{m:Nat} {R:List Oper} {k:Nat},J8 P L a l S T Φ sp m k R→∀(i:Nat) (o:Oper),i<m→R[i]?=some o→GP P L a l S T Φ sp (k+i) o
 |0,_,_,_,i,o,hi,_=>absurd hi (by omega)
 |_+1,[],_,_,i,o,_,b=>by simp at b
 |m+1,o'::R,k,h,i,o,hi,b=>by
  cases i with
  |zero=>
   obtain rfl:o'=o:=by simpa using b
   exact h.1
  |succ i=>
   have:=Ng h.2 i o (by omega) (by simpa using b);rw[Nat.add_assoc,Nat.add_comm 1 i] at this;exact this
variable(P) in
theorem Cf:J8 P L a l S T Φ sp 0 k R:=trivial
theorem Ah{m:Nat}(h:GP P L a l S T Φ sp k o)(b:J8 P L a l S T Φ sp m (k+1) R):J8 P L a l S T Φ sp (m+1) k (o::R):=⟨h,b⟩
theorem KW{x:Act}{d:Nat}{v:Value}(h:d<x.tmps.size):sl (x.put (some d) v) d=v:=by
 unfold sl Act.put;simp[h]
theorem J9{x:Act}{d s:Nat}{v:Value}(h:d≠s):sl (x.put (some d) v) s=sl x s:=by
 unfold sl Act.put;simp[Array.getElem?_setIfInBounds_ne h]
theorem Fs{listed:Array Bool}{i:Nat}(h:i<listed.size):(listed.setIfInBounds i true).getD i false=true:=by simp[h]
theorem Dl{listed:Array Bool}{i j:Nat}(h:i≠j):(listed.setIfInBounds i true).getD j false=listed.getD j false:=by
 simp[Array.getElem?_setIfInBounds_ne h]
inductive Nh (L:List Oper):Nat→Nat→Prop
 |one {i j:Nat} {o:Oper}:L[i]?=some o→E6 o j=true→Nh L i j
 |step {i d j:Nat} {o:Oper}:L[i]?=some o→E6 o d=true→Nh L d j→Nh L i j
theorem Js{L:List Oper}{p:Nat→Prop}(a:∀d o,L[d]?=some o→p d→∀k,E6 o k=true→p k){i j:Nat}(h:Nh L i j):(∀o,L[i]?=some o→∀k,E6 o k=true→p k)→p j:=by
 induction h with
 |one b c=>exact fun hi=>hi _ b _ c
 |step b c _ ih=>exact fun hi=>ih fun o' e k f=>a _ o' e (hi _ b _ c) k f
def Pp (acc:List Nat) (m:Nat) (e:Edge):Nat:=if Region.binds .any e then m|||(2^e.on|||acc.getD e.on 0) else m
def Lw(acc:List Nat)(o:Oper):Nat:=o.after.toList.foldl (Pp acc) 0
def MZ:List Oper→List Nat→List Nat
 |[],acc=>acc
 |o::R,acc=>MZ R (acc++[Lw acc o])
def Iu (L:List Oper) (m:Nat):Bool:=(List.range L.length).all fun i=>Nat.blt i m||(List.range i).all fun j=>(match L[i]? with|some o=>E6 o j|none=>false)||((MZ L []).getD i 0).testBit j
theorem Pq{acc:List Nat}{o:Oper}{j:Nat}(h:(Lw acc o).testBit j=true):∃d,E6 o d=true∧(d=j∨(acc.getD d 0).testBit j=true):=by
 have key:∀(es:List Edge) (m:Nat),(es.foldl (Pp acc) m).testBit j=true→m.testBit j=true∨∃e∈es,Region.binds .any e=true∧(e.on=j∨(acc.getD e.on 0).testBit j=true):=by
  intro es
  induction es with
  |nil=>intro m h;exact .inl h
  |cons e es ih=>
   intro m h;rw[List.foldl_cons] at h;rcases ih _ h with a|⟨f,c,a⟩
   ·unfold Pp at a;split at a
    ·rename_i b
     rw[Nat.testBit_or,Nat.testBit_or,Bool.or_eq_true,Bool.or_eq_true,Nat.testBit_two_pow,decide_eq_true_eq] at a;rcases a with a|a
     ·exact .inl a
     ·exact .inr ⟨e,List.mem_cons_self ..,b,a⟩
    ·exact .inl a
   ·exact .inr ⟨f,List.mem_cons_of_mem _ c,a⟩
 rcases key _ _ h with a|⟨e,he,b,a⟩
 ·simp at a
 ·exact⟨e.on,Ey.2 ⟨e,by simpa using he,b,rfl⟩,a⟩
theorem Ly{L:List Oper}:∀(R:List Oper) (acc:List Nat),L.drop acc.length=R→(∀i j,(acc.getD i 0).testBit j=true→Nh L i j)→∀i j,((MZ R acc).getD i 0).testBit j=true→Nh L i j
 |[],acc,_,h=>h
 |o::R,acc,c,h=>by
  unfold MZ;have e:L[acc.length]?=some o:=by
   have:(L.drop acc.length)[0]?=some o:=by rw[c];rfl
   simpa using this
  refine Ly R _ (by rw[List.length_append,List.length_singleton,←List.tail_drop,c];rfl) fun i j a=>?_;rcases Nat.lt_trichotomy i acc.length with hi|hi|hi
  ·rw[List.getD_eq_getElem?_getD,List.getElem?_append_left hi,←List.getD_eq_getElem?_getD] at a;exact h i j a
  ·subst hi;have:(acc++[Lw acc o]).getD acc.length 0=Lw acc o:=by simp
   rw[this] at a;obtain⟨d,f,b⟩:=Pq a;rcases b with rfl|b
   ·exact .one e f
   ·exact .step e f (h d j b)
  ·have:(acc++[Lw acc o]).getD i 0=0:=by
    rw[List.getD_eq_getElem?_getD,List.getElem?_eq_none (by simp;omega)];rfl
   rw[this] at a;simp at a
theorem I5{L:List Oper}{m:Nat}(h:Iu L m=true){i:Nat}{o:Oper}(b:L[i]?=some o)(hi:m≤i):∀j,j<i→Nh L i j:=by
 have c:i<L.length:=(List.getElem?_eq_some_iff.1 b).1;simp only[Iu,List.all_eq_true,List.mem_range] at h;have a:=h i c;rw[Bool.or_eq_true] at a;rcases a with a|a
 ·have:i<m:=by simpa[Nat.blt_eq] using a
  omega
 ·simp only[List.all_eq_true,List.mem_range,b,Bool.or_eq_true] at a;exact fun j d=>(a j d).elim (fun h=>.one b h) fun h=>Ly L [] rfl (fun i j e=>by simp at e) i j h
theorem Ni {m:Nat} (aP:Iu L m=true) (g:H4 0 L=true):∀(rest:List Oper) (j fuel:Nat) (listed:Array Bool) (a':Act) (w':World),L.drop j=rest→m≤j→rest.length≤fuel→listed.size=L.length→(∀i,i<L.length→(listed.getD i false=true↔i<j))→
  wpListIn (Wd X.ro) 0 P L.toArray Q rest a' w'→wpAnyIn (Wd X.ro) 0 P .any L.toArray Q fuel listed a' w':=by
 intro rest
 induction rest with
 |nil=>
  intro j fuel listed a' w' n hm u r f h;have z:L.length≤j:=List.drop_eq_nil_iff.1 n;have v:Region.ready .any L.toArray listed=[]:=by
   rw[List.eq_nil_iff_forall_not_mem];intro i hi;obtain⟨h0,o,q,_⟩:=mem_ready.1 hi;have s:i<L.length:=by simpa using(Array.getElem?_eq_some_iff.1 q).1
   have c:=(f i s).2 (by omega);have l:i<listed.size:=by omega
   simp[l] at h0 c;rw[h0] at c;cases c
  cases fuel with
  |zero=>exact⟨v,h⟩
  |succ fuel=>exact⟨fun _=>h,fun i hi=>by rw[v] at hi;cases hi⟩
 |cons o rest ih=>
  intro j fuel listed a' w' n hm u r f h;have z:j<L.length:=by
   rcases Nat.lt_or_ge j L.length with h|h
   ·exact h
   ·rw[List.drop_of_length_le h] at n;cases n
  have q:L[j]?=some o:=by
   have:(L.drop j)[0]?=some o:=by rw[n];rfl
   simpa using this
  have aA:L.drop (j+1)=rest:=by rw[←List.tail_drop,n];rfl
  cases fuel with
  |zero=>simp at u
  |succ fuel=>
   refine⟨fun v=>?_,fun i hi=>?_⟩
   ·exfalso;have hm:j∈Region.ready .any L.toArray listed:=mem_ready.2 ⟨by
     have:listed.getD j false=false:=by
      cases aQ:listed.getD j false with
      |false=>rfl
      |true=>have:=(f j z).1 aQ;omega
     have aI:j<listed.size:=by omega
     simp[aI] at this⊢;exact this,o,by simpa using q,fun e he b=>by
      rcases Nat.lt_or_ge e.on L.length with s|aJ
      ·refine(f e.on s).2 ?_;exact Ea g j o q e he b|>fun h=>by omega
      ·have:=Ea g j o q e he b;omega⟩
    rw[v] at hm;cases hm
   ·obtain⟨h0,o',aB,y⟩:=mem_ready.1 hi;have aK:i<L.length:=by simpa using(Array.getElem?_eq_some_iff.1 aB).1
    have l:i<listed.size:=by omega
    have aC:listed.getD i false=false:=by simp[l] at h0⊢;exact h0
    have aJ:j≤i:=by
     rcases Nat.lt_or_ge i j with c|c
     ·rw[(f i aK).2 c] at aC;cases aC
     ·exact c
    have aL:i=j:=by
     rcases Nat.lt_or_ge j i with c|c
     ·have t:L[i]?=some o':=by simpa using aB
      have:=Js (p:=fun x=>x<j) (fun d od aM aU k aH=>by
       obtain⟨e,he,b,aD⟩:=Ey.1 aH;have:=Ea g d od aM e he b;omega) (I5 aP t (by omega) j c) (fun aR aE k aH=>by
       rw[t] at aE;obtain rfl:o'=aR:=by simpa using aE
       obtain⟨e,he,b,aD⟩:=Ey.1 aH;have aN:=y e he b;rw[aD] at aN;have aV:=Ea g i o' t e he b;exact(f k (by omega)).1 aN)
      omega
     ·omega
    subst aL;unfold wpOpIn;have aO:L.toArray[i]?=some o:=by simpa using q
    simp only[aO];unfold wpListIn at h;have aF:∀x,x<L.length→((listed.setIfInBounds i true).getD x false=true↔x<i+1):=by
     intro x aS
     by_cases aG:i=x
     ·subst aG;simp only[Fs l,true_iff];omega
     ·rw[Dl aG,f x aS];omega
    split
    ·rename_i hw
     rw[if_pos hw] at h;exact Oper.wpIn_mono (fun a w aT=>ih (i+1) fuel _ a w aA (by omega) (by simpa using u) (by simpa using r) aF aT) h
    ·rename_i hw
     rw[if_neg hw] at h;exact⟨h.1,ih (i+1) fuel _ _ _ aA (by omega) (by simpa using u) (by simpa using r) aF h.2⟩
theorem Q4{m:Nat}(bS:m≤L.length)(bK:Iu L m=true)(bO:(sp.all fun k=>Nat.blt k m)=true)(a2:∀k w w',Ext w w'→S k w w')(cF:∀k j v w w',j≠k→(∀o,L[j]?=some o→E6 o k=false)→Φ j v w→S k w w'→Φ j v w')(D:Nat→List Nat)(cG:okD L sp D=true)(cH:∀k x w y w',T k x w→Ext w w'→(∀s,s∈D k→sl y s=sl x s)→T k y w')(aN:KE N L sp=true)(bT:St X N a l)
  (bU:J8 P L a l S T Φ sp m 0 L)(bP:∀w',Jr X N a Φ (T sp.length) (fun bG=>WL P X N L.toArray Q (L.drop m) a bG w') w' m 0 L l):
  ∀(fuel:Nat) (listed:Array Bool) (a':Act) (w':World),listed.toList.count false≤fuel→Inv (X:=X) (N:=N) (L:=L) (a:=a) (l:=l) (T:=T) (Φ:=Φ) (sp:=sp) listed a' w'→(∀j,m≤j→listed.getD j false=false)→
   wpAnyIn (Wd X.ro) 0 P .any L.toArray Q fuel listed a' w':=by
 simp only[KE,Bool.and_eq_true] at aN;obtain⟨⟨bL,bV⟩,bW⟩:=aN;obtain⟨bX,cP,cQ,_⟩:=J7 bW;have aF:=HQ bV
 
 have fin:∀(fuel:Nat) (listed:Array Bool) (a':Act) (w':World),listed.toList.count false≤fuel→Inv (X:=X) (N:=N) (L:=L) (a:=a) (l:=l) (T:=T) (Φ:=Φ) (sp:=sp) listed a' w'→(∀j,m≤j→listed.getD j false=false)→(∀j,j<m→listed.getD j false=true)→wpAnyIn (Wd X.ro) 0 P .any L.toArray Q fuel listed a' w':=by
  intro fuel listed a' w' a3 b q aS;obtain⟨ph,aW,hle,aB⟩:=b.ph;have a4:ph=sp.length:=by
   rcases Nat.lt_or_ge ph sp.length with t|a5
   ·have bY:sp[ph]<m:=by
     have:=List.all_eq_true.1 bO sp[ph] (List.getElem_mem t);simpa[Nat.blt_eq] using this
    have bH:=(aB ph sp[ph] (List.getElem?_eq_getElem t)).1 (aS _ bY);omega
   ·omega
  subst a4;have bZ:wpListIn (Wd X.ro) 0 P L.toArray Q (L.drop m) a' w':=by
   refine KF (T sp.length) (fun bG=>WL P X N L.toArray Q (L.drop m) a bG w') w' a' aW b.sz b.df (fun bG st cI e=>by rw[e];exact cI st) m L 0 l bT bS (fun i d hi=>(aF i i d hi).1) (fun i j d hi g=>(aF i j d hi).2 g) (bP w') (fun i d a9 hi=>?_) (fun s u=>?_)
   ·rw[Nat.zero_add];exact b.done i d (aS i a9) hi
   ·refine b.out s fun j g=>?_;rcases Nat.lt_or_ge j m with h|h
    ·exact absurd g (u j h)
    ·exact q j h
  refine Ni bK bL (L.drop m) m fuel listed a' w' rfl (Nat.le_refl _) ?_ b.Nf (fun i hi=>?_) bZ
  ·
   refine Nat.le_trans ?_ a3;have cR:listed.toList.length=L.length:=by simpa using b.Nf
   have e:listed.toList.drop m=List.replicate (L.length-m) false:=by
    apply List.ext_getElem
    ·simp[b.Nf]
    ·intro i aT bQ;simp at aT;have:=q (m+i) (by omega);rw[Array.getD_eq_getD_getElem?,Array.getElem?_eq_getElem (by omega)] at this;simpa using this
   have bQ:(listed.toList.drop m).count false≤listed.toList.count false:=(List.drop_sublist m listed.toList).count_le false;rw[e,List.count_replicate_self] at bQ;simpa using bQ
  ·rcases Nat.lt_or_ge i m with h|h
   ·simp[aS i h,h]
   ·simp only[q i h];constructor
    ·intro b1;cases b1
    ·intro b1;omega
 intro fuel
 induction fuel with
 |zero=>
  intro listed a' w' a3 b q;refine fin 0 listed a' w' a3 b q fun j g=>?_;have aP:j<listed.size:=by rw[b.Nf];omega
  cases aA:listed[j] with
  |true=>simp[aP,aA]
  |false=>
   have:false∈listed.toList:=by rw[←aA];simp
   have:=List.count_pos_iff.2 this;omega
 |succ fuel ih=>
  intro listed a' w' a3 b q
  by_cases aX:∀j,j<m→listed.getD j false=true
  ·exact fin (fuel+1) listed a' w' a3 b q aX
  have hex:∃j,j<m∧listed.getD j false=false:=by
   false_or_by_contra
   rename_i b2
   refine aX fun j g=>?_;cases aA:listed.getD j false with
   |true=>rfl
   |false=>exact absurd ⟨j,g,aA⟩ b2
  constructor
  ·intro aG;exfalso;obtain⟨j,g,aA⟩:=hex;refine absurd aA ?_;rw[Bool.not_eq_false];clear aA
   induction j using Nat.strongRecOn with
   |_ j b3=>
    cases aA:listed.getD j false with
    |true=>rfl
    |false=>
     exfalso;have aP:j<listed.size:=by rw[b.Nf];omega
     have hm:j∈Region.ready .any L.toArray listed:=mem_ready.2 ⟨by simp[aP] at aA⊢;exact aA,L[j],by simp,fun e he c=>by
      have aT:=Ea bL j L[j] (List.getElem?_eq_getElem (by omega)) e he c;exact b3 e.on (by omega) (by omega)⟩
     rw[aG] at hm;cases hm
  ·intro i hi;obtain⟨h0,o,b4,aE⟩:=mem_ready.1 hi;have aC:L[i]?=some o:=by simpa using b4
   have b5:i<L.length:=(List.getElem?_eq_some_iff.1 aC).1;have aL:i<listed.size:=by rw[b.Nf];exact b5
   have aD:listed.getD i false=false:=by simp[aL] at h0⊢;exact h0
   have a9:i<m:=by
    rcases Nat.lt_or_ge i m with h|h
    ·exact h
    ·obtain⟨j,g,aA⟩:=hex;have:=Js (p:=fun x=>listed.getD x false=true) (fun d od b6 aM k aN=>by
      obtain⟨e,he,c,n⟩:=Ey.1 aN;have:=b.down d od b6 aM e he c
      rwa[n] at this) (I5 bK aC h j (by omega)) (fun cJ bM k aN=>by
      rw[aC] at bM;obtain rfl:o=cJ:=by simpa using bM
      obtain⟨e,he,c,n⟩:=Ey.1 aN;have:=aE e he c
      rwa[n] at this)
     rw[aA] at this;cases this
   obtain⟨ph,aW,hle,aB⟩:=b.ph;have aO:∀r,sp[r]?=some i→ph=r:=by
    intro r aU;have a5:¬r<ph:=fun t=>by
     have:=(aB r i aU).2 t;rw[aD] at this;cases this
    cases r with
    |zero=>omega
    |succ m=>
     have hm:m<sp.length:=by
      have:=(List.getElem?_eq_some_iff.1 aU).1;omega
     obtain⟨bR,aY,b7⟩:=bX m sp[m] i (List.getElem?_eq_getElem hm) aU;rw[aC] at aY;obtain rfl:o=bR:=by simpa using aY
     obtain⟨e,he,c,n⟩:=Ey.1 b7;have:=aE e he c;rw[n] at this;have:=(aB m sp[m] (List.getElem?_eq_getElem hm)).1 this;omega
   have bI:It L a l T Φ sp i o a' w' ph:=by
    refine⟨fun s u=>b.out s fun j g=>?_,fun j d o' g aV aH=>?_,fun j d g aI=>?_,aW,aO,fun r j o' b8 g aH=>?_⟩
    rotate_left 3
    ·rcases Nat.lt_or_ge r ph with t|a5
     ·have aZ:=(aB r j b8).2 t;obtain⟨e,he,c,n⟩:=Ey.1 aH;have:=b.down j o' g aZ e he c;rw[n,aD] at this;cases this
     ·exact a5
    ·have:=J6.2 ⟨j,g⟩;rw[u] at this;cases this
    ·have b9:B4 L j=some d:=by simp[B4,g,aV]
     refine b.out d fun cK aP=>?_;obtain rfl:=(aF j cK d b9).2 aP;cases aA:listed.getD j false with
     |false=>rfl
     |true=>
      obtain⟨e,he,c,n⟩:=Ey.1 aH;have:=b.down j o' g aA e he c;rw[n,aD] at this;cases this
    ·obtain⟨e,he,c,n⟩:=Ey.1 g;have:=aE e he c;rw[n] at this;exact b.done j d this aI
   
   have step:∀v Bj,Φ i v Bj→S i w' Bj→(∃aJ,T aJ (a'.put o.dst v) Bj∧aJ≤sp.length∧∀(r k:Nat),sp[r]?=some k→((listed.setIfInBounds i true).getD k false=true↔r<aJ))→
     wpAnyIn (Wd X.ro) 0 P .any L.toArray Q fuel (listed.setIfInBounds i true) (a'.put o.dst v) Bj:=by
    intro v Bj bJ cL a4;have aM:B4 L i=o.dst:=by simp[B4,aC]
    refine ih _ _ _ ?_ ?_ (fun j g=>by rw[Dl (by omega)];exact q j g)
    ·have t:i<listed.toList.length:=by simpa using aL
     have bA:listed.toList[i]=false:=by
      simp[aL] at aD;simpa using aD
     have cA:(listed.setIfInBounds i true).toList=listed.toList.set i true:=by simp
     rw[cA,List.count_set t,bA];have aT:0<listed.toList.count false:=List.count_pos_iff.2 (by rw[←bA];exact List.getElem_mem t);have cM:(if (false==false)=true then 1 else 0)=1:=rfl;have cN:(if (true==false)=true then 1 else 0)=0:=rfl;rw[cM,cN];omega
    ·have bB:∀s,(∀d,o.dst=some d→d≠s)→sl (a'.put o.dst v) s=sl a' s:=by
      intro s u;cases aV:o.dst with
      |none=>rfl
      |some d=>exact J9 (u d aV)
     refine⟨by simp[b.Nf],?_,?_,?_,?_,?_,a4⟩
     ·cases o.dst<;>simp[Act.put,b.sz]
     ·cases o.dst<;>simp[Act.put,b.df]
     ·intro s u;rw[bB s (fun d aV bC=>by
       subst bC;have:=u i (by rw[aM,aV]);rw[Fs aL] at this;cases this)]
      refine b.out s fun j g=>?_;have:=u j g
      by_cases z:i=j
      ·subst z;exact aD
      ·rwa[Dl z] at this
     ·intro j d g aI
      by_cases z:i=j
      ·subst z;rw[aM] at aI;have t:d<a'.tmps.size:=by rw[b.sz];exact(aF i i d (by rw[aM,aI])).1
       rw[aI,KW t];exact bJ
      ·rw[Dl z] at g;have aT:=cF i j _ _ _ (Ne.symm z) (fun bD cB=>by
        cases bE:E6 bD i with
        |false=>rfl
        |true=>
         obtain⟨e,he,c,n⟩:=Ey.1 bE;have:=b.down j bD cB g e he c;rw[n,aD] at this;cases this) (b.done j d g aI) cL
       have:sl (a'.put o.dst v) d=sl a' d:=by
        refine bB d fun cO cC bE=>?_;subst bE;exact z ((aF i j cO (by rw[aM,cC])).2 aI)
       rw[this];exact aT
     ·intro j bD g aZ e he c
      by_cases bN:i=e.on
      ·rw[←bN];exact Fs aL
      ·rw[Dl bN]
       by_cases z:i=j
       ·subst z;rw[aC] at g;obtain rfl:o=bD:=by simpa using g
        exact aE e he c
       ·rw[Dl z] at aZ;exact b.down j bD g aZ e he c
   have bF:∀v Bj,Ext w' Bj→i∉sp→∃aJ,T aJ (a'.put o.dst v) Bj∧aJ≤sp.length∧∀(r k:Nat),sp[r]?=some k→((listed.setIfInBounds i true).getD k false=true↔r<aJ):=by
    intro v Bj bH aQ;refine⟨ph,cH _ _ _ _ _ aW bH (fun s u=>?_),hle,fun r k aK=>?_⟩
    ·cases aV:o.dst with
     |none=>rfl
     |some d=>
      refine J9 fun bC=>?_;subst bC;obtain⟨m,k,hm,aN,cD⟩:=Q3 cG hle u (i:=i) (by simp[B4,aC,aV]);have cE:=(aB m k aN).2 hm;rcases cD with rfl|⟨bR,aY,aH⟩
      ·exact aQ (List.mem_of_getElem? aN)
      ·obtain⟨e,he,c,n⟩:=Ey.1 aH;have:=b.down k bR aY cE e he c;rw[n,aD] at this;cases this
    rw[Dl (fun aR=>aQ (by rw[aR];exact List.mem_of_getElem? aK))];exact aB r k aK
   unfold wpOpIn;simp only[b4];rcases Ng bU i o a9 aC a' w' ph (by rw[Nat.zero_add];exact bI) with⟨hw,bH⟩|⟨hw,hu,aQ⟩
   ·rw[if_pos hw];refine(bH.wp fun v Bj aG=>?_);rw[Nat.zero_add] at aG;obtain⟨bJ,aG⟩:=aG
    by_cases u:i∈sp
    ·rw[if_pos u] at aG;refine step v Bj bJ aG.1 ⟨ph+1,aG.2,?_,fun r k aK=>?_⟩
     ·obtain⟨m,hm,a0⟩:=List.mem_iff_getElem.1 u;have:=aO m (by rw[List.getElem?_eq_getElem hm,a0]);omega
     ·by_cases aR:i=k
      ·subst aR;have:=aO r aK;simp only[Fs aL,true_iff];omega
      ·rw[Dl aR,aB r k aK];have cS:r≠ph:=by
        intro e;obtain⟨m,hm,a0⟩:=List.mem_iff_getElem.1 u;have aT:=aO m (by rw[List.getElem?_eq_getElem hm,a0]);rw[e,aT,List.getElem?_eq_getElem hm,a0] at aK;exact aR (by simpa using aK)
       omega
    ·rw[if_neg u] at aG;exact step v Bj bJ (a2 _ _ _ aG) (bF v Bj aG u)
   ·rw[if_neg (by rw[hw];simp)];rw[Nat.zero_add] at hu aQ;exact⟨fun f _=>Lr X.ro f,step undef w' hu (a2 _ _ _ (Ext.refl _)) (bF undef w' (Ext.refl _) aQ)⟩
structure JY (S:World→World→Prop) where
 p:Value→World→Prop
 st:∀v w w',p v w→S w w'→p v w'
def Kc {S:World→World→Prop} (c:Value):JY S:=⟨fun v _=>v=c,fun _ _ _ h _=>h⟩
def Kt{S:World→World→Prop}:JY S:=⟨fun _ _=>True,fun _ _ _ h _=>h⟩
def Jt{S:World→World→Prop}(a:List (JY S))(j:Nat):Value→World→Prop:=(a.getD j Kt).p
theorem CD(w:World):Ext w w.drew:=⟨rfl,rfl,rfl,Nat.le_refl _,fun _ _ _=>rfl⟩
theorem GG(L:List Oper)(sp:List Nat):okD L sp (fun _=>[])=true:=by simp[okD]
def Nj (L:List Oper) (k:Nat) (w w':World):Nat→List (JY Ext)→Prop
 |_,[]=>True
 |i,x::xs=>(i≠k→(∀o,L[i]?=some o→E6 o k=false)→∀v,x.p v w→x.p v w')∧Nj L k w w' (i+1) xs
def RW(L:List Oper)(a:List (JY Ext))(k:Nat)(w w':World):Prop:=∀j,j≠k→(∀o,L[j]?=some o→E6 o k=false)→∀v,Jt a j v w→Jt a j v w'
theorem Hn{a:List (JY Ext)}{k:Nat}{w w':World}(h:Nj L k w w' 0 a):RW L a k w w':=by
 have key:∀(a:List (JY Ext)) (i:Nat),Nj L k w w' i a→∀j,i+j≠k→(∀o,L[i+j]?=some o→E6 o k=false)→∀v,(a.getD j Kt).p v w→(a.getD j Kt).p v w':=by
  intro a
  induction a with
  |nil=>intro i _ j _ _ v h;simpa[Kt] using h
  |cons x xs ih=>
   intro i h j d b v c;cases j with
   |zero=>exact h.1 d b v c
   |succ j=>exact ih (i+1) h.2 j (by omega) (by rw[show i+1+j=i+(j+1) by omega];exact b) v c
 exact fun j d b v c=>key a 0 h j (by omega) (by rw[Nat.zero_add];exact b) v c
theorem GH {id:Nat} (m:Nat) (T:Nat→Act→World→Prop) (D:Nat→List Nat) (sp:List Nat) (c:List (JY Ext)) (hm:P.follows .mixedOrders=true) (u:KE N L sp=true) (b:(Nat.ble m L.length&&Iu L m&&(sp.all fun k=>Nat.blt k m))=true)
  (z:okD L sp D=true) (aA:∀k x w y w',T k x w→Ext w w'→(∀s,s∈D k→sl y s=sl x s)→T k y w') (q:St X N a l→T 0 (BQ a l) w.drew)
  (r:J8 P L a l (RW L c) T (Jt c) sp m 0 L) (n:∀w',Jr X N a (Jt c) (T sp.length) (fun aB=>WL P X N L.toArray Q (L.drop m) a aB w') w' m 0 L l):CC P X N (.region id L.toArray true) Q a l w:=fun st=>
 wpIn_region_any hm (by
  simp only[Bool.and_eq_true] at b;have aC:Inv (X:=X) (N:=N) (L:=L) (a:=a) (l:=l) (T:=T) (Φ:=Jt c) (sp:=sp) (Array.replicate L.length false) (BQ a l) w.drew:=by
   have p:∀j,(Array.replicate L.length false).getD j false=false:=by
    intro j;rw[Array.getD_eq_getD_getElem?];rcases Nat.lt_or_ge j L.length with h|h
    ·simp[h]
    ·simp[h]
   refine⟨by simp,by rw[H3,st.sz],by rw[Dp,st.df],fun s _=>Bc st s,fun j d h=>?_,fun j o _ h=>?_,⟨0,q st,Nat.zero_le _,fun i k _=>?_⟩⟩
   ·rw[p j] at h;cases h
   ·rw[p j] at h;cases h
   ·rw[p k];simp
  have f:=Q4 (m:=m) (by simpa[Nat.ble_eq] using b.1.1) b.1.2 b.2 (S:=RW L c) (fun _ w w' g j _ _ v=>fun h=>(c.getD j Kt).st v w w' h g) (fun k j v w w' t aD h aE=>aE j t aD v h) D z aA u st r n L.length (Array.replicate L.length false) (BQ a l) w.drew (by
   refine Nat.le_trans (List.count_le_length ..) (by simp)) aC (fun j _=>by
    rw[Array.getD_eq_getD_getElem?];rcases Nat.lt_or_ge j L.length with h|h
    ·simp[h]
    ·simp[h])
  have e:L.toArray.size=L.length:=by simp
  rw[e];exact f)
theorem C5 {id:Nat} (m:Nat) (b:List (JY Ext)) (hm:P.follows .mixedOrders=true) (f:KE N L []=true) (d:(Nat.ble m L.length&&Iu L m&&true)=true)
  (e:J8 P L a l (RW L b) (fun _ _ w'=>Ext w w') (Jt b) [] m 0 L) (c:∀w',Jr X N a (Jt b) (fun _ w'=>Ext w w') (fun i=>WL P X N L.toArray Q (L.drop m) a i w') w' m 0 L l):CC P X N (.region id L.toArray true) Q a l w:=
 GH m (fun _ _ w'=>Ext w w') (fun _=>[]) [] b hm f d (GG L []) (fun _ _ _ _ _ h g _=>Ext.trans h g) (fun _=>CD w) e c
theorem GC{k:Nat}{o:Oper}(c:o.guard=none)(d:sp.contains k=false)(h:∀a' w' ph,It L a l T Φ sp k o a' w' ph→BT P o a' w' (fun v Bj=>Φ k v Bj∧Ext w' Bj)):GP P L a l S T Φ sp k o:=fun a' w' ph hK=>
 .inl ⟨by unfold Region.wanted;rw[c],(h a' w' ph hK).mono fun v Bj b=>⟨b.1,by
  have:k∉sp:=by simpa using d
  rw[if_neg this];exact b.2⟩⟩
theorem TM{k:Nat}{o:Oper}{c:Value}(b:o.guard=none)(d:sp.contains k=false)(e:∀w,Φ k c w)(h:∀a' w' ph,It L a l T Φ sp k o a' w' ph→BT P o a' w' (fun u Bj=>u=c∧Bj=w')):GP P L a l S T Φ sp k o:=
 GC b d fun a' w' ph hK=>(h a' w' ph hK).mono (by rintro _ _ ⟨rfl,rfl⟩;exact⟨e _,Ext.refl _⟩)
theorem G0{k:Nat}{o:Oper}(c:o.guard=none)(d:sp.contains k=true)(h:∀a' w' ph,It L a l T Φ sp k o a' w' ph→BT P o a' w' (fun v Bj=>Φ k v Bj∧S k w' Bj∧T (ph+1) (a'.put o.dst v) Bj)):GP P L a l S T Φ sp k o:=fun a' w' ph hK=>
 .inl ⟨by unfold Region.wanted;rw[c],(h a' w' ph hK).mono fun v Bj b=>⟨b.1,by
  have:k∈sp:=by simpa using d
  rw[if_pos this];exact b.2⟩⟩
theorem KX{a':Act}{j d:Nat}{b:Bool}(c:B4 L j=some d)(a:sl a' d=.bool b):yielded L.toArray a'.tmps j=some b:=by
 unfold yielded;unfold B4 at c;have e:((L.toArray)[j]?).bind (·.dst)=some d:=by simpa using c
 simp only[e,Option.bind_some];unfold sl at a;rw[Array.getD_eq_getD_getElem?] at a;cases f:a'.tmps[d]? with
 |none=>rw[f] at a;simp[undef] at a
 |some u=>rw[f] at a;simp at a;rw[a]
theorem Ge{k j d:Nat}{o:Oper}{b:Bool}(e:o.guard=some (j,b))(f:B4 L j=some d)(g:sp.contains k=false)(i:∀a' w' ph,It L a l T Φ sp k o a' w' ph→sl a' d=.bool b)
  (h:∀a' w' ph,It L a l T Φ sp k o a' w' ph→BT P o a' w' (fun v Bj=>Φ k v Bj∧Ext w' Bj)):GP P L a l S T Φ sp k o:=fun a' w' ph hK=>
 .inl ⟨by unfold Region.wanted;rw[e];simp[KX f (i a' w' ph hK)],(h a' w' ph hK).mono fun v Bj c=>⟨c.1,by
  have:k∉sp:=by simpa using g
  rw[if_neg this];exact c.2⟩⟩
theorem BW{k j d:Nat}{o:Oper}{b:Bool}{c:Value}(e:o.guard=some (j,b))(f:B4 L j=some d)(g:sp.contains k=false)(i:∀w,Φ k c w)(m:∀a' w' ph,It L a l T Φ sp k o a' w' ph→sl a' d=.bool b)
  (h:∀a' w' ph,It L a l T Φ sp k o a' w' ph→BT P o a' w' (fun u Bj=>u=c∧Bj=w')):GP P L a l S T Φ sp k o:=
 Ge e f g m fun a' w' ph hK=>(h a' w' ph hK).mono (by rintro _ _ ⟨rfl,rfl⟩;exact⟨i _,Ext.refl _⟩)
theorem Eb{k j d:Nat}{o:Oper}{b c:Bool}(e:o.guard=some (j,b))(f:B4 L j=some d)(g:sp.contains k=false)(h:c≠b)(i:∀a' w' ph,It L a l T Φ sp k o a' w' ph→sl a' d=.bool c)(m:∀w,Φ k undef w):GP P L a l S T Φ sp k o:=fun a' w' ph hK=>
 .inr ⟨by unfold Region.wanted;rw[e];simp[KX f (i a' w' ph hK),h],m _,by simpa using g⟩
def Kn (B:Nat) (mk:Nat→Value) (t:TypeId) (cs:Array Value):JY Ext:=⟨fun v w=>∃b,v=mk b∧B≤b∧Bk w b t cs,fun _ _ _ ⟨b,a,c,d⟩ h=>⟨b,a,c,d.ext h⟩⟩
theorem U1{w w' Bj:World}{mk:Nat→Value}{t:TypeId}{cs:Array Value}{u:Value}(h0:w.heap.size≤w'.heap.size)(h:∃b,u=mk b∧I3 w' Bj b t cs):(Kn w.heap.size mk t cs).p u Bj∧Ext w' Bj:=by
 obtain⟨b,hu,a⟩:=h;exact⟨⟨b,hu,by rw[a.Eg];exact h0,a.bk⟩,a.gr⟩
end
def T2 (w:World) (r:Nat) (M:World→Prop):Nat→World→Prop
 |0,w'=>Ext w w'
 |_+1,w'=>Gs r w w'∧M w'
theorem Ie{a b:World}{r:Nat}(h:Ext a b):Gs r a b:=⟨h.os,h.tape,h.output,h.size,fun k c _=>h.block k c (by simp)⟩
theorem Nk{w w':World}{r ph:Nat}{M:World→Prop}(h:T2 w r M ph w'):Gs r w w':=by
 cases ph with
 |zero=>exact Ie h
 |succ=>exact h.1
theorem Bk.t2{w w':World}{r ph b:Nat}{t:TypeId}{cs:Array Value}{M:World→Prop}(h:Bk w b t cs)(g:T2 w r M ph w')(a:b≠r):Bk w' b t cs:=h.M9 (Nk g) a
theorem Rd.t2{w w':World}{r ph lo hi:Nat}{A:Option Addr}{cs:List Value}{M:World→Prop}(h:Rd w lo hi A cs)(g:T2 w r M ph w')(a:r<lo∨hi≤r):Rd w' lo hi A cs:=h.M9 (Nk g) a
abbrev I(n:Int):Value:=.int .i64 n
abbrev pt(b o:Nat):Value:=.pointer (some ⟨b,o,none⟩)
section
variable{P:Program}{X:Ctx}{N:Nat}{ops:Array Oper}{Q:Exit→Act→World→Prop}{rest:List Oper}{a:Act}{l:Env}{w:World}{op:Op}{ty:TypeId}{pos:String}{BX:Array Edge}{d:Nat}
theorem wd{v:Value}{w':World}(b:Nat.blt d N=true)(c:St X N a l→BT P ⟨some d,op,ty,pos,BX,none⟩ (BQ a l) w (fun u Bj=>u=v∧Bj=w'))(e:WL P X N ops Q rest a ((d,v)::l) w'):WL P X N ops Q (⟨some d,op,ty,pos,BX,none⟩::rest) a l w:=
 TG rfl rfl (by simpa[Nat.blt_eq] using b) c e
theorem wm{x:Operand}{v:Value}(b:Nat.blt d N=true)(c:ev a l x=v)(e:WL P X N ops Q rest a ((d,v)::l) w):WL P X N ops Q (⟨some d,.move x,ty,pos,BX,none⟩::rest) a l w:=
 wd b (fun st=>AT (ee st c)) e
theorem wa{x:Operand}{v:Value}(b:Nat.blt d N=true)(c:ev a l x=v)(e:WL P X N ops Q rest a ((d,v)::l) w):WL P X N ops Q (⟨some d,.assign x,ty,pos,BX,none⟩::rest) a l w:=
 wd b (fun st=>Nb (ee st c)) e
theorem we{R:Value→World→Prop}(b:Nat.blt d N=true)(c:St X N a l→BT P ⟨some d,op,ty,pos,BX,none⟩ (BQ a l) w R)(e:∀v w',R v w'→WL P X N ops Q rest a ((d,v)::l) w'):WL P X N ops Q (⟨some d,op,ty,pos,BX,none⟩::rest) a l w:=
 RT rfl rfl (by simpa[Nat.blt_eq] using b) c e
end
section
variable{P:Program}{a:Act}{w:World}{dst:Option Tmp}{ty:TypeId}{pos:String}{BX:Array Edge}{g:Option (Nat×Bool)}
theorem Sn{f:Operand}{xs:Array Operand}{b:Array TypeId}{l:Nat}{vs:Array Value}{R:Value→World→Prop}(c:a.eval f=.func (.yield l) #[] #[])(d:xs.map a.eval=vs)
  (h:YieldAt Fence.wide 0 P l vs w (fun e w'=>∃v,e=.returned v∧R v w')):BT P ⟨dst,.call {callee:=.value f,args:=xs,argTypes:=b},ty,pos,BX,g⟩ a w R:=by
 obtain⟨fn,tmps,assign,body,i,j⟩:=h;have k:(execOp a.eval ⟨dst,.call {callee:=.value f,args:=xs,argTypes:=b},ty,pos,BX,g⟩).run P w=.ok (.round l fn tmps assign body) w:=by
  simp only[execOp,resolve,c,d,Deferred.ofValue];simp only[Sem.run_bind,Sem.run_pure,Result.andThen_ok,invoke];simpa using i
 unfold BT;rw[k];exact j
end
theorem Cw{w w':World}{k:Nat}{o:Obj}(h:w.heap[k]?=some o)(g:Ext w w'):w'.heap[k]?=some o:=(g.block k (Array.getElem?_eq_some_iff.1 h).1 (by simp)).trans h
def mark(D:Nat):List Deferred:=[{target:=.collected D,args:= #[]}]
abbrev X1(D:Nat):Ctx:=⟨none,mark D⟩
abbrev XR(r:Nat):Ctx:=⟨some r,[]⟩
def Iv(a:Act)(D:Nat):Act:={a with defers:=mark D}
theorem MD(a:Act)(D:Nat):∀l:Env,BQ (Iv a D) l=Iv (BQ a l) D
 |[]=>rfl
 |(d,v)::l=>by simp only[BQ,MD a D l];rfl
theorem St.Iv{N:Nat}{a:Act}{l:Env}(s:St X0 N a l)(D:Nat):St (X1 D) N (Iv a D) l:=⟨s.sz,rfl,s.lt⟩
theorem St.inr{N:Nat}{a:Act}{l:Env}(s:St X0 N a l)(r:Nat):St (XR r) N a l:=⟨s.sz,s.df,s.lt⟩
theorem Gv(w:World)(r:Nat)(o:Obj):Gs r w (w.putObj r o):=
 ⟨rfl,rfl,rfl,by simp,fun k _ a=>World.putObj_heap_other (fun e=>a (by rw[e]))⟩
section
variable{P:Program}{N:Nat}{Q:Exit→Act→World→Prop}{a:Act}{l:Env}{w:World}
def LA(a:Act)(l:Env)(fn:FuncId)(ps:Array Nat)(assign body:Code)(D:Nat):Loop:=
 {state:=.ready,pending:=none,fn,tmps:=(BQ a l).tmps,params:=ps,assign,body,defers:=D}
structure Pr(lp:Loop)(a:Act)(l:Env)(qs:Array Nat)(assign body:Code):Prop where
 st:lp.state=.ready
 pe:lp.pending=none
 tm:lp.tmps=(BQ a l).tmps
 ps:lp.params=qs
 Wf:lp.assign=assign
 bo:lp.body=body
theorem Q5{g:Operand}{p:Array Nat}{assign body:Code}{b:FuncId}{cap:Array Value}(q:Bp P b)(t:ev a l g=.func (.func b) #[] cap)
  (h:St X0 N a l→∀(lp:Loop) (w1:World),Pr lp a l p assign body→Ext w w1→w1.heap.size=w.heap.size+2→w1.heap[w.heap.size]?=some (.deferred (some []))→w1.heap[w.heap.size+1]?=some (.loop lp)→
   BU P b (#[.func (.yield (w.heap.size+1)) #[] #[]]++cap) w1 (fun _ f=>∃r,f.heap[w.heap.size+1]?=some (.loop r)∧r.state≠.busy∧
    (r.pending=none→∀d,Gs (w.heap.size+1) f d→LV (X1 w.heap.size) N Q .normal (Iv a w.heap.size) l d)∧
    (∀c,r.pending=some c→∀d,Gs (w.heap.size+1) f d→CC P (X1 w.heap.size) N c Q (Iv a w.heap.size) l d))):
  CC P X0 N (.rangeFunc g p assign body) Q a l w:=fun s=>by
 refine wpIn_rangeFunc (F:=Fence.wide) fun fn _=>?_;have j:(BQ a l).eval g=.func (.func b) #[] cap:=ee s t
 let w1:=(w.alloc (.deferred (some []))).alloc (.loop (LA a l fn p assign body w.heap.size))
 have u:Ext w w1:=Ext.trans (World.grownBy_alloc w _ _) (World.grownBy_alloc _ _ _);have k:w1.heap.size=w.heap.size+2:=by simp[w1]
 have x:w1.heap[w.heap.size]?=some (.deferred (some [])):=by
  have y:(w.alloc (.deferred (some []))).heap[w.heap.size]?=some (.deferred (some [])):=World.alloc_heap_new w _;exact(Below.heap_alloc _ _ _ (by simp)).trans y
 have m:w1.heap[w.heap.size+1]?=some (.loop (LA a l fn p assign body w.heap.size)):=by
  have:=World.alloc_heap_new (w.alloc (.deferred (some []))) (.loop (LA a l fn p assign body w.heap.size));simpa[w1] using this
 have i:=h s (LA a l fn p assign body w.heap.size) w1 ⟨rfl,rfl,rfl,rfl,rfl,rfl⟩ u k x m;refine⟨w.heap.size+1,mark w.heap.size,w1,⟨.fn (.func b) cap, #[]++ #[.func (.yield (w.heap.size+1)) #[] #[]]⟩,w1,b, #[.func (.yield (w.heap.size+1)) #[] #[]]++cap,w1,run_enterLoop_outer fn _ _ _ _,?_,fun _ _=>trivial,?_,Q1 none,?_⟩
 ·have z:(#[Operand.const (.func (.yield (w.heap.size+1)) #[] #[])]).map (BQ a l).eval= #[.func (.yield (w.heap.size+1)) #[] #[]]:=CF rfl;simp only[resolve,j,Deferred.ofValue,z];simp only[Sem.run_bind,Sem.run_pure,Result.andThen_ok]
 ·simp[invoke,J3 q]
 ·have aA:CallsIn Fence.wide (0-1) P b (#[.func (.yield (w.heap.size+1)) #[] #[]]++cap) w1 _:=callsIn_wide.2 i;refine aA.mono ?_;rintro e f ⟨v,rfl,r,aB,aC,aD,aE⟩;refine⟨r.pending,_,run_endLoop aB aC,?_⟩;have n:mark w.heap.size++(BQ a l).defers=mark w.heap.size:=by rw[Dp,s.df];rfl
  have he:({BQ a l with defers:=mark w.heap.size++(BQ a l).defers}:Act)=BQ (Iv a w.heap.size) l:=by rw[MD,n];rfl
  cases o:r.pending with
  |none=>simp only[];rw[he];exact aD o _ (Gv _ _ _) (s.Iv _)
  |some c=>simp only[];rw[he];exact aE c o _ (Gv _ _ _) (s.Iv _)
theorem Ju {r:Nat} {lp:Loop} {p:Nat} {assign body:Code} {v:Value} {R:Value→World→Prop} (s:St X0 N a l) (f:w.heap[r]?=some (.loop lp)) (b:Pr lp a l #[p] assign body)
  (h:CC P (XR r) N assign (Exit.then (fun g i=>∃c,(Instr.beginRound r).run P i=.ok () c∧CW P (XR r).ro body (roundPost P r (fun e w'=>∃v,e=.returned v∧R v w')) g c) (fun _ _ _=>False)) a ((p,v)::l) w) (d:p<N):
  YieldAt Fence.wide 0 P r #[v] w (fun e w'=>∃v,e=.returned v∧R v w'):=by
 refine⟨_,_,_,_,run_yield f (by rw[b.ps];rfl),?_⟩;have j:((lp.params.zip #[v]).foldl (fun tmps (t,a)=>tmps.setIfInBounds t a) lp.tmps)=(BQ a ((p,v)::l)).tmps:=by
  rw[b.ps,b.tm];simp[BQ,Act.put]
 rw[j,b.Wf,b.bo];refine roundIn_of_wpIn trivial ?_;have k:=h ((s.inr r).cons d v);have m:({tmps:=(BQ a ((p,v)::l)).tmps,defers:=[]}:Act)=BQ a ((p,v)::l):=by
  have:(BQ a ((p,v)::l)).defers=[]:=by rw[Dp];exact s.df
  rw[←this]
 rw[m];exact k
theorem Jv{r:Nat}{lp:Loop}{body:Code}{R:Ending→World→Prop}(b:w.heap[r]?=some (.loop lp))(d:lp.state=.ready)
  (h:∀w',Gs r w w'→w'.heap[r]?=some (.loop {lp with state:=.busy})→CC P (XR r) N body (roundPost P r R) a l w'):
  LV (XR r) N (Exit.then (fun e f=>∃c,(Instr.beginRound r).run P f=.ok () c∧CW P (XR r).ro body (roundPost P r R) e c) (fun _ _ _=>False)) .normal a l w:=fun s=>
 ⟨_,run_beginRound b d,h _ (Gv _ _ _) (World.putObj_heap_same (Array.getElem?_eq_some_iff.1 b).1) s⟩
theorem Jd{r:Nat}{lp:Loop}{R:Value→World→Prop}(b:w.heap[r]?=some (.loop lp))(h:∀w',Gs r w w'→w'.heap[r]?=some (.loop {lp with state:=.ready,pending:=none})→R (.bool true) w'):
  LV (XR r) N (roundPost P r (fun e w'=>∃v,e=.returned v∧R v w')) .normal a l w:=fun _=>⟨_,_,run_endRound none b,_,rfl,h _ (Gv _ _ _) (World.putObj_heap_same (Array.getElem?_eq_some_iff.1 b).1)⟩
theorem HR{r:Nat}{lp:Loop}{R:Value→World→Prop}(b:w.heap[r]?=some (.loop lp))(h:∀w',Gs r w w'→w'.heap[r]?=some (.loop {lp with state:=.done,pending:=some .ret})→R (.bool false) w'):
  LV (XR r) N (roundPost P r (fun e w'=>∃v,e=.returned v∧R v w')) .ret a l w:=fun _=>⟨_,_,run_endRound (some .ret) b,_,rfl,h _ (Gv _ _ _) (World.putObj_heap_same (Array.getElem?_eq_some_iff.1 b).1)⟩
def PM (P:Program) (fn:Func) (R:Value→World→Prop):Exit→Act→World→Prop:=bodyPostM Fence.wide 0 P fn (fun e w'=>∃v,e=.returned v∧R v w')
theorem Jw{f:FuncId}{fn:Func}{c:Code}{args:Array Value}{N:Nat}{R:Value→World→Prop}(b:P.funcs[f]?=some fn)(d:fn.body=some c)(e:fn.ntmps=N)(i:args.size≤N)
  (h:∀a:Act,a.tmps=args++Array.replicate (N-args.size) undef→a.defers=[]→CC P X0 N c (PM P fn R) a [] w):BU P f args w R:=by
 refine callsIn_wide.1 (callsIn_of_wp_marks (n:=0) b d trivial ?_);rw[e];exact h {tmps:=args++Array.replicate (N-args.size) undef,defers:=[]} rfl rfl ⟨by simp;omega,rfl,fun _ g=>by cases g⟩
theorem IP {fn:Func} {R:Value→World→Prop} (h:LV X0 N (bodyPost P fn (fun e w'=>∃v,e=.returned v∧R v w')) .ret a l w):LV X0 N (PM P fn R) .ret a l w:=fun s=>by
 obtain⟨b,v,c,d⟩:=h s;show LeavesInM Fence.wide 0 P fn _ _ (BQ a l).defers .returning w;rw[b];exact⟨v,c,d⟩
end
section
variable{P:Program}{X:Ctx}{N:Nat}{Q:Exit→Act→World→Prop}{a:Act}{l:Env}{w:World}
theorem Q6{c:Code}(h:CC P X0 N c (Exit.noGoto Q) a l w):CC P X0 N (.scope c) Q a l w:=fun s=>wpIn_wide.2 (wp_scope_straight (wpIn_wide.1 (h s)))
theorem Q7{k:Nat}(h:LV X N Q .normal a l w):CC P X N (.label k) Q a l w:=fun s=>wpIn_label (h s)
theorem ME(h:LV X N Q .ret a l w):LV X N (Exit.noGoto Q) .ret a l w:=h
end
theorem Je{lp:Loop}{a:Act}{l:Env}{p:Array Nat}{assign body:Code}(h:Pr lp a l p assign body):({{lp with state:=.busy} with state:=.ready,pending:=none}:Loop)=lp:=by
 obtain⟨b,c,_⟩:=h;cases lp;simp only at b c;subst b;subst c;rfl
section
variable{P:Program}{N:Nat}{Q:Exit→Act→World→Prop}{a:Act}{l:Env}{w:World}
theorem Ka {g:Operand} {p:Array Nat} {assign body:Code} {d:FuncId} {cap:Array Value} (i:Bp P d) (j:ev a l g=.func (.func d) #[] cap)
  (h:St X0 N a l→∀(lp:Loop) (w1:World) (D lo:Nat),Pr lp a l p assign body→Ext w w1→w.heap.size≤D→D<w1.heap.size→w.heap.size≤lo→lo<w1.heap.size→lo≠D→w1.heap[D]?=some (.deferred (some []))→w1.heap[lo]?=some (.loop lp)→
   BU P d (#[.func (.yield lo) #[] #[]]++cap) w1 (fun _ e=>∃r,e.heap[lo]?=some (.loop r)∧r.state≠.busy∧
    (r.pending=none→∀b,Gs lo e b→LV (X1 D) N Q .normal (Iv a D) l b)∧
    (∀c,r.pending=some c→∀b,Gs lo e b→CC P (X1 D) N c Q (Iv a D) l b))):
  CC P X0 N (.rangeFunc g p assign body) Q a l w:=
 Q5 i j fun s lp w1 f k o m n=>h s lp w1 w.heap.size (w.heap.size+1) f k (Nat.le_refl _) (by omega) (by omega) (by omega) (by omega) m n
end
end Go.Proofs.YtamobliaoknclaaGreat
end
section
namespace Go.Proofs.YtamobliaoknclaaGreat
open Go.RowKit Go.WideShapes
section
variable{P:Program}{w:World}
theorem Iw{e:TypeId}(he:One P e)(x:List Int)(i:Nat)(hi:i<x.length):(part e (Cd x).toArray i).run P w=.ok (.int .i64 (x.getD i 0)) w:=by
 have:(Cd x).toArray[i]?=some (.int .i64 (x.getD i 0)):=Q2 x i hi;simp only[part,Sem.run_bind,I4 he,Result.andThen_ok,this];rfl
theorem KY{e:TypeId}(hu:P.underlying e=some (.int .i64))(d:Nat)(a b:Int):(Op.equalIn (d+1) e (.int .i64 a) (.int .i64 b)).run P w=.ok (a==b) w:=run_equalIn_int w d e .i64 .i64 a b hu
theorem KZ{e:TypeId}(he:One P e)(hu:P.underlying e=some (.int .i64))(d:Nat)(x y:List Int):∀is:List Nat,(∀i∈is,i<x.length∧i<y.length)→
  (Op.eqItems (d+1) e 1 (Cd x).toArray (Cd y).toArray is).run P w=.ok (is.all fun i=>x.getD i 0==y.getD i 0) w
 |[],_=>by simp[Op.eqItems]
 |i::is,h=>by
  have ih:=KZ he hu d x y is (fun j a=>h j (List.mem_cons_of_mem _ a));obtain⟨b,c⟩:=h i (List.mem_cons_self ..);simp only[Op.eqItems,Sem.run_bind,Nat.mul_one,Iw he x i b,Iw he y i c,KY hu,Result.andThen_ok,List.all_cons];cases f:(x.getD i 0==y.getD i 0)
  ·simp
  ·simpa using ih
theorem Kb(x y:List Int)(n:Nat)(c:x.length=n)(d:y.length=n):((List.range n).all fun i=>x.getD i 0==y.getD i 0)=(x==y):=by
 rw[Bool.eq_iff_iff];simp only[List.all_eq_true,List.mem_range,beq_iff_eq];constructor
 ·intro h;apply List.ext_getElem (by omega);intro i a b;have:=h i (by omega);simpa[List.getElem?_eq_getElem a,List.getElem?_eq_getElem b] using this
 ·rintro rfl i _;rfl
def K0 (P:Program) (K:TypeId) (n:Nat):Prop:=∀(w:World) (x y:List Int),x.length=n→y.length=n→(Op.equal K (EY x) (EY y)).run P w=.ok (x==y) w
def Nl(P:Program)(K:TypeId)(n:Nat):Prop:=∀(w:World) (em:Bool) (x:List Int),x.length=n→(Instr.checkKey em 10000 K (EY x)).run P w=.ok () w
def Jx(P:Program)(K:TypeId):Prop:=(match P.underlying K with|some (.array _ _)|some (.struct _)=>true|_=>false)=true
theorem PZ{K e n:Nat}(hK:P.underlying K=some (.array n e))(he:One P e)(hu:P.underlying e=some (.int .i64)):K0 P K n:=by
 intro w x y b c;obtain⟨i,hi,d⟩:=Option.map_eq_some_iff.1 he.2;have h:=run_equalIn_array w 9999 (Cd x).toArray (Cd y).toArray hK hi;have f:P.cellsOf e=1:=by unfold Program.cellsOf;rw[hi];simpa using d
 rw[f,KZ he hu 9998 x y (List.range n) (fun i a=>by have:=List.mem_range.1 a;omega),Kb x y n b c] at h;exact h
end
def MF (e:TypeId):Nat→List Field→Bool
 |_,[]=>true
 |i,f::a=>f.name !="_"&&Nat.beq f.type e&&Nat.beq f.offset i&&MF e (i+1) a
theorem Nn{e i:Nat}{f:Field}{a:List Field}(h:MF e i (f::a)=true):f.name≠"_"∧f.type=e∧f.offset=i∧MF e (i+1) a=true:=by
 simp only[MF,Bool.and_eq_true] at h;exact⟨by simpa using h.1.1.1,Nat.eq_of_beq_eq_true h.1.1.2,Nat.eq_of_beq_eq_true h.1.2,h.2⟩
section
variable{P:Program}{w:World}
theorem Kd{e:TypeId}(he:One P e)(hu:P.underlying e=some (.int .i64))(d:Nat)(x y:List Int):∀(a:List Field) (i:Nat),MF e i a=true→i+a.length≤x.length→i+a.length≤y.length→
  (Op.eqFields (d+1) (Cd x).toArray (Cd y).toArray a).run P w=.ok ((List.range' i a.length).all fun j=>x.getD j 0==y.getD j 0) w
 |[],i,_,_,_=>by simp[Op.eqFields]
 |f::a,i,h,b,c=>by
  obtain⟨g,k,l,m⟩:=Nn h;simp only[List.length_cons] at b c;have ih:=Kd he hu d x y a (i+1) m (by omega) (by omega);simp only[Op.eqFields,g,ne_eq,not_false_eq_true,if_true,Sem.run_bind,k,l,Iw he x i (by omega),Iw he y i (by omega),KY hu,Result.andThen_ok,List.length_cons,List.range'_succ,List.all_cons];cases n:(x.getD i 0==y.getD i 0)
  ·simp
  ·simpa using ih
theorem Ps{K e:Nat}{a:Array Field}(n:Nat)(hK:P.underlying K=some (.struct a))(c:P.stoodInHeld K=false)(d:MF e 0 a.toList=true)(f:a.toList.length=n)(he:One P e)(hu:P.underlying e=some (.int .i64)):K0 P K n:=by
 intro w x y g i;have b:P.fieldsOf K=a:=by simp[Program.fieldsOf,hK]
 have h:=run_equalIn_struct w 9999 K (Cd x).toArray (Cd y).toArray (by rw[b];exact hK) c;rw[b,Kd he hu 9998 x y a.toList 0 d (by omega) (by omega),←List.range_eq_range',f,Kb x y n g i] at h;exact h
theorem Oq{K e:Nat}{a:Array Field}(n:Nat)(hK:P.underlying K=some (.struct a))(c:MF e 0 a.toList=true)(m:a.toList.length=n)(he:One P e)(hu:P.underlying e=some (.int .i64)):Nl P K n:=by
 intro w em x o;have b:∀v:Int,(Instr.checkKey em 9999 e (.int .i64 v)).run P w=.ok () w:=by
  intro v;rw[show(9999:Nat)=9998+1 from rfl,Instr.checkKey];simp only[Sem.run_bind,run_underlying hu,Result.andThen_ok];rfl
 rw[show(10000:Nat)=9999+1 from rfl,EY,Instr.checkKey];simp only[Sem.run_bind,run_underlying hK,Result.andThen_ok];rw[←Array.forIn_toList];have key:∀(L:List Field) (i:Nat),MF e i L=true→i+L.length≤x.length→(forIn L PUnit.unit (fun f (_:PUnit)=>do
   if f.name≠"_"then
    let v←part f.type (Cd x).toArray f.offset
    Instr.checkKey em 9999 f.type v
    pure PUnit.unit
    pure (ForInStep.yield PUnit.unit)
   else pure (ForInStep.yield PUnit.unit)):Sem PUnit).run P w=.ok PUnit.unit w:=by
  intro L
  induction L with
  |nil=>intro i _ _;simp
  |cons f L ih=>
   intro i h d;obtain⟨g,j,k,l⟩:=Nn h;simp only[List.length_cons] at d;simp only[List.forIn_cons,Sem.run_bind,g,ne_eq,not_false_eq_true,if_true,j,k,Iw he x i (by omega),b,Result.andThen_ok,Sem.run_pure];exact ih (i+1) l (by omega)
 have:=key a.toList 0 c (by omega);simp at this;simp[this]
end
def Ix (w:World) (r n:Nat) (L:List (List Int×Int)):Prop:=
 ∃es clock,w.heap[r]?=some (.map es clock)∧es.toList.map (fun e=>(e.key,e.val))=L.map (fun p=>(EY p.1,Value.int .i64 p.2))∧∀p∈L,p.1.length=n
section
variable{w w':World}{r n b:Nat}{L:List (List Int×Int)}
theorem Ix.lt(h:Ix w r n L):r<w.heap.size:=by obtain⟨es,c,h,_⟩:=h;exact lt_of_block h
theorem Ix.ext(h:Ix w r n L)(g:Ext w w'):Ix w' r n L:=by
 have a:=h.lt;obtain⟨es,c,b,d⟩:=h;exact⟨es,c,(g.block r a (by simp)).trans b,d⟩
theorem Ix.M9(h:Ix w r n L)(g:Gs b w w')(a:r≠b):Ix w' r n L:=by
 have d:=h.lt;obtain⟨es,c,e,f⟩:=h;exact⟨es,c,(g.block r d (by simpa using a)).trans e,f⟩
end
section
variable{P:Program}{a:Act}{w:World}{dst:Option Tmp}{ty:TypeId}{pos:String}{BX:Array Edge}{g:Option (Nat×Bool)}{K E T r n:Nat}{L:List (List Int×Int)}{k:List Int}
theorem Ot{kind:TypeDesc}(a:match kind with|.array _ _|.struct _=>True|_=>False)(cs:Array Value):∀(es:List MapEntry) (i:Nat),(∀e∈es,∃ds,e.key=.agg ds)→es≠[]→Instr.findNow kind (.agg cs) es i=none
 |[],_,_,h=>absurd rfl h
 |e::es,i,he,_=>by
  obtain⟨ds,b⟩:=he e (List.mem_cons_self ..);unfold Instr.findNow;rw[b];cases kind<;>simp at a<;>simp[Instr.sameNow]
theorem LB{o:Obj}(h:w.heap[r]?=some o)(a:∀c e f,o≠.cells c e f):(getObj r).run P w=.ok o w:=by
 unfold getObj;cases o<;>first|exact absurd rfl (a _ _ _)|(simp only[Sem.run,h])
theorem No(d:Nat)(x:List Int):Instr.sameBits (d+1) (EY x) (EY x)=true:=by
 unfold EY Instr.sameBits;simp only[beq_self_eq_true,Bool.true_and,List.all_eq_true];rintro⟨u,v⟩ h;rw[List.mem_iff_getElem] at h;obtain⟨i,hi,he⟩:=h;simp only[List.getElem_zip,Prod.mk.injEq] at he;obtain⟨a,b⟩:=he;subst a;subst b;simp only[Cd,List.getElem_map];cases d<;>simp[Instr.sameBits]
end
theorem Ix.t2{w w':World}{r ph b n:Nat}{L:List (List Int×Int)}{M:World→Prop}(h:Ix w b n L)(g:T2 w r M ph w')(a:b≠r):Ix w' b n L:=h.M9 (Nk g) a
end Go.Proofs.YtamobliaoknclaaGreat
end
section
namespace Go.Proofs.YtamobliaoknclaaGreat
open Go.RowKit
def Df (w:World) (base:Nat) (e:TypeId) (sz:Nat) (A:Option Addr) (n c:Nat) (xs:List Value):Prop:=w.ownsRow base e sz (.slice A n c) n xs
section
variable{w w':World}{base:Nat}{e:TypeId}{sz:Nat}{A:Option Addr}{n c:Nat}{xs:List Value}
theorem Df.nil(w:World)(base:Nat)(e:TypeId)(sz:Nat):Df w base e sz none 0 0 []:=World.ownsRow_nil w base e sz
theorem Df.len(h:Df w base e sz A n c xs):xs.length=n*sz:=h.1
theorem Df.rd(h:Df w base e sz A n c xs):Rd w base w.heap.size A xs:=by
 refine⟨Nat.le_refl _,?_⟩;rcases h.2 with⟨_,h0⟩|⟨g,cap,cur,a,b,d,_,_,_,_⟩
 ·exact .inl (List.eq_nil_of_length_eq_zero (by rw[h.1,h0,Nat.zero_mul]))
 ·refine .inr ⟨g,0,?_,b,lt_of_block d,fun j u hu=>?_⟩
  ·cases a;rfl
  ·have:=World.ownsRow.cells h (g:=g) (by cases a;rfl) j u hu;rw[E5] at this;exact this
theorem Df.kept(h:Df w base e sz A n c xs){r:Option Nat}(g:w.grownBy w' r)(a:∀k,r=some k→∀o,A≠some ⟨k,o,none⟩):Df w' base e sz A n c xs:=
 World.ownsRow.kept h g (by
  rcases h.2 with⟨h0,_⟩|⟨b,cap,cur,d,_⟩
  ·exact .inl (by rw[h0];rfl)
  ·refine .inr ?_;cases d;intro he;exact a b (by simpa[Value.ownBlock] using he.symm) 0 rfl)
theorem Df.ext(h:Df w base e sz A n c xs)(g:Ext w w'):Df w' base e sz A n c xs:=h.kept g (fun _ e=>by cases e)
theorem Df.HE (h:Df w base e sz A n c xs) {k o:Nat} (b:A=some ⟨k,o,none⟩):base≤k∧k<w.heap.size∧∃cur,w.heap[k]?=some (.cells cur e (0,0)):=by
 subst b;rcases h.2 with⟨h0,_⟩|⟨g,cap,cur,d,f,a,_⟩
 ·cases h0
 ·cases d;exact⟨f,lt_of_block a,cur,a⟩
theorem Df.M9{r:Nat}(h:Df w base e sz A n c xs)(g:Gs r w w')(d:r<base):Df w' base e sz A n c xs:=h.kept g (fun k a o b=>by
 cases a;have:=(h.HE b).1;omega)
theorem Rd.pre{α:Type}{enc:α→List Value}{lo hi:Nat}{A:Option Addr}{xs:List α}(h:Rd w lo hi A (flat enc xs))(k:Nat):Rd w lo hi A (flat enc (xs.take k)):=by
 refine⟨h.1,?_⟩;have e:flat enc xs=flat enc (xs.take k)++flat enc (xs.drop k):=by unfold flat;rw[←List.flatMap_append,List.take_append_drop]
 rcases h.2 with h0|⟨b,o,a,c,d,f⟩
 ·refine .inl ?_;rw[e] at h0;exact(List.append_eq_nil_iff.1 h0).1
 ·refine .inr ⟨b,o,a,c,d,fun j u hu=>f j u ?_⟩;rw[e,List.getElem?_append_left (List.getElem?_eq_some_iff.1 hu).1];exact hu
theorem Bk.row {b:Nat} {t:TypeId} {cs:Array Value} (h:Df w base e sz A n c xs) {w1 w2:World} (a:Bk w1 b t cs) (i:w.heap.size≤b) (g:w1.grownBy w2 (Value.ownBlock (.slice A n c))):Bk w2 b t cs:=
 (g.block b a.lt (fun e=>by
  cases A with
  |none=>cases e
  |some ad=>
   have:b=ad.block:=by simpa[Value.ownBlock] using e
   rcases h.2 with⟨h0,_⟩|⟨g,cap,cur,d,_,f,_⟩
   ·cases h0
   ·cases d;have:=lt_of_block f;simp only at*;omega)).trans a
end
section
variable{P:Program}{a:Act}{w:World}{dst:Option Tmp}{ty:TypeId}{pos:String}{BX:Array Edge}{g:Option (Nat×Bool)}
theorem Sp {t e:TypeId} {i:TypeInfo} {z:Value} {sz:Nat} (s:P.underlying t=some (.slice e)) (hi:P.info? e=some i) (y:i.zero=some z) (l:i.size=sz) (aI:z.cells.size=sz)
  {A A':Option Addr} {n c c' base m cap:Nat} {xs news:List Value} {ad:Addr} {w':World} (d:Df w base e sz A n c xs) (p:news.length=m*sz) (a:∀j u,news[j]?=some u→w.cell? (ad.add j)=some u) (aE:∀u∈news,u.oneCell'=true)
  (aA:n+m≤maxLen) (b:(n+m)*i.bytes≤140737488355328) (h:(Builtin.append_ #[t,t] ty #[.slice A n c,.slice (some ad) m cap]).run P w=.ok (.slice A' (n+m) c') w')
  (v:(Value.slice A' (n+m) c'=.slice none 0 0↔Value.slice A n c=.slice none 0 0∧m=0)):Ext w w'∨(A'=A∧c'=c):=by
 subst l;have aB:n+m≤9223372036854775807:=by simp only[maxLen] at aA;omega
 have r:∀o:Obj,Ext w (w.drew.alloc o):=fun o=>Ext.trans (CD w) (World.grownBy_alloc _ _ _);rcases d.2 with⟨k,h0⟩|⟨q,aF,cur,k,aJ,aG,aK,aL,aC,aD⟩
 ·cases k;rcases Nat.eq_zero_or_pos m with rfl|hm
  ·have:=v.2 ⟨rfl,rfl⟩;exact .inr (by cases this;exact⟨rfl,rfl⟩)
  ·have:=run_append_nil (P:=P) w t ty e i z s hi y ad m cap news p a (by omega) (by omega) (by have aH:=b;simp only[Nat.zero_add] at aH;omega);rw[this] at h;injection h with _ hw
   exact .inl (hw▸r _)
 ·cases k
  by_cases f:n+m≤c
  ·have x:n*i.size+news.length≤cur.size:=by rw[p,aC,←Nat.add_mul];exact Nat.mul_le_mul_right _ f
   have:=run_append_room (P:=P) w t ty e i s hi q n c cur aG ad m cap news p a aE f x;rw[this] at h;injection h with k _
   exact .inr (by cases k;exact⟨rfl,rfl⟩)
  ·have holds:∀j u,xs[j]?=some u→w.cell? ((⟨q,0,none⟩:Addr).add j)=some u:=World.ownsRow.cells d (g:=q) rfl;have:=run_append_grow (P:=P) w t ty e i z s hi y ⟨q,0,none⟩ n c xs d.1 holds ad m cap news p a (by omega) (by omega) (growslice_fits (by omega) b);rw[this] at h;injection h with _ hw
   exact .inl (hw▸r _)
theorem P0 {s x:Operand} {t e:TypeId} {z:Value} {sz bytes:Nat} (aC:P.underlying t=some (.slice e)) (hi:(P.info? e).map (fun i=>(i.zero,i.size,i.bytes))=some (some z,sz,bytes)) (q:z.cells.size=sz) (aD:0<sz)
  {A:Option Addr} {n c base:Nat} {xs news:List Value} {m cap:Nat} {ad:Addr} (aH:a.eval s=.slice A n c) (aI:a.eval x=.slice (some ad) m cap) (f:Df w base e sz A n c xs)
  (l:∀j u,news[j]?=some u→w.cell? (ad.add j)=some u)
  (aE:news.length=m*sz) (aF:∀u∈news,u.oneCell'=true) (r:n+m≤maxLen) (d:(n+m)*bytes≤140737488355328) (p:base≤w.heap.size):
  BT P ⟨dst,.call {callee:=.builtin .append,args:= #[s,x],argTypes:= #[t,t]},ty,pos,BX,g⟩ a w (fun v w'=>∃A' c',v=.slice A' (n+m) c'∧Df w' base e sz A' (n+m) c' (xs++news)∧w.grownBy w' (Value.ownBlock (.slice A n c))∧(Ext w w'∨(A'=A∧c'=c))∧(∀k o,A'=some ⟨k,o,none⟩→(∃o',A=some ⟨k,o',none⟩)∨w.heap.size≤k)):=by
 cases b:P.info? e with
 |none=>simp[b] at hi
 |some i=>
  simp only[b,Option.map_some,Option.some.injEq,Prod.mk.injEq] at hi;obtain⟨v',w',aG,y,aJ,aK,aL⟩:=run_append_own_at (P:=P) w base t ty e i z sz bytes aC b hi.1 hi.2.1 hi.2.2 q aD (.slice A n c) n xs f ad m cap news aE l aF r d p;have he:(execOp a.eval ⟨dst,.call {callee:=.builtin .append,args:= #[s,x],argTypes:= #[t,t]},ty,pos,BX,g⟩).run P w=.ok (.value v') w':=by
   unfold execOp;simp only[resolve,invoke,builtin,Sem.run_bind,Sem.run_pure,Result.andThen_ok,List.map_toArray,List.map_cons,List.map_nil,aH,aI,aG]
  have key:∃A' c',v'=.slice A' (n+m) c'∧Df w' base e sz A' (n+m) c' (xs++news):=by
   rcases y.2 with⟨rfl,h0⟩|⟨aM,aA,cur,rfl,_⟩
   ·refine⟨none,0,by rw[h0],?_⟩;have:=y;rw[h0] at this⊢;exact this
   ·exact⟨_,_,rfl,y⟩
  obtain⟨A',c',rfl,aN⟩:=key;unfold BT;rw[he];refine⟨A',c',rfl,aN,aJ,Sp aC b hi.1 hi.2.1 q f aE l aF r (by rw[hi.2.2];exact d) aG aK,?_⟩;rintro k o rfl;rcases aL with h|h
  ·left;cases A with
   |none=>simp[Value.ownBlock] at h
   |some ad=>
    have aO:k=ad.block:=by simpa[Value.ownBlock] using h
    rcases f.2 with⟨aB,_⟩|⟨aM,aA,cur,aB,_⟩
    ·cases aB
    ·cases aB;exact⟨0,by rw[aO]⟩
  ·right;have:k=w.heap.size:=by simpa[Value.ownBlock] using h
   omega
theorem Df.new{w w':World}{b base:Nat}{e:TypeId}{sz:Nat}(h:I3 w w' b e #[])(a:base≤w.heap.size):Df w' base e sz (some ⟨b,0,none⟩) 0 0 []:=
 ⟨by simp,.inr ⟨b,0, #[],rfl,by rw[h.Eg];exact a,h.bk,Nat.le_refl _,by simp[maxLen],by simp,by simp⟩⟩
theorem KG{x y:Operand}{t u:TypeId}{A B:Option Addr}{n c m d:Nat}{b:Bool}(e:a.eval x=.slice A n c)(f:a.eval y=.slice B m d)(h:(eqGuard .eql t x y (.slice A n c) (.slice B m d)).run P w=.ok () w)(i:(Op.equal t (.slice A n c) (.slice B m d)).run P w=.ok b w):BT P ⟨dst,.binOp .eql t x y u,ty,pos,BX,g⟩ a w (fun v w'=>v=.bool b∧w'=w):=
 Co (by simp[execOp,e,f,binOp,h,i])
end
structure Mv (w:World) (Z:Nat→Prop) (w':World) (Z':Nat→Prop):Prop where
 size:w.heap.size≤w'.heap.size
 stay:∀b,Z b→b<w.heap.size→Z' b∧w'.heap[b]?=w.heap[b]?
theorem Mv.refl(w:World)(Z:Nat→Prop):Mv w Z w Z:=⟨Nat.le_refl _,fun _ h _=>⟨h,rfl⟩⟩
theorem Mv.trans{w1 w2 a:World}{c d e:Nat→Prop}(h:Mv w1 c w2 d)(k:Mv w2 d a e):Mv w1 c a e:=
 ⟨Nat.le_trans h.size k.size,fun b g f=>by
  obtain⟨i,j⟩:=h.stay b g f;obtain⟨l,m⟩:=k.stay b i (Nat.lt_of_lt_of_le f h.size);exact⟨l,m.trans j⟩⟩
theorem Aj{w w':World}{Z:Nat→Prop}(h:Ext w w'):Mv w Z w' Z:=⟨h.size,fun b a c=>⟨a,h.block b c (by simp)⟩⟩
theorem F8{w:World}{Z Z':Nat→Prop}(h:∀b,Z b→b<w.heap.size→Z' b):Mv w Z w Z':=⟨Nat.le_refl _,fun b a c=>⟨h b a c,rfl⟩⟩
def ZA:Nat→Prop:=fun _=>True
theorem Ke{w:World}{Z:Nat→Prop}:Mv w Z w ZA:=F8 fun _ _ _=>trivial
def Rz (w:World) (Z:Nat→Prop) (A:Option Addr) (cs:List Value):Prop:=
 cs=[]∨∃b o,A=some ⟨b,o,none⟩∧Z b∧b<w.heap.size∧∀j u,cs[j]?=some u→w.cell? ⟨b,o+j,none⟩=some u
theorem Rz.mv{w w':World}{Z Z':Nat→Prop}{A:Option Addr}{cs:List Value}(h:Rz w Z A cs)(g:Mv w Z w' Z'):Rz w' Z' A cs:=
 h.imp id fun⟨b,o,e,d,c,f⟩=>⟨b,o,e,(g.stay b d c).1,Nat.lt_of_lt_of_le c g.size,fun j u hu=>
  (World.cell?_of_block (a:=⟨b,o+j,none⟩) (g.stay b d c).2).trans (f j u hu)⟩
theorem Rz.cells{w:World}{Z:Nat→Prop}{b o:Nat}{cs:List Value}(h:Rz w Z (some ⟨b,o,none⟩) cs):∀j u,cs[j]?=some u→w.cell? ⟨b,o+j,none⟩=some u:=by
 rcases h with rfl|⟨b',o',a,_,_,c⟩
 ·simp
 ·cases a;exact c
theorem Rz.rd{w:World}{Z:Nat→Prop}{A:Option Addr}{cs:List Value}(h:Rz w Z A cs):Rd w 0 w.heap.size A cs:=
 ⟨Nat.le_refl _,h.imp id fun⟨b,o,a,_,c,d⟩=>⟨b,o,a,Nat.zero_le _,c,d⟩⟩
theorem Np{w:World}{lo hi:Nat}{A:Option Addr}{cs:List Value}{Z:Nat→Prop}(h:Rd w lo hi A cs)(c:∀b,lo≤b→b<hi→Z b):Rz w Z A cs:=
 h.2.imp id fun⟨b,o,d,e,a,f⟩=>⟨b,o,d,c b e a,Nat.lt_of_lt_of_le a h.1,f⟩
structure DA (α:Type) where
 sz:Nat
 R:World→(Nat→Prop)→List Value→α→Prop
 len:∀{w Z cs x},R w Z cs x→cs.length=sz
 one:∀{w Z cs x},R w Z cs x→∀u∈cs,u.oneCell'=true
 mv:∀{w Z w' Z' cs x},R w Z cs x→Mv w Z w' Z'→R w' Z' cs x
def R2{α:Type}(e:DA α)(w:World)(Z:Nat→Prop):List (List Value)→List α→Prop
 |[],[]=>True
 |c::cs,x::xs=>e.R w Z c x∧R2 e w Z cs xs
 |_,_=>False
section
variable{α:Type}{e:DA α}{w w':World}{Z Z':Nat→Prop}
theorem R2.len:∀{A5:List (List Value)} {xs:List α},R2 e w Z A5 xs→A5.length=xs.length
 |[],[],_=>rfl
 |_::_,_::_,h=>by simp[R2.len h.2]
 |[],_::_,h=>h.elim
 |_::_,[],h=>h.elim
theorem R2.mv(g:Mv w Z w' Z'):∀{A5:List (List Value)} {xs:List α},R2 e w Z A5 xs→R2 e w' Z' A5 xs
 |[],[],_=>trivial
 |_::_,_::_,h=>⟨e.mv h.1 g,R2.mv g h.2⟩
 |[],_::_,h=>h.elim
 |_::_,[],h=>h.elim
theorem R2.one:∀{A5:List (List Value)} {xs:List α},R2 e w Z A5 xs→∀u∈A5.flatten,u.oneCell'=true
 |[],[],_=>by simp
 |c::cs,_::_,h=>by
  intro u hu;rw[List.flatten_cons,List.mem_append] at hu;exact hu.elim (e.one h.1 u) (R2.one h.2 u)
 |[],_::_,h=>h.elim
 |_::_,[],h=>h.elim
theorem R2.Iy:∀{A5:List (List Value)} {xs:List α},R2 e w Z A5 xs→A5.flatten.length=xs.length*e.sz
 |[],[],_=>by simp
 |c::cs,_::xs,h=>by
  rw[List.flatten_cons,List.length_append,e.len h.1,R2.Iy h.2,List.length_cons,Nat.add_mul,Nat.one_mul,Nat.add_comm]
 |[],_::_,h=>h.elim
 |_::_,[],h=>h.elim
theorem R2.get:∀{A5:List (List Value)} {xs:List α},R2 e w Z A5 xs→∀{k:Nat} {x:α},xs[k]?=some x→∃c,A5[k]?=some c∧e.R w Z c x∧(A5.flatten.drop (k*e.sz)).take e.sz=c
 |[],[],_,k,x,a=>by simp at a
 |c::cs,y::xs,h,0,x,a=>by
  obtain rfl:y=x:=by simpa using a
  refine⟨c,rfl,h.1,?_⟩;have b:=e.len h.1;rw[Nat.zero_mul,List.drop_zero,List.flatten_cons,List.take_append_of_le_length (by rw[b];exact Nat.le_refl _),List.take_of_length_le (by rw[b];exact Nat.le_refl _)]
 |c::cs,y::xs,h,k+1,x,a=>by
  obtain⟨c',d,f,g⟩:=R2.get h.2 (k:=k) (x:=x) (by simpa using a);refine⟨c',by simpa using d,f,?_⟩;rw[←g,List.flatten_cons,List.drop_append,e.len h.1,List.drop_of_length_le (by rw[e.len h.1,Nat.add_mul];omega),List.nil_append]
  congr 2
  rw[Nat.add_mul];omega
 |[],_::_,h,_,_,_=>h.elim
 |_::_,[],h,_,_,_=>h.elim
theorem R2.append:∀{A5 a:List (List Value)} {xs ys:List α},R2 e w Z A5 xs→R2 e w Z a ys→R2 e w Z (A5++a) (xs++ys)
 |[],_,[],_,_,h=>h
 |_::_,_,_::_,_,h,k=>⟨h.1,R2.append h.2 k⟩
 |[],_,_::_,_,h,_=>h.elim
 |_::_,_,[],_,h,_=>h.elim
theorem R2.drop:∀(k:Nat) {A5:List (List Value)} {xs:List α},R2 e w Z A5 xs→R2 e w Z (A5.drop k) (xs.drop k)
 |0,_,_,h=>h
 |k+1,[],[],_=>trivial
 |k+1,_::cs,_::xs,h=>by simpa using R2.drop k h.2
 |_+1,[],_::_,h=>h.elim
 |_+1,_::_,[],h=>h.elim
theorem R2.take:∀(k:Nat) {A5:List (List Value)} {xs:List α},R2 e w Z A5 xs→R2 e w Z (A5.take k) (xs.take k)
 |0,_,_,_=>trivial
 |k+1,[],[],_=>trivial
 |k+1,_::cs,_::xs,h=>⟨h.1,R2.take k h.2⟩
 |_+1,[],_::_,h=>h.elim
 |_+1,_::_,[],h=>h.elim
theorem R2.set{x:α}{c:List Value}(a:e.R w Z c x):∀(k:Nat) {A5:List (List Value)} {xs:List α},R2 e w Z A5 xs→R2 e w Z (A5.set k c) (xs.set k x)
 |_,[],[],_=>trivial
 |0,_::_,_::_,h=>⟨a,h.2⟩
 |k+1,_::cs,_::xs,h=>⟨h.1,R2.set a k h.2⟩
 |_,[],_::_,h=>h.elim
 |_,_::_,[],h=>h.elim
theorem R2.RX(h0:0<e.sz):∀(k:Nat) {A5:List (List Value)} {xs:List α},R2 e w Z A5 xs→A5.flatten.drop (k*e.sz)=(A5.drop k).flatten
 |0,_,_,_=>by simp
 |k+1,[],[],_=>by simp
 |k+1,c::cs,_::xs,h=>by
  rw[List.drop_succ_cons,←R2.RX h0 k h.2,List.flatten_cons,List.drop_append,e.len h.1,List.drop_of_length_le (by rw[e.len h.1,Nat.add_mul];omega),List.nil_append]
  congr 1
  rw[Nat.add_mul];omega
 |_+1,[],_::_,h=>h.elim
 |_+1,_::_,[],h=>h.elim
end
def Sl {α:Type} (e:DA α) (w:World) (Z:Nat→Prop) (A:Option Addr) (c:Nat) (xs:List α):Prop:=
 xs.length≤c∧(A=none→c=0)∧∃A5,R2 e w Z A5 xs∧Rz w Z A A5.flatten
section
variable{α:Type}{e:DA α}{w w':World}{Z Z':Nat→Prop}{A:Option Addr}{c:Nat}{xs:List α}
theorem Sl.mv(h:Sl e w Z A c xs)(g:Mv w Z w' Z'):Sl e w' Z' A c xs:=⟨h.1,h.2.1,h.2.2.imp fun _ ⟨a,b⟩=>⟨a.mv g,b.mv g⟩⟩
theorem Sl.all(h:Sl e w Z A c xs):Sl e w ZA A c xs:=h.mv Ke
theorem Sl.nil(e:DA α)(w:World)(Z:Nat→Prop):Sl e w Z none 0 []:=⟨Nat.le_refl _,fun _=>rfl,[],trivial,.inl rfl⟩
theorem Sl.elem (h:Sl e w Z A c xs) (h0:0<e.sz) {k:Nat} {x:α} (l:xs[k]?=some x):∃b o cs,A=some ⟨b,o,none⟩∧e.R w Z cs x∧Rz w Z (some ⟨b,o+k*e.sz,none⟩) cs:=by
 obtain⟨-,-,A5,m,f⟩:=h;obtain⟨cs,n,g,a⟩:=m.get l;have p:=e.len g;have s:k<A5.length:=(List.getElem?_eq_some_iff.1 n).1;rcases f with f|⟨b,o,q,r,i,d⟩
 ·rw[f] at a;simp at a;subst a;simp at p;omega
 ·refine⟨b,o,cs,q,g,.inr ⟨b,_,rfl,r,i,fun j u hu=>?_⟩⟩;rw[Nat.add_assoc];refine d _ _ ?_;subst a;rw[List.getElem?_take] at hu;split at hu
  ·simpa using hu
  ·cases hu
theorem Sl.D1(h:Sl e w Z A c xs)(d:e.sz=1){k:Nat}{x:α}(f:xs[k]?=some x):∃b o cs,A=some ⟨b,o,none⟩∧e.R w Z cs x∧Rz w Z (some ⟨b,o+k,none⟩) cs:=by
 obtain⟨b,o,cs,g,i,a⟩:=h.elem (by omega) f;rw[d,Nat.mul_one] at a;exact⟨b,o,cs,g,i,a⟩
end
def Aw(k:IntKind):DA Int:=⟨1,fun _ _ cs x=>cs=[.int k x],fun h=>by rw[h];rfl,fun h=>by rw[h];simp[Value.oneCell'],fun h _=>h⟩
def BB:DA Bool:=⟨1,fun _ _ cs x=>cs=[.bool x],fun h=>by rw[h];rfl,fun h=>by rw[h];simp[Value.oneCell'],fun h _=>h⟩
def By{α:Type}(e:DA α):DA (List α):=
 ⟨1,fun w Z cs xs=>∃A c,cs=[.slice A xs.length c]∧Sl e w Z A c xs,fun⟨_,_,h,_⟩=>by rw[h];rfl,fun⟨_,_,h,_⟩=>by rw[h];simp[Value.oneCell'],
  fun⟨A,c,a,b⟩ g=>⟨A,c,a,b.mv g⟩⟩
structure VE (α:Type) where
 R:World→(Nat→Prop)→Value→α→Prop
 mv:∀{w Z w' Z' v x},R w Z v x→Mv w Z w' Z'→R w' Z' v x
def Fz(k:IntKind):VE Int:=⟨fun _ _ v x=>v=.int k x,fun h _=>h⟩
def BR:VE Bool:=⟨fun _ _ v x=>v=.bool x,fun h _=>h⟩
def FV{α:Type}(e:DA α):VE (List α):=⟨fun w Z v xs=>∃A c,v=.slice A xs.length c∧Sl e w Z A c xs,fun⟨A,c,a,b⟩ g=>⟨A,c,a,b.mv g⟩⟩
def DT{α:Type}(e:DA α):VE α:=⟨fun w Z v x=>∃cs,v=.agg cs.toArray∧e.R w Z cs x,fun h g=>h.imp fun _ h=>⟨h.1,e.mv h.2 g⟩⟩
def P1{α β:Type}(a:VE α)(b:VE β):VE (α×β):=⟨fun w Z v x=>∃u t,v=.tuple #[u,t]∧a.R w Z u x.1∧b.R w Z t x.2,fun⟨u,t,h,c,d⟩ g=>⟨u,t,h,a.mv c g,b.mv d g⟩⟩
def TN{α β i:Type}(a:VE α)(b:VE β)(c:VE i):VE (α×β×i):=
 ⟨fun w Z v x=>∃u t s,v=.tuple #[u,t,s]∧a.R w Z u x.1∧b.R w Z t x.2.1∧c.R w Z s x.2.2,fun⟨u,t,s,h,d,e,f⟩ g=>⟨u,t,s,h,a.mv d g,b.mv e g,c.mv f g⟩⟩
def Kv{α:Type}(v:VE α)(Z:Nat→Prop)(x:α):JY Ext:=⟨fun u w=>v.R w Z u x,fun _ _ _ h g=>v.mv h (Aj g)⟩
def ob:Option Addr→Option Nat:=Option.map (·.block)
theorem TO(A:Option Addr)(n c:Nat):Value.ownBlock (.slice A n c)=ob A:=by cases A<;>rfl
def FN:Nat→Prop:=fun _=>False
def FU (F:Nat→Prop) (M:List (Option Nat)):Nat→Prop:=fun k=>F k∨some k∈M
structure Bg (D:Nat→Prop) (w w':World):Prop where
 os:w'.os=w.os
 tape:w'.tape=w.tape
 output:w'.output=w.output
 size:w.heap.size≤w'.heap.size
 block:∀k,k<w.heap.size→¬D k→w'.heap[k]?=w.heap[k]?
section
variable{D D' F F':Nat→Prop}{M M':List (Option Nat)}{w w' Bj:World}
theorem Bg.refl(D:Nat→Prop)(w:World):Bg D w w:=⟨rfl,rfl,rfl,Nat.le_refl _,fun _ _ _=>rfl⟩
theorem Bg.trans(h:Bg D w w')(k:Bg D w' Bj):Bg D w Bj:=
 ⟨k.os.trans h.os,k.tape.trans h.tape,k.output.trans h.output,Nat.le_trans h.size k.size,fun b a c=>(k.block b (Nat.lt_of_lt_of_le a h.size) c).trans (h.block b a c)⟩
theorem Bg.mono(h:Bg D w w')(a:∀k,D k→D' k):Bg D' w w':=⟨h.os,h.tape,h.output,h.size,fun b c d=>h.block b c fun e=>d (a b e)⟩
theorem Iz{r:Option Nat}(g:w.grownBy w' r)(a:∀k,r=some k→D k):Bg D w w':=⟨g.os,g.tape,g.output,g.size,fun b c d=>g.block b c fun e=>d (a b e.symm)⟩
theorem Gf(g:Ext w w'):Bg D w w':=Iz g fun _ e=>by cases e
theorem Bg.gr{r:Option Nat}(g:Bg (fun k=>some k=r) w w'):w.grownBy w' r:=⟨g.os,g.tape,g.output,g.size,fun b a c=>g.block b a c⟩
theorem Bg.ext(g:Bg (FU FN []) w w'):Ext w w':=⟨g.os,g.tape,g.output,g.size,fun b a _=>g.block b a (by rintro(h|h);exact h;cases h)⟩
theorem Bg.fl{M2:List (Option Nat)}(g:Bg (FU (FU F M) M2) w w'):Bg (FU F (M++M2)) w w':=g.mono fun k h=>by
 rcases h with(h|h)|h
 ·exact .inl h
 ·exact .inr (List.mem_append_left _ h)
 ·exact .inr (List.mem_append_right _ h)
theorem Bk.BC{b:Nat}{t:TypeId}{cs:Array Value}(h:Bk w b t cs)(g:Bg D w w')(a:¬D b):Bk w' b t cs:=(g.block b h.lt a).trans h
theorem Bk.gr{b:Nat}{t:TypeId}{cs:Array Value}{r:Option Nat}(h:Bk w b t cs)(g:w.grownBy w' r)(a:some b≠r):Bk w' b t cs:=(g.block b h.lt a).trans h
end
def ZZ (F:Nat→Prop) (B:List (Option Nat)) (Z:Nat→Prop) (n0:Nat) (L:List (Option Nat)):Nat→Prop:=fun b=>(b<n0∧Z b∧¬F b∧some b∉B)∨(n0≤b∧some b∉L)
def ZC (F:Nat→Prop) (M:List (Option Nat)):Nat→Prop:=fun b=>¬F b∧some b∉M
theorem If{F:Nat→Prop}{M:List (Option Nat)}:∀b,ZC F M b→¬F b∧some b∉M:=fun _ h=>h
def F7 (L:List (Option Nat)):List Nat→List (Option Nat)→Prop
 |[],[]=>True
 |j::a,m::M=>L[j]?=some m∧F7 L a M
 |_,_=>False
theorem F7.mem{L:List (Option Nat)}:∀{b:List Nat} {M:List (Option Nat)},F7 L b M→∀x∈M,∃j∈b,L[j]?=some x
 |[],[],_,x,a=>by cases a
 |j::b,m::M,h,x,a=>by
  rcases List.mem_cons.1 a with rfl|a
  ·exact⟨j,List.mem_cons_self ..,h.1⟩
  ·obtain⟨i,hi,he⟩:=F7.mem h.2 x a;exact⟨i,List.mem_cons_of_mem _ hi,he⟩
 |[],_::_,h,_,_=>h.elim
 |_::_,[],h,_,_=>h.elim
theorem F7.get{L:List (Option Nat)}:∀{b:List Nat} {M:List (Option Nat)},F7 L b M→∀(i:Nat) x,M[i]?=some x→∃j,b[i]?=some j∧L[j]?=some x
 |[],[],_,i,x,a=>by simp at a
 |j::b,m::M,h,0,x,a=>by
  obtain rfl:m=x:=by simpa using a
  exact⟨j,rfl,h.1⟩
 |j::b,m::M,h,i+1,x,a=>by
  obtain⟨k,c,he⟩:=F7.get h.2 i x (by simpa using a);exact⟨k,by simpa using c,he⟩
 |[],_::_,h,_,_,_=>h.elim
 |_::_,[],h,_,_,_=>h.elim
theorem F7.sub{L:List (Option Nat)}{a:List Nat}{M:List (Option Nat)}(h:F7 L a M):∀x∈M,x∈L:=fun x b=>by
 obtain⟨j,_,he⟩:=h.mem x b;exact List.mem_of_getElem? he
def Jf:List Nat→Bool
 |[]=>true
 |x::l=>l.all (fun y=> !Nat.beq x y)&&Jf l
theorem Jy:∀{l:List Nat},Jf l=true→∀(i j k:Nat),l[i]?=some k→l[j]?=some k→i=j
 |[],_,i,j,k,hi,_=>by simp at hi
 |x::l,h,i,j,k,hi,a=>by
  simp only[Jf,Bool.and_eq_true,List.all_eq_true] at h;have key:∀(m:Nat),l[m]?=some x→False:=fun m hm=>by
   have:=h.1 x (List.mem_of_getElem? hm);rw[Nat.beq_refl] at this;cases this
  cases i with
  |zero=>
   obtain rfl:x=k:=by simpa using hi
   cases j with
   |zero=>rfl
   |succ j=>exact(key j (by simpa using a)).elim
  |succ i=>
   cases j with
   |zero=>
    obtain rfl:x=k:=by simpa using a
    exact(key i (by simpa using hi)).elim
   |succ j=>rw[Jy h.2 i j k (by simpa using hi) (by simpa using a)]
structure BM (F:Nat→Prop) (B:List (Option Nat)) (w:World):Prop where
 lt:∀k,some k∈B→k<w.heap.size∧¬F k
 ap:∀(i j:Nat) (x:Nat),i≠j→B[i]?=some (some x)→B[j]?≠some (some x)
 ff:∀k,F k→k<w.heap.size
theorem BM.none(w:World):BM FN [] w:=⟨fun _ h=>(by cases h),fun _ _ _ _ h=>by simp at h,fun _ h=>h.elim⟩
theorem BM.grow{F:Nat→Prop}{B:List (Option Nat)}{w w':World}(h:BM F B w)(b:w.heap.size≤w'.heap.size):BM F B w':=
 ⟨fun k a=>⟨Nat.lt_of_lt_of_le (h.lt k a).1 b,(h.lt k a).2⟩,h.ap,fun k a=>Nat.lt_of_lt_of_le (h.ff k a) b⟩
structure Hp (F:Nat→Prop) (B:List (Option Nat)) (w0:World) (L:List (Option Nat)) (w:World):Prop where
 ch:Bg (FU F B) w0 w
 lo:∀k,some k∈L→k<w.heap.size∧¬F k∧(k<w0.heap.size→some k∈B)
 ap:∀(i j:Nat) (x:Nat),i≠j→L[i]?=some (some x)→L[j]?≠some (some x)
 ff:∀k,F k→k<w0.heap.size
theorem Hp.start{F:Nat→Prop}{B:List (Option Nat)}{w:World}(h:BM F B w):Hp F B w B w:=⟨Bg.refl _ _,fun k a=>⟨(h.lt k a).1,(h.lt k a).2,fun _=>a⟩,h.ap,h.ff⟩
section
variable{F F':Nat→Prop}{B:List (Option Nat)}{w0 w w':World}{Z Z':Nat→Prop}{L L' M:List (Option Nat)}
theorem Hp.sz(h:Hp F B w0 L w):w0.heap.size≤w.heap.size:=h.ch.size
theorem Hp.BC(h:Hp F B w0 L w){D:Nat→Prop}(g:Bg D w w')(d:∀k,D k→F k∨some k∈L):Hp F B w0 L w':=by
 refine⟨⟨g.os.trans h.ch.os,g.tape.trans h.ch.tape,g.output.trans h.ch.output,Nat.le_trans h.sz g.size,fun k a b=>?_⟩,fun k a=>⟨Nat.lt_of_lt_of_le (h.lo k a).1 g.size,(h.lo k a).2⟩,h.ap,h.ff⟩;refine(g.block k (Nat.lt_of_lt_of_le a h.sz) fun e=>?_).trans (h.ch.block k a b);rcases d k e with c|c
 ·exact b (.inl c)
 ·exact b (.inr ((h.lo k c).2.2 a))
theorem Hp.ext(h:Hp F B w0 L w)(g:Ext w w'):Hp F B w0 L w':=h.BC (D:=FN) (Gf g) fun _ h=>h.elim
theorem Hp.gr(h:Hp F B w0 L w){r:Option Nat}(g:w.grownBy w' r)(i:Nat)(hi:L[i]?=some r):Hp F B w0 L w':=
 h.BC (D:=fun k=>some k=r) (Iz g fun _ e=>e.symm) fun k e=>.inr (by rw[e];exact List.mem_of_getElem? hi)
theorem Hp.new(h:Hp F B w0 L w)(g:Ext w w'){b:Nat}(q:w.heap.size≤b)(m:b<w'.heap.size):Hp F B w0 (some b::L) w':=by
 have f:=h.ext g;refine⟨f.ch,fun k a=>?_,?_,h.ff⟩
 ·rcases List.mem_cons.1 a with e|a
  ·cases e;exact⟨m,fun n=>absurd (h.ff _ n) (by have:=h.sz;omega),fun o=>absurd o (by have:=h.sz;omega)⟩
  ·exact f.lo k a
 ·have key:∀(j:Nat) (x:Nat),L[j]?=some (some x)→x≠b:=fun j x p e=>by
   have:=(h.lo x (List.mem_of_getElem? p)).1;omega
  intro i j x l hi c;cases i with
  |zero=>
   cases j with
   |zero=>exact l rfl
   |succ j=>
    have d:b=x:=by simpa using hi
    exact key j x (by simpa using c) d.symm
  |succ i=>
   cases j with
   |zero=>
    have d:b=x:=by simpa using c
    exact key i x (by simpa using hi) d.symm
   |succ j=>exact h.ap i j x (by omega) (by simpa using hi) (by simpa using c)
theorem Hp.nil(h:Hp F B w0 L w):Hp F B w0 (none::L) w:=by
 refine⟨h.ch,fun k b=>h.lo k (by simpa using b),?_,h.ff⟩;intro i j x c hi a;cases i with
 |zero=>simp at hi
 |succ i=>
  cases j with
  |zero=>simp at a
  |succ j=>exact h.ap i j x (by omega) (by simpa using hi) (by simpa using a)
theorem Hp.FG (h:Hp F B w0 L w) {D:Nat→Prop} (g:Bg D w w') (u:∀k,D k→F k∨some k∈L) (i:Nat) {x y:Option Nat} (hi:L[i]?=some x) (q:∀k,y=some k→(x=some k∨w.heap.size≤k)∧k<w'.heap.size):Hp F B w0 (L.set i y) w':=by
 have n:=h.BC g u;refine⟨n.ch,fun k o=>?_,?_,h.ff⟩
 ·rcases List.mem_or_eq_of_mem_set o with o|e
  ·exact n.lo k o
  ·obtain⟨c,v⟩:=q k e.symm;rcases c with c|c
   ·exact n.lo k (by rw[←c];exact List.mem_of_getElem? hi)
   ·exact⟨v,fun aA=>absurd (h.ff _ aA) (by have:=h.sz;omega),fun aB=>absurd aB (by have:=h.sz;omega)⟩
 ·have l:i<L.length:=(List.getElem?_eq_some_iff.1 hi).1;have key:∀(j z:Nat),j≠i→L[j]?=some (some z)→y≠some z:=fun j z aC r e=>by
   rcases(q z e).1 with c|c
   ·exact h.ap j i z aC r (by rw[hi,c])
   ·have:=(h.lo z (List.mem_of_getElem? r)).1;omega
  intro a b z s f d
  by_cases m:a=i
  ·subst m;have p:y=some z:=by simpa[List.getElem?_set,l] using f
   rw[List.getElem?_set_ne (by omega)] at d;exact key b z (by omega) d p
  ·rw[List.getElem?_set_ne (by omega)] at f
   by_cases t:b=i
   ·subst t;have p:y=some z:=by simpa[List.getElem?_set,l] using d
    exact key a z m f p
   ·rw[List.getElem?_set_ne (by omega)] at d;exact h.ap a b z s f d
theorem Hp.row(h:Hp F B w0 L w){x:Option Nat}(g:w.grownBy w' x)(i:Nat){y:Option Nat}(hi:L[i]?=some x)(a:∀k,y=some k→(x=some k∨w.heap.size≤k)∧k<w'.heap.size):Hp F B w0 (L.set i y) w':=
 h.FG (D:=fun k=>some k=x) (Iz g fun _ e=>e.symm) (fun k e=>.inr (by rw[e];exact List.mem_of_getElem? hi)) i hi a
theorem Hp.erase(h:Hp F B w0 L w)(i:Nat):Hp F B w0 (L.eraseIdx i) w:=by
 refine⟨h.ch,fun k f=>h.lo k (List.mem_of_mem_eraseIdx f),fun a b x e c d=>?_,h.ff⟩;rw[List.getElem?_eraseIdx] at c d;split at c<;>split at d
 ·exact h.ap a b x e c d
 ·exact h.ap a (b+1) x (by omega) c d
 ·exact h.ap (a+1) b x (by omega) c d
 ·exact h.ap (a+1) (b+1) x (by omega) c d
theorem Hp.ne(h:Hp F B w0 L w)(i j:Nat){x:Option Nat}{b:Nat}(a:(i==j)=false)(hi:L[i]?=some (some b))(c:L[j]?=some x):some b≠x:=fun e=>h.ap i j b (by simpa using a) hi (by rw[c,e])
theorem Hp.BA (h:Hp F B w0 L w) (i:Nat) {b:Nat} (hi:L[i]?=some (some b)) (c:List Nat) (f:(c.all fun j=> !Nat.beq i j)=true) (g:F7 L c M) (l:∀k,F' k→F k):¬FU F' M b:=by
 rintro(a|a)
 ·exact(h.lo b (List.mem_of_getElem? hi)).2.1 (l b a)
 ·obtain⟨j,d,he⟩:=g.mem _ a;have:=List.all_eq_true.1 f j d;refine h.ap i j b (fun e=>?_) hi he;rw[e,Nat.beq_refl] at this;cases this
theorem TP(a:∀x∈M,x∈L)(b:∀k,F' k→F k):∀k,FU F' M k→F k∨some k∈L:=fun k h=>h.imp (b k) (a _)
theorem Hp.DG (h:Hp F B w0 L w) (d n:List Nat) {C:List (Option Nat)} (o:Jf (d++n)=true) (f:F7 L d M) (p:F7 L n C) (q:∀k,F' k→F k∨some k∈C):BM F' M w:=by
 refine⟨fun k g=>⟨(h.lo k (f.sub _ g)).1,fun aE=>?_⟩,fun i j x r hi m=>?_,fun k g=>?_⟩
 ·rcases q k aE with c|c
  ·exact(h.lo k (f.sub _ g)).2.1 c
  ·obtain⟨i,hi⟩:=List.mem_iff_getElem?.1 g;obtain⟨s,t⟩:=List.mem_iff_getElem?.1 c;obtain⟨j,m,he⟩:=f.get i _ hi;obtain⟨u,v,y⟩:=p.get s _ t;have e:j=u:=by
    refine Decidable.byContradiction fun l=>h.ap j u k l he y
   subst e;have z:i<d.length:=(List.getElem?_eq_some_iff.1 m).1;have aH:=Jy o i (d.length+s) j (by rw[List.getElem?_append_left z];exact m) (by rw[List.getElem?_append_right (by omega)];simpa using v);omega
 ·obtain⟨a,aA,aB⟩:=f.get i _ hi;obtain⟨b,aC,aD⟩:=f.get j _ m;have e:a=b:=Decidable.byContradiction fun l=>h.ap a b x l aB aD;subst e;have aF:i<d.length:=(List.getElem?_eq_some_iff.1 aA).1;have aG:j<d.length:=(List.getElem?_eq_some_iff.1 aC).1;exact r (Jy o i j a (by rw[List.getElem?_append_left aF];exact aA) (by rw[List.getElem?_append_left aG];exact aC))
 ·rcases q k g with c|c
  ·exact Nat.lt_of_lt_of_le (h.ff k c) h.sz
  ·exact(h.lo k (p.sub _ c)).1
theorem Hp.P2 (h:Hp F B w0 L w) {D:Nat→Prop} (c:∀k,D k→F k∨some k∈L):∀b,ZZ F B Z w0.heap.size L b→¬D b:=fun b g d=>by
 rcases g with⟨e,f,i,j⟩|⟨e,f⟩
 ·rcases c b d with a|a
  ·exact i a
  ·exact j ((h.lo b a).2.2 e)
 ·rcases c b d with a|a
  ·have:=h.ff b a;omega
  ·exact f a
theorem Hp.zc(h:Hp F B w0 L w)(c:∀x∈M,x∈L)(d:∀k,F' k→F k∨some k∈L):∀b,ZZ F B Z w0.heap.size L b→¬F' b∧some b∉M:=fun b a=>
 ⟨h.P2 (D:=F') d b a,fun hm=>h.P2 (D:=fun k=>some k∈M) (fun k e=>.inr (c _ e)) b a hm⟩
theorem RY(h:∀b,Z b→Z' b):Mv w Z w Z':=F8 fun b a _=>h b a
theorem Hp.C1 (h:Hp F B w0 L w) {D:Nat→Prop} (g:Bg D w w') (c:∀k,D k→F k∨some k∈L):Mv w (ZZ F B Z w0.heap.size L) w' (ZZ F B Z w0.heap.size L):=
 ⟨g.size,fun b a d=>⟨a,g.block b d (h.P2 c b a)⟩⟩
theorem Hp.AS(h:Hp F B w0 L w){r:Option Nat}(g:w.grownBy w' r)(i:Nat)(hi:L[i]?=some r):Mv w (ZZ F B Z w0.heap.size L) w' (ZZ F B Z w0.heap.size L):=
 h.C1 (D:=fun k=>some k=r) (Iz g fun _ e=>e.symm) fun k e=>.inr (by rw[e];exact List.mem_of_getElem? hi)
theorem Hp.Db(h:Hp F B w0 L w){D:Nat→Prop}(g:Bg D w w')(f:∀k,D k→F k∨some k∈L)(i:Nat){x:Option Nat}(hi:L[i]?=some x){y:Option Nat}(j:∀k,y=some k→(x=some k∨w.heap.size≤k)):Mv w (ZZ F B Z w0.heap.size L) w' (ZZ F B Z w0.heap.size (L.set i y)):=
 ⟨g.size,fun b a l=>⟨a.imp id fun⟨m,c⟩=>⟨m,fun hm=>by
  rcases List.mem_or_eq_of_mem_set hm with hm|e
  ·exact c hm
  ·rcases j b e.symm with d|d
   ·exact c (by rw[←d];exact List.mem_of_getElem? hi)
   ·omega⟩,g.block b l (h.P2 f b a)⟩⟩
theorem Hp.Cy(h:Hp F B w0 L w){r:Option Nat}(g:w.grownBy w' r)(i:Nat)(hi:L[i]?=some r){y:Option Nat}(a:∀k,y=some k→(r=some k∨w.heap.size≤k)):Mv w (ZZ F B Z w0.heap.size L) w' (ZZ F B Z w0.heap.size (L.set i y)):=
 h.Db (D:=fun k=>some k=r) (Iz g fun _ e=>e.symm) (fun k e=>.inr (by rw[e];exact List.mem_of_getElem? hi)) i hi a
theorem D2{n0:Nat}(g:Ext w w'){b:Nat}(h:w.heap.size≤b):Mv w (ZZ F B Z n0 L) w' (ZZ F B Z n0 (some b::L)):=
 ⟨g.size,fun k a c=>⟨a.imp id fun⟨d,f⟩=>⟨d,fun hm=>by
  rcases List.mem_cons.1 hm with e|hm
  ·cases e;omega
  ·exact f hm⟩,g.block k c (by simp)⟩⟩
theorem BV{n0:Nat}:Mv w (ZZ F B Z n0 L) w (ZZ F B Z n0 (none::L)):=F8 fun b a _=>a.imp id fun⟨c,d⟩=>⟨c,by simpa using d⟩
theorem TQ{n0:Nat}(h:∀x∈L',x∈L):Mv w (ZZ F B Z n0 L) w (ZZ F B Z n0 L'):=F8 fun b a _=>a.imp id fun⟨c,d⟩=>⟨c,fun hm=>d (h _ hm)⟩
theorem AN{n0:Nat}(i:Nat):Mv w (ZZ F B Z n0 L) w (ZZ F B Z n0 (L.eraseIdx i)):=TQ fun _ h=>List.mem_of_mem_eraseIdx h
theorem Bd(c:∀b,Z b→¬F b∧some b∉B)(w:World):Mv w Z w (ZZ F B Z w.heap.size L):=F8 fun b a d=>.inl ⟨d,a,c b a⟩
theorem Bl {n0:Nat} (d:∀x∈M,x∈L):Mv w (ZZ F B Z n0 L) w (ZZ FN [] Z n0 M):=F8 fun b e _=>by
 rcases e with⟨a,c,_⟩|⟨a,c⟩
 ·exact .inl ⟨a,c,id,by simp⟩
 ·exact .inr ⟨a,fun hm=>c (d _ hm)⟩
theorem Gg{n0:Nat}(a:∀b,Z b→Z' b):Mv w (ZZ F B Z n0 L) w (ZZ F B Z' n0 L):=F8 fun b c _=>c.imp (fun⟨d,e,f⟩=>⟨d,a b e,f⟩) id
theorem Hp.call (h:Hp F B w0 L w) {c:Nat} (n:w.heap.size≤c) (j:∀k,some k∈M→some k∈L∨c≤k) (f:∀x∈L',x∈L∨x∈M):Mv w' (ZZ FN [] (ZZ F B Z w0.heap.size L) c M) w' (ZZ F B Z w0.heap.size L'):=
 F8 fun b l _=>by
  have h0:=h.sz;rcases l with⟨m,d,_⟩|⟨m,d⟩
  ·rcases d with e|⟨e,g⟩
   ·exact .inl e
   ·refine .inr ⟨e,fun hm=>?_⟩;rcases f _ hm with a|a
    ·exact g a
    ·rcases j b a with i|i
     ·exact g i
     ·omega
  ·refine .inr ⟨by omega,fun hm=>?_⟩;rcases f _ hm with a|a
   ·have:=(h.lo b a).1;omega
   ·exact d a
theorem Hp.CT(h:Hp F B w0 L w){a:Nat}(b:w.heap.size≤a):Mv w' (ZZ FN [] (ZZ F B Z w0.heap.size L) a []) w' (ZZ F B Z w0.heap.size L):=h.call b (fun _ h=>by cases h) (fun _ h=>.inl h)
theorem Hp.fin(h:Hp F B w0 L w):Bg (FU F B) w0 w:=h.ch
theorem Hp.Bt(h:Hp FN [] w0 L w):Ext w0 w:=h.ch.ext
theorem Hp.lit{b:Nat}(h:Hp F B w0 L w)(i:Nat)(hi:L[i]?=some (some b))(c:w0.heap.size≤b):ZZ F B Z w0.heap.size (L.eraseIdx i) b:=
 .inr ⟨c,fun hm=>by
  obtain⟨j,a⟩:=List.mem_iff_getElem?.1 hm;rw[List.getElem?_eraseIdx] at a;split at a
  ·exact h.ap i j b (by omega) hi a
  ·exact h.ap i (j+1) b (by omega) hi a⟩
theorem Hp.own {b:Nat} (h:Hp F B w0 L w) (i:Nat) (hi:L[i]?=some (some b)) (c:some b∉B):w0.heap.size≤b:=by
 rcases Nat.lt_or_ge b w0.heap.size with a|a
 ·exact absurd ((h.lo b (List.mem_of_getElem? hi)).2.2 a) c
 ·exact a
end
def AA {α:Type} (e:DA α) (t:TypeId) (n0:Nat) (w:World) (Z:Nat→Prop) (A:Option Addr) (c:Nat) (xs:List α):Prop:=
 ∃A5,R2 e w Z A5 xs∧Df w n0 t e.sz A xs.length c A5.flatten
section
variable{α:Type}{e:DA α}{t:TypeId}{n0:Nat}{w w':World}{Z Z':Nat→Prop}{A:Option Addr}{c:Nat}{xs:List α}
theorem AA.nil(e:DA α)(t:TypeId)(n0:Nat)(w:World)(Z:Nat→Prop):AA e t n0 w Z none 0 []:=⟨[],trivial,Df.nil _ _ _ _⟩
theorem AA.gr(h:AA e t n0 w Z A c xs){r:Option Nat}(g:w.grownBy w' r)(a:∀k,ob A=some k→some k≠r)(hm:Mv w Z w' Z'):AA e t n0 w' Z' A c xs:=by
 obtain⟨A5,b,d⟩:=h;exact⟨A5,b.mv hm,d.kept g fun k f o i=>a k (by rw[i];rfl) f.symm⟩
theorem AA.ext(h:AA e t n0 w Z A c xs)(g:Ext w w')(hm:Mv w Z w' Z'):AA e t n0 w' Z' A c xs:=h.gr g (fun _ _ e=>by cases e) hm
theorem AA.up(h:AA e t n0 w Z A c xs)(hm:Mv w Z w Z'):AA e t n0 w Z' A c xs:=by
 obtain⟨A5,a,b⟩:=h;exact⟨A5,a.mv hm,b⟩
theorem AA.sl(h:AA e t n0 w Z A c xs)(m:∀k,ob A=some k→n0≤k→Z k):Sl e w Z A c xs:=by
 obtain⟨A5,f,a⟩:=h;have n:=a;rcases a.2 with⟨d,h0⟩|⟨g,cap,cur,d,i,o,l,_,_,_⟩
 ·have:xs=[]:=List.eq_nil_of_length_eq_zero h0;subst this;cases d;exact Sl.nil _ _ _
 ·cases d;refine⟨l,(fun e=>by cases e),A5,f,?_⟩;refine Np (hi:=g+1) (lo:=g) ?_ (fun b f a=>by
   obtain rfl:b=g:=by omega
   exact m b rfl i)
  refine⟨lt_of_block o,.inr ⟨g,0,rfl,Nat.le_refl _,Nat.lt_succ_self _,fun j u hu=>?_⟩⟩;have:=World.ownsRow.cells n (g:=g) rfl j u hu;rw[E5] at this;exact this
theorem AA.all(h:AA e t n0 w Z A c xs):Sl e w ZA A c xs:=(h.up Ke).sl fun _ _ _=>trivial
theorem AA.HE(h:AA e t n0 w Z A c xs):∀k,ob A=some k→k<w.heap.size:=by
 obtain⟨A5,j,d⟩:=h;intro k b;rcases d.2 with⟨a,h0⟩|⟨g,cap,cur,a,i,f,_⟩
 ·obtain⟨rfl,-,-⟩:=Value.slice.inj a;cases b
 ·cases a;cases b;exact lt_of_block f
end
section
variable{α:Type}{e:DA α}{t:TypeId}{F F':Nat→Prop}{B L M:List (Option Nat)}{n0 n1:Nat}{w0 w w':World}{Z Z':Nat→Prop}{A:Option Addr}{c:Nat}{xs:List α}
theorem AA.BC(h:AA e t n0 w Z A c xs){D:Nat→Prop}(g:Bg D w w')(i:∀k,ob A=some k→¬D k)(hm:Mv w Z w' Z'):AA e t n0 w' Z' A c xs:=by
 obtain⟨A5,j,a⟩:=h;refine⟨A5,j.mv hm,a.1,a.2.imp id ?_⟩;rintro⟨b,cap,cur,d,l,f,m⟩;refine⟨b,cap,cur,d,l,?_,m⟩;cases d;exact(g.block b (lt_of_block f) (i b rfl)).trans f
theorem AA.base(h:AA e t n0 w Z A c xs)(d:∀k,ob A=some k→n1≤k):AA e t n1 w Z A c xs:=by
 obtain⟨A5,f,a⟩:=h;refine⟨A5,f,a.1,a.2.imp id ?_⟩;rintro⟨b,cap,cur,g,_,i⟩;cases g;exact⟨b,_,cur,rfl,d b rfl,i⟩
theorem AA.ge(h:AA e t n0 w Z A c xs):∀k,ob A=some k→n0≤k:=by
 obtain⟨A5,i,f⟩:=h;intro k d;rcases f.2 with⟨a,_⟩|⟨b,cap,cur,a,g,_⟩
 ·obtain⟨rfl,-,-⟩:=Value.slice.inj a;cases d
 ·cases a;cases d;exact g
theorem Hp.Nq (h:Hp F B w0 L w) (i:Nat) (hi:L[i]?=some (ob A)) (d:AA e t w0.heap.size w (ZZ F B Z w0.heap.size L) A c xs):Sl e w (ZZ F B Z w0.heap.size (L.eraseIdx i)) A c xs:=
 (d.up (AN i)).sl fun k b h0=>.inr ⟨h0,fun hm=>by
  obtain⟨j,a⟩:=List.mem_iff_getElem?.1 hm;rw[List.getElem?_eraseIdx] at a;split at a
  ·exact h.ap i j k (by omega) (by rw[hi,b]) a
  ·exact h.ap i (j+1) k (by omega) (by rw[hi,b]) a⟩
theorem Hp.Ld (h:Hp F B w0 L w) (i:Nat) (hi:L[i]?=some (ob A)) (a:List Nat) (d:(a.all fun j=> !Nat.beq i j)=true) (b:F7 L a M) (f:AA e t w0.heap.size w (ZZ F B Z w0.heap.size L) A c xs):Sl e w (ZZ FN [] Z w0.heap.size M) A c xs:=
 (f.up (Bl b.sub)).sl fun k g h0=>.inr ⟨h0,fun hm=>h.BA (F':=FN) i (by rw[hi,g]) a d b (fun _ h=>h.elim) (.inr hm)⟩
theorem Hp.kn{b:Nat}(h:Hp F B w0 L w)(a:w.heap.size≤b):ZZ F B Z w0.heap.size L b:=
 .inr ⟨Nat.le_trans h.sz a,fun hm=>absurd (h.lo b hm).1 (Nat.not_lt.2 a)⟩
theorem FW {b:Nat} {cs:Array Value} {A5:List (List Value)} (g:Bk w b t cs) (c:n0≤b) (h:R2 e w Z A5 xs) (d:A5.flatten=cs.toList) (hm:xs.length≤maxLen):AA e t n0 w Z (some ⟨b,0,none⟩) xs.length xs:=by
 have f:=h.Iy;have a:cs.size=xs.length*e.sz:=by rw[←f,d];simp
 refine⟨A5,h,f,.inr ⟨b,xs.length,cs,rfl,c,g,Nat.le_refl _,hm,a,?_⟩⟩;rw[d,List.take_of_length_le (by simp[a])]
theorem Hp.hand (h:Hp F B w0 L w) {D:Nat→Prop} (g:Bg D w w') (p:∀k,D k→F k∨some k∈L) (l:AA e t w.heap.size w' Z' A c xs):Hp F B w0 (ob A::L) w':=by
 have b:=h.BC g p;cases m:ob A with
 |none=>exact b.nil
 |some k=>
  have s:=l.ge k m;have n:=l.HE k m;refine⟨b.ch,fun x a=>?_,?_,h.ff⟩
  ·rcases List.mem_cons.1 a with e|a
   ·cases e;have u:=h.sz;exact⟨n,fun q=>absurd (h.ff _ q) (by omega),fun r=>absurd r (by omega)⟩
   ·exact b.lo x a
  ·have key:∀(j:Nat) (x:Nat),L[j]?=some (some x)→x≠k:=fun j x a e=>by
    have:=(h.lo x (List.mem_of_getElem? a)).1;omega
   intro i j x o hi d;cases i with
   |zero=>
    cases j with
    |zero=>exact o rfl
    |succ j=>
     have f:k=x:=by simpa using hi
     exact key j x (by simpa using d) f.symm
   |succ i=>
    cases j with
    |zero=>
     have f:k=x:=by simpa using d
     exact key i x (by simpa using hi) f.symm
    |succ j=>exact h.ap i j x (by omega) (by simpa using hi) (by simpa using d)
theorem Hp.TR(h:Hp F B w0 L w){D:Nat→Prop}(g:Bg D w w')(f:∀k,D k→F k∨some k∈L)(i:AA e t w.heap.size w' Z' A c xs){a:Nat→Prop}:Mv w (ZZ F B a w0.heap.size L) w' (ZZ F B a w0.heap.size (ob A::L)):=by
 refine⟨g.size,fun b d j=>⟨d.imp id fun⟨l,m⟩=>⟨l,fun hm=>?_⟩,g.block b j (h.P2 f b d)⟩⟩;rcases List.mem_cons.1 hm with e|hm
 ·have:=i.ge b e.symm;omega
 ·exact m hm
theorem Hp.U2(h:Hp F B w0 L w){b:Nat}(g:w.heap.size≤b)(d:AA e t b w' (ZZ FN [] (ZZ F B Z w0.heap.size L) b [ob A]) A c xs):AA e t w0.heap.size w' (ZZ F B Z w0.heap.size (ob A::L)) A c xs:=
 (d.base (n1:=w0.heap.size) fun k a=>Nat.le_trans h.sz (Nat.le_trans g (d.ge k a))).up (h.call g (fun k a=>by
  rw[List.mem_singleton] at a;exact .inr (d.ge k a.symm)) fun x f=>by
  rcases List.mem_cons.1 f with e|f
  ·exact .inr (by rw[e];exact List.mem_singleton_self _)
  ·exact .inl f)
end
def i64(x:Int):Option Int:=if-9223372036854775808≤x∧x≤9223372036854775807 then some x else none
theorem Q8{x y:Int}(h:i64 x=some y):y=x∧fits x:=by
 unfold i64 at h;split at h
 ·exact⟨(Option.some.inj h).symm,by assumption⟩
 ·cases h
theorem TS{x:Int}(h0:-9223372036854775808≤x)(a:x≤9223372036854775807):i64 x=some x:=if_pos ⟨h0,a⟩
def idx{α:Type}(xs:List α)(i:Int):Option α:=if 0≤i then xs[i.toNat]? else none
theorem Q9{α:Type}{xs:List α}{i:Int}{x:α}(h:idx xs i=some x):∃k:Nat,i=k∧xs[k]?=some x∧k<xs.length:=by
 unfold idx at h;split at h
 ·exact⟨i.toNat,by omega,h,(List.getElem?_eq_some_iff.1 h).1⟩
 ·cases h
theorem idx_eq{α:Type}{xs:List α}{k:Nat}(h:k<xs.length):idx xs (k:Int)=some xs[k]:=by
 unfold idx;rw[if_pos (by omega)];simp[h]
def quo(a b:Int):Option Int:=if 0≤a∧1≤b then some (a/b) else none
theorem Ra{a b y:Int}(h:quo a b=some y):y=a/b∧0≤a∧1≤b:=by
 unfold quo at h;split at h
 ·exact⟨(Option.some.inj h).symm,by assumption⟩
 ·cases h
def rem(a b:Int):Option Int:=if 0≤a∧1≤b then some (a%b) else none
theorem Rb{a b y:Int}(h:rem a b=some y):y=a%b∧0≤a∧1≤b:=by
 unfold rem at h;split at h
 ·exact⟨(Option.some.inj h).symm,by assumption⟩
 ·cases h
theorem AU{α:Type}{x:Int}{f:Int→Option α}{r:α}(h:(i64 x).bind f=some r):fits x∧f x=some r:=by
 obtain⟨y,a,b⟩:=Option.bind_eq_some_iff.1 h;obtain⟨rfl,c⟩:=Q8 a;exact⟨c,b⟩
theorem Bf{α β:Type}{xs:List α}{i:Int}{f:α→Option β}{r:β}(h:(idx xs i).bind f=some r):∃(k:Nat) (x:α),i=k∧xs[k]?=some x∧k<xs.length∧f x=some r:=by
 obtain⟨x,a,b⟩:=Option.bind_eq_some_iff.1 h;obtain⟨k,c,d,e⟩:=Q9 a;exact⟨k,x,c,d,e,b⟩
theorem Rc{α:Type}{a b:Int}{f:Int→Option α}{r:α}(h:(quo a b).bind f=some r):(0≤a∧1≤b)∧f (a/b)=some r:=by
 obtain⟨y,c,d⟩:=Option.bind_eq_some_iff.1 h;obtain⟨rfl,e⟩:=Ra c;exact⟨e,d⟩
theorem HI{α:Type}{a b:Int}{f:Int→Option α}{r:α}(h:(rem a b).bind f=some r):(0≤a∧1≤b)∧f (a%b)=some r:=by
 obtain⟨y,c,d⟩:=Option.bind_eq_some_iff.1 h;obtain⟨rfl,e⟩:=Rb c;exact⟨e,d⟩
def Ff (p:Prop) [Decidable p]:Option Unit:=if p then some () else none
theorem Cx{α:Type}{p:Prop}[Decidable p]{f:Unit→Option α}{r:α}(h:(Ff p).bind f=some r):p∧f ()=some r:=by
 unfold Ff at h;split at h
 ·exact⟨by assumption,h⟩
 ·cases h
theorem AD{α:Type}{b:Bool}{x y:Option α}{r:α}(h:cond b x y=some r)(a:b=true):x=some r:=by subst a;exact h
theorem AE{α:Type}{b:Bool}{x y:Option α}{r:α}(h:cond b x y=some r)(a:b=false):y=some r:=by subst a;exact h
theorem bind_some{α β:Type}{x:Option α}{f:α→Option β}{r:β}(h:x.bind f=some r):∃a,x=some a∧f a=some r:=Option.bind_eq_some_iff.1 h
theorem E7{α β a:Type}{x:α}{f:α→Option a}{g:β→Option a}{r:a}(h:Sum.elim f g (.inl x)=some r):f x=some r:=h
theorem E8{α β a:Type}{x:β}{f:α→Option a}{g:β→Option a}{r:a}(h:Sum.elim f g (.inr x)=some r):g x=some r:=h
theorem Sq{P:Program}{ro:Option Nat}{c:Code}{Q d:Exit→Act→World→Prop}{a:Act}{w:World}(h:CW P ro c Q a w)(i:∀e a w,Q e a w→d e a w):CW P ro c d a w:=by
 intro b k cs f j g;obtain⟨e,l,m,n,o⟩:=h b k cs f j g;exact⟨e,l,m,i _ _ _ n,o⟩
theorem Ce {P:Program} {X:Ctx} {N:Nat} {c:Code} {Q:Exit→Act→World→Prop} {a:Act} {l:Env} {w:World} (d:Exit→Act→World→Prop) (h:CC P X N c d a l w) (b:∀e a w,d e a w→Q e a w):CC P X N c Q a l w:=
 fun s=>Sq (h s) b
theorem Cm{X:Ctx}{N:Nat}{Q:Exit→Act→World→Prop}{e:Exit}{a:Act}{w:World}(b:a.tmps.size=N)(c:a.defers=X.ds)(h:LV X N Q e a [] w):Q e a w:=h ⟨b,c,fun _ d=>by cases d⟩
theorem B0{X:Ctx}{N:Nat}{Q:Exit→Act→World→Prop}{e:Exit}{a:Act}{l:Env}{w:World}(h:St X N a l→Q e (BQ a l) w):LV X N Q e a l w:=h
section
variable{P:Program}{a:Act}{w:World}{dst:Option Tmp}{ty:TypeId}{pos:String}{BX:Array Edge}{g:Option (Nat×Bool)}
theorem HJ {t:TypeId} {x:Operand} {Z:Nat→Prop} {b o k:Nat} {cs:List Value} {v:Value} (h:One P t) (c:a.eval x=.pointer (some ⟨b,o+k,none⟩)) (d:Rz w Z (some ⟨b,o,none⟩) cs) (e:cs[k]?=some v):
  BT P ⟨dst,.load t x,ty,pos,BX,g⟩ a w (fun u w'=>u=v∧w'=w):=MC h c d.cells e
theorem Bz{t:TypeId}{x:Operand}{Z:Nat→Prop}{b o:Nat}{cs:List Value}{v:Value}(h:One P t)(c:a.eval x=.pointer (some ⟨b,o,none⟩))(d:Rz w Z (some ⟨b,o,none⟩) cs)(e:cs[0]?=some v):
  BT P ⟨dst,.load t x,ty,pos,BX,g⟩ a w (fun u w'=>u=v∧w'=w):=MC (k:=0) h c d.cells e
theorem DO{t:TypeId}{x:Operand}{Z:Nat→Prop}{n b o:Nat}{cs l:List Value}(h:E0 P t n)(c:a.eval x=.pointer (some ⟨b,o,none⟩))(d:Rz w Z (some ⟨b,o,none⟩) cs)
  (e:cs.take n=l)(f:l.length=n):BT P ⟨dst,.load t x,ty,pos,BX,g⟩ a w (fun u w'=>u=.agg l.toArray∧w'=w):=Pn (k:=0) h c d.cells (by simpa using e) f
theorem Jg {α:Type} {e:DA α} {s x:Operand} {t q:TypeId} {z:Value} {sz bytes:Nat} (aN:P.underlying t=some (.slice q)) (hi:(P.info? q).map (fun i=>(i.zero,i.size,i.bytes))=some (some z,sz,bytes)) (aC:z.cells.size=sz) (aD:e.sz=sz) (h0:0<sz)
  {n0:Nat} {Z:Nat→Prop} {A B:Option Addr} {c d n:Nat} {xs ys:List α} (aO:a.eval s=.slice A n c) (aP:xs.length=n) (aQ:a.eval x=.slice B ys.length d) (aA:AA e q n0 w Z A c xs) (aE:∃A5,R2 e w Z A5 ys∧Rz w ZA B A5.flatten)
  (aF:xs.length+ys.length≤maxLen) (l:(xs.length+ys.length)*bytes≤140737488355328) (r:n0≤w.heap.size) (aG:ys≠[]):
  BT P ⟨dst,.call {callee:=.builtin .append,args:= #[s,x],argTypes:= #[t,t]},ty,pos,BX,g⟩ a w (fun v w'=>∃A' c',v=.slice A' (xs++ys).length c'∧w.grownBy w' (ob A)∧(∀k,ob A'=some k→(ob A=some k∨w.heap.size≤k)∧k<w'.heap.size)∧
   ∃A5 f,R2 e w Z A5 xs∧R2 e w Z f ys∧Df w' n0 q e.sz A' (xs++ys).length c' (A5++f).flatten):=by
 obtain⟨A5,aR,aS⟩:=aA;obtain⟨f,y,aT⟩:=aE;subst aD;subst aP;have aH:f.flatten≠[]:=fun aU=>by
  have:=y.Iy;rw[aU] at this;have aV:0<ys.length:=List.length_pos_iff.2 aG;have:=Nat.mul_pos aV h0;simp at*;omega
 obtain⟨b,o,rfl,-,-,aW⟩:=aT.resolve_left aH;refine(P0 (ad:=⟨b,o,none⟩) (news:=f.flatten) (m:=ys.length) aN hi aC h0 aO aQ aS (fun j u hu=>by rw[E5];exact aW j u hu) y.Iy y.one aF l r).mono ?_;rintro v w' ⟨A',c',rfl,p,aI,-,aX⟩;rw[TO] at aI;refine⟨A',c',by rw[List.length_append],aI,fun k aJ=>?_,A5,f,aR,y,by rw[List.length_append,List.flatten_append];exact p⟩;have a2:=p.HE (k:=k) (o:=0);rcases p.2 with⟨aB,_⟩|⟨aK,aY,aZ,aB,_,aL,_⟩
 ·obtain⟨rfl,-,-⟩:=Value.slice.inj aB;cases aJ
 ·cases aB;have aM:aK=k:=by simpa[ob] using aJ
  subst aM;refine⟨?_,lt_of_block aL⟩;rcases aX aK 0 rfl with⟨o',a0⟩|h
  ·left;rw[a0];rfl
  ·exact .inr h
theorem Ec{α:Type}{e:DA α}{t:TypeId}{n0:Nat}{w w':World}{Z Z':Nat→Prop}{A:Option Addr}{c:Nat}{xs ys:List α}
  (h:∃A5 a,R2 e w Z A5 xs∧R2 e w Z a ys∧Df w' n0 t e.sz A (xs++ys).length c (A5++a).flatten)(hm:Mv w Z w' Z'):AA e t n0 w' Z' A c (xs++ys):=by
 obtain⟨A5,a,b,d,f⟩:=h;exact⟨A5++a,(b.mv hm).append (d.mv hm),f⟩
theorem Sl.news{α:Type}{e:DA α}{Z:Nat→Prop}{A:Option Addr}{c:Nat}{xs:List α}(h:Sl e w Z A c xs):∃A5,R2 e w Z A5 xs∧Rz w ZA A A5.flatten:=by
 obtain⟨_,_,A5,a,b⟩:=h;exact⟨A5,a,b.mv Ke⟩
theorem KH {α:Type} {e:DA α} {Z:Nat→Prop} {b:Nat} {t:TypeId} {cs:Array Value} {A5:List (List Value)} {xs:List α} (a:Bk w b t cs) (h:R2 e w Z A5 xs) (c:A5.flatten=cs.toList):∃A5,R2 e w Z A5 xs∧Rz w ZA (some ⟨b,0,none⟩) A5.flatten:=
 ⟨A5,h,.inr ⟨b,0,rfl,trivial,a.lt,fun j u hu=>by rw[Nat.zero_add,a.cell];rw[c] at hu;simpa using hu⟩⟩
theorem Gw{α:Type}{e:DA α}{Z:Nat→Prop}{b:Nat}{t:TypeId}{cs:Array Value}{A5:List (List Value)}{xs:List α}(a:Bk w b t cs)(d:Z b)(h:R2 e w Z A5 xs)(f:A5.flatten=cs.toList){c:Nat}(g:xs.length≤c):Sl e w Z (some ⟨b,0,none⟩) c xs:=
 ⟨g,(fun e=>by cases e),A5,h,.inr ⟨b,0,rfl,d,a.lt,fun j u hu=>by rw[Nat.zero_add,a.cell];rw[f] at hu;simpa using hu⟩⟩
end
def Jz(D:Nat→Bool)(i:Nat):Nat→Bool:=fun j=>cond (Nat.beq j i) true (D j)
def JA(V:Nat→Value)(i:Nat)(v:Value):Nat→Value:=fun j=>cond (Nat.beq j i) v (V j)
theorem P3(D:Nat→Bool)(i:Nat):Jz D i i=true:=by unfold Jz;rw[Nat.beq_refl];rfl
theorem Sr(D:Nat→Bool){i j:Nat}(h:j≠i):Jz D i j=D j:=by
 have:Nat.beq j i=false:=by
  cases a:Nat.beq j i with
  |false=>rfl
  |true=>exact absurd (Nat.eq_of_beq_eq_true a) h
 unfold Jz;rw[this];rfl
theorem P4(V:Nat→Value)(i:Nat)(v:Value):JA V i v i=v:=by unfold JA;rw[Nat.beq_refl];rfl
theorem Ss(V:Nat→Value){i j:Nat}(v:Value)(h:j≠i):JA V i v j=V j:=by
 have:Nat.beq j i=false:=by
  cases a:Nat.beq j i with
  |false=>rfl
  |true=>exact absurd (Nat.eq_of_beq_eq_true a) h
 unfold JA;rw[this];rfl
structure KI (L:List Oper) (a:Act) (l:Env) (D:Nat→Bool) (V:Nat→Value) (k:Nat) (o:Oper) (a':Act):Prop where
 out:∀s,isDst L s=false→sl a' s=lk (sl a s) l s
 AB:∀j d,E6 o j=true→B4 L j=some d→sl a' d=V j
 dn:∀j,E6 o j=true→D j=true
 me:D k=false
 down:∀j o',L[j]?=some o'→D j=true→∀k',E6 o' k'=true→D k'=true
theorem KI.no{L:List Oper}{a:Act}{l:Env}{D:Nat→Bool}{V:Nat→Value}{k:Nat}{o:Oper}{a':Act}(K:KI L a l D V k o a')(j:Nat)(o':Oper)(b:L[j]?=some o')(h:E6 o' k=true):D j=false:=by
 cases c:D j with
 |false=>rfl
 |true=>have:=K.down j o' b c k h;rw[K.me] at this;cases this
theorem KI.later {N:Nat} {L:List Oper} {a:Act} {l:Env} {D:Nat→Bool} {V:Nat→Value} {k:Nat} {o:Oper} {a':Act} (K:KI L a l D V k o a') (g:J5 N L=true) (e:∀s,(∀j,B4 L j=some s→D j=false)→sl a' s=lk (sl a s) l s)
  (j d:Nat) (o':Oper) (f:L[j]?=some o') (b:o'.dst=some d) (c:E6 o' k=true):sl a' d=lk (sl a d) l d:=e d fun i hi=>by
 have h:B4 L j=some d:=by simp[B4,f,b]
 obtain rfl:=(HQ g j i d h).2 hi;exact K.no j o' f c
section
variable(P:Program)(L:List Oper)(a:Act)(l:Env)(I:(Nat→Bool)→(Nat→Value)→World→Prop)
structure Pt (D:Nat→Bool) (V:Nat→Value) (k:Nat) (o:Oper) (a':Act):Prop extends KI L a l D V k o a' where
 later:∀(j d:Nat) (o':Oper),L[j]?=some o'→o'.dst=some d→E6 o' k=true→sl a' d=lk (sl a d) l d
def Pu(k:Nat)(o:Oper):Prop:=∀D V a' w',Pt L a l D V k o a'→I D V w'→
 (Region.wanted o (yielded L.toArray a'.tmps)=true∧BT P o a' w' (fun v Bj=>I (Jz D k) (JA V k v) Bj))∨
 (Region.wanted o (yielded L.toArray a'.tmps)=false∧I (Jz D k) (JA V k undef) w')
def Nr:Nat→Nat→List Oper→Prop
 |0,_,_=>True
 |_+1,_,[]=>True
 |m+1,k,o::R=>Pu P L a l I k o∧Nr m (k+1) R
def Ns:Nat→Nat→List Oper→(Nat→Value)→Env→Env
 |0,_,_,_,l=>l
 |_+1,_,[],_,l=>l
 |m+1,k,o::R,V,l=>match o.dst with
  |some d=>Ns m (k+1) R V ((d,V k)::l)
  |none=>Ns m (k+1) R V l
end
section
variable{P:Program}{X:Ctx}{N:Nat}{L:List Oper}{Q:Exit→Act→World→Prop}{a:Act}{l:Env}{w:World}{I:(Nat→Bool)→(Nat→Value)→World→Prop}{k:Nat}{o:Oper}
theorem sj(b:o.guard=none)(h:∀D V a' w',Pt L a l D V k o a'→I D V w'→BT P o a' w' (fun v Bj=>I (Jz D k) (JA V k v) Bj)):Pu P L a l I k o:=
 fun D V a' w' K c=>.inl ⟨by unfold Region.wanted;rw[b],h D V a' w' K c⟩
theorem LC:∀{m:Nat} {R:List Oper} {k:Nat},Nr P L a l I m k R→∀(i:Nat) (o:Oper),i<m→R[i]?=some o→Pu P L a l I (k+i) o
 |0,_,_,_,i,o,hi,_=>absurd hi (by omega)
 |_+1,[],_,_,i,o,_,b=>by simp at b
 |m+1,o'::R,k,h,i,o,hi,b=>by
  cases i with
  |zero=>
   obtain rfl:o'=o:=by simpa using b
   exact h.1
  |succ i=>
   have:=LC h.2 i o (by omega) (by simpa using b);rw[Nat.add_assoc,Nat.add_comm 1 i] at this;exact this
theorem Nt{V:Nat→Value}{G:Env→Prop}{w':World}:∀(m:Nat) (R:List Oper) (k:Nat) (b:Env),G (Ns m k R V b)→Jr X N a (fun k v _=>v=V k) (fun _ _=>True) G w' m k R b
 |0,_,_,_,h=>fun _=>h
 |_+1,[],_,_,h=>fun _=>h
 |m+1,o::R,k,b,h=>by
  simp only[Jr];simp only[Ns] at h;cases c:o.dst with
  |none=>rw[c] at h;exact Nt m R (k+1) b h
  |some d=>rw[c] at h;rintro v rfl;exact Nt m R (k+1) _ h
theorem Jh{id:Nat}(m:Nat)(I:(Nat→Bool)→(Nat→Value)→World→Prop)(hm:P.follows .mixedOrders=true)(aW:KE N L []=true)(a9:(Nat.ble m L.length&&Iu L m)=true)(h0:I (fun _=>false) (fun _=>undef) w.drew)
  (b1:Nr P L a l I m 0 L)(bH:∀D V w',(∀j,Nat.blt j m=true→D j=true)→I D V w'→WL P X N L.toArray Q (L.drop m) a (Ns m 0 L V l) w'):CC P X N (.region id L.toArray true) Q a l w:=fun st=>
 wpIn_region_any hm (by
  have aQ:=aW;simp only[KE,Bool.and_eq_true] at aQ;obtain⟨⟨aR,bA⟩,_⟩:=aQ;rw[Bool.and_eq_true] at a9;obtain⟨bI,bB⟩:=a9;have bJ:m≤L.length:=Nat.le_of_ble_eq_true bI;have aG:=HQ bA;have fin:∀(fuel:Nat) (listed:Array Bool) (a':Act) (w':World) (D:Nat→Bool) (V:Nat→Value),listed.toList.count false≤fuel→listed.size=L.length→a'.tmps.size=N→a'.defers=X.ds→
    (∀s,(∀j,B4 L j=some s→listed.getD j false=false)→sl a' s=lk (sl a s) l s)→(∀j d,listed.getD j false=true→B4 L j=some d→sl a' d=V j)→(∀j,j<L.length→D j=listed.getD j false)→
    I D V w'→(∀j,m≤j→listed.getD j false=false)→(∀j,j<m→listed.getD j false=true)→wpAnyIn (Wd X.ro) 0 P .any L.toArray Q fuel listed a' w':=by
   intro fuel listed a' w' D V aX z aA aE r q aB aV c aN;have bK:wpListIn (Wd X.ro) 0 P L.toArray Q (L.drop m) a' w':=by
    refine KF (K:=wpListIn (Wd X.ro) 0 P L.toArray Q (L.drop m) a' w') (X:=X) (N:=N) (Φ:=fun k v _=>v=V k) (fun _ _=>True) (fun bL=>WL P X N L.toArray Q (L.drop m) a bL w') w' a' trivial aA aE (fun bL bM b2 e=>by rw[e];exact b2 bM) m L 0 l st bJ (fun i d hi=>(aG i i d hi).1) (fun i j d hi b=>(aG i j d hi).2 b)
     (Nt m L 0 l (bH D V w' (fun j b=>by
      have aK:j<m:=by simpa[Nat.blt_eq] using b
      rw[aB j (by omega)];exact aN j aK) aV)) (fun i d aY aO=>?_) (fun s t=>?_)
    ·rw[Nat.zero_add];exact q i d (aN i aY) aO
    ·refine r s fun j b=>?_;rcases Nat.lt_or_ge j m with h|h
     ·exact absurd b (t j h)
     ·exact c j h
   refine Ni bB aR (L.drop m) m fuel listed a' w' rfl (Nat.le_refl _) ?_ z (fun i hi=>?_) bK
   ·refine Nat.le_trans ?_ aX;have e:listed.toList.drop m=List.replicate (L.length-m) false:=by
     apply List.ext_getElem
     ·simp[z]
     ·intro i aH aP;simp at aH;have:=c (m+i) (by omega);rw[Array.getD_eq_getD_getElem?,Array.getElem?_eq_getElem (by omega)] at this;simpa using this
    have aP:(listed.toList.drop m).count false≤listed.toList.count false:=(List.drop_sublist m listed.toList).count_le false;rw[e,List.count_replicate_self] at aP;simpa using aP
   ·rcases Nat.lt_or_ge i m with h|h
    ·simp[aN i h,h]
    ·simp only[c i h];constructor
     ·intro aZ;cases aZ
     ·intro aZ;omega
  have main:∀(fuel:Nat) (listed:Array Bool) (a':Act) (w':World) (D:Nat→Bool) (V:Nat→Value),listed.toList.count false≤fuel→listed.size=L.length→a'.tmps.size=N→a'.defers=X.ds→
    (∀s,(∀j,B4 L j=some s→listed.getD j false=false)→sl a' s=lk (sl a s) l s)→(∀j d,listed.getD j false=true→B4 L j=some d→sl a' d=V j)→(∀j,j<L.length→D j=listed.getD j false)→
    (∀(j:Nat) (o:Oper),L[j]?=some o→listed.getD j false=true→∀e∈o.after,Region.binds .any e=true→listed.getD e.on false=true)→I D V w'→(∀j,m≤j→listed.getD j false=false)→wpAnyIn (Wd X.ro) 0 P .any L.toArray Q fuel listed a' w':=by
   intro fuel
   induction fuel with
   |zero=>
    intro listed a' w' D V aX z aA aE r q aB y aV c;refine fin 0 listed a' w' D V aX z aA aE r q aB aV c fun j b=>?_;have aK:j<listed.size:=by omega
    cases u:listed[j] with
    |true=>simp[aK,u]
    |false=>
     have:false∈listed.toList:=by rw[←u];simp
     have:=List.count_pos_iff.2 this;omega
   |succ fuel ih=>
    intro listed a' w' D V aX z aA aE r q aB y aV c
    by_cases aS:∀j,j<m→listed.getD j false=true
    ·exact fin (fuel+1) listed a' w' D V aX z aA aE r q aB aV c aS
    have hex:∃j,j<m∧listed.getD j false=false:=by
     false_or_by_contra
     rename_i bN
     refine aS fun j b=>?_;cases u:listed.getD j false with
     |true=>rfl
     |false=>exact absurd ⟨j,b,u⟩ bN
    constructor
    ·intro b3;exfalso;obtain⟨j,b,u⟩:=hex;refine absurd u ?_;rw[Bool.not_eq_false];clear u
     induction j using Nat.strongRecOn with
     |_ j bO=>
      cases u:listed.getD j false with
      |true=>rfl
      |false=>
       exfalso;have aK:j<listed.size:=by omega
       have hm:j∈Region.ready .any L.toArray listed:=mem_ready.2 ⟨by simp[aK] at u⊢;exact u,L[j],by simp,fun e he g=>by
        have aH:=Ea aR j L[j] (List.getElem?_eq_getElem (by omega)) e he g;exact bO e.on (by omega) (by omega)⟩
       rw[b3] at hm;cases hm
    ·intro i hi;obtain⟨h0,o,bP,aI⟩:=mem_ready.1 hi;have aC:L[i]?=some o:=by simpa using bP
     have bQ:i<L.length:=(List.getElem?_eq_some_iff.1 aC).1;have aF:i<listed.size:=by omega
     have aT:listed.getD i false=false:=by simp[aF] at h0⊢;exact h0
     have aY:i<m:=by
      rcases Nat.lt_or_ge i m with h|h
      ·exact h
      ·obtain⟨j,b,u⟩:=hex;have:=Js (p:=fun x=>listed.getD x false=true) (fun d od bR aL k aW=>by
        obtain⟨e,he,g,aD⟩:=Ey.1 aW;have:=y d od bR aL e he g
        rwa[aD] at this) (I5 bB aC h j (by omega)) (fun b4 bC k aW=>by
        rw[aC] at bC;obtain rfl:o=b4:=by simpa using bC
        obtain⟨e,he,g,aD⟩:=Ey.1 aW;have:=aI e he g
        rwa[aD] at this)
       rw[u] at this;cases this
     have aL:∀j,E6 o j=true→listed.getD j false=true∧j<L.length:=fun j b=>by
      obtain⟨e,he,g,aD⟩:=Ey.1 b;have aH:=aI e he g;have aP:=Ea aR i o aC e he g;rw[aD] at aH aP;exact⟨aH,by omega⟩
     have bD:KI L a l D V i o a':=by
      refine⟨fun s t=>r s fun j b=>?_,fun j d b aO=>q j d (aL j b).1 aO,fun j b=>by rw[aB j (aL j b).2];exact(aL j b).1,by rw[aB i bQ];exact aT,fun j bS b bE k' aQ=>?_⟩
      ·have:=J6.2 ⟨j,b⟩;rw[t] at this;cases this
      ·have a0:j<L.length:=(List.getElem?_eq_some_iff.1 b).1;rw[aB j a0] at bE;obtain⟨e,he,g,aD⟩:=Ey.1 aQ;have aH:=y j bS b bE e he g;have aP:=Ea aR j bS b e he g;rw[aD] at aH aP;rw[aB k' (by omega)];exact aH
     have hK:Pt L a l D V i o a':=⟨bD,bD.later bA fun s t=>r s fun j b=>by
      have a0:j<L.length:=by
       unfold B4 at b;cases bT:L[j]? with
       |none=>rw[bT] at b;cases b
       |some o=>exact(List.getElem?_eq_some_iff.1 bT).1
      rw[←aB j a0];exact t j b⟩
     have aJ:B4 L i=o.dst:=by simp[B4,aC]
     have step:∀v Bj,I (Jz D i) (JA V i v) Bj→wpAnyIn (Wd X.ro) 0 P .any L.toArray Q fuel (listed.setIfInBounds i true) (a'.put o.dst v) Bj:=by
      intro v Bj a2;have a3:∀s,(∀d,o.dst=some d→d≠s)→sl (a'.put o.dst v) s=sl a' s:=by
       intro s t;cases aO:o.dst with
       |none=>rfl
       |some d=>exact J9 (t d aO)
      refine ih _ _ _ (Jz D i) (JA V i v) ?_ (by simp[z]) ?_ ?_ ?_ ?_ ?_ ?_ a2 (fun j b=>by rw[Dl (by omega)];exact c j b)
      ·have aU:i<listed.toList.length:=by simpa using aF
       have a4:listed.toList[i]=false:=by
        simp[aF] at aT;simpa using aT
       have bU:(listed.setIfInBounds i true).toList=listed.toList.set i true:=by simp
       rw[bU,List.count_set aU,a4];have aH:0<listed.toList.count false:=List.count_pos_iff.2 (by rw[←a4];exact List.getElem_mem aU);have b5:(if (false==false)=true then 1 else 0)=1:=rfl;have b6:(if (true==false)=true then 1 else 0)=0:=rfl;rw[b5,b6];omega
      ·cases o.dst<;>simp[Act.put,aA]
      ·cases o.dst<;>simp[Act.put,aE]
      ·intro s t;rw[a3 s (fun d aO bV=>by
        subst bV;have:=t i (by rw[aJ,aO]);rw[Fs aF] at this;cases this)]
       refine r s fun j b=>?_;have:=t j b
       by_cases n:i=j
       ·subst n;exact aT
       ·rwa[Dl n] at this
      ·intro j d b aM
       by_cases n:i=j
       ·subst n;rw[aJ] at aM;have aU:d<a'.tmps.size:=by rw[aA];exact(aG i i d (by rw[aJ,aM])).1
        rw[aM,KW aU,P4]
       ·rw[Dl n] at b;have:sl (a'.put o.dst v) d=sl a' d:=by
         refine a3 d fun b7 bW bX=>?_;subst bX;exact n ((aG i j b7 (by rw[aJ,bW])).2 aM)
        rw[this,Ss _ _ (Ne.symm n)];exact q j d b aM
      ·intro j b
       by_cases n:i=j
       ·subst n;rw[P3,Fs aF]
       ·rw[Sr _ (Ne.symm n),Dl n];exact aB j b
      ·intro j bY b bF e he g
       by_cases bG:i=e.on
       ·rw[←bG];exact Fs aF
       ·rw[Dl bG]
        by_cases n:i=j
        ·subst n;rw[aC] at b;obtain rfl:o=bY:=by simpa using b
         exact aI e he g
        ·rw[Dl n] at bF;exact y j bY b bF e he g
     have b8:=LC b1 i o aY aC;unfold wpOpIn;simp only[bP];rcases b8 D V a' w' (by rw[Nat.zero_add];exact hK) aV with⟨hw,bZ⟩|⟨hw,hu⟩
     ·rw[if_pos hw];rw[Nat.zero_add] at bZ;exact bZ.wp fun v Bj a2=>step v Bj a2
     ·rw[if_neg (by rw[hw];simp)];rw[Nat.zero_add] at hu;exact⟨fun f _=>Lr X.ro f,step undef w' hu⟩
  have a5:∀j,(Array.replicate L.length false).getD j false=false:=by
   intro j;rw[Array.getD_eq_getD_getElem?];rcases Nat.lt_or_ge j L.length with h|h
   ·simp[h]
   ·simp[h]
  have e:L.toArray.size=L.length:=by simp
  rw[e];refine main L.length (Array.replicate L.length false) (BQ a l) w.drew (fun _=>false) (fun _=>undef) (Nat.le_trans (List.count_le_length ..) (by simp)) (by simp) (by rw[H3,st.sz]) (by rw[Dp,st.df]) (fun s _=>Bc st s) (fun j d h=>?_) (fun j _=>(a5 j).symm) (fun j o h aZ=>?_) h0 (fun j _=>a5 j)
  ·rw[a5 j] at h;cases h
  ·rw[a5 j] at aZ;cases aZ)
end
end Go.Proofs.YtamobliaoknclaaGreat
end
section
namespace Go.Proofs.YtamobliaoknclaaGreat
open Go.RowKit Go.WideShapes
section
variable{P:Program}{L:List Oper}{a:Act}{l:Env}{T:Nat→Act→World→Prop}{Φ:Nat→Value→World→Prop}{sp:List Nat}{S:Nat→World→World→Prop}{k:Nat}{op:Op}{ty:TypeId}{pos:String}{BX:Array Edge}{dst:Option Nat}
theorem od{c:Value}(b:sp.contains k=false)(d:∀w,Φ k c w)(h:∀{a' w' ph},It L a l T Φ sp k ⟨dst,op,ty,pos,BX,none⟩ a' w' ph→BT P ⟨dst,op,ty,pos,BX,none⟩ a' w' (fun u Bj=>u=c∧Bj=w')):GP P L a l S T Φ sp k ⟨dst,op,ty,pos,BX,none⟩:=
 TM rfl b d fun _ _ _ K=>h K
end
def Nu(P:Program)(a:Act)(l:Env)(w:World):ResultVar→Value→Prop
 |.tmp t,v=>ev a l (.tmp t)=v
 |.cell p t,v=>∃ad,ev a l (.tmp p)=.pointer (some ad)∧(loadVar t ad).run P w=.ok v w
section
variable{P:Program}{N:Nat}{a:Act}{l:Env}{w:World}
theorem Nv{fn:Func}{r1 r2:ResultVar}{v v':Value}{R:Value→World→Prop}(d:fn.results= #[r1,r2])(j:Nu P a l w r1 v)(f:Nu P a l w r2 v')(h:R (.tuple #[v,v']) w):
  LV X0 N (bodyPost P fn (fun e w'=>∃v,e=.returned v∧R v w')) .ret a l w:=fun s=>by
 refine bodyPost_ret (v:=.tuple #[v,v']) ?_ (by rw[Dp,s.df]) ⟨_,rfl,h⟩;cases r1 with
 |tmp t=>
  have c:(BQ a l).tmps.getD t undef=v:=ee s j;simp only[Array.getD_eq_getD_getElem?] at c;cases r2 with
  |tmp u=>
   have b:(BQ a l).tmps.getD u undef=v':=ee s f;simp only[Array.getD_eq_getD_getElem?] at b;simp[results,d,c,b]
  |cell p t=>
   obtain⟨ad,i,g⟩:=f;have b:(BQ a l).tmps.getD p undef=.pointer (some ad):=ee s i;simp only[Array.getD_eq_getD_getElem?] at b;simp[results,d,c,b,asAddr,g]
 |cell q t=>
  obtain⟨k,i,g⟩:=j;have c:(BQ a l).tmps.getD q undef=.pointer (some k):=ee s i;simp only[Array.getD_eq_getD_getElem?] at c;cases r2 with
  |tmp u=>
   have b:(BQ a l).tmps.getD u undef=v':=ee s f;simp only[Array.getD_eq_getD_getElem?] at b;simp[results,d,c,b,asAddr,g]
  |cell p t=>
   obtain⟨ad,m,n⟩:=f;have b:(BQ a l).tmps.getD p undef=.pointer (some ad):=ee s m;simp only[Array.getD_eq_getD_getElem?] at b;simp[results,d,c,b,asAddr,g,n]
end
def G8(a n:Int):Int:=a*2^n.toNat
def L9(a n:Int):Option Unit:=if 0≤n∧n<64∧-9223372036854775808≤a*2^n.toNat∧a*2^n.toNat≤9223372036854775807 then some () else none
theorem MG{α:Type}{a n:Int}{f:Unit→Option α}{r:α}(h:(L9 a n).bind f=some r):(0≤n∧n<64∧fits (G8 a n))∧f ()=some r:=by
 unfold L9 at h;split at h
 ·rename_i b;exact⟨⟨b.1,b.2.1,b.2.2⟩,h⟩
 ·cases h
def E9(a n:Int):Int:=a/2^n.toNat
def Nw(a n:Int):Option Unit:=if 0≤n∧n<64 then some () else none
theorem MH{α:Type}{a n:Int}{f:Unit→Option α}{r:α}(h:(Nw a n).bind f=some r):(0≤n∧n<64)∧f ()=some r:=by
 unfold Nw at h;split at h
 ·exact⟨by assumption,h⟩
 ·cases h
def LD(k:IntKind)(n:Int):Option Unit:=if k.wrap n=n then some () else none
theorem JB{α:Type}{k:IntKind}{n:Int}{f:Unit→Option α}{r:α}(h:(LD k n).bind f=some r):k.wrap n=n∧f ()=some r:=by
 unfold LD at h;split at h
 ·exact⟨by assumption,h⟩
 ·cases h
section
variable{P:Program}{a:Act}{w:World}{dst:Option Tmp}{ty:TypeId}{pos:String}{BX:Array Edge}{g:Option (Nat×Bool)}
theorem TU{x y:Operand}{m n:Int}{t b:TypeId}(c:a.eval x=.int .i64 m)(d:a.eval y=.int .i64 n)(h0:0≤m)(i:1≤n)(f:fits (m/n)):BT P ⟨dst,.binOp .quo t x y b,ty,pos,BX,g⟩ a w (fun u w'=>u=.int .i64 (m/n)∧w'=w):=
 Co (by
  have e:m.tdiv n=m/n:=Int.tdiv_eq_ediv_of_nonneg h0;have h:¬n=0:=by omega
  simp[execOp,c,d,eqGuard,binOp,Op.intDiv,h,e,HH f])
theorem RZ{x y:Operand}{m n:Int}{k:IntKind}{t b:TypeId}(c:a.eval x=.int .i64 m)(d:a.eval y=.int k n)(h:0≤n∧n<64∧fits (G8 m n)):BT P ⟨dst,.binOp .shl t x y b,ty,pos,BX,g⟩ a w (fun u w'=>u=.int .i64 (G8 m n)∧w'=w):=
 Co (by
  have e:¬n<0:=by omega
  have f:min n.toNat IntKind.i64.bits=n.toNat:=by
   have:IntKind.i64.bits=64:=rfl;omega
  have i:IntKind.i64.wrap (m*2^n.toNat)=m*2^n.toNat:=HH h.2.2;simp[execOp,c,d,eqGuard,binOp,Op.shift,e,f,i,G8])
theorem R0{x y:Operand}{m n:Int}{k:IntKind}{t b:TypeId}(c:a.eval x=.int .i64 m)(d:a.eval y=.int k n)(h:0≤n∧n<64):BT P ⟨dst,.binOp .shr t x y b,ty,pos,BX,g⟩ a w (fun u w'=>u=.int .i64 (E9 m n)∧w'=w):=
 Co (by
  have e:¬n<0:=by omega
  have f:min n.toNat IntKind.i64.bits=n.toNat:=by
   have:IntKind.i64.bits=64:=rfl;omega
  have i:m.fdiv (2^n.toNat)=m/2^n.toNat:=Int.fdiv_eq_ediv_of_nonneg m (Int.le_of_lt (Int.pow_pos (by decide)));simp[execOp,c,d,eqGuard,binOp,Op.shift,e,f,i,E9])
theorem U3 {x y:Operand} {v1 v2:Value} {x1 x2:List Int} {n:Nat} {t c:TypeId} (d:K0 P t n) (b:P.eqGuardType P.depth t=false) (e:a.eval x=v1) (f:a.eval y=v2) (h:v1=EY x1) (i:v2=EY x2) (j:x1.length=n) (k:x2.length=n):
  BT P ⟨dst,.binOp .eql t x y c,ty,pos,BX,g⟩ a w (fun u w'=>u=.bool (x1==x2)∧w'=w):=by
 refine Po e f ?_;subst h;subst i;have l:=d w x1 x2 j k;have m:(eqGuard .eql t x y (EY x1) (EY x2)).run P w=.ok () w:=by
  simp[eqGuard,EY,program,Sem.run,b]
 simp only[Sem.run_bind,m,Result.andThen_ok];show(do pure (Value.bool (←Op.equal t (EY x1) (EY x2))):Sem Value).run P w=_;simp only[Sem.run_bind,l,Result.andThen_ok,Sem.run_pure]
theorem U4{x y:Operand}{b c:Bool}{t d:TypeId}(e:∀b c w,(Op.equal t (.bool b) (.bool c)).run P w=.ok (b==c) w)(f:a.eval x=.bool b)(h:a.eval y=.bool c):
  BT P ⟨dst,.binOp .neq t x y d,ty,pos,BX,g⟩ a w (fun u w'=>u=.bool (b !=c)∧w'=w):=by
 refine Po f h ?_;show(do eqGuard .neq t x y (.bool b) (.bool c);pure (Value.bool (!(←Op.equal t (.bool b) (.bool c)))):Sem Value).run P w=_;have i:(eqGuard .neq t x y (.bool b) (.bool c)).run P w=.ok () w:=by simp[eqGuard]
 simp only[Sem.run_bind,i,Result.andThen_ok,e,Sem.run_pure];rfl
theorem LF {t t2 e:TypeId} (b:P.underlying t=some (.slice e)) {i:TypeInfo} (hi:P.info? e=some i) {A B:Option Addr} {n c d:Nat} (f:n≤c) (h:A=none→n=0) (a:P.underlying t2=some (.slice e)):
  (Builtin.append_ #[t,t2] ty #[.slice A n c,.slice B 0 d]).run P w=.ok (.slice A n c) w:=by
 have g:(Builtin.firstCells i.size 0 (.slice B 0 d)).run P w=.ok #[] w:=by
  cases B with
  |none=>simp[Builtin.firstCells]
  |some ad=>simp[Builtin.firstCells,loadCells,loadCellsFrom]
 cases A with
 |none=>simp[Builtin.append_,run_underlying b,run_underlying a,sizeOf,typeInfo,program,Sem.run,hi,Builtin.lenOf,f,g]
 |some ad=>simp[Builtin.append_,run_underlying b,run_underlying a,sizeOf,typeInfo,program,Sem.run,hi,Builtin.lenOf,f,g,storeCells]
theorem TV {α:Type} {e:DA α} {s x:Operand} {t h:TypeId} {z:Value} {sz bytes:Nat} (q:P.underlying t=some (.slice h)) (hi:(P.info? h).map (fun i=>(i.zero,i.size,i.bytes))=some (some z,sz,bytes)) (u:z.cells.size=sz) (y:e.sz=sz) (h0:0<sz)
  {n0:Nat} {Z:Nat→Prop} {A B:Option Addr} {c d n:Nat} {xs ys:List α} (aA:a.eval s=.slice A n c) (aB:xs.length=n) (aC:a.eval x=.slice B ys.length d) (b:AA e h n0 w Z A c xs) (aH:Sl e w Z B d ys)
  (aD:xs.length+ys.length≤maxLen) (j:(xs.length+ys.length)*bytes≤140737488355328) (m:n0≤w.heap.size):
  BT P ⟨dst,.call {callee:=.builtin .append,args:= #[s,x],argTypes:= #[t,t]},ty,pos,BX,g⟩ a w (fun v w'=>∃A' c',v=.slice A' (xs++ys).length c'∧w.grownBy w' (ob A)∧(∀k,ob A'=some k→(ob A=some k∨w.heap.size≤k)∧k<w'.heap.size)∧
   ∃A5 o,R2 e w Z A5 xs∧R2 e w Z o ys∧Df w' n0 h e.sz A' (xs++ys).length c' (A5++o).flatten):=by
 by_cases p:ys=[]
 ·subst p;subst aB;obtain⟨A5,aI,aE⟩:=id b;have f:xs.length≤c∧(A=none→xs.length=0):=by
   rcases aE.2 with⟨r,h0⟩|⟨g,cap,cur,r,_,_,f,_⟩
   ·obtain⟨rfl,-,rfl⟩:=Value.slice.inj r;exact⟨by omega,fun _=>h0⟩
   ·cases r;exact⟨f,fun e=>by cases e⟩
  cases l:P.info? h with
  |none=>simp[l] at hi
  |some i=>
   have aJ:=LF (P:=P) (w:=w) (ty:=ty) (B:=B) (d:=d) q l f.1 f.2 q;have he:(execOp a.eval ⟨dst,.call {callee:=.builtin .append,args:= #[s,x],argTypes:= #[t,t]},ty,pos,BX,g⟩).run P w=.ok (.value (.slice A xs.length c)) w:=by
    have aF:a.eval x=.slice B 0 d:=aC;unfold execOp;simp only[resolve,invoke,builtin,Sem.run_bind,Sem.run_pure,Result.andThen_ok,List.map_toArray,List.map_cons,List.map_nil,aA,aF,aJ]
   unfold BT;rw[he];refine⟨A,c,by rw[List.append_nil],World.grownBy.refl w _,fun k aG=>⟨.inl aG,b.HE k aG⟩,A5,[],aI,trivial,?_⟩;rw[List.append_nil,List.append_nil];exact aE
 ·exact Jg q hi u y h0 aA aB aC b aH.news aD j m p
end
theorem Gh:∀(l:List Value) (cs:Array Value) (o j:Nat),o+l.length≤cs.size→(setCells cs o l)[j]?=if o≤j∧j<o+l.length then l[j-o]? else cs[j]?
 |[],cs,o,j,_=>by
  rw[if_neg (by simp only[List.length_nil];omega)];rfl
 |v::l,cs,o,j,h=>by
  rw[List.length_cons] at h;unfold setCells;rw[Gh l _ (o+1) j (by simp;omega)]
  by_cases a:o+1≤j∧j<o+1+l.length
  ·rw[if_pos a,if_pos (by simp;omega),show j-o=(j-(o+1))+1 by omega,List.getElem?_cons_succ]
  ·rw[if_neg a,Array.getElem?_setIfInBounds]
   by_cases b:o=j
   ·subst b;rw[if_pos rfl,if_pos (by omega),if_pos (by rw[List.length_cons];omega)];simp
   ·rw[if_neg b,if_neg (by rw[List.length_cons];omega)]
theorem Nx{sz:Nat}{c':List Value}(d:c'.length=sz)(h0:0<sz):∀(k:Nat) (A5:List (List Value)) (j:Nat),(∀c∈A5,c.length=sz)→k<A5.length→(A5.set k c').flatten[j]?=if k*sz≤j∧j<k*sz+sz then c'[j-k*sz]? else A5.flatten[j]?
 |_,[],_,_,h=>by simp at h
 |0,c::A5,j,a,_=>by
  have b:=a c (List.mem_cons_self ..);rw[List.set_cons_zero,List.flatten_cons,List.flatten_cons]
  by_cases h:j<sz
  ·rw[if_pos (by omega),List.getElem?_append_left (by omega)];simp
  ·rw[if_neg (by omega),List.getElem?_append_right (by omega),List.getElem?_append_right (by omega),d,b]
 |k+1,c::A5,j,a,h=>by
  have b:=a c (List.mem_cons_self ..);rw[List.set_cons_succ,List.flatten_cons,List.flatten_cons];have e:(k+1)*sz=k*sz+sz:=by rw[Nat.add_mul];omega
  by_cases g:j<sz
  ·rw[if_neg (by omega),List.getElem?_append_left (by omega),List.getElem?_append_left (by omega)]
  ·rw[List.getElem?_append_right (by omega),List.getElem?_append_right (by omega),b,Nx d h0 k A5 (j-sz) (fun c hm=>a c (List.mem_cons_of_mem _ hm)) (by simpa using h)]
   by_cases f:k*sz≤j-sz∧j-sz<k*sz+sz
   ·rw[if_pos f,if_pos (by omega),show j-sz-k*sz=j-(k+1)*sz by omega]
   ·rw[if_neg f,if_neg (by omega)]
section
variable{α:Type}{e:DA α}{n0:Nat}{w w':World}{Z Z':Nat→Prop}
theorem R2.lens:∀{A5:List (List Value)} {xs:List α},R2 e w Z A5 xs→∀c∈A5,c.length=e.sz
 |[],[],_=>by simp
 |c::cs,_::_,h=>by
  intro d a;rcases List.mem_cons.1 a with rfl|a
  ·exact e.len h.1
  ·exact R2.lens h.2 d a
 |[],_::_,h=>h.elim
 |_::_,[],h=>h.elim
theorem R2.free(a:∀w Z w' Z' cs x,e.R w Z cs x→e.R w' Z' cs x):∀{A5:List (List Value)} {xs:List α},R2 e w Z A5 xs→R2 e w' Z' A5 xs
 |[],[],_=>trivial
 |_::_,_::_,h=>⟨a _ _ _ _ _ _ h.1,R2.free a h.2⟩
 |[],_::_,h=>h.elim
 |_::_,[],h=>h.elim
end
section
variable{P:Program}{a:Act}{w:World}{dst:Option Tmp}{ty:TypeId}{pos:String}{BX:Array Edge}{g:Option (Nat×Bool)}
theorem Ft{α:Type}{e:DA α}{t:TypeId}{n0:Nat}{w w':World}{Z Z':Nat→Prop}{A:Option Addr}{c:Nat}{xs:List α}
  (h:∃A5,R2 e w Z A5 xs∧Df w' n0 t e.sz A xs.length c A5.flatten)(hm:Mv w Z w' Z'):AA e t n0 w' Z' A c xs:=by
 obtain⟨A5,a,b⟩:=h;exact⟨A5,a.mv hm,b⟩
end
section
variable{w0 w w':World}{b:Nat}{t:TypeId}{n z:Array Value}{c:Bool}
theorem U5(h:c=false)(a:Bk w b t z):Bk w b t (cond c n z):=by subst h;exact a
theorem U6(h:c=false)(a:Bk w b t (cond c n z)):Bk w b t z:=by subst h;exact a
theorem U7(h:c=true)(a:Bk w b t (cond c n z)):Bk w b t n:=by subst h;exact a
theorem Ou(h:Ext w0 w)(g:Gs b w w')(a:w0.heap.size≤b):Ext w0 w':=
 Na (TL (Below.refl _ _|>fun k=>TK k h) g a)
end
def JC (P:Program) (fv:Value) (vs:Array Value) (w:World) (R:Value→World→Prop):Prop:=
 ∀(a:Act) (dst:Option Tmp) (f:Operand) (xs:Array Operand) (b:Array TypeId) (ty:TypeId) (pos:String) (BX:Array Edge) (g:Option (Nat×Bool)),a.eval f=fv→xs.map a.eval=vs→
  BT P ⟨dst,.call {callee:=.value f,args:=xs,argTypes:=b},ty,pos,BX,g⟩ a w R
section
variable{P:Program}{fv:Value}{vs:Array Value}{w:World}{R R':Value→World→Prop}
theorem FH{fn:FuncId}{first cap all:Array Value}(a:Bp P fn)(b:first++vs++cap=all)(h:BU P fn all w R):JC P (.func (.func fn) first cap) vs w R:=fun _ _ _ _ _ _ _ _ _ c d=>Jb a c d b h
theorem HS{l:Nat}(h:YieldAt Fence.wide 0 P l vs w (fun e w'=>∃v,e=.returned v∧R v w')):JC P (.func (.yield l) #[] #[]) vs w R:=fun _ _ _ _ _ _ _ _ _ a b=>Sn a b h
theorem JC.mono(h:JC P fv vs w R)(b:∀v w',R v w'→R' v w'):JC P fv vs w R':=fun a dst f xs c ty pos BX g d e=>(h a dst f xs c ty pos BX g d e).mono b
theorem FC{F:Nat→Prop}{M:List (Option Nat)}{b:Nat}(h:¬FU F M b):¬F b∧some b∉M:=⟨fun a=>h (.inl a),fun a=>h (.inr a)⟩
theorem Gi{a:Act}{dst:Option Tmp}{f:Operand}{xs:Array Operand}{b:Array TypeId}{ty:TypeId}{pos:String}{BX:Array Edge}{g:Option (Nat×Bool)}(h:JC P fv vs w R)(c:a.eval f=fv)(d:xs.map a.eval=vs):
  BT P ⟨dst,.call {callee:=.value f,args:=xs,argTypes:=b},ty,pos,BX,g⟩ a w R:=h a dst f xs b ty pos BX g c d
end
structure VL (α:Type) where
 R:World→(Nat→Prop)→Array Value→α→Prop
def v0:VL Unit:=⟨fun _ _ vs _=>vs= #[]⟩
def v1{α:Type}(a:VE α):VL α:=⟨fun w Z vs x=>∃v,vs= #[v]∧a.R w Z v x⟩
def v2{α β:Type}(a:VE α)(b:VE β):VL (α×β):=⟨fun w Z vs x=>∃v u,vs= #[v,u]∧a.R w Z v x.1∧b.R w Z u x.2⟩
def v3{α β d:Type}(a:VE α)(b:VE β)(c:VE d):VL (α×β×d):=⟨fun w Z vs x=>∃v u t,vs= #[v,u,t]∧a.R w Z v x.1∧b.R w Z u x.2.1∧c.R w Z t x.2.2⟩
def M0:VE Unit:=⟨fun _ _ v _=>v=.tuple #[],fun h _=>h⟩
structure Cb (P:Program) {σ α β:Type} (fv:Value) (F:Nat→Prop) (n:Nat) (I:σ→World→(Nat→Prop)→Option Nat→Prop) (ea:VL α) (er:VE β) (cb:σ→α→Option (β×σ)):Prop where
 fc:fv.cells= #[fv]
 f1:fv.oneCell'=true
 ff:∀k,F k→k<n
 call:∀(s:σ) (x:α) (r:β×σ) (w:World) (Z Za:Nat→Prop) (o:Option Nat) (vs:Array Value),n≤w.heap.size→(∀b,Z b→Za b)→(∀b,Za b→¬F b∧some b≠o)→I s w Z o→ea.R w Za vs x→cb s x=some r→
  JC P fv vs w (fun v w'=>∃o',Bg (FU F [o]) w w'∧(∀k,o'=some k→(o=some k∨w.heap.size≤k)∧k<w'.heap.size)∧er.R w' (ZZ FN [] Z w.heap.size [o']) v r.1∧I r.2 w' (ZZ FN [] Z w.heap.size [o']) o')
 Kf:∀(s:σ) (w w':World) (Z Z':Nat→Prop) (o:Option Nat),I s w Z o→Mv w Z w' Z'→(∀b,FU F [o] b→w'.heap[b]?=w.heap[b]?)→I s w' Z' o
 lt:∀(s:σ) (w:World) (Z:Nat→Prop) (o:Option Nat),I s w Z o→∀k,o=some k→k<w.heap.size∧¬F k
section
variable{P:Program}{σ α β:Type}{fv:Value}{F:Nat→Prop}{n:Nat}{I:σ→World→(Nat→Prop)→Option Nat→Prop}{ea:VL α}{er:VE β}{cb:σ→α→Option (β×σ)}
variable{B:List (Option Nat)}{w0 w w':World}{Z:Nat→Prop}{L:List (Option Nat)}
theorem Cb.C1 (h:Cb P fv F n I ea er cb) {s:σ} {o:Option Nat} (d:I s w (ZZ F B Z w0.heap.size L) o) (c:Hp F B w0 L w) {D:Nat→Prop} (g:Bg D w w') (e:∀k,D k→some k∈L) (i:Nat) (hi:L[i]?=some o) (f:∀k,o=some k→¬D k) {Z':Nat→Prop} (hm:Mv w (ZZ F B Z w0.heap.size L) w' Z'):
  I s w' Z' o:=h.Kf s w w' _ _ o d hm fun b a=>by
 rcases a with a|a
 ·exact g.block b (Nat.lt_of_lt_of_le (c.ff b a) c.sz) fun j=>(c.lo b (e b j)).2.1 a
 ·rw[List.mem_singleton] at a;exact g.block b (h.lt s w _ o d b a.symm).1 (f b a.symm)
theorem Cb.me(h:Cb P fv F n I ea er cb){s:σ}{o:Option Nat}(c:I s w (ZZ F B Z w0.heap.size L) o)(d:Hp F B w0 L w)(g:Ext w w'){Z':Nat→Prop}(hm:Mv w (ZZ F B Z w0.heap.size L) w' Z'):I s w' Z' o:=
 h.Kf s w w' _ _ o c hm fun b a=>g.block b (by
  rcases a with a|a
  ·exact Nat.lt_of_lt_of_le (d.ff b a) d.sz
  ·rw[List.mem_singleton] at a;exact(h.lt s w _ o c b a.symm).1) (by simp)
theorem Cb.mz(h:Cb P fv F n I ea er cb){s:σ}{o:Option Nat}{a Z':Nat→Prop}(b:I s w a o)(hm:Mv w a w Z'):I s w Z' o:=h.Kf s w w _ _ o b hm fun _ _=>rfl
theorem Cb.mg(h:Cb P fv F n I ea er cb){s:σ}{o r:Option Nat}(d:I s w (ZZ F B Z w0.heap.size L) o)(a:Hp F B w0 L w)(g:w.grownBy w' r)(j:Nat)(b:L[j]?=some r)(i:Nat)(hi:L[i]?=some o)(c:(i==j)=false){Z':Nat→Prop}(hm:Mv w (ZZ F B Z w0.heap.size L) w' Z'):I s w' Z' o:=
 h.C1 d a (D:=fun k=>some k=r) (Iz g fun _ e=>e.symm) (fun k e=>by rw[e];exact List.mem_of_getElem? b) i hi (fun k f e=>a.ap i j k (by simpa using c) (by rw[hi,f]) (by rw[b,e])) hm
theorem Cb.mm(h:Cb P fv F n I ea er cb){s:σ}{o:Option Nat}{M:List (Option Nat)}(f:I s w (ZZ F B Z w0.heap.size L) o)(c:Hp F B w0 L w)(g:Bg (FU FN M) w w')(b:List Nat)(d:F7 L b M)(i:Nat)(hi:L[i]?=some o)(e:(b.all fun j=> !Nat.beq i j)=true){Z':Nat→Prop}(hm:Mv w (ZZ F B Z w0.heap.size L) w' Z'):I s w' Z' o:=
 h.C1 f c g (fun k a=>by
  rcases a with a|a
  ·exact a.elim
  ·exact d.sub _ a) i hi (fun k a=>c.BA (F':=FN) i (by rw[hi,a]) b e d (fun _ h=>h.elim)) hm
end
def Cg {α:Type} (ev:α→Value) (w:World) (r n:Nat) (L:List (List Int×α)):Prop:=
 ∃es clock,w.heap[r]?=some (.map es clock)∧es.toList.map (fun e=>(e.key,e.val))=L.map (fun p=>(EY p.1,ev p.2))∧∀p∈L,p.1.length=n
def BE{α:Type}(L:List (List Int×α))(k:List Int):Option α:=(L.find? fun p=>k==p.1).map (·.2)
def Ho{α:Type}(L:List (List Int×α))(k:List Int)(v:α):List (List Int×α):=match L.findIdx? (fun p=>k==p.1) with|some i=>L.set i (k,v)|none=>L++[(k,v)]
structure VP{α:Type}(ev:α→Value)(w w':World)(r n:Nat):Prop where
 Eg:r=w.heap.size
 sz:w'.heap.size=r+1
 mp:Cg ev w' r n []
 gr:Ext w w'
structure VQ{α:Type}(ev:α→Value)(w w':World)(r n:Nat)(L:List (List Int×α)):Prop where
 sz:w'.heap.size=w.heap.size
 mp:Cg ev w' r n L
 gr:Gs r w w'
section
variable{α:Type}{ev:α→Value}{w w':World}{r n b:Nat}{L:List (List Int×α)}
theorem Cg.lt(h:Cg ev w r n L):r<w.heap.size:=by obtain⟨es,c,h,_⟩:=h;exact lt_of_block h
theorem Cg.ext(h:Cg ev w r n L)(g:Ext w w'):Cg ev w' r n L:=by
 have a:=h.lt;obtain⟨es,c,b,d⟩:=h;exact⟨es,c,(g.block r a (by simp)).trans b,d⟩
theorem Cg.M9(h:Cg ev w r n L)(g:Gs b w w')(a:r≠b):Cg ev w' r n L:=by
 have d:=h.lt;obtain⟨es,c,e,f⟩:=h;exact⟨es,c,(g.block r d (by simpa using a)).trans e,f⟩
end
section
variable{α:Type}{ev:α→Value}{z:α}{P:Program}{a:Act}{w:World}{dst:Option Tmp}{ty:TypeId}{pos:String}{BX:Array Edge}{g:Option (Nat×Bool)}{K E T r n:Nat}{L:List (List Int×α)}{k:List Int}
theorem IQ(z:α)(a:K0 P K n)(b:k.length=n):∀(es:List MapEntry) (L:List (List Int×α)) (i:Nat),es.map (fun e=>(e.key,e.val))=L.map (fun p=>(EY p.1,ev p.2))→(∀p∈L,p.1.length=n)→
  (Instr.findAsking K (EY k) es i).run P w=.ok (match L.findIdx? (fun p=>k==p.1) with|some j=>some (i+j,ev ((L.getD j ([],z)).2))|none=>none) w
 |[],[],i,_,_=>by simp[Instr.findAsking]
 |[],p::L,i,h,_=>by simp at h
 |e::es,[],i,h,_=>by simp at h
 |e::es,p::L,i,h,c=>by
  simp only[List.map_cons,List.cons.injEq,Prod.mk.injEq] at h;obtain⟨⟨d,f⟩,g⟩:=h;have ih:=IQ z a b es L (i+1) g (fun q a=>c q (List.mem_cons_of_mem _ a));have he:=a w k p.1 b (c p (List.mem_cons_self ..));simp only[Instr.findAsking,Sem.run_bind,d,he,Result.andThen_ok,List.findIdx?_cons];cases l:(k==p.1)
  ·simp only[Bool.false_eq_true,if_false,ih];cases List.findIdx? (fun p=>k==p.1) L with
   |none=>rfl
   |some j=>simp[Nat.add_assoc,Nat.add_comm 1 j]
  ·simp[f]
theorem Kg(z:α)(f:K0 P K n)(hw:Jx P K)(g:k.length=n){es:List MapEntry}(h:es.map (fun e=>(e.key,e.val))=L.map (fun p=>(EY p.1,ev p.2)))(i:∀p∈L,p.1.length=n):
  (Instr.findKey K (EY k) es).run P w=.ok (match L.findIdx? (fun p=>k==p.1) with|some j=>some (j,ev ((L.getD j ([],z)).2))|none=>none) w:=by
 unfold Jx at hw;cases hu:P.underlying K with
 |none=>simp[hu] at hw
 |some d=>
  unfold Instr.findKey;simp only[Sem.run_bind,run_underlying hu,Result.andThen_ok];cases es with
  |nil=>
   have:L=[]:=by cases L with|nil=>rfl|cons _ _=>simp at h
   subst this;simp[Instr.findNow]
  |cons e es=>
   have l:Instr.findNow d (EY k) (e::es) 0=none:=by
    refine Ot ?_ _ _ _ (fun a b=>?_) (by simp)
    ·rw[hu] at hw;cases d<;>simp at hw<;>trivial
    ·have:(a.key,a.val)∈(e::es).map (fun e=>(e.key,e.val)):=List.mem_map.2 ⟨a,b,rfl⟩;rw[h] at this;obtain⟨p,_,c⟩:=List.mem_map.1 this;exact⟨(Cd p.1).toArray,by simp only[Prod.mk.injEq] at c;exact c.1.symm⟩
   rw[l];have:=IQ z (P:=P) (w:=w) f g (e::es) L 0 h i;simpa using this
theorem P5(z:α)(L:List (List Int×α))(k:List Int):BE L k=(L.findIdx? (fun p=>k==p.1)).map (fun j=>(L.getD j ([],z)).2):=by
 unfold BE
 induction L with
 |nil=>rfl
 |cons p L ih=>
  simp only[List.find?_cons,List.findIdx?_cons];cases a:(k==p.1)
  ·simp only[Bool.false_eq_true,if_false,ih];cases List.findIdx? (fun p=>k==p.1) L<;>simp
  ·simp
theorem Ov(d:P.underlying T=some (.map K E))(g:(P.info? E).bind (·.zero)=some (ev z))(l:K0 P K n)(m:Nl P K n)(hw:Jx P K)(a:k.length=n)(hm:Cg ev w r n L)(ok:Bool):
  (Instr.lookup T (.map (some r)) (EY k) ok).run P w=.ok (if ok then .tuple #[ev ((BE L k).getD z),.bool (BE L k).isSome] else ev ((BE L k).getD z)) w:=by
 obtain⟨es,clock,o,he,q⟩:=hm;obtain⟨i,hi,b⟩:=Option.bind_eq_some_iff.1 g;have s:=LB (P:=P) o (by intro c e f h;cases h);have t:=Kg z (P:=P) (w:=w) l hw a he q;have u:(zeroValue E).run P w=.ok (ev z) w:=by simp[zeroValue,typeInfo,program,Sem.run,hi,b]
 unfold Instr.lookup;simp only[Sem.run_bind,run_underlying d,Result.andThen_ok,s,m w es.isEmpty k a,t,P5 z,Sem.run_pure];cases List.findIdx? (fun p=>k==p.1) L with
 |none=>cases ok<;>simp[u]
 |some j=>cases ok<;>simp
theorem Ny{x y:Operand}(b:P.underlying T=some (.map K E))(c:(P.info? E).bind (·.zero)=some (ev z))(d:K0 P K n)(e:Nl P K n)(hw:Jx P K)(f:a.eval x=.map (some r))(h:a.eval y=EY k)(i:k.length=n)(hm:Cg ev w r n L):
  BT P ⟨dst,.lookup T x y true,ty,pos,BX,g⟩ a w (fun u w'=>u=.tuple #[ev ((BE L k).getD z),.bool (BE L k).isSome]∧w'=w):=
 IM (S:=Instr.lookup T (.map (some r)) (EY k) true) (by simp only[execOp,f,h]) (Ov b c d e hw i hm true)
theorem JD{T:TypeId}:BT P ⟨dst,.makeMap T none,ty,pos,BX,g⟩ a w (fun u w'=>∃r,u=.map (some r)∧VP ev w w' r n):=by
 unfold BT;simp only[execOp,Option.map_none,Sem.run_bind,run_makeMap,Result.andThen_ok,Sem.run_pure];exact⟨_,rfl,rfl,by simp,⟨#[],0,heap_alloc_new w _,rfl,by simp⟩,World.grownBy_alloc w _ _⟩
theorem Nz{x y aC:Operand}{v:α}(aL:P.underlying T=some (.map K E))(aM:K0 P K n)(aN:Nl P K n)(hw:Jx P K)(aO:a.eval x=.map (some r))(aP:a.eval y=EY k)(aQ:a.eval aC=ev v)(q:k.length=n)(hm:Cg ev w r n L):
  BT P ⟨dst,.mapUpdate T x y aC,ty,pos,BX,g⟩ a w (fun _ w'=>VQ ev w w' r n (Ho L k v)):=by
 have s:=hm.lt;obtain⟨es,clock,aD,he,aA⟩:=hm;have aR:=LB (P:=P) aD (by intro c e f h;cases h);have aS:=Kg v (P:=P) (w:=w) aM hw q he aA;have d:∀o:Obj,(setObj r o).run P w=.ok () {w with heap:=w.heap.setIfInBounds r o}:=by
  intro o;unfold setObj;simp only[Sem.run,aD]
 have t:∀o:Obj,Gs r w {w with heap:=w.heap.setIfInBounds r o}:=fun o=>⟨rfl,rfl,rfl,by simp,fun j _ aE=>by
  have:¬r=j:=fun e=>aE (by rw[e]);simp[Array.getElem?_setIfInBounds,this]⟩
 have hlen:es.toList.length=L.length:=by have:=congrArg List.length he;simpa using this
 unfold BT;simp only[execOp,aO,aP,aQ,Sem.run_bind,Instr.mapUpdate,run_underlying aL,Result.andThen_ok,aR,aN w false k q,aS];cases m:List.findIdx? (fun p=>k==p.1) L with
 |none=>
  simp only[d,Result.andThen_ok,Sem.run_pure];refine⟨by simp,⟨_,_,by simp[s];exact⟨rfl,rfl⟩,?_,?_⟩,t _⟩
  ·simp[Ho,m,he]
  ·intro p b;simp only[Ho,m,List.mem_append,List.mem_singleton] at b;rcases b with b|rfl
   ·exact aA p b
   ·exact q
 |some j=>
  have aT:=List.findIdx?_eq_some_iff_getElem.1 m;obtain⟨aF,aG,_⟩:=aT;have u:j<es.toList.length:=by omega
  have aB:(es.toList[j]).key=EY k:=by
   have:=congrArg (fun l=>l[j]?) he;simp only[List.getElem?_map,List.getElem?_eq_getElem u,List.getElem?_eq_getElem aF,Option.map_some,Option.some.injEq,Prod.mk.injEq] at this;rw[this.1,←eq_of_beq aG]
  have aH:((es[j]?).map (·.key)).getD (EY k)=EY k:=by
   have aI:j<es.size:=by simpa using u
   rw[Array.getElem?_eq_getElem aI];simpa using aB
  simp only[aH,Instr.keyThatStays,No 9999 k,if_true,Sem.run_pure,Result.andThen_ok,d,Sem.run_bind];refine⟨by simp,⟨_,_,by simp[s];exact⟨rfl,rfl⟩,?_,?_⟩,t _⟩
  ·simp only[Ho,m];apply List.ext_getElem
   ·simp[hlen]
   ·intro i aU aV;have aJ:i<es.toList.length:=by simpa using aU
    have aK:i<L.length:=by omega
    have:=congrArg (fun l=>l[i]?) he;simp only[List.getElem?_map,List.getElem?_eq_getElem aJ,List.getElem?_eq_getElem aK,Option.map_some,Option.some.injEq,Prod.mk.injEq] at this
    by_cases z:j=i
    ·subst z;simp
    ·simpa[Array.getElem_modify,z,List.getElem_set] using this
  ·intro p b;simp only[Ho,m] at b;rcases List.mem_or_eq_of_mem_set b with b|rfl
   ·exact aA p b
   ·exact q
end
section
variable{α:Type}{ev:α→Value}{w w':World}{r n:Nat}{L:List (List Int×α)}
theorem Cg.of(h:Cg ev w r n L)(e:w'.heap[r]?=w.heap[r]?):Cg ev w' r n L:=by
 obtain⟨es,c,a,b⟩:=h;exact⟨es,c,e.trans a,b⟩
theorem Cg.gr{x:Option Nat}(h:Cg ev w r n L)(g:w.grownBy w' x)(a:some r≠x):Cg ev w' r n L:=h.of (g.block r h.lt a)
end
theorem Ow{α:Type}(L:List (List Int×α))(k k':List Int)(v:α):BE (Ho L k v) k'=if k'=k then some v else BE L k':=by
 induction L with
 |nil=>
  unfold BE Ho
  by_cases h:k'=k
  ·subst h;simp
  ·have:(k'==k)=false:=by simpa using h
   simp[h]
 |cons p L ih=>
  unfold BE Ho at*;simp only[List.findIdx?_cons];cases c:(k==p.1)
  ·simp only[Bool.false_eq_true,if_false];cases d:List.findIdx? (fun p=>k==p.1) L with
   |none=>
    rw[d] at ih;simp only[Option.map_none,List.cons_append,List.find?_cons];cases a:(k'==p.1)
    ·simpa using ih
    ·have b:k'≠k:=by
      intro e;rw[e,c] at a;cases a
     simp[b]
   |some j=>
    rw[d] at ih;simp only[Option.map_some,List.set_cons_succ,List.find?_cons];cases a:(k'==p.1)
    ·simpa using ih
    ·have b:k'≠k:=by
      intro e;rw[e,c] at a;cases a
     simp[b]
  ·have g:=eq_of_beq c;simp only[if_true,List.set_cons_zero,List.find?_cons]
   by_cases h:k'=k
   ·subst h;simp
   ·have f:(k'==k)=false:=by simpa using h
    have i:(k'==p.1)=false:=by rw[←g];exact f
    simp[h,f,i]
theorem Wg{f:Operand→Value}{i0 i1 i2 i3 i4:Nat}{a x1 x2 b c:Operand}{v0 v1 v2 v3 v4:Value}(h0:f a=v0)(d:f x1=v1)(e:f x2=v2)(g:f b=v3)(h:f c=v4): #[(i0,a),(i1,x1),(i2,x2),(i3,b),(i4,c)].map (fun(i,x)=>(i,f x))= #[(i0,v0),(i1,v1),(i2,v2),(i3,v3),(i4,v4)]:=by simp[h0,d,e,g,h]
section
variable{F F' F0:Nat→Prop}{B:List (Option Nat)}{w0 w w' w1 w2:World}{Z Z':Nat→Prop}{L L' M C:List (Option Nat)}{D:Nat→Prop}
theorem BP(a:List Nat)(h:F7 L a M):∀x∈M,x∈L:=h.sub
theorem AF(a:List Nat)(h:F7 L a M)(b:∀k,F' k→F k):∀k,FU F' M k→F k∨some k∈L:=TP h.sub b
theorem CP(h:∀k,F0 k→F k):∀k,FU F0 C k→F k∨some k∈C:=fun k a=>a.imp (h k) id
theorem FX{k:Nat}{o:Obj}{r:Option Nat}(h:w.heap[k]?=some o)(g:w.grownBy w' r)(a:some k≠r):w'.heap[k]?=some o:=(g.block k (Array.getElem?_eq_some_iff.1 h).1 a).trans h
theorem EL{k:Nat}{o:Obj}(h:w.heap[k]?=some o)(g:Bg D w w')(a:¬D k):w'.heap[k]?=some o:=(g.block k (Array.getElem?_eq_some_iff.1 h).1 a).trans h
theorem Cg.BC{α:Type}{ev:α→Value}{r n:Nat}{a:List (List Int×α)}(h:Cg ev w r n a)(g:Bg D w w')(b:¬D r):Cg ev w' r n a:=h.of (g.block r h.lt b)
theorem Cg.Fu{α:Type}{ev:α→Value}{r n:Nat}{a:List (List Int×α)}(h:Cg ev w r n a)(e:w'.heap[r]?=w.heap[r]?):Cg ev w' r n a:=h.of e
theorem Bk.Fu{b:Nat}{t:TypeId}{cs:Array Value}(h:Bk w b t cs)(e:w'.heap[b]?=w.heap[b]?):Bk w' b t cs:=e.trans h
theorem Hp.zz(h:Hp F B w0 L w)(a c:List Nat)(d:F7 L a M)(e:F7 L c C)(f:∀k,F' k→F k∨some k∈C):∀b,ZZ F B Z w0.heap.size L b→¬F' b∧some b∉M:=h.zc d.sub fun k g=>(f k g).imp id (e.sub _)
theorem Hp.mz(h:Hp F B w0 L w)(a b:List Nat)(c:F7 L a M)(d:F7 L b C)(e:∀k,F' k→F k∨some k∈C):Mv w (ZZ F B Z w0.heap.size L) w (ZC F' M):=RY (h.zz a b c d e)
theorem OG{i:Nat}{a b:List Nat}(h:((a++b).all fun j=> !Nat.beq i j)=true):(a.all fun j=> !Nat.beq i j)=true∧(b.all fun j=> !Nat.beq i j)=true:=by
 rw[List.all_append,Bool.and_eq_true] at h;exact h
theorem Hp.bz(h:Hp F B w0 L w)(i:Nat){b:Nat}(hi:L[i]?=some (some b))(a c:List Nat)(e:F7 L a M)(f:F7 L c C)(g:∀k,F' k→F k∨some k∈C)(d:((a++c).all fun j=> !Nat.beq i j)=true):ZC F' M b:=by
 have l:=h.BA (F':=F) i hi a (OG d).1 e (fun _ h=>h);have m:=h.BA (F':=F) i hi c (OG d).2 f (fun _ h=>h);exact⟨fun n=>m ((g b n).imp id id),fun hm=>l (.inr hm)⟩
theorem Hp.rz{α:Type}{e:DA α}{t:TypeId}{n0:Nat}{A:Option Addr}{c:Nat}{xs:List α}(h:Hp F B w0 L w)(i:Nat)(hi:L[i]?=some (ob A))(a b:List Nat)(d:F7 L a M)(f:F7 L b C)(g:∀k,F' k→F k∨some k∈C)(l:((a++b).all fun j=> !Nat.beq i j)=true)
  (m:AA e t n0 w (ZZ F B Z w0.heap.size L) A c xs):Sl e w (ZC F' M) A c xs:=
 (m.up (h.mz a b d f g)).sl fun k n _=>h.bz i (by rw[hi,n]) a b d f g l
theorem Bo{Z:Nat→Prop}(w:World):Mv w Z w (ZZ FN [] Z w.heap.size L):=Bd (fun _ _=>⟨id,by simp⟩) w
theorem Ji(h:Mv w Z w' Z):Mv w Z w' (ZZ FN [] Z w.heap.size M):=⟨h.size,fun b a c=>⟨.inl ⟨c,a,id,by simp⟩,(h.stay b a c).2⟩⟩
theorem KJ{n:Nat}:Mv w (ZZ FN [] Z n M) w (ZZ FN [] Z n [none]):=F8 fun b a _=>a.imp id fun⟨c,_⟩=>⟨c,by simp⟩
theorem Le{n:Nat}{o:Option Nat}(h:o∈M:=by simp):Mv w (ZZ FN [] Z n M) w (ZZ FN [] Z n [o]):=F8 fun b a _=>a.imp id fun⟨c,d⟩=>⟨c,fun hm=>by
 rw[List.mem_singleton] at hm;exact d (by rw[hm];exact h)⟩
theorem Kh(g:Bg D w w')(h:∀b,Z b→¬D b):Mv w Z w' Z:=⟨g.size,fun b a c=>⟨a,g.block b c (h b a)⟩⟩
theorem JE{b:Nat}{o:Option Nat}(h:¬FU FN C b∧some b≠o):¬FU FN C b:=h.1
theorem P6{b:Nat}{o:Option Nat}(h:¬FU F C b∧some b≠o):¬FU F (C++[o]) b:=by
 rintro(a|a)
 ·exact h.1 (.inl a)
 ·rcases List.mem_append.1 a with c|c
  ·exact h.1 (.inr c)
  ·exact h.2 (by simpa using c)
theorem Eu{b:Nat}{o:Option Nat}(h:¬FU F C b)(k:some b≠o):¬F b∧some b∉C++[o]:=
 ⟨fun a=>h (.inl a),fun a=>by
  rcases List.mem_append.1 a with c|c
  ·exact h (.inr c)
  ·exact k (by simpa using c)⟩
theorem Bg.lf{o:Option Nat}(g:Bg (FU F (C++[o])) w w'):Bg (FU (FU F C) [o]) w w':=g.mono fun k h=>by
 rcases h with h|h
 ·exact .inl (.inl h)
 ·rcases List.mem_append.1 h with a|a
  ·exact .inl (.inr a)
  ·exact .inr a
theorem Bg.P7{o:Option Nat}(g:Bg (FU F C) w w'):Bg (FU (FU F C) [o]) w w':=g.mono fun _ h=>.inl h
theorem Bg.cl{M1 M2:List (Option Nat)}(g:Bg (FU (FU F M1) M2) w w'):Bg (FU F (M1++M2)) w w':=g.fl
theorem Hp.IS(h:Hp F B w0 L w)(b:List Nat)(c:F7 L b C)(d:∀k,F0 k→F k):∀k,FU F0 C k→k<w.heap.size:=fun k a=>by
 rcases a with a|a
 ·exact Nat.lt_of_lt_of_le (h.ff k (d k a)) h.sz
 ·exact(h.lo k (c.sub _ a)).1
theorem Hp.R1(h:Hp F B w0 L w)(i:Nat){k:Nat}(hi:L[i]?=some (some k))(a:List Nat)(b:(a.all fun j=> !Nat.beq i j)=true)(c:F7 L a C):k<w.heap.size∧¬FU F C k:=
 ⟨(h.lo k (List.mem_of_getElem? hi)).1,h.BA (F':=F) i hi a b c fun _ h=>h⟩
theorem Hp.C3{x d:Option Nat}(h:Hp F B w0 L w)(i:Nat)(hi:L[i]?=some x)(a:List Nat)(g:(a.all fun j=> !Nat.beq i j)=true)(l:F7 L a M)(m:∀y∈B,y=d∨y∈M):∀k,x=some k→(d=some k∨w0.heap.size≤k)∧k<w.heap.size:=fun k e=>by
 have f:=h.lo k (List.mem_of_getElem? (by rw[hi,e]));refine⟨?_,f.1⟩;rcases Nat.lt_or_ge k w0.heap.size with b|b
 ·left;rcases m _ (f.2.2 b) with c|c
  ·exact c.symm
  ·exact absurd (.inr c) (h.BA (F':=F) i (by rw[hi,e]) a g l fun _ h=>h)
 ·exact .inr b
theorem BM.snoc{o:Option Nat}(h:BM F C w)(l:∀k,o=some k→k<w.heap.size∧¬FU F C k):BM F (C++[o]) w:=by
 refine⟨fun k q=>?_,fun i j x m hi f=>?_,h.ff⟩
 ·rcases List.mem_append.1 q with d|d
  ·exact h.lt k d
  ·have c:=l k (by rw[List.mem_singleton] at d;exact d.symm);exact⟨c.1,fun r=>c.2 (.inl r)⟩
 ·have key:∀(a b:Nat),a<C.length→¬b<C.length→(C++[o])[a]?=some (some x)→(C++[o])[b]?=some (some x)→False:=fun a b s t d c=>by
   rw[List.getElem?_append_left s] at d;rw[List.getElem?_append_right (by omega)] at c;have n:b-C.length=0:=by
    rcases Nat.eq_zero_or_pos (b-C.length) with h|h
    ·exact h
    ·rw[List.getElem?_eq_none (by simp;omega)] at c;cases c
   rw[n] at c;have p:o=some x:=by simpa using c
   exact(l x p).2 (.inr (List.mem_of_getElem? d))
  by_cases g:i<C.length
  ·by_cases e:j<C.length
   ·rw[List.getElem?_append_left g] at hi;rw[List.getElem?_append_left e] at f;exact h.ap i j x m hi f
   ·exact key i j g e hi f
  ·by_cases e:j<C.length
   ·exact key j i e g f hi
   ·have u:(C++[o]).length=C.length+1:=by simp
    have d:=(List.getElem?_eq_some_iff.1 hi).1;have c:=(List.getElem?_eq_some_iff.1 f).1;omega
theorem BM.keep{o o':Option Nat}(h:BM F C w)(g:w.heap.size≤w1.heap.size)(c:∀k,o=some k→k<w1.heap.size∧¬FU F C k)(d:∀k,o'=some k→(o=some k∨w1.heap.size≤k)∧k<w2.heap.size):∀k,o'=some k→k<w2.heap.size∧¬FU F C k:=fun k e=>by
 obtain⟨a,f⟩:=d k e;refine⟨f,?_⟩;rcases a with a|a
 ·exact(c k a).2
 ·rintro(b|b)
  ·have:=h.ff k b;omega
  ·have:=(h.lt k b).1;omega
def VA(L:List (Option Nat))(n:Nat):List (Option Nat)→Prop
 |[]=>True
 |x::M=>((∃j:Nat,L[j]?=some x)∨∀k,x=some k→some k∈L∨n≤k)∧VA L n M
theorem Cq{n:Nat}:∀{M:List (Option Nat)},VA L n M→∀k,some k∈M→some k∈L∨n≤k
 |[],_,_,h=>by cases h
 |x::M,h,k,a=>by
  rcases List.mem_cons.1 a with e|a
  ·rcases h.1 with⟨j,b⟩|c
   ·left;rw[e];exact List.mem_of_getElem? b
   ·exact c k e.symm
  ·exact Cq h.2 k a
theorem DB{y:Option Nat}(i:Nat)(h:y∈M):∀x∈L.set i y,x∈L∨x∈M:=fun x a=>by
 rcases List.mem_or_eq_of_mem_set a with b|e
 ·exact .inl b
 ·exact .inr (by rw[e];exact h)
theorem IA{o:Option Nat}:∀b,ZC F [o] b→¬F b∧some b≠o:=fun _ h=>⟨h.1,fun e=>h.2 (by rw[e];exact List.mem_singleton_self _)⟩
end
theorem OH{F:Nat→Prop}{B L:List (Option Nat)}{n:Nat}{Z Z':Nat→Prop}(h:∀b,Z b→Z' b):∀b,ZZ F B Z n L b→ZZ F B Z' n L b:=fun b a=>a.imp (fun⟨c,d,e⟩=>⟨c,h b d,e⟩) id
def IT{α:Type}(e:DA α)(w:World)(Z:Nat→Prop)(A:Option Addr)(c:Nat)(xs:List α):Prop:=
 xs.length≤c∧(A=none→c=0)∧∃A5,R2 e w Z A5 xs∧Rz w ZA A A5.flatten
section
variable{α:Type}{e:DA α}{t:TypeId}{n0:Nat}{w w':World}{Z Z':Nat→Prop}{A:Option Addr}{c:Nat}{xs:List α}
theorem IT.ext(h:IT e w Z A c xs)(g:Ext w w')(hm:Mv w Z w' Z'):IT e w' Z' A c xs:=⟨h.1,h.2.1,h.2.2.imp fun _ h=>⟨h.1.mv hm,h.2.mv (Aj g)⟩⟩
theorem AA.n(h:AA e t n0 w Z A c xs):IT e w Z A c xs:=by
 have a:=h.all;obtain⟨A5,b,d⟩:=h;refine⟨a.1,a.2.1,A5,b,?_⟩;have f:=d.rd;exact Np f fun _ _ _=>trivial
theorem Sl.n(h:Sl e w Z A c xs):IT e w Z A c xs:=⟨h.1,h.2.1,h.2.2.imp fun _ h=>⟨h.1,h.2.mv Ke⟩⟩
theorem Sl.HT(a:∀w Z w' Z' cs x,e.R w Z cs x→e.R w' Z' cs x)(h:Sl e w Z A c xs):IT e w Z' A c xs:=⟨h.1,h.2.1,h.2.2.imp fun _ h=>⟨h.1.free a,h.2.mv Ke⟩⟩
theorem AA.HT(a:∀w Z w' Z' cs x,e.R w Z cs x→e.R w' Z' cs x)(h:AA e t n0 w Z A c xs):IT e w Z' A c xs:=h.all.HT a
end
section
variable{P:Program}{a:Act}{w:World}{dst:Option Tmp}{ty:TypeId}{pos:String}{BX:Array Edge}{g:Option (Nat×Bool)}
theorem FI{α:Type}{e:DA α}{s x:Operand}{t j:TypeId}{z:Value}{sz bytes:Nat}(u:P.underlying t=some (.slice j))(hi:(P.info? j).map (fun i=>(i.zero,i.size,i.bytes))=some (some z,sz,bytes))(l:z.cells.size=sz)(m:e.sz=sz)(h0:0<sz)
  {n0:Nat}{Z:Nat→Prop}{A B:Option Addr}{c d n:Nat}{xs ys:List α}(y:a.eval s=.slice A n c)(aA:xs.length=n)(aB:a.eval x=.slice B ys.length d)(h:AA e j n0 w Z A c xs)(r:IT e w Z B d ys)
  (o:xs.length+ys.length≤maxLen)(b:(xs.length+ys.length)*bytes≤140737488355328)(f:n0≤w.heap.size):
  BT P ⟨dst,.call {callee:=.builtin .append,args:= #[s,x],argTypes:= #[t,t]},ty,pos,BX,g⟩ a w (fun v w'=>∃A' c',v=.slice A' (xs++ys).length c'∧w.grownBy w' (ob A)∧(∀k,ob A'=some k→(ob A=some k∨w.heap.size≤k)∧k<w'.heap.size)∧
   ∃A5 p,R2 e w Z A5 xs∧R2 e w Z p ys∧Df w' n0 j e.sz A' (xs++ys).length c' (A5++p).flatten):=by
 by_cases q:ys=[]
 ·refine TV u hi l m h0 y aA aB h ?_ o b f;subst q;exact⟨r.1,r.2.1,[],trivial,.inl rfl⟩
 ·obtain⟨_,_,A5,aC,aD⟩:=r;exact Jg u hi l m h0 y aA aB h ⟨A5,aC,aD⟩ o b f q
end
section
variable{α:Type}{e:DA α}{t:TypeId}{n0:Nat}{w w':World}{Z Z':Nat→Prop}{A:Option Addr}{c:Nat}{xs:List α}
theorem AA.M3(a:∀w Z w' Z' cs x,e.R w Z cs x→e.R w' Z' cs x)(h:AA e t n0 w Z A c xs):AA e t n0 w Z' A c xs:=by
 obtain⟨A5,b,d⟩:=h;exact⟨A5,b.free a,d⟩
theorem AA.Pv(h:AA e t n0 w Z A c xs):A=none→c=0:=h.all.2.1
theorem AA.keep(h:AA e t n0 w Z A c xs)(hm:Mv w Z w' Z')(d:∀k,ob A=some k→w'.heap[k]?=w.heap[k]?):AA e t n0 w' Z' A c xs:=by
 obtain⟨A5,f,a⟩:=h;refine⟨A5,f.mv hm,a.1,a.2.imp id ?_⟩;rintro⟨b,cap,cur,g,i,j,l⟩;cases g;exact⟨b,_,cur,rfl,i,(d b rfl).trans j,l⟩
end
def Bq{α:Type}(xs:List α)(l h:Int):List α:=(xs.take h.toNat).drop l.toNat
def Hq(n:Nat)(l h:Int):Option Unit:=if 0≤l∧l≤h∧h≤(n:Int) then some () else none
theorem Gt{α:Type}{n:Nat}{l h:Int}{f:Unit→Option α}{r:α}(a:(Hq n l h).bind f=some r):(0≤l∧l≤h∧h≤(n:Int))∧f ()=some r:=by
 unfold Hq at a;split at a
 ·exact⟨by assumption,a⟩
 ·cases a
def SB(a:Act)(o:Option Operand)(v d:Int):Prop:=(o=none∧v=d)∨∃x k,o=some x∧a.eval x=.int k v
theorem Ma{a:Act}{d:Int}:SB a none d d:=.inl ⟨rfl,rfl⟩
theorem Mb{a:Act}{x:Operand}{k:IntKind}{v d:Int}(h:a.eval x=.int k v):SB a (some x) v d:=.inr ⟨x,k,rfl,h⟩
theorem Ig{P:Program}(w:World)(k:IntKind)(i:Int)(y:Nat)(code:BoundsCode)(h0:0≤i)(a:i≤(y:Int)):(Instr.sliceBound (.int k i) y code).run P w=.ok i.toNat w:=by
 simp[Instr.sliceBound,asIntOf,h0,a]
section
variable{P:Program}{a:Act}{w:World}{dst:Option Tmp}{ty:TypeId}{pos:String}{BX:Array Edge}{g:Option (Nat×Bool)}
theorem Jj{α:Type}{e:DA α}{Z:Nat→Prop}{xs:List α}{t v:TypeId}{sz:Nat}{x:Operand}{A:Option Addr}{c:Nat}{lo hi:Option Operand}{l h:Int}(aH:P.underlying t=some (.slice v))(aI:(P.info? v).map (·.size)=some sz)(z:e.sz=sz)
  (aJ:a.eval x=.slice A xs.length c)(i:SB a lo l 0)(aA:SB a hi h xs.length)(aK:Sl e w Z A c xs)(aL:0≤l∧l≤h∧h≤(xs.length:Int)):
  BT P ⟨dst,.slice t x lo hi none,ty,pos,BX,g⟩ a w (fun u w'=>(∃A' c',u=.slice A' (Bq xs l h).length c'∧Sl e w Z A' c' (Bq xs l h))∧w'=w):=by
 subst z;obtain⟨aS,m,A5,n,aM⟩:=aK;obtain⟨aT,aU,aV⟩:=aL;have hlen:(Bq xs l h).length=h.toNat-l.toNat:=by
  unfold Bq;rw[List.length_drop,List.length_take];omega
 have p:(Instr.sliceAt t (.slice A xs.length c) (lo.map a.eval) (hi.map a.eval) none).run P w=.ok (.slice (if c=l.toNat then A else A.map (·.add (l.toNat*e.sz))) (h.toNat-l.toNat) (c-l.toNat)) w:=by
  have aN:(Instr.sliceBounds true xs.length c (lo.map a.eval) (hi.map a.eval) none).run P w=.ok (l.toNat,h.toNat,c) w:=by
   unfold Instr.sliceBounds;rcases aA with⟨rfl,rfl⟩|⟨y,k,rfl,aB⟩
   ·rcases i with⟨rfl,rfl⟩|⟨aO,k',rfl,d⟩
    ·simp
    ·simp[d,Ig w k' l xs.length _ (by omega) (by omega)]
   ·have aC:=fun code=>Ig (P:=P) w k h c code (by omega) (by omega);rcases i with⟨rfl,rfl⟩|⟨aO,k',rfl,d⟩
    ·simp[aB,aC]
    ·simp[aB,d,aC,Ig w k' l h.toNat _ (by omega) (by omega)]
  simp[Instr.sliceAt,Instr.slice,underlying,program,Sem.run,aH,aN,HG aI]
 refine(OF aJ rfl rfl p).mono ?_;rintro u w' ⟨rfl,rfl⟩;refine⟨⟨_,_,by rw[hlen],?_⟩,rfl⟩;have q:=(n.take h.toNat).drop l.toNat;have aD:((A5.take h.toNat).drop l.toNat).flatten=[]∨(0<e.sz∧l.toNat<h.toNat):=by
  rcases Nat.eq_zero_or_pos e.sz with h0|h0
  ·left;exact List.eq_nil_of_length_eq_zero (by rw[q.Iy,h0,Nat.mul_zero])
  ·rcases Nat.lt_or_ge l.toNat h.toNat with r|r
   ·exact .inr ⟨h0,r⟩
   ·left;exact List.eq_nil_of_length_eq_zero (by rw[q.Iy,List.length_drop,List.length_take,show min h.toNat xs.length-l.toNat=0 by omega,Nat.zero_mul])
 refine⟨by rw[hlen];omega,fun s=>?_,_,q,?_⟩
 ·split at s
  ·have:=m s;omega
  ·have:=m (by simpa using s);omega
 ·rcases aD with h0|⟨h0,r⟩
  ·exact .inl h0
  ·rcases aM with aP|⟨b,o,rfl,aQ,aE,f⟩
   ·left;have aF:=n.Iy;rw[aP] at aF;simp only[List.length_nil] at aF;have aW:0<xs.length*e.sz:=Nat.mul_pos (by omega) h0;omega
   ·right;have aG:¬c=l.toNat:=by omega
    refine⟨b,o+l.toNat*e.sz,by simp[aG,E5],aQ,aE,fun j u hu=>?_⟩;rw[Nat.add_assoc];refine f _ _ ?_;rw[←(n.take h.toNat).RX h0,List.getElem?_drop] at hu;have aR:A5.flatten=(A5.take h.toNat).flatten++(A5.drop h.toNat).flatten:=by rw[←List.flatten_append,List.take_append_drop]
    rw[aR,List.getElem?_append_left (List.getElem?_eq_some_iff.1 hu).1];exact hu
end
def Ki(n:Int)(b:Nat):Option Unit:=if 0≤n∧n*b≤140737488355328∧n≤140737488355328 then some () else none
theorem G9{α:Type}{n:Int}{b:Nat}{f:Unit→Option α}{r:α}(h:(Ki n b).bind f=some r):(0≤n∧n*b≤140737488355328∧n≤140737488355328)∧f ()=some r:=by
 unfold Ki at h;split at h
 ·exact⟨by assumption,h⟩
 ·cases h
theorem Kj(z:Array Value):∀m:Nat,(madeCells z (m*z.size)).toList=(List.replicate m z.toList).flatten
 |0=>by simp[madeCells]
 |m+1=>by
  have ih:=Kj z m;have e:∀k,(madeCells z k).toList=(List.range k).map (z[· %z.size]!):=fun k=>by simp[madeCells]
  rw[e] at ih⊢;rw[Nat.add_mul,Nat.one_mul,List.range_add,List.map_append,ih,List.replicate_succ',List.flatten_append]
  congr 1
  simp only[List.map_map,List.flatten_cons,List.flatten_nil,List.append_nil];refine List.ext_getElem (by simp) fun i b a=>?_;simp only[List.getElem_map,List.getElem_range,Function.comp];have hi:i<z.size:=by simpa using a
  rw[Nat.add_comm,Nat.add_mul_mod_self_right,Nat.mod_eq_of_lt hi];simp[hi]
theorem R2.VB{α:Type}{e:DA α}{w:World}{Z:Nat→Prop}{c:List Value}{x:α}(h:e.R w Z c x):∀m:Nat,R2 e w Z (List.replicate m c) (List.replicate m x)
 |0=>trivial
 |m+1=>⟨h,R2.VB h m⟩
section
variable{P:Program}{a:Act}{w:World}{dst:Option Tmp}{ty:TypeId}{pos:String}{BX:Array Edge}{g:Option (Nat×Bool)}
theorem HK{α:Type}{e:DA α}{z:α}{zc:List Value}{n0:Nat}{t j:TypeId}{d:Value}{sz bytes:Nat}{n:Int}{x y:Operand}{m o:IntKind}{b':Nat}(aB:P.underlying t=some (.slice j))(hi:(P.info? j).map (fun i=>(i.zero,i.size,i.bytes))=some (some d,sz,bytes))
  (p:d.cells.toList=zc)(c:e.sz=sz)(aC:a.eval x=.int m n)(aD:a.eval y=.int o n)(hm:0≤n∧n*b'≤140737488355328∧n≤140737488355328)(q:∀w Z,e.R w Z zc z)(aE:n0≤w.heap.size)(aJ:bytes≤b'):
  BT P ⟨dst,.makeSlice t x y,ty,pos,BX,g⟩ a w (fun u w'=>∃b,u=.slice (some ⟨b,0,none⟩) (List.replicate n.toNat z).length n.toNat∧w.heap.size≤b∧b<w'.heap.size∧Ext w w'∧∀Z,AA e j n0 w' Z (some ⟨b,0,none⟩) n.toNat (List.replicate n.toNat z)):=by
 subst p;subst c;cases f:P.info? j with
 |none=>simp[f] at hi
 |some i=>
  rw[f] at hi;simp only[Option.map_some,Option.some.injEq,Prod.mk.injEq] at hi;obtain⟨aF,r,aG⟩:=hi;obtain⟨s,aK,aL⟩:=hm;have v:d.cells.toList.length=e.sz:=e.len (q w ZA);have c:d.cells.size=e.sz:=by simpa using v
  have aA:(i.bytes:Int)*n≤281474976710656:=by
   rw[aG];have aH:(bytes:Int)*n≤(b':Int)*n:=Int.mul_le_mul_of_nonneg_right (by omega) s;rw[Int.mul_comm (b':Int)] at aH;omega
  have aI:=run_make (P:=P) w t j i d aB f aF m o n n s (Int.le_refl _) aA (by omega);refine(IM (S:=Instr.makeSlice t (a.eval x) (a.eval y)) rfl (by rw[aC,aD];exact aI)).mono fun u w' h=>?_;obtain⟨rfl,rfl⟩:=h;have l:=Ic w j (madeCells d.cells (n.toNat*i.size));refine⟨w.heap.size,by rw[List.length_replicate],Nat.le_refl _,by rw[l.sz];exact Nat.lt_succ_self _,l.gr,fun Z=>⟨_,R2.VB (q _ Z) n.toNat,?_⟩⟩;rw[List.length_replicate];have k:(List.replicate n.toNat d.cells.toList).flatten.length=n.toNat*e.sz:=by rw[←Kj,←c];simp[size_madeCells]
  refine⟨k,.inr ⟨w.heap.size,n.toNat,_,rfl,aE,l.bk,Nat.le_refl _,by simp only[maxLen];omega,by rw[size_madeCells,r],?_⟩⟩;rw[r,←c,Kj,List.take_of_length_le (by rw[k,c];exact Nat.le_refl _)]
end
def Kk:Int⊕Bool→Value
 |.inl n=>.int .i64 n
 |.inr b=>.bool b
def LG(l:List (Int⊕Bool)):Value:=.agg (l.map Kk).toArray
def K1:Int⊕Bool→Bool
 |.inl _=>true
 |.inr _=>false
def Hr:List (Int⊕Bool)→List (Int⊕Bool)→Bool
 |[],[]=>true
 |.inl a::l,.inl b::m=>a==b&&Hr l m
 |.inr a::l,.inr b::m=>a==b&&Hr l m
 |_,_=>false
def Re(P:Program)(t:TypeId)(a:List Bool):Prop:=∀(w:World) (x y:List (Int⊕Bool)),x.map K1=a→y.map K1=a→(Op.equal t (LG x) (LG y)).run P w=.ok (Hr x y) w
def Mc(a b:TypeId):Nat→List Field→List Bool→Bool
 |_,[],[]=>true
 |i,f::c,k::d=>f.name !="_"&&Nat.beq f.type (cond k a b)&&Nat.beq f.offset i&&Mc a b (i+1) c d
 |_,_,_=>false
section
variable{P:Program}{w:World}
theorem JF{e:TypeId}(he:One P e){cs:Array Value}{i:Nat}{v:Value}(h:cs[i]?=some v):(part e cs i).run P w=.ok v w:=by
 simp only[part,Sem.run_bind,I4 he,Result.andThen_ok,h];rfl
theorem MI{l o:TypeId}(v:One P l)(u1:P.underlying l=some (.int .i64))(z:One P o)(aA:P.underlying o=some .bool)(d:Nat):∀(p:List Field) (c:List Bool) (x y b e:List (Int⊕Bool)),b.length=e.length→Mc l o b.length p c=true→x.map K1=c→y.map K1=c→
  (Op.eqFields (d+1) ((b++x).map Kk).toArray ((e++y).map Kk).toArray p).run P w=.ok (Hr x y) w
 |[],[],[],[],_,_,_,_,_,_=>by simp[Op.eqFields,Hr]
 |[],_::_,_,_,_,_,_,h,_,_=>by simp[Mc] at h
 |_::_,[],_,_,_,_,_,h,_,_=>by simp[Mc] at h
 |[],[],_::_,_,_,_,_,_,h,_=>by simp at h
 |[],[],_,_::_,_,_,_,_,_,h=>by simp at h
 |_::_,_::_,[],_,_,_,_,_,h,_=>by simp at h
 |_::_,_::_,_,[],_,_,_,_,_,h=>by simp at h
 |f::p,k::c,g::x,i::y,b,e,aB,aC,r,s=>by
  simp only[Mc,Bool.and_eq_true] at aC;obtain⟨⟨⟨t,a⟩,u⟩,aF⟩:=aC;have t:f.name≠"_":=by simpa using t
  have a:=Nat.eq_of_beq_eq_true a;have u:=Nat.eq_of_beq_eq_true u;simp only[List.map_cons,List.cons.injEq] at r s;have ih:=MI v u1 z aA d p c x y (b++[g]) (e++[i]) (by simp[aB]) (by simpa using aF) r.2 s.2;rw[List.append_assoc,List.append_assoc] at ih;simp only[List.singleton_append] at ih;have aD:((b++g::x).map Kk).toArray[f.offset]?=some (Kk g):=by rw[u];simp
  have aE:((e++i::y).map Kk).toArray[f.offset]?=some (Kk i):=by rw[u,aB];simp
  cases k with
  |true=>
   cases g with
   |inr _=>simp[K1] at r
   |inl m=>
    cases i with
    |inr _=>simp[K1] at s
    |inl n=>
     have a:f.type=l:=a;have j:One P f.type:=by rw[a];exact v
     have q:=run_equalIn_int (P:=P) w d f.type .i64 .i64 m n (by rw[a];exact u1);simp only[Op.eqFields,t,ne_eq,not_false_eq_true,if_true,Sem.run_bind,JF j aD,JF j aE,Kk,q,Result.andThen_ok,Hr];cases aG:(m==n)
     ·simp
     ·simpa using ih
  |false=>
   cases g with
   |inl _=>simp[K1] at r
   |inr m=>
    cases i with
    |inl _=>simp[K1] at s
    |inr n=>
     have a:f.type=o:=a;have j:One P f.type:=by rw[a];exact z
     have q:=run_equalIn_bool (P:=P) w d f.type m n (by rw[a];exact aA);simp only[Op.eqFields,t,ne_eq,not_false_eq_true,if_true,Sem.run_bind,JF j aD,JF j aE,Kk,q,Result.andThen_ok,Hr];cases aG:(m==n)
     ·simp
     ·simpa using ih
theorem Ox{K c d:Nat}{a:Array Field}{e:List Bool}(hK:P.underlying K=some (.struct a))(f:P.stoodInHeld K=false)(g:Mc c d 0 a.toList e=true)(i:One P c)(u1:P.underlying c=some (.int .i64))(j:One P d)(l:P.underlying d=some .bool):Re P K e:=by
 intro w x y m n;have b:P.fieldsOf K=a:=by simp[Program.fieldsOf,hK]
 have h:=run_equalIn_struct (P:=P) w 9999 K (x.map Kk).toArray (y.map Kk).toArray (by rw[b];exact hK) f;have k:=MI (P:=P) (w:=w) i u1 j l 9998 a.toList e x y [] [] rfl g m n;simp only[List.nil_append] at k;rw[b,k] at h;exact h
end
section
variable{P:Program}{a:Act}{w:World}{dst:Option Tmp}{ty:TypeId}{pos:String}{BX:Array Edge}{g:Option (Nat×Bool)}
theorem Pw{x y:Operand}{v1 v2:Value}{x1 x2:List (Int⊕Bool)}{b:List Bool}{t d:TypeId}(e:Re P t b)(c:P.eqGuardType P.depth t=false)(f:a.eval x=v1)(h:a.eval y=v2)(i:v1=LG x1)(j:v2=LG x2)(k:x1.map K1=b)(l:x2.map K1=b):
  BT P ⟨dst,.binOp .eql t x y d,ty,pos,BX,g⟩ a w (fun u w'=>u=.bool (Hr x1 x2)∧w'=w):=by
 refine Po f h ?_;subst i;subst j;have m:=e w x1 x2 k l;have n:(eqGuard .eql t x y (LG x1) (LG x2)).run P w=.ok () w:=by
  simp[eqGuard,LG,program,Sem.run,c]
 simp only[Sem.run_bind,n,Result.andThen_ok];show(do pure (Value.bool (←Op.equal t (LG x1) (LG x2))):Sem Value).run P w=_;simp only[Sem.run_bind,m,Result.andThen_ok,Sem.run_pure]
theorem R3{x y:Operand}{p q:Option Addr}{t u:TypeId}{b:Bool}(c:a.eval x=.pointer p)(d:a.eval y=.pointer q)(e:(Op.equal t (.pointer p) (.pointer q)).run P w=.ok b w):BT P ⟨dst,.binOp .eql t x y u,ty,pos,BX,g⟩ a w (fun v w'=>v=.bool b∧w'=w):=
 Co (by simp[execOp,c,d,binOp,e,eqGuard])
theorem NA {α:Type} {e:DA α} {aA t:TypeId} {x y:Operand} {b o k p c:Nat} {v:Value} {n0:Nat} {Z:Nat→Prop} {A:Option Addr} {xs:List α} {z z':α} {l:List Value} {n:Nat}
  (aB:AA e aA n0 w Z A c xs) (aD:xs[k]?=some z) (aM:A=some ⟨b,o,none⟩) (aN:p=o+k*e.sz) (aO:a.eval x=.pointer (some ⟨b,p,none⟩)) (aP:a.eval y=v) (aQ:(P.info? t).map (·.size)=some n) (aR:v.cells.toList=l) (aS:l.length=n)
  (aT:∀u∈l,u.oneCell'=true) (aE:e.R w Z l z'):
  BT P ⟨dst,.store t x y,ty,pos,BX,g⟩ a w (fun _ w'=>w.grownBy w' (ob A)∧∃A5,R2 e w Z A5 (xs.set k z')∧Df w' n0 aA e.sz A (xs.set k z').length c A5.flatten):=by
 obtain⟨A5,f,aU⟩:=aB;obtain⟨a4,aY,aF,aZ⟩:=f.get aD;have a0:=e.len aF;have aG:=e.len aE;subst aM;subst aN;have aH:k<xs.length:=(List.getElem?_eq_some_iff.1 aD).1;have hlen:=f.len;have h:=f.lens;rcases aU.2 with⟨aI,h0⟩|⟨a5,cap,cur,aI,aJ,aV,q,aK,aC,i⟩
 ·omega
 ·cases aI;have a2:k*e.sz+e.sz≤xs.length*e.sz:=by
   have:(k+1)*e.sz≤xs.length*e.sz:=Nat.mul_le_mul_right _ aH;rw[Nat.add_mul,Nat.one_mul] at this;exact this
  have a3:xs.length*e.sz≤c*e.sz:=Nat.mul_le_mul_right _ q;have aL:Bk w b aA cur:=aV;refine(Be (B6:=setCells cur (0+k*e.sz) l) aO aP aQ aL aR aS (by omega) aT rfl).mono ?_;rintro _ w' ⟨s1,s2,aW⟩;have d:=f.set aE k;refine⟨aW,_,d,by rw[d.Iy],.inr ⟨b,c,setCells cur (0+k*e.sz) l,rfl,aJ,s2,by rw[List.length_set];exact q,aK,by rw[Es 0];exact aC,?_⟩⟩;rw[List.length_set];rcases Nat.eq_zero_or_pos e.sz with h0|h0
  ·have aX:(A5.set k l).flatten=[]:=List.eq_nil_of_length_eq_zero (by rw[d.Iy,h0,Nat.mul_zero]);rw[aX,h0,Nat.mul_zero,List.take_zero]
  ·refine List.ext_getElem? fun j=>?_;rw[Nx aG h0 k A5 j h (by omega),List.getElem?_take,Array.getElem?_toList,Gh _ _ _ _ (by omega)];have r:∀j:Nat,A5.flatten[j]?=if j<xs.length*e.sz then cur[j]? else none:=fun j=>by
    rw[←i,List.getElem?_take,Array.getElem?_toList]
   by_cases m:j<xs.length*e.sz
   ·rw[if_pos m]
    by_cases s:k*e.sz≤j∧j<k*e.sz+e.sz
    ·rw[if_pos (by omega),if_pos s,show j-(0+k*e.sz)=j-k*e.sz by omega]
    ·rw[if_neg (by omega),if_neg s,r,if_pos m]
   ·rw[if_neg m,if_neg (by omega),r,if_neg m]
theorem ED{α:Type}{e:DA α}{f t:TypeId}{x y:Operand}{b o k p c:Nat}{v:Value}{n0:Nat}{Z:Nat→Prop}{A:Option Addr}{xs:List α}{z z':α}{l:List Value}{n:Nat}
  (d:AA e f n0 w Z A c xs)(i:xs[k]?=some z)(j:A=some ⟨b,o,none⟩)(m:p=o+k)(q:a.eval x=.pointer (some ⟨b,p,none⟩))(r:a.eval y=v)(s:(P.info? t).map (·.size)=some n)(aA:v.cells.toList=l)(aB:l.length=n)
  (aC:∀u∈l,u.oneCell'=true)(aD:e.R w Z l z')(h:e.sz=1:=by rfl):
  BT P ⟨dst,.store t x y,ty,pos,BX,g⟩ a w (fun _ w'=>w.grownBy w' (ob A)∧∃A5,R2 e w Z A5 (xs.set k z')∧Df w' n0 f e.sz A (xs.set k z').length c A5.flatten):=
 NA d i j (by rw[h,Nat.mul_one];exact m) q r s aA aB aC aD
end
theorem Kl{l:List Int}{i:Nat}{x:Int}(h:l[i]?=some x):(l.map fun n=>Value.int .i64 n)[i]?=some (.int .i64 x):=by rw[List.getElem?_map,h];rfl
theorem AA.U8 {α:Type} {e:DA α} {t:TypeId} {n0:Nat} {w:World} {Z:Nat→Prop} {A:Option Addr} {c k:Nat} {xs:List α} {x:α} (h:AA e t n0 w Z A c xs) (h0:0<e.sz) (f:xs[k]?=some x):
  ∃b o cs,A=some ⟨b,o,none⟩∧e.R w Z cs x∧Rz w ZA (some ⟨b,o+k*e.sz,none⟩) cs:=by
 obtain⟨A5,g,i⟩:=h;have q:Sl e w ZA A c xs:=AA.all (t:=t) (n0:=n0) (Z:=Z) ⟨A5,g,i⟩;obtain⟨b,o,B6,l,y,aB⟩:=q.elem h0 f;obtain⟨m,z,a,n⟩:=g.get f;refine⟨b,o,m,l,a,?_⟩;have hlen:m.length=e.sz:=e.len a;have r:=i.rd;rcases r.2 with s|⟨b',o',d,_,p,v⟩
 ·have:=g.Iy;rw[s] at this;have aA:k<xs.length:=(List.getElem?_eq_some_iff.1 f).1;have aC:0<xs.length*e.sz:=Nat.mul_pos (by omega) h0;simp at this;omega
 ·rw[l] at d;cases d;refine .inr ⟨b,_,rfl,trivial,p,fun j u hu=>?_⟩;rw[Nat.add_assoc];refine v _ _ ?_;rw[←n,List.getElem?_take] at hu;split at hu
  ·simpa using hu
  ·cases hu
theorem AA.FY{α:Type}{e:DA α}{t:TypeId}{n0:Nat}{w:World}{Z:Nat→Prop}{A:Option Addr}{c k:Nat}{xs:List α}{x:α}(h:AA e t n0 w Z A c xs)(d:e.sz=1)(f:xs[k]?=some x):
  ∃b o cs,A=some ⟨b,o,none⟩∧e.R w Z cs x∧Rz w ZA (some ⟨b,o+k,none⟩) cs:=by
 obtain⟨b,o,cs,g,i,a⟩:=h.U8 (by omega) f;rw[d,Nat.mul_one] at a;exact⟨b,o,cs,g,i,a⟩
def TC(w:World)(D:Nat→Prop)(M:World→Prop):Nat→World→Prop
 |0,w'=>Ext w w'
 |_+1,w'=>Bg D w w'∧M w'
section
variable{w w' Bj:World}{D:Nat→Prop}{M:World→Prop}{ph:Nat}
theorem FJ(h:TC w D M ph w'):Bg D w w':=by
 cases ph with
 |zero=>exact Gf h
 |succ=>exact h.1
theorem BG(h:TC w D M ph w')(a:ph=0):Ext w w':=by subst a;exact h
theorem Hs(c:∀a b,M a→Ext a b→M b)(h:TC w D M ph w')(g:Ext w' Bj):TC w D M ph Bj:=by
 cases ph with
 |zero=>exact Ext.trans h g
 |succ=>exact⟨(show Bg D w w' from h.1).trans (Gf g),c _ _ h.2 g⟩
theorem Ih(h:TC w D M ph w')(a:ph=0)(g:Bg D w' Bj)(b:M Bj):TC w D M (ph+1) Bj:=by
 subst a;exact⟨(Gf h).trans g,b⟩
theorem Io{r:Option Nat}(g:w.grownBy w' r):Bg (FU FN [r]) w w':=Iz g fun k e=>.inr (by rw[e];exact List.mem_singleton_self _)
end
section
variable{F F':Nat→Prop}{B:List (Option Nat)}{w0 w w':World}{L M:List (Option Nat)}
theorem Hp.Px{Z:Nat→Prop}{a:Nat}(h:Hp F B w0 L w)(c:w.heap.size≤a):Mv w' (ZZ FN [] FN a []) w' (ZZ F B Z w0.heap.size L):=F8 fun b d _=>by
 rcases d with⟨_,e,_⟩|⟨f,_⟩
 ·exact e.elim
 ·refine .inr ⟨Nat.le_trans h.sz (Nat.le_trans c f),fun hm=>?_⟩;have:=(h.lo b hm).1;omega
theorem Hp.R4{α:Type}{e:DA α}{t:TypeId}{A:Option Addr}{c:Nat}{xs:List α}{Z Z':Nat→Prop}(h:Hp F B w0 L w)(b:∀w Z w' Z' cs x,e.R w Z cs x→e.R w' Z' cs x)(a:AA e t w.heap.size w' Z' A c xs):AA e t w0.heap.size w' Z A c xs:=
 AA.M3 b (a.base (n1:=w0.heap.size) fun k d=>Nat.le_trans h.sz (a.ge k d))
theorem Hp.LH{α:Type}{e:DA α}{t:TypeId}{A:Option Addr}{c:Nat}{xs:List α}{Z a:Nat→Prop}(h:Hp F B w0 L w)(b:∀w Z w' Z' cs x,e.R w Z cs x→e.R w' Z' cs x)(d:AA e t w.heap.size w' a A c xs):Sl e w' (ZZ F B Z w0.heap.size L) A c xs:=
 (AA.M3 b d).sl fun k _ h0=>h.kn h0
theorem Hp.Md (h:Hp F B w0 L w) (f:Hp F B w0 L w') {b:Nat} (p:w.heap.size≤b) (l:b<w'.heap.size):Hp F B w0 (some b::L) w':=by
 refine⟨f.ch,fun k a=>?_,?_,h.ff⟩
 ·rcases List.mem_cons.1 a with e|a
  ·cases e;exact⟨l,fun m=>absurd (h.ff _ m) (by have:=h.sz;omega),fun n=>absurd n (by have:=h.sz;omega)⟩
  ·exact f.lo k a
 ·have key:∀(j:Nat) (x:Nat),L[j]?=some (some x)→x≠b:=fun j x o e=>by
   have:=(h.lo x (List.mem_of_getElem? o)).1;omega
  intro i j x g hi c;cases i with
  |zero=>
   cases j with
   |zero=>exact g rfl
   |succ j=>
    have d:b=x:=by simpa using hi
    exact key j x (by simpa using c) d.symm
  |succ i=>
   cases j with
   |zero=>
    have d:b=x:=by simpa using c
    exact key i x (by simpa using hi) d.symm
   |succ j=>exact h.ap i j x (by omega) (by simpa using hi) (by simpa using c)
theorem FE{Z:Nat→Prop}{n0:Nat}{b:Nat}(hm:Mv w (ZZ F B Z n0 L) w' (ZZ F B Z n0 L))(h:w.heap.size≤b):Mv w (ZZ F B Z n0 L) w' (ZZ F B Z n0 (some b::L)):=
 ⟨hm.size,fun k c d=>⟨(hm.stay k c d).1.imp id fun⟨f,g⟩=>⟨f,fun a=>by
  rcases List.mem_cons.1 a with e|a
  ·cases e;omega
  ·exact g a⟩,(hm.stay k c d).2⟩⟩
end
def Py (w:World) (R:World→Value→World→Prop):JY Ext:=
 ⟨fun v a=>∃w1 w2,Ext w w1∧R w1 v w2∧Ext w2 a,fun _ _ _ ⟨w1,w2,b,c,d⟩ g=>⟨w1,w2,b,c,Ext.trans d g⟩⟩
def IU(w:World)(R:World→Value→World→Prop)(a:World):Prop:=∃v w1 w2,Ext w w1∧R w1 v w2∧Ext w2 a
theorem Hg{w:World}{R:World→Value→World→Prop}:∀a b,IU w R a→Ext a b→IU w R b:=fun _ _ ⟨v,w1,w2,c,d,e⟩ g=>⟨v,w1,w2,c,d,Ext.trans e g⟩
def LI(_:World):Prop:=True
theorem Km:∀a b,LI a→Ext a b→LI b:=fun _ _ _ _=>trivial
def GQ(n:Nat)(w:World):List Nat→Prop
 |[]=>True
 |b::l=>n≤b∧b<w.heap.size∧(l.all fun x=> !Nat.beq b x)=true∧GQ n w l
section
variable{F F':Nat→Prop}{B:List (Option Nat)}{w0 w w':World}{L M:List (Option Nat)}{Z:Nat→Prop}
theorem GQ.mem{n:Nat}:∀{l:List Nat},GQ n w l→∀b∈l,n≤b∧b<w.heap.size
 |[],_,_,h=>by cases h
 |x::l,h,b,a=>by
  rcases List.mem_cons.1 a with rfl|a
  ·exact⟨h.1,h.2.1⟩
  ·exact GQ.mem h.2.2.2 b a
theorem GQ.grow{n a:Nat}(b:a≤n)(c:w.heap.size≤w'.heap.size):∀{l:List Nat},GQ n w l→GQ a w' l
 |[],_=>trivial
 |_::_,h=>⟨Nat.le_trans b h.1,Nat.lt_of_lt_of_le h.2.1 c,h.2.2.1,GQ.grow b c h.2.2.2⟩
theorem Hp.NB(h:Hp F B w0 L w):∀{l:List Nat},Hp F B w0 L w'→GQ w.heap.size w' l→Hp F B w0 (l.map some++L) w'
 |[],c,_=>c
 |b::l,c,a=>by
  have d:=Hp.NB h c a.2.2.2;refine⟨d.ch,fun k f=>?_,?_,h.ff⟩
  ·rcases List.mem_cons.1 f with e|f
   ·cases e;exact⟨a.2.1,fun p=>absurd (h.ff _ p) (by have:=h.sz;have:=a.1;omega),fun n=>absurd n (by have:=h.sz;have:=a.1;omega)⟩
   ·exact d.lo k f
  ·have key:∀(j:Nat) (x:Nat),(l.map some++L)[j]?=some (some x)→x≠b:=fun j x q e=>by
    subst e;have hm:=List.mem_of_getElem? q;rcases List.mem_append.1 hm with hm|hm
    ·obtain⟨y,r,e⟩:=List.mem_map.1 hm;cases e;have:=List.all_eq_true.1 a.2.2.1 x r;rw[Nat.beq_refl] at this;cases this
    ·have:=(h.lo x hm).1;have:=a.1;omega
   intro i j x o hi g;cases i with
   |zero=>
    cases j with
    |zero=>exact o rfl
    |succ j=>
     have m:b=x:=by simpa using hi
     exact key j x (by simpa using g) m.symm
   |succ i=>
    cases j with
    |zero=>
     have m:b=x:=by simpa using g
     exact key i x (by simpa using hi) m.symm
    |succ j=>exact d.ap i j x (by omega) (by simpa using hi) (by simpa using g)
theorem Hp.Me(h:Hp F B w0 L w)(g:Ext w w'){l:List Nat}(a:GQ w.heap.size w' l):Hp F B w0 (l.map some++L) w':=h.NB (h.ext g) a
theorem EM{n0:Nat}{l:List Nat}(hm:Mv w (ZZ F B Z n0 L) w' (ZZ F B Z n0 L))(d:GQ w.heap.size w' l):Mv w (ZZ F B Z n0 L) w' (ZZ F B Z n0 (l.map some++L)):=
 ⟨hm.size,fun k c b=>⟨(hm.stay k c b).1.imp id fun⟨f,g⟩=>⟨f,fun a=>by
  rcases List.mem_append.1 a with a|a
  ·obtain⟨y,h,e⟩:=List.mem_map.1 a;cases e;have:=(d.mem k h).1;omega
  ·exact g a⟩,(hm.stay k c b).2⟩⟩
theorem Pz{b c:Nat}(f:w.heap.size≤b)(a:b<w'.heap.size)(g:w.heap.size≤c)(d:c<w'.heap.size)(e:b≠c):GQ w.heap.size w' [b,c]:=
 ⟨f,a,by
  have:Nat.beq b c=false:=by
   cases h:Nat.beq b c with
   |false=>rfl
   |true=>exact absurd (Nat.eq_of_beq_eq_true h) e
  simp[this],g,d,rfl,trivial⟩
theorem Hp.Rf (h:Hp F B w0 L w):∀(l:List Nat) (c:List Nat),F7 L c (l.map some)→Jf c=true→(∀b∈l,w0.heap.size≤b)→GQ w0.heap.size w l
 |[],_,_,_,_=>trivial
 |b::l,[],a,_,_=>a.elim
 |b::l,j::c,a,e,d=>by
  simp only[Jf,Bool.and_eq_true] at e;refine⟨d b (List.mem_cons_self ..),(h.lo b (List.mem_of_getElem? a.1)).1,?_,h.Rf l c a.2 e.2 fun x f=>d x (List.mem_cons_of_mem _ f)⟩;rw[List.all_eq_true];intro x f;cases i:Nat.beq b x with
  |false=>rfl
  |true=>
   have g:=Nat.eq_of_beq_eq_true i;subst g;have k:=h.BA (F':=FN) j a.1 c e.1 a.2 (fun _ h=>h.elim);exact absurd (.inr (List.mem_map.2 ⟨b,f,rfl⟩)) k
end
section
variable{P:Program}{N:Nat}{Q:Exit→Act→World→Prop}{a:Act}{l:Env}{w:World}
def Mf(a:Act):Act:={a with defers:=[]}
theorem Ko(a:Act):∀l:Env,BQ (Mf a) l=Mf (BQ a l)
 |[]=>rfl
 |(d,v)::l=>by simp only[BQ,Ko a l];rfl
theorem LJ{D:Nat}{fn:Func}{R:Value→World→Prop}(c:w.heap[D]?=some (.deferred (some [])))(h:∀w',Gs D w w'→LV X0 N (bodyPost P fn (fun e w'=>∃v,e=.returned v∧R v w')) .ret (Mf a) l w'):
  LV (X1 D) N (PM P fn R) .ret a l w:=fun s=>by
 have d:St X0 N (Mf a) l:=⟨s.sz,rfl,s.lt⟩;obtain⟨_,v,b,f⟩:=h _ (Gv w D (.deferred none)) d;show LeavesInM Fence.wide 0 P fn _ _ (BQ a l).defers .returning w;rw[Dp,show a.defers=mark D from s.df];refine⟨by simp,.inl ⟨D,_,rfl,run_takeDeferred c,?_⟩⟩;rw[Ko] at b;exact⟨v,b,f⟩
theorem OI{D:Nat}{fn:Func}{R:Value→World→Prop}(c:w.heap[D]?=some (.deferred (some [])))(h:∀w',Gs D w w'→LV X0 N (bodyPost P fn (fun e w'=>∃v,e=.returned v∧R v w')) .normal (Mf a) l w'):
  LV (X1 D) N (PM P fn R) .normal a l w:=fun s=>by
 have d:St X0 N (Mf a) l:=⟨s.sz,rfl,s.lt⟩;obtain⟨_,v,b,f⟩:=h _ (Gv w D (.deferred none)) d;show LeavesInM Fence.wide 0 P fn _ _ (BQ a l).defers .returning w;rw[Dp,show a.defers=mark D from s.df];refine⟨by simp,.inl ⟨D,_,rfl,run_takeDeferred c,?_⟩⟩;rw[Ko] at b;exact⟨v,b,f⟩
end
theorem OJ{α:Type}{b:Bool}{x:Option α}{r:α}(h:cond b none x=some r):b=false∧x=some r:=by
 cases b with
 |true=>cases h
 |false=>exact⟨rfl,h⟩
def C8(xs:List Int):List Int:=xs.mergeSort fun x y=>decide (x≤y)
theorem IB(xs:List Int):(C8 xs).length=xs.length:=List.length_mergeSort _
theorem P8{w:World}{Z:Nat→Prop}:∀{A5:List (List Value)} {xs:List Int},R2 (Aw .i64) w Z A5 xs→A5.flatten=Cd xs
 |[],[],_=>rfl
 |c::A5,x::xs,h=>by
  have a:c=[.int .i64 x]:=h.1;rw[List.flatten_cons,P8 h.2,a];rfl
 |[],_::_,h=>h.elim
 |_::_,[],h=>h.elim
theorem P9{w:World}{Z:Nat→Prop}:∀xs:List Int,R2 (Aw .i64) w Z (xs.map fun x=>[.int .i64 x]) xs
 |[]=>trivial
 |_::xs=>⟨rfl,P9 xs⟩
theorem Rg(xs:List Int):(xs.map fun x=>[Value.int .i64 x]).flatten=Cd xs:=by
 induction xs with
 |nil=>rfl
 |cons x xs ih=>rw[List.map_cons,List.flatten_cons,ih];rfl
theorem PA{t:TypeId}{n0:Nat}{w:World}{Z:Nat→Prop}{A:Option Addr}{c:Nat}{xs:List Int}(h:AA (Aw .i64) t n0 w Z A c xs):Df w n0 t 1 A xs.length c (Cd xs):=by
 obtain⟨A5,a,b⟩:=h;rw[←P8 a];exact b
theorem KK{t:TypeId}{n0:Nat}{w:World}{Z:Nat→Prop}{A:Option Addr}{c:Nat}{xs:List Int}(h:Df w n0 t 1 A xs.length c (Cd xs)):AA (Aw .i64) t n0 w Z A c xs:=
 ⟨_,P9 xs,by rw[Rg];exact h⟩
theorem U9{α β:Type}{x:Option β}{f:α→Option β}{r:β}(h:Option.elim none x f=some r):x=some r:=h
theorem Va{α β:Type}{a:α}{x:Option β}{f:α→Option β}{r:β}(h:Option.elim (some a) x f=some r):f a=some r:=h
theorem JG{F:Nat→Prop}{b:Nat}{L:List (Option Nat)}(h:¬F b∧some b∉L):¬F b∧some b∉L++[none]:=⟨h.1,fun hm=>by
 rcases List.mem_append.1 hm with a|a
 ·exact h.2 a
 ·simp at a⟩
theorem Bg.OK{F:Nat→Prop}{C:List (Option Nat)}{o:Option Nat}{w w':World}(g:Bg (FU F (C++[o]++[none])) w w'):Bg (FU (FU F C) [o]) w w':=g.mono fun k h=>by
 rcases h with h|h
 ·exact .inl (.inl h)
 ·rcases List.mem_append.1 h with a|a
  ·rcases List.mem_append.1 a with b|b
   ·exact .inl (.inr b)
   ·exact .inr b
  ·simp at a
theorem Sl.R5{α β:Type}{e:DA α}{ev:β→Value}{F:Nat→Prop}{B L:List (Option Nat)}{Z:Nat→Prop}{n0 r n:Nat}{w:World}{i:List (List Int×β)}{A:Option Addr}{c:Nat}{xs:List α}
  (j:∀w Z w' Z' cs x,e.R w Z cs x→e.R w' Z' cs x)(hm:Cg ev w r n i)(h:Sl e w (ZZ F B Z n0 L) A c xs):Sl e w (ZZ F B Z n0 (some r::L)) A c xs:=by
 obtain⟨k,m,A5,p,d⟩:=h;refine⟨k,m,A5,p.free j,?_⟩;rcases d with d|⟨b,o,q,s,t,f⟩
 ·exact .inl d
 ·cases g:A5.flatten with
  |nil=>exact .inl rfl
  |cons u l=>
   rw[g] at f;refine .inr ⟨b,o,q,s.imp id fun⟨v,y⟩=>⟨v,fun a=>?_⟩,t,f⟩;rcases List.mem_cons.1 a with e|a
   ·cases e;obtain⟨es,aA,z,_⟩:=hm;have:=f 0 u rfl;unfold World.cell? at this;simp[z] at this
   ·exact y a
section
variable{P:Program}{N:Nat}{a:Act}{l:Env}{w:World}
theorem Ha{fn:Func}{r1 r2 n:ResultVar}{v v' I2:Value}{R:Value→World→Prop}(g:fn.results= #[r1,r2,n])(x:Nu P a l w r1 v)(q:Nu P a l w r2 v')(i:Nu P a l w n I2)(h:R (.tuple #[v,v',I2]) w):
  LV X0 N (bodyPost P fn (fun e w'=>∃v,e=.returned v∧R v w')) .ret a l w:=fun s=>by
 refine bodyPost_ret (v:=.tuple #[v,v',I2]) ?_ (by rw[Dp,s.df]) ⟨_,rfl,h⟩;cases r1 with
 |tmp t0=>
  have d:(BQ a l).tmps.getD t0 undef=v:=ee s x;simp only[Array.getD_eq_getD_getElem?] at d;cases r2 with
  |tmp t1=>
   have c:(BQ a l).tmps.getD t1 undef=v':=ee s q;simp only[Array.getD_eq_getD_getElem?] at c;cases n with
   |tmp t2=>
    have b:(BQ a l).tmps.getD t2 undef=I2:=ee s i;simp only[Array.getD_eq_getD_getElem?] at b;simp[results,g,d,c,b]
   |cell j t2=>
    obtain⟨f,k,m⟩:=i;have b:(BQ a l).tmps.getD j undef=.pointer (some f):=ee s k;simp only[Array.getD_eq_getD_getElem?] at b;simp[results,g,d,c,b,asAddr,m]
  |cell t t1=>
   obtain⟨o,u,p⟩:=q;have c:(BQ a l).tmps.getD t undef=.pointer (some o):=ee s u;simp only[Array.getD_eq_getD_getElem?] at c;cases n with
   |tmp t2=>
    have b:(BQ a l).tmps.getD t2 undef=I2:=ee s i;simp only[Array.getD_eq_getD_getElem?] at b;simp[results,g,d,c,asAddr,p,b]
   |cell j t2=>
    obtain⟨f,k,m⟩:=i;have b:(BQ a l).tmps.getD j undef=.pointer (some f):=ee s k;simp only[Array.getD_eq_getD_getElem?] at b;simp[results,g,d,c,asAddr,p,b,asAddr,m]
 |cell z t0=>
  obtain⟨y,aA,r⟩:=x;have d:(BQ a l).tmps.getD z undef=.pointer (some y):=ee s aA;simp only[Array.getD_eq_getD_getElem?] at d;cases r2 with
  |tmp t1=>
   have c:(BQ a l).tmps.getD t1 undef=v':=ee s q;simp only[Array.getD_eq_getD_getElem?] at c;cases n with
   |tmp t2=>
    have b:(BQ a l).tmps.getD t2 undef=I2:=ee s i;simp only[Array.getD_eq_getD_getElem?] at b;simp[results,g,d,asAddr,r,c,b]
   |cell j t2=>
    obtain⟨f,k,m⟩:=i;have b:(BQ a l).tmps.getD j undef=.pointer (some f):=ee s k;simp only[Array.getD_eq_getD_getElem?] at b;simp[results,g,d,asAddr,r,c,b,asAddr,m]
  |cell t t1=>
   obtain⟨o,u,p⟩:=q;have c:(BQ a l).tmps.getD t undef=.pointer (some o):=ee s u;simp only[Array.getD_eq_getD_getElem?] at c;cases n with
   |tmp t2=>
    have b:(BQ a l).tmps.getD t2 undef=I2:=ee s i;simp only[Array.getD_eq_getD_getElem?] at b;simp[results,g,d,asAddr,r,c,asAddr,p,b]
   |cell j t2=>
    obtain⟨f,k,m⟩:=i;have b:(BQ a l).tmps.getD j undef=.pointer (some f):=ee s k;simp only[Array.getD_eq_getD_getElem?] at b;simp[results,g,d,asAddr,r,c,asAddr,p,b,asAddr,m]
end
theorem TW{w w':World}{Z Z' Q:Nat→Prop}(h:Mv w Z w' Z'):Mv w (fun b=>Z b∧Q b) w' (fun b=>Z' b∧Q b):=⟨h.size,fun b a c=>⟨⟨(h.stay b a.1 c).1,a.2⟩,(h.stay b a.1 c).2⟩⟩
def eF(n:Nat):DA (Bool×List Int):=
 ⟨1,fun w Z cs x=>∃A c,cs=[.slice A x.2.length c]∧Sl (Aw .i64) w (fun b=>Z b∧(x.1=true→n≤b)) A c x.2,fun⟨_,_,h,_⟩=>by rw[h];rfl,fun⟨_,_,h,_⟩=>by rw[h];simp[Value.oneCell'],
  fun⟨A,c,a,d⟩ g=>⟨A,c,a,d.mv (TW g)⟩⟩
theorem TX{n:Nat}{w:World}{Z:Nat→Prop}:∀{A5:List (List Value)} {xs:List (List Int)},R2 (By (Aw .i64)) w Z A5 xs→R2 (eF n) w Z A5 (xs.map fun x=>(false,x))
 |[],[],_=>trivial
 |_::_,_::_,⟨⟨A,c,a,b⟩,h⟩=>⟨⟨A,c,a,b.mv (F8 fun _ d _=>⟨d,fun e=>by cases e⟩)⟩,TX h⟩
 |[],_::_,h=>h.elim
 |_::_,[],h=>h.elim
theorem TY{n:Nat}{w:World}{Z:Nat→Prop}:∀{A5:List (List Value)} {xs:List (Bool×List Int)},(∀y∈xs,y.1=true)→R2 (eF n) w Z A5 xs→R2 (By (Aw .i64)) w (fun b=>n≤b) A5 (xs.map Prod.snd)
 |[],[],_,_=>trivial
 |_::_,x::_,a,⟨⟨A,c,d,e⟩,h⟩=>⟨⟨A,c,d,e.mv (F8 fun _ f _=>f.2 (a x (List.mem_cons_self ..)))⟩,TY (fun y g=>a y (List.mem_cons_of_mem _ g)) h⟩
 |[],_::_,_,h=>h.elim
 |_::_,[],_,h=>h.elim
theorem Vb{t n0 n:Nat}{w:World}{Z:Nat→Prop}{A:Option Addr}{c:Nat}{xs:List (List Int)}(h:AA (By (Aw .i64)) t n0 w Z A c xs):AA (eF n) t n0 w Z A c (xs.map fun x=>(false,x)):=by
 obtain⟨A5,a,b⟩:=h;exact⟨A5,TX a,by rw[List.length_map];exact b⟩
theorem Vc{t n0 n:Nat}{w:World}{Z:Nat→Prop}{A:Option Addr}{c:Nat}{xs:List (Bool×List Int)}(a:∀y∈xs,y.1=true)(h:AA (eF n) t n0 w Z A c xs):AA (By (Aw .i64)) t n0 w (fun b=>n≤b) A c (xs.map Prod.snd):=by
 obtain⟨A5,d,e⟩:=h;exact⟨A5,TY a d,by rw[List.length_map];exact e⟩
theorem TZ{a:List (Bool×List Int)}{k:Nat}{x:List Int}(h:(a.map Prod.snd)[k]?=some x):∃b,a[k]?=some (b,x):=by
 rw[List.getElem?_map] at h;cases c:a[k]? with
 |none=>rw[c] at h;cases h
 |some y=>rw[c] at h;cases h;exact⟨y.1,rfl⟩
end Go.Proofs.YtamobliaoknclaaGreat
end
section
namespace Go.Proofs.YtamobliaoknclaaGreat
open Go.RowKit
theorem GI{b:Nat}{t:TypeId}:∀(l:List Value) (o:Nat) {w:World} {cs:Array Value},Bk w b t cs→Bk (w.setCells b o l) b t (setCells cs o l)∧w.grownBy (w.setCells b o l) (some b)
 |[],o,w,cs,h=>⟨h,World.grownBy.refl w _⟩
 |v::l,o,w,cs,h=>by
  have c:Bk (w.setCell ⟨b,o,none⟩ v) b t (cs.setIfInBounds o v):=by
   unfold Bk at h⊢;simp[World.setCell,Array.getElem?_modify,h]
  have g1:Gs b w (w.setCell ⟨b,o,none⟩ v):=⟨rfl,rfl,rfl,by simp,fun k _ a=>Below.heap_setCell w ⟨b,o,none⟩ v k (by simpa using a)⟩;have ih:=GI l (o+1) c;exact⟨ih.1,World.grownBy.trans g1 ih.2⟩
def CK (xs:List Int) (i:Int) (x:Int):List Int:=xs.take i.toNat++x::xs.drop i.toNat
theorem K2(xs:List Int)(i:Int)(x:Int):(CK xs i x).length=xs.length+1:=by
 unfold CK;simp;omega
theorem Rh{w w':World}{b:Nat}{o:Obj}(a:b=w.heap.size)(g:World.grownBy (w.alloc o) w' (some b)):Ext w w':=
 ⟨g.os,g.tape,g.output,by have:=g.size;simp at this;omega,fun k c _=>by
  have d:=g.block k (by simp;omega) (by rw[a];intro e;cases e;omega);rw[d];exact(World.grownBy_alloc w o none).block k c (by simp)⟩
theorem Ii{w:World}{base t g c:Nat}{cur:Array Value}{l:List Value}(a:base≤g)(d:Bk w g t cur)(e:l.length≤c)(f:c≤maxLen)(i:cur.size=c)(h:∀j,j<l.length→cur[j]?=l[j]?):Df w base t 1 (some ⟨g,0,none⟩) l.length c l:=by
 refine⟨by simp,.inr ⟨g,c,cur,rfl,a,d,e,f,by simp[i],?_⟩⟩;rw[Nat.mul_one];apply List.ext_getElem?;intro j;rw[List.getElem?_take];split
 ·rename_i b
  rw[←h j b];simp
 ·rename_i b
  rw[List.getElem?_eq_none (by omega)]
theorem JH{b:Bool}(h:b=false)(k:b=true):False:=by rw[h] at k;cases k
section
variable{F F':Nat→Prop}{B:List (Option Nat)}{w0 w w' Bj:World}{Z:Nat→Prop}{L M:List (Option Nat)}
theorem HL(h:Ext w w'){r:Option Nat}(g:w'.grownBy Bj r)(b:∀k,r=some k→w.heap.size≤k):Ext w Bj:=
 ⟨g.os.trans h.os,g.tape.trans h.tape,g.output.trans h.output,Nat.le_trans h.size g.size,fun k a _=>(g.block k (Nat.lt_of_lt_of_le a h.size) (fun e=>by have:=b k e.symm;omega)).trans (h.block k a (by simp))⟩
theorem FR{x y:Option Nat}{n:Nat}(a:∀k,x=some k→n≤k)(b:n≤w'.heap.size)(c:∀k,y=some k→(x=some k∨w'.heap.size≤k)∧k<Bj.heap.size):∀k,y=some k→n≤k:=fun k d=>
 (c k d).1.elim (a k) (fun h=>Nat.le_trans b h)
theorem Kp{b:Nat}{t:TypeId}{cs:Array Value}(nb:I3 w' Bj b t cs):∀k,ob (some ⟨b,0,none⟩)=some k→((none:Option Nat)=some k∨w'.heap.size≤k)∧k<Bj.heap.size:=fun k e=>by
 cases e;exact⟨.inr (Nat.le_of_eq nb.Eg.symm),nb.bk.lt⟩
theorem T0{α:Type}{e:DA α}{t:TypeId}{A:Option Addr}{c:Nat}{xs:List α}{Z:Nat→Prop}(h:AA e t w'.heap.size Bj Z A c xs):∀k,ob A=some k→((none:Option Nat)=some k∨w'.heap.size≤k)∧k<Bj.heap.size:=fun k e=>⟨.inr (h.ge k e),h.HE k e⟩
end
def eT:DA (Bool×(Option Addr×Nat)×List Int):=
 ⟨1,fun w Z cs x=>∃A c,cs=[.slice A x.2.2.length c]∧(x.1=true→A=x.2.1.1∧c=x.2.1.2)∧(x.1=false→Sl (Aw .i64) w Z A c x.2.2),fun⟨_,_,h,_⟩=>by rw[h];rfl,fun⟨_,_,h,_⟩=>by rw[h];simp[Value.oneCell'],
  fun⟨A,c,a,b,d⟩ g=>⟨A,c,a,b,fun e=>(d e).mv g⟩⟩
theorem T1{w:World}{Z:Nat→Prop}:∀{A5:List (List Value)} {xs:List (List Int)},R2 (By (Aw .i64)) w Z A5 xs→R2 eT w Z A5 (xs.map fun x=>(false,(none,0),x))
 |[],[],_=>trivial
 |_::_,_::_,⟨⟨A,c,a,b⟩,h⟩=>⟨⟨A,c,a,fun e=>(by cases e),fun _=>b⟩,T1 h⟩
 |[],_::_,h=>h.elim
 |_::_,[],h=>h.elim
theorem T3{w:World}{Z:Nat→Prop}:∀{A5:List (List Value)} {xs:List (Bool×(Option Addr×Nat)×List Int)},(∀y∈xs,y.1=true→Sl (Aw .i64) w Z y.2.1.1 y.2.1.2 y.2.2)→R2 eT w Z A5 xs→R2 (By (Aw .i64)) w Z A5 (xs.map fun y=>y.2.2)
  |[],[],_,_=>trivial
  |_::_,x::_,b,⟨⟨A,c,d,e,f⟩,h⟩=>⟨by
      cases a:x.1 with
      |true=>
        obtain⟨rfl,rfl⟩:=e a;exact⟨_,_,d,b x (List.mem_cons_self ..) a⟩
      |false=>exact⟨A,c,d,f a⟩,T3 (fun y g=>b y (List.mem_cons_of_mem _ g)) h⟩
  |[],_::_,_,h=>h.elim
  |_::_,[],_,h=>h.elim
theorem Vd{t n0:Nat}{w:World}{Z:Nat→Prop}{A:Option Addr}{c:Nat}{xs:List (List Int)}(h:AA (By (Aw .i64)) t n0 w Z A c xs):AA eT t n0 w Z A c (xs.map fun x=>(false,(none,0),x)):=by
 obtain⟨A5,a,b⟩:=h;exact⟨A5,T1 a,by rw[List.length_map];exact b⟩
theorem R6{t n0:Nat}{w:World}{Z:Nat→Prop}{A:Option Addr}{c:Nat}{xs:List (Bool×(Option Addr×Nat)×List Int)}(a:∀y∈xs,y.1=true→Sl (Aw .i64) w Z y.2.1.1 y.2.1.2 y.2.2)(h:AA eT t n0 w Z A c xs):AA (By (Aw .i64)) t n0 w Z A c (xs.map fun y=>y.2.2):=by
 obtain⟨A5,b,d⟩:=h;exact⟨A5,T3 a b,by rw[List.length_map];exact d⟩
def I6 (N i:Int):Nat→Int→List (List Int)→Option (List (List Int))
  |0,_,_=>none
  |a+1,k,s=>cond (decide (k<N)) (cond (k !=i) ((idx s (0:Int)).bind fun x=>(Ff (((x.length+([k]:List Int).length:Nat):Int)≤140737488355328/8)).bind fun _=>(idx s (0:Int)).bind fun _=>(i64 (k+1)).bind fun _=>I6 N i a (k+1) (s.set 0 (x++[k])))
      ((i64 (k+1)).bind fun _=>I6 N i a (k+1) s)) (some s)
theorem qz{X:Ctx}{N:Nat}{a:Act}{l:Env}(st:St X N a l):(BQ a l).tmps.size=N:=(H3 _ _).trans st.sz
theorem qd{X:Ctx}{N:Nat}{a:Act}{l:Env}(st:St X N a l):(BQ a l).defers=X.ds:=(Dp _ _).trans st.df
theorem sp{X:Ctx}{N:Nat}{a:Act}{l:Env}(st:St X N a l)(k:Nat){v:Value}(h:lk (sl a k) l k=v):sl (BQ a l) k=v:=(Bc st k).trans h
theorem Hp.nb{F:Nat→Prop}{B L:List (Option Nat)}{w0 w w':World}{b:Nat}{t:TypeId}{cs:Array Value}(h:Hp F B w0 L w)(n:I3 w w' b t cs):Hp F B w0 (some b::L) w':=h.new n.gr (Nat.le_of_eq n.Eg.symm) (Nat.lt_of_lt_of_eq (Nat.lt_succ_self _) n.sz.symm)
theorem Hp.BJ{F:Nat→Prop}{B L:List (Option Nat)}{w0 w w':World}{b:Nat}{t:TypeId}{cs:Array Value}(h:Hp F B w0 L w)(n:I3 w w' b t cs):w0.heap.size≤b:=by rw[n.Eg];exact h.sz
theorem Av{F:Nat→Prop}{B L:List (Option Nat)}{Z:Nat→Prop}{w w':World}{n0 b:Nat}{t:TypeId}{cs:Array Value}(n:I3 w w' b t cs):Mv w (ZZ F B Z n0 L) w' (ZZ F B Z n0 (some b::L)):=D2 n.gr (Nat.le_of_eq n.Eg.symm)
theorem X2{b c:Sort _}{p:b→c→Prop}{C:Prop}(h:∃a x1,p a x1)(k:∀a x1,p a x1→C):C:=h.elim fun a h=>h.elim fun x1 h=>k a x1 h
theorem X3{b c d:Sort _}{p:b→c→d→Prop}{C:Prop}(h:∃a x1 x2,p a x1 x2)(k:∀a x1 x2,p a x1 x2→C):C:=h.elim fun a h=>h.elim fun x1 h=>h.elim fun x2 h=>k a x1 x2 h
theorem X4{c d e f:Sort _}{p:c→d→e→f→Prop}{C:Prop}(h:∃a x1 x2 b,p a x1 x2 b)(k:∀a x1 x2 b,p a x1 x2 b→C):C:=h.elim fun a h=>h.elim fun x1 h=>h.elim fun x2 h=>h.elim fun b h=>k a x1 x2 b h
theorem Y2{a0 a1 r C:Prop}(h:a0∧a1∧r)(k:a0→a1→r→C):C:=h.elim fun a h=>h.elim fun x1 h=>k a x1 h
theorem Y3{a0 a1 a2 r C:Prop}(h:a0∧a1∧a2∧r)(k:a0→a1→a2→r→C):C:=h.elim fun a h=>h.elim fun x1 h=>h.elim fun x2 h=>k a x1 x2 h
theorem Y4{a0 a1 a2 a3 r C:Prop}(h:a0∧a1∧a2∧a3∧r)(k:a0→a1→a2→a3→r→C):C:=h.elim fun a h=>h.elim fun x1 h=>h.elim fun x2 h=>h.elim fun b h=>k a x1 x2 b h
theorem Y8{a0 a1 a2 a3 a4 a5 a6 a7 r C:Prop}(h:a0∧a1∧a2∧a3∧a4∧a5∧a6∧a7∧r)(k:a0→a1→a2→a3→a4→a5→a6→a7→r→C):C:=h.elim fun a h=>h.elim fun x1 h=>h.elim fun x2 h=>h.elim fun b h=>h.elim fun c h=>h.elim fun d h=>h.elim fun e h=>h.elim fun f h=>k a x1 x2 b c d e f h
theorem Df.cut{w:World}{base e sz n c k:Nat}{A:Option Addr}{xs:List Value}(h:Df w base e sz A n c xs)(f:k≤n):Df w base e sz A k c (xs.take (k*sz)):=by
 have o:=h.1;have hle:k*sz≤n*sz:=Nat.mul_le_mul_right _ f;refine⟨by rw[List.length_take];omega,?_⟩;rcases h.2 with⟨a,h0⟩|⟨g,cap,cur,a,i,j,m,b,d,l⟩
 ·have:k=0:=by omega
  subst this;subst h0;cases a;exact .inl ⟨rfl,rfl⟩
 ·cases a;refine .inr ⟨g,c,cur,rfl,i,j,by omega,b,d,?_⟩;rw[←l,List.take_take,Nat.min_eq_left hle]
section
variable{α:Type}{e:DA α}{t:TypeId}{n0:Nat}{w w':World}{Z Z':Nat→Prop}{A:Option Addr}{c:Nat}{xs:List α}
theorem R2.R7:∀(k:Nat) {A5:List (List Value)} {xs:List α},R2 e w Z A5 xs→k≤xs.length→A5.flatten.take (k*e.sz)=(A5.take k).flatten
 |0,_,_,_,_=>by simp
 |k+1,[],[],_,a=>by simp at a
 |k+1,[],_::_,h,_=>by cases h
 |k+1,_::_,[],h,_=>by cases h
 |k+1,cs::A5,x::xs,h,a=>by
  have b:cs.length=e.sz:=e.len h.1;have ih:=R2.R7 k h.2 (by simpa using a);rw[List.flatten_cons,List.take_succ_cons,List.flatten_cons,←ih,Nat.succ_mul,Nat.add_comm,List.take_append,b,List.take_of_length_le (by omega)]
  congr 2
  omega
theorem AA.cut(h:AA e t n0 w Z A c xs){k:Nat}(a:k≤xs.length):AA e t n0 w Z A c (xs.take k):=by
 obtain⟨A5,b,d⟩:=h;refine⟨A5.take k,b.take k,?_⟩;have f:=d.cut a;rw[R2.R7 k b a] at f
 rwa[List.length_take,Nat.min_eq_left a]
end
section
variable{P:Program}{a:Act}{w:World}{dst:Option Tmp}{ty:TypeId}{pos:String}{BX:Array Edge}{g:Option (Nat×Bool)}
theorem Qa {α:Type} {e:DA α} {n0:Nat} {Z:Nat→Prop} {xs:List α} {t b:TypeId} {sz:Nat} {x y:Operand} {A:Option Addr} {c:Nat} {k:IntKind} {h:Int} (i:P.underlying t=some (.slice b)) (j:(P.info? b).map (·.size)=some sz)
  (l:a.eval x=.slice A xs.length c) (m:a.eval y=.int k h) (n:AA e b n0 w Z A c xs) (o:0≤(0:Int)∧(0:Int)≤h∧h≤(xs.length:Int)):
  BT P ⟨dst,.slice t x none (some y) none,ty,pos,BX,g⟩ a w (fun u w'=>u=.slice A (Bq xs 0 h).length c∧w'=w):=by
 obtain⟨_,p,v⟩:=o;have z:xs.length≤c:=by
  obtain⟨A5,_,q⟩:=n;rcases q.2 with⟨d,h0⟩|⟨g,cap,cur,d,_,_,f,_⟩
  ·omega
  ·cases d;exact f
 have aA:c=0→A=none∨A.map (·.add 0)=A:=fun _=>by
  cases A with
  |none=>exact .inl rfl
  |some ad=>right;simp[Addr.add]
 have s:A.map (·.add (0*sz))=A:=by
  cases A with
  |none=>rfl
  |some ad=>simp[Addr.add]
 have hlen:(Bq xs 0 h).length=h.toNat:=by
  unfold Bq;rw[List.length_drop,List.length_take];show min h.toNat xs.length-0=_;omega
 have r:(Instr.sliceBounds true xs.length c none (some (.int k h)) none).run P w=.ok (0,h.toNat,c) w:=by
  unfold Instr.sliceBounds;simp[Ig (P:=P) w k h c _ p (by omega)]
 refine OF l rfl (by simp[m];rfl) ?_;rw[hlen];simp[Instr.sliceAt,Instr.slice,underlying,program,Sem.run,i,r,HG j];intro _;cases A with
 |none=>rfl
 |some ad=>simp[Addr.add]
end
theorem AA.Bq{α:Type}{e:DA α}{t:TypeId}{n0:Nat}{w:World}{Z:Nat→Prop}{A:Option Addr}{c:Nat}{xs:List α}{k:Int}(h:AA e t n0 w Z A c xs)(a:0≤(0:Int)∧(0:Int)≤k∧k≤(xs.length:Int)):AA e t n0 w Z A c (Bq xs 0 k):=by
 unfold Go.Proofs.YtamobliaoknclaaGreat.Bq;exact h.cut (by omega)
section
variable{P:Program}{X:Ctx}{N:Nat}{ops:Array Oper}{Q:Exit→Act→World→Prop}{rest:List Oper}{a:Act}{l:Env}{w:World}{op:Op}{ty:TypeId}{pos:String}{BX:Array Edge}{d j dj:Nat}{b c x:Bool}
abbrev Fo(X:Ctx)(N:Nat)(a:Act):Prop:=a.tmps.size=N∧a.defers=X.ds
theorem ro{c:Code}(b:Fo X N a)(h:CC P X N c Q a [] w):CW P X.ro c Q a w:=BZ b.1 b.2 h
theorem lf{e:Exit}(b:Fo X N a)(h:LV X N Q e a [] w):Q e a w:=Cm b.1 b.2 h
end
theorem gm{α:Type}{L:List α}{x:α}(i:Nat)(h:L[i]?=some x:=by exact rfl):x∈L:=List.mem_of_getElem? h
theorem hw{L:List (Option Nat)}{o o':Option Nat}{n:Nat}{p:Nat→Prop}(a:∀k,o'=some k→(o=some k∨n≤k)∧p k)(i:Nat)(h:L[i]?=some o:=by exact rfl):∀k,o'=some k→some k∈L∨n≤k:=fun k b=>(a k b).1.imp (fun e=>by rw[←e];exact gm i h) id
end Go.Proofs.YtamobliaoknclaaGreat
end
section
namespace Go.Proofs.YtamobliaoknclaaGreat
open Go.RowKit Go.WideShapes
def GR {α:Type} (ev:α→Value) (w:World) (r n:Nat) (L:List (List Int×α)):Prop:=
 ∃es clock,w.heap[r]?=some (.map es clock)∧es.toList.map (fun e=>(e.key,e.val))=L.map (fun p=>(Value.int .i64 (p.1.headD 0),ev p.2))∧∀p∈L,p.1.length=n∧n=1
section
variable{α:Type}{ev:α→Value}{D:Nat→Prop}{w w':World}{r n b:Nat}{L:List (List Int×α)}
theorem GR.lt(h:GR ev w r n L):r<w.heap.size:=by obtain⟨es,c,h,_⟩:=h;exact lt_of_block h
theorem GR.of(h:GR ev w r n L)(e:w'.heap[r]?=w.heap[r]?):GR ev w' r n L:=by
 obtain⟨es,c,a,b⟩:=h;exact⟨es,c,e.trans a,b⟩
theorem GR.ext(h:GR ev w r n L)(g:Ext w w'):GR ev w' r n L:=h.of (g.block r h.lt (by simp))
theorem GR.gr{x:Option Nat}(h:GR ev w r n L)(g:w.grownBy w' x)(a:some r≠x):GR ev w' r n L:=h.of (g.block r h.lt a)
theorem GR.BC(h:GR ev w r n L)(g:Bg D w w')(a:¬D r):GR ev w' r n L:=h.of (g.block r h.lt a)
theorem GR.Fu(h:GR ev w r n L)(e:w'.heap[r]?=w.heap[r]?):GR ev w' r n L:=h.of e
end
def VC(b:Bool):Int:=cond b 1 0
def T4(k:List Int):Value:=.agg #[.int .i64 (k.getD 0 0),.bool (k.getD 1 0==1)]
theorem Ve(n:Int)(b:Bool):T4 [n,VC b]=.agg #[.int .i64 n,.bool b]:=by cases b<;>rfl
def VD(k:List Int):Prop:=∃n b,k=[n,VC b]
def Gx{α:Type}(ev:α→Value)(w:World)(r n:Nat)(L:List (List Int×α)):Prop:=
 ∃es clock,w.heap[r]?=some (.map es clock)∧es.toList.map (fun e=>(e.key,e.val))=L.map (fun p=>(T4 p.1,ev p.2))∧∀p∈L,VD p.1∧n=2
section
variable{α:Type}{ev:α→Value}{D:Nat→Prop}{w w':World}{r n b:Nat}{L:List (List Int×α)}
theorem Gx.lt(h:Gx ev w r n L):r<w.heap.size:=by obtain⟨es,c,h,_⟩:=h;exact lt_of_block h
theorem Gx.of(h:Gx ev w r n L)(e:w'.heap[r]?=w.heap[r]?):Gx ev w' r n L:=by
 obtain⟨es,c,a,b⟩:=h;exact⟨es,c,e.trans a,b⟩
theorem Gx.ext(h:Gx ev w r n L)(g:Ext w w'):Gx ev w' r n L:=h.of (g.block r h.lt (by simp))
theorem Gx.gr{x:Option Nat}(h:Gx ev w r n L)(g:w.grownBy w' x)(a:some r≠x):Gx ev w' r n L:=h.of (g.block r h.lt a)
theorem Gx.BC(h:Gx ev w r n L)(g:Bg D w w')(a:¬D r):Gx ev w' r n L:=h.of (g.block r h.lt a)
theorem Gx.Fu(h:Gx ev w r n L)(e:w'.heap[r]?=w.heap[r]?):Gx ev w' r n L:=h.of e
end
section
variable{α:Type}{ev:α→Value}{z:α}{P:Program}{a:Act}{w:World}{dst:Option Tmp}{ty:TypeId}{pos:String}{BX:Array Edge}{g:Option (Nat×Bool)}{K E T r n:Nat}{L:List (List Int×α)}{k:List Int}
def R8(P:Program)(K:TypeId):Prop:=∀(w:World) (em:Bool) (n:Int) (b:Bool),(Instr.checkKey em 10000 K (.agg #[.int .i64 n,.bool b])).run P w=.ok () w
theorem R8.wf(h:R8 P K)(a:VD k)(em:Bool):(Instr.checkKey em 10000 K (T4 k)).run P w=.ok () w:=by
 obtain⟨n,b,rfl⟩:=a;rw[Ve];exact h w em n b
end
structure CN where
 Lo:Int
 Hi:Int
structure Aq where
 On:Int
 Bm:Int
 AR:Bool
structure AP where
 Ax:Int
 AI:Int
 AR:Int
 B5:Int
 Cj:Int
structure Ao where
 Ak:Int
 Ag:Int
 An:Int
 Au:Int
 Ac:List AP
structure AZ where
 Comes:List Int
 An:List Bool
structure Cr where
 BF:Int
 BS:Int
 B8:Int
 B9:Int
 AW:List AP
 C9:List Bool
 known:List (List Int×Aq)
structure Ht where
 Ch:Int
 day:Int
structure BK where
 a0:Int
 a1:Int
 a2:Int
 a3:Int
def BK.set(x:BK)(k:Nat)(v:Int):BK:=⟨if k=0 then v else x.a0,if k=1 then v else x.a1,if k=2 then v else x.a2,if k=3 then v else x.a3⟩
def BK.l(x:BK):List Int:=[x.a0,x.a1,x.a2,x.a3]
theorem BK.T5(x:BK)(k:Nat)(v:Int)(h:k<4): #[.int .i64 (x.set k v).a0,.int .i64 (x.set k v).a1,.int .i64 (x.set k v).a2,.int .i64 (x.set k v).a3]=setCells #[.int .i64 x.a0,.int .i64 x.a1,.int .i64 x.a2,.int .i64 x.a3] k [.int .i64 v]:=by
 match k,h with
 |0,_=>rfl
 |1,_=>rfl
 |2,_=>rfl
 |3,_=>rfl
 |k+4,h=>omega
structure Qb where
 Week:Int
 Qc:Int
 Qd:Int
structure Lf where
 LK:Int
 Hu:List CN
 IV:List Int
 Ij:List Int
 HU:List Int
 LL:Int
 LM:Int
 LN:Int
 HV:List Qb
 known:List (List Int×Int)
structure IC where
 a0:Int
 a1:Int
 a2:Int
 a3:Int
 a4:Int
 a5:Int
 a6:Int
 a7:Int
 a8:Int
 a9:Int
def IC.set(x:IC)(k:Nat)(v:Int):IC:=⟨if k=0 then v else x.a0,if k=1 then v else x.a1,if k=2 then v else x.a2,if k=3 then v else x.a3,if k=4 then v else x.a4,if k=5 then v else x.a5,if k=6 then v else x.a6,if k=7 then v else x.a7,if k=8 then v else x.a8,if k=9 then v else x.a9⟩
def IC.l(x:IC):List Int:=[x.a0,x.a1,x.a2,x.a3,x.a4,x.a5,x.a6,x.a7,x.a8,x.a9]
theorem IC.T5(x:IC)(k:Nat)(v:Int)(h:k<10): #[.int .i64 (x.set k v).a0,.int .i64 (x.set k v).a1,.int .i64 (x.set k v).a2,.int .i64 (x.set k v).a3,.int .i64 (x.set k v).a4,.int .i64 (x.set k v).a5,.int .i64 (x.set k v).a6,.int .i64 (x.set k v).a7,.int .i64 (x.set k v).a8,.int .i64 (x.set k v).a9]=setCells #[.int .i64 x.a0,.int .i64 x.a1,.int .i64 x.a2,.int .i64 x.a3,.int .i64 x.a4,.int .i64 x.a5,.int .i64 x.a6,.int .i64 x.a7,.int .i64 x.a8,.int .i64 x.a9] k [.int .i64 v]:=by
 match k,h with
 |0,_=>rfl
 |1,_=>rfl
 |2,_=>rfl
 |3,_=>rfl
 |4,_=>rfl
 |5,_=>rfl
 |6,_=>rfl
 |7,_=>rfl
 |8,_=>rfl
 |9,_=>rfl
 |k+10,h=>omega
def Cs:DA Aq:=⟨3,fun _ _ cs x=>cs=[.int .i64 x.On,.int .i64 x.Bm,.bool x.AR],fun h=>by rw[h];rfl,fun h=>by rw[h];simp[Value.oneCell'],fun h _=>h⟩
def AH:DA AP:=⟨5,fun _ _ cs x=>cs=[.int .i64 x.Ax,.int .i64 x.AI,.int .i64 x.AR,.int .i64 x.B5,.int .i64 x.Cj],fun h=>by rw[h];rfl,fun h=>by rw[h];simp[Value.oneCell'],fun h _=>h⟩
def ID:DA Ao:=⟨5,fun w Z cs x=>∃a b,cs=[.int .i64 x.Ak,.int .i64 x.Ag,.int .i64 x.An,.int .i64 x.Au,.slice a x.Ac.length b]∧Sl AH w Z a b x.Ac,fun⟨_,_,h,_⟩=>by rw[h];rfl,fun⟨_,_,h,_⟩=>by rw[h];simp[Value.oneCell'],fun⟨a,b,h,c⟩ g=>⟨a,b,h,c.mv g⟩⟩
def Gj:DA AZ:=⟨2,fun w Z cs x=>∃a b c d,cs=[.slice a x.Comes.length b,.slice c x.An.length d]∧Sl (Aw .i64) w Z a b x.Comes∧Sl BB w Z c d x.An,fun⟨_,_,_,_,h,_⟩=>by rw[h];rfl,fun⟨_,_,_,_,h,_⟩=>by rw[h];simp[Value.oneCell'],fun⟨a,b,c,d,h,h0,e⟩ g=>⟨a,b,c,d,h,h0.mv g,e.mv g⟩⟩
def KL:DA CN:=⟨2,fun _ _ cs x=>cs=[.int .i64 x.Lo,.int .i64 x.Hi],fun h=>by rw[h];rfl,fun h=>by rw[h];simp[Value.oneCell'],fun h _=>h⟩
def Vf:DA BK:=⟨4,fun _ _ cs x=>cs=[.int .i64 x.a0,.int .i64 x.a1,.int .i64 x.a2,.int .i64 x.a3],fun h=>by rw[h];rfl,fun h=>by rw[h];simp[Value.oneCell'],fun h _=>h⟩
def Qe:DA Qb:=⟨3,fun _ _ cs x=>cs=[.int .i64 x.Week,.int .i64 x.Qc,.int .i64 x.Qd],fun h=>by rw[h];rfl,fun h=>by rw[h];simp[Value.oneCell'],fun h _=>h⟩
def LO(w:World)(Z:Nat→Prop)(q:Nat)(o:Option Nat):Option Cr→Prop
 |none=>Bk w q 170 #[.pointer none]∧o=none
 |some x=>∃(b r:Nat) (a:Option Addr) (c:Nat) (d:Option Addr) (e:Nat),Bk w q 170 #[pt b 0]∧Rz w Z (some ⟨b,0,none⟩) [I x.BF,I x.BS,I x.B8,I x.B9,.slice a x.AW.length c,.slice d x.C9.length e,.map (some r)]∧Sl AH w Z a c x.AW∧Sl BB w Z d e x.C9∧Cg (fun x:Aq=>.agg #[I x.On,I x.Bm,.bool x.AR]) w r 2 x.known∧o=some r
theorem LO.keep{w w':World}{Z Z':Nat→Prop}{q:Nat}{o:Option Nat}:∀{x:Option Cr},LO w Z q o x→Mv w Z w' Z'→w'.heap[q]?=w.heap[q]?→(∀k,o=some k→w'.heap[k]?=w.heap[k]?)→LO w' Z' q o x
 |none,h,_,a,_=>⟨h.1.Fu a,h.2⟩
 |some x,⟨b,r,e,f,g,i,j,l,h0,m,hm,d⟩,c,a,n=>⟨b,r,e,f,g,i,j.Fu a,l.mv c,h0.mv c,m.mv c,hm.Fu (n r d),d⟩
def LP(n:Nat)(w:World)(Z:Nat→Prop)(p:Value):Option Lf→Prop
 |none=>p=.pointer none
 |some x=>∃(b r:Nat) (a:Option Addr) (c:Nat) (d:Option Addr) (e:Nat) (f:Option Addr) (g:Nat) (h:Option Addr) (i:Nat) (j:Option Addr) (k:Nat),p=pt b 0∧GQ n w [b,r]∧Bk w b 97 #[I x.LK,.slice a x.Hu.length c,.slice d x.IV.length e,.slice f x.Ij.length g,.slice h x.HU.length i,I x.LL,I x.LM,I x.LN,.slice j x.HV.length k,.map (some r)]∧Gx (fun x:Int=>I x) w r 2 x.known∧Sl KL w (ZZ FN [] Z n [some b,some r]) a c x.Hu∧Sl (Aw .i64) w (ZZ FN [] Z n [some b,some r]) d e x.IV∧Sl (Aw .i64) w (ZZ FN [] Z n [some b,some r]) f g x.Ij∧Sl (Aw .i64) w (ZZ FN [] Z n [some b,some r]) h i x.HU∧Sl Qe w (ZZ FN [] Z n [some b,some r]) j k x.HV
theorem LP.cases{n:Nat}{w:World}{Z:Nat→Prop}{p:Value}:∀{o:Option Lf},LP n w Z p o→(o=none∧p=.pointer none)∨(∃x,o=some x∧∃(b r:Nat) (a:Option Addr) (c:Nat) (d:Option Addr) (e:Nat) (f:Option Addr) (g:Nat) (i:Option Addr) (j:Nat) (k:Option Addr) (l:Nat),p=pt b 0∧GQ n w [b,r]∧Bk w b 97 #[I x.LK,.slice a x.Hu.length c,.slice d x.IV.length e,.slice f x.Ij.length g,.slice i x.HU.length j,I x.LL,I x.LM,I x.LN,.slice k x.HV.length l,.map (some r)]∧Gx (fun x:Int=>I x) w r 2 x.known∧Sl KL w (ZZ FN [] Z n [some b,some r]) a c x.Hu∧Sl (Aw .i64) w (ZZ FN [] Z n [some b,some r]) d e x.IV∧Sl (Aw .i64) w (ZZ FN [] Z n [some b,some r]) f g x.Ij∧Sl (Aw .i64) w (ZZ FN [] Z n [some b,some r]) i j x.HU∧Sl Qe w (ZZ FN [] Z n [some b,some r]) k l x.HV)
 |none,h=>.inl ⟨rfl,h⟩
 |some x,h=>.inr ⟨x,rfl,h⟩
theorem LP.ext{n:Nat}{w w':World}{Z:Nat→Prop}{p:Value}:∀{o:Option Lf},LP n w Z p o→Ext w w'→LP n w' Z p o
 |none,h,_=>h
 |some x,⟨b,r,a,c,d,f,i,j,k,l,m,q,e,s,t,hm,u,s1,s2,v,y⟩,g=>⟨b,r,a,c,d,f,i,j,k,l,m,q,e,s.grow (Nat.le_refl _) g.size,t.ext g,hm.ext g,u.mv (Aj g),s1.mv (Aj g),s2.mv (Aj g),v.mv (Aj g),y.mv (Aj g)⟩
def D9(d:Nat)(a:Int)(b:Int)(c:Int):Option (Bool):=
 cond (decide (b≤a)) (some (decide (a≤c))) (some (false))
def ES(b:Nat)(a:CN):Option (Int):=
 (i64 (a.Hi-a.Lo)).bind fun _=>(i64 ((a.Hi-a.Lo)+1)).bind fun _=>some ((a.Hi-a.Lo)+1)
def GO(c:Nat)(a:CN)(b:Int):Option (Bool):=
 cond (decide ((0:Int)≤a.Lo)) (cond (decide (a.Lo≤a.Hi)) (some (decide (a.Hi≤b))) (some (false))) (some (false))
def GD(a:Nat)(b:Int):Option (Bool):=
 (D9 a b 1 5).bind fun r1=>some (r1)
def DP(d:Nat)(a:Int)(b:Int)(c:Int):Option (Bool):=
 cond (decide (b≤a)) (some (decide (a≤c))) (some (false))
def Fh(b:Nat)(a:CN):Option (Int):=
 (i64 (a.Hi-a.Lo)).bind fun _=>(i64 ((a.Hi-a.Lo)+1)).bind fun _=>some ((a.Hi-a.Lo)+1)
def Eh(c:Nat)(b:Int)(a:Int):Option (Bool):=
 (LD .u64 a).bind fun _=>(Nw b a).bind fun _=>(rem (E9 b a) (2:Int)).bind fun _=>some (((E9 b a)%2)==1)
def EE(d:Nat)(a:Int)(b:Int)(c:Bool):Option (Aq):=
 some ((⟨a,b,c⟩:Aq))
def Fv(b:Nat)(a:Ao)(c:Int):Option (Bool):=
 (i64 ((a.Ac.length:Int)-1)).bind fun _=>(D9 b c 0 ((a.Ac.length:Int)-1)).bind fun d=>some (d)
def Dc(c:Nat)(b:AP)(a:Aq):Option (Bool):=
 cond (a.AR) (some (decide (a.Bm≤b.Cj))) (some (false))
def D4(a:Nat)(b:AP)(c:Aq):Option (Bool):=
 (Dc a b c).bind fun d=>some (!d)
def Cp(e:Nat)(c:Ao)(f:Int)(b:Int):Nat→Bool→Int→Option (Bool)
 |0,_,_=>none
 |g+1,d,a=>(i64 (b+c.Au)).bind fun _=>cond (decide (a≤(b+c.Au))) (cond (d) (cond (decide (a≤c.Ak)) ((Eh e f a).bind fun h=>(i64 (a+1)).bind fun _=>Cp e c f b g h (a+1)) ((i64 (a+1)).bind fun _=>Cp e c f b g false (a+1))) ((i64 (a+1)).bind fun _=>Cp e c f b g false (a+1))) (some (d))
def Ci(e:Nat)(d:Ao)(f:Int)(b:Int):Nat→Bool→Int→Option (Bool)
 |0,_,_=>none
 |g+1,c,a=>(i64 (b+d.Au)).bind fun _=>cond (decide (a≤(b+d.Au))) (cond (c) (cond (decide (a≤d.Ak)) ((Eh e f a).bind fun h=>(i64 (a+1)).bind fun _=>Ci e d f b g h (a+1)) ((i64 (a+1)).bind fun _=>Ci e d f b g false (a+1))) ((i64 (a+1)).bind fun _=>Ci e d f b g false (a+1))) (some (c))
def Cz(c:Nat)(d:Ao)(e:Int):Nat→Int→Int→Option ((Bool)⊕(Int))
 |0,_,_=>none
 |f+1,b,a=>cond (decide (a≤d.Ak)) ((Eh c e a).bind fun g=>cond (g) ((i64 (b+1)).bind fun _=>(Cp c d e a c true a).bind fun h=>cond (h) (some (.inl false)) ((i64 (a+1)).bind fun _=>Cz c d e f (b+1) (a+1))) ((Ci c d e a c true a).bind fun z20=>cond (z20) (some (.inl false)) ((i64 (a+1)).bind fun _=>Cz c d e f b (a+1)))) (some (.inr b))
def Ee(b:Nat)(c:Ao)(d:Int):Option (Bool):=
 (Cz b c d b (0:Int) (0:Int)).bind fun z=>Sum.elim (fun a=>some (a)) (fun a=>some (decide (a≤c.An))) z
def CG(d:Nat)(c:Ao):Nat→(List Int)→Int→Option ((List Int))
 |0,_,_=>none
 |e+1,b,a=>(i64 (c.Ak+1)).bind fun _=>(LD .u64 (c.Ak+1)).bind fun _=>(L9 (1:Int) (c.Ak+1)).bind fun _=>cond (decide (a<(G8 (1:Int) (c.Ak+1)))) ((Ee d c a).bind fun f=>cond (f) ((Ff (((b.length+[a].length:Nat):Int)≤140737488355328/8)).bind fun _=>(i64 (a+1)).bind fun _=>CG d c e (b++[a]) (a+1)) ((i64 (a+1)).bind fun _=>CG d c e b (a+1))) (some (b))
def Eo(a:Nat)(b:Ao):Option ((List Int)):=
 (CG a b a ([]:List Int) (0:Int)).bind fun z2=>some (z2)
def DC(d:Nat)(c:Ao):Nat→Int→Int→Option (Int)
 |0,_,_=>none
 |g+1,b,a=>cond (decide (a<(c.Ac.length:Int))) ((idx c.Ac a).bind fun e=>(Fh d (⟨e.Ax,e.AI⟩:CN)).bind fun f=>(i64 (b*f)).bind fun _=>(i64 (a+1)).bind fun _=>DC d c g (min (3000:Int) (b*f)) (a+1)) (some (b))
def DJ(a:Nat)(b:Ao):Option (Int):=
 (Eo a b).bind fun r2=>(DC a b a (r2.length:Int) (0:Int)).bind fun z4=>some (z4)
def Dg(d:Nat)(c:Ao):Nat→Int→Option ((Int)⊕(Unit))
 |0,_=>none
 |h+1,a=>cond (decide (a<(c.Ac.length:Int))) ((idx c.Ac a).bind fun b=>cond (decide (b.Ax<0)) (some (.inl (1:Int))) (cond (decide (b.AI<b.Ax)) (some (.inl (1:Int))) (cond (decide (c.Ak<b.AI)) (some (.inl (1:Int))) ((DP d b.AR 1 5).bind fun e=>cond (!e) (some (.inl (1:Int))) ((DP d b.B5 1 5).bind fun f=>cond (!f) (some (.inl (1:Int))) ((DP d b.Cj 0 c.Ak).bind fun g=>cond (!g) (some (.inl (1:Int))) ((i64 (a+1)).bind fun _=>Dg d c h (a+1)))))))) (some (.inr ()))
def Ek(b:Nat)(a:Ao):Option (Int):=
 cond (decide ((9:Int)<a.Ak)) (some (3)) (cond (decide ((2:Int)<a.Ag)) (some (3)) (cond (decide ((4:Int)<(a.Ac.length:Int))) (some (3)) (cond (decide (a.Ak<0)) (some (1)) (cond (decide (a.Ag<1)) (some (1)) ((i64 (a.Ak+1)).bind fun _=>(DP b a.An 0 (a.Ak+1)).bind fun f=>cond (!f) (some (1)) ((i64 (a.Ak+1)).bind fun _=>(DP b a.Au 0 (a.Ak+1)).bind fun d=>cond (!d) (some (1)) ((Dg b a b (0:Int)).bind fun z=>Sum.elim (fun c=>some (c)) (fun c=>(DJ b a).bind fun e=>cond (decide ((1000:Int)<e)) (some (3)) (some (0))) z)))))))
def EN(b:Nat)(c:Ao)(a:AP):Option (Bool):=
 (GO b (⟨a.Ax,a.AI⟩:CN) c.Ak).bind fun e=>cond (e) ((GD b a.AR).bind fun f=>cond (f) ((GD b a.B5).bind fun g=>cond (g) ((D9 b a.Cj 0 c.Ak).bind fun d=>some (d)) (some (false))) (some (false))) (some (false))
def DD(b:List Int)(c:List Int):Nat→Int→Option ((Bool)⊕(Unit))
 |0,_=>none
 |d+1,a=>cond (decide (a<(b.length:Int))) ((idx b a).bind fun e=>(idx c a).bind fun f=>cond (e !=f) (some (.inl false)) ((i64 (a+1)).bind fun _=>DD b c d (a+1))) (some (.inr ()))
def Fi(d:Nat)(b:List Int)(c:List Int):Option (Bool):=
 cond ((b.length:Int) !=(c.length:Int)) (some (false)) ((DD b c d (0:Int)).bind fun z=>Sum.elim (fun a=>some (a)) (fun a=>some (true)) z)
def CA(b:Nat)(a:Int):Option (Ao):=
 some ((⟨5,1,a,1,[(⟨0,0,2,2,2⟩:AP),(⟨1,1,2,1,5⟩:AP)]⟩:Ao))
def F9(b:Nat)(a:Int):Option (AZ):=
 (Ki (6:Int) 1).bind fun _=>(idx (List.replicate (6:Int).toNat false) a).bind fun c=>some ((⟨[0,1],(List.replicate (6:Int).toNat false).set a.toNat true⟩:AZ))
def Ga(f:Nat)(a:List Aq)(b:Aq)(c:Aq):Option (Bool):=
 cond ((a.length:Int)==2) ((idx a (0:Int)).bind fun d=>cond (Hr [.inl d.On,.inl d.Bm,.inr d.AR] [.inl b.On,.inl b.Bm,.inr b.AR]) ((idx a (1:Int)).bind fun e=>some (Hr [.inl e.On,.inl e.Bm,.inr e.AR] [.inl c.On,.inl c.Bm,.inr c.AR])) (some (false))) (some (false))
def Gy(b:Nat)(a:CN):Option (CN):=
 some (a)
def DE(f:Nat)(e:Ao):Nat→Int→(List AP)→Option ((List AP))
 |0,_,_=>none
 |g+1,b,a=>cond (decide (b<(e.Ac.length:Int))) ((idx e.Ac b).bind fun c=>(Gy f (⟨c.Ax,c.AI⟩:CN)).bind fun d=>(Ff (((a.length+[(⟨d.Lo,d.Hi,c.AR,c.B5,c.Cj⟩:AP)].length:Nat):Int)≤140737488355328/40)).bind fun _=>(i64 (b+1)).bind fun _=>DE f e g (b+1) (a++[(⟨d.Lo,d.Hi,c.AR,c.B5,c.Cj⟩:AP)])) (some (a))
def CQ(b:Nat)(a:Ao):Option (Ao):=
 (DE b a b (0:Int) ([]:List AP)).bind fun z5=>some ((⟨a.Ak,a.Ag,a.An,a.Au,z5⟩:Ao))
def E1(a:Nat)(b:Ao):Option (Int):=
 (Ek a b).bind fun r2=>some (r2)
def Fj(b:Nat)(a:Ao):Option (Bool):=
 cond (decide ((a.Ac.length:Int)≤6)) ((Ek b a).bind fun c=>cond (c !=0) (some (true)) ((DJ b a).bind fun d=>some (decide (d≤60)))) (some (false))
def Ez{a:Type}(e:Nat)(b:a→AP→Option (Bool×a))(c:AP)(d:a):Option (Bool×a):=
 (b d c).bind fun r2=>some ((!r2.1,r2.2))
def C6{c:Type}(d:c→AP→Option (Bool×c))(e:List AP):Nat→Int→c→Option ((Int×c)⊕(c))
 |0,_,_=>none
 |g+1,a,b=>cond (decide (a<(e.length:Int))) ((idx e a).bind fun h=>(d b h).bind fun f=>cond (f.1) (some (.inl (a,f.2))) ((i64 (a+1)).bind fun _=>C6 d e g (a+1) f.2)) (some (.inr b))
def Fg{b:Type}(d:Nat)(c:b→AP→Option (Bool×b))(e:List AP)(f:b):Option (Int×b):=
 (C6 c e d (0:Int) f).bind fun z=>Sum.elim (fun a=>some ((a.1,a.2))) (fun a=>some (((-1),a))) z
def EI{a:Type}(c:Nat)(b:a→AP→Option (Bool×a))(d:List AP)(e:a):Option (Bool×a):=
 (Fg c b d e).bind fun r1=>some ((decide ((0:Int)≤r1.1),r1.2))
def Gk{a:Type}(b:Nat)(c:a→AP→Option (Bool×a))(d:List AP)(e:a):Option (Bool×a):=
 (EI b (fun(st:a) (x:AP)=>(Ez b c x st).bind fun r=>some (r.1,r.2)) d e).bind fun r2=>some ((!r2.1,r2.2))
def Ei{a:Type}(e:Nat)(b:a→Bool→Option (Bool×a))(c:Bool)(d:a):Option (Bool×a):=
 (b d c).bind fun r1=>some ((!r1.1,r1.2))
def CX{c:Type}(d:c→Bool→Option (Bool×c))(e:List Bool):Nat→Int→c→Option ((Int×c)⊕(c))
 |0,_,_=>none
 |g+1,a,b=>cond (decide (a<(e.length:Int))) ((idx e a).bind fun h=>(d b h).bind fun f=>cond (f.1) (some (.inl (a,f.2))) ((i64 (a+1)).bind fun _=>CX d e g (a+1) f.2)) (some (.inr b))
def EZ{b:Type}(d:Nat)(c:b→Bool→Option (Bool×b))(e:List Bool)(f:b):Option (Int×b):=
 (CX c e d (0:Int) f).bind fun z=>Sum.elim (fun a=>some ((a.1,a.2))) (fun a=>some (((-1),a))) z
def Ev{a:Type}(c:Nat)(b:a→Bool→Option (Bool×a))(d:List Bool)(e:a):Option (Bool×a):=
 (EZ c b d e).bind fun r1=>some ((decide ((0:Int)≤r1.1),r1.2))
def FZ{a:Type}(b:Nat)(c:a→Bool→Option (Bool×a))(d:List Bool)(e:a):Option (Bool×a):=
 (Ev b (fun(st:a) (x:Bool)=>(Ei b c x st).bind fun r=>some (r.1,r.2)) d e).bind fun r2=>some ((!r2.1,r2.2))
def DF(e:Nat)(d:Bool)(b:Int)(a:Int)(c:Ao):Option (Bool×Int×Int):=
 cond (!d) (some ((true,0,a))) ((i64 (a+1)).bind fun _=>(i64 (b+1)).bind fun _=>cond (decide ((a+1)≤c.An)) (some ((decide ((b+1)≤c.Au),b+1,a+1))) (some ((false,b+1,a+1))))
def El(a:Nat)(b:Ao)(c:List Bool):Option (Bool):=
 (FZ a (fun(st:Int×Int) (x:Bool)=>(DF a x st.1 st.2 b).bind fun r=>some (r.1,(r.2.1,r.2.2))) c (0,0)).bind fun d=>some (d.1)
def Em(c:List Int):Nat→Int→Int→Option (Int)
 |0,_,_=>none
 |d+1,b,a=>cond (decide (a<(c.length:Int))) ((idx c a).bind fun e=>(i64 (a+1)).bind fun _=>Em c d (min b e) (a+1)) (some (b))
def Gz(b:Nat)(a:List Int):Option (Int):=
 cond (decide ((a.length:Int)<1)) (none) ((idx a (0:Int)).bind fun x2=>(Em a b x2 (1:Int)).bind fun z3=>some (z3))
def Gl(a:Nat)(b:List Int):Option (Int):=
 (Gz a b).bind fun r1=>some (r1)
def CH(b:Int)(d:List Bool):Nat→Int→(List Bool)→Option ((List Bool))
 |0,_,_=>none
 |e+1,a,c=>cond (decide (a<(d.length:Int))) ((Nw b a).bind fun _=>(rem (E9 b a) (2:Int)).bind fun _=>(idx c a).bind fun f=>(i64 (a+1)).bind fun _=>CH b d e (a+1) (c.set a.toNat (((E9 b a)%2)==1))) (some (c))
def CI{c:Type}(d:c→(List Bool)→Option (Bool×c))(g:Nat)(h:Ao):Nat→Int→(List Bool)→c→Option ((c)⊕(c))
 |0,_,_,_=>none
 |j+1,a,e,b=>cond (decide (a<(G8 (1:Int) ((List.replicate (h.Ak+1).toNat false).length:Int)))) ((CH a e g (0:Int) e).bind fun i=>(El g h i).bind fun k=>cond (k) ((d b i).bind fun f=>cond (!f.1) (some (.inl f.2)) ((i64 (a+1)).bind fun _=>CI d g h j (a+1) i f.2)) ((i64 (a+1)).bind fun _=>CI d g h j (a+1) i b)) (some (.inr b))
def Dq{c:Type}(d:Nat)(e:c→(List Bool)→Option (Bool×c))(a:Ao)(f:c):Option (c):=
 (i64 (a.Ak+1)).bind fun _=>(Ki (a.Ak+1) 1).bind fun _=>(L9 (1:Int) ((List.replicate (a.Ak+1).toNat false).length:Int)).bind fun _=>(CI e d a d (0:Int) (List.replicate (a.Ak+1).toNat false) f).bind fun z=>Sum.elim (fun b=>some (b)) (fun b=>some (b)) z
def EO(a:Int)(b:(List Bool)):Option (Bool×Int):=
 (i64 (a+1)).bind fun _=>some (true,a+1)
def DQ(e:Nat)(f:Ao):Nat→Int→Int→Option (Int)
 |0,_,_=>none
 |h+1,b,a=>cond (decide (b<(f.Ac.length:Int))) ((idx f.Ac b).bind fun c=>(ES e (⟨c.Ax,c.AI⟩:CN)).bind fun d=>(i64 (a*d)).bind fun _=>(Gl e [a*d,1001]).bind fun g=>(i64 (b+1)).bind fun _=>DQ e f h (b+1) g) (some (a))
def Dr(b:Nat)(a:Ao):Option (Int):=
 cond (decide ((9:Int)<a.Ak)) (some (3)) (cond (decide ((2:Int)<a.Ag)) (some (3)) (cond (decide ((4:Int)<(a.Ac.length:Int))) (some (3)) (cond (decide (a.Ak<0)) (some (1)) (cond (decide (a.Ag<1)) (some (1)) ((i64 (a.Ak+1)).bind fun _=>(D9 b a.An 0 (a.Ak+1)).bind fun g=>cond (!g) (some (1)) ((i64 (a.Ak+1)).bind fun _=>(D9 b a.Au 0 (a.Ak+1)).bind fun c=>cond (!c) (some (1)) ((Gk b (fun(st:Unit) (x:AP)=>(EN b a x).bind fun r=>some (r,())) a.Ac ()).bind fun d=>cond (!d.1) (some (1)) ((Dq b (fun(st:Int) (x:(List Bool))=>EO st x) a (0:Int)).bind fun e=>(DQ b a b (0:Int) e).bind fun f=>cond (decide ((1000:Int)<f)) (some (3)) (some (0))))))))))
def B2{f:Type}(g:Int→(List Int)→(List Bool)→Ao→f→Option (Bool×(List Int)×f))(e:Int)(j:List Bool)(i:Ao)(k:Int):Nat→Int→(List Int)→f→Option ((Bool×(List Int)×f)⊕((List Int)×f))
 |0,_,_,_=>none
 |l+1,a,b,d=>cond (decide (a<k)) ((idx i.Ac e).bind fun h=>(i64 (h.Ax+a)).bind fun _=>(idx b e).bind fun m=>(i64 (e+1)).bind fun _=>(g (e+1) (b.set e.toNat (h.Ax+a)) j i d).bind fun c=>cond (!c.1) (some (.inl (false,c.2.1,c.2.2))) ((i64 (a+1)).bind fun _=>B2 g e j i k l (a+1) c.2.1 c.2.2)) (some (.inr (b,d)))
def BN{b:Type}(e:Nat)(d:b→AZ→Option (Bool×b)):Nat→Int→(List Int)→(List Bool)→Ao→b→Option (Bool×(List Int)×b)
 |0,_,_,_,_,_=>none
 |k+1,f,c,g,h,i=>cond (f==(c.length:Int)) ((d i (⟨c,g⟩:AZ)).bind fun r2=>some ((r2.1,c,r2.2))) ((idx h.Ac f).bind fun j=>(ES e (⟨j.Ax,j.AI⟩:CN)).bind fun l=>(B2 (BN e d k) f g h l e (0:Int) c i).bind fun z=>Sum.elim (fun a=>some ((a.1,a.2.1,a.2.2))) (fun a=>some ((true,a.1,a.2))) z)
def Dh{c:Type}(e:c→AZ→Option (Bool×c))(f:Nat)(g:Ao)(b:List Int)(d:c)(h:(List Bool)):Option (Bool×((List Int)×c×Bool)):=
 (BN f e f 0 b h g d).bind fun a=>cond (!a.1) (some (false,a.2.1,a.2.2,true)) (some (true,a.2.1,a.2.2,false))
def EP{a:Type}(d:Nat)(e:a→AZ→Option (Bool×a))(b:Ao)(f:a):Option (a):=
 (Ki (b.Ac.length:Int) 8).bind fun _=>(Dq d (fun(st:(List Int)×a×Bool) (x:(List Bool))=>cond st.2.2 none (Dh e d b st.1 st.2.1 x)) b (List.replicate (b.Ac.length:Int).toNat (0:Int),f,false)).bind fun c=>cond (c.2.2) (some (c.2.1)) (some (c.2.1))
def Ds(b:List Bool)(c:List Bool):Nat→Int→Option ((Bool)⊕(Unit))
 |0,_=>none
 |d+1,a=>cond (decide (a<(b.length:Int))) ((idx b a).bind fun e=>(idx c a).bind fun f=>cond (e !=f) (some (.inl false)) ((i64 (a+1)).bind fun _=>Ds b c d (a+1))) (some (.inr ()))
def En(d:Nat)(b:List Bool)(c:List Bool):Option (Bool):=
 cond ((b.length:Int) !=(c.length:Int)) (some (false)) ((Ds b c d (0:Int)).bind fun z=>Sum.elim (fun a=>some (a)) (fun a=>some (true)) z)
def Di(d:Nat)(c:Ao)(e:AZ):Nat→Int→Option ((Bool)⊕(Unit))
 |0,_=>none
 |h+1,a=>cond (decide (a<(c.Ac.length:Int))) ((idx c.Ac a).bind fun b=>(idx e.Comes a).bind fun f=>(D9 d f b.Ax b.AI).bind fun g=>cond (!g) (some (.inl false)) ((i64 (a+1)).bind fun _=>Di d c e h (a+1))) (some (.inr ()))
def E2(d:Nat)(a:Ao)(c:AZ):Option (Bool):=
 cond ((c.Comes.length:Int) !=(a.Ac.length:Int)) (some (false)) ((i64 (a.Ak+1)).bind fun _=>cond ((c.An.length:Int) !=(a.Ak+1)) (some (false)) ((El d a c.An).bind fun e=>cond (!e) (some (false)) ((Di d a c d (0:Int)).bind fun z=>Sum.elim (fun b=>some (b)) (fun b=>some (true)) z)))
def DK(i:Cr)(h:Ht)(f:AP):Nat→Int→Int→Int→Int→Int→Bool→Option ((Int×Int×Bool)⊕(Int×Int×Bool))
 |0,_,_,_,_,_,_=>none
 |j+1,b,g,a,c,d,e=>cond (decide (a≤i.BF)) ((idx i.C9 a).bind fun k=>cond (k) ((i64 (g+1)).bind fun _=>cond (b==f.AR) (some (.inl (h.day,a,b==f.AR))) (cond ((g+1)==f.B5) (some (.inl (h.day,a,b==f.AR))) ((i64 (a+1)).bind fun _=>DK i h f j b (g+1) (a+1) c d e))) ((i64 (b+1)).bind fun _=>cond ((b+1)==f.AR) (some (.inl (h.day,a,(b+1)==f.AR))) (cond ((0:Int)==f.B5) (some (.inl (h.day,a,(b+1)==f.AR))) ((i64 (a+1)).bind fun _=>DK i h f j (b+1) (0:Int) (a+1) c d e)))) (some (.inr (c,d,e)))
def Fl(d:Nat)(c:Cr)(b:Ht):Option (Aq):=
 cond (decide (c.BF<b.day)) (some ((⟨(-1),(-1),false⟩:Aq))) ((idx c.AW b.Ch).bind fun e=>(DK c b e d (0:Int) (0:Int) b.day (0:Int) (0:Int) false).bind fun z=>Sum.elim (fun a=>some ((⟨a.1,a.2.1,a.2.2⟩:Aq))) (fun a=>some ((⟨b.day,(-1),false⟩:Aq))) z)
def Fa(d:Nat)(b:Cr)(a:Ht):Option (Aq×(List (List Int×Aq))):=
 cond (!((BE b.known [a.Ch,a.day]).isSome)) ((Fl d b a).bind fun c=>some ((c,Ho b.known [a.Ch,a.day] c))) (some ((((BE b.known [a.Ch,a.day]).getD (⟨0,0,false⟩:Aq)),b.known)))
def Dx(i:Nat)(c:Cr)(j:List Int)(g:List Int):Nat→Int→Int→(List Aq)→(List (List Int×Aq))→Option ((List Aq)×(List (List Int×Aq)))
 |0,_,_,_,_=>none
 |k+1,h,a,d,e=>cond (decide (a<(g.length:Int))) ((idx g a).bind fun f=>(idx j f).bind fun l=>(Fa i (⟨c.BF,c.BS,c.B8,c.B9,c.AW,c.C9,e⟩:Cr) (⟨f,max h l⟩:Ht)).bind fun b=>(idx d f).bind fun m=>(i64 (b.1.Bm+1)).bind fun _=>cond (b.1.Bm==(-1)) ((i64 (c.BF+1)).bind fun _=>(i64 (a+1)).bind fun _=>Dx i c j g k (c.BF+1) (a+1) (d.set f.toNat b.1) b.2) ((i64 (a+1)).bind fun _=>Dx i c j g k (b.1.Bm+1) (a+1) (d.set f.toNat b.1) b.2)) (some ((d,e)))
def De(d:Nat)(f:Cr)(e:List (List Int))(g:List Int):Nat→Int→(List Aq)→(List (List Int×Aq))→Option ((List Aq)×(List (List Int×Aq)))
 |0,_,_,_=>none
 |i+1,a,c,b=>cond (decide (a<(e.length:Int))) ((idx e a).bind fun j=>(Dx d f g j d (0:Int) (0:Int) c b).bind fun h=>(i64 (a+1)).bind fun _=>De d f e g i (a+1) h.1 h.2) (some ((c,b)))
def CY(b:Nat)(a:Cr)(c:List (List Int))(d:List Int):Option ((List Aq)×(List (List Int×Aq))):=
 (Ki (a.AW.length:Int) 24).bind fun _=>(De b a c d b (0:Int) (List.replicate (a.AW.length:Int).toNat (⟨0,0,false⟩:Aq)) a.known).bind fun z3=>some ((z3.1,z3.2))
def Dt(c:List (List Int)):Nat→(List Int)→Int→Option ((List Int))
 |0,_,_=>none
 |e+1,b,a=>cond (decide (a<(c.length:Int))) ((idx c a).bind fun d=>(Ff (((b.length+d.length:Nat):Int)≤140737488355328/8)).bind fun _=>(i64 (a+1)).bind fun _=>Dt c e (b++d) (a+1)) (some (b))
def Dj(b:Ao)(z2:(List Int)):Nat→Int→Option ((Bool)⊕(Unit))
 |0,_=>none
 |d+1,a=>cond (decide (a<(b.Ac.length:Int))) (cond (((C8 z2).length:Int) !=(b.Ac.length:Int)) (some (.inl false)) ((idx (C8 z2) a).bind fun c=>cond (c !=a) (some (.inl false)) ((i64 (a+1)).bind fun _=>Dj b z2 d (a+1)))) (some (.inr ()))
def DY(c:Nat)(b:Ao)(d:List (List Int)):Option (Bool):=
 (Dt d c ([]:List Int) (0:Int)).bind fun z2=>(Ff ((z2.length:Int)≤100000)).bind fun _=>(Dj b z2 c (0:Int)).bind fun z=>Sum.elim (fun a=>some (a)) (fun a=>cond ((d.length:Int)==b.Ag) (some (((C8 z2).length:Int)==(b.Ac.length:Int))) (some (false))) z
def F6(b:Nat)(a:Ao)(d:List (List Int))(c:AZ):Option ((List Aq)×Int):=
 (Dr b a).bind fun e=>cond (e !=0) (some ((([]:List Aq),e))) ((DY b a d).bind fun h=>cond (!h) (some ((([]:List Aq),2))) ((E2 b a c).bind fun f=>cond (!f) (some ((([]:List Aq),2))) ((CY b (⟨a.Ak,a.Ag,a.An,a.Au,a.Ac,c.An,[]⟩:Cr) d c.Comes).bind fun g=>some ((g.1,0)))))
def Dy(d:Nat)(e:Ao)(c:List Aq):Nat→Int→Int→Option (Int)
 |0,_,_=>none
 |f+1,b,a=>cond (decide (a<(c.length:Int))) ((idx c a).bind fun i=>(idx e.Ac a).bind fun g=>(D4 d g i).bind fun h=>cond (h) ((i64 (b+1)).bind fun _=>(i64 (a+1)).bind fun _=>Dy d e c f (b+1) (a+1)) ((i64 (a+1)).bind fun _=>Dy d e c f b (a+1))) (some (b))
def EA(a:Nat)(b:Ao)(c:List Aq):Option (Int):=
 (Dy a b c a (0:Int) (0:Int)).bind fun z4=>some (z4)
def EF(d:Nat)(a:AZ)(e:List Aq)(b:Ao)(c:Int)(f:AZ):Option (Bool×Int×AZ):=
 (EA d b e).bind fun r2=>cond (decide (c<r2)) ((Ff (((0+a.Comes.length:Nat):Int)≤140737488355328/8)).bind fun _=>(Ff (((0+a.An.length:Nat):Int)≤140737488355328/1)).bind fun _=>some ((decide (r2<(b.Ac.length:Int)),r2,a))) (some ((decide (c<(b.Ac.length:Int)),c,f)))
def CB{j:Type}(h:j→(AP×Aq)→Option (Bool×j))(k:List Aq)(l:Ao):Nat→Int→Int→Int→Int→Int→j→Option (Int×Int×Int×Int×j)
 |0,_,_,_,_,_,_=>none
 |m+1,a,b,c,d,e,g=>cond (decide (a<(k.length:Int))) ((idx k a).bind fun o=>(idx l.Ac a).bind fun n=>(h g (n,o)).bind fun i=>cond (i.1) ((idx ([b,c,d,e]:List Int) a).bind fun f=>(i64 (f+1)).bind fun _=>(idx ([b,c,d,e]:List Int) a).bind fun p=>(i64 (a+1)).bind fun _=>CB h k l m (a+1) (((⟨b,c,d,e⟩:BK).set a.toNat (f+1)).a0) (((⟨b,c,d,e⟩:BK).set a.toNat (f+1)).a1) (((⟨b,c,d,e⟩:BK).set a.toNat (f+1)).a2) (((⟨b,c,d,e⟩:BK).set a.toNat (f+1)).a3) i.2) ((i64 (a+1)).bind fun _=>CB h k l m (a+1) b c d e i.2)) (some ((b,c,d,e,g)))
def C2{a:Type}(e:Nat)(c:a→(AP×Aq)→Option (Bool×a))(i:AZ)(f:List Aq)(d:Int)(g:Ao)(b:BK)(h:a):Option (Bool×Int×BK×a):=
 (i64 (d+1)).bind fun _=>(CB c f g e (0:Int) b.a0 b.a1 b.a2 b.a3 h).bind fun z4=>some ((true,d+1,(⟨z4.1,z4.2.1,z4.2.2.1,z4.2.2.2.1⟩:BK),z4.2.2.2.2))
def Dz{m:Type}(f:m→(AZ×(List Aq))→Option (Bool×m))(n:Nat)(a:Ao)(o:List (List Int))(e:Option Cr)(d:m)(c:AZ):Option (Bool×((Option Cr)×m×Bool)):=
 Option.elim e ((Ff (((0+c.An.length:Nat):Int)≤140737488355328/1)).bind fun _=>(CY n (⟨a.Ak,a.Ag,a.An,a.Au,a.Ac,c.An,[]⟩:Cr) o c.Comes).bind fun g=>(f d (c,g.1)).bind fun h=>cond (!h.1) (some (false,(some (⟨a.Ak,a.Ag,a.An,a.Au,a.Ac,c.An,g.2⟩:Cr)),h.2,true)) (some (true,(some (⟨a.Ak,a.Ag,a.An,a.Au,a.Ac,c.An,g.2⟩:Cr)),h.2,false))) (fun b=>(En n b.C9 c.An).bind fun p=>cond (!p) ((Ff (((0+c.An.length:Nat):Int)≤140737488355328/1)).bind fun _=>(CY n (⟨a.Ak,a.Ag,a.An,a.Au,a.Ac,c.An,[]⟩:Cr) o c.Comes).bind fun i=>(f d (c,i.1)).bind fun j=>cond (!j.1) (some (false,(some (⟨a.Ak,a.Ag,a.An,a.Au,a.Ac,c.An,i.2⟩:Cr)),j.2,true)) (some (true,(some (⟨a.Ak,a.Ag,a.An,a.Au,a.Ac,c.An,i.2⟩:Cr)),j.2,false))) ((CY n b o c.Comes).bind fun k=>(f d (c,k.1)).bind fun l=>cond (!l.1) (some (false,(some (⟨b.BF,b.BS,b.B8,b.B9,b.AW,b.C9,k.2⟩:Cr)),l.2,true)) (some (true,(some (⟨b.BF,b.BS,b.B8,b.B9,b.AW,b.C9,k.2⟩:Cr)),l.2,false))))
def Fb{a:Type}(c:Nat)(d:a→(AZ×(List Aq))→Option (Bool×a))(e:Ao)(f:List (List Int))(g:a):Option (a):=
 (EP c (fun(st:(Option Cr)×a×Bool) (x:AZ)=>cond st.2.2 none (Dz d c e f st.1 st.2.1 x)) e (none,g,false)).bind fun b=>cond (b.2.2) (some (b.2.1)) (some (b.2.1))
def Ct{a:Type}(c:Nat)(d:a→(AP×Aq)→Option (Bool×a))(e:Ao)(f:List (List Int))(g:a):Option (BK×Int×a):=
 (Fb c (fun(st:Int×BK×a) (x:AZ×(List Aq))=>(C2 c d x.1 x.2 st.1 e st.2.1 st.2.2).bind fun r=>some (r.1,(r.2.1,r.2.2.1,r.2.2.2))) e f (0,(⟨0,0,0,0⟩:BK),g)).bind fun b=>some ((b.2.1,b.1,b.2.2))
def Fc(a:Nat)(b:Ao)(d:List (List Int)):Option (Int×AZ):=
 (Fb a (fun(st:Int×AZ) (x:AZ×(List Aq))=>(EF a x.1 x.2 b st.1 st.2).bind fun r=>some (r.1,(r.2.1,r.2.2))) b d ((-1),(⟨([]:List Int),([]:List Bool)⟩:AZ))).bind fun c=>some ((c.1,c.2))
def ER(b:Nat)(c:Ao)(e:List (List Int))(f:Int):Option (Int×Int):=
 (Dr b c).bind fun r2=>cond (r2 !=0) (some ((0,r2))) ((DY b c e).bind fun h=>cond (!h) (some ((0,2))) ((Fv b c f).bind fun g=>cond (!g) (some ((0,2))) ((Ct b (fun(st:Unit) (x:AP×Aq)=>(Dc b x.1 x.2).bind fun r=>some (r,())) c e ()).bind fun a=>(idx ([a.1.a0,a.1.a1,a.1.a2,a.1.a3]:List Int) f).bind fun d=>cond (d==a.2.1) (some ((1,0))) (cond (d==0) (some ((2,0))) (some ((3,0)))))))
def DV(b:Nat)(c:Ao)(d:List (List Int)):Option (Int×AZ×Int):=
 (Dr b c).bind fun e=>cond (e !=0) (some ((0,(⟨([]:List Int),([]:List Bool)⟩:AZ),e))) ((DY b c d).bind fun f=>cond (!f) (some ((0,(⟨([]:List Int),([]:List Bool)⟩:AZ),2))) ((Fc b c d).bind fun a=>some ((a.1,a.2,0))))
def ET(a:Nat)(b:Ao)(c:List (List Int))(d:Int):Option (Bool):=
 (DV a b c).bind fun r2=>cond (r2.2.2==0) (some (decide (r2.1≤d))) (some (false))
def Fe(a:Nat)(b:Ao)(d:List (List Int))(e:AZ)(f:Int):Option (Bool):=
 (F6 a b d e).bind fun c=>cond (c.2==0) ((EA a b c.1).bind fun g=>some (decide (f≤g))) (some (false))
def EB(c:List (List Int)):Nat→Int→(List (List Int))→Option ((List (List Int)))
 |0,_,_=>none
 |e+1,a,b=>cond (decide (a<(c.length:Int))) ((idx b a).bind fun d=>(Ff (((0+d.length:Nat):Int)≤140737488355328/8)).bind fun _=>(idx b a).bind fun f=>(i64 (a+1)).bind fun _=>EB c e (a+1) (b.set a.toNat d)) (some (b))
def EW(b:Nat)(a:List (List Int)):Option ((List (List Int))):=
 (Ff (((0+a.length:Nat):Int)≤140737488355328/24)).bind fun _=>(EB a b (0:Int) a).bind fun z4=>some (z4)
def FT(b:Nat)(c:List (List Int))(d:Ao)(a:Int)(e:List (List Int)):Option (Bool×Int×(List (List Int))):=
 (Fc b d c).bind fun r1=>cond (decide (r1.1<a)) ((EW b c).bind fun f=>some ((decide ((0:Int)<r1.1),r1.1,f))) (some ((decide ((0:Int)<a),a,e)))
def D5(c:Ao)(r1:BK×Int×Unit):Nat→Int→Int→Option (Int)
 |0,_,_=>none
 |d+1,b,a=>cond (decide (a<(c.Ac.length:Int))) ((idx ([r1.1.a0,r1.1.a1,r1.1.a2,r1.1.a3]:List Int) a).bind fun e=>cond (e==0) ((i64 (b+1)).bind fun _=>(i64 (a+1)).bind fun _=>D5 c r1 d (b+1) (a+1)) ((i64 (a+1)).bind fun _=>D5 c r1 d b (a+1))) (some (b))
def DX(c:Ao)(r1:BK×Int×Unit):Nat→Int→Int→Option (Int)
 |0,_,_=>none
 |d+1,b,a=>cond (decide (a<(c.Ac.length:Int))) ((idx ([r1.1.a0,r1.1.a1,r1.1.a2,r1.1.a3]:List Int) a).bind fun e=>cond (e==0) ((i64 (b+1)).bind fun _=>(i64 (a+1)).bind fun _=>DX c r1 d (b+1) (a+1)) ((i64 (a+1)).bind fun _=>DX c r1 d b (a+1))) (some (b))
def Ew(c:Nat)(e:List (List Int))(b:Ao)(a:Int)(d:BK)(f:List (List Int)):Option (Bool×Int×BK×(List (List Int))):=
 (Ct c (fun(st:Unit) (x:AP×Aq)=>(D4 c x.1 x.2).bind fun r=>some (r,())) b e ()).bind fun r1=>cond (decide ((0:Int)≤a)) (cond ([r1.1.a0,r1.1.a1,r1.1.a2,r1.1.a3]==[d.a0,d.a1,d.a2,d.a3]) (some ((true,a,d,f))) ((D5 b r1 c (0:Int) (0:Int)).bind fun z9=>cond (decide (a<z9)) ((EW c e).bind fun g=>some ((decide (z9<(b.Ac.length:Int)),z9,r1.1,g))) (some ((decide (a<(b.Ac.length:Int)),a,r1.1,f))))) ((DX b r1 c (0:Int) (0:Int)).bind fun z22=>cond (decide (a<z22)) ((EW c e).bind fun h=>some ((decide (z22<(b.Ac.length:Int)),z22,r1.1,h))) (some ((decide (a<(b.Ac.length:Int)),a,r1.1,f))))
def Ca{g:Type}(h:Int→Ao→(List (List Int))→g→Option (Bool×(List (List Int))×g))(i:Int)(j:Ao)(c:Int)(f:List Int):Nat→Int→(List (List Int))→g→Option ((Bool×(List (List Int))×g)⊕((List (List Int))×g))
 |0,_,_,_=>none
 |k+1,a,b,e=>cond (decide (a<((f.length:Int)+1))) ((Ff (((0+f.length:Nat):Int)≤140737488355328/8)).bind fun _=>(Ff (0≤a∧a≤(f.length:Int)∧((f.length:Int)+1)*8≤140737488355328)).bind fun _=>(idx b c).bind fun l=>(i64 (i+1)).bind fun _=>(h (i+1) j (b.set c.toNat (CK f a i)) e).bind fun d=>cond (!d.1) (some (.inl (false,d.2.1,d.2.2))) ((i64 (a+1)).bind fun _=>Ca h i j c f k (a+1) d.2.1 d.2.2)) (some (.inr (b,e)))
def B3{e:Type}(f:Int→Ao→(List (List Int))→e→Option (Bool×(List (List Int))×e))(h:Nat)(i:Int)(j:Ao)(k:List (List Int)):Nat→Int→(List (List Int))→e→Option ((Bool×(List (List Int))×e)⊕((List (List Int))×e))
 |0,_,_,_=>none
 |l+1,a,b,d=>cond (decide (a<(k.length:Int))) ((idx b a).bind fun g=>(i64 ((g.length:Int)+1)).bind fun _=>(Ca f i j a g h (0:Int) b d).bind fun z=>Sum.elim (fun c=>some (.inl (c.1,c.2.1,c.2.2))) (fun c=>(idx c.1 a).bind fun m=>(i64 (a+1)).bind fun _=>B3 f h i j k l (a+1) (c.1.set a.toNat g) c.2) z) (some (.inr (b,d)))
def Bu{b:Type}(e:Nat)(d:b→(List (List Int))→Option (Bool×b)):Nat→Int→Ao→(List (List Int))→b→Option (Bool×(List (List Int))×b)
 |0,_,_,_,_=>none
 |i+1,f,g,c,h=>cond (f==(g.Ac.length:Int)) ((d h c).bind fun r2=>some ((r2.1,c,r2.2))) ((B3 (Bu e d i) e f g c e (0:Int) c h).bind fun z=>Sum.elim (fun a=>some ((a.1,a.2.1,a.2.2))) (fun a=>some ((true,a.1,a.2))) z)
def EG{a:Type}(c:Nat)(d:a→(List (List Int))→Option (Bool×a))(b:Ao)(e:a):Option (a):=
 (Ki b.Ag 24).bind fun _=>(Bu c d c 0 b (List.replicate b.Ag.toNat ([]:List Int)) e).bind fun f=>some (f.2.2)
def GJ(c:Nat)(a:Ao):Option ((List (List Int))×Int×Int):=
 (Dr c a).bind fun d=>cond (d !=0) (some ((([]:List (List Int)),0,d))) ((i64 ((a.Ac.length:Int)+1)).bind fun _=>(EG c (fun(st:Int×(List (List Int))) (x:(List (List Int)))=>(FT c x a st.1 st.2).bind fun r=>some (r.1,(r.2.1,r.2.2))) a ((a.Ac.length:Int)+1,([]:List (List Int)))).bind fun b=>some ((b.2,b.1,0)))
def GK(b:Nat)(c:Ao):Option ((List (List Int))×Int×Int):=
 (Dr b c).bind fun d=>cond (d !=0) (some ((([]:List (List Int)),0,d))) ((EG b (fun(st:Int×BK×(List (List Int))) (x:(List (List Int)))=>(Ew b x c st.1 st.2.1 st.2.2).bind fun r=>some (r.1,(r.2.1,r.2.2.1,r.2.2.2))) c ((-1),(⟨0,0,0,0⟩:BK),([]:List (List Int)))).bind fun a=>some ((a.2.2,a.1,0)))
def DL(e:Nat)(c:Ao):Nat→(List Int)→Int→Option ((List Int))
 |0,_,_=>none
 |f+1,b,a=>cond (decide (a<(c.Ac.length:Int))) ((Ki c.Ag 24).bind fun _=>(idx (List.replicate c.Ag.toNat ([]:List Int)) (0:Int)).bind fun _=>(I6 (c.Ac.length:Int) a e (0:Int) ((List.replicate c.Ag.toNat ([]:List Int)).set 0 [a])).bind fun g=>(Ct e (fun(st:Unit) (x:AP×Aq)=>(Dc e x.1 x.2).bind fun r=>some (r,())) c g ()).bind fun d=>(idx ([d.1.a0,d.1.a1,d.1.a2,d.1.a3]:List Int) a).bind fun h=>cond (h==d.2.1) ((i64 (a+1)).bind fun _=>DL e c f b (a+1)) ((Ff (((b.length+[a].length:Nat):Int)≤140737488355328/8)).bind fun _=>(i64 (a+1)).bind fun _=>DL e c f (b++[a]) (a+1))) (some (b))
def Fm(a:Nat)(b:Ao):Option ((List Int)×Int):=
 (Dr a b).bind fun r2=>cond (r2 !=0) (some ((([]:List Int),r2))) ((DL a b a ([]:List Int) (0:Int)).bind fun z5=>some ((z5,0)))
def CM(c:List (List Int)):Nat→(List (List Int))→Int→Option ((List (List Int)))
 |0,_,_=>none
 |e+1,b,a=>cond (decide (a<(c.length:Int))) ((idx c a).bind fun d=>(Ff (((([]:List Int).length+d.length:Nat):Int)≤140737488355328/8)).bind fun _=>(Ff (((b.length+[([]:List Int)++d].length:Nat):Int)≤140737488355328/24)).bind fun _=>(i64 (a+1)).bind fun _=>CM c e (b++[([]:List Int)++d]) (a+1)) (some (b))
def Ck(a:Nat)(b:List (List Int)):Option ((List (List Int))):=
 (CM b a ([]:List (List Int)) (0:Int)).bind fun z2=>some (z2)
def E3(a:Nat)(b:Ao):Option (Bool):=
 (Fj a b).bind fun r2=>cond (r2) ((E1 a b).bind fun c=>some (c==0)) (some (false))
def Fk(d:Nat)(a:List Int)(b:Int):Option (Int):=
 cond ((a.length:Int)==0) (some (0)) ((rem b (a.length:Int)).bind fun _=>(idx a (b%(a.length:Int))).bind fun c=>(LD .i64 c).bind fun _=>some (c))
def Du(h:Nat)(f:Ao)(i:List Int):Nat→Int→(List (List Int))→Option ((List (List Int)))
 |0,_,_=>none
 |j+1,c,d=>cond (decide (c<(f.Ac.length:Int))) ((Fk h i c).bind fun a=>(rem a f.Ag).bind fun _=>(quo a (4:Int)).bind fun _=>(i64 (a/4)).bind fun _=>(idx d (a%f.Ag)).bind fun b=>(i64 ((b.length:Int)+1)).bind fun _=>(rem (a/4) ((b.length:Int)+1)).bind fun _=>(idx d (a%f.Ag)).bind fun g=>(Hq g.length (0:Int) ((a/4)%((b.length:Int)+1))).bind fun _=>(Ff (((([]:List Int).length+(Bq g (0:Int) ((a/4)%((b.length:Int)+1))).length:Nat):Int)≤140737488355328/8)).bind fun _=>(Ff ((((([]:List Int)++(Bq g (0:Int) ((a/4)%((b.length:Int)+1)))).length+[c].length:Nat):Int)≤140737488355328/8)).bind fun _=>(idx d (a%f.Ag)).bind fun e=>(Hq e.length ((a/4)%((b.length:Int)+1)) (e.length:Int)).bind fun _=>(Ff (((((([]:List Int)++(Bq g (0:Int) ((a/4)%((b.length:Int)+1))))++[c]).length+(Bq e ((a/4)%((b.length:Int)+1)) (e.length:Int)).length:Nat):Int)≤140737488355328/8)).bind fun _=>(idx d (a%f.Ag)).bind fun k=>(i64 (c+1)).bind fun _=>Du h f i j (c+1) (d.set (a%f.Ag).toNat (((([]:List Int)++(Bq g (0:Int) ((a/4)%((b.length:Int)+1))))++[c])++(Bq e ((a/4)%((b.length:Int)+1)) (e.length:Int))))) (some (d))
def E4(b:Nat)(a:Ao)(c:List Int):Option ((List (List Int))):=
 (Ki a.Ag 24).bind fun _=>(Du b a c b (0:Int) (List.replicate a.Ag.toNat ([]:List Int))).bind fun z4=>some (z4)
end Go.Proofs.YtamobliaoknclaaGreat
end
