import Derived.Test.YtkljfdkmjdjpfaaGreatBB1
import Derived.WalkKit
import Derived.KernelRfl
import Derived.WalkSpells
import Derived.WalkLawsBesides
import Derived.Maps.AppendAt
import Derived.OrdersIn
import Derived.RangeFuncIn
import Derived.RangeFuncLeaves
import Derived.RangeFuncRecord
import Derived.RangeFuncSeq
import Derived.Scope
import Derived.DeepKeys3
import Derived.Laws.CopyRow
import Derived.Laws.OwnMore
import Derived.Laws.MakeOwn
import Derived.Laws.IdiomCopy
/-
  The contracts of the functions of the program and of the reference, and the logic that they are proved in: the base that several claims of this seat share.
-/
set_option linter.all false
section
namespace Go.Proofs.YtkljfdkmjdjpfaaGreat
open Go.RowKit Go.WideShapes
theorem Uz{f:Operand→Value}{i0 i1 i2 i3 i4:Nat}{a x1 x2 b c:Operand}{v0 v1 v2 v3 v4:Value}(h0:f a=v0)(d:f x1=v1)(e:f x2=v2)(g:f b=v3)(h:f c=v4): #[(i0,a),(i1,x1),(i2,x2),(i3,b),(i4,c)].map (fun(i,x)=>(i,f x))= #[(i0,v0),(i1,v1),(i2,v2),(i3,v3),(i4,v4)]:=by simp[h0,d,e,g,h]
section
variable{F F' F0:Nat→Prop}{B:List (Option Nat)}{w0 w w' w1 w2:World}{Z Z':Nat→Prop}{L L' M C:List (Option Nat)}{D:Nat→Prop}
theorem BI(a:List Nat)(h:FW L a M):∀x∈M,x∈L:=h.sub
theorem AA(a:List Nat)(h:FW L a M)(b:∀k,F' k→F k):∀k,FU F' M k→F k∨some k∈L:=Sj h.sub b
theorem CG(h:∀k,F0 k→F k):∀k,FU F0 C k→F k∨some k∈C:=fun k a=>a.imp (h k) id
theorem FG{k:Nat}{o:Obj}{r:Option Nat}(h:w.heap[k]?=some o)(g:w.grownBy w' r)(a:some k≠r):w'.heap[k]?=some o:=(g.block k (Array.getElem?_eq_some_iff.1 h).1 a).trans h
theorem Ez{k:Nat}{o:Obj}(h:w.heap[k]?=some o)(g:Bb D w w')(a:¬D k):w'.heap[k]?=some o:=(g.block k (Array.getElem?_eq_some_iff.1 h).1 a).trans h
theorem B8.Bu{α:Type}{ev:α→Value}{r n:Nat}{a:List (List Int×α)}(h:B8 ev w r n a)(g:Bb D w w')(b:¬D r):B8 ev w' r n a:=h.of (g.block r h.lt b)
theorem B8.Fu{α:Type}{ev:α→Value}{r n:Nat}{a:List (List Int×α)}(h:B8 ev w r n a)(e:w'.heap[r]?=w.heap[r]?):B8 ev w' r n a:=h.of e
theorem Bk.Fu{b:Nat}{t:TypeId}{cs:Array Value}(h:Bk w b t cs)(e:w'.heap[b]?=w.heap[b]?):Bk w' b t cs:=e.trans h
theorem Hp.zz(h:Hp F B w0 L w)(a c:List Nat)(d:FW L a M)(e:FW L c C)(f:∀k,F' k→F k∨some k∈C):∀b,ZZ F B Z w0.heap.size L b→¬F' b∧some b∉M:=h.zc d.sub fun k g=>(f k g).imp id (e.sub _)
theorem Hp.mz(h:Hp F B w0 L w)(a b:List Nat)(c:FW L a M)(d:FW L b C)(e:∀k,F' k→F k∨some k∈C):Mv w (ZZ F B Z w0.heap.size L) w (ZC F' M):=QL (h.zz a b c d e)
theorem NC{i:Nat}{a b:List Nat}(h:((a++b).all fun j=> !Nat.beq i j)=true):(a.all fun j=> !Nat.beq i j)=true∧(b.all fun j=> !Nat.beq i j)=true:=by
 rw[List.all_append,Bool.and_eq_true] at h;exact h
theorem Hp.bz(h:Hp F B w0 L w)(i:Nat){b:Nat}(hi:L[i]?=some (some b))(a c:List Nat)(e:FW L a M)(f:FW L c C)(g:∀k,F' k→F k∨some k∈C)(d:((a++c).all fun j=> !Nat.beq i j)=true):ZC F' M b:=by
 have l:=h.Bq (F':=F) i hi a (NC d).1 e (fun _ h=>h);have m:=h.Bq (F':=F) i hi c (NC d).2 f (fun _ h=>h);exact⟨fun n=>m ((g b n).imp id id),fun hm=>l (.inr hm)⟩
theorem Hp.rz{α:Type}{e:DO α}{t:TypeId}{n0:Nat}{A:Option Addr}{c:Nat}{xs:List α}(h:Hp F B w0 L w)(i:Nat)(hi:L[i]?=some (ob A))(a b:List Nat)(d:FW L a M)(f:FW L b C)(g:∀k,F' k→F k∨some k∈C)(l:((a++b).all fun j=> !Nat.beq i j)=true)
  (m:AF e t n0 w (ZZ F B Z w0.heap.size L) A c xs):Sl e w (ZC F' M) A c xs:=
 (m.up (h.mz a b d f g)).sl fun k n _=>h.bz i (by rw[hi,n]) a b d f g l
theorem Bi{Z:Nat→Prop}(w:World):Mv w Z w (ZZ FN [] Z w.heap.size L):=A6 (fun _ _=>⟨id,by simp⟩) w
theorem II(h:Mv w Z w' Z):Mv w Z w' (ZZ FN [] Z w.heap.size M):=⟨h.size,fun b a c=>⟨.inl ⟨c,a,id,by simp⟩,(h.stay b a c).2⟩⟩
theorem J8{n:Nat}:Mv w (ZZ FN [] Z n M) w (ZZ FN [] Z n [none]):=GC fun b a _=>a.imp id fun⟨c,_⟩=>⟨c,by simp⟩
theorem KE{n:Nat}{o:Option Nat}(h:o∈M:=by simp):Mv w (ZZ FN [] Z n M) w (ZZ FN [] Z n [o]):=GC fun b a _=>a.imp id fun⟨c,d⟩=>⟨c,fun hm=>by
 rw[List.mem_singleton] at hm;exact d (by rw[hm];exact h)⟩
theorem JI(g:Bb D w w')(h:∀b,Z b→¬D b):Mv w Z w' Z:=⟨g.size,fun b a c=>⟨a,g.block b c (h b a)⟩⟩
theorem I5{b:Nat}{o:Option Nat}(h:¬FU FN C b∧some b≠o):¬FU FN C b:=h.1
theorem O0{b:Nat}{o:Option Nat}(h:¬FU F C b∧some b≠o):¬FU F (C++[o]) b:=by
 rintro(a|a)
 ·exact h.1 (.inl a)
 ·rcases List.mem_append.1 a with c|c
  ·exact h.1 (.inr c)
  ·exact h.2 (by simpa using c)
theorem Ej{b:Nat}{o:Option Nat}(h:¬FU F C b)(k:some b≠o):¬F b∧some b∉C++[o]:=
 ⟨fun a=>h (.inl a),fun a=>by
  rcases List.mem_append.1 a with c|c
  ·exact h (.inr c)
  ·exact k (by simpa using c)⟩
theorem Bb.lf{o:Option Nat}(g:Bb (FU F (C++[o])) w w'):Bb (FU (FU F C) [o]) w w':=g.mono fun k h=>by
 rcases h with h|h
 ·exact .inl (.inl h)
 ·rcases List.mem_append.1 h with a|a
  ·exact .inl (.inr a)
  ·exact .inr a
theorem Bb.O1{o:Option Nat}(g:Bb (FU F C) w w'):Bb (FU (FU F C) [o]) w w':=g.mono fun _ h=>.inl h
theorem Bb.cl{M1 M2:List (Option Nat)}(g:Bb (FU (FU F M1) M2) w w'):Bb (FU F (M1++M2)) w w':=g.fl
theorem Hp.Io(h:Hp F B w0 L w)(b:List Nat)(c:FW L b C)(d:∀k,F0 k→F k):∀k,FU F0 C k→k<w.heap.size:=fun k a=>by
 rcases a with a|a
 ·exact Nat.lt_of_lt_of_le (h.ff k (d k a)) h.sz
 ·exact(h.lo k (c.sub _ a)).1
theorem Hp.QP(h:Hp F B w0 L w)(i:Nat){k:Nat}(hi:L[i]?=some (some k))(a:List Nat)(b:(a.all fun j=> !Nat.beq i j)=true)(c:FW L a C):k<w.heap.size∧¬FU F C k:=
 ⟨(h.lo k (List.mem_of_getElem? hi)).1,h.Bq (F':=F) i hi a b c fun _ h=>h⟩
theorem Hp.CQ{x d:Option Nat}(h:Hp F B w0 L w)(i:Nat)(hi:L[i]?=some x)(a:List Nat)(g:(a.all fun j=> !Nat.beq i j)=true)(l:FW L a M)(m:∀y∈B,y=d∨y∈M):∀k,x=some k→(d=some k∨w0.heap.size≤k)∧k<w.heap.size:=fun k e=>by
 have f:=h.lo k (List.mem_of_getElem? (by rw[hi,e]));refine⟨?_,f.1⟩;rcases Nat.lt_or_ge k w0.heap.size with b|b
 ·left;rcases m _ (f.2.2 b) with c|c
  ·exact c.symm
  ·exact absurd (.inr c) (h.Bq (F':=F) i (by rw[hi,e]) a g l fun _ h=>h)
 ·exact .inr b
theorem BH.snoc{o:Option Nat}(h:BH F C w)(l:∀k,o=some k→k<w.heap.size∧¬FU F C k):BH F (C++[o]) w:=by
 refine⟨fun k q=>?_,fun i j x m hi f=>?_,h.ff⟩
 ·rcases List.mem_append.1 q with d|d
  ·exact h.lt k d
  ·have c:=l k (by rw[List.mem_singleton] at d;exact d.symm);exact⟨c.1,fun r=>c.2 (.inl r)⟩
 ·have key:∀(a b:Nat),a<C.length→¬b<C.length→(C++[o])[a]?=some (some x)→(C++[o])[b]?=some (some x)→False:=fun a b s t d c=>by
   rw[List.getElem?_append_left s] at d;rw[List.getElem?_append_right (by omega)] at c;have n:b-C.length=0:=by
    rcases Nat.eq_zero_or_pos (b-C.length) with h|h
    ·exact h
    ·rw[List.getElem?_eq_none (by simp;omega)] at c;cases c
   rw[n] at c;have p:o=some x:=by simpa using c
   exact(l x p).2 (.inr (List.mem_of_getElem? d))
  by_cases g:i<C.length
  ·by_cases e:j<C.length
   ·rw[List.getElem?_append_left g] at hi;rw[List.getElem?_append_left e] at f;exact h.ap i j x m hi f
   ·exact key i j g e hi f
  ·by_cases e:j<C.length
   ·exact key j i e g f hi
   ·have u:(C++[o]).length=C.length+1:=by simp
    have d:=(List.getElem?_eq_some_iff.1 hi).1;have c:=(List.getElem?_eq_some_iff.1 f).1;omega
theorem BH.keep{o o':Option Nat}(h:BH F C w)(g:w.heap.size≤w1.heap.size)(c:∀k,o=some k→k<w1.heap.size∧¬FU F C k)(d:∀k,o'=some k→(o=some k∨w1.heap.size≤k)∧k<w2.heap.size):∀k,o'=some k→k<w2.heap.size∧¬FU F C k:=fun k e=>by
 obtain⟨a,f⟩:=d k e;refine⟨f,?_⟩;rcases a with a|a
 ·exact(c k a).2
 ·rintro(b|b)
  ·have:=h.ff k b;omega
  ·have:=(h.lt k b).1;omega
def TY(L:List (Option Nat))(n:Nat):List (Option Nat)→Prop
 |[]=>True
 |x::M=>((∃j:Nat,L[j]?=some x)∨∀k,x=some k→some k∈L∨n≤k)∧TY L n M
theorem Cg{n:Nat}:∀{M:List (Option Nat)},TY L n M→∀k,some k∈M→some k∈L∨n≤k
 |[],_,_,h=>by cases h
 |x::M,h,k,a=>by
  rcases List.mem_cons.1 a with e|a
  ·rcases h.1 with⟨j,b⟩|c
   ·left;rw[e];exact List.mem_of_getElem? b
   ·exact c k e.symm
  ·exact Cg h.2 k a
theorem Dq{y:Option Nat}(i:Nat)(h:y∈M):∀x∈L.set i y,x∈L∨x∈M:=fun x a=>by
 rcases List.mem_or_eq_of_mem_set a with b|e
 ·exact .inl b
 ·exact .inr (by rw[e];exact h)
theorem H7{o:Option Nat}:∀b,ZC F [o] b→¬F b∧some b≠o:=fun _ h=>⟨h.1,fun e=>h.2 (by rw[e];exact List.mem_singleton_self _)⟩
end
theorem ND{F:Nat→Prop}{B L:List (Option Nat)}{n:Nat}{Z Z':Nat→Prop}(h:∀b,Z b→Z' b):∀b,ZZ F B Z n L b→ZZ F B Z' n L b:=fun b a=>a.imp (fun⟨c,d,e⟩=>⟨c,h b d,e⟩) id
def Ip{α:Type}(e:DO α)(w:World)(Z:Nat→Prop)(A:Option Addr)(c:Nat)(xs:List α):Prop:=
 xs.length≤c∧(A=none→c=0)∧∃Ba,R2 e w Z Ba xs∧Rz w ZA A Ba.flatten
section
variable{α:Type}{e:DO α}{t:TypeId}{n0:Nat}{w w':World}{Z Z':Nat→Prop}{A:Option Addr}{c:Nat}{xs:List α}
theorem Ip.ext(h:Ip e w Z A c xs)(g:Ext w w')(hm:Mv w Z w' Z'):Ip e w' Z' A c xs:=⟨h.1,h.2.1,h.2.2.imp fun _ h=>⟨h.1.mv hm,h.2.mv (Aj g)⟩⟩
theorem AF.n(h:AF e t n0 w Z A c xs):Ip e w Z A c xs:=by
 have a:=h.all;obtain⟨Ba,b,d⟩:=h;refine⟨a.1,a.2.1,Ba,b,?_⟩;have f:=d.rd;exact Mw f fun _ _ _=>trivial
theorem Sl.n(h:Sl e w Z A c xs):Ip e w Z A c xs:=⟨h.1,h.2.1,h.2.2.imp fun _ h=>⟨h.1,h.2.mv JE⟩⟩
theorem Sl.Hz(a:∀w Z w' Z' cs x,e.R w Z cs x→e.R w' Z' cs x)(h:Sl e w Z A c xs):Ip e w Z' A c xs:=⟨h.1,h.2.1,h.2.2.imp fun _ h=>⟨h.1.free a,h.2.mv JE⟩⟩
theorem AF.Hz(a:∀w Z w' Z' cs x,e.R w Z cs x→e.R w' Z' cs x)(h:AF e t n0 w Z A c xs):Ip e w Z' A c xs:=h.all.Hz a
end
section
variable{P:Program}{a:Act}{w:World}{dst:Option Tmp}{ty:TypeId}{pos:String}{BT:Array Edge}{g:Option (Nat×Bool)}
theorem GP{α:Type}{e:DO α}{s x:Operand}{t j:TypeId}{z:Value}{sz bytes:Nat}(y:P.underlying t=some (.slice j))(hi:(P.info? j).map (fun i=>(i.zero,i.size,i.bytes))=some (some z,sz,bytes))(l:z.cells.size=sz)(m:e.sz=sz)(h0:0<sz)
  {n0:Nat}{Z:Nat→Prop}{A B:Option Addr}{c d n:Nat}{xs ys:List α}(aA:a.eval s=.slice A n c)(aB:xs.length=n)(aC:a.eval x=.slice B ys.length d)(h:AF e j n0 w Z A c xs)(r:Ip e w Z B d ys)
  (o:xs.length+ys.length≤maxLen)(b:(xs.length+ys.length)*bytes≤140737488355328)(f:n0≤w.heap.size):
  BD P ⟨dst,.call {callee:=.builtin .append,args:= #[s,x],argTypes:= #[t,t]},ty,pos,BT,g⟩ a w (fun v w'=>∃u aD,v=.slice u (xs++ys).length aD∧w.grownBy w' (ob A)∧(∀k,ob u=some k→(ob A=some k∨w.heap.size≤k)∧k<w'.heap.size)∧
   ∃Ba p,R2 e w Z Ba xs∧R2 e w Z p ys∧DD w' n0 j e.sz u (xs++ys).length aD (Ba++p).flatten):=by
 by_cases q:ys=[]
 ·refine Sq y hi l m h0 aA aB aC h ?_ o b f;subst q;exact⟨r.1,r.2.1,[],trivial,.inl rfl⟩
 ·obtain⟨_,_,Ba,aE,aF⟩:=r;exact JF y hi l m h0 aA aB aC h ⟨Ba,aE,aF⟩ o b f q
end
section
variable{α:Type}{e:DO α}{t:TypeId}{n0:Nat}{w w':World}{Z Z':Nat→Prop}{A:Option Addr}{c:Nat}{xs:List α}
theorem AF.Oj(a:∀w Z w' Z' cs x,e.R w Z cs x→e.R w' Z' cs x)(h:AF e t n0 w Z A c xs):AF e t n0 w Z' A c xs:=by
 obtain⟨Ba,b,d⟩:=h;exact⟨Ba,b.free a,d⟩
theorem AF.Ol(h:AF e t n0 w Z A c xs):A=none→c=0:=h.all.2.1
theorem AF.keep(h:AF e t n0 w Z A c xs)(hm:Mv w Z w' Z')(d:∀k,ob A=some k→w'.heap[k]?=w.heap[k]?):AF e t n0 w' Z' A c xs:=by
 obtain⟨Ba,f,a⟩:=h;refine⟨Ba,f.mv hm,a.1,a.2.imp id ?_⟩;rintro⟨b,cap,cur,g,i,j,l⟩;cases g;exact⟨b,_,cur,rfl,i,(d b rfl).trans j,l⟩
end
def Cy{α:Type}(xs:List α)(l h:Int):List α:=(xs.take h.toNat).drop l.toNat
def MG(n:Nat)(l h:Int):Option Unit:=if 0≤l∧l≤h∧h≤(n:Int) then some () else none
theorem LW{α:Type}{n:Nat}{l h:Int}{f:Unit→Option α}{r:α}(a:(MG n l h).bind f=some r):(0≤l∧l≤h∧h≤(n:Int))∧f ()=some r:=by
 unfold MG at a;split at a
 ·exact⟨by assumption,a⟩
 ·cases a
def SB(a:Act)(o:Option Operand)(v d:Int):Prop:=(o=none∧v=d)∨∃x k,o=some x∧a.eval x=.int k v
theorem Sr{a:Act}{d:Int}:SB a none d d:=.inl ⟨rfl,rfl⟩
theorem Ss{a:Act}{x:Operand}{k:IntKind}{v d:Int}(h:a.eval x=.int k v):SB a (some x) v d:=.inr ⟨x,k,rfl,h⟩
theorem I6{P:Program}(w:World)(k:IntKind)(i:Int)(y:Nat)(code:BoundsCode)(h0:0≤i)(a:i≤(y:Int)):(Instr.sliceBound (.int k i) y code).run P w=.ok i.toNat w:=by
 simp[Instr.sliceBound,asIntOf,h0,a]
section
variable{P:Program}{a:Act}{w:World}{dst:Option Tmp}{ty:TypeId}{pos:String}{BT:Array Edge}{g:Option (Nat×Bool)}
theorem O2{α:Type}{e:DO α}{Z:Nat→Prop}{xs:List α}{t v:TypeId}{sz:Nat}{x:Operand}{A:Option Addr}{c:Nat}{lo hi:Option Operand}{l h:Int}(aJ:P.underlying t=some (.slice v))(aK:(P.info? v).map (·.size)=some sz)(z:e.sz=sz)
  (aL:a.eval x=.slice A xs.length c)(i:SB a lo l 0)(aA:SB a hi h xs.length)(aM:Sl e w Z A c xs)(aN:0≤l∧l≤h∧h≤(xs.length:Int)):
  BD P ⟨dst,.slice t x lo hi none,ty,pos,BT,g⟩ a w (fun u w'=>(∃aB aC,u=.slice aB (Cy xs l h).length aC∧Sl e w Z aB aC (Cy xs l h))∧w'=w):=by
 subst z;obtain⟨aU,m,Ba,n,aO⟩:=aM;obtain⟨aV,aW,aX⟩:=aN;have hlen:(Cy xs l h).length=h.toNat-l.toNat:=by
  unfold Cy;rw[List.length_drop,List.length_take];omega
 have p:(Instr.sliceAt t (.slice A xs.length c) (lo.map a.eval) (hi.map a.eval) none).run P w=.ok (.slice (if c=l.toNat then A else A.map (·.add (l.toNat*e.sz))) (h.toNat-l.toNat) (c-l.toNat)) w:=by
  have aP:(Instr.sliceBounds true xs.length c (lo.map a.eval) (hi.map a.eval) none).run P w=.ok (l.toNat,h.toNat,c) w:=by
   unfold Instr.sliceBounds;rcases aA with⟨rfl,rfl⟩|⟨y,k,rfl,aD⟩
   ·rcases i with⟨rfl,rfl⟩|⟨aQ,k',rfl,d⟩
    ·simp
    ·simp[d,I6 w k' l xs.length _ (by omega) (by omega)]
   ·have aE:=fun code=>I6 (P:=P) w k h c code (by omega) (by omega);rcases i with⟨rfl,rfl⟩|⟨aQ,k',rfl,d⟩
    ·simp[aD,aE]
    ·simp[aD,d,aE,I6 w k' l h.toNat _ (by omega) (by omega)]
  simp[Instr.sliceAt,Instr.slice,underlying,program,Sem.run,aJ,aP,HX aK]
 refine(QY aL rfl rfl p).mono ?_;rintro u w' ⟨rfl,rfl⟩;refine⟨⟨_,_,by rw[hlen],?_⟩,rfl⟩;have q:=(n.take h.toNat).drop l.toNat;have aF:((Ba.take h.toNat).drop l.toNat).flatten=[]∨(0<e.sz∧l.toNat<h.toNat):=by
  rcases Nat.eq_zero_or_pos e.sz with h0|h0
  ·left;exact List.eq_nil_of_length_eq_zero (by rw[q.H4,h0,Nat.mul_zero])
  ·rcases Nat.lt_or_ge l.toNat h.toNat with r|r
   ·exact .inr ⟨h0,r⟩
   ·left;exact List.eq_nil_of_length_eq_zero (by rw[q.H4,List.length_drop,List.length_take,show min h.toNat xs.length-l.toNat=0 by omega,Nat.zero_mul])
 refine⟨by rw[hlen];omega,fun s=>?_,_,q,?_⟩
 ·split at s
  ·have:=m s;omega
  ·have:=m (by simpa using s);omega
 ·rcases aF with h0|⟨h0,r⟩
  ·exact .inl h0
  ·rcases aO with aR|⟨b,o,rfl,aS,aG,f⟩
   ·left;have aH:=n.H4;rw[aR] at aH;simp only[List.length_nil] at aH;have aY:0<xs.length*e.sz:=Nat.mul_pos (by omega) h0;omega
   ·right;have aI:¬c=l.toNat:=by omega
    refine⟨b,o+l.toNat*e.sz,by simp[aI,ET],aS,aG,fun j u hu=>?_⟩;rw[Nat.add_assoc];refine f _ _ ?_;rw[←(n.take h.toNat).QK h0,List.getElem?_drop] at hu;have aT:Ba.flatten=(Ba.take h.toNat).flatten++(Ba.drop h.toNat).flatten:=by rw[←List.flatten_append,List.take_append_drop]
    rw[aT,List.getElem?_append_left (List.getElem?_eq_some_iff.1 hu).1];exact hu
end
def JJ(n:Int)(b:Nat):Option Unit:=if 0≤n∧n*b≤140737488355328∧n≤140737488355328 then some () else none
theorem GU{α:Type}{n:Int}{b:Nat}{f:Unit→Option α}{r:α}(h:(JJ n b).bind f=some r):(0≤n∧n*b≤140737488355328∧n≤140737488355328)∧f ()=some r:=by
 unfold JJ at h;split at h
 ·exact⟨by assumption,h⟩
 ·cases h
theorem JK(z:Array Value):∀m:Nat,(madeCells z (m*z.size)).toList=(List.replicate m z.toList).flatten
 |0=>by simp[madeCells]
 |m+1=>by
  have ih:=JK z m;have e:∀k,(madeCells z k).toList=(List.range k).map (z[· %z.size]!):=fun k=>by simp[madeCells]
  rw[e] at ih⊢;rw[Nat.add_mul,Nat.one_mul,List.range_add,List.map_append,ih,List.replicate_succ',List.flatten_append]
  congr 1
  simp only[List.map_map,List.flatten_cons,List.flatten_nil,List.append_nil];refine List.ext_getElem (by simp) fun i b a=>?_;simp only[List.getElem_map,List.getElem_range,Function.comp];have hi:i<z.size:=by simpa using a
  rw[Nat.add_comm,Nat.add_mul_mod_self_right,Nat.mod_eq_of_lt hi];simp[hi]
theorem R2.TZ{α:Type}{e:DO α}{w:World}{Z:Nat→Prop}{c:List Value}{x:α}(h:e.R w Z c x):∀m:Nat,R2 e w Z (List.replicate m c) (List.replicate m x)
 |0=>trivial
 |m+1=>⟨h,R2.TZ h m⟩
section
variable{P:Program}{a:Act}{w:World}{dst:Option Tmp}{ty:TypeId}{pos:String}{BT:Array Edge}{g:Option (Nat×Bool)}
theorem Ht{α:Type}{e:DO α}{z:α}{zc:List Value}{n0:Nat}{t j:TypeId}{d:Value}{sz bytes:Nat}{n:Int}{x y:Operand}{m o:IntKind}{b':Nat}(aB:P.underlying t=some (.slice j))(hi:(P.info? j).map (fun i=>(i.zero,i.size,i.bytes))=some (some d,sz,bytes))
  (p:d.cells.toList=zc)(c:e.sz=sz)(aC:a.eval x=.int m n)(aD:a.eval y=.int o n)(hm:0≤n∧n*b'≤140737488355328∧n≤140737488355328)(q:∀w Z,e.R w Z zc z)(aE:n0≤w.heap.size)(aJ:bytes≤b'):
  BD P ⟨dst,.makeSlice t x y,ty,pos,BT,g⟩ a w (fun u w'=>∃b,u=.slice (some ⟨b,0,none⟩) (List.replicate n.toNat z).length n.toNat∧w.heap.size≤b∧b<w'.heap.size∧Ext w w'∧∀Z,AF e j n0 w' Z (some ⟨b,0,none⟩) n.toNat (List.replicate n.toNat z)):=by
 subst p;subst c;cases f:P.info? j with
 |none=>simp[f] at hi
 |some i=>
  rw[f] at hi;simp only[Option.map_some,Option.some.injEq,Prod.mk.injEq] at hi;obtain⟨aF,r,aG⟩:=hi;obtain⟨s,aK,aL⟩:=hm;have v:d.cells.toList.length=e.sz:=e.len (q w ZA);have c:d.cells.size=e.sz:=by simpa using v
  have aA:(i.bytes:Int)*n≤281474976710656:=by
   rw[aG];have aH:(bytes:Int)*n≤(b':Int)*n:=Int.mul_le_mul_of_nonneg_right (by omega) s;rw[Int.mul_comm (b':Int)] at aH;omega
  have aI:=run_make (P:=P) w t j i d aB f aF m o n n s (Int.le_refl _) aA (by omega);refine(Ii (S:=Instr.makeSlice t (a.eval x) (a.eval y)) rfl (by rw[aC,aD];exact aI)).mono fun u w' h=>?_;obtain⟨rfl,rfl⟩:=h;have l:=HK w j (madeCells d.cells (n.toNat*i.size));refine⟨w.heap.size,by rw[List.length_replicate],Nat.le_refl _,by rw[l.sz];exact Nat.lt_succ_self _,l.gr,fun Z=>⟨_,R2.TZ (q _ Z) n.toNat,?_⟩⟩;rw[List.length_replicate];have k:(List.replicate n.toNat d.cells.toList).flatten.length=n.toNat*e.sz:=by rw[←JK,←c];simp[size_madeCells]
  refine⟨k,.inr ⟨w.heap.size,n.toNat,_,rfl,aE,l.bk,Nat.le_refl _,by simp only[maxLen];omega,by rw[size_madeCells,r],?_⟩⟩;rw[r,←c,JK,List.take_of_length_le (by rw[k,c];exact Nat.le_refl _)]
end
def JL:Int⊕Bool→Value
 |.inl n=>.int .i64 n
 |.inr b=>.bool b
def K2(l:List (Int⊕Bool)):Value:=.agg (l.map JL).toArray
def Kr:Int⊕Bool→Bool
 |.inl _=>true
 |.inr _=>false
def G9:List (Int⊕Bool)→List (Int⊕Bool)→Bool
 |[],[]=>true
 |.inl a::l,.inl b::m=>a==b&&G9 l m
 |.inr a::l,.inr b::m=>a==b&&G9 l m
 |_,_=>false
def P9(P:Program)(t:TypeId)(a:List Bool):Prop:=∀(w:World) (x y:List (Int⊕Bool)),x.map Kr=a→y.map Kr=a→(Op.equal t (K2 x) (K2 y)).run P w=.ok (G9 x y) w
def Lk(a b:TypeId):Nat→List Field→List Bool→Bool
 |_,[],[]=>true
 |i,f::c,k::d=>f.name !="_"&&Nat.beq f.type (cond k a b)&&Nat.beq f.offset i&&Lk a b (i+1) c d
 |_,_,_=>false
section
variable{P:Program}{w:World}
theorem I7{e:TypeId}(he:One P e){cs:Array Value}{i:Nat}{v:Value}(h:cs[i]?=some v):(part e cs i).run P w=.ok v w:=by
 simp only[part,Sem.run_bind,Ix he,Result.andThen_ok,h];rfl
theorem LX{l o:TypeId}(v:One P l)(u1:P.underlying l=some (.int .i64))(z:One P o)(aA:P.underlying o=some .bool)(d:Nat):∀(p:List Field) (c:List Bool) (x y b e:List (Int⊕Bool)),b.length=e.length→Lk l o b.length p c=true→x.map Kr=c→y.map Kr=c→
  (Op.eqFields (d+1) ((b++x).map JL).toArray ((e++y).map JL).toArray p).run P w=.ok (G9 x y) w
 |[],[],[],[],_,_,_,_,_,_=>by simp[Op.eqFields,G9]
 |[],_::_,_,_,_,_,_,h,_,_=>by simp[Lk] at h
 |_::_,[],_,_,_,_,_,h,_,_=>by simp[Lk] at h
 |[],[],_::_,_,_,_,_,_,h,_=>by simp at h
 |[],[],_,_::_,_,_,_,_,_,h=>by simp at h
 |_::_,_::_,[],_,_,_,_,_,h,_=>by simp at h
 |_::_,_::_,_,[],_,_,_,_,_,h=>by simp at h
 |f::p,k::c,g::x,i::y,b,e,aB,aC,r,s=>by
  simp only[Lk,Bool.and_eq_true] at aC;obtain⟨⟨⟨t,a⟩,u⟩,aF⟩:=aC;have t:f.name≠"_":=by simpa using t
  have a:=Nat.eq_of_beq_eq_true a;have u:=Nat.eq_of_beq_eq_true u;simp only[List.map_cons,List.cons.injEq] at r s;have ih:=LX v u1 z aA d p c x y (b++[g]) (e++[i]) (by simp[aB]) (by simpa using aF) r.2 s.2;rw[List.append_assoc,List.append_assoc] at ih;simp only[List.singleton_append] at ih;have aD:((b++g::x).map JL).toArray[f.offset]?=some (JL g):=by rw[u];simp
  have aE:((e++i::y).map JL).toArray[f.offset]?=some (JL i):=by rw[u,aB];simp
  cases k with
  |true=>
   cases g with
   |inr _=>simp[Kr] at r
   |inl m=>
    cases i with
    |inr _=>simp[Kr] at s
    |inl n=>
     have a:f.type=l:=a;have j:One P f.type:=by rw[a];exact v
     have q:=run_equalIn_int (P:=P) w d f.type .i64 .i64 m n (by rw[a];exact u1);simp only[Op.eqFields,t,ne_eq,not_false_eq_true,if_true,Sem.run_bind,I7 j aD,I7 j aE,JL,q,Result.andThen_ok,G9];cases aG:(m==n)
     ·simp
     ·simpa using ih
  |false=>
   cases g with
   |inl _=>simp[Kr] at r
   |inr m=>
    cases i with
    |inl _=>simp[Kr] at s
    |inr n=>
     have a:f.type=o:=a;have j:One P f.type:=by rw[a];exact z
     have q:=run_equalIn_bool (P:=P) w d f.type m n (by rw[a];exact aA);simp only[Op.eqFields,t,ne_eq,not_false_eq_true,if_true,Sem.run_bind,I7 j aD,I7 j aE,JL,q,Result.andThen_ok,G9];cases aG:(m==n)
     ·simp
     ·simpa using ih
theorem Nu{K c d:Nat}{a:Array Field}{e:List Bool}(hK:P.underlying K=some (.struct a))(f:P.stoodInHeld K=false)(g:Lk c d 0 a.toList e=true)(i:One P c)(u1:P.underlying c=some (.int .i64))(j:One P d)(l:P.underlying d=some .bool):P9 P K e:=by
 intro w x y m n;have b:P.fieldsOf K=a:=by simp[Program.fieldsOf,hK]
 have h:=run_equalIn_struct (P:=P) w 9999 K (x.map JL).toArray (y.map JL).toArray (by rw[b];exact hK) f;have k:=LX (P:=P) (w:=w) i u1 j l 9998 a.toList e x y [] [] rfl g m n;simp only[List.nil_append] at k;rw[b,k] at h;exact h
end
section
variable{P:Program}{a:Act}{w:World}{dst:Option Tmp}{ty:TypeId}{pos:String}{BT:Array Edge}{g:Option (Nat×Bool)}
theorem Om{x y:Operand}{v1 v2:Value}{x1 x2:List (Int⊕Bool)}{b:List Bool}{t d:TypeId}(e:P9 P t b)(c:P.eqGuardType P.depth t=false)(f:a.eval x=v1)(h:a.eval y=v2)(i:v1=K2 x1)(j:v2=K2 x2)(k:x1.map Kr=b)(l:x2.map Kr=b):
  BD P ⟨dst,.binOp .eql t x y d,ty,pos,BT,g⟩ a w (fun u w'=>u=.bool (G9 x1 x2)∧w'=w):=by
 refine Oc f h ?_;subst i;subst j;have m:=e w x1 x2 k l;have n:(eqGuard .eql t x y (K2 x1) (K2 x2)).run P w=.ok () w:=by
  simp[eqGuard,K2,program,Sem.run,c]
 simp only[Sem.run_bind,n,Result.andThen_ok];show(do pure (Value.bool (←Op.equal t (K2 x1) (K2 x2))):Sem Value).run P w=_;simp only[Sem.run_bind,m,Result.andThen_ok,Sem.run_pure]
theorem QQ{x y:Operand}{p q:Option Addr}{t u:TypeId}{b:Bool}(c:a.eval x=.pointer p)(d:a.eval y=.pointer q)(e:(Op.equal t (.pointer p) (.pointer q)).run P w=.ok b w):BD P ⟨dst,.binOp .eql t x y u,ty,pos,BT,g⟩ a w (fun v w'=>v=.bool b∧w'=w):=
 Ce (by simp[execOp,c,d,binOp,e,eqGuard])
theorem MH {α:Type} {e:DO α} {aA t:TypeId} {x y:Operand} {b o k p c:Nat} {v:Value} {n0:Nat} {Z:Nat→Prop} {A:Option Addr} {xs:List α} {z z':α} {l:List Value} {n:Nat}
  (aB:AF e aA n0 w Z A c xs) (aD:xs[k]?=some z) (aM:A=some ⟨b,o,none⟩) (aN:p=o+k*e.sz) (aO:a.eval x=.pointer (some ⟨b,p,none⟩)) (aP:a.eval y=v) (aQ:(P.info? t).map (·.size)=some n) (aR:v.cells.toList=l) (aS:l.length=n)
  (aT:∀u∈l,u.oneCell'=true) (aE:e.R w Z l z'):
  BD P ⟨dst,.store t x y,ty,pos,BT,g⟩ a w (fun _ w'=>w.grownBy w' (ob A)∧∃Ba,R2 e w Z Ba (xs.set k z')∧DD w' n0 aA e.sz A (xs.set k z').length c Ba.flatten):=by
 obtain⟨Ba,f,aU⟩:=aB;obtain⟨a4,aY,aF,aZ⟩:=f.get aD;have a0:=e.len aF;have aG:=e.len aE;subst aM;subst aN;have aH:k<xs.length:=(List.getElem?_eq_some_iff.1 aD).1;have hlen:=f.len;have h:=f.lens;rcases aU.2 with⟨aI,h0⟩|⟨a5,cap,cur,aI,aJ,aV,q,aK,aC,i⟩
 ·omega
 ·cases aI;have a2:k*e.sz+e.sz≤xs.length*e.sz:=by
   have:(k+1)*e.sz≤xs.length*e.sz:=Nat.mul_le_mul_right _ aH;rw[Nat.add_mul,Nat.one_mul] at this;exact this
  have a3:xs.length*e.sz≤c*e.sz:=Nat.mul_le_mul_right _ q;have aL:Bk w b aA cur:=aV;refine(Bc (Cd:=setCells cur (0+k*e.sz) l) aO aP aQ aL aR aS (by omega) aT rfl).mono ?_;rintro _ w' ⟨s1,s2,aW⟩;have d:=f.set aE k;refine⟨aW,_,d,by rw[d.H4],.inr ⟨b,c,setCells cur (0+k*e.sz) l,rfl,aJ,s2,by rw[List.length_set];exact q,aK,by rw[Eh 0];exact aC,?_⟩⟩;rw[List.length_set];rcases Nat.eq_zero_or_pos e.sz with h0|h0
  ·have aX:(Ba.set k l).flatten=[]:=List.eq_nil_of_length_eq_zero (by rw[d.H4,h0,Nat.mul_zero]);rw[aX,h0,Nat.mul_zero,List.take_zero]
  ·refine List.ext_getElem? fun j=>?_;rw[MD aG h0 k Ba j h (by omega),List.getElem?_take,Array.getElem?_toList,F5 _ _ _ _ (by omega)];have r:∀j:Nat,Ba.flatten[j]?=if j<xs.length*e.sz then cur[j]? else none:=fun j=>by
    rw[←i,List.getElem?_take,Array.getElem?_toList]
   by_cases m:j<xs.length*e.sz
   ·rw[if_pos m]
    by_cases s:k*e.sz≤j∧j<k*e.sz+e.sz
    ·rw[if_pos (by omega),if_pos s,show j-(0+k*e.sz)=j-k*e.sz by omega]
    ·rw[if_neg (by omega),if_neg s,r,if_pos m]
   ·rw[if_neg m,if_neg (by omega),r,if_neg m]
theorem FH{α:Type}{e:DO α}{f t:TypeId}{x y:Operand}{b o k p c:Nat}{v:Value}{n0:Nat}{Z:Nat→Prop}{A:Option Addr}{xs:List α}{z z':α}{l:List Value}{n:Nat}
  (d:AF e f n0 w Z A c xs)(i:xs[k]?=some z)(j:A=some ⟨b,o,none⟩)(m:p=o+k)(q:a.eval x=.pointer (some ⟨b,p,none⟩))(r:a.eval y=v)(s:(P.info? t).map (·.size)=some n)(aA:v.cells.toList=l)(aB:l.length=n)
  (aC:∀u∈l,u.oneCell'=true)(aD:e.R w Z l z')(h:e.sz=1:=by rfl):
  BD P ⟨dst,.store t x y,ty,pos,BT,g⟩ a w (fun _ w'=>w.grownBy w' (ob A)∧∃Ba,R2 e w Z Ba (xs.set k z')∧DD w' n0 f e.sz A (xs.set k z').length c Ba.flatten):=
 MH d i j (by rw[h,Nat.mul_one];exact m) q r s aA aB aC aD
end
theorem JM{l:List Int}{i:Nat}{x:Int}(h:l[i]?=some x):(l.map fun n=>Value.int .i64 n)[i]?=some (.int .i64 x):=by rw[List.getElem?_map,h];rfl
theorem AF.Tv {α:Type} {e:DO α} {t:TypeId} {n0:Nat} {w:World} {Z:Nat→Prop} {A:Option Addr} {c k:Nat} {xs:List α} {x:α} (h:AF e t n0 w Z A c xs) (h0:0<e.sz) (f:xs[k]?=some x):
  ∃b o cs,A=some ⟨b,o,none⟩∧e.R w Z cs x∧Rz w ZA (some ⟨b,o+k*e.sz,none⟩) cs:=by
 obtain⟨Ba,g,i⟩:=h;have q:Sl e w ZA A c xs:=AF.all (t:=t) (n0:=n0) (Z:=Z) ⟨Ba,g,i⟩;obtain⟨b,o,Cd,l,y,aB⟩:=q.elem h0 f;obtain⟨m,z,a,n⟩:=g.get f;refine⟨b,o,m,l,a,?_⟩;have hlen:m.length=e.sz:=e.len a;have r:=i.rd;rcases r.2 with s|⟨b',o',d,_,p,v⟩
 ·have:=g.H4;rw[s] at this;have aA:k<xs.length:=(List.getElem?_eq_some_iff.1 f).1;have aC:0<xs.length*e.sz:=Nat.mul_pos (by omega) h0;simp at this;omega
 ·rw[l] at d;cases d;refine .inr ⟨b,_,rfl,trivial,p,fun j u hu=>?_⟩;rw[Nat.add_assoc];refine v _ _ ?_;rw[←n,List.getElem?_take] at hu;split at hu
  ·simpa using hu
  ·cases hu
theorem AF.Gr{α:Type}{e:DO α}{t:TypeId}{n0:Nat}{w:World}{Z:Nat→Prop}{A:Option Addr}{c k:Nat}{xs:List α}{x:α}(h:AF e t n0 w Z A c xs)(d:e.sz=1)(f:xs[k]?=some x):
  ∃b o cs,A=some ⟨b,o,none⟩∧e.R w Z cs x∧Rz w ZA (some ⟨b,o+k,none⟩) cs:=by
 obtain⟨b,o,cs,g,i,a⟩:=h.Tv (by omega) f;rw[d,Nat.mul_one] at a;exact⟨b,o,cs,g,i,a⟩
def TC(w:World)(D:Nat→Prop)(M:World→Prop):Nat→World→Prop
 |0,w'=>Ext w w'
 |_+1,w'=>Bb D w w'∧M w'
section
variable{w w' Bj:World}{D:Nat→Prop}{M:World→Prop}{ph:Nat}
theorem Fv(h:TC w D M ph w'):Bb D w w':=by
 cases ph with
 |zero=>exact F3 h
 |succ=>exact h.1
theorem By(h:TC w D M ph w')(a:ph=0):Ext w w':=by subst a;exact h
theorem Ha(c:∀a b,M a→Ext a b→M b)(h:TC w D M ph w')(g:Ext w' Bj):TC w D M ph Bj:=by
 cases ph with
 |zero=>exact Ext.trans h g
 |succ=>exact⟨(show Bb D w w' from h.1).trans (F3 g),c _ _ h.2 g⟩
theorem HN(h:TC w D M ph w')(a:ph=0)(g:Bb D w' Bj)(b:M Bj):TC w D M (ph+1) Bj:=by
 subst a;exact⟨(F3 h).trans g,b⟩
theorem HT{r:Option Nat}(g:w.grownBy w' r):Bb (FU FN [r]) w w':=H5 g fun k e=>.inr (by rw[e];exact List.mem_singleton_self _)
end
section
variable{F F':Nat→Prop}{B:List (Option Nat)}{w0 w w':World}{L M:List (Option Nat)}
theorem Hp.Oo{Z:Nat→Prop}{a:Nat}(h:Hp F B w0 L w)(c:w.heap.size≤a):Mv w' (ZZ FN [] FN a []) w' (ZZ F B Z w0.heap.size L):=GC fun b d _=>by
 rcases d with⟨_,e,_⟩|⟨f,_⟩
 ·exact e.elim
 ·refine .inr ⟨Nat.le_trans h.sz (Nat.le_trans c f),fun hm=>?_⟩;have:=(h.lo b hm).1;omega
theorem Hp.QR{α:Type}{e:DO α}{t:TypeId}{A:Option Addr}{c:Nat}{xs:List α}{Z Z':Nat→Prop}(h:Hp F B w0 L w)(b:∀w Z w' Z' cs x,e.R w Z cs x→e.R w' Z' cs x)(a:AF e t w.heap.size w' Z' A c xs):AF e t w0.heap.size w' Z A c xs:=
 AF.Oj b (a.base (n1:=w0.heap.size) fun k d=>Nat.le_trans h.sz (a.ge k d))
theorem Hp.K3{α:Type}{e:DO α}{t:TypeId}{A:Option Addr}{c:Nat}{xs:List α}{Z a:Nat→Prop}(h:Hp F B w0 L w)(b:∀w Z w' Z' cs x,e.R w Z cs x→e.R w' Z' cs x)(d:AF e t w.heap.size w' a A c xs):Sl e w' (ZZ F B Z w0.heap.size L) A c xs:=
 (AF.Oj b d).sl fun k _ h0=>h.kn h0
theorem Hp.Ll (h:Hp F B w0 L w) (f:Hp F B w0 L w') {b:Nat} (p:w.heap.size≤b) (l:b<w'.heap.size):Hp F B w0 (some b::L) w':=by
 refine⟨f.ch,fun k a=>?_,?_,h.ff⟩
 ·rcases List.mem_cons.1 a with e|a
  ·cases e;exact⟨l,fun m=>absurd (h.ff _ m) (by have:=h.sz;omega),fun n=>absurd n (by have:=h.sz;omega)⟩
  ·exact f.lo k a
 ·have key:∀(j:Nat) (x:Nat),L[j]?=some (some x)→x≠b:=fun j x o e=>by
   have:=(h.lo x (List.mem_of_getElem? o)).1;omega
  intro i j x g hi c;cases i with
  |zero=>
   cases j with
   |zero=>exact g rfl
   |succ j=>
    have d:b=x:=by simpa using hi
    exact key j x (by simpa using c) d.symm
  |succ i=>
   cases j with
   |zero=>
    have d:b=x:=by simpa using c
    exact key i x (by simpa using hi) d.symm
   |succ j=>exact h.ap i j x (by omega) (by simpa using hi) (by simpa using c)
theorem Fq{Z:Nat→Prop}{n0:Nat}{b:Nat}(hm:Mv w (ZZ F B Z n0 L) w' (ZZ F B Z n0 L))(h:w.heap.size≤b):Mv w (ZZ F B Z n0 L) w' (ZZ F B Z n0 (some b::L)):=
 ⟨hm.size,fun k c d=>⟨(hm.stay k c d).1.imp id fun⟨f,g⟩=>⟨f,fun a=>by
  rcases List.mem_cons.1 a with e|a
  ·cases e;omega
  ·exact g a⟩,(hm.stay k c d).2⟩⟩
end
def Oq (w:World) (R:World→Value→World→Prop):Jn Ext:=
 ⟨fun v a=>∃w1 w2,Ext w w1∧R w1 v w2∧Ext w2 a,fun _ _ _ ⟨w1,w2,b,c,d⟩ g=>⟨w1,w2,b,c,Ext.trans d g⟩⟩
def Iq(w:World)(R:World→Value→World→Prop)(a:World):Prop:=∃v w1 w2,Ext w w1∧R w1 v w2∧Ext w2 a
theorem G2{w:World}{R:World→Value→World→Prop}:∀a b,Iq w R a→Ext a b→Iq w R b:=fun _ _ ⟨v,w1,w2,c,d,e⟩ g=>⟨v,w1,w2,c,d,Ext.trans e g⟩
def K4(_:World):Prop:=True
theorem JN:∀a b,K4 a→Ext a b→K4 b:=fun _ _ _ _=>trivial
def GV(n:Nat)(w:World):List Nat→Prop
 |[]=>True
 |b::l=>n≤b∧b<w.heap.size∧(l.all fun x=> !Nat.beq b x)=true∧GV n w l
section
variable{F F':Nat→Prop}{B:List (Option Nat)}{w0 w w':World}{L M:List (Option Nat)}{Z:Nat→Prop}
theorem GV.mem{n:Nat}:∀{l:List Nat},GV n w l→∀b∈l,n≤b∧b<w.heap.size
 |[],_,_,h=>by cases h
 |x::l,h,b,a=>by
  rcases List.mem_cons.1 a with rfl|a
  ·exact⟨h.1,h.2.1⟩
  ·exact GV.mem h.2.2.2 b a
theorem GV.grow{n a:Nat}(b:a≤n)(c:w.heap.size≤w'.heap.size):∀{l:List Nat},GV n w l→GV a w' l
 |[],_=>trivial
 |_::_,h=>⟨Nat.le_trans b h.1,Nat.lt_of_lt_of_le h.2.1 c,h.2.2.1,GV.grow b c h.2.2.2⟩
theorem Hp.MI(h:Hp F B w0 L w):∀{l:List Nat},Hp F B w0 L w'→GV w.heap.size w' l→Hp F B w0 (l.map some++L) w'
 |[],c,_=>c
 |b::l,c,a=>by
  have d:=Hp.MI h c a.2.2.2;refine⟨d.ch,fun k f=>?_,?_,h.ff⟩
  ·rcases List.mem_cons.1 f with e|f
   ·cases e;exact⟨a.2.1,fun p=>absurd (h.ff _ p) (by have:=h.sz;have:=a.1;omega),fun n=>absurd n (by have:=h.sz;have:=a.1;omega)⟩
   ·exact d.lo k f
  ·have key:∀(j:Nat) (x:Nat),(l.map some++L)[j]?=some (some x)→x≠b:=fun j x q e=>by
    subst e;have hm:=List.mem_of_getElem? q;rcases List.mem_append.1 hm with hm|hm
    ·obtain⟨y,r,e⟩:=List.mem_map.1 hm;cases e;have:=List.all_eq_true.1 a.2.2.1 x r;rw[Nat.beq_refl] at this;cases this
    ·have:=(h.lo x hm).1;have:=a.1;omega
   intro i j x o hi g;cases i with
   |zero=>
    cases j with
    |zero=>exact o rfl
    |succ j=>
     have m:b=x:=by simpa using hi
     exact key j x (by simpa using g) m.symm
   |succ i=>
    cases j with
    |zero=>
     have m:b=x:=by simpa using g
     exact key i x (by simpa using hi) m.symm
    |succ j=>exact d.ap i j x (by omega) (by simpa using hi) (by simpa using g)
theorem Hp.Lm(h:Hp F B w0 L w)(g:Ext w w'){l:List Nat}(a:GV w.heap.size w' l):Hp F B w0 (l.map some++L) w':=h.MI (h.ext g) a
theorem EA{n0:Nat}{l:List Nat}(hm:Mv w (ZZ F B Z n0 L) w' (ZZ F B Z n0 L))(d:GV w.heap.size w' l):Mv w (ZZ F B Z n0 L) w' (ZZ F B Z n0 (l.map some++L)):=
 ⟨hm.size,fun k c b=>⟨(hm.stay k c b).1.imp id fun⟨f,g⟩=>⟨f,fun a=>by
  rcases List.mem_append.1 a with a|a
  ·obtain⟨y,h,e⟩:=List.mem_map.1 a;cases e;have:=(d.mem k h).1;omega
  ·exact g a⟩,(hm.stay k c b).2⟩⟩
theorem Ot{b c:Nat}(f:w.heap.size≤b)(a:b<w'.heap.size)(g:w.heap.size≤c)(d:c<w'.heap.size)(e:b≠c):GV w.heap.size w' [b,c]:=
 ⟨f,a,by
  have:Nat.beq b c=false:=by
   cases h:Nat.beq b c with
   |false=>rfl
   |true=>exact absurd (Nat.eq_of_beq_eq_true h) e
  simp[this],g,d,rfl,trivial⟩
theorem Hp.Qa (h:Hp F B w0 L w):∀(l:List Nat) (c:List Nat),FW L c (l.map some)→IH c=true→(∀b∈l,w0.heap.size≤b)→GV w0.heap.size w l
 |[],_,_,_,_=>trivial
 |b::l,[],a,_,_=>a.elim
 |b::l,j::c,a,e,d=>by
  simp only[IH,Bool.and_eq_true] at e;refine⟨d b (List.mem_cons_self ..),(h.lo b (List.mem_of_getElem? a.1)).1,?_,h.Qa l c a.2 e.2 fun x f=>d x (List.mem_cons_of_mem _ f)⟩;rw[List.all_eq_true];intro x f;cases i:Nat.beq b x with
  |false=>rfl
  |true=>
   have g:=Nat.eq_of_beq_eq_true i;subst g;have k:=h.Bq (F':=FN) j a.1 c e.1 a.2 (fun _ h=>h.elim);exact absurd (.inr (List.mem_map.2 ⟨b,f,rfl⟩)) k
end
section
variable{P:Program}{N:Nat}{Q:Exit→Act→World→Prop}{a:Act}{l:Env}{w:World}
def Ln(a:Act):Act:={a with defers:=[]}
theorem JO(a:Act):∀l:Env,BM (Ln a) l=Ln (BM a l)
 |[]=>rfl
 |(d,v)::l=>by simp only[BM,JO a l];rfl
theorem K5{D:Nat}{fn:Func}{R:Value→World→Prop}(c:w.heap[D]?=some (.deferred (some [])))(h:∀w',Gg D w w'→LV X0 N (bodyPost P fn (fun e w'=>∃v,e=.returned v∧R v w')) .ret (Ln a) l w'):
  LV (X1 D) N (PM P fn R) .ret a l w:=fun s=>by
 have d:St X0 N (Ln a) l:=⟨s.sz,rfl,s.lt⟩;obtain⟨_,v,b,f⟩:=h _ (Gi w D (.deferred none)) d;show LeavesInM Fence.wide 0 P fn _ _ (BM a l).defers .returning w;rw[Db,show a.defers=mark D from s.df];refine⟨by simp,.inl ⟨D,_,rfl,run_takeDeferred c,?_⟩⟩;rw[JO] at b;exact⟨v,b,f⟩
theorem NF{D:Nat}{fn:Func}{R:Value→World→Prop}(c:w.heap[D]?=some (.deferred (some [])))(h:∀w',Gg D w w'→LV X0 N (bodyPost P fn (fun e w'=>∃v,e=.returned v∧R v w')) .normal (Ln a) l w'):
  LV (X1 D) N (PM P fn R) .normal a l w:=fun s=>by
 have d:St X0 N (Ln a) l:=⟨s.sz,rfl,s.lt⟩;obtain⟨_,v,b,f⟩:=h _ (Gi w D (.deferred none)) d;show LeavesInM Fence.wide 0 P fn _ _ (BM a l).defers .returning w;rw[Db,show a.defers=mark D from s.df];refine⟨by simp,.inl ⟨D,_,rfl,run_takeDeferred c,?_⟩⟩;rw[JO] at b;exact⟨v,b,f⟩
end
theorem NG{α:Type}{b:Bool}{x:Option α}{r:α}(h:cond b none x=some r):b=false∧x=some r:=by
 cases b with
 |true=>cases h
 |false=>exact⟨rfl,h⟩
def CX(xs:List Int):List Int:=xs.mergeSort fun x y=>decide (x≤y)
theorem H8(xs:List Int):(CX xs).length=xs.length:=List.length_mergeSort _
theorem O3{w:World}{Z:Nat→Prop}:∀{Ba:List (List Value)} {xs:List Int},R2 (Ay .i64) w Z Ba xs→Ba.flatten=B5 xs
 |[],[],_=>rfl
 |c::Ba,x::xs,h=>by
  have a:c=[.int .i64 x]:=h.1;rw[List.flatten_cons,O3 h.2,a];rfl
 |[],_::_,h=>h.elim
 |_::_,[],h=>h.elim
theorem O4{w:World}{Z:Nat→Prop}:∀xs:List Int,R2 (Ay .i64) w Z (xs.map fun x=>[.int .i64 x]) xs
 |[]=>trivial
 |_::xs=>⟨rfl,O4 xs⟩
theorem Qb(xs:List Int):(xs.map fun x=>[Value.int .i64 x]).flatten=B5 xs:=by
 induction xs with
 |nil=>rfl
 |cons x xs ih=>rw[List.map_cons,List.flatten_cons,ih];rfl
theorem Ou{t:TypeId}{n0:Nat}{w:World}{Z:Nat→Prop}{A:Option Addr}{c:Nat}{xs:List Int}(h:AF (Ay .i64) t n0 w Z A c xs):DD w n0 t 1 A xs.length c (B5 xs):=by
 obtain⟨Ba,a,b⟩:=h;rw[←O3 a];exact b
theorem J9{t:TypeId}{n0:Nat}{w:World}{Z:Nat→Prop}{A:Option Addr}{c:Nat}{xs:List Int}(h:DD w n0 t 1 A xs.length c (B5 xs)):AF (Ay .i64) t n0 w Z A c xs:=
 ⟨_,O4 xs,by rw[Qb];exact h⟩
theorem Tw{α β:Type}{x:Option β}{f:α→Option β}{r:β}(h:Option.elim none x f=some r):x=some r:=h
theorem Tx{α β:Type}{a:α}{x:Option β}{f:α→Option β}{r:β}(h:Option.elim (some a) x f=some r):f a=some r:=h
theorem I8{F:Nat→Prop}{b:Nat}{L:List (Option Nat)}(h:¬F b∧some b∉L):¬F b∧some b∉L++[none]:=⟨h.1,fun hm=>by
 rcases List.mem_append.1 hm with a|a
 ·exact h.2 a
 ·simp at a⟩
theorem Bb.NH{F:Nat→Prop}{C:List (Option Nat)}{o:Option Nat}{w w':World}(g:Bb (FU F (C++[o]++[none])) w w'):Bb (FU (FU F C) [o]) w w':=g.mono fun k h=>by
 rcases h with h|h
 ·exact .inl (.inl h)
 ·rcases List.mem_append.1 h with a|a
  ·rcases List.mem_append.1 a with b|b
   ·exact .inl (.inr b)
   ·exact .inr b
  ·simp at a
theorem Sl.QS{α β:Type}{e:DO α}{ev:β→Value}{F:Nat→Prop}{B L:List (Option Nat)}{Z:Nat→Prop}{n0 r n:Nat}{w:World}{i:List (List Int×β)}{A:Option Addr}{c:Nat}{xs:List α}
  (j:∀w Z w' Z' cs x,e.R w Z cs x→e.R w' Z' cs x)(hm:B8 ev w r n i)(h:Sl e w (ZZ F B Z n0 L) A c xs):Sl e w (ZZ F B Z n0 (some r::L)) A c xs:=by
 obtain⟨k,m,Ba,p,d⟩:=h;refine⟨k,m,Ba,p.free j,?_⟩;rcases d with d|⟨b,o,q,s,t,f⟩
 ·exact .inl d
 ·cases g:Ba.flatten with
  |nil=>exact .inl rfl
  |cons u l=>
   rw[g] at f;refine .inr ⟨b,o,q,s.imp id fun⟨v,y⟩=>⟨v,fun a=>?_⟩,t,f⟩;rcases List.mem_cons.1 a with e|a
   ·cases e;obtain⟨es,aA,z,_⟩:=hm;have:=f 0 u rfl;unfold World.cell? at this;simp[z] at this
   ·exact y a
section
variable{P:Program}{N:Nat}{a:Act}{l:Env}{w:World}
theorem GW{fn:Func}{r1 r2 n:ResultVar}{v v' Iv:Value}{R:Value→World→Prop}(g:fn.results= #[r1,r2,n])(x:MA P a l w r1 v)(q:MA P a l w r2 v')(i:MA P a l w n Iv)(h:R (.tuple #[v,v',Iv]) w):
  LV X0 N (bodyPost P fn (fun e w'=>∃v,e=.returned v∧R v w')) .ret a l w:=fun s=>by
 refine bodyPost_ret (v:=.tuple #[v,v',Iv]) ?_ (by rw[Db,s.df]) ⟨_,rfl,h⟩;cases r1 with
 |tmp t0=>
  have d:(BM a l).tmps.getD t0 undef=v:=ee s x;simp only[Array.getD_eq_getD_getElem?] at d;cases r2 with
  |tmp t1=>
   have c:(BM a l).tmps.getD t1 undef=v':=ee s q;simp only[Array.getD_eq_getD_getElem?] at c;cases n with
   |tmp t2=>
    have b:(BM a l).tmps.getD t2 undef=Iv:=ee s i;simp only[Array.getD_eq_getD_getElem?] at b;simp[results,g,d,c,b]
   |cell j t2=>
    obtain⟨f,k,m⟩:=i;have b:(BM a l).tmps.getD j undef=.pointer (some f):=ee s k;simp only[Array.getD_eq_getD_getElem?] at b;simp[results,g,d,c,b,asAddr,m]
  |cell t t1=>
   obtain⟨o,u,p⟩:=q;have c:(BM a l).tmps.getD t undef=.pointer (some o):=ee s u;simp only[Array.getD_eq_getD_getElem?] at c;cases n with
   |tmp t2=>
    have b:(BM a l).tmps.getD t2 undef=Iv:=ee s i;simp only[Array.getD_eq_getD_getElem?] at b;simp[results,g,d,c,asAddr,p,b]
   |cell j t2=>
    obtain⟨f,k,m⟩:=i;have b:(BM a l).tmps.getD j undef=.pointer (some f):=ee s k;simp only[Array.getD_eq_getD_getElem?] at b;simp[results,g,d,c,asAddr,p,b,asAddr,m]
 |cell z t0=>
  obtain⟨y,aA,r⟩:=x;have d:(BM a l).tmps.getD z undef=.pointer (some y):=ee s aA;simp only[Array.getD_eq_getD_getElem?] at d;cases r2 with
  |tmp t1=>
   have c:(BM a l).tmps.getD t1 undef=v':=ee s q;simp only[Array.getD_eq_getD_getElem?] at c;cases n with
   |tmp t2=>
    have b:(BM a l).tmps.getD t2 undef=Iv:=ee s i;simp only[Array.getD_eq_getD_getElem?] at b;simp[results,g,d,asAddr,r,c,b]
   |cell j t2=>
    obtain⟨f,k,m⟩:=i;have b:(BM a l).tmps.getD j undef=.pointer (some f):=ee s k;simp only[Array.getD_eq_getD_getElem?] at b;simp[results,g,d,asAddr,r,c,b,asAddr,m]
  |cell t t1=>
   obtain⟨o,u,p⟩:=q;have c:(BM a l).tmps.getD t undef=.pointer (some o):=ee s u;simp only[Array.getD_eq_getD_getElem?] at c;cases n with
   |tmp t2=>
    have b:(BM a l).tmps.getD t2 undef=Iv:=ee s i;simp only[Array.getD_eq_getD_getElem?] at b;simp[results,g,d,asAddr,r,c,asAddr,p,b]
   |cell j t2=>
    obtain⟨f,k,m⟩:=i;have b:(BM a l).tmps.getD j undef=.pointer (some f):=ee s k;simp only[Array.getD_eq_getD_getElem?] at b;simp[results,g,d,asAddr,r,c,asAddr,p,b,asAddr,m]
end
theorem Su{w w':World}{Z Z' Q:Nat→Prop}(h:Mv w Z w' Z'):Mv w (fun b=>Z b∧Q b) w' (fun b=>Z' b∧Q b):=⟨h.size,fun b a c=>⟨⟨(h.stay b a.1 c).1,a.2⟩,(h.stay b a.1 c).2⟩⟩
def eF(n:Nat):DO (Bool×List Int):=
 ⟨1,fun w Z cs x=>∃A c,cs=[.slice A x.2.length c]∧Sl (Ay .i64) w (fun b=>Z b∧(x.1=true→n≤b)) A c x.2,fun⟨_,_,h,_⟩=>by rw[h];rfl,fun⟨_,_,h,_⟩=>by rw[h];simp[Value.oneCell'],
  fun⟨A,c,a,d⟩ g=>⟨A,c,a,d.mv (Su g)⟩⟩
theorem Sv{n:Nat}{w:World}{Z:Nat→Prop}:∀{Ba:List (List Value)} {xs:List (List Int)},R2 (Bz (Ay .i64)) w Z Ba xs→R2 (eF n) w Z Ba (xs.map fun x=>(false,x))
 |[],[],_=>trivial
 |_::_,_::_,⟨⟨A,c,a,b⟩,h⟩=>⟨⟨A,c,a,b.mv (GC fun _ d _=>⟨d,fun e=>by cases e⟩)⟩,Sv h⟩
 |[],_::_,h=>h.elim
 |_::_,[],h=>h.elim
theorem Sw{n:Nat}{w:World}{Z:Nat→Prop}:∀{Ba:List (List Value)} {xs:List (Bool×List Int)},(∀y∈xs,y.1=true)→R2 (eF n) w Z Ba xs→R2 (Bz (Ay .i64)) w (fun b=>n≤b) Ba (xs.map Prod.snd)
 |[],[],_,_=>trivial
 |_::_,x::_,a,⟨⟨A,c,d,e⟩,h⟩=>⟨⟨A,c,d,e.mv (GC fun _ f _=>f.2 (a x (List.mem_cons_self ..)))⟩,Sw (fun y g=>a y (List.mem_cons_of_mem _ g)) h⟩
 |[],_::_,_,h=>h.elim
 |_::_,[],_,h=>h.elim
theorem Ty{t n0 n:Nat}{w:World}{Z:Nat→Prop}{A:Option Addr}{c:Nat}{xs:List (List Int)}(h:AF (Bz (Ay .i64)) t n0 w Z A c xs):AF (eF n) t n0 w Z A c (xs.map fun x=>(false,x)):=by
 obtain⟨Ba,a,b⟩:=h;exact⟨Ba,Sv a,by rw[List.length_map];exact b⟩
theorem Tz{t n0 n:Nat}{w:World}{Z:Nat→Prop}{A:Option Addr}{c:Nat}{xs:List (Bool×List Int)}(a:∀y∈xs,y.1=true)(h:AF (eF n) t n0 w Z A c xs):AF (Bz (Ay .i64)) t n0 w (fun b=>n≤b) A c (xs.map Prod.snd):=by
 obtain⟨Ba,d,e⟩:=h;exact⟨Ba,Sw a d,by rw[List.length_map];exact e⟩
theorem Sx{a:List (Bool×List Int)}{k:Nat}{x:List Int}(h:(a.map Prod.snd)[k]?=some x):∃b,a[k]?=some (b,x):=by
 rw[List.getElem?_map] at h;cases c:a[k]? with
 |none=>rw[c] at h;cases h
 |some y=>rw[c] at h;cases h;exact⟨y.1,rfl⟩
end Go.Proofs.YtkljfdkmjdjpfaaGreat
end
section
namespace Go.Proofs.YtkljfdkmjdjpfaaGreat
open Go.RowKit
theorem Gw{b:Nat}{t:TypeId}:∀(l:List Value) (o:Nat) {w:World} {cs:Array Value},Bk w b t cs→Bk (w.setCells b o l) b t (setCells cs o l)∧w.grownBy (w.setCells b o l) (some b)
 |[],o,w,cs,h=>⟨h,World.grownBy.refl w _⟩
 |v::l,o,w,cs,h=>by
  have c:Bk (w.setCell ⟨b,o,none⟩ v) b t (cs.setIfInBounds o v):=by
   unfold Bk at h⊢;simp[World.setCell,Array.getElem?_modify,h]
  have g1:Gg b w (w.setCell ⟨b,o,none⟩ v):=⟨rfl,rfl,rfl,by simp,fun k _ a=>Below.heap_setCell w ⟨b,o,none⟩ v k (by simpa using a)⟩;have ih:=Gw l (o+1) c;exact⟨ih.1,World.grownBy.trans g1 ih.2⟩
def CD (xs:List Int) (i:Int) (x:Int):List Int:=xs.take i.toNat++x::xs.drop i.toNat
theorem Ks(xs:List Int)(i:Int)(x:Int):(CD xs i x).length=xs.length+1:=by
 unfold CD;simp;omega
theorem Qc{w w':World}{b:Nat}{o:Obj}(a:b=w.heap.size)(g:World.grownBy (w.alloc o) w' (some b)):Ext w w':=
 ⟨g.os,g.tape,g.output,by have:=g.size;simp at this;omega,fun k c _=>by
  have d:=g.block k (by simp;omega) (by rw[a];intro e;cases e;omega);rw[d];exact(World.grownBy_alloc w o none).block k c (by simp)⟩
theorem HO{w:World}{base t g c:Nat}{cur:Array Value}{l:List Value}(a:base≤g)(d:Bk w g t cur)(e:l.length≤c)(f:c≤maxLen)(i:cur.size=c)(h:∀j,j<l.length→cur[j]?=l[j]?):DD w base t 1 (some ⟨g,0,none⟩) l.length c l:=by
 refine⟨by simp,.inr ⟨g,c,cur,rfl,a,d,e,f,by simp[i],?_⟩⟩;rw[Nat.mul_one];apply List.ext_getElem?;intro j;rw[List.getElem?_take];split
 ·rename_i b
  rw[←h j b];simp
 ·rename_i b
  rw[List.getElem?_eq_none (by omega)]
theorem KF{b:Bool}(h:b=false)(k:b=true):False:=by rw[h] at k;cases k
section
variable{F F':Nat→Prop}{B:List (Option Nat)}{w0 w w' Bj:World}{Z:Nat→Prop}{L M:List (Option Nat)}
theorem I9(h:Ext w w'){r:Option Nat}(g:w'.grownBy Bj r)(b:∀k,r=some k→w.heap.size≤k):Ext w Bj:=
 ⟨g.os.trans h.os,g.tape.trans h.tape,g.output.trans h.output,Nat.le_trans h.size g.size,fun k a _=>(g.block k (Nat.lt_of_lt_of_le a h.size) (fun e=>by have:=b k e.symm;omega)).trans (h.block k a (by simp))⟩
theorem G3{x y:Option Nat}{n:Nat}(a:∀k,x=some k→n≤k)(b:n≤w'.heap.size)(c:∀k,y=some k→(x=some k∨w'.heap.size≤k)∧k<Bj.heap.size):∀k,y=some k→n≤k:=fun k d=>
 (c k d).1.elim (a k) (fun h=>Nat.le_trans b h)
theorem MJ{b:Nat}{t:TypeId}{cs:Array Value}(nb:Iw w' Bj b t cs):∀k,ob (some ⟨b,0,none⟩)=some k→((none:Option Nat)=some k∨w'.heap.size≤k)∧k<Bj.heap.size:=fun k e=>by
 cases e;exact⟨.inr (Nat.le_of_eq nb.Ev.symm),nb.bk.lt⟩
theorem Sy{α:Type}{e:DO α}{t:TypeId}{A:Option Addr}{c:Nat}{xs:List α}{Z:Nat→Prop}(h:AF e t w'.heap.size Bj Z A c xs):∀k,ob A=some k→((none:Option Nat)=some k∨w'.heap.size≤k)∧k<Bj.heap.size:=fun k e=>⟨.inr (h.ge k e),h.Jo k e⟩
end
def eT:DO (Bool×(Option Addr×Nat)×List Int):=
 ⟨1,fun w Z cs x=>∃A c,cs=[.slice A x.2.2.length c]∧(x.1=true→A=x.2.1.1∧c=x.2.1.2)∧(x.1=false→Sl (Ay .i64) w Z A c x.2.2),fun⟨_,_,h,_⟩=>by rw[h];rfl,fun⟨_,_,h,_⟩=>by rw[h];simp[Value.oneCell'],
  fun⟨A,c,a,b,d⟩ g=>⟨A,c,a,b,fun e=>(d e).mv g⟩⟩
theorem Sz{w:World}{Z:Nat→Prop}:∀{Ba:List (List Value)} {xs:List (List Int)},R2 (Bz (Ay .i64)) w Z Ba xs→R2 eT w Z Ba (xs.map fun x=>(false,(none,0),x))
 |[],[],_=>trivial
 |_::_,_::_,⟨⟨A,c,a,b⟩,h⟩=>⟨⟨A,c,a,fun e=>(by cases e),fun _=>b⟩,Sz h⟩
 |[],_::_,h=>h.elim
 |_::_,[],h=>h.elim
theorem SA{w:World}{Z:Nat→Prop}:∀{Ba:List (List Value)} {xs:List (Bool×(Option Addr×Nat)×List Int)},(∀y∈xs,y.1=true→Sl (Ay .i64) w Z y.2.1.1 y.2.1.2 y.2.2)→R2 eT w Z Ba xs→R2 (Bz (Ay .i64)) w Z Ba (xs.map fun y=>y.2.2)
  |[],[],_,_=>trivial
  |_::_,x::_,b,⟨⟨A,c,d,e,f⟩,h⟩=>⟨by
      cases a:x.1 with
      |true=>
        obtain⟨rfl,rfl⟩:=e a;exact⟨_,_,d,b x (List.mem_cons_self ..) a⟩
      |false=>exact⟨A,c,d,f a⟩,SA (fun y g=>b y (List.mem_cons_of_mem _ g)) h⟩
  |[],_::_,_,h=>h.elim
  |_::_,[],_,h=>h.elim
theorem TA{t n0:Nat}{w:World}{Z:Nat→Prop}{A:Option Addr}{c:Nat}{xs:List (List Int)}(h:AF (Bz (Ay .i64)) t n0 w Z A c xs):AF eT t n0 w Z A c (xs.map fun x=>(false,(none,0),x)):=by
 obtain⟨Ba,a,b⟩:=h;exact⟨Ba,Sz a,by rw[List.length_map];exact b⟩
theorem TB{t n0:Nat}{w:World}{Z:Nat→Prop}{A:Option Addr}{c:Nat}{xs:List (Bool×(Option Addr×Nat)×List Int)}(a:∀y∈xs,y.1=true→Sl (Ay .i64) w Z y.2.1.1 y.2.1.2 y.2.2)(h:AF eT t n0 w Z A c xs):AF (Bz (Ay .i64)) t n0 w Z A c (xs.map fun y=>y.2.2):=by
 obtain⟨Ba,b,d⟩:=h;exact⟨Ba,SA a b,by rw[List.length_map];exact d⟩
def Iz (N i:Int):Nat→Int→List (List Int)→Option (List (List Int))
  |0,_,_=>none
  |a+1,k,s=>cond (decide (k<N)) (cond (k !=i) ((idx s (0:Int)).bind fun x=>(Gh (((x.length+([k]:List Int).length:Nat):Int)≤140737488355328/8)).bind fun _=>(idx s (0:Int)).bind fun _=>(i64 (k+1)).bind fun _=>Iz N i a (k+1) (s.set 0 (x++[k])))
      ((i64 (k+1)).bind fun _=>Iz N i a (k+1) s)) (some s)
theorem qz{X:Ctx}{N:Nat}{a:Act}{l:Env}(st:St X N a l):(BM a l).tmps.size=N:=(HC _ _).trans st.sz
theorem qd{X:Ctx}{N:Nat}{a:Act}{l:Env}(st:St X N a l):(BM a l).defers=X.ds:=(Db _ _).trans st.df
theorem sp{X:Ctx}{N:Nat}{a:Act}{l:Env}(st:St X N a l)(k:Nat){v:Value}(h:lk (sl a k) l k=v):sl (BM a l) k=v:=(Hq st k).trans h
theorem Hp.nb{F:Nat→Prop}{B L:List (Option Nat)}{w0 w w':World}{b:Nat}{t:TypeId}{cs:Array Value}(h:Hp F B w0 L w)(n:Iw w w' b t cs):Hp F B w0 (some b::L) w':=h.new n.gr (Nat.le_of_eq n.Ev.symm) (Nat.lt_of_lt_of_eq (Nat.lt_succ_self _) n.sz.symm)
theorem Hp.BK{F:Nat→Prop}{B L:List (Option Nat)}{w0 w w':World}{b:Nat}{t:TypeId}{cs:Array Value}(h:Hp F B w0 L w)(n:Iw w w' b t cs):w0.heap.size≤b:=by rw[n.Ev];exact h.sz
theorem Aw{F:Nat→Prop}{B L:List (Option Nat)}{Z:Nat→Prop}{w w':World}{n0 b:Nat}{t:TypeId}{cs:Array Value}(n:Iw w w' b t cs):Mv w (ZZ F B Z n0 L) w' (ZZ F B Z n0 (some b::L)):=DS n.gr (Nat.le_of_eq n.Ev.symm)
theorem X2{b c:Sort _}{p:b→c→Prop}{C:Prop}(h:∃a x1,p a x1)(k:∀a x1,p a x1→C):C:=h.elim fun a h=>h.elim fun x1 h=>k a x1 h
theorem X4{c d e f:Sort _}{p:c→d→e→f→Prop}{C:Prop}(h:∃a x1 x2 b,p a x1 x2 b)(k:∀a x1 x2 b,p a x1 x2 b→C):C:=h.elim fun a h=>h.elim fun x1 h=>h.elim fun x2 h=>h.elim fun b h=>k a x1 x2 b h
theorem Y2{a0 a1 r C:Prop}(h:a0∧a1∧r)(k:a0→a1→r→C):C:=h.elim fun a h=>h.elim fun x1 h=>k a x1 h
theorem Y4{a0 a1 a2 a3 r C:Prop}(h:a0∧a1∧a2∧a3∧r)(k:a0→a1→a2→a3→r→C):C:=h.elim fun a h=>h.elim fun x1 h=>h.elim fun x2 h=>h.elim fun b h=>k a x1 x2 b h
theorem Y8{a0 a1 a2 a3 a4 a5 a b r C:Prop}(h:a0∧a1∧a2∧a3∧a4∧a5∧a∧b∧r)(k:a0→a1→a2→a3→a4→a5→a→b→r→C):C:=h.elim fun c h=>h.elim fun x1 h=>h.elim fun x2 h=>h.elim fun d h=>h.elim fun e h=>h.elim fun f h=>h.elim fun g h=>h.elim fun i h=>k c x1 x2 d e f g i h
end Go.Proofs.YtkljfdkmjdjpfaaGreat
end
section
set_option linter.unusedVariables false
set_option linter.unusedSimpArgs false
namespace Go.Proofs.YtkljfdkmjdjpfaaGreat
open Go.RowKit Go.WideShapes
structure CI where
 Lo:Int
 Hi:Int
structure Aq where
 On:Int
 Bg:Int
 AN:Bool
structure AX where
 Au:Int
 AG:Int
 AN:Int
 B0:Int
 B6:Int
structure Ap where
 Ak:Int
 Ag:Int
 An:Int
 Av:Int
 Ae:List AX
structure A5 where
 Comes:List Int
 An:List Bool
structure Cj where
 Bx:Int
 BO:Int
 B2:Int
 B3:Int
 AS:List AX
 CY:List Bool
 known:List (List Int×Aq)
structure Hb where
 B9:Int
 day:Int
structure BC where
 a0:Int
 a1:Int
 a2:Int
 a3:Int
def BC.set(x:BC)(k:Nat)(v:Int):BC:=⟨if k=0 then v else x.a0,if k=1 then v else x.a1,if k=2 then v else x.a2,if k=3 then v else x.a3⟩
def BC.l(x:BC):List Int:=[x.a0,x.a1,x.a2,x.a3]
theorem BC.Uc(x:BC)(k:Nat)(v:Int)(h:k<4): #[.int .i64 (x.set k v).a0,.int .i64 (x.set k v).a1,.int .i64 (x.set k v).a2,.int .i64 (x.set k v).a3]=setCells #[.int .i64 x.a0,.int .i64 x.a1,.int .i64 x.a2,.int .i64 x.a3] k [.int .i64 v]:=by
 match k,h with
 |0,_=>rfl
 |1,_=>rfl
 |2,_=>rfl
 |3,_=>rfl
 |k+4,h=>omega
def Ck:DO Aq:=⟨3,fun _ _ cs x=>cs=[.int .i64 x.On,.int .i64 x.Bg,.bool x.AN],fun h=>by rw[h];rfl,fun h=>by rw[h];simp[Value.oneCell'],fun h _=>h⟩
def AJ:DO AX:=⟨5,fun _ _ cs x=>cs=[.int .i64 x.Au,.int .i64 x.AG,.int .i64 x.AN,.int .i64 x.B0,.int .i64 x.B6],fun h=>by rw[h];rfl,fun h=>by rw[h];simp[Value.oneCell'],fun h _=>h⟩
def H9:DO Ap:=⟨5,fun w Z cs x=>∃a b,cs=[.int .i64 x.Ak,.int .i64 x.Ag,.int .i64 x.An,.int .i64 x.Av,.slice a x.Ae.length b]∧Sl AJ w Z a b x.Ae,fun⟨_,_,h,_⟩=>by rw[h];rfl,fun⟨_,_,h,_⟩=>by rw[h];simp[Value.oneCell'],fun⟨a,b,h,c⟩ g=>⟨a,b,h,c.mv g⟩⟩
def F7:DO A5:=⟨2,fun w Z cs x=>∃a b c d,cs=[.slice a x.Comes.length b,.slice c x.An.length d]∧Sl (Ay .i64) w Z a b x.Comes∧Sl Bt w Z c d x.An,fun⟨_,_,_,_,h,_⟩=>by rw[h];rfl,fun⟨_,_,_,_,h,_⟩=>by rw[h];simp[Value.oneCell'],fun⟨a,b,c,d,h,h0,e⟩ g=>⟨a,b,c,d,h,h0.mv g,e.mv g⟩⟩
def NI:DO CI:=⟨2,fun _ _ cs x=>cs=[.int .i64 x.Lo,.int .i64 x.Hi],fun h=>by rw[h];rfl,fun h=>by rw[h];simp[Value.oneCell'],fun h _=>h⟩
def TD:DO BC:=⟨4,fun _ _ cs x=>cs=[.int .i64 x.a0,.int .i64 x.a1,.int .i64 x.a2,.int .i64 x.a3],fun h=>by rw[h];rfl,fun h=>by rw[h];simp[Value.oneCell'],fun h _=>h⟩
def K6(w:World)(Z:Nat→Prop)(q:Nat)(o:Option Nat):Option Cj→Prop
 |none=>Bk w q 162 #[.pointer none]∧o=none
 |some x=>∃(b r:Nat) (a:Option Addr) (c:Nat) (d:Option Addr) (e:Nat),Bk w q 162 #[pt b 0]∧Rz w Z (some ⟨b,0,none⟩) [I x.Bx,I x.BO,I x.B2,I x.B3,.slice a x.AS.length c,.slice d x.CY.length e,.map (some r)]∧Sl AJ w Z a c x.AS∧Sl Bt w Z d e x.CY∧B8 (fun x:Aq=>.agg #[I x.On,I x.Bg,.bool x.AN]) w r 2 x.known∧o=some r
theorem K6.keep{w w':World}{Z Z':Nat→Prop}{q:Nat}{o:Option Nat}:∀{x:Option Cj},K6 w Z q o x→Mv w Z w' Z'→w'.heap[q]?=w.heap[q]?→(∀k,o=some k→w'.heap[k]?=w.heap[k]?)→K6 w' Z' q o x
 |none,h,_,a,_=>⟨h.1.Fu a,h.2⟩
 |some x,⟨b,r,e,f,g,i,j,l,h0,m,hm,d⟩,c,a,n=>⟨b,r,e,f,g,i,j.Fu a,l.mv c,h0.mv c,m.mv c,hm.Fu (n r d),d⟩
end Go.Proofs.YtkljfdkmjdjpfaaGreat
end
section
set_option linter.unusedVariables false
set_option linter.unusedSimpArgs false
namespace Go.Proofs.YtkljfdkmjdjpfaaGreat
open Go.RowKit Go.WideShapes
def DW(d:Nat)(a:Int)(b:Int)(c:Int):Option (Bool):=
 cond (decide (b≤a)) (some (decide (a≤c))) (some (false))
def EH(b:Nat)(a:CI):Option (Int):=
 (i64 (a.Hi-a.Lo)).bind fun _=>(i64 ((a.Hi-a.Lo)+1)).bind fun _=>some ((a.Hi-a.Lo)+1)
def GD(c:Nat)(a:CI)(b:Int):Option (Bool):=
 cond (decide ((0:Int)≤a.Lo)) (cond (decide (a.Lo≤a.Hi)) (some (decide (a.Hi≤b))) (some (false))) (some (false))
def Gs(a:Nat)(b:Int):Option (Bool):=
 (DW a b 1 5).bind fun r1=>some (r1)
def DF(d:Nat)(a:Int)(b:Int)(c:Int):Option (Bool):=
 cond (decide (b≤a)) (some (decide (a≤c))) (some (false))
def E2(b:Nat)(a:CI):Option (Int):=
 (i64 (a.Hi-a.Lo)).bind fun _=>(i64 ((a.Hi-a.Lo)+1)).bind fun _=>some ((a.Hi-a.Lo)+1)
def D2(c:Nat)(b:Int)(a:Int):Option (Bool):=
 (LU .u64 a).bind fun _=>(MC b a).bind fun _=>(rem (EV b a) (2:Int)).bind fun _=>some (((EV b a)%2)==1)
def Er(d:Nat)(a:Int)(b:Int)(c:Bool):Option (Aq):=
 some ((⟨a,b,c⟩:Aq))
def Fe(b:Nat)(a:Ap)(c:Int):Option (Bool):=
 (i64 ((a.Ae.length:Int)-1)).bind fun _=>(DW b c 0 ((a.Ae.length:Int)-1)).bind fun d=>some (d)
def C1(c:Nat)(b:AX)(a:Aq):Option (Bool):=
 cond (a.AN) (some (decide (a.Bg≤b.B6))) (some (false))
def DT(a:Nat)(b:AX)(c:Aq):Option (Bool):=
 (C1 a b c).bind fun d=>some (!d)
end Go.Proofs.YtkljfdkmjdjpfaaGreat
end
section
set_option linter.unusedVariables false
set_option linter.unusedSimpArgs false
namespace Go.Proofs.YtkljfdkmjdjpfaaGreat
open Go.RowKit Go.WideShapes
def Cf(e:Nat)(c:Ap)(f:Int)(b:Int):Nat→Bool→Int→Option (Bool)
 |0,_,_=>none
 |g+1,d,a=>(i64 (b+c.Av)).bind fun _=>cond (decide (a≤(b+c.Av))) (cond (d) (cond (decide (a≤c.Ak)) ((D2 e f a).bind fun h=>(i64 (a+1)).bind fun _=>Cf e c f b g h (a+1)) ((i64 (a+1)).bind fun _=>Cf e c f b g false (a+1))) ((i64 (a+1)).bind fun _=>Cf e c f b g false (a+1))) (some (d))
def Ca(e:Nat)(d:Ap)(f:Int)(b:Int):Nat→Bool→Int→Option (Bool)
 |0,_,_=>none
 |g+1,c,a=>(i64 (b+d.Av)).bind fun _=>cond (decide (a≤(b+d.Av))) (cond (c) (cond (decide (a≤d.Ak)) ((D2 e f a).bind fun h=>(i64 (a+1)).bind fun _=>Ca e d f b g h (a+1)) ((i64 (a+1)).bind fun _=>Ca e d f b g false (a+1))) ((i64 (a+1)).bind fun _=>Ca e d f b g false (a+1))) (some (c))
def Ct(c:Nat)(d:Ap)(e:Int):Nat→Int→Int→Option ((Bool)⊕(Int))
 |0,_,_=>none
 |f+1,b,a=>cond (decide (a≤d.Ak)) ((D2 c e a).bind fun g=>cond (g) ((i64 (b+1)).bind fun _=>(Cf c d e a c true a).bind fun h=>cond (h) (some (.inl false)) ((i64 (a+1)).bind fun _=>Ct c d e f (b+1) (a+1))) ((Ca c d e a c true a).bind fun z20=>cond (z20) (some (.inl false)) ((i64 (a+1)).bind fun _=>Ct c d e f b (a+1)))) (some (.inr b))
def D0(b:Nat)(c:Ap)(d:Int):Option (Bool):=
 (Ct b c d b (0:Int) (0:Int)).bind fun z=>Sum.elim (fun a=>some (a)) (fun a=>some (decide (a≤c.An))) z
def Cz(d:Nat)(c:Ap):Nat→(List Int)→Int→Option ((List Int))
 |0,_,_=>none
 |e+1,b,a=>(i64 (c.Ak+1)).bind fun _=>(LU .u64 (c.Ak+1)).bind fun _=>(Lj (1:Int) (c.Ak+1)).bind fun _=>cond (decide (a<(GS (1:Int) (c.Ak+1)))) ((D0 d c a).bind fun f=>cond (f) ((Gh (((b.length+[a].length:Nat):Int)≤140737488355328/8)).bind fun _=>(i64 (a+1)).bind fun _=>Cz d c e (b++[a]) (a+1)) ((i64 (a+1)).bind fun _=>Cz d c e b (a+1))) (some (b))
def Ec(a:Nat)(b:Ap):Option ((List Int)):=
 (Cz a b a ([]:List Int) (0:Int)).bind fun z2=>some (z2)
def Dr(d:Nat)(c:Ap):Nat→Int→Int→Option (Int)
 |0,_,_=>none
 |g+1,b,a=>cond (decide (a<(c.Ae.length:Int))) ((idx c.Ae a).bind fun e=>(E2 d (⟨e.Au,e.AG⟩:CI)).bind fun f=>(i64 (b*f)).bind fun _=>(i64 (a+1)).bind fun _=>Dr d c g (min (3000:Int) (b*f)) (a+1)) (some (b))
def Dz(a:Nat)(b:Ap):Option (Int):=
 (Ec a b).bind fun r2=>(Dr a b a (r2.length:Int) (0:Int)).bind fun z4=>some (z4)
def C5(d:Nat)(c:Ap):Nat→Int→Option ((Int)⊕(Unit))
 |0,_=>none
 |h+1,a=>cond (decide (a<(c.Ae.length:Int))) ((idx c.Ae a).bind fun b=>cond (decide (b.Au<0)) (some (.inl (1:Int))) (cond (decide (b.AG<b.Au)) (some (.inl (1:Int))) (cond (decide (c.Ak<b.AG)) (some (.inl (1:Int))) ((DF d b.AN 1 5).bind fun e=>cond (!e) (some (.inl (1:Int))) ((DF d b.B0 1 5).bind fun f=>cond (!f) (some (.inl (1:Int))) ((DF d b.B6 0 c.Ak).bind fun g=>cond (!g) (some (.inl (1:Int))) ((i64 (a+1)).bind fun _=>C5 d c h (a+1)))))))) (some (.inr ()))
def D5(b:Nat)(a:Ap):Option (Int):=
 cond (decide ((9:Int)<a.Ak)) (some (3)) (cond (decide ((2:Int)<a.Ag)) (some (3)) (cond (decide ((4:Int)<(a.Ae.length:Int))) (some (3)) (cond (decide (a.Ak<0)) (some (1)) (cond (decide (a.Ag<1)) (some (1)) ((i64 (a.Ak+1)).bind fun _=>(DF b a.An 0 (a.Ak+1)).bind fun f=>cond (!f) (some (1)) ((i64 (a.Ak+1)).bind fun _=>(DF b a.Av 0 (a.Ak+1)).bind fun d=>cond (!d) (some (1)) ((C5 b a b (0:Int)).bind fun z=>Sum.elim (fun c=>some (c)) (fun c=>(Dz b a).bind fun e=>cond (decide ((1000:Int)<e)) (some (3)) (some (0))) z)))))))
def EB(b:Nat)(c:Ap)(a:AX):Option (Bool):=
 (GD b (⟨a.Au,a.AG⟩:CI) c.Ak).bind fun e=>cond (e) ((Gs b a.AN).bind fun f=>cond (f) ((Gs b a.B0).bind fun g=>cond (g) ((DW b a.B6 0 c.Ak).bind fun d=>some (d)) (some (false))) (some (false))) (some (false))
def Ds(b:List Int)(c:List Int):Nat→Int→Option ((Bool)⊕(Unit))
 |0,_=>none
 |d+1,a=>cond (decide (a<(b.length:Int))) ((idx b a).bind fun e=>(idx c a).bind fun f=>cond (e !=f) (some (.inl false)) ((i64 (a+1)).bind fun _=>Ds b c d (a+1))) (some (.inr ()))
def E3(d:Nat)(b:List Int)(c:List Int):Option (Bool):=
 cond ((b.length:Int) !=(c.length:Int)) (some (false)) ((Ds b c d (0:Int)).bind fun z=>Sum.elim (fun a=>some (a)) (fun a=>some (true)) z)
def Cu(b:Nat)(a:Int):Option (Ap):=
 some ((⟨5,1,a,1,[(⟨0,0,2,2,2⟩:AX),(⟨1,1,2,1,5⟩:AX)]⟩:Ap))
def FY(b:Nat)(a:Int):Option (A5):=
 (JJ (6:Int) 1).bind fun _=>(idx (List.replicate (6:Int).toNat false) a).bind fun c=>some ((⟨[0,1],(List.replicate (6:Int).toNat false).set a.toNat true⟩:A5))
def FZ(f:Nat)(a:List Aq)(b:Aq)(c:Aq):Option (Bool):=
 cond ((a.length:Int)==2) ((idx a (0:Int)).bind fun d=>cond (G9 [.inl d.On,.inl d.Bg,.inr d.AN] [.inl b.On,.inl b.Bg,.inr b.AN]) ((idx a (1:Int)).bind fun e=>some (G9 [.inl e.On,.inl e.Bg,.inr e.AN] [.inl c.On,.inl c.Bg,.inr c.AN])) (some (false))) (some (false))
def Gk(b:Nat)(a:CI):Option (CI):=
 some (a)
def Dt(f:Nat)(e:Ap):Nat→Int→(List AX)→Option ((List AX))
 |0,_,_=>none
 |g+1,b,a=>cond (decide (b<(e.Ae.length:Int))) ((idx e.Ae b).bind fun c=>(Gk f (⟨c.Au,c.AG⟩:CI)).bind fun d=>(Gh (((a.length+[(⟨d.Lo,d.Hi,c.AN,c.B0,c.B6⟩:AX)].length:Nat):Int)≤140737488355328/40)).bind fun _=>(i64 (b+1)).bind fun _=>Dt f e g (b+1) (a++[(⟨d.Lo,d.Hi,c.AN,c.B0,c.B6⟩:AX)])) (some (a))
def CT(b:Nat)(a:Ap):Option (Ap):=
 (Dt b a b (0:Int) ([]:List AX)).bind fun z5=>some ((⟨a.Ak,a.Ag,a.An,a.Av,z5⟩:Ap))
def EO(a:Nat)(b:Ap):Option (Int):=
 (D5 a b).bind fun r2=>some (r2)
def E4(b:Nat)(a:Ap):Option (Bool):=
 cond (decide ((a.Ae.length:Int)≤6)) ((D5 b a).bind fun c=>cond (c !=0) (some (true)) ((Dz b a).bind fun d=>some (decide (d≤60)))) (some (false))
end Go.Proofs.YtkljfdkmjdjpfaaGreat
end
section
set_option linter.unusedVariables false
set_option linter.unusedSimpArgs false
namespace Go.Proofs.YtkljfdkmjdjpfaaGreat
open Go.RowKit Go.WideShapes
def En{a:Type}(e:Nat)(b:a→AX→Option (Bool×a))(c:AX)(d:a):Option (Bool×a):=
 (b d c).bind fun r2=>some ((!r2.1,r2.2))
def CS{c:Type}(d:c→AX→Option (Bool×c))(e:List AX):Nat→Int→c→Option ((Int×c)⊕(c))
 |0,_,_=>none
 |g+1,a,b=>cond (decide (a<(e.length:Int))) ((idx e a).bind fun h=>(d b h).bind fun f=>cond (f.1) (some (.inl (a,f.2))) ((i64 (a+1)).bind fun _=>CS d e g (a+1) f.2)) (some (.inr b))
def E1{b:Type}(d:Nat)(c:b→AX→Option (Bool×b))(e:List AX)(f:b):Option (Int×b):=
 (CS c e d (0:Int) f).bind fun z=>Sum.elim (fun a=>some ((a.1,a.2))) (fun a=>some (((-1),a))) z
def Eu{a:Type}(c:Nat)(b:a→AX→Option (Bool×a))(d:List AX)(e:a):Option (Bool×a):=
 (E1 c b d e).bind fun r1=>some ((decide ((0:Int)≤r1.1),r1.2))
def F8{a:Type}(b:Nat)(c:a→AX→Option (Bool×a))(d:List AX)(e:a):Option (Bool×a):=
 (Eu b (fun(st:a) (x:AX)=>(En b c x st).bind fun r=>some (r.1,r.2)) d e).bind fun r2=>some ((!r2.1,r2.2))
def D4{a:Type}(e:Nat)(b:a→Bool→Option (Bool×a))(c:Bool)(d:a):Option (Bool×a):=
 (b d c).bind fun r1=>some ((!r1.1,r1.2))
def CK{c:Type}(d:c→Bool→Option (Bool×c))(e:List Bool):Nat→Int→c→Option ((Int×c)⊕(c))
 |0,_,_=>none
 |g+1,a,b=>cond (decide (a<(e.length:Int))) ((idx e a).bind fun h=>(d b h).bind fun f=>cond (f.1) (some (.inl (a,f.2))) ((i64 (a+1)).bind fun _=>CK d e g (a+1) f.2)) (some (.inr b))
def EM{b:Type}(d:Nat)(c:b→Bool→Option (Bool×b))(e:List Bool)(f:b):Option (Int×b):=
 (CK c e d (0:Int) f).bind fun z=>Sum.elim (fun a=>some ((a.1,a.2))) (fun a=>some (((-1),a))) z
def Ek{a:Type}(c:Nat)(b:a→Bool→Option (Bool×a))(d:List Bool)(e:a):Option (Bool×a):=
 (EM c b d e).bind fun r1=>some ((decide ((0:Int)≤r1.1),r1.2))
def FI{a:Type}(b:Nat)(c:a→Bool→Option (Bool×a))(d:List Bool)(e:a):Option (Bool×a):=
 (Ek b (fun(st:a) (x:Bool)=>(D4 b c x st).bind fun r=>some (r.1,r.2)) d e).bind fun r2=>some ((!r2.1,r2.2))
def Du(e:Nat)(d:Bool)(b:Int)(a:Int)(c:Ap):Option (Bool×Int×Int):=
 cond (!d) (some ((true,0,a))) ((i64 (a+1)).bind fun _=>(i64 (b+1)).bind fun _=>cond (decide ((a+1)≤c.An)) (some ((decide ((b+1)≤c.Av),b+1,a+1))) (some ((false,b+1,a+1))))
def D6(a:Nat)(b:Ap)(c:List Bool):Option (Bool):=
 (FI a (fun(st:Int×Int) (x:Bool)=>(Du a x st.1 st.2 b).bind fun r=>some (r.1,(r.2.1,r.2.2))) c (0,0)).bind fun d=>some (d.1)
end Go.Proofs.YtkljfdkmjdjpfaaGreat
end
section
set_option linter.unusedVariables false
set_option linter.unusedSimpArgs false
namespace Go.Proofs.YtkljfdkmjdjpfaaGreat
open Go.RowKit Go.WideShapes
def D9(c:List Int):Nat→Int→Int→Option (Int)
 |0,_,_=>none
 |d+1,b,a=>cond (decide (a<(c.length:Int))) ((idx c a).bind fun e=>(i64 (a+1)).bind fun _=>D9 c d (min b e) (a+1)) (some (b))
def Gl(b:Nat)(a:List Int):Option (Int):=
 cond (decide ((a.length:Int)<1)) (none) ((idx a (0:Int)).bind fun x2=>(D9 a b x2 (1:Int)).bind fun z3=>some (z3))
def F9(a:Nat)(b:List Int):Option (Int):=
 (Gl a b).bind fun r1=>some (r1)
def CA(b:Int)(d:List Bool):Nat→Int→(List Bool)→Option ((List Bool))
 |0,_,_=>none
 |e+1,a,c=>cond (decide (a<(d.length:Int))) ((MC b a).bind fun _=>(rem (EV b a) (2:Int)).bind fun _=>(idx c a).bind fun f=>(i64 (a+1)).bind fun _=>CA b d e (a+1) (c.set a.toNat (((EV b a)%2)==1))) (some (c))
def CB{c:Type}(d:c→(List Bool)→Option (Bool×c))(g:Nat)(h:Ap):Nat→Int→(List Bool)→c→Option ((c)⊕(c))
 |0,_,_,_=>none
 |j+1,a,e,b=>cond (decide (a<(GS (1:Int) ((List.replicate (h.Ak+1).toNat false).length:Int)))) ((CA a e g (0:Int) e).bind fun i=>(D6 g h i).bind fun k=>cond (k) ((d b i).bind fun f=>cond (!f.1) (some (.inl f.2)) ((i64 (a+1)).bind fun _=>CB d g h j (a+1) i f.2)) ((i64 (a+1)).bind fun _=>CB d g h j (a+1) i b)) (some (.inr b))
def Dd{c:Type}(d:Nat)(e:c→(List Bool)→Option (Bool×c))(a:Ap)(f:c):Option (c):=
 (i64 (a.Ak+1)).bind fun _=>(JJ (a.Ak+1) 1).bind fun _=>(Lj (1:Int) ((List.replicate (a.Ak+1).toNat false).length:Int)).bind fun _=>(CB e d a d (0:Int) (List.replicate (a.Ak+1).toNat false) f).bind fun z=>Sum.elim (fun b=>some (b)) (fun b=>some (b)) z
end Go.Proofs.YtkljfdkmjdjpfaaGreat
end
section
set_option linter.unusedVariables false
set_option linter.unusedSimpArgs false
namespace Go.Proofs.YtkljfdkmjdjpfaaGreat
open Go.RowKit Go.WideShapes
def EC(a:Int)(b:(List Bool)):Option (Bool×Int):=
 (i64 (a+1)).bind fun _=>some (true,a+1)
def DG(e:Nat)(f:Ap):Nat→Int→Int→Option (Int)
 |0,_,_=>none
 |h+1,b,a=>cond (decide (b<(f.Ae.length:Int))) ((idx f.Ae b).bind fun c=>(EH e (⟨c.Au,c.AG⟩:CI)).bind fun d=>(i64 (a*d)).bind fun _=>(F9 e [a*d,1001]).bind fun g=>(i64 (b+1)).bind fun _=>DG e f h (b+1) g) (some (a))
def De(b:Nat)(a:Ap):Option (Int):=
 cond (decide ((9:Int)<a.Ak)) (some (3)) (cond (decide ((2:Int)<a.Ag)) (some (3)) (cond (decide ((4:Int)<(a.Ae.length:Int))) (some (3)) (cond (decide (a.Ak<0)) (some (1)) (cond (decide (a.Ag<1)) (some (1)) ((i64 (a.Ak+1)).bind fun _=>(DW b a.An 0 (a.Ak+1)).bind fun g=>cond (!g) (some (1)) ((i64 (a.Ak+1)).bind fun _=>(DW b a.Av 0 (a.Ak+1)).bind fun c=>cond (!c) (some (1)) ((F8 b (fun(st:Unit) (x:AX)=>(EB b a x).bind fun r=>some (r,())) a.Ae ()).bind fun d=>cond (!d.1) (some (1)) ((Dd b (fun(st:Int) (x:(List Bool))=>EC st x) a (0:Int)).bind fun e=>(DG b a b (0:Int) e).bind fun f=>cond (decide ((1000:Int)<f)) (some (3)) (some (0))))))))))
end Go.Proofs.YtkljfdkmjdjpfaaGreat
end
section
set_option linter.unusedVariables false
set_option linter.unusedSimpArgs false
namespace Go.Proofs.YtkljfdkmjdjpfaaGreat
open Go.RowKit Go.WideShapes
def BV{f:Type}(g:Int→(List Int)→(List Bool)→Ap→f→Option (Bool×(List Int)×f))(e:Int)(j:List Bool)(i:Ap)(k:Int):Nat→Int→(List Int)→f→Option ((Bool×(List Int)×f)⊕((List Int)×f))
 |0,_,_,_=>none
 |l+1,a,b,d=>cond (decide (a<k)) ((idx i.Ae e).bind fun h=>(i64 (h.Au+a)).bind fun _=>(idx b e).bind fun m=>(i64 (e+1)).bind fun _=>(g (e+1) (b.set e.toNat (h.Au+a)) j i d).bind fun c=>cond (!c.1) (some (.inl (false,c.2.1,c.2.2))) ((i64 (a+1)).bind fun _=>BV g e j i k l (a+1) c.2.1 c.2.2)) (some (.inr (b,d)))
def BG{b:Type}(e:Nat)(d:b→A5→Option (Bool×b)):Nat→Int→(List Int)→(List Bool)→Ap→b→Option (Bool×(List Int)×b)
 |0,_,_,_,_,_=>none
 |k+1,f,c,g,h,i=>cond (f==(c.length:Int)) ((d i (⟨c,g⟩:A5)).bind fun r2=>some ((r2.1,c,r2.2))) ((idx h.Ae f).bind fun j=>(EH e (⟨j.Au,j.AG⟩:CI)).bind fun l=>(BV (BG e d k) f g h l e (0:Int) c i).bind fun z=>Sum.elim (fun a=>some ((a.1,a.2.1,a.2.2))) (fun a=>some ((true,a.1,a.2))) z)
end Go.Proofs.YtkljfdkmjdjpfaaGreat
end
section
set_option linter.unusedVariables false
set_option linter.unusedSimpArgs false
namespace Go.Proofs.YtkljfdkmjdjpfaaGreat
open Go.RowKit Go.WideShapes
def C6{c:Type}(e:c→A5→Option (Bool×c))(f:Nat)(g:Ap)(b:List Int)(d:c)(h:(List Bool)):Option (Bool×((List Int)×c×Bool)):=
 (BG f e f 0 b h g d).bind fun a=>cond (!a.1) (some (false,a.2.1,a.2.2,true)) (some (true,a.2.1,a.2.2,false))
def ED{a:Type}(d:Nat)(e:a→A5→Option (Bool×a))(b:Ap)(f:a):Option (a):=
 (JJ (b.Ae.length:Int) 8).bind fun _=>(Dd d (fun(st:(List Int)×a×Bool) (x:(List Bool))=>cond st.2.2 none (C6 e d b st.1 st.2.1 x)) b (List.replicate (b.Ae.length:Int).toNat (0:Int),f,false)).bind fun c=>cond (c.2.2) (some (c.2.1)) (some (c.2.1))
end Go.Proofs.YtkljfdkmjdjpfaaGreat
end
section
set_option linter.unusedVariables false
set_option linter.unusedSimpArgs false
namespace Go.Proofs.YtkljfdkmjdjpfaaGreat
open Go.RowKit Go.WideShapes
def Df(b:List Bool)(c:List Bool):Nat→Int→Option ((Bool)⊕(Unit))
 |0,_=>none
 |d+1,a=>cond (decide (a<(b.length:Int))) ((idx b a).bind fun e=>(idx c a).bind fun f=>cond (e !=f) (some (.inl false)) ((i64 (a+1)).bind fun _=>Df b c d (a+1))) (some (.inr ()))
def Ea(d:Nat)(b:List Bool)(c:List Bool):Option (Bool):=
 cond ((b.length:Int) !=(c.length:Int)) (some (false)) ((Df b c d (0:Int)).bind fun z=>Sum.elim (fun a=>some (a)) (fun a=>some (true)) z)
def C7(d:Nat)(c:Ap)(e:A5):Nat→Int→Option ((Bool)⊕(Unit))
 |0,_=>none
 |h+1,a=>cond (decide (a<(c.Ae.length:Int))) ((idx c.Ae a).bind fun b=>(idx e.Comes a).bind fun f=>(DW d f b.Au b.AG).bind fun g=>cond (!g) (some (.inl false)) ((i64 (a+1)).bind fun _=>C7 d c e h (a+1))) (some (.inr ()))
def EP(d:Nat)(a:Ap)(c:A5):Option (Bool):=
 cond ((c.Comes.length:Int) !=(a.Ae.length:Int)) (some (false)) ((i64 (a.Ak+1)).bind fun _=>cond ((c.An.length:Int) !=(a.Ak+1)) (some (false)) ((D6 d a c.An).bind fun e=>cond (!e) (some (false)) ((C7 d a c d (0:Int)).bind fun z=>Sum.elim (fun b=>some (b)) (fun b=>some (true)) z)))
def DA(i:Cj)(h:Hb)(f:AX):Nat→Int→Int→Int→Int→Int→Bool→Option ((Int×Int×Bool)⊕(Int×Int×Bool))
 |0,_,_,_,_,_,_=>none
 |j+1,b,g,a,c,d,e=>cond (decide (a≤i.Bx)) ((idx i.CY a).bind fun k=>cond (k) ((i64 (g+1)).bind fun _=>cond (b==f.AN) (some (.inl (h.day,a,b==f.AN))) (cond ((g+1)==f.B0) (some (.inl (h.day,a,b==f.AN))) ((i64 (a+1)).bind fun _=>DA i h f j b (g+1) (a+1) c d e))) ((i64 (b+1)).bind fun _=>cond ((b+1)==f.AN) (some (.inl (h.day,a,(b+1)==f.AN))) (cond ((0:Int)==f.B0) (some (.inl (h.day,a,(b+1)==f.AN))) ((i64 (a+1)).bind fun _=>DA i h f j (b+1) (0:Int) (a+1) c d e)))) (some (.inr (c,d,e)))
def Fa(d:Nat)(c:Cj)(b:Hb):Option (Aq):=
 cond (decide (c.Bx<b.day)) (some ((⟨(-1),(-1),false⟩:Aq))) ((idx c.AS b.B9).bind fun e=>(DA c b e d (0:Int) (0:Int) b.day (0:Int) (0:Int) false).bind fun z=>Sum.elim (fun a=>some ((⟨a.1,a.2.1,a.2.2⟩:Aq))) (fun a=>some ((⟨b.day,(-1),false⟩:Aq))) z)
def EW(d:Nat)(b:Cj)(a:Hb):Option (Aq×(List (List Int×Aq))):=
 cond (!((Bv b.known [a.B9,a.day]).isSome)) ((Fa d b a).bind fun c=>some ((c,G8 b.known [a.B9,a.day] c))) (some ((((Bv b.known [a.B9,a.day]).getD (⟨0,0,false⟩:Aq)),b.known)))
def Dk(i:Nat)(c:Cj)(j:List Int)(g:List Int):Nat→Int→Int→(List Aq)→(List (List Int×Aq))→Option ((List Aq)×(List (List Int×Aq)))
 |0,_,_,_,_=>none
 |k+1,h,a,d,e=>cond (decide (a<(g.length:Int))) ((idx g a).bind fun f=>(idx j f).bind fun l=>(EW i (⟨c.Bx,c.BO,c.B2,c.B3,c.AS,c.CY,e⟩:Cj) (⟨f,max h l⟩:Hb)).bind fun b=>(idx d f).bind fun m=>(i64 (b.1.Bg+1)).bind fun _=>cond (b.1.Bg==(-1)) ((i64 (c.Bx+1)).bind fun _=>(i64 (a+1)).bind fun _=>Dk i c j g k (c.Bx+1) (a+1) (d.set f.toNat b.1) b.2) ((i64 (a+1)).bind fun _=>Dk i c j g k (b.1.Bg+1) (a+1) (d.set f.toNat b.1) b.2)) (some ((d,e)))
def C2(d:Nat)(f:Cj)(e:List (List Int))(g:List Int):Nat→Int→(List Aq)→(List (List Int×Aq))→Option ((List Aq)×(List (List Int×Aq)))
 |0,_,_,_=>none
 |i+1,a,c,b=>cond (decide (a<(e.length:Int))) ((idx e a).bind fun j=>(Dk d f g j d (0:Int) (0:Int) c b).bind fun h=>(i64 (a+1)).bind fun _=>C2 d f e g i (a+1) h.1 h.2) (some ((c,b)))
def CL(b:Nat)(a:Cj)(c:List (List Int))(d:List Int):Option ((List Aq)×(List (List Int×Aq))):=
 (JJ (a.AS.length:Int) 24).bind fun _=>(C2 b a c d b (0:Int) (List.replicate (a.AS.length:Int).toNat (⟨0,0,false⟩:Aq)) a.known).bind fun z3=>some ((z3.1,z3.2))
end Go.Proofs.YtkljfdkmjdjpfaaGreat
end
section
set_option linter.unusedVariables false
set_option linter.unusedSimpArgs false
namespace Go.Proofs.YtkljfdkmjdjpfaaGreat
open Go.RowKit Go.WideShapes
def Dg(c:List (List Int)):Nat→(List Int)→Int→Option ((List Int))
 |0,_,_=>none
 |e+1,b,a=>cond (decide (a<(c.length:Int))) ((idx c a).bind fun d=>(Gh (((b.length+d.length:Nat):Int)≤140737488355328/8)).bind fun _=>(i64 (a+1)).bind fun _=>Dg c e (b++d) (a+1)) (some (b))
def C8(b:Ap)(z2:(List Int)):Nat→Int→Option ((Bool)⊕(Unit))
 |0,_=>none
 |d+1,a=>cond (decide (a<(b.Ae.length:Int))) (cond (((CX z2).length:Int) !=(b.Ae.length:Int)) (some (.inl false)) ((idx (CX z2) a).bind fun c=>cond (c !=a) (some (.inl false)) ((i64 (a+1)).bind fun _=>C8 b z2 d (a+1)))) (some (.inr ()))
def DR(c:Nat)(b:Ap)(d:List (List Int)):Option (Bool):=
 (Dg d c ([]:List Int) (0:Int)).bind fun z2=>(Gh ((z2.length:Int)≤100000)).bind fun _=>(C8 b z2 c (0:Int)).bind fun z=>Sum.elim (fun a=>some (a)) (fun a=>cond ((d.length:Int)==b.Ag) (some (((CX z2).length:Int)==(b.Ae.length:Int))) (some (false))) z
def FR(b:Nat)(a:Ap)(d:List (List Int))(c:A5):Option ((List Aq)×Int):=
 (De b a).bind fun e=>cond (e !=0) (some ((([]:List Aq),e))) ((DR b a d).bind fun h=>cond (!h) (some ((([]:List Aq),2))) ((EP b a c).bind fun f=>cond (!f) (some ((([]:List Aq),2))) ((CL b (⟨a.Ak,a.Ag,a.An,a.Av,a.Ae,c.An,[]⟩:Cj) d c.Comes).bind fun g=>some ((g.1,0)))))
end Go.Proofs.YtkljfdkmjdjpfaaGreat
end
section
set_option linter.unusedVariables false
set_option linter.unusedSimpArgs false
namespace Go.Proofs.YtkljfdkmjdjpfaaGreat
open Go.RowKit Go.WideShapes
def Dl(d:Nat)(e:Ap)(c:List Aq):Nat→Int→Int→Option (Int)
 |0,_,_=>none
 |f+1,b,a=>cond (decide (a<(c.length:Int))) ((idx c a).bind fun i=>(idx e.Ae a).bind fun g=>(DT d g i).bind fun h=>cond (h) ((i64 (b+1)).bind fun _=>(i64 (a+1)).bind fun _=>Dl d e c f (b+1) (a+1)) ((i64 (a+1)).bind fun _=>Dl d e c f b (a+1))) (some (b))
def Eo(a:Nat)(b:Ap)(c:List Aq):Option (Int):=
 (Dl a b c a (0:Int) (0:Int)).bind fun z4=>some (z4)
def Es(d:Nat)(a:A5)(e:List Aq)(b:Ap)(c:Int)(f:A5):Option (Bool×Int×A5):=
 (Eo d b e).bind fun r2=>cond (decide (c<r2)) ((Gh (((0+a.Comes.length:Nat):Int)≤140737488355328/8)).bind fun _=>(Gh (((0+a.An.length:Nat):Int)≤140737488355328/1)).bind fun _=>some ((decide (r2<(b.Ae.length:Int)),r2,a))) (some ((decide (c<(b.Ae.length:Int)),c,f)))
def Cv{j:Type}(h:j→(AX×Aq)→Option (Bool×j))(k:List Aq)(l:Ap):Nat→Int→Int→Int→Int→Int→j→Option (Int×Int×Int×Int×j)
 |0,_,_,_,_,_,_=>none
 |m+1,a,b,c,d,e,g=>cond (decide (a<(k.length:Int))) ((idx k a).bind fun o=>(idx l.Ae a).bind fun n=>(h g (n,o)).bind fun i=>cond (i.1) ((idx ([b,c,d,e]:List Int) a).bind fun f=>(i64 (f+1)).bind fun _=>(idx ([b,c,d,e]:List Int) a).bind fun p=>(i64 (a+1)).bind fun _=>Cv h k l m (a+1) (((⟨b,c,d,e⟩:BC).set a.toNat (f+1)).a0) (((⟨b,c,d,e⟩:BC).set a.toNat (f+1)).a1) (((⟨b,c,d,e⟩:BC).set a.toNat (f+1)).a2) (((⟨b,c,d,e⟩:BC).set a.toNat (f+1)).a3) i.2) ((i64 (a+1)).bind fun _=>Cv h k l m (a+1) b c d e i.2)) (some ((b,c,d,e,g)))
def CN{a:Type}(e:Nat)(c:a→(AX×Aq)→Option (Bool×a))(i:A5)(f:List Aq)(d:Int)(g:Ap)(b:BC)(h:a):Option (Bool×Int×BC×a):=
 (i64 (d+1)).bind fun _=>(Cv c f g e (0:Int) b.a0 b.a1 b.a2 b.a3 h).bind fun z4=>some ((true,d+1,(⟨z4.1,z4.2.1,z4.2.2.1,z4.2.2.2.1⟩:BC),z4.2.2.2.2))
end Go.Proofs.YtkljfdkmjdjpfaaGreat
end
section
set_option linter.unusedVariables false
set_option linter.unusedSimpArgs false
namespace Go.Proofs.YtkljfdkmjdjpfaaGreat
open Go.RowKit Go.WideShapes
def Dm{m:Type}(f:m→(A5×(List Aq))→Option (Bool×m))(n:Nat)(a:Ap)(o:List (List Int))(e:Option Cj)(d:m)(c:A5):Option (Bool×((Option Cj)×m×Bool)):=
 Option.elim e ((Gh (((0+c.An.length:Nat):Int)≤140737488355328/1)).bind fun _=>(CL n (⟨a.Ak,a.Ag,a.An,a.Av,a.Ae,c.An,[]⟩:Cj) o c.Comes).bind fun g=>(f d (c,g.1)).bind fun h=>cond (!h.1) (some (false,(some (⟨a.Ak,a.Ag,a.An,a.Av,a.Ae,c.An,g.2⟩:Cj)),h.2,true)) (some (true,(some (⟨a.Ak,a.Ag,a.An,a.Av,a.Ae,c.An,g.2⟩:Cj)),h.2,false))) (fun b=>(Ea n b.CY c.An).bind fun p=>cond (!p) ((Gh (((0+c.An.length:Nat):Int)≤140737488355328/1)).bind fun _=>(CL n (⟨a.Ak,a.Ag,a.An,a.Av,a.Ae,c.An,[]⟩:Cj) o c.Comes).bind fun i=>(f d (c,i.1)).bind fun j=>cond (!j.1) (some (false,(some (⟨a.Ak,a.Ag,a.An,a.Av,a.Ae,c.An,i.2⟩:Cj)),j.2,true)) (some (true,(some (⟨a.Ak,a.Ag,a.An,a.Av,a.Ae,c.An,i.2⟩:Cj)),j.2,false))) ((CL n b o c.Comes).bind fun k=>(f d (c,k.1)).bind fun l=>cond (!l.1) (some (false,(some (⟨b.Bx,b.BO,b.B2,b.B3,b.AS,b.CY,k.2⟩:Cj)),l.2,true)) (some (true,(some (⟨b.Bx,b.BO,b.B2,b.B3,b.AS,b.CY,k.2⟩:Cj)),l.2,false))))
def EX{a:Type}(c:Nat)(d:a→(A5×(List Aq))→Option (Bool×a))(e:Ap)(f:List (List Int))(g:a):Option (a):=
 (ED c (fun(st:(Option Cj)×a×Bool) (x:A5)=>cond st.2.2 none (Dm d c e f st.1 st.2.1 x)) e (none,g,false)).bind fun b=>cond (b.2.2) (some (b.2.1)) (some (b.2.1))
end Go.Proofs.YtkljfdkmjdjpfaaGreat
end
section
set_option linter.unusedVariables false
set_option linter.unusedSimpArgs false
namespace Go.Proofs.YtkljfdkmjdjpfaaGreat
open Go.RowKit Go.WideShapes
def Cl{a:Type}(c:Nat)(d:a→(AX×Aq)→Option (Bool×a))(e:Ap)(f:List (List Int))(g:a):Option (BC×Int×a):=
 (EX c (fun(st:Int×BC×a) (x:A5×(List Aq))=>(CN c d x.1 x.2 st.1 e st.2.1 st.2.2).bind fun r=>some (r.1,(r.2.1,r.2.2.1,r.2.2.2))) e f (0,(⟨0,0,0,0⟩:BC),g)).bind fun b=>some ((b.2.1,b.1,b.2.2))
def EY(a:Nat)(b:Ap)(d:List (List Int)):Option (Int×A5):=
 (EX a (fun(st:Int×A5) (x:A5×(List Aq))=>(Es a x.1 x.2 b st.1 st.2).bind fun r=>some (r.1,(r.2.1,r.2.2))) b d ((-1),(⟨([]:List Int),([]:List Bool)⟩:A5))).bind fun c=>some ((c.1,c.2))
def Ed(b:Nat)(c:Ap)(e:List (List Int))(f:Int):Option (Int×Int):=
 (De b c).bind fun r2=>cond (r2 !=0) (some ((0,r2))) ((DR b c e).bind fun h=>cond (!h) (some ((0,2))) ((Fe b c f).bind fun g=>cond (!g) (some ((0,2))) ((Cl b (fun(st:Unit) (x:AX×Aq)=>(C1 b x.1 x.2).bind fun r=>some (r,())) c e ()).bind fun a=>(idx ([a.1.a0,a.1.a1,a.1.a2,a.1.a3]:List Int) f).bind fun d=>cond (d==a.2.1) (some ((1,0))) (cond (d==0) (some ((2,0))) (some ((3,0)))))))
def Fl(b:Nat)(c:Ap)(d:List (List Int)):Option (Int×A5×Int):=
 (De b c).bind fun e=>cond (e !=0) (some ((0,(⟨([]:List Int),([]:List Bool)⟩:A5),e))) ((DR b c d).bind fun f=>cond (!f) (some ((0,(⟨([]:List Int),([]:List Bool)⟩:A5),2))) ((EY b c d).bind fun a=>some ((a.1,a.2,0))))
def DP(a:Nat)(b:Ap)(c:List (List Int))(d:Int):Option (Bool):=
 (Fl a b c).bind fun r2=>cond (r2.2.2==0) (some (decide (r2.1≤d))) (some (false))
def EZ(a:Nat)(b:Ap)(d:List (List Int))(e:A5)(f:Int):Option (Bool):=
 (FR a b d e).bind fun c=>cond (c.2==0) ((Eo a b c.1).bind fun g=>some (decide (f≤g))) (some (false))
end Go.Proofs.YtkljfdkmjdjpfaaGreat
end
section
set_option linter.unusedVariables false
set_option linter.unusedSimpArgs false
namespace Go.Proofs.YtkljfdkmjdjpfaaGreat
open Go.RowKit Go.WideShapes
def Ep(c:List (List Int)):Nat→Int→(List (List Int))→Option ((List (List Int)))
 |0,_,_=>none
 |e+1,a,b=>cond (decide (a<(c.length:Int))) ((idx b a).bind fun d=>(Gh (((0+d.length:Nat):Int)≤140737488355328/8)).bind fun _=>(idx b a).bind fun f=>(i64 (a+1)).bind fun _=>Ep c e (a+1) (b.set a.toNat d)) (some (b))
def EJ(b:Nat)(a:List (List Int)):Option ((List (List Int))):=
 (Gh (((0+a.length:Nat):Int)≤140737488355328/24)).bind fun _=>(Ep a b (0:Int) a).bind fun z4=>some (z4)
end Go.Proofs.YtkljfdkmjdjpfaaGreat
end
section
set_option linter.unusedVariables false
set_option linter.unusedSimpArgs false
namespace Go.Proofs.YtkljfdkmjdjpfaaGreat
open Go.RowKit Go.WideShapes
def FD(b:Nat)(c:List (List Int))(d:Ap)(a:Int)(e:List (List Int)):Option (Bool×Int×(List (List Int))):=
 (EY b d c).bind fun r1=>cond (decide (r1.1<a)) ((EJ b c).bind fun f=>some ((decide ((0:Int)<r1.1),r1.1,f))) (some ((decide ((0:Int)<a),a,e)))
def DU(c:Ap)(r1:BC×Int×Unit):Nat→Int→Int→Option (Int)
 |0,_,_=>none
 |d+1,b,a=>cond (decide (a<(c.Ae.length:Int))) ((idx ([r1.1.a0,r1.1.a1,r1.1.a2,r1.1.a3]:List Int) a).bind fun e=>cond (e==0) ((i64 (b+1)).bind fun _=>(i64 (a+1)).bind fun _=>DU c r1 d (b+1) (a+1)) ((i64 (a+1)).bind fun _=>DU c r1 d b (a+1))) (some (b))
def DQ(c:Ap)(r1:BC×Int×Unit):Nat→Int→Int→Option (Int)
 |0,_,_=>none
 |d+1,b,a=>cond (decide (a<(c.Ae.length:Int))) ((idx ([r1.1.a0,r1.1.a1,r1.1.a2,r1.1.a3]:List Int) a).bind fun e=>cond (e==0) ((i64 (b+1)).bind fun _=>(i64 (a+1)).bind fun _=>DQ c r1 d (b+1) (a+1)) ((i64 (a+1)).bind fun _=>DQ c r1 d b (a+1))) (some (b))
def El(c:Nat)(e:List (List Int))(b:Ap)(a:Int)(d:BC)(f:List (List Int)):Option (Bool×Int×BC×(List (List Int))):=
 (Cl c (fun(st:Unit) (x:AX×Aq)=>(DT c x.1 x.2).bind fun r=>some (r,())) b e ()).bind fun r1=>cond (decide ((0:Int)≤a)) (cond ([r1.1.a0,r1.1.a1,r1.1.a2,r1.1.a3]==[d.a0,d.a1,d.a2,d.a3]) (some ((true,a,d,f))) ((DU b r1 c (0:Int) (0:Int)).bind fun z9=>cond (decide (a<z9)) ((EJ c e).bind fun g=>some ((decide (z9<(b.Ae.length:Int)),z9,r1.1,g))) (some ((decide (a<(b.Ae.length:Int)),a,r1.1,f))))) ((DQ b r1 c (0:Int) (0:Int)).bind fun z22=>cond (decide (a<z22)) ((EJ c e).bind fun h=>some ((decide (z22<(b.Ae.length:Int)),z22,r1.1,h))) (some ((decide (a<(b.Ae.length:Int)),a,r1.1,f))))
end Go.Proofs.YtkljfdkmjdjpfaaGreat
end
section
set_option linter.unusedVariables false
set_option linter.unusedSimpArgs false
namespace Go.Proofs.YtkljfdkmjdjpfaaGreat
open Go.RowKit Go.WideShapes
def B4{g:Type}(h:Int→Ap→(List (List Int))→g→Option (Bool×(List (List Int))×g))(i:Int)(j:Ap)(c:Int)(f:List Int):Nat→Int→(List (List Int))→g→Option ((Bool×(List (List Int))×g)⊕((List (List Int))×g))
 |0,_,_,_=>none
 |k+1,a,b,e=>cond (decide (a<((f.length:Int)+1))) ((Gh (((0+f.length:Nat):Int)≤140737488355328/8)).bind fun _=>(Gh (0≤a∧a≤(f.length:Int)∧((f.length:Int)+1)*8≤140737488355328)).bind fun _=>(idx b c).bind fun l=>(i64 (i+1)).bind fun _=>(h (i+1) j (b.set c.toNat (CD f a i)) e).bind fun d=>cond (!d.1) (some (.inl (false,d.2.1,d.2.2))) ((i64 (a+1)).bind fun _=>B4 h i j c f k (a+1) d.2.1 d.2.2)) (some (.inr (b,e)))
def BW{e:Type}(f:Int→Ap→(List (List Int))→e→Option (Bool×(List (List Int))×e))(h:Nat)(i:Int)(j:Ap)(k:List (List Int)):Nat→Int→(List (List Int))→e→Option ((Bool×(List (List Int))×e)⊕((List (List Int))×e))
 |0,_,_,_=>none
 |l+1,a,b,d=>cond (decide (a<(k.length:Int))) ((idx b a).bind fun g=>(i64 ((g.length:Int)+1)).bind fun _=>(B4 f i j a g h (0:Int) b d).bind fun z=>Sum.elim (fun c=>some (.inl (c.1,c.2.1,c.2.2))) (fun c=>(idx c.1 a).bind fun m=>(i64 (a+1)).bind fun _=>BW f h i j k l (a+1) (c.1.set a.toNat g) c.2) z) (some (.inr (b,d)))
def Bn{b:Type}(e:Nat)(d:b→(List (List Int))→Option (Bool×b)):Nat→Int→Ap→(List (List Int))→b→Option (Bool×(List (List Int))×b)
 |0,_,_,_,_=>none
 |i+1,f,g,c,h=>cond (f==(g.Ae.length:Int)) ((d h c).bind fun r2=>some ((r2.1,c,r2.2))) ((BW (Bn e d i) e f g c e (0:Int) c h).bind fun z=>Sum.elim (fun a=>some ((a.1,a.2.1,a.2.2))) (fun a=>some ((true,a.1,a.2))) z)
end Go.Proofs.YtkljfdkmjdjpfaaGreat
end
section
set_option linter.unusedVariables false
set_option linter.unusedSimpArgs false
namespace Go.Proofs.YtkljfdkmjdjpfaaGreat
open Go.RowKit Go.WideShapes
def Et{a:Type}(c:Nat)(d:a→(List (List Int))→Option (Bool×a))(b:Ap)(e:a):Option (a):=
 (JJ b.Ag 24).bind fun _=>(Bn c d c 0 b (List.replicate b.Ag.toNat ([]:List Int)) e).bind fun f=>some (f.2.2)
end Go.Proofs.YtkljfdkmjdjpfaaGreat
end
section
set_option linter.unusedVariables false
set_option linter.unusedSimpArgs false
namespace Go.Proofs.YtkljfdkmjdjpfaaGreat
open Go.RowKit Go.WideShapes
def FT(c:Nat)(a:Ap):Option ((List (List Int))×Int×Int):=
 (De c a).bind fun d=>cond (d !=0) (some ((([]:List (List Int)),0,d))) ((i64 ((a.Ae.length:Int)+1)).bind fun _=>(Et c (fun(st:Int×(List (List Int))) (x:(List (List Int)))=>(FD c x a st.1 st.2).bind fun r=>some (r.1,(r.2.1,r.2.2))) a ((a.Ae.length:Int)+1,([]:List (List Int)))).bind fun b=>some ((b.2,b.1,0)))
def FV(b:Nat)(c:Ap):Option ((List (List Int))×Int×Int):=
 (De b c).bind fun d=>cond (d !=0) (some ((([]:List (List Int)),0,d))) ((Et b (fun(st:Int×BC×(List (List Int))) (x:(List (List Int)))=>(El b x c st.1 st.2.1 st.2.2).bind fun r=>some (r.1,(r.2.1,r.2.2.1,r.2.2.2))) c ((-1),(⟨0,0,0,0⟩:BC),([]:List (List Int)))).bind fun a=>some ((a.2.2,a.1,0)))
end Go.Proofs.YtkljfdkmjdjpfaaGreat
end
section
set_option linter.unusedVariables false
set_option linter.unusedSimpArgs false
namespace Go.Proofs.YtkljfdkmjdjpfaaGreat
open Go.RowKit Go.WideShapes
def DB(e:Nat)(c:Ap):Nat→(List Int)→Int→Option ((List Int))
 |0,_,_=>none
 |f+1,b,a=>cond (decide (a<(c.Ae.length:Int))) ((JJ c.Ag 24).bind fun _=>(idx (List.replicate c.Ag.toNat ([]:List Int)) (0:Int)).bind fun _=>(Iz (c.Ae.length:Int) a e (0:Int) ((List.replicate c.Ag.toNat ([]:List Int)).set 0 [a])).bind fun g=>(Cl e (fun(st:Unit) (x:AX×Aq)=>(C1 e x.1 x.2).bind fun r=>some (r,())) c g ()).bind fun d=>(idx ([d.1.a0,d.1.a1,d.1.a2,d.1.a3]:List Int) a).bind fun h=>cond (h==d.2.1) ((i64 (a+1)).bind fun _=>DB e c f b (a+1)) ((Gh (((b.length+[a].length:Nat):Int)≤140737488355328/8)).bind fun _=>(i64 (a+1)).bind fun _=>DB e c f (b++[a]) (a+1))) (some (b))
def Fb(a:Nat)(b:Ap):Option ((List Int)×Int):=
 (De a b).bind fun r2=>cond (r2 !=0) (some ((([]:List Int),r2))) ((DB a b a ([]:List Int) (0:Int)).bind fun z5=>some ((z5,0)))
end Go.Proofs.YtkljfdkmjdjpfaaGreat
end
section
set_option linter.unusedVariables false
set_option linter.unusedSimpArgs false
namespace Go.Proofs.YtkljfdkmjdjpfaaGreat
open Go.RowKit Go.WideShapes
def Dh(c:List (List Int)):Nat→(List (List Int))→Int→Option ((List (List Int)))
 |0,_,_=>none
 |e+1,b,a=>cond (decide (a<(c.length:Int))) ((idx c a).bind fun d=>(Gh (((([]:List Int).length+d.length:Nat):Int)≤140737488355328/8)).bind fun _=>(Gh (((b.length+[([]:List Int)++d].length:Nat):Int)≤140737488355328/24)).bind fun _=>(i64 (a+1)).bind fun _=>Dh c e (b++[([]:List Int)++d]) (a+1)) (some (b))
def Dn(a:Nat)(b:List (List Int)):Option ((List (List Int))):=
 (Dh b a ([]:List (List Int)) (0:Int)).bind fun z2=>some (z2)
def ER(a:Nat)(b:Ap):Option (Bool):=
 (E4 a b).bind fun r2=>cond (r2) ((EO a b).bind fun c=>some (c==0)) (some (false))
def E5(d:Nat)(a:List Int)(b:Int):Option (Int):=
 cond ((a.length:Int)==0) (some (0)) ((rem b (a.length:Int)).bind fun _=>(idx a (b%(a.length:Int))).bind fun c=>(LU .i64 c).bind fun _=>some (c))
def Di(h:Nat)(f:Ap)(i:List Int):Nat→Int→(List (List Int))→Option ((List (List Int)))
 |0,_,_=>none
 |j+1,c,d=>cond (decide (c<(f.Ae.length:Int))) ((E5 h i c).bind fun a=>(rem a f.Ag).bind fun _=>(quo a (4:Int)).bind fun _=>(i64 (a/4)).bind fun _=>(idx d (a%f.Ag)).bind fun b=>(i64 ((b.length:Int)+1)).bind fun _=>(rem (a/4) ((b.length:Int)+1)).bind fun _=>(idx d (a%f.Ag)).bind fun g=>(MG g.length (0:Int) ((a/4)%((b.length:Int)+1))).bind fun _=>(Gh (((([]:List Int).length+(Cy g (0:Int) ((a/4)%((b.length:Int)+1))).length:Nat):Int)≤140737488355328/8)).bind fun _=>(Gh ((((([]:List Int)++(Cy g (0:Int) ((a/4)%((b.length:Int)+1)))).length+[c].length:Nat):Int)≤140737488355328/8)).bind fun _=>(idx d (a%f.Ag)).bind fun e=>(MG e.length ((a/4)%((b.length:Int)+1)) (e.length:Int)).bind fun _=>(Gh (((((([]:List Int)++(Cy g (0:Int) ((a/4)%((b.length:Int)+1))))++[c]).length+(Cy e ((a/4)%((b.length:Int)+1)) (e.length:Int)).length:Nat):Int)≤140737488355328/8)).bind fun _=>(idx d (a%f.Ag)).bind fun k=>(i64 (c+1)).bind fun _=>Di h f i j (c+1) (d.set (a%f.Ag).toNat (((([]:List Int)++(Cy g (0:Int) ((a/4)%((b.length:Int)+1))))++[c])++(Cy e ((a/4)%((b.length:Int)+1)) (e.length:Int))))) (some (d))
def ES(b:Nat)(a:Ap)(c:List Int):Option ((List (List Int))):=
 (JJ a.Ag 24).bind fun _=>(Di b a c b (0:Int) (List.replicate a.Ag.toNat ([]:List Int))).bind fun z4=>some (z4)
end Go.Proofs.YtkljfdkmjdjpfaaGreat
end
section
set_option linter.unusedVariables false
set_option linter.unusedSimpArgs false
namespace Go.Proofs.YtkljfdkmjdjpfaaGreat
open Go.RowKit Go.WideShapes
def Eb(a:Nat):Option (Bool):=
 (Cu a 1).bind fun r1=>(FY a 3).bind fun v=>(FR a r1 [[0,1]] v).bind fun h=>(Cu a 1).bind fun w=>(Ed a w [[0,1]] 1).bind fun d=>(Cu a 1).bind fun i=>(Ed a i [[1,0]] 0).bind fun e=>(Cu a 1).bind fun j=>(Fl a j [[1,0]]).bind fun b=>(Cu a 1).bind fun k=>(FT a k).bind fun c=>(Cu a 1).bind fun l=>(FV a l).bind fun f=>(Cu a 1).bind fun m=>(Fb a m).bind fun g=>cond (h.2==0) ((Er a 0 1 true).bind fun n=>(Er a 2 3 false).bind fun o=>(FZ a h.1 n o).bind fun p=>cond (p) (cond (d.2==0) (cond (d.1==3) (cond (e.2==0) (cond (e.1==2) (cond (b.2.2==0) (cond (b.1==2) ((Cu a 1).bind fun q=>(EZ a q [[1,0]] b.2.1 2).bind fun r=>cond (r) (cond (c.2.2==0) (cond (c.2.1==1) ((Cu a 1).bind fun s=>(DP a s c.1 1).bind fun t=>cond (t) (cond (f.2.2==0) (cond (f.2.1==1) (cond (g.2==0) ((E3 a g.1 [1]).bind fun u=>some (u)) (some (false))) (some (false))) (some (false))) (some (false))) (some (false))) (some (false))) (some (false))) (some (false))) (some (false))) (some (false))) (some (false))) (some (false))) (some (false))) (some (false))) (some (false))
end Go.Proofs.YtkljfdkmjdjpfaaGreat
end
section
namespace Go.Proofs.YtkljfdkmjdjpfaaGreat
theorem bd{α β:Type}{x:Option α}{a:α}{f:α→Option β}(h:x=some a):x.bind f=f a:=by rw[h];rfl
theorem BJ{β:Type}{x:Int}{f:Int→Option β}(h0:-9223372036854775808≤x)(a:x≤9223372036854775807):(i64 x).bind f=f x:=bd (Sn h0 a)
theorem DH{α β:Type}{xs:List α}{k:Nat}{f:α→Option β}(h:k<xs.length):(idx xs (k:Int)).bind f=f xs[k]:=bd (idx_eq h)
theorem Ga{β:Type}{p:Prop}[Decidable p]{f:Unit→Option β}(h:p):(Gh p).bind f=f ():=bd (if_pos h)
theorem MK{β:Type}{a b:Int}{f:Int→Option β}(h0:0≤a)(c:1≤b):(rem a b).bind f=f (a%b):=bd (if_pos ⟨h0,c⟩)
theorem Ud{β:Type}{a b:Int}{f:Int→Option β}(h0:0≤a)(c:1≤b):(quo a b).bind f=f (a/b):=bd (if_pos ⟨h0,c⟩)
theorem NJ{β:Type}{n:Int}{b:Nat}{f:Unit→Option β}(h0:0≤n)(a:n*b≤140737488355328)(c:n≤140737488355328):(JJ n b).bind f=f ():=bd (if_pos ⟨h0,a,c⟩)
theorem ct{α:Type}{b:Bool}{x y:α}(h:b=true):cond b x y=x:=by rw[h];rfl
theorem cf{α:Type}{b:Bool}{x y:α}(h:b=false):cond b x y=y:=by rw[h];rfl
theorem nt{α:Type}{x y:α}:cond (!true) x y=y:=rfl
theorem nf{α:Type}{x y:α}:cond (!false) x y=x:=rfl
theorem dt{p:Prop}[Decidable p](h:p):decide p=true:=decide_eq_true h
theorem df{p:Prop}[Decidable p](h:¬p):decide p=false:=decide_eq_false h
theorem DI(i:Nat):(i:Int)+1=((i+1:Nat):Int):=by omega
def Fz(n a b:Int):Bool:=decide (a≤n)&&decide (n≤b)
theorem Gb{n a b:Int}:Fz n a b=true↔a≤n∧n≤b:=by simp[Fz]
theorem ML(K:Nat)(n a b:Int):DF K n a b=some (Fz n a b):=by unfold DF Fz;cases decide (a≤n)<;>rfl
theorem GX(K:Nat)(n a b:Int):DW K n a b=some (Fz n a b):=by unfold DW Fz;cases decide (a≤n)<;>rfl
def run {σ α:Type} (cb:σ→α→Option (Bool×σ)):List α→σ→Option (Bool×σ)
 |[],s=>some (true,s)
 |x::l,s=>(cb s x).bind fun r=>cond r.1 (run cb l r.2) (some (false,r.2))
theorem Hc{σ α:Type}(cb:σ→α→Option (Bool×σ))(a:List α):∀(b:List α) (s:σ),run cb (b++a) s=(run cb b s).bind fun r=>cond r.1 (run cb a r.2) (some (false,r.2))
 |[],s=>rfl
 |x::l,s=>by
  simp only[List.cons_append,run];cases cb s x with
  |none=>rfl
  |some r=>
   simp only[Option.bind_some];cases h:r.1 with
   |false=>simp
   |true=>simpa using Hc cb a l r.2
theorem run_map{σ α β:Type}(cb:σ→β→Option (Bool×σ))(f:α→β):∀(l:List α) (s:σ),run cb (l.map f) s=run (fun s x=>cb s (f x)) l s
 |[],s=>rfl
 |x::l,s=>by simp only[List.map_cons,run,run_map cb f l]
theorem Ov{σ:Type}(K:Nat)(cb:σ→Bool→Option (Bool×σ))(p:List Bool)(a:p.length≤5000):∀(n m i:Nat) (s:σ),p.length=i+n→n<m→
  (CK (fun(st:σ) (x:Bool)=>(D4 K cb x st).bind fun r=>some (r.1,r.2)) p m (i:Int) s).bind (fun z=>Sum.elim (fun q=>some (decide ((0:Int)≤q.1),q.2)) (fun q=>some (false,q)) z)=(run cb (p.drop i) s).bind fun r=>some (!r.1,r.2):=by
 intro n
 induction n with
 |zero=>
  intro m i s h hm;cases m with
  |zero=>omega
  |succ m=>
   rw[CK.eq_2,cf (df (by omega)),List.drop_eq_nil_of_le (by omega)];rfl
 |succ n ih=>
  intro m i s h hm;cases m with
  |zero=>omega
  |succ m=>
   have hi:i<p.length:=by omega
   rw[CK.eq_2,ct (dt (by omega)),DH hi,List.drop_eq_getElem_cons hi];simp only[run];have e:(D4 K cb p[i] s).bind (fun r=>some (r.1,r.2))=(cb s p[i]).bind fun r=>some (!r.1,r.2):=by
    unfold D4;cases cb s p[i]<;>rfl
   rw[e];cases b:cb s p[i] with
   |none=>rfl
   |some r=>
    simp only[Option.bind_some];cases c:r.1 with
    |false=>
     show some (decide ((0:Int)≤(i:Int)),r.2)=some (!false,r.2);rw[dt (by omega)];rfl
    |true=>
     rw[nt,BJ (by omega) (by omega),DI];exact ih m (i+1) r.2 (by omega) (by omega)
theorem Ow{σ:Type}{K:Nat}(cb:σ→Bool→Option (Bool×σ))(p:List Bool)(s:σ)(b:p.length≤5000)(hK:p.length<K):FI K cb p s=run cb p s:=by
 unfold FI Ek EM;have h:=Ov K cb p b p.length K 0 s (by omega) hK;rw[List.drop_zero,Int.natCast_zero] at h;have e:∀(z:(Int×σ)⊕σ),(Sum.elim (fun a=>some ((a.1,a.2))) (fun a=>some (((-1),a))) z:Option (Int×σ)).bind (fun r1=>some ((decide ((0:Int)≤r1.1),r1.2)))=Sum.elim (fun q=>some (decide ((0:Int)≤q.1),q.2)) (fun q=>some (false,q)) z:=by
  intro z;cases z<;>rfl
 refine Eq.trans (congrArg (fun z=>Option.bind z _) ((Option.bind_assoc _ _ _).trans ((congrArg (fun f=>Option.bind _ f) (funext e)).trans h))) ?_;cases run cb p s with
 |none=>rfl
 |some r=>show some (!(!r.1),r.2)=some r;rw[Bool.not_not]
theorem O5{σ:Type}(K:Nat)(cb:σ→AX→Option (Bool×σ))(p:List AX)(a:p.length≤5000):∀(n m i:Nat) (s:σ),p.length=i+n→n<m→
  (CS (fun(st:σ) (x:AX)=>(En K cb x st).bind fun r=>some (r.1,r.2)) p m (i:Int) s).bind (fun z=>Sum.elim (fun q=>some (decide ((0:Int)≤q.1),q.2)) (fun q=>some (false,q)) z)=(run cb (p.drop i) s).bind fun r=>some (!r.1,r.2):=by
 intro n
 induction n with
 |zero=>
  intro m i s h hm;cases m with
  |zero=>omega
  |succ m=>
   rw[CS.eq_2,cf (df (by omega)),List.drop_eq_nil_of_le (by omega)];rfl
 |succ n ih=>
  intro m i s h hm;cases m with
  |zero=>omega
  |succ m=>
   have hi:i<p.length:=by omega
   rw[CS.eq_2,ct (dt (by omega)),DH hi,List.drop_eq_getElem_cons hi];simp only[run];have e:(En K cb p[i] s).bind (fun r=>some (r.1,r.2))=(cb s p[i]).bind fun r=>some (!r.1,r.2):=by
    unfold En;cases cb s p[i]<;>rfl
   rw[e];cases b:cb s p[i] with
   |none=>rfl
   |some r=>
    simp only[Option.bind_some];cases c:r.1 with
    |false=>
     show some (decide ((0:Int)≤(i:Int)),r.2)=some (!false,r.2);rw[dt (by omega)];rfl
    |true=>
     rw[nt,BJ (by omega) (by omega),DI];exact ih m (i+1) r.2 (by omega) (by omega)
theorem O6{σ:Type}{K:Nat}(cb:σ→AX→Option (Bool×σ))(p:List AX)(s:σ)(b:p.length≤5000)(hK:p.length<K):F8 K cb p s=run cb p s:=by
 unfold F8 Eu E1;have h:=O5 K cb p b p.length K 0 s (by omega) hK;rw[List.drop_zero,Int.natCast_zero] at h;have e:∀(z:(Int×σ)⊕σ),(Sum.elim (fun a=>some ((a.1,a.2))) (fun a=>some (((-1),a))) z:Option (Int×σ)).bind (fun r1=>some ((decide ((0:Int)≤r1.1),r1.2)))=Sum.elim (fun q=>some (decide ((0:Int)≤q.1),q.2)) (fun q=>some (false,q)) z:=by
  intro z;cases z<;>rfl
 refine Eq.trans (congrArg (fun z=>Option.bind z _) ((Option.bind_assoc _ _ _).trans ((congrArg (fun f=>Option.bind _ f) (funext e)).trans h))) ?_;cases run cb p s with
 |none=>rfl
 |some r=>show some (!(!r.1),r.2)=some r;rw[Bool.not_not]
def okW (W R:Int):List Bool→Int→Int→Bool
 |[],_,_=>true
 |false::l,s,_=>okW W R l s 0
 |true::l,s,r=>decide (s+1≤W)&&(decide (r+1≤R)&&okW W R l (s+1) (r+1))
theorem Ja(K:Nat)(y:Ap):∀(l:List Bool) (r s:Int),0≤r→0≤s→r+l.length≤5000→s+l.length≤5000→
  (run (fun(st:Int×Int) (x:Bool)=>(Du K x st.1 st.2 y).bind fun r=>some (r.1,(r.2.1,r.2.2))) l (r,s)).bind (fun d=>some (d.1))=some (okW y.An y.Av l s r)
 |[],r,s,_,_,_,_=>rfl
 |false::l,r,s,e,c,a,b=>by
  simp only[run,okW];unfold Du;simp only[Bool.not_false,cond_true,Option.bind_some];exact Ja K y l 0 s (by omega) c (by simp at a;omega) (by simp at b;omega)
 |true::l,r,s,e,c,a,b=>by
  simp only[List.length_cons] at a b;simp only[run,okW];unfold Du;simp only[Bool.not_true,cond_false];rw[BJ (by omega) (by omega),BJ (by omega) (by omega)];cases f:decide (s+1≤y.An) with
  |false=>simp
  |true=>
   simp only[cond_true,Option.bind_some];cases g:decide (r+1≤y.Av) with
   |false=>simp
   |true=>
    simp only[cond_true,Bool.true_and];exact Ja K y l (r+1) (s+1) (by omega) (by omega) (by omega) (by omega)
theorem LY{K:Nat}(y:Ap)(l:List Bool)(a:l.length≤4000)(hK:l.length<K):D6 K y l=some (okW y.An y.Av l 0 0):=by
 unfold D6;rw[Ow _ l _ (by omega) hK];exact Ja K y l 0 0 (by omega) (by omega) (by omega) (by omega)
end Go.Proofs.YtkljfdkmjdjpfaaGreat
end
section
namespace Go.Proofs.YtkljfdkmjdjpfaaGreat
theorem NK(s x:Nat):EV (s:Int) (x:Int)=((s/2^x:Nat):Int):=by
 unfold EV;rw[Int.toNat_natCast,Int.natCast_ediv,Int.natCast_pow];rfl
theorem Q6(s x:Nat):EV (s:Int) (x:Int)%2=((s/2^x%2:Nat):Int):=by rw[NK];simp
theorem O7(b d:Nat):(EV (b:Int) (d:Int)%2==1)=b.testBit d:=by
 rw[Q6,Nat.testBit_eq_decide_div_mod_eq];cases h:decide (b/2^d%2=1) with
 |true=>rw[of_decide_eq_true h];rfl
 |false=>
  have:=of_decide_eq_false h;simp only[beq_eq_false_iff_ne,ne_eq];omega
theorem O8(b d:Nat)(h:d<64):MC (b:Int) (d:Int)=some ():=if_pos ⟨by omega,by omega⟩
theorem SC(b d:Nat):0≤EV (b:Int) (d:Int):=by rw[NK];exact Int.natCast_nonneg _
def wl (n b:Nat):List Bool:=(List.range n).map b.testBit
theorem Fm(n b:Nat):(wl n b).length=n:=by simp[wl]
theorem TE(b n:Nat)(a:List Bool)(h0:a.length=n)(d:n≤63):∀(k m i:Nat) (s:List Bool),n=i+k→k<m→s.length=n→
  CA (b:Int) a m (i:Int) s=some (s.take i++(List.range' i k).map b.testBit):=by
 intro k
 induction k with
 |zero=>
  intro m i s h hm c;cases m with
  |zero=>omega
  |succ m=>
   rw[CA.eq_2,cf (df (by omega)),List.take_of_length_le (by omega)];simp
 |succ k ih=>
  intro m i s h hm c;cases m with
  |zero=>omega
  |succ m=>
   have hi:i<s.length:=by omega
   rw[CA.eq_2,ct (dt (by omega)),bd (O8 b i (by omega)),MK (SC b i) (by omega),DH hi,BJ (by omega) (by omega),DI,O7,Int.toNat_natCast];rw[ih m (i+1) (s.set i (b.testBit i)) (by omega) (by omega) (by rw[List.length_set];exact c)]
   congr 1
   rw[List.range'_succ,List.map_cons,List.take_add_one,List.getElem?_set_self hi,List.take_set_of_le (Nat.le_refl _)];simp
theorem TF(b n:Nat)(s:List Bool)(c:n≤63){K:Nat}(hK:n<K)(a:s.length=n):CA (b:Int) s K 0 s=some (wl n b):=by
 have:=TE b n s a c n K 0 s (by omega) hK a;rw[Int.natCast_zero] at this;rw[this,wl,List.range_eq_range'];rfl
def Hd (y:Ap) (l:List Bool):Bool:=okW y.An y.Av l 0 0
def days(y:Ap):Nat:=(y.Ak+1).toNat
def CH(y:Ap):List (List Bool):=((List.range (2^days y)).map (wl (days y))).filter (Hd y)
theorem Ia:∀n:Nat,n≤10→2^n≤1024:=by decide
theorem Ox{σ:Type}{K:Nat}(cb:σ→List Bool→Option (Bool×σ))(y:Ap)(f:days y≤10)(hK:2000≤K):∀(k m i:Nat) (a:List Bool) (st:σ),2^days y=i+k→k<m→a.length=days y→
  CB cb K y m (i:Int) a st=(run cb (((List.range' i k).map (wl (days y))).filter (Hd y)) st).bind fun r=>some (cond r.1 (.inr r.2) (.inl r.2)):=by
 intro k;have g:=Ia _ f;have b:GS (1:Int) ((List.replicate (y.Ak+1).toNat false).length:Int)=((2^days y:Nat):Int):=by
  unfold GS;rw[Int.one_mul,Int.toNat_natCast,List.length_replicate,Int.natCast_pow];rfl
 induction k with
 |zero=>
  intro m i a st h hm c;cases m with
  |zero=>omega
  |succ m=>
   rw[CB.eq_2,b,cf (df (by omega))];rfl
 |succ k ih=>
  intro m i a st h hm c;cases m with
  |zero=>omega
  |succ m=>
   rw[CB.eq_2,b,ct (dt (by omega)),bd (TF i (days y) a (by omega) (by omega) c),bd (LY y (wl (days y) i) (by rw[Fm];omega) (by rw[Fm];omega))];rw[List.range'_succ,List.map_cons];show cond (Hd y (wl (days y) i)) _ _=_;cases d:Hd y (wl (days y) i) with
   |false=>
    rw[List.filter_cons_of_neg (by rw[d];decide),cf rfl,BJ (by omega) (by omega),DI];exact ih m (i+1) _ st (by omega) (by omega) (Fm _ _)
   |true=>
    rw[List.filter_cons_of_pos d,ct rfl];show _=(Option.bind _ _:Option (Bool×σ)).bind _;cases j:cb st (wl (days y) i) with
    |none=>rfl
    |some r=>
     cases e:r.1 with
     |false=>
      show(cond (!r.1) (some (Sum.inl r.2)) _:Option (σ⊕σ))=(cond r.1 _ (some (false,r.2)):Option (Bool×σ)).bind _;rw[e];rfl
     |true=>
      show cond (!r.1) _ ((i64 ((i:Int)+1)).bind _)=(cond r.1 (run cb _ r.2) _:Option (Bool×σ)).bind _;rw[e,nt,BJ (by omega) (by omega),DI];exact ih m (i+1) _ r.2 (by omega) (by omega) (Fm _ _)
theorem K7{σ:Type}{K:Nat}(cb:σ→List Bool→Option (Bool×σ))(y:Ap)(h0:0≤y.Ak)(h9:y.Ak≤9)(hK:2000≤K)(st:σ):
  Dd K cb y st=(run cb (CH y) st).bind fun r=>some r.2:=by
 have a:days y≤10:=by unfold days;omega
 have c:=Ia _ a;unfold Dd;rw[BJ (by omega) (by omega),NJ (by omega) (by omega) (by omega)];have b:Lj (1:Int) ((List.replicate (y.Ak+1).toNat false).length:Int)=some ():=by
  rw[List.length_replicate];refine if_pos ⟨by omega,by omega,?_,?_⟩
  ·have:(0:Int)≤1*2^((days y:Nat):Int).toNat:=by rw[Int.one_mul];exact Int.le_of_lt (Int.pow_pos (by omega))
   exact Int.le_trans (by omega) this
  ·rw[Int.one_mul,Int.toNat_natCast];have:((2^days y:Nat):Int)≤1024:=by omega
   rw[Int.natCast_pow] at this;exact Int.le_trans this (by omega)
 rw[bd b];have:=Ox (K:=K) cb y a hK (2^days y) K 0 (List.replicate (y.Ak+1).toNat false) st (by omega) (by omega) (by rw[List.length_replicate];rfl);rw[Int.natCast_zero] at this;rw[this,CH,List.range_eq_range',Option.bind_assoc]
 congr 1;funext r
 cases r.1<;>rfl
end Go.Proofs.YtkljfdkmjdjpfaaGreat
end
section
namespace Go.Proofs.YtkljfdkmjdjpfaaGreat
def FJ(y:Ap)(l:AX):Bool:=decide (0≤l.Au)&&(decide (l.Au≤l.AG)&&(decide (l.AG≤y.Ak)&&(Fz l.AN 1 5&&(Fz l.B0 1 5&&Fz l.B6 0 y.Ak))))
def CJ(l:AX):Int:=l.AG-l.Au+1
def Fj:List AX→Int
 |[]=>1
 |l::r=>CJ l*Fj r
def HP (y:Ap):Int:=((CH y).length:Int)*Fj y.Ae
def check(y:Ap):Int:=
 if 9<y.Ak∨2<y.Ag∨4<(y.Ae.length:Int) then 3
 else if y.Ak<0∨y.Ag<1∨Fz y.An 0 (y.Ak+1)=false∨Fz y.Av 0 (y.Ak+1)=false∨y.Ae.all (FJ y)=false then 1
 else if 1000<HP y then 3 else 0
theorem Ir{y:Ap}{l:AX}:FJ y l=true↔0≤l.Au∧l.Au≤l.AG∧l.AG≤y.Ak∧(1≤l.AN∧l.AN≤5)∧(1≤l.B0∧l.B0≤5)∧0≤l.B6∧l.B6≤y.Ak:=by
 unfold FJ;simp only[Bool.and_eq_true,decide_eq_true_eq,Gb]
theorem TG(K:Nat)(y:Ap)(l:AX):EB K y l=some (FJ y l):=by
 unfold EB FJ GD Gs;rw[GX,GX,GX];cases decide ((0:Int)≤l.Au)<;>cases decide (l.Au≤l.AG)<;>cases decide (l.AG≤y.Ak)<;>cases Fz l.AN 1 5<;>cases Fz l.B0 1 5<;>rfl
theorem SD{K:Nat}(hK:2<K)(a b:Int):F9 K [a,b]=some (min a b):=by
 obtain⟨k,rfl⟩:∃k,K=k+3:=⟨K-3,by omega⟩;unfold F9 Gl;rw[cf (df (by simp)),show(0:Int)=((0:Nat):Int) from rfl,DH (by simp),show(1:Int)=((1:Nat):Int) from rfl,D9.eq_2,ct (dt (by simp)),DH (by simp),BJ (by omega) (by omega),D9.eq_2,cf (df (by simp))];rfl
theorem O9(K:Nat)(l:AX)(h0:0≤l.Au)(a:l.Au≤l.AG)(b:l.AG≤9):EH K (⟨l.Au,l.AG⟩:CI)=some (CJ l):=by
 unfold EH;show(i64 (l.AG-l.Au)).bind _=_;rw[BJ (by omega) (by omega)];show(i64 (l.AG-l.Au+1)).bind _=_;rw[BJ (by omega) (by omega)];rfl
theorem SE(K:Nat)(l:AX)(h0:0≤l.Au)(a:l.Au≤l.AG)(b:l.AG≤9):E2 K (⟨l.Au,l.AG⟩:CI)=some (CJ l):=by
 unfold E2;show(i64 (l.AG-l.Au)).bind _=_;rw[BJ (by omega) (by omega)];show(i64 (l.AG-l.Au+1)).bind _=_;rw[BJ (by omega) (by omega)];rfl
def IA(c:Int):Int→List AX→Int
 |n,[]=>n
 |n,l::r=>IA c (min (n*CJ l) c) r
def sized(l:AX):Prop:=1≤CJ l∧CJ l≤10
theorem KG{y:Ap}{l:AX}(h9:y.Ak≤9)(h:FJ y l=true):sized l:=by
 obtain⟨a,b,c,_⟩:=Ir.1 h;unfold sized CJ;omega
theorem JP:∀{ls:List AX},(∀l∈ls,sized l)→1≤Fj ls
 |[],_=>Int.le_refl _
 |l::r,h=>by
  have a:=(h l (List.mem_cons_self ..)).1;have b:=JP (ls:=r) fun x c=>h x (List.mem_cons_of_mem _ c);have:=Int.mul_le_mul a b (by omega) (by omega);unfold Fj;omega
theorem Lp{c:Int}(e:1000<c):∀{ls:List AX} (n:Int),0≤n→(∀l∈ls,sized l)→(1000<IA c n ls↔1000<n*Fj ls)
 |[],n,_,_=>by simp[IA,Fj]
 |l::r,n,f,h=>by
  have g:=h l (List.mem_cons_self ..);have b:∀x∈r,sized x:=fun x i=>h x (List.mem_cons_of_mem _ i);have d:=JP b;have h0:0≤n*CJ l:=Int.mul_nonneg f (by have:=g.1;omega);unfold IA Fj;rw[Lp e _ (by omega) b,←Int.mul_assoc];rcases Int.le_total (n*CJ l) c with a|a
  ·rw[Int.min_eq_left a]
  ·rw[Int.min_eq_right a];have j:c*1≤c*Fj r:=Int.mul_le_mul_of_nonneg_left d (by omega);have k:(n*CJ l)*1≤n*CJ l*Fj r:=Int.mul_le_mul_of_nonneg_left d h0;constructor<;>intro _<;>omega
theorem NL{c:Int}(b:1000<c):∀{ls:List AX} (n:Int),0≤n→(∀l∈ls,sized l)→n*Fj ls≤1000→IA c n ls=n*Fj ls
 |[],n,_,_,_=>by simp[IA,Fj]
 |l::r,n,d,h,hle=>by
  have e:=h l (List.mem_cons_self ..);have a:∀x∈r,sized x:=fun x f=>h x (List.mem_cons_of_mem _ f);have g:=JP a;have h0:0≤n*CJ l:=Int.mul_nonneg d (by have:=e.1;omega);rw[Fj,←Int.mul_assoc] at hle;rw[IA,Fj,←Int.mul_assoc];have i:(n*CJ l)*1≤n*CJ l*Fj r:=Int.mul_le_mul_of_nonneg_left g h0;rw[Int.min_eq_left (by omega),NL b _ h0 a hle]
theorem Q7(y:Ap)(j:y.Ae.length≤4)(b:∀l∈y.Ae,sized l∧0≤l.Au∧l.AG≤9){K:Nat}(hK:2000≤K):∀(k m i:Nat) (n:Int),y.Ae.length=i+k→k<m→0≤n→n≤3000→
  DG K y m (i:Int) n=some (IA 1001 n (y.Ae.drop i)):=by
 intro k
 induction k with
 |zero=>
  intro m i n h hm h0 a;cases m with
  |zero=>omega
  |succ m=>rw[DG.eq_2,cf (df (by omega)),List.drop_eq_nil_of_le (by omega)];rfl
 |succ k ih=>
  intro m i n h hm h0 a;cases m with
  |zero=>omega
  |succ m=>
   have hi:i<y.Ae.length:=by omega
   obtain⟨⟨s1,s2⟩,c,d⟩:=b y.Ae[i] (List.getElem_mem hi);have e:1≤CJ y.Ae[i]∧CJ y.Ae[i]≤10:=⟨s1,s2⟩;have f:0≤n*CJ y.Ae[i]:=Int.mul_nonneg h0 (by omega);have g:n*CJ y.Ae[i]≤3000*10:=Int.mul_le_mul a s2 (by omega) (by omega);rw[DG.eq_2,ct (dt (by omega)),DH hi,bd (O9 K _ c (by unfold CJ at s1;omega) d),BJ (by omega) (by omega),bd (SD (by omega) _ _),BJ (by omega) (by omega),DI];rw[ih m (i+1) _ (by omega) (by omega) (by omega) (by omega),List.drop_eq_getElem_cons hi];rfl
theorem SF(y:Ap)(j:y.Ae.length≤4)(b:∀l∈y.Ae,sized l∧0≤l.Au∧l.AG≤9){K:Nat}:∀(k m i:Nat) (n:Int),y.Ae.length=i+k→k<m→0≤n→n≤3000→
  Dr K y m n (i:Int)=some (IA 3000 n (y.Ae.drop i)):=by
 intro k
 induction k with
 |zero=>
  intro m i n h hm h0 a;cases m with
  |zero=>omega
  |succ m=>rw[Dr.eq_2,cf (df (by omega)),List.drop_eq_nil_of_le (by omega)];rfl
 |succ k ih=>
  intro m i n h hm h0 a;cases m with
  |zero=>omega
  |succ m=>
   have hi:i<y.Ae.length:=by omega
   obtain⟨⟨s1,s2⟩,c,d⟩:=b y.Ae[i] (List.getElem_mem hi);have e:1≤CJ y.Ae[i]∧CJ y.Ae[i]≤10:=⟨s1,s2⟩;have f:0≤n*CJ y.Ae[i]:=Int.mul_nonneg h0 (by omega);have g:n*CJ y.Ae[i]≤3000*10:=Int.mul_le_mul a s2 (by omega) (by omega);rw[Dr.eq_2,ct (dt (by omega)),DH hi,bd (SE K _ c (by unfold CJ at s1;omega) d),BJ (by omega) (by omega),BJ (by omega) (by omega),DI,Int.min_comm];rw[ih m (i+1) _ (by omega) (by omega) (by omega) (by omega),List.drop_eq_getElem_cons hi];rfl
theorem LZ{α:Type}:∀(l:List α) (n:Int),0≤n→n+l.length≤100000→run (fun(st:Int) (_:α)=>(i64 (st+1)).bind fun _=>some (true,st+1)) l n=some (true,n+l.length)
 |[],n,_,_=>by simp[run]
 |x::l,n,h0,a=>by
  simp only[List.length_cons] at a⊢;rw[run,BJ (by omega) (by omega)];show run _ l (n+1)=_;rw[LZ l (n+1) (by omega) (by omega)]
  congr 2;omega
theorem JQ(y:Ap)(h:days y≤10):(CH y).length≤1024:=by
 have a:=Ia _ h;have:(CH y).length≤((List.range (2^days y)).map (wl (days y))).length:=List.length_filter_le ..;simp at this;omega
theorem L0{K:Nat}(y:Ap):∀(l:List AX),run (fun(st:Unit) (x:AX)=>(EB K y x).bind fun r=>some (r,())) l ()=some (l.all (FJ y),())
 |[]=>rfl
 |x::l=>by
  rw[run,TG];show cond (FJ y x) (run _ l ()) (some (false,()))=_;rw[L0 y l,List.all_cons];cases FJ y x<;>rfl
theorem HU{K:Nat}(hK:2000≤K)(y:Ap):De K y=some (check y):=by
 unfold De check
 by_cases g:9<y.Ak
 ·rw[ct (dt g),if_pos (.inl g)]
 rw[cf (df g)]
 by_cases i:2<y.Ag
 ·rw[ct (dt i),if_pos (.inr (.inl i))]
 rw[cf (df i)]
 by_cases j:4<(y.Ae.length:Int)
 ·rw[ct (dt j),if_pos (.inr (.inr j))]
 rw[cf (df j),if_neg (by omega)]
 by_cases b:y.Ak<0
 ·rw[ct (dt b),if_pos (.inl b)]
 rw[cf (df b)]
 by_cases d:y.Ag<1
 ·rw[ct (dt d),if_pos (.inr (.inl d))]
 rw[cf (df d),BJ (by omega) (by omega),bd (GX ..)];cases r:Fz y.An 0 (y.Ak+1) with
 |false=>rw[nf,if_pos (.inr (.inr (.inl rfl)))]
 |true=>
  rw[nt,BJ (by omega) (by omega),bd (GX ..)];cases s:Fz y.Av 0 (y.Ak+1) with
  |false=>rw[nf,if_pos (.inr (.inr (.inr (.inl rfl))))]
  |true=>
   rw[nt,O6 _ _ _ (by omega) (by omega),bd (L0 y y.Ae)];cases o:y.Ae.all (FJ y) with
   |false=>rw[nf,if_pos (.inr (.inr (.inr (.inr rfl))))]
   |true=>
    rw[nt,if_neg (by simp[b,d])];have p:days y≤10:=by unfold days;omega
    have hw:=JQ y p;have m:∀l∈y.Ae,sized l∧0≤l.Au∧l.AG≤9:=fun l k=>by
     have n:=List.all_eq_true.1 o l k;have:=Ir.1 n;exact⟨KG (by omega) n,this.1,by omega⟩
    have q:Dd K (fun(st:Int) (x:List Bool)=>EC st x) y (0:Int)=some ((CH y).length:Int):=by
     rw[K7 _ y (by omega) (by omega) hK];show(run (fun(st:Int) (_:List Bool)=>(i64 (st+1)).bind fun _=>some (true,st+1)) (CH y) 0).bind _=_;rw[LZ _ 0 (by omega) (by omega)];simp
    have a:=Q7 y (by omega) m hK y.Ae.length K 0 ((CH y).length:Int) (by omega) (by omega) (by omega) (by omega);rw[Int.natCast_zero,List.drop_zero] at a;rw[bd q,bd a];have f:=Lp (c:=1001) (by omega) ((CH y).length:Int) (by omega) fun l k=>(m l k).1;unfold HP
    by_cases e:1000<((CH y).length:Int)*Fj y.Ae
    ·rw[ct (dt (f.2 e)),if_pos e]
    ·rw[cf (df fun h=>e (f.1 h)),if_neg e]
end Go.Proofs.YtkljfdkmjdjpfaaGreat
end
section
namespace Go.Proofs.YtkljfdkmjdjpfaaGreat
def Ee:List AX→List (List Int)
 |[]=>[[]]
 |l::r=>(List.range (CJ l).toNat).flatMap fun(n:Nat)=>(Ee r).map fun c=>(l.Au+(n:Int))::c
def BL(y:Ap):List A5:=(CH y).flatMap fun w=>(Ee y.Ae).map fun c=>⟨c,w⟩
section
variable{σ:Type}{K:Nat}(cb:σ→A5→Option (Bool×σ))(y:Ap)(w:List Bool)
def Tr (k i:Nat):Prop:=∀(c:List Int) (st:σ),c.length=y.Ae.length→
 (BG K cb k (i:Int) c w y st).map (fun z=>(z.1,z.2.2))=run (fun s d=>cb s ⟨c.take i++d,w⟩) (Ee (y.Ae.drop i)) st∧
 ∀z,BG K cb k (i:Int) c w y st=some z→z.2.1.length=y.Ae.length∧z.2.1.take i=c.take i
def Qd{α β:Type}:(Bool×α×β)⊕(α×β)→Bool×β
 |.inl x=>(false,x.2.2)
 |.inr x=>(true,x.2)
def SG{α β:Type}:(Bool×α×β)⊕(α×β)→α
 |.inl x=>x.2.1
 |.inr x=>x.1
theorem Qe(k i:Nat)(hi:i<y.Ae.length)(aL:y.Ae.length≤4)(aD:∀l∈y.Ae,sized l∧0≤l.Au∧l.AG≤9)(ih:Tr (K:=K) cb y w k (i+1)):
  ∀(n m j:Nat) (c:List Int) (st:σ),(CJ y.Ae[i]).toNat=j+n→n<m→c.length=y.Ae.length→
  (BV (BG K cb k) (i:Int) w y (CJ y.Ae[i]) m (j:Int) c st).map Qd=run (fun s d=>cb s ⟨c.take i++d,w⟩) ((List.range' j n).flatMap fun(q:Nat)=>(Ee (y.Ae.drop (i+1))).map fun d=>(y.Ae[i].Au+(q:Int))::d) st∧
  ∀z,BV (BG K cb k) (i:Int) w y (CJ y.Ae[i]) m (j:Int) c st=some z→(SG z).length=y.Ae.length∧(SG z).take i=c.take i∧(∀x,z=.inl x→x.1=false):=by
 obtain⟨⟨s1,s2⟩,aM,aN⟩:=aD y.Ae[i] (List.getElem_mem hi);have aJ:1≤CJ y.Ae[i]∧CJ y.Ae[i]≤10:=⟨s1,s2⟩;intro n
 induction n with
 |zero=>
  intro m j c st h hm o;cases m with
  |zero=>omega
  |succ m=>
   rw[BV.eq_2,cf (df (by omega))];exact⟨rfl,fun z b=>by cases b;exact⟨o,rfl,fun x p=>by cases p⟩⟩
 |succ n u=>
  intro m j c st h hm o;cases m with
  |zero=>omega
  |succ m=>
   have f:i<c.length:=by omega
   have aK:y.Ae[i].Au≤9:=by unfold CJ at s1;omega
   rw[BV.eq_2,ct (dt (by omega)),DH hi,BJ (by omega) (by omega),DH f,BJ (by omega) (by omega),DI i,Int.toNat_natCast];have v:(c.set i (y.Ae[i].Au+(j:Int))).length=y.Ae.length:=by rw[List.length_set];exact o
   have g:(c.set i (y.Ae[i].Au+(j:Int))).take (i+1)=c.take i++[y.Ae[i].Au+(j:Int)]:=by
    rw[List.take_add_one,List.getElem?_set_self f,List.take_set_of_le (Nat.le_refl _)];rfl
   obtain⟨t,aE⟩:=ih _ st v;rw[g] at t;rw[List.range'_succ,List.flatMap_cons,Hc,run_map];have aF:run (fun s d=>cb s ⟨c.take i++[y.Ae[i].Au+(j:Int)]++d,w⟩) (Ee (y.Ae.drop (i+1))) st=run (fun s d=>cb s ⟨c.take i++(y.Ae[i].Au+(j:Int))::d,w⟩) (Ee (y.Ae.drop (i+1))) st:=by
    congr 1;funext s d;rw[List.append_assoc];rfl
   rw[aF] at t;rw[←t];cases aG:BG K cb k ((i+1:Nat):Int) (c.set i (y.Ae[i].Au+(j:Int))) w y st with
   |none=>exact⟨rfl,fun z b=>by cases b⟩
   |some r=>
    obtain⟨aA,aH⟩:=aE r aG;have aB:r.2.1.take i=c.take i:=by
     have:=congrArg (List.take i) aH;rw[List.take_take,Nat.min_eq_left (by omega),g,List.take_append_of_le_length (by rw[List.length_take];omega),List.take_take,Nat.min_self] at this;exact this
    obtain⟨aI,rc,e⟩:=r;cases aI with
    |false=>
     refine⟨rfl,fun z b=>?_⟩;have aC:some (Sum.inl (false,rc,e))=some z:=b;cases aC;exact⟨aA,aB,fun x p=>by cases p;rfl⟩
    |true=>
     have key:(Option.bind (some (true,rc,e)) fun a=>cond (!a.1) (some (Sum.inl (false,a.2.1,a.2.2))) ((i64 ((j:Int)+1)).bind fun _=>BV (BG K cb k) (i:Int) w y (CJ y.Ae[i]) m ((j:Int)+1) a.2.1 a.2.2))=BV (BG K cb k) (i:Int) w y (CJ y.Ae[i]) m ((j+1:Nat):Int) rc e:=by
      rw[Option.bind_some,nt,BJ (by omega) (by omega),DI j]
     have:=u m (j+1) rc e (by omega) (by omega) aA;rw[aB] at this;rw[key];exact this
theorem Oy(t:y.Ae.length≤4)(g:∀l∈y.Ae,sized l∧0≤l.Au∧l.AG≤9)(hK:2000≤K):∀(n k i:Nat),y.Ae.length=i+n→n<k→Tr (K:=K) cb y w k i:=by
 intro n
 induction n with
 |zero=>
  intro k i h u c st f;cases k with
  |zero=>omega
  |succ k=>
   rw[BG.eq_2,ct (by rw[f,h];simp),List.drop_eq_nil_of_le (by omega)];have j:c.take i=c:=List.take_of_length_le (by omega);rw[j];simp only[Ee,run,List.append_nil];cases cb st ⟨c,w⟩ with
   |none=>exact⟨rfl,fun z a=>by cases a⟩
   |some r=>
    obtain⟨b,s⟩:=r;refine⟨by cases b<;>rfl,fun z a=>?_⟩;have e:some (b,c,s)=some z:=a;cases e;exact⟨f,j⟩
 |succ n ih=>
  intro k i h u c st f;cases k with
  |zero=>omega
  |succ k=>
   have hi:i<y.Ae.length:=by omega
   obtain⟨⟨s1,s2⟩,v,aA⟩:=g y.Ae[i] (List.getElem_mem hi);rw[BG.eq_2,cf (by rw[f];simp;omega),DH hi,bd (O9 K _ v (by unfold CJ at s1;omega) aA)];obtain⟨m,o⟩:=Qe cb y w k i hi t g (ih k (i+1) (by omega) (by omega)) (CJ y.Ae[i]).toNat K 0 c st (by omega) (by omega) f;rw[Int.natCast_zero] at m o;rw[List.drop_eq_getElem_cons hi,Ee,List.range_eq_range',←m];cases aB:BV (BG K cb k) (i:Int) w y (CJ y.Ae[i]) K 0 c st with
   |none=>exact⟨rfl,fun z a=>by cases a⟩
   |some r=>
    obtain⟨p,q,aC⟩:=o r aB;cases r with
    |inl x=>
     obtain⟨b,d,s⟩:=x;obtain rfl:=aC _ rfl;refine⟨rfl,fun z a=>?_⟩;have e:some (false,d,s)=some z:=a;cases e;exact⟨p,q⟩
    |inr x=>
     obtain⟨d,s⟩:=x;refine⟨rfl,fun z a=>?_⟩;have e:some (true,d,s)=some z:=a;cases e;exact⟨p,q⟩
end
theorem L1{σ:Type}{K:Nat}(cb:σ→A5→Option (Bool×σ))(y:Ap)(e:y.Ae.length≤4)(f:∀l∈y.Ae,sized l∧0≤l.Au∧l.AG≤9)(hK:2000≤K):∀(ws:List (List Bool)) (c:List Int) (st:σ),c.length=y.Ae.length→
  (run (fun(st:(List Int)×σ×Bool) (x:(List Bool))=>cond st.2.2 none (C6 cb K y st.1 st.2.1 x)) ws (c,st,false)).bind (fun a=>cond (a.2.2.2) (some (a.2.2.1)) (some (a.2.2.1)))=
  (run cb (ws.flatMap fun w=>(Ee y.Ae).map fun c=>(⟨c,w⟩:A5)) st).bind fun r=>some r.2
 |[],c,st,_=>rfl
 |w::ws,c,st,i=>by
  obtain⟨g,h⟩:=Oy cb y w e f hK y.Ae.length K 0 (by omega) (by omega) c st i;rw[Int.natCast_zero,List.drop_zero,List.take_zero] at g;rw[Int.natCast_zero] at h;rw[List.flatMap_cons,Hc,run_map];have j:run (fun s d=>cb s ⟨[]++d,w⟩) (Ee y.Ae) st=run (fun s d=>cb s (⟨d,w⟩:A5)) (Ee y.Ae) st:=rfl;rw[←j,←g,run];show(Option.bind (C6 cb K y c st w) _:Option _).bind _=_;unfold C6;cases k:BG K cb K 0 c w y st with
  |none=>rfl
  |some r=>
   obtain⟨m,n⟩:=h r k;obtain⟨b,d,s⟩:=r;cases b with
   |false=>rfl
   |true=>
    show(run _ ws (d,s,false)).bind _=(run cb _ s).bind _;exact L1 cb y e f hK ws d s m
theorem Qf{σ:Type}{K:Nat}(cb:σ→A5→Option (Bool×σ))(y:Ap)(h0:0≤y.Ak)(h9:y.Ak≤9)(a:y.Ae.length≤4)(b:∀l∈y.Ae,sized l∧0≤l.Au∧l.AG≤9)(hK:2000≤K)(st:σ):
  ED K cb y st=(run cb (BL y) st).bind fun r=>some r.2:=by
 unfold ED;rw[NJ (by omega) (by omega) (by omega),K7 _ y h0 h9 hK,Option.bind_assoc];exact L1 cb y a b hK (CH y) (List.replicate (y.Ae.length:Int).toNat (0:Int)) st (by rw[List.length_replicate];omega)
end Go.Proofs.YtkljfdkmjdjpfaaGreat
end
section
namespace Go.Proofs.YtkljfdkmjdjpfaaGreat
def HG:AX:=⟨0,0,0,0,0⟩
def FK(y:Ap)(i:Int):AX:=y.Ae.getD i.toNat HG
def Fw(c:List Int)(i:Int):Int:=c.getD i.toNat 0
def GH (l:AX) (d0:Int):List Bool→Int→Int→Int→Aq
 |[],_,_,_=>⟨d0,-1,false⟩
 |true::ws,d,EK,run=>cond (EK==l.AN) ⟨d0,d,EK==l.AN⟩ (cond (run+1==l.B0) ⟨d0,d,EK==l.AN⟩ (GH l d0 ws (d+1) EK (run+1)))
 |false::ws,d,EK,run=>cond (EK+1==l.AN) ⟨d0,d,EK+1==l.AN⟩ (cond ((0:Int)==l.B0) ⟨d0,d,EK+1==l.AN⟩ (GH l d0 ws (d+1) (EK+1) 0))
def EE(y:Ap)(w:List Bool)(l:AX)(d:Int):Aq:=if y.Ak<d then ⟨-1,-1,false⟩ else GH l d (w.drop d.toNat) d 0 0
def wk(y:Ap)(w:List Bool)(m:List (List Int×Aq)):Cj:=⟨y.Ak,y.Ag,y.An,y.Av,y.Ae,w,m⟩
theorem TH(y:Ap)(w:List Bool)(mm:List (List Int×Aq))(p:Hb)(l:AX)(h9:y.Ak≤9)(hw:(w.length:Int)=y.Ak+1)(b0 f:Int)(g:Bool):∀(k m d:Nat) (EK r:Int),y.Ak+1=d+k→k<m→0≤EK→EK≤d→0≤r→r≤d→
  (DA (wk y w mm) p l m EK r (d:Int) b0 f g).bind (fun z=>Sum.elim (fun a=>some ((⟨a.1,a.2.1,a.2.2⟩:Aq))) (fun a=>some ((⟨p.day,(-1),false⟩:Aq))) z)=some (GH l p.day (w.drop d) (d:Int) EK r):=by
 intro k
 induction k with
 |zero=>
  intro m d EK r h hm h0 i j n;cases m with
  |zero=>omega
  |succ m=>
   rw[DA.eq_2,cf (df (by show¬(d:Int)≤y.Ak;omega)),List.drop_eq_nil_of_le (by omega)];rfl
 |succ k ih=>
  intro m d EK r h hm h0 i j n;cases m with
  |zero=>omega
  |succ m=>
   have b:d<w.length:=by omega
   have c:d<(wk y w mm).CY.length:=b;rw[DA.eq_2,ct (dt (by show(d:Int)≤y.Ak;omega)),DH c,List.drop_eq_getElem_cons b];have e:(wk y w mm).CY[d]=w[d]:=rfl;rw[e];cases s:w[d] with
   |true=>
    rw[ct rfl,BJ (by omega) (by omega),GH];cases o:(EK==l.AN) with
    |true=>rw[ct rfl,ct rfl];rfl
    |false=>
     rw[cf rfl,cf rfl];cases q:(r+1==l.B0) with
     |true=>rw[ct rfl,ct rfl];rfl
     |false=>
      rw[cf rfl,cf rfl,BJ (by omega) (by omega),DI];exact ih m (d+1) EK (r+1) (by omega) (by omega) h0 (by omega) (by omega) (by omega)
   |false=>
    rw[cf rfl,BJ (by omega) (by omega),GH];cases o:(EK+1==l.AN) with
    |true=>rw[ct rfl,ct rfl];rfl
    |false=>
     rw[cf rfl,cf rfl];cases q:((0:Int)==l.B0) with
     |true=>rw[ct rfl,ct rfl];rfl
     |false=>
      rw[cf rfl,cf rfl,BJ (by omega) (by omega),DI];exact ih m (d+1) (EK+1) 0 (by omega) (by omega) (by omega) (by omega) (by omega) (by omega)
theorem TI{K:Nat}(y:Ap)(w:List Bool)(mm:List (List Int×Aq))(i d:Int)(h9:y.Ak≤9)(hw:(w.length:Int)=y.Ak+1)(a:0≤i)(hi:i<(y.Ae.length:Int))(c:0≤d)(hK:2000≤K):
  Fa K (wk y w mm) ⟨i,d⟩=some (EE y w (FK y i) d):=by
 unfold Fa EE;show cond (decide (y.Ak<d)) _ ((idx y.Ae i).bind _)=_
 by_cases h:y.Ak<d
 ·rw[ct (dt h),if_pos h]
 rw[cf (df h),if_neg h];obtain⟨i,rfl⟩:=Int.eq_ofNat_of_zero_le a;obtain⟨d,rfl⟩:=Int.eq_ofNat_of_zero_le c;have b:i<y.Ae.length:=by omega
 rw[DH b];have e:y.Ae[i]=FK y (i:Int):=by
  show y.Ae[i]=y.Ae.getD ((i:Int)).toNat HG;rw[Int.toNat_natCast,List.getD_eq_getElem?_getD,List.getElem?_eq_getElem (by omega)];rfl
 rw[e,Int.toNat_natCast];exact TH y w mm ⟨(i:Int),(d:Int)⟩ _ h9 hw 0 0 false (y.Ak+1-d).toNat K d 0 0 (by omega) (by omega) (by omega) (by omega) (by omega) (by omega)
def Gc (y:Ap) (w:List Bool) (m:List (List Int×Aq)):Prop:=∀(i d:Int) (s:Aq),Bv m [i,d]=some s→s=EE y w (FK y i) d
theorem MM(y:Ap)(w:List Bool):Gc y w []:=fun i d s h=>by cases h
theorem SH{K:Nat}(y:Ap)(w:List Bool)(mm:List (List Int×Aq))(i d:Int)(h9:y.Ak≤9)(hw:(w.length:Int)=y.Ak+1)(e:0≤i)(hi:i<(y.Ae.length:Int))(j:0≤d)(hK:2000≤K)(hm:Gc y w mm):
  ∃c,EW K (wk y w mm) ⟨i,d⟩=some (EE y w (FK y i) d,c)∧Gc y w c:=by
 unfold EW;show∃c,cond (!(Bv mm [i,d]).isSome) ((Fa K (wk y w mm) ⟨i,d⟩).bind _) _=_∧_;cases f:Bv mm [i,d] with
 |none=>
  rw[bd (TI y w mm i d h9 hw e hi j hK)];refine⟨_,rfl,fun i2 d2 s h=>?_⟩;have a:Bv (G8 mm [i,d] (EE y w (FK y i) d)) [i2,d2]=some s:=h;rw[Nt] at a;split at a
  ·rename_i he
   have b:=List.cons.inj he;have g:=List.cons.inj b.2;rw[b.1,g.1];exact(Option.some.inj a).symm
  ·exact hm i2 d2 s a
 |some s=>
  refine⟨mm,?_,hm⟩;show some ((Bv mm [i,d]).getD ⟨0,0,false⟩,mm)=_;rw[f,hm i d s f];rfl
def He (y:Ap) (w:List Bool) (c:List Int):List Int→Int→List Aq→List Aq
 |[],_,out=>out
 |i::r,free,out=>
  let s:=EE y w (FK y i) (max free (Fw c i))
  He y w c r (cond (s.Bg==-1) (y.Ak+1) (s.Bg+1)) (out.set i.toNat s)
def Hf(y:Ap)(w:List Bool)(c:List Int):List (List Int)→List Aq→List Aq
 |[],out=>out
 |l::r,out=>Hf y w c r (He y w c l 0 out)
def Jb:Aq:=⟨0,0,false⟩
def Gm(y:Ap)(w:List Bool)(order:List (List Int))(c:List Int):List Aq:=Hf y w c order (List.replicate y.Ae.length Jb)
theorem Ib(y:Ap)(w:List Bool)(c:List Int):∀(l:List Int) (free:Int) (out:List Aq),(He y w c l free out).length=out.length
 |[],_,_=>rfl
 |i::r,free,out=>by rw[He,Ib y w c r];simp
theorem JR(y:Ap)(w:List Bool)(c:List Int):∀(l:List (List Int)) (out:List Aq),(Hf y w c l out).length=out.length
 |[],_=>rfl
 |i::r,out=>by rw[Hf,JR y w c r,Ib]
theorem KH(l:AX)(d0:Int):∀(ws:List Bool) (d EK r:Int),0≤d→(GH l d0 ws d EK r).Bg=-1∨(d≤(GH l d0 ws d EK r).Bg∧(GH l d0 ws d EK r).Bg<d+ws.length)
 |[],d,EK,r,_=>.inl rfl
 |true::ws,d,EK,r,h=>by
  rw[GH];cases (EK==l.AN) with
  |true=>right;simp;omega
  |false=>
   cases (r+1==l.B0) with
   |true=>right;simp;omega
   |false=>
    rcases KH l d0 ws (d+1) EK (r+1) (by omega) with a|a
    ·exact .inl a
    ·right;simp only[List.length_cons,cond_false];omega
 |false::ws,d,EK,r,h=>by
  rw[GH];cases (EK+1==l.AN) with
  |true=>right;simp;omega
  |false=>
   cases ((0:Int)==l.B0) with
   |true=>right;simp;omega
   |false=>
    rcases KH l d0 ws (d+1) (EK+1) 0 (by omega) with a|a
    ·exact .inl a
    ·right;simp only[List.length_cons,cond_false];omega
theorem Pb(y:Ap)(w:List Bool)(l:AX)(d:Int)(b:0≤d)(hw:(w.length:Int)=y.Ak+1):(EE y w l d).Bg=-1∨(d≤(EE y w l d).Bg∧(EE y w l d).Bg≤y.Ak):=by
 unfold EE
 by_cases h:y.Ak<d
 ·rw[if_pos h];exact .inl rfl
 ·rw[if_neg h];rcases KH l d (w.drop d.toNat) d 0 0 b with a|a
  ·exact .inl a
  ·right;rw[List.length_drop] at a;omega
theorem Q8{K:Nat}(y:Ap)(w:List Bool)(a:List (List Int×Aq))(c l:List Int)(h0:0≤y.Ak)(h9:y.Ak≤9)(hw:(w.length:Int)=y.Ak+1)(hK:2000≤K)(x:∀i∈l,0≤i∧i<(y.Ae.length:Int))(aE:c.length=y.Ae.length)(aC:l.length≤1000):
  ∀(k m j:Nat) (free:Int) (out:List Aq) (mm:List (List Int×Aq)),l.length=j+k→k<m→0≤free→out.length=y.Ae.length→Gc y w mm→
  ∃b,Dk K (wk y w a) c l m free (j:Int) out mm=some (He y w c (l.drop j) free out,b)∧Gc y w b:=by
 intro k
 induction k with
 |zero=>
  intro m j free out mm h hm z f g;cases m with
  |zero=>omega
  |succ m=>rw[Dk.eq_2,cf (df (by omega)),List.drop_eq_nil_of_le (by omega)];exact⟨mm,rfl,g⟩
 |succ k ih=>
  intro m j free out mm h hm z f g;cases m with
  |zero=>omega
  |succ m=>
   have n:j<l.length:=by omega
   obtain⟨d,p⟩:=x l[j] (List.getElem_mem n);obtain⟨i,hi⟩:=Int.eq_ofNat_of_zero_le d;have e:i<c.length:=by omega
   have q:i<out.length:=by omega
   have r:c[i]=Fw c l[j]:=by
    rw[hi];unfold Fw;rw[Int.toNat_natCast,List.getD_eq_getElem?_getD,List.getElem?_eq_getElem e];rfl
   rw[Dk.eq_2,ct (dt (by omega)),DH n,List.drop_eq_getElem_cons n,He];have s:idx c l[j]=some (Fw c l[j]):=by rw[←r];rw[hi];exact idx_eq e
   rw[bd s];obtain⟨b,aA,t⟩:=SH (K:=K) y w mm l[j] (max free (Fw c l[j])) h9 hw d p (by omega) hK g;have u:EW K (⟨(wk y w a).Bx,(wk y w a).BO,(wk y w a).B2,(wk y w a).B3,(wk y w a).AS,(wk y w a).CY,mm⟩:Cj) (⟨l[j],max free (Fw c l[j])⟩:Hb)=some (EE y w (FK y l[j]) (max free (Fw c l[j])),b):=aA;have o:idx out l[j]=some out[i]:=by rw[hi];exact idx_eq q
   have aB:=Pb y w (FK y l[j]) (max free (Fw c l[j])) (by omega) hw;have aD:-1≤(EE y w (FK y l[j]) (max free (Fw c l[j]))).Bg∧(EE y w (FK y l[j]) (max free (Fw c l[j]))).Bg≤9:=by omega
   rw[bd u,bd o];show∃v,(i64 ((EE y w (FK y l[j]) (max free (Fw c l[j]))).Bg+1)).bind _=_∧_;rw[BJ (by omega) (by omega)];show∃v,cond ((EE y w (FK y l[j]) (max free (Fw c l[j]))).Bg==-1) ((i64 (y.Ak+1)).bind _) _=_∧_;cases aF:((EE y w (FK y l[j]) (max free (Fw c l[j]))).Bg==-1) with
   |true=>
    rw[ct rfl,ct rfl,BJ (by omega) (by omega),BJ (by omega) (by omega),DI];exact ih m (j+1) (y.Ak+1) _ b (by omega) (by omega) (by omega) (by rw[List.length_set];exact f) t
   |false=>
    rw[cf rfl,cf rfl,BJ (by omega) (by omega),DI];exact ih m (j+1) ((EE y w (FK y l[j]) (max free (Fw c l[j]))).Bg+1) _ b (by omega) (by omega) (by omega) (by rw[List.length_set];exact f) t
theorem Q9{K:Nat}(y:Ap)(w:List Bool)(b:List (List Int×Aq))(c:List Int)(order:List (List Int))(h0:0≤y.Ak)(h9:y.Ak≤9)(hw:(w.length:Int)=y.Ak+1)(hK:2000≤K)(p:∀l∈order,l.length≤1000∧∀i∈l,0≤i∧i<(y.Ae.length:Int))(q:c.length=y.Ae.length)(s:order.length≤1000):
  ∀(k m j:Nat) (out:List Aq) (mm:List (List Int×Aq)),order.length=j+k→k<m→out.length=y.Ae.length→Gc y w mm→
  ∃a,C2 K (wk y w b) order c m (j:Int) out mm=some (Hf y w c (order.drop j) out,a)∧Gc y w a:=by
 intro k
 induction k with
 |zero=>
  intro m j out mm h hm d e;cases m with
  |zero=>omega
  |succ m=>rw[C2.eq_2,cf (df (by omega)),List.drop_eq_nil_of_le (by omega)];exact⟨mm,rfl,e⟩
 |succ k ih=>
  intro m j out mm h hm d e;cases m with
  |zero=>omega
  |succ m=>
   have f:j<order.length:=by omega
   obtain⟨g,n⟩:=p order[j] (List.getElem_mem f);obtain⟨a,o,r⟩:=Q8 (K:=K) y w b c order[j] h0 h9 hw hK n q g order[j].length K 0 0 out mm (by omega) (by omega) (by omega) d e;rw[Int.natCast_zero,List.drop_zero] at o;rw[C2.eq_2,ct (dt (by omega)),DH f,List.drop_eq_getElem_cons f,Hf,bd o,BJ (by omega) (by omega),DI];exact ih m (j+1) _ a (by omega) (by omega) (by rw[Ib];exact d) r
theorem Pc{K:Nat}(y:Ap)(w:List Bool)(mm:List (List Int×Aq))(c:List Int)(order:List (List Int))(h0:0≤y.Ak)(h9:y.Ak≤9)(k:y.Ae.length≤4)(hw:(w.length:Int)=y.Ak+1)(hK:2000≤K)(e:∀l∈order,l.length≤1000∧∀i∈l,0≤i∧i<(y.Ae.length:Int))(f:c.length=y.Ae.length)(b:order.length≤1000)(g:Gc y w mm):
  ∃a,CL K (wk y w mm) order c=some (Gm y w order c,a)∧Gc y w a:=by
 unfold CL;show∃a,(JJ (y.Ae.length:Int) 24).bind _=_∧_;rw[NJ (by omega) (by omega) (by omega)];obtain⟨a,d,h⟩:=Q9 (K:=K) y w mm c order h0 h9 hw hK e f b order.length K 0 (List.replicate y.Ae.length Jb) mm (by omega) (by omega) (by rw[List.length_replicate]) g;rw[Int.natCast_zero,List.drop_zero] at d;have j:C2 K (wk y w mm) order c K (0:Int) (List.replicate ((wk y w mm).AS.length:Int).toNat (⟨0,0,false⟩:Aq)) (wk y w mm).known=some (Hf y w c order (List.replicate y.Ae.length Jb),a):=by
  show C2 K (wk y w mm) order c K (0:Int) (List.replicate (y.Ae.length:Int).toNat Jb) mm=_;rw[Int.toNat_natCast];exact d
 exact⟨a,bd j,h⟩
end Go.Proofs.YtkljfdkmjdjpfaaGreat
end
section
namespace Go.Proofs.YtkljfdkmjdjpfaaGreat
def iota(n:Nat):List Int:=(List.range n).map fun(i:Nat)=>(i:Int)
theorem Gx(n:Nat):(iota n).length=n:=by simp[iota]
theorem MN(n i:Nat)(h:i<n):(iota n)[i]?=some (i:Int):=by simp[iota,h]
def C3(y:Ap)(o:List (List Int)):Bool:=((o.length:Int)==y.Ag)&&(CX o.flatten==iota y.Ae.length)
theorem SI(o:List (List Int))(c:o.flatten.length≤100000):∀(k m i:Nat) (acc:List Int),o.length=i+k→k<m→o.length≤100000→acc++(o.drop i).flatten=o.flatten→
  Dg o m acc (i:Int)=some o.flatten:=by
 intro k
 induction k with
 |zero=>
  intro m i acc h hm b a;cases m with
  |zero=>omega
  |succ m=>
   rw[Dg.eq_2,cf (df (by omega))];rw[List.drop_eq_nil_of_le (by omega)] at a;rw[←a];simp
 |succ k ih=>
  intro m i acc h hm b a;cases m with
  |zero=>omega
  |succ m=>
   have hi:i<o.length:=by omega
   rw[List.drop_eq_getElem_cons hi,List.flatten_cons,←List.append_assoc] at a;have hlen:acc.length+o[i].length≤100000:=by
    have:=congrArg List.length a;rw[List.length_append,List.length_append] at this;omega
   rw[Dg.eq_2,ct (dt (by omega)),DH hi,Ga (by omega),BJ (by omega) (by omega),DI];exact ih m (i+1) (acc++o[i]) (by omega) (by omega) b a
theorem Qg(y:Ap)(z:List Int)(l:y.Ae.length≤4):∀(k m i:Nat),y.Ae.length=i+k→k<m→(∀j,j<i→(CX z).length=y.Ae.length∧(CX z)[j]?=some (j:Int))→
  C8 y z m (i:Int)=some (cond ((CX z==iota y.Ae.length)||decide (y.Ae.length=0)) (.inr ()) (.inl false)):=by
 intro k
 induction k with
 |zero=>
  intro m i h hm a;cases m with
  |zero=>omega
  |succ m=>
   rw[C8.eq_2,cf (df (by omega))];have:((CX z==iota y.Ae.length)||decide (y.Ae.length=0))=true:=by
    rw[Bool.or_eq_true];rcases Nat.eq_zero_or_pos i with h0|h0
    ·right;exact dt (by omega)
    ·left;rw[beq_iff_eq];have d:=(a 0 h0).1;apply List.ext_getElem?;intro j
     by_cases f:j<y.Ae.length
     ·rw[(a j (by omega)).2,MN _ _ f]
     ·rw[List.getElem?_eq_none (by omega),List.getElem?_eq_none (by rw[Gx];omega)]
   rw[this];rfl
 |succ k ih=>
  intro m i h hm a;cases m with
  |zero=>omega
  |succ m=>
   rw[C8.eq_2,ct (dt (by omega))];have c:decide (y.Ae.length=0)=false:=df (by omega)
   by_cases d:(CX z).length=y.Ae.length
   ·rw[cf (by rw[d];simp)];have hi:i<(CX z).length:=by omega
    rw[DH hi]
    by_cases b:(CX z)[i]=(i:Int)
    ·rw[b,cf (by simp),BJ (by omega) (by omega),DI];refine ih m (i+1) (by omega) (by omega) fun j f=>?_
     by_cases g:j=i
     ·subst g;exact⟨d,by rw[List.getElem?_eq_getElem hi,b]⟩
     ·exact a j (by omega)
    ·rw[ct (by simpa using b)];have:((CX z==iota y.Ae.length)||decide (y.Ae.length=0))=false:=by
      rw[c,Bool.or_false,beq_eq_false_iff_ne];intro e;have:(CX z)[i]?=(iota y.Ae.length)[i]?:=by rw[e]
      rw[List.getElem?_eq_getElem hi,MN _ _ (by omega)] at this;exact b (Option.some.inj this)
     rw[this];rfl
   ·rw[ct (by simp;omega)];have:((CX z==iota y.Ae.length)||decide (y.Ae.length=0))=false:=by
     rw[c,Bool.or_false,beq_eq_false_iff_ne];intro e;have:=congrArg List.length e;rw[Gx] at this;omega
    rw[this];rfl
theorem JS{K:Nat}(y:Ap)(o:List (List Int))(f:y.Ae.length≤4)(hK:2000≤K)(k:o.length≤1000)(m:o.flatten.length≤1000):DR K y o=some (C3 y o):=by
 unfold DR;have c:=SI o (by omega) o.length K 0 [] (by omega) (by omega) (by omega) (by simp);have d:=Qg y o.flatten f y.Ae.length K 0 (by omega) (by omega) fun j g=>absurd g (by omega);rw[Int.natCast_zero] at c d;rw[bd c,Ga (by omega),bd d];unfold C3
 by_cases b:y.Ae.length=0
 ·rw[show((CX o.flatten==iota y.Ae.length)||decide (y.Ae.length=0))=true by rw[Bool.or_eq_true];exact .inr (dt b)];show cond ((o.length:Int)==y.Ag) (some (((CX o.flatten).length:Int)==(y.Ae.length:Int))) (some false)=_;have h:(((CX o.flatten).length:Int)==(y.Ae.length:Int))=(CX o.flatten==iota y.Ae.length):=by
   rw[b];cases e:CX o.flatten with
   |nil=>rfl
   |cons a l=>
    have i:(((a::l).length:Int)==((0:Nat):Int))=false:=by simp;omega
    rw[i];rfl
  rw[h];cases ((o.length:Int)==y.Ag)<;>rfl
 ·rw[show decide (y.Ae.length=0)=false from df b,Bool.or_false];cases e:(CX o.flatten==iota y.Ae.length) with
  |false=>show some false=_;rw[Bool.and_false]
  |true=>
   show cond ((o.length:Int)==y.Ag) (some (((CX o.flatten).length:Int)==(y.Ae.length:Int))) (some false)=_;rw[eq_of_beq e,Gx];cases ((o.length:Int)==y.Ag)<;>simp
theorem Fo{y:Ap}{o:List (List Int)}:C3 y o=true↔(o.length:Int)=y.Ag∧o.flatten.Perm (iota y.Ae.length):=by
 unfold C3;rw[Bool.and_eq_true,beq_iff_eq,beq_iff_eq];refine and_congr_right fun _=>⟨fun h=>?_,fun h=>?_⟩
 ·rw[←h];exact(List.mergeSort_perm _ _).symm
 ·have d:(CX o.flatten).Pairwise (fun a b:Int=>a≤b):=by
   have:=List.pairwise_mergeSort (le:=fun x y:Int=>decide (x≤y)) (fun a b c d e=>by simp at*;omega) (fun a b=>by simp;omega) o.flatten;exact this.imp fun h=>by simpa using h
  have e:(iota y.Ae.length).Pairwise (fun a b:Int=>a≤b):=by
   unfold iota;rw[List.pairwise_map];exact List.pairwise_lt_range.imp fun h=>by omega
  exact List.Perm.eq_of_pairwise (le:=fun a b:Int=>a≤b) (fun a b _ _ h f=>by omega) d e ((List.mergeSort_perm _ _).trans h)
theorem Qh{n:Nat}{i:Int}:i∈iota n↔0≤i∧i<n:=by
 unfold iota;rw[List.mem_map];constructor
 ·rintro⟨k,a,rfl⟩;rw[List.mem_range] at a;omega
 ·rintro⟨h0,b⟩;exact⟨i.toNat,by rw[List.mem_range];omega,by omega⟩
theorem Lq{y:Ap}{o:List (List Int)}(h:C3 y o=true):∀l∈o,l.length≤y.Ae.length∧∀i∈l,0≤i∧i<(y.Ae.length:Int):=by
 intro l a;have b:=(Fo.1 h).2;constructor
 ·have c:=b.length_eq;rw[Gx] at c;have:=(List.sublist_flatten_of_mem a).length_le;omega
 ·intro i hi;exact Qh.1 (b.mem_iff.1 (List.mem_flatten.2 ⟨l,a,hi⟩))
def Ef:List AX→List Int→Bool
 |[],[]=>true
 |l::ls,c::cs=>Fz c l.Au l.AG&&Ef ls cs
 |_,_=>false
def E0(y:Ap)(t:A5):Bool:=decide ((t.An.length:Int)=y.Ak+1)&&(Hd y t.An&&Ef y.Ae t.Comes)
theorem Hg:∀{ls:List AX} {cs:List Int},Ef ls cs=true→cs.length=ls.length
 |[],[],_=>rfl
 |_::ls,_::cs,h=>by
  rw[Ef,Bool.and_eq_true] at h;rw[List.length_cons,List.length_cons,Hg h.2]
 |[],_::_,h=>by cases h
 |_::_,[],h=>by cases h
theorem Pd(K:Nat)(y:Ap)(t:A5)(b:y.Ae.length≤4)(c:t.Comes.length=y.Ae.length):∀(k m i:Nat),y.Ae.length=i+k→k<m→
  C7 K y t m (i:Int)=some (cond (Ef (y.Ae.drop i) (t.Comes.drop i)) (.inr ()) (.inl false)):=by
 intro k
 induction k with
 |zero=>
  intro m i h hm;cases m with
  |zero=>omega
  |succ m=>rw[C7.eq_2,cf (df (by omega)),List.drop_eq_nil_of_le (by omega),List.drop_eq_nil_of_le (by omega)];rfl
 |succ k ih=>
  intro m i h hm;cases m with
  |zero=>omega
  |succ m=>
   have hi:i<y.Ae.length:=by omega
   have a:i<t.Comes.length:=by omega
   rw[C7.eq_2,ct (dt (by omega)),DH hi,DH a,bd (GX ..),List.drop_eq_getElem_cons hi,List.drop_eq_getElem_cons a,Ef];cases d:Fz t.Comes[i] y.Ae[i].Au y.Ae[i].AG with
   |false=>rw[nf];rfl
   |true=>rw[nt,BJ (by omega) (by omega),DI,Bool.true_and];exact ih m (i+1) (by omega) (by omega)
theorem Pe{K:Nat}(y:Ap)(t:A5)(h0:0≤y.Ak)(h9:y.Ak≤9)(b:y.Ae.length≤4)(hK:2000≤K):EP K y t=some (E0 y t):=by
 unfold EP E0
 by_cases a:t.Comes.length=y.Ae.length
 ·rw[cf (by rw[a];simp),BJ (by omega) (by omega)]
  by_cases hw:(t.An.length:Int)=y.Ak+1
  ·rw[cf (by rw[hw];simp),bd (LY y t.An (by omega) (by omega)),dt hw,Bool.true_and];show cond (!(Hd y t.An)) _ _=_;cases Hd y t.An with
   |false=>rw[nf];rfl
   |true=>
    have:=Pd K y t b a y.Ae.length K 0 (by omega) (by omega);rw[Int.natCast_zero,List.drop_zero,List.drop_zero] at this;rw[nt,bd this,Bool.true_and];cases Ef y.Ae t.Comes<;>rfl
  ·rw[ct (by simpa using hw),df hw];rfl
 ·rw[ct (by simp;omega)];cases c:Ef y.Ae t.Comes with
  |false=>rw[Bool.and_false,Bool.and_false]
  |true=>exact absurd (Hg c) a
theorem Hh{c:List Int}:∀{ls:List AX},c∈Ee ls↔Ef ls c=true
 |[]=>by
  cases c with
  |nil=>simp[Ee,Ef]
  |cons a l=>simp[Ee,Ef]
 |l::r=>by
  rw[Ee,List.mem_flatMap];constructor
  ·rintro⟨n,b,e⟩;obtain⟨d,f,rfl⟩:=List.mem_map.1 e;rw[Ef,Bool.and_eq_true];rw[List.mem_range] at b;unfold CJ at b;exact⟨Gb.2 (by omega),Hh.1 f⟩
  ·intro h;cases c with
   |nil=>simp[Ef] at h
   |cons a d=>
    rw[Ef,Bool.and_eq_true] at h;have g:=Gb.1 h.1;refine⟨(a-l.Au).toNat,?_,List.mem_map.2 ⟨d,Hh.2 h.2,?_⟩⟩
    ·rw[List.mem_range];unfold CJ;omega
    ·congr 1;omega
def bitsOf:List Bool→Nat
 |[]=>0
 |b::l=>(cond b 1 0)+2*bitsOf l
theorem Ku:∀(l:List Bool) (d:Nat),(bitsOf l).testBit d=l.getD d false
 |[],d=>by simp[bitsOf]
 |b::l,0=>by rw[bitsOf,Nat.testBit_zero];cases b<;>simp<;>omega
 |b::l,d+1=>by
  rw[Nat.testBit_succ,bitsOf];have:((cond b 1 0)+2*bitsOf l)/2=bitsOf l:=by cases b<;>simp<;>omega
  rw[this,Ku l d];rfl
theorem L2:∀(l:List Bool),bitsOf l<2^l.length
 |[]=>by simp[bitsOf]
 |b::l=>by
  have:=L2 l;rw[bitsOf,List.length_cons,Nat.pow_succ];cases b<;>simp<;>omega
theorem Pf(l:List Bool):wl l.length (bitsOf l)=l:=by
 apply List.ext_getElem?;intro i;unfold wl;rw[List.getElem?_map]
 by_cases h:i<l.length
 ·rw[List.getElem?_range h,List.getElem?_eq_getElem h];show some ((bitsOf l).testBit i)=_;rw[Ku,List.getD_eq_getElem?_getD,List.getElem?_eq_getElem h];rfl
 ·rw[List.getElem?_eq_none (by simp;omega),List.getElem?_eq_none (by omega)];rfl
theorem HH{y:Ap}{w:List Bool}:w∈CH y↔w.length=days y∧Hd y w=true:=by
 unfold CH;rw[List.mem_filter,List.mem_map];constructor
 ·rintro⟨⟨b,_,rfl⟩,h⟩;exact⟨Fm _ _,h⟩
 ·rintro⟨a,c⟩;exact⟨⟨bitsOf w,by rw[List.mem_range,←a];exact L2 w,by rw[←a];exact Pf w⟩,c⟩
theorem Gy{y:Ap}(h0:0≤y.Ak){t:A5}:t∈BL y↔E0 y t=true:=by
 unfold BL E0;rw[List.mem_flatMap,Bool.and_eq_true,Bool.and_eq_true,decide_eq_true_eq];constructor
 ·rintro⟨w,hw,d⟩;obtain⟨c,e,rfl⟩:=List.mem_map.1 d;obtain⟨b,a⟩:=HH.1 hw;unfold days at b;exact⟨by show(w.length:Int)=_;omega,a,Hh.1 e⟩
 ·rintro⟨b,a,f⟩;exact⟨t.An,HH.2 ⟨by unfold days;omega,a⟩,List.mem_map.2 ⟨t.Comes,Hh.2 f,rfl⟩⟩
theorem TJ(a b:List Bool)(j:a.length≤1000)(g:a.length=b.length):∀(k m i:Nat),a.length=i+k→k<m→Df a b m (i:Int)=some (cond (a.drop i==b.drop i) (.inr ()) (.inl false)):=by
 intro k
 induction k with
 |zero=>
  intro m i h hm;cases m with
  |zero=>omega
  |succ m=>rw[Df.eq_2,cf (df (by omega)),List.drop_eq_nil_of_le (by omega),List.drop_eq_nil_of_le (by omega)];rfl
 |succ k ih=>
  intro m i h hm;cases m with
  |zero=>omega
  |succ m=>
   have c:i<a.length:=by omega
   have d:i<b.length:=by omega
   rw[Df.eq_2,ct (dt (by omega)),DH c,DH d,List.drop_eq_getElem_cons c,List.drop_eq_getElem_cons d];cases f:(a[i] !=b[i]) with
   |true=>
    rw[ct rfl];have:(a[i]::a.drop (i+1)==b[i]::b.drop (i+1))=false:=by
     rw[List.cons_beq_cons];have:(a[i]==b[i])=false:=by simpa[bne] using f
     rw[this,Bool.false_and]
    rw[this];rfl
   |false=>
    have e:a[i]=b[i]:=by simpa[bne] using f
    rw[cf rfl,BJ (by omega) (by omega),DI,ih m (i+1) (by omega) (by omega),List.cons_beq_cons,e,beq_self_eq_true,Bool.true_and]
theorem TK{K:Nat}(a b:List Bool)(c:a.length≤1000)(hK:2000≤K):Ea K a b=some (a==b):=by
 unfold Ea
 by_cases h:a.length=b.length
 ·have:=TJ a b c h a.length K 0 (by omega) (by omega);rw[Int.natCast_zero,List.drop_zero,List.drop_zero] at this;rw[cf (by rw[h];simp),bd this];cases (a==b)<;>rfl
 ·rw[ct (by simp;omega)];have:(a==b)=false:=by
   rw[beq_eq_false_iff_ne];intro e;exact h (by rw[e])
  rw[this]
structure EF(y:Ap):Prop where
 h0:0≤y.Ak
 h9:y.Ak≤9
 r1:1≤y.Ag
 r2:y.Ag≤2
 n4:y.Ae.length≤4
 w0:0≤y.An
 w1:y.An≤y.Ak+1
 u0:0≤y.Av
 u1:y.Av≤y.Ak+1
 SJ:∀l∈y.Ae,FJ y l=true
 many:HP y≤1000
theorem Fx{y:Ap}(h:check y=0):EF y:=by
 unfold check at h;split at h
 ·cases h
 ·rename_i d
  split at h
  ·cases h
  ·rename_i b
   split at h
   ·cases h
   ·rename_i f
    rw[not_or,not_or] at d;rw[not_or,not_or,not_or,not_or] at b;have hw:Fz y.An 0 (y.Ak+1)=true:=by cases a:Fz y.An 0 (y.Ak+1) with|true=>rfl|false=>exact absurd a b.2.2.1
    have c:Fz y.Av 0 (y.Ak+1)=true:=by cases a:Fz y.Av 0 (y.Ak+1) with|true=>rfl|false=>exact absurd a b.2.2.2.1
    have e:y.Ae.all (FJ y)=true:=by cases a:y.Ae.all (FJ y) with|true=>rfl|false=>exact absurd a b.2.2.2.2
    rw[Gb] at hw c;exact⟨by omega,by omega,by omega,by omega,by omega,hw.1,hw.2,c.1,c.2,List.all_eq_true.1 e,by omega⟩
theorem EF.sz{y:Ap}(h:EF y):∀l∈y.Ae,sized l∧0≤l.Au∧l.AG≤9:=fun l b=>by
 have a:=h.SJ l b;have:=Ir.1 a;have:=h.h9;exact⟨KG h.h9 a,by omega,by omega⟩
def TL(y:Ap):Option Cj→Prop
 |none=>True
 |some x=>∃w m,x=wk y w m∧(w.length:Int)=y.Ak+1∧Gc y w m
theorem Pg{σ:Type}{K:Nat}(cb:σ→A5×List Aq→Option (Bool×σ))(y:Ap)(f:EF y)(o:List (List Int))(v:C3 y o=true)(hK:2000≤K):∀(d:List A5) (h:Option Cj) (s:σ),(∀t∈d,E0 y t=true)→TL y h→
  (run (fun(st:(Option Cj)×σ×Bool) (x:A5)=>cond st.2.2 none (Dm cb K y o st.1 st.2.1 x)) d (h,s,false)).bind (fun g=>cond g.2.2.2 (some g.2.2.1) (some g.2.2.1))=(run (fun s t=>cb s (t,Gm y t.An o t.Comes)) d s).bind fun r=>some r.2
 |[],h,s,_,_=>rfl
 |t::d,h,s,aA,aH=>by
  have j:=aA t (List.mem_cons_self ..);have aB:∀x∈d,E0 y x=true:=fun x aI=>aA x (List.mem_cons_of_mem _ aI);unfold E0 at j;rw[Bool.and_eq_true,Bool.and_eq_true,decide_eq_true_eq] at j;obtain⟨hw,_,aJ⟩:=j;have aC:=Hg aJ;have q:=Lq v;have aD:o.length≤1000:=by have:=(Fo.1 v).1;have:=f.r2;omega
  have z:∀l∈o,l.length≤1000∧∀i∈l,0≤i∧i<(y.Ae.length:Int):=fun l aE=>⟨by have:=(q l aE).1;have:=f.n4;omega,(q l aE).2⟩;rw[run,run];show(Option.bind (Dm cb K y o h s t) _:Option _).bind _=_
  
  have key:∀(m:List (List Int×Aq)),Gc y t.An m→∃c,Gc y t.An c∧CL K (wk y t.An m) o t.Comes=some (Gm y t.An o t.Comes,c):=fun m hm=>by
   obtain⟨c,aK,aL⟩:=Pc (K:=K) y t.An m t.Comes o f.h0 f.h9 f.n4 hw hK z aC aD hm;exact⟨c,aL,aK⟩
  have fin:∀(c:List (List Int×Aq)),Gc y t.An c→
    (Option.bind ((cb s (t,Gm y t.An o t.Comes)).bind fun a=>cond (!a.1) (some (false,(some (wk y t.An c)),a.2,true)) (some (true,(some (wk y t.An c)),a.2,false))) fun r=>cond r.1 (run (fun(st:(Option Cj)×σ×Bool) (x:A5)=>cond st.2.2 none (Dm cb K y o st.1 st.2.1 x)) d r.2) (some (false,r.2))).bind (fun g=>cond g.2.2.2 (some g.2.2.1) (some g.2.2.1))=
    (Option.bind (cb s (t,Gm y t.An o t.Comes)) fun r=>cond r.1 (run (fun s t=>cb s (t,Gm y t.An o t.Comes)) d r.2) (some (false,r.2))).bind fun r=>some r.2:=fun c k=>by
   cases cb s (t,Gm y t.An o t.Comes) with
   |none=>rfl
   |some r=>
    obtain⟨b,s2⟩:=r;cases b with
    |false=>rfl
    |true=>exact Pg cb y f o v hK d (some (wk y t.An c)) s2 aB ⟨t.An,c,rfl,hw,k⟩
  unfold Dm;obtain⟨n,u,aM⟩:=key [] (MM _ _);have aP:=f.h9;have e:(Gh (((0+t.An.length:Nat):Int)≤140737488355328/1)).bind (fun _=>(CL K (⟨y.Ak,y.Ag,y.An,y.Av,y.Ae,t.An,[]⟩:Cj) o t.Comes).bind fun p=>(cb s (t,p.1)).bind fun a=>cond (!a.1) (some (false,(some (⟨y.Ak,y.Ag,y.An,y.Av,y.Ae,t.An,p.2⟩:Cj)),a.2,true)) (some (true,(some (⟨y.Ak,y.Ag,y.An,y.Av,y.Ae,t.An,p.2⟩:Cj)),a.2,false)))=
    (cb s (t,Gm y t.An o t.Comes)).bind fun a=>cond (!a.1) (some (false,(some (wk y t.An n)),a.2,true)) (some (true,(some (wk y t.An n)),a.2,false)):=by
   have aF:CL K (⟨y.Ak,y.Ag,y.An,y.Av,y.Ae,t.An,[]⟩:Cj) o t.Comes=some (Gm y t.An o t.Comes,n):=aM;rw[Ga (by omega),bd aF];rfl
  cases h with
  |none=>
   show(Option.bind ((Gh _).bind _) _:Option _).bind _=_;rw[e];exact fin n u
  |some x=>
   obtain⟨w,m,rfl,aQ,aG⟩:=aH;show(Option.bind ((Ea K w t.An).bind _) _:Option _).bind _=_;rw[bd (TK w t.An (by omega) hK)];cases aN:(w==t.An) with
   |false=>
    rw[nf,e];exact fin n u
   |true=>
    obtain rfl:=eq_of_beq aN;obtain⟨c,k,aO⟩:=key m aG;rw[nt,bd aO];exact fin c k
theorem Ph{σ:Type}{K:Nat}(cb:σ→A5×List Aq→Option (Bool×σ))(y:Ap)(a:EF y)(o:List (List Int))(b:C3 y o=true)(hK:2000≤K)(s:σ):
  EX K cb y o s=(run (fun s t=>cb s (t,Gm y t.An o t.Comes)) (BL y) s).bind fun r=>some r.2:=by
 unfold EX;rw[Qf _ y a.h0 a.h9 a.n4 a.sz hK,Option.bind_assoc];exact Pg cb y a o b hK (BL y) none s (fun t c=>(Gy a.h0).1 c) trivial
end Go.Proofs.YtkljfdkmjdjpfaaGreat
end
section
namespace Go.Proofs.YtkljfdkmjdjpfaaGreat
def Ff(l:AX)(s:Aq):Bool:=s.AN&&decide (s.Bg≤l.B6)
theorem Lr(K:Nat)(l:AX)(s:Aq):C1 K l s=some (Ff l s):=by unfold C1 Ff;cases s.AN<;>rfl
theorem NM(K:Nat)(l:AX)(s:Aq):DT K l s=some (!Ff l s):=by unfold DT;rw[bd (Lr ..)]
def GM (p:AX→Aq→Bool):List AX→List Aq→Nat
 |l::ls,s::ss=>(cond (p l s) 1 0)+GM p ls ss
 |_,_=>0
def Cp(l:AX)(s:Aq):Bool:= !Ff l s
def DM(y:Ap)(ss:List Aq):Nat:=GM Cp y.Ae ss
theorem Ls(p:AX→Aq→Bool):∀(ls:List AX) (ss:List Aq),GM p ls ss≤ls.length
 |l::ls,s::ss=>by
  have:=Ls p ls ss;rw[GM,List.length_cons];cases p l s<;>simp<;>omega
 |[],_=>by simp[GM]
 |_::_,[]=>by simp[GM]
theorem SK{K:Nat}(y:Ap)(ss:List Aq)(d:y.Ae.length≤4)(e:ss.length=y.Ae.length):∀(k m i:Nat) (a:Int),ss.length=i+k→k<m→0≤a→a≤i→
  Dl K y ss m a (i:Int)=some (a+(GM Cp (y.Ae.drop i) (ss.drop i):Nat)):=by
 intro k
 induction k with
 |zero=>
  intro m i a h hm h0 c;cases m with
  |zero=>omega
  |succ m=>
   rw[Dl.eq_2,cf (df (by omega)),List.drop_eq_nil_of_le («as»:=y.Ae) (by omega),GM]
   ·simp
   ·intro _ _ _ _ h;cases h
 |succ k ih=>
  intro m i a h hm h0 c;cases m with
  |zero=>omega
  |succ m=>
   have hi:i<ss.length:=by omega
   have b:i<y.Ae.length:=by omega
   rw[Dl.eq_2,ct (dt (by omega)),DH hi,DH b,bd (NM ..),List.drop_eq_getElem_cons hi,List.drop_eq_getElem_cons b,GM];show cond (Cp y.Ae[i] ss[i]) _ _=_;cases f:Cp y.Ae[i] ss[i] with
   |true=>
    rw[ct rfl,BJ (by omega) (by omega),BJ (by omega) (by omega),DI,ih m (i+1) (a+1) (by omega) (by omega) (by omega) (by omega)]
    congr 1
    show a+1+_=a+((1+GM Cp _ _:Nat):Int);omega
   |false=>
    rw[cf rfl,BJ (by omega) (by omega),DI,ih m (i+1) a (by omega) (by omega) (by omega) (by omega)]
    congr 1
    show a+_=a+((0+GM Cp _ _:Nat):Int);omega
theorem Pj{K:Nat}(y:Ap)(ss:List Aq)(a:y.Ae.length≤4)(b:ss.length=y.Ae.length)(hK:2000≤K):Eo K y ss=some (DM y ss:Int):=by
 unfold Eo;have:=SK (K:=K) y ss a b ss.length K 0 0 (by omega) (by omega) (by omega) (by omega);rw[Int.natCast_zero,List.drop_zero,List.drop_zero] at this;rw[bd this];simp[DM]
theorem Hj(y:Ap)(w:List Bool)(o:List (List Int))(c:List Int):(Gm y w o c).length=y.Ae.length:=by unfold Gm;rw[JR,List.length_replicate]
def Ch (y:Ap) (o:List (List Int)) (t:A5):List Aq:=Gm y t.An o t.Comes
theorem Pk{K:Nat}(y:Ap)(o:List (List Int))(t:A5)(hK:2000≤K)(d:o.length≤1000)(g:o.flatten.length≤1000):
  FR K y o t=some (if check y≠0 then ([],check y) else if C3 y o=false∨E0 y t=false then ([],2) else (Ch y o t,0)):=by
 unfold FR;rw[bd (HU hK y)]
 by_cases h:check y=0
 ·rw[h,cf (by decide),if_neg (by simp)];have a:=Fx h;rw[bd (JS y o a.n4 hK d g)];cases i:C3 y o with
  |false=>rw[nf,if_pos (.inl rfl)]
  |true=>
   rw[nt,bd (Pe y t a.h0 a.h9 a.n4 hK)];cases j:E0 y t with
   |false=>rw[nf,if_pos (.inr rfl)]
   |true=>
    rw[nt,if_neg (by simp)];have b:=j;unfold E0 at b;rw[Bool.and_eq_true,Bool.and_eq_true,decide_eq_true_eq] at b;have c:=Lq i;obtain⟨k,e,_⟩:=Pc (K:=K) y t.An [] t.Comes o a.h0 a.h9 a.n4 b.1 hK (fun l f=>⟨by have:=(c l f).1;have:=a.n4;omega,(c l f).2⟩) (Hg b.2.2) d (MM _ _);have m:CL K (⟨y.Ak,y.Ag,y.An,y.Av,y.Ae,t.An,[]⟩:Cj) o t.Comes=some (Gm y t.An o t.Comes,k):=e;rw[bd m];rfl
 ·rw[ct (by simpa using h),if_pos h]
def HQ (y:Ap) (o:List (List Int)):List A5→Int×A5→Int×A5
 |[],s=>s
 |t::a,s=>
  let s2:=if s.1<(DM y (Ch y o t):Int) then ((DM y (Ch y o t):Int),t) else s
  cond (decide (s2.1<(y.Ae.length:Int))) (HQ y o a s2) s2
def CP(y:Ap)(o:List (List Int)):Int×A5:=HQ y o (BL y) (-1,⟨[],[]⟩)
theorem MO{K:Nat}(y:Ap)(b:EF y)(o:List (List Int))(hK:2000≤K):∀(a:List A5) (s:Int×A5),(∀t∈a,E0 y t=true)→
  (run (fun(st:Int×A5) t=>(Es K t (Ch y o t) y st.1 st.2).bind fun r=>some (r.1,(r.2.1,r.2.2))) a s).bind (fun r=>some r.2)=some (HQ y o a s)
 |[],s,_=>rfl
 |t::a,s,d=>by
  have c:=d t (List.mem_cons_self ..);unfold E0 at c;rw[Bool.and_eq_true,Bool.and_eq_true,decide_eq_true_eq] at c;have f:=Hg c.2.2;have g:=b.n4;have h9:=b.h9;rw[run,HQ];unfold Es;rw[bd (Pj y (Ch y o t) b.n4 (Hj ..) hK)]
  by_cases h:s.1<(DM y (Ch y o t):Int)
  ·rw[ct (dt h),Ga (by omega),Ga (by omega),if_pos h];show(cond (decide ((DM y (Ch y o t):Int)<(y.Ae.length:Int))) _ _:Option (Bool×Int×A5)).bind _=some (cond (decide ((DM y (Ch y o t):Int)<(y.Ae.length:Int))) _ _);cases decide ((DM y (Ch y o t):Int)<(y.Ae.length:Int)) with
   |false=>rfl
   |true=>exact MO y b o hK a _ fun x e=>d x (List.mem_cons_of_mem _ e)
  ·rw[cf (df h),if_neg h];show(cond (decide (s.1<(y.Ae.length:Int))) _ _:Option (Bool×Int×A5)).bind _=some (cond (decide (s.1<(y.Ae.length:Int))) _ _);cases decide (s.1<(y.Ae.length:Int)) with
   |false=>rfl
   |true=>exact MO y b o hK a s fun x e=>d x (List.mem_cons_of_mem _ e)
theorem Pm{K:Nat}(y:Ap)(a:EF y)(o:List (List Int))(b:C3 y o=true)(hK:2000≤K):EY K y o=some (CP y o):=by
 unfold EY;rw[Ph _ y a o b hK];have:=MO y a o hK (BL y) (-1,⟨[],[]⟩) fun t c=>(Gy a.h0).1 c;exact Eq.trans (bd this) rfl
theorem Pn{K:Nat}(y:Ap)(o:List (List Int))(hK:2000≤K)(b:o.length≤1000)(c:o.flatten.length≤1000):
  Fl K y o=some (if check y≠0 then (0,⟨[],[]⟩,check y) else if C3 y o=false then (0,⟨[],[]⟩,2) else ((CP y o).1,(CP y o).2,0)):=by
 unfold Fl;rw[bd (HU hK y)]
 by_cases h:check y=0
 ·rw[h,cf (by decide),if_neg (by simp)];have a:=Fx h;rw[bd (JS y o a.n4 hK b c)];cases d:C3 y o with
  |false=>rw[nf,if_pos rfl]
  |true=>rw[nt,if_neg (by simp),bd (Pm y a o d hK)]
 ·rw[ct (by simpa using h),if_pos h]
theorem MP{K:Nat}(y:Ap)(o:List (List Int))(n:Int)(hK:2000≤K)(a:o.length≤1000)(b:o.flatten.length≤1000):
  DP K y o n=some (decide (check y=0)&&(C3 y o&&decide ((CP y o).1≤n))):=by
 unfold DP;rw[bd (Pn y o hK a b)]
 by_cases h:check y=0
 ·rw[if_neg (by simp[h]),dt h];cases c:C3 y o with
  |false=>rw[if_pos rfl];rfl
  |true=>rw[if_neg (by simp)];rfl
 ·rw[if_pos h,df h,cf (by simpa using h)];rfl
theorem Nv{K:Nat}(y:Ap)(o:List (List Int))(t:A5)(n:Int)(hK:2000≤K)(a:o.length≤1000)(b:o.flatten.length≤1000):
  EZ K y o t n=some (decide (check y=0)&&(C3 y o&&(E0 y t&&decide (n≤(DM y (Ch y o t):Int))))):=by
 unfold EZ;rw[bd (Pk y o t hK a b)]
 by_cases h:check y=0
 ·rw[if_neg (by simp[h]),dt h];cases c:C3 y o with
  |false=>rw[if_pos (.inl rfl)];rfl
  |true=>
   cases d:E0 y t with
   |false=>rw[if_pos (.inr rfl)];rfl
   |true=>
    rw[if_neg (by simp)];show(Eo K y (Ch y o t)).bind _=_;rw[bd (Pj y (Ch y o t) (Fx h).n4 (Hj ..) hK)];rfl
 ·rw[if_pos h,df h,cf (by simpa using h)];rfl
def GN(p:AX→Aq→Bool):List AX→List Aq→List Int→List Int
 |l::ls,s::ss,a::as=>(cond (p l s) (a+1) a)::GN p ls ss as
 |_,_,as=>as
theorem QT(x:BC)(k:Nat)(v:Int)(h:k<4):(x.set k v).l=x.l.set k v:=by
 match k,h with
 |0,_=>rfl
 |1,_=>rfl
 |2,_=>rfl
 |3,_=>rfl
theorem KI(p:AX→Aq→Bool)(ss:List Aq)(as:List Int):GN p [] ss as=as:=by cases as<;>rfl
theorem Ra{K:Nat}(p:AX→Aq→Bool)(y:Ap)(ss:List Aq)(q:y.Ae.length≤4)(r:ss.length=y.Ae.length):∀(k m i:Nat) (a:BC),ss.length=i+k→k<m→(∀x∈a.l.drop i,0≤x∧x≤100000)→
  ∃b:BC,Cv (fun(st:Unit) (x:AX×Aq)=>some (p x.1 x.2,())) ss y m (i:Int) a.a0 a.a1 a.a2 a.a3 ()=some (b.a0,b.a1,b.a2,b.a3,())∧b.l=a.l.take i++GN p (y.Ae.drop i) (ss.drop i) (a.l.drop i):=by
 intro k
 induction k with
 |zero=>
  intro m i a h hm e;cases m with
  |zero=>omega
  |succ m=>
   rw[Cv.eq_2,cf (df (by omega)),List.drop_eq_nil_of_le («as»:=y.Ae) (by omega),KI];exact⟨a,rfl,(List.take_append_drop ..).symm⟩
 |succ k ih=>
  intro m i a h hm e;cases m with
  |zero=>omega
  |succ m=>
   have hi:i<ss.length:=by omega
   have f:i<y.Ae.length:=by omega
   have c:i<a.l.length:=by show i<4;omega
   rw[Cv.eq_2,ct (dt (by omega)),DH hi,DH f,Option.bind_some,List.drop_eq_getElem_cons hi,List.drop_eq_getElem_cons f,List.drop_eq_getElem_cons c,GN];cases s:p y.Ae[i] ss[i] with
   |true=>
    have t:=e a.l[i] (by rw[List.drop_eq_getElem_cons c];exact List.mem_cons_self ..);have g:idx [a.a0,a.a1,a.a2,a.a3] (i:Int)=some a.l[i]:=idx_eq c;rw[ct rfl,bd g,BJ (by omega) (by omega),bd g,BJ (by omega) (by omega),DI,Int.toNat_natCast];obtain⟨b,j,n⟩:=ih m (i+1) (a.set i (a.l[i]+1)) (by omega) (by omega) (fun x d=>by
     rw[QT _ _ _ (by omega),List.drop_set_of_lt (by omega)] at d;exact e x (by rw[List.drop_eq_getElem_cons c];exact List.mem_cons_of_mem _ d))
    refine⟨b,j,?_⟩;rw[n,QT _ _ _ (by omega),List.take_add_one,List.getElem?_set_self c,List.take_set_of_le (Nat.le_refl _),List.drop_set_of_lt (by omega)];simp
   |false=>
    rw[cf rfl,BJ (by omega) (by omega),DI];obtain⟨b,j,n⟩:=ih m (i+1) a (by omega) (by omega) fun x d=>e x (by rw[List.drop_eq_getElem_cons c];exact List.mem_cons_of_mem _ d);refine⟨b,j,?_⟩;have o:a.l.take (i+1)=a.l.take i++[a.l[i]]:=by rw[List.take_add_one,List.getElem?_eq_getElem c];rfl
    rw[n,o,List.append_assoc];rfl
theorem Qi{K:Nat}(p:AX→Aq→Bool)(y:Ap)(t:A5)(ss:List Aq)(e:y.Ae.length≤4)(f:ss.length=y.Ae.length)(hK:2000≤K)(n:Int)(a:BC)(h:0≤n∧n≤100000)(g:∀x∈a.l,0≤x∧x≤100000):
  ∃b:BC,CN K (fun(st:Unit) (x:AX×Aq)=>some (p x.1 x.2,())) t ss n y a ()=some (true,n+1,b,())∧b.l=GN p y.Ae ss a.l:=by
 unfold CN;obtain⟨b,c,d⟩:=Ra (K:=K) p y ss e f ss.length K 0 a (by omega) (by omega) (by rw[List.drop_zero];exact g);rw[Int.natCast_zero] at c;rw[List.take_zero,List.drop_zero,List.drop_zero,List.drop_zero,List.nil_append] at d;rw[BJ (by omega) (by omega),bd c];exact⟨b,rfl,d⟩
theorem NN(p:AX→Aq→Bool)(B:Int):∀(ls:List AX) (ss:List Aq) (as:List Int),(∀x∈as,0≤x∧x≤B)→∀x∈GN p ls ss as,0≤x∧x≤B+1
 |l::ls,s::ss,a::as,h,x,b=>by
  rw[GN] at b;rcases List.mem_cons.1 b with rfl|b
  ·have:=h a (List.mem_cons_self ..);cases p l s<;>simp<;>omega
  ·exact NN p B ls ss as (fun z c=>h z (List.mem_cons_of_mem _ c)) x b
 |[],_,as,h,x,b=>by
  rw[KI] at b;have:=h x b;omega
 |l::ls,[],as,h,x,b=>by
  have e:GN p (l::ls) [] as=as:=by cases as<;>rfl
  rw[e] at b;have:=h x b;omega
 |l::ls,s::ss,[],h,x,b=>by
  have e:GN p (l::ls) (s::ss) []=[]:=rfl;rw[e] at b;cases b
def Lt (p:AX→Aq→Bool) (y:Ap) (o:List (List Int)):List A5→List Int→List Int
 |[],a=>a
 |t::b,a=>Lt p y o b (GN p y.Ae (Ch y o t) a)
theorem MQ{K:Nat}(p:AX→Aq→Bool)(y:Ap)(d:EF y)(o:List (List Int))(hK:2000≤K):∀(c:List A5) (n:Int) (a:BC) (B:Int),0≤n→n+c.length≤100000→B+c.length≤100000→(∀x∈a.l,0≤x∧x≤B)→
  ∃b:BC,run (fun(st:Int×BC×Unit) t=>(CN K (fun(st:Unit) (x:AX×Aq)=>some (p x.1 x.2,())) t (Ch y o t) st.1 y st.2.1 st.2.2).bind fun r=>some (r.1,(r.2.1,r.2.2.1,r.2.2.2))) c (n,a,())=some (true,n+c.length,b,())∧b.l=Lt p y o c a.l
 |[],n,a,B,_,_,_,_=>⟨a,by simp[run],rfl⟩
 |t::c,n,a,B,h0,g,h,e=>by
  rw[List.length_cons] at g h;obtain⟨b,i,f⟩:=Qi (K:=K) p y t (Ch y o t) d.n4 (Hj ..) hK n a (by omega) (fun x j=>by have:=e x j;omega);obtain⟨k,m,q⟩:=MQ p y d o hK c (n+1) b (B+1) (by omega) (by omega) (by omega) (by rw[f];exact NN p B _ _ _ e);refine⟨k,?_,by rw[q,f];rfl⟩;rw[run];show Option.bind ((CN K _ t (Ch y o t) n y a ()).bind _) _=_;rw[bd i];show run _ c (n+1,b,())=_;rw[m,List.length_cons]
  congr 3;omega
theorem Lu(y:Ap)(b:EF y):((BL y).length:Int)=HP y:=by
 have d:∀ls:List AX,(∀l∈ls,sized l)→((Ee ls).length:Int)=Fj ls:=by
  intro ls
  induction ls with
  |nil=>intro _;rfl
  |cons l r ih=>
   intro h;have a:=(h l (List.mem_cons_self ..)).1;rw[Ee,Fj,List.length_flatMap,←ih fun x e=>h x (List.mem_cons_of_mem _ e)];have:((List.range (CJ l).toNat).map fun(n:Nat)=>((Ee r).map fun c=>(l.Au+(n:Int))::c).length)=List.replicate (CJ l).toNat (Ee r).length:=by
    apply List.ext_getElem
    ·simp
    ·intro i a f;simp
   rw[this,List.sum_replicate_nat,Int.natCast_mul]
   congr 1;omega
 unfold BL HP;rw[List.length_flatMap,←d y.Ae fun l g=>(b.sz l g).1];have:((CH y).map fun w=>((Ee y.Ae).map fun c=>(⟨c,w⟩:A5)).length)=List.replicate (CH y).length (Ee y.Ae).length:=by
  apply List.ext_getElem
  ·simp
  ·intro i a f;simp
 rw[this,List.sum_replicate_nat,Int.natCast_mul]
def B7 (p:AX→Aq→Bool) (y:Ap) (o:List (List Int)):List Int:=Lt p y o (BL y) [0,0,0,0]
theorem Lv{K:Nat}(p:AX→Aq→Bool)(y:Ap)(a:EF y)(o:List (List Int))(c:C3 y o=true)(hK:2000≤K):
  ∃b:BC,Cl K (fun(st:Unit) (x:AX×Aq)=>some (p x.1 x.2,())) y o ()=some (b,((BL y).length:Int),())∧b.l=B7 p y o:=by
 unfold Cl;rw[Ph _ y a o c hK];have g:=Lu y a;have:=a.many;obtain⟨b,d,e⟩:=MQ (K:=K) p y a o hK (BL y) 0 ⟨0,0,0,0⟩ 0 (by omega) (by omega) (by omega) (by intro x f;simp[BC.l] at f;omega);refine⟨b,?_,e⟩;refine Eq.trans (congrArg (fun z=>Option.bind (Option.bind z _) _) d) ?_;rw[Int.zero_add];rfl
end Go.Proofs.YtkljfdkmjdjpfaaGreat
end
section
namespace Go.Proofs.YtkljfdkmjdjpfaaGreat
def E6(y:Ap)(i:Nat):AX:=y.Ae.getD i HG
def Ka(y:Ap)(o:List (List Int))(t:A5)(i:Nat):Aq:=(Ch y o t).getD i Jb
def Gd (y:Ap) (o:List (List Int)) (i:Nat) (t:A5):Bool:=Ff (E6 y i) (Ka y o t i)
theorem MR(p:AX→Aq→Bool):∀(ls:List AX) (ss:List Aq) (as:List Int) (i:Nat),i<ls.length→i<ss.length→i<as.length→
  (GN p ls ss as).getD i 0=as.getD i 0+(cond (p (ls.getD i HG) (ss.getD i Jb)) 1 0)
 |l::ls,s::ss,a::as,0,_,_,_=>by
  rw[GN];show cond (p l s) (a+1) a=a+cond (p l s) 1 0;cases p l s<;>simp
 |l::ls,s::ss,a::as,i+1,b,c,d=>by
  rw[GN];exact MR p ls ss as i (by simpa using b) (by simpa using c) (by simpa using d)
theorem Kw(p:AX→Aq→Bool):∀(ls:List AX) (ss:List Aq) (as:List Int),(GN p ls ss as).length=as.length
 |l::ls,s::ss,a::as=>by rw[GN,List.length_cons,Kw p ls ss as,List.length_cons]
 |[],ss,as=>by rw[KI]
 |l::ls,[],as=>by
  have e:GN p (l::ls) [] as=as:=by cases as<;>rfl
  rw[e]
 |l::ls,s::ss,[]=>rfl
theorem MS(p:AX→Aq→Bool)(y:Ap)(o:List (List Int))(i:Nat)(hi:i<y.Ae.length):∀(a:List A5) (as:List Int),i<as.length→
  (Lt p y o a as).getD i 0=as.getD i 0+(a.countP (fun t=>p (E6 y i) (Ka y o t i)):Nat)
 |[],as,_=>by simp[Lt]
 |t::a,as,h=>by
  rw[Lt,MS p y o i hi a _ (by rw[Kw];exact h),MR p _ _ _ i hi (by rw[Ch,Hj];exact hi) h,List.countP_cons];unfold E6 Ka;cases p (y.Ae.getD i HG) ((Ch y o t).getD i Jb)<;>simp<;>omega
theorem Jc(p:AX→Aq→Bool)(y:Ap)(a:EF y)(o:List (List Int))(i:Nat)(hi:i<y.Ae.length):(B7 p y o).getD i 0=((BL y).countP (fun t=>p (E6 y i) (Ka y o t i)):Nat):=by
 unfold B7;have b:=a.n4;rw[MS p y o i hi _ _ (by show i<4;omega)];have:([0,0,0,0]:List Int).getD i 0=0:=by
  match i,(show i<4 by omega) with
  |0,_=>rfl
  |1,_=>rfl
  |2,_=>rfl
  |3,_=>rfl
 rw[this,Int.zero_add]
theorem Me(b:BC)(i:Nat)(h:i<4):idx [b.a0,b.a1,b.a2,b.a3] (i:Int)=some (b.l.getD i 0):=by
 have:i<[b.a0,b.a1,b.a2,b.a3].length:=h;rw[idx_eq this];show some b.l[i]=_;rw[List.getD_eq_getElem?_getD,List.getElem?_eq_getElem (show i<b.l.length from h)];rfl
def verdict (y:Ap) (o:List (List Int)) (i:Nat):Int:=cond ((BL y).all (Gd y o i)) 1 (cond ((BL y).all fun t=> !Gd y o i t) 2 3)
theorem L3{α:Type}(p:α→Bool)(l:List α):((((l.countP p:Nat):Int)==(l.length:Int)))=l.all p:=by
 rw[Bool.eq_iff_iff,beq_iff_eq,List.all_eq_true,Int.ofNat_inj,List.countP_eq_length]
theorem K8{α:Type}(p:α→Bool)(l:List α):((((l.countP p:Nat):Int)==0))=l.all fun t=> !p t:=by
 rw[Bool.eq_iff_iff,beq_iff_eq,List.all_eq_true,show(0:Int)=((0:Nat):Int) from rfl,Int.ofNat_inj,List.countP_eq_zero];simp
theorem Rb{K:Nat}(y:Ap)(o:List (List Int))(n:Int)(hK:2000≤K)(e:o.length≤1000)(f:o.flatten.length≤1000):
  Ed K y o n=some (if check y≠0 then (0,check y) else if C3 y o=false∨Fz n 0 ((y.Ae.length:Int)-1)=false then (0,2) else (verdict y o n.toNat,0)):=by
 unfold Ed;rw[bd (HU hK y)]
 by_cases h:check y=0
 ·rw[h,cf (by decide),if_neg (by simp)];have a:=Fx h;have m:=a.n4;rw[bd (JS y o a.n4 hK e f)];cases g:C3 y o with
  |false=>rw[nf,if_pos (.inl rfl)]
  |true=>
   have j:Fe K y n=some (Fz n 0 ((y.Ae.length:Int)-1)):=by
    unfold Fe;rw[BJ (by omega) (by omega),bd (GX ..)]
   rw[nt,bd j];cases c:Fz n 0 ((y.Ae.length:Int)-1) with
   |false=>rw[nf,if_pos (.inr rfl)]
   |true=>
    rw[nt,if_neg (by simp)];rw[Gb] at c;obtain⟨i,rfl⟩:=Int.eq_ofNat_of_zero_le c.1;have hi:i<y.Ae.length:=by omega
    obtain⟨b,k,l⟩:=Lv (K:=K) Ff y a o g hK;have d:Cl K (fun(st:Unit) (x:AX×Aq)=>(C1 K x.1 x.2).bind fun r=>some (r,())) y o ()=some (b,((BL y).length:Int),()):=by
     rw[←k];congr 1;funext st x;rw[bd (Lr ..)]
    rw[bd d,bd (Me b i (by omega)),l,Jc Ff y a o i hi,Int.toNat_natCast];unfold verdict;show cond ((((BL y).countP (Gd y o i):Nat):Int)==((BL y).length:Int)) _ (cond ((((BL y).countP (Gd y o i):Nat):Int)==0) _ _)=_;rw[L3,K8];cases (BL y).all (Gd y o i)<;>cases (BL y).all (fun t=> !Gd y o i t)<;>rfl
 ·rw[ct (by simpa using h),if_pos h]
theorem Jd(y:Ap)(o:List (List Int)):∀(a:List A5) (s:Int×A5),s.1<(y.Ae.length:Int)∨a=[]→
  (∀t∈a,(DM y (Ch y o t):Int)≤(HQ y o a s).1)∧s.1≤(HQ y o a s).1∧((HQ y o a s)=s∨∃t∈a,(HQ y o a s)=((DM y (Ch y o t):Int),t))
 |[],s,_=>⟨fun t j=>(by cases j),Int.le_refl _,.inl rfl⟩
 |t::a,s,h=>by
  have g:s.1<(y.Ae.length:Int):=by
   rcases h with h|h
   ·exact h
   ·cases h
  have hle:∀x,(DM y (Ch y o x):Int)≤(y.Ae.length:Int):=fun x=>by
   have:=Ls Cp y.Ae (Ch y o x);unfold DM;omega
  rw[HQ]
  by_cases i:s.1<(DM y (Ch y o t):Int)
  ·rw[if_pos i];show(∀x∈t::a,_≤(cond (decide ((DM y (Ch y o t):Int)<(y.Ae.length:Int))) _ _:Int×A5).1)∧_
   by_cases e:(DM y (Ch y o t):Int)<(y.Ae.length:Int)
   ·rw[ct (dt e)];obtain⟨f,d,b⟩:=Jd y o a ((DM y (Ch y o t):Int),t) (.inl e);refine⟨fun x c=>?_,by have k:(DM y (Ch y o t):Int)≤_:=d;omega,.inr ?_⟩
    ·rcases List.mem_cons.1 c with rfl|c
     ·exact d
     ·exact f x c
    ·rcases b with b|⟨x,c,b⟩
     ·exact⟨t,List.mem_cons_self ..,b⟩
     ·exact⟨x,List.mem_cons_of_mem _ c,b⟩
   ·rw[cf (df e)];exact⟨fun x _=>Int.le_trans (hle x) (by show(y.Ae.length:Int)≤(DM y (Ch y o t):Int);omega),by show s.1≤(DM y (Ch y o t):Int);omega,.inr ⟨t,List.mem_cons_self ..,rfl⟩⟩
  ·rw[if_neg i];show(∀x∈t::a,_≤(cond (decide (s.1<(y.Ae.length:Int))) _ _:Int×A5).1)∧_;rw[ct (dt g)];obtain⟨f,d,b⟩:=Jd y o a s (.inl g);refine⟨fun x c=>?_,d,?_⟩
   ·rcases List.mem_cons.1 c with rfl|c
    ·omega
    ·exact f x c
   ·rcases b with b|⟨x,c,b⟩
    ·exact .inl b
    ·exact .inr ⟨x,List.mem_cons_of_mem _ c,b⟩
theorem Oz{y:Ap}(f:EF y):BL y≠[]:=by
 have g:wl (days y) 0∈CH y:=by
  refine HH.2 ⟨Fm _ _,?_⟩;have key:∀(l:List Bool) (s r:Int),(∀b∈l,b=false)→okW y.An y.Av l s r=true:=by
   intro l
   induction l with
   |nil=>intros;rfl
   |cons b l ih=>
    intro s r h;have a:=h b (List.mem_cons_self ..);subst a;rw[okW];exact ih s 0 fun x c=>h x (List.mem_cons_of_mem _ c)
  refine key _ 0 0 fun b a=>?_;unfold wl at a;obtain⟨d,_,rfl⟩:=List.mem_map.1 a;exact Nat.zero_testBit d
 have i:Ef y.Ae (y.Ae.map (·.Au))=true:=by
  have key:∀ls:List AX,(∀l∈ls,sized l)→Ef ls (ls.map (·.Au))=true:=by
   intro ls
   induction ls with
   |nil=>intro _;rfl
   |cons l r ih=>
    intro h;have:=(h l (List.mem_cons_self ..)).1;rw[List.map_cons,Ef,Bool.and_eq_true];exact⟨Gb.2 (by unfold CJ at this;omega),ih fun x c=>h x (List.mem_cons_of_mem _ c)⟩
  exact key _ fun l j=>(f.sz l j).1
 intro e;have:(⟨y.Ae.map (·.Au),wl (days y) 0⟩:A5)∈BL y:=by
  unfold BL;exact List.mem_flatMap.2 ⟨_,g,List.mem_map.2 ⟨_,Hh.2 i,rfl⟩⟩
 rw[e] at this;cases this
theorem HR {y:Ap} (c:EF y) (o:List (List Int)):(∀t,E0 y t=true→(DM y (Ch y o t):Int)≤(CP y o).1)∧E0 y (CP y o).2=true∧(CP y o).1=(DM y (Ch y o (CP y o).2):Int):=by
 obtain⟨d,e,a⟩:=Jd y o (BL y) (-1,⟨[],[]⟩) (.inl (by show(-1:Int)<_;omega));refine⟨fun t b=>d t ((Gy c.h0).2 b),?_⟩;rcases a with a|⟨t,b,a⟩
 ·exfalso;obtain⟨t,b⟩:=List.exists_mem_of_ne_nil _ (Oz c);have:=d t b;rw[a] at this;have f:(DM y (Ch y o t):Int)≤-1:=this;omega
 ·unfold CP;rw[a];exact⟨(Gy c.h0).1 b,rfl⟩
end Go.Proofs.YtkljfdkmjdjpfaaGreat
end
section
namespace Go.Proofs.YtkljfdkmjdjpfaaGreat
def DZ:Nat→Nat→List (List Int)→List (List (List Int))
 |0,_,o=>[o]
 |k+1,i,o=>(List.range o.length).flatMap fun r=>(List.range ((o.getD r []).length+1)).flatMap fun(a:Nat)=>DZ k (i+1) (o.set r (CD (o.getD r []) (a:Int) (i:Int)))
def FE(y:Ap):List (List (List Int)):=DZ y.Ae.length 0 (List.replicate y.Ag.toNat [])
section
variable{σ:Type}{K:Nat}(cb:σ→List (List Int)→Option (Bool×σ))(y:Ap)
def Or(n k i:Nat):Prop:=∀(o:List (List Int)) (st:σ),(∀l∈o,l.length≤i)→o.length≤1000→
 (Bn K cb k (i:Int) y o st).map (fun z=>(z.1,z.2.2))=run cb (DZ n i o) st∧
 ∀z,Bn K cb k (i:Int) y o st=some z→z.1=true→z.2.1=o
theorem MT{l:List (List Int)}{r:Nat}(h:r<l.length):l.set r (l.getD r [])=l:=by
 rw[List.getD_eq_getElem?_getD,List.getElem?_eq_getElem h];exact List.set_getElem_self h
theorem Po(n k i r:Nat)(hi:i≤10)(o:List (List Int))(s:r<o.length)(v:o.length≤1000)(hlen:∀l∈o,l.length≤i)(ih:Or (K:=K) cb y n k (i+1)):
  ∀(c m a:Nat) (q:List (List Int)) (st:σ),(o.getD r []).length+1=a+c→c<m→q.length=o.length→q.set r (o.getD r [])=o→
  (B4 (Bn K cb k) (i:Int) y (r:Int) (o.getD r []) m (a:Int) q st).map Qd=run cb ((List.range' a c).flatMap fun(a:Nat)=>DZ n (i+1) (o.set r (CD (o.getD r []) (a:Int) (i:Int)))) st∧
  ∀z,B4 (Bn K cb k) (i:Int) y (r:Int) (o.getD r []) m (a:Int) q st=some z→(∀x,z=.inl x→x.1=false)∧(∀x,z=.inr x→x.1.length=o.length∧x.1.set r (o.getD r [])=o):=by
 have aH:(o.getD r []).length≤i:=by
  rw[List.getD_eq_getElem?_getD,List.getElem?_eq_getElem s];exact hlen _ (List.getElem_mem s)
 intro c
 induction c with
 |zero=>
  intro m a q st h hm w f;cases m with
  |zero=>omega
  |succ m=>
   rw[B4.eq_2,cf (df (by omega))];exact⟨rfl,fun z g=>by cases g;exact⟨fun x e=>(by cases e),fun x e=>by cases e;exact⟨w,f⟩⟩⟩
 |succ c aA=>
  intro m a q st h hm w f;cases m with
  |zero=>omega
  |succ m=>
   have aB:r<q.length:=by omega
   have t:q.set r (CD (o.getD r []) (a:Int) (i:Int))=o.set r (CD (o.getD r []) (a:Int) (i:Int)):=by
    have h:(q.set r (o.getD r [])).set r (CD (o.getD r []) (a:Int) (i:Int))=o.set r (CD (o.getD r []) (a:Int) (i:Int)):=by rw[f]
    rw[List.set_set] at h;exact h
   rw[B4.eq_2,ct (dt (by omega)),Ga (by omega),Ga (by omega),DH aB,BJ (by omega) (by omega),DI i,Int.toNat_natCast,t];obtain⟨aD,aE⟩:=ih (o.set r (CD (o.getD r []) (a:Int) (i:Int))) st (fun l aF=>by
    rcases List.mem_or_eq_of_mem_set aF with u|u
    ·have:=hlen l u;omega
    ·rw[u,Ks];omega) (by rw[List.length_set];exact v)
   rw[List.range'_succ,List.flatMap_cons,Hc,←aD];cases aG:Bn K cb k ((i+1:Nat):Int) y (o.set r (CD (o.getD r []) (a:Int) (i:Int))) st with
   |none=>exact⟨rfl,fun z g=>by cases g⟩
   |some z0=>
    obtain⟨b,j,s2⟩:=z0;cases b with
    |false=>
     refine⟨rfl,fun z g=>?_⟩;have aC:some (Sum.inl (false,j,s2))=some z:=g;cases aC;exact⟨fun x e=>by cases e;rfl,fun x e=>by cases e⟩
    |true=>
     have p:j=o.set r (CD (o.getD r []) (a:Int) (i:Int)):=aE _ aG rfl;have key:(Option.bind (some (true,j,s2)) fun d=>cond (!d.1) (some (Sum.inl (false,d.2.1,d.2.2))) ((i64 ((a:Int)+1)).bind fun _=>B4 (Bn K cb k) (i:Int) y (r:Int) (o.getD r []) m ((a:Int)+1) d.2.1 d.2.2))=B4 (Bn K cb k) (i:Int) y (r:Int) (o.getD r []) m ((a+1:Nat):Int) j s2:=by
      rw[Option.bind_some,nt,BJ (by omega) (by omega),DI a]
     rw[key];exact aA m (a+1) j s2 (by omega) (by omega) (by rw[p,List.length_set]) (by rw[p,List.set_set];exact MT s)
theorem Pp(n k i:Nat)(hi:i≤10)(hK:2000≤K)(o:List (List Int))(p:o.length≤1000)(hlen:∀l∈o,l.length≤i)(ih:Or (K:=K) cb y n k (i+1)):
  ∀(c m r:Nat) (st:σ),o.length=r+c→c<m→
  (BW (Bn K cb k) K (i:Int) y o m (r:Int) o st).map Qd=run cb ((List.range' r c).flatMap fun r=>(List.range ((o.getD r []).length+1)).flatMap fun(a:Nat)=>DZ n (i+1) (o.set r (CD (o.getD r []) (a:Int) (i:Int)))) st∧
  ∀z,BW (Bn K cb k) K (i:Int) y o m (r:Int) o st=some z→(∀x,z=.inl x→x.1=false)∧(∀x,z=.inr x→x.1=o):=by
 intro c
 induction c with
 |zero=>
  intro m r st h hm;cases m with
  |zero=>omega
  |succ m=>
   rw[BW.eq_2,cf (df (by omega))];exact⟨rfl,fun z j=>by cases j;exact⟨fun x f=>(by cases f),fun x f=>by cases f;rfl⟩⟩
 |succ c q=>
  intro m r st h hm;cases m with
  |zero=>omega
  |succ m=>
   have g:r<o.length:=by omega
   have aF:(o.getD r []).length≤i:=by
    rw[List.getD_eq_getElem?_getD,List.getElem?_eq_getElem g];exact hlen _ (List.getElem_mem g)
   have s:o[r]=o.getD r []:=by rw[List.getD_eq_getElem?_getD,List.getElem?_eq_getElem g];rfl
   rw[BW.eq_2,ct (dt (by omega)),DH g,s,BJ (by omega) (by omega)];obtain⟨t,u⟩:=Po cb y n k i r hi o g p hlen ih ((o.getD r []).length+1) K 0 o st (by omega) (by omega) rfl (MT g);rw[Int.natCast_zero] at t u;rw[List.range'_succ,List.flatMap_cons,Hc,List.range_eq_range',←t];cases aA:B4 (Bn K cb k) (i:Int) y (r:Int) (o.getD r []) K 0 o st with
   |none=>exact⟨rfl,fun z j=>by cases j⟩
   |some z0=>
    obtain⟨aB,aC⟩:=u _ aA;cases z0 with
    |inl x=>
     obtain⟨b,e,s2⟩:=x;obtain rfl:b=false:=aB _ rfl;refine⟨rfl,fun z j=>?_⟩;have v:some (Sum.inl (false,e,s2))=some z:=j;cases v;exact⟨fun x f=>by cases f;rfl,fun x f=>by cases f⟩
    |inr x=>
     obtain⟨e,s2⟩:=x;obtain⟨aD,aE⟩:=aC _ rfl;have aG:e.length=o.length:=aD;have w:e.set r (o.getD r [])=o:=aE;have key:(Option.bind (some (Sum.inr (e,s2):(Bool×List (List Int)×σ)⊕(List (List Int)×σ))) fun z=>Sum.elim (fun d=>some (Sum.inl (d.1,d.2.1,d.2.2))) (fun d=>(idx d.1 (r:Int)).bind fun _=>(i64 ((r:Int)+1)).bind fun _=>BW (Bn K cb k) K (i:Int) y o m ((r:Int)+1) (d.1.set (r:Int).toNat (o.getD r [])) d.2) z)=BW (Bn K cb k) K (i:Int) y o m ((r+1:Nat):Int) o s2:=by
      rw[Option.bind_some];show(idx e (r:Int)).bind _=_;rw[DH (show r<e.length by omega),BJ (by omega) (by omega),DI r];show BW _ K _ y o m _ (e.set (r:Int).toNat (o.getD r [])) s2=_;rw[Int.toNat_natCast,w]
     rw[key];exact q m (r+1) s2 (by omega) (by omega)
theorem Pq(t:y.Ae.length≤4)(hK:2000≤K):∀(n k i:Nat),y.Ae.length=i+n→n<k→Or (K:=K) cb y n k i:=by
 intro n
 induction n with
 |zero=>
  intro k i h l o st hlen e;cases k with
  |zero=>omega
  |succ k=>
   rw[Bn.eq_2,ct (by rw[h];simp)];rw[DZ,run];cases cb st o with
   |none=>exact⟨rfl,fun z a=>by cases a⟩
   |some r=>
    obtain⟨b,s⟩:=r;refine⟨by cases b<;>rfl,fun z a _=>?_⟩;have c:some (b,o,s)=some z:=a;cases c;rfl
 |succ n ih=>
  intro k i h l o st hlen e;cases k with
  |zero=>omega
  |succ k=>
   rw[Bn.eq_2,cf (by simp;omega)];obtain⟨f,g⟩:=Pp cb y n k i (by omega) hK o e hlen (ih k (i+1) (by omega) (by omega)) o.length K 0 st (by omega) (by omega);rw[Int.natCast_zero] at f g;rw[DZ,List.range_eq_range',←f];cases m:BW (Bn K cb k) K (i:Int) y o K 0 o st with
   |none=>exact⟨rfl,fun z a=>by cases a⟩
   |some z0=>
    obtain⟨p,q⟩:=g _ m;cases z0 with
    |inl x=>
     obtain⟨b,d,s2⟩:=x;obtain rfl:b=false:=p _ rfl;refine⟨rfl,fun z a j=>?_⟩;have c:some (false,d,s2)=some z:=a;cases c;cases j
    |inr x=>
     obtain⟨d,s2⟩:=x;obtain rfl:d=o:=q _ rfl;refine⟨rfl,fun z a j=>?_⟩;have c:some (true,d,s2)=some z:=a;cases c;rfl
end
theorem MU{σ:Type}{K:Nat}(cb:σ→List (List Int)→Option (Bool×σ))(y:Ap)(a:EF y)(hK:2000≤K)(st:σ):Et K cb y st=(run cb (FE y) st).bind fun r=>some r.2:=by
 unfold Et;have:=a.r1;have:=a.r2;rw[NJ (by omega) (by omega) (by omega)];obtain⟨b,_⟩:=Pq cb y a.n4 hK y.Ae.length K 0 (by omega) (by have:=a.n4;omega) (List.replicate y.Ag.toNat []) st (fun l c=>by rw[(List.mem_replicate.1 c).2];exact Nat.le_refl _) (by rw[List.length_replicate];omega);rw[Int.natCast_zero] at b;unfold FE;rw[←b];cases Bn K cb K 0 y (List.replicate y.Ag.toNat []) st with
 |none=>rfl
 |some z=>rfl
end Go.Proofs.YtkljfdkmjdjpfaaGreat
end
section
namespace Go.Proofs.YtkljfdkmjdjpfaaGreat
theorem Pr(l:List Int)(a i:Int):(CD l a i).Perm (i::l):=by
 unfold CD;refine List.perm_middle.trans (List.Perm.cons _ ?_);rw[List.take_append_drop]
theorem GY(v:Int):∀(o:List (List Int)) (r:Nat) (a:Int),r<o.length→(o.set r (CD (o.getD r []) a v)).flatten.Perm (v::o.flatten)
 |l::o,0,a,_=>by
  show(CD l a v++o.flatten).Perm (v::(l++o.flatten));exact(Pr l a v).append_right _
 |l::o,r+1,a,h=>by
  show(l++(o.set r (CD (o.getD r []) a v)).flatten).Perm (v::(l++o.flatten));exact((GY v o r a (by simpa using h)).append_left l).trans List.perm_middle
theorem Is(n:Nat):iota (n+1)=iota n++[(n:Int)]:=by simp[iota,List.range_succ]
theorem K9:∀(k i:Nat) (c o:List (List Int)),c.flatten.Perm (iota i)→o∈DZ k i c→o.length=c.length∧o.flatten.Perm (iota (i+k))
 |0,i,c,o,h,b=>by
  rw[DZ,List.mem_singleton] at b;subst b;exact⟨rfl,h⟩
 |k+1,i,c,o,h,b=>by
  rw[DZ,List.mem_flatMap] at b;obtain⟨r,d,b⟩:=b;obtain⟨a,_,b⟩:=List.mem_flatMap.1 b;rw[List.mem_range] at d;obtain⟨e,f⟩:=K9 k (i+1) _ o (by
   rw[Is];exact((GY (i:Int) c r (a:Int) d).trans (h.cons _)).trans (List.perm_append_singleton _ _).symm) b
  rw[List.length_set] at e;exact⟨e,by rw[show i+(k+1)=i+1+k by omega];exact f⟩
theorem Hk{y:Ap}(a:EF y){o:List (List Int)}(h:o∈FE y):C3 y o=true:=by
 have:=K9 _ 0 _ o (by
  have:(List.replicate y.Ag.toNat ([]:List Int)).flatten=[]:=by simp
  rw[this];exact List.Perm.refl _) h
 rw[List.length_replicate,Nat.zero_add] at this;refine Fo.2 ⟨?_,this.2⟩;have:=a.r1;omega
theorem JT:∀(k i:Nat) (c o:List (List Int)) (r a:Nat),o∈DZ k i c→r<o.length→a≤(o.getD r []).length→o.set r (CD (o.getD r []) (a:Int) ((i+k:Nat):Int))∈DZ (k+1) i c
 |0,i,c,o,r,a,b,d,e=>by
  rw[DZ,List.mem_singleton] at b;subst b;rw[DZ,List.mem_flatMap];refine⟨r,List.mem_range.2 d,List.mem_flatMap.2 ⟨a,List.mem_range.2 (by omega),?_⟩⟩;rw[DZ,List.mem_singleton];rfl
 |k+1,i,c,o,r,a,b,d,e=>by
  rw[DZ,List.mem_flatMap] at b;obtain⟨r1,f,b⟩:=b;obtain⟨a1,g,b⟩:=List.mem_flatMap.1 b;rw[DZ,List.mem_flatMap];refine⟨r1,f,List.mem_flatMap.2 ⟨a1,g,?_⟩⟩;have:=JT k (i+1) _ o r a b d e;rw[show i+1+k=i+(k+1) by omega] at this;exact this
theorem La (v:Int):∀(o:List (List Int)),v∈o.flatten→∃(o':List (List Int)) (r a:Nat),r<o'.length∧a≤(o'.getD r []).length∧o=o'.set r (CD (o'.getD r []) (a:Int) v)∧o.flatten.Perm (v::o'.flatten)∧o'.length=o.length
 |[],h=>by cases h
 |l::o,h=>by
  by_cases b:v∈l
  ·obtain⟨s,t,rfl⟩:=List.append_of_mem b;refine⟨(s++t)::o,0,s.length,by simp,by simp,?_,?_,by simp⟩
   ·show _=CD (s++t) (s.length:Int) v::o;unfold CD;rw[Int.toNat_natCast,List.take_left,List.drop_left]
   ·show((s++v::t)++o.flatten).Perm (v::((s++t)++o.flatten));exact(List.perm_middle (a:=v) (l₁:=s) (l₂:=t)).append_right _
  ·have c:v∈o.flatten:=by
    rw[List.flatten_cons,List.mem_append] at h;exact h.resolve_left b
   obtain⟨o',r,a,d,e,f,g,i⟩:=La v o c;refine⟨l::o',r+1,a,by simpa using d,e,?_,?_,by simp[i]⟩
   ·show l::o=l::o'.set r (CD (o'.getD r []) (a:Int) v);rw[←f]
   ·show(l++o.flatten).Perm (v::(l++o'.flatten));exact(g.append_left l).trans List.perm_middle
theorem Kx(Kd:Nat):∀(n:Nat) (o:List (List Int)),o.length=Kd→o.flatten.Perm (iota n)→o∈DZ n 0 (List.replicate Kd [])
 |0,o,c,b=>by
  rw[DZ,List.mem_singleton];have he:o.flatten=[]:=b.eq_nil;rw[List.flatten_eq_nil_iff] at he;exact List.eq_replicate_iff.2 ⟨c,he⟩
 |n+1,o,c,b=>by
  have e:(n:Int)∈o.flatten:=b.mem_iff.2 (by rw[Is];simp);obtain⟨o',r,a,f,g,h,i,k⟩:=La (n:Int) o e;have d:o'.flatten.Perm (iota n):=by
   have j:(iota (n+1)).Perm ((n:Int)::iota n):=by rw[Is];exact List.perm_append_singleton _ _
   exact(List.perm_cons _).1 ((i.symm.trans b).trans j)
  have:=JT n 0 _ o' r a (Kx Kd n o' (by omega) d) f g;rw[Nat.zero_add] at this;rw[h];exact this
theorem IB{y:Ap}(a:EF y){o:List (List Int)}:o∈FE y↔C3 y o=true:=by
 refine⟨Hk a,fun h=>?_⟩;have b:=Fo.1 h;exact Kx _ _ o (by omega) b.2
theorem Lb{y:Ap}(a:EF y):FE y≠[]:=by
 have:((iota y.Ae.length)::List.replicate (y.Ag.toNat-1) [])∈FE y:=by
  refine(IB a).2 (Fo.2 ⟨?_,?_⟩)
  ·have:=a.r1;simp;omega
  ·simp
 intro e;rw[e] at this;cases this
theorem Qj(p:List (List Int))(c:p.length≤1000)(a:∀l∈p,l.length≤1000):∀(k m i:Nat),p.length=i+k→k<m→Ep p m (i:Int) p=some p:=by
 intro k
 induction k with
 |zero=>
  intro m i h hm;cases m with
  |zero=>omega
  |succ m=>rw[Ep.eq_2,cf (df (by omega))]
 |succ k ih=>
  intro m i h hm;cases m with
  |zero=>omega
  |succ m=>
   have hi:i<p.length:=by omega
   have b:=a p[i] (List.getElem_mem hi);rw[Ep.eq_2,ct (dt (by omega)),DH hi,Ga (by omega),DH hi,BJ (by omega) (by omega),DI,Int.toNat_natCast,List.set_getElem_self hi];exact ih m (i+1) (by omega) (by omega)
theorem MV{K:Nat}(p:List (List Int))(a:p.length≤1000)(b:∀l∈p,l.length≤1000)(hK:2000≤K):EJ K p=some p:=by
 unfold EJ;have:=Qj p a b p.length K 0 (by omega) (by omega);rw[Int.natCast_zero] at this;rw[Ga (by omega),bd this]
theorem JU{y:Ap}(a:EF y){o:List (List Int)}(h:C3 y o=true):o.length≤1000∧(∀l∈o,l.length≤1000)∧o.flatten.length≤1000:=by
 have b:=Fo.1 h;have c:=Lq h;have:=a.r2;have:=a.n4;have d:=b.2.length_eq;rw[Gx] at d;exact⟨by omega,fun l e=>by have:=(c l e).1;omega,by omega⟩
def HA(y:Ap):List (List (List Int))→Int×List (List Int)→Int×List (List Int)
 |[],s=>s
 |o::os,s=>
  let s2:=if (CP y o).1<s.1 then ((CP y o).1,o) else s
  cond (decide (0<s2.1)) (HA y os s2) s2
def GF(y:Ap):Int×List (List Int):=HA y (FE y) ((y.Ae.length:Int)+1,[])
theorem MW{K:Nat}(y:Ap)(a:EF y)(hK:2000≤K):∀(os:List (List (List Int))) (s:Int×List (List Int)),(∀o∈os,C3 y o=true)→
  (run (fun(st:Int×(List (List Int))) (x:(List (List Int)))=>(FD K x y st.1 st.2).bind fun r=>some (r.1,(r.2.1,r.2.2))) os s).bind (fun r=>some r.2)=some (HA y os s)
 |[],s,_=>rfl
 |o::os,s,h=>by
  have d:=h o (List.mem_cons_self ..);obtain⟨e,f,_⟩:=JU a d;rw[run,HA];unfold FD;rw[bd (Pm y a o d hK)]
  by_cases b:(CP y o).1<s.1
  ·rw[ct (dt b),bd (MV o e f hK),if_pos b];show(cond (decide (0<(CP y o).1)) _ _:Option (Bool×Int×List (List Int))).bind _=some (cond (decide (0<(CP y o).1)) _ _);cases decide (0<(CP y o).1) with
   |false=>rfl
   |true=>exact MW y a hK os _ fun x c=>h x (List.mem_cons_of_mem _ c)
  ·rw[cf (df b),if_neg b];show(cond (decide (0<s.1)) _ _:Option (Bool×Int×List (List Int))).bind _=some (cond (decide (0<s.1)) _ _);cases decide (0<s.1) with
   |false=>rfl
   |true=>exact MW y a hK os s fun x c=>h x (List.mem_cons_of_mem _ c)
theorem SL{K:Nat}(y:Ap)(hK:2000≤K):FT K y=some (if check y≠0 then ([],0,check y) else ((GF y).2,(GF y).1,0)):=by
 unfold FT;rw[bd (HU hK y)]
 by_cases h:check y=0
 ·rw[h,cf (by decide),if_neg (by simp)];have a:=Fx h;have c:=a.n4;rw[BJ (by omega) (by omega),MU _ y a hK];exact Eq.trans (bd (MW y a hK (FE y) _ fun o b=>Hk a b)) rfl
 ·rw[ct (by simpa using h),if_pos h]
theorem KJ{y:Ap}(a:EF y)(o:List (List Int)):0≤(CP y o).1∧(CP y o).1≤(y.Ae.length:Int):=by
 obtain⟨_,_,e⟩:=HR a o;have:=Ls Cp y.Ae (Ch y o (CP y o).2);rw[e];unfold DM;omega
theorem Je(y:Ap)(d:EF y):∀(os:List (List (List Int))) (s:Int×List (List Int)),0<s.1∨os=[]→
  (∀o∈os,(HA y os s).1≤(CP y o).1)∧(HA y os s).1≤s.1∧((HA y os s)=s∨∃o∈os,(HA y os s)=((CP y o).1,o))
 |[],s,_=>⟨fun o j=>(by cases j),Int.le_refl _,.inl rfl⟩
 |o::os,s,h=>by
  have g:0<s.1:=by
   rcases h with h|h
   ·exact h
   ·cases h
  rw[HA]
  by_cases i:(CP y o).1<s.1
  ·rw[if_pos i];show(∀x∈o::os,(cond (decide (0<(CP y o).1)) _ _:Int×List (List Int)).1≤_)∧_
   by_cases e:0<(CP y o).1
   ·rw[ct (dt e)];obtain⟨f,c,a⟩:=Je y d os ((CP y o).1,o) (.inl e);have k:(HA y os ((CP y o).1,o)).1≤(CP y o).1:=c;refine⟨fun x b=>?_,by omega,.inr ?_⟩
    ·rcases List.mem_cons.1 b with rfl|b
     ·exact c
     ·exact f x b
    ·rcases a with a|⟨x,b,a⟩
     ·exact⟨o,List.mem_cons_self ..,a⟩
     ·exact⟨x,List.mem_cons_of_mem _ b,a⟩
   ·rw[cf (df e)];refine⟨fun x _=>?_,by show(CP y o).1≤s.1;omega,.inr ⟨o,List.mem_cons_self ..,rfl⟩⟩;have:=(KJ d x).1;show(CP y o).1≤_;omega
  ·rw[if_neg i];show(∀x∈o::os,(cond (decide (0<s.1)) _ _:Int×List (List Int)).1≤_)∧_;rw[ct (dt g)];obtain⟨f,c,a⟩:=Je y d os s (.inl g);refine⟨fun x b=>?_,c,?_⟩
   ·rcases List.mem_cons.1 b with rfl|b
    ·omega
    ·exact f x b
   ·rcases a with a|⟨x,b,a⟩
    ·exact .inl a
    ·exact .inr ⟨x,List.mem_cons_of_mem _ b,a⟩
theorem Lc {y:Ap} (a:EF y):(∀o,C3 y o=true→(GF y).1≤(CP y o).1)∧C3 y (GF y).2=true∧(GF y).1=(CP y (GF y).2).1:=by
 obtain⟨d,e,b⟩:=Je y a (FE y) ((y.Ae.length:Int)+1,[]) (.inl (by show(0:Int)<_+1;omega));refine⟨fun o c=>d o ((IB a).2 c),?_⟩;rcases b with b|⟨o,c,b⟩
 ·exfalso;obtain⟨o,c⟩:=List.exists_mem_of_ne_nil _ (Lb a);have:=d o c;rw[b] at this;have f:(y.Ae.length:Int)+1≤(CP y o).1:=this;have:=(KJ a o).2;omega
 ·unfold GF;rw[b];exact⟨Hk a c,rfl⟩
end Go.Proofs.YtkljfdkmjdjpfaaGreat
end
section
namespace Go.Proofs.YtkljfdkmjdjpfaaGreat
def DV(y:Ap)(yes:List Int):Nat:=(List.range y.Ae.length).countP fun i=>yes.getD i 0==0
def F1 (y:Ap) (o:List (List Int)):Nat:=(List.range y.Ae.length).countP fun i=>(BL y).all (Gd y o i)
theorem Ps{y:Ap}(a:EF y)(o:List (List Int)):DV y (B7 Cp y o)=F1 y o:=by
 unfold DV F1;refine List.countP_congr fun i hi=>?_;rw[List.mem_range] at hi;rw[Jc Cp y a o i hi,K8];have:((BL y).all fun t=> !Cp (E6 y i) (Ka y o t i))=(BL y).all (Gd y o i):=by
  congr 1;funext t;unfold Cp Gd;rw[Bool.not_not]
 rw[this]
theorem Qk(y:Ap)(o:List (List Int)):F1 y o≤y.Ae.length:=by
 unfold F1;have:=List.countP_le_length (p:=fun i=>(BL y).all (Gd y o i)) (l:=List.range y.Ae.length);simpa using this
theorem Rc(y:Ap)(r:BC×Int×Unit)(c:y.Ae.length≤4):∀(k m i:Nat) (a:Int),y.Ae.length=i+k→k<m→0≤a→a≤i→
  DU y r m a (i:Int)=some (a+((List.range' i k).countP (fun i=>r.1.l.getD i 0==0):Nat)):=by
 intro k
 induction k with
 |zero=>
  intro m i a h hm h0 b;cases m with
  |zero=>omega
  |succ m=>rw[DU.eq_2,cf (df (by omega))];simp
 |succ k ih=>
  intro m i a h hm h0 b;cases m with
  |zero=>omega
  |succ m=>
   rw[DU.eq_2,ct (dt (by omega)),bd (Me r.1 i (by omega)),List.range'_succ,List.countP_cons];cases d:(r.1.l.getD i 0==0) with
   |true=>
    rw[ct rfl,BJ (by omega) (by omega),BJ (by omega) (by omega),DI,ih m (i+1) (a+1) (by omega) (by omega) (by omega) (by omega)]
    congr 1;simp;omega
   |false=>
    rw[cf rfl,BJ (by omega) (by omega),DI,ih m (i+1) a (by omega) (by omega) (by omega) (by omega)]
    congr 1
theorem Ql(y:Ap)(r:BC×Int×Unit)(c:y.Ae.length≤4):∀(k m i:Nat) (a:Int),y.Ae.length=i+k→k<m→0≤a→a≤i→
  DQ y r m a (i:Int)=some (a+((List.range' i k).countP (fun i=>r.1.l.getD i 0==0):Nat)):=by
 intro k
 induction k with
 |zero=>
  intro m i a h hm h0 b;cases m with
  |zero=>omega
  |succ m=>rw[DQ.eq_2,cf (df (by omega))];simp
 |succ k ih=>
  intro m i a h hm h0 b;cases m with
  |zero=>omega
  |succ m=>
   rw[DQ.eq_2,ct (dt (by omega)),bd (Me r.1 i (by omega)),List.range'_succ,List.countP_cons];cases d:(r.1.l.getD i 0==0) with
   |true=>
    rw[ct rfl,BJ (by omega) (by omega),BJ (by omega) (by omega),DI,ih m (i+1) (a+1) (by omega) (by omega) (by omega) (by omega)]
    congr 1;simp;omega
   |false=>
    rw[cf rfl,BJ (by omega) (by omega),DI,ih m (i+1) a (by omega) (by omega) (by omega) (by omega)]
    congr 1
def FL(y:Ap):List (List (List Int))→Int×List Int×List (List Int)→Int×List Int×List (List Int)
  |[],s=>s
  |o::os,s=>
    cond (decide (0≤s.1)&&(B7 Cp y o==s.2.1)) (FL y os s)
      (let s2:=if s.1<(DV y (B7 Cp y o):Int) then ((DV y (B7 Cp y o):Int),B7 Cp y o,o) else (s.1,B7 Cp y o,s.2.2)
       cond (decide (s2.1<(y.Ae.length:Int))) (FL y os s2) s2)
def Gn(y:Ap):Int×List Int×List (List Int):=FL y (FE y) (-1,[0,0,0,0],[])
theorem MX{K:Nat}(y:Ap)(e:EF y)(hK:2000≤K):∀(os:List (List (List Int))) (n:Int) (a:BC) (q:List (List Int)),(∀o∈os,C3 y o=true)→
    ∃(b:Bool) (a2:BC),run (fun(st:Int×BC×(List (List Int))) (x:(List (List Int)))=>(El K x y st.1 st.2.1 st.2.2).bind fun r=>some (r.1,(r.2.1,r.2.2.1,r.2.2.2))) os (n,a,q)=some (b,(FL y os (n,a.l,q)).1,a2,(FL y os (n,a.l,q)).2.2)
  |[],n,a,q,_=>⟨true,a,rfl⟩
  |o::os,n,a,q,h=>by
    have s:=h o (List.mem_cons_self ..);have p:∀x∈os,C3 y x=true:=fun x aC=>h x (List.mem_cons_of_mem _ aC);obtain⟨aD,aE,_⟩:=JU e s;have t:=e.n4;obtain⟨b,aF,k⟩:=Lv (K:=K) Cp y e o s hK;have u:Cl K (fun(st:Unit) (x:AX×Aq)=>(DT K x.1 x.2).bind fun r=>some (r,())) y o ()=some (b,((BL y).length:Int),()):=by
      rw[←aF];congr 1;funext st x;rw[bd (NM ..)];rfl
    have h9:=Rc y (b,((BL y).length:Int),()) t y.Ae.length K 0 0 (by omega) (by omega) (by omega) (by omega);have f:=Ql y (b,((BL y).length:Int),()) t y.Ae.length K 0 0 (by omega) (by omega) (by omega) (by omega);rw[Int.natCast_zero,Int.zero_add] at h9 f;have v:((List.range' 0 y.Ae.length).countP (fun i=>(b,((BL y).length:Int),()).1.l.getD i 0==0))=DV y (B7 Cp y o):=by
      rw[←List.range_eq_range',←k];rfl
    rw[v] at h9 f;have c:∀(l:Int×BC×List (List Int)) (z:Int×List Int×List (List Int)),(l.1,l.2.1.l,l.2.2)=z→
        ∃(d:Bool) (a2:BC),cond (decide (l.1<(y.Ae.length:Int))) (run (fun(st:Int×BC×(List (List Int))) (x:(List (List Int)))=>(El K x y st.1 st.2.1 st.2.2).bind fun r=>some (r.1,(r.2.1,r.2.2.1,r.2.2.2))) os l) (some (false,l))=some (d,(cond (decide (z.1<(y.Ae.length:Int))) (FL y os z) z).1,a2,(cond (decide (z.1<(y.Ae.length:Int))) (FL y os z) z).2.2):=by
      rintro⟨g,w,aG⟩ z rfl;show∃(d:Bool) (a2:BC),cond (decide (g<(y.Ae.length:Int))) _ _=some (d,(cond (decide (g<(y.Ae.length:Int))) _ _:Int×List Int×List (List Int)).1,a2,(cond (decide (g<(y.Ae.length:Int))) _ _:Int×List Int×List (List Int)).2.2);cases decide (g<(y.Ae.length:Int)) with
      |false=>exact⟨false,w,rfl⟩
      |true=>exact MX y e hK os g w aG p
    have main:∀z9:Int,z9=(DV y (B7 Cp y o):Int)→∃(d:Bool) (a2:BC),
        (((cond (decide (n<z9)) ((EJ K o).bind fun aA=>some ((decide (z9<(y.Ae.length:Int)),z9,b,aA))) (some ((decide (n<(y.Ae.length:Int)),n,b,q))):Option (Bool×Int×BC×List (List Int))).bind fun r=>some (r.1,(r.2.1,r.2.2.1,r.2.2.2))).bind fun r=>cond r.1 (run (fun(st:Int×BC×(List (List Int))) (x:(List (List Int)))=>(El K x y st.1 st.2.1 st.2.2).bind fun r=>some (r.1,(r.2.1,r.2.2.1,r.2.2.2))) os r.2) (some (false,r.2)))=
        some (d,(let s2:=if n<(DV y (B7 Cp y o):Int) then ((DV y (B7 Cp y o):Int),B7 Cp y o,o) else (n,B7 Cp y o,q)
       cond (decide (s2.1<(y.Ae.length:Int))) (FL y os s2) s2).1,a2,(let s2:=if n<(DV y (B7 Cp y o):Int) then ((DV y (B7 Cp y o):Int),B7 Cp y o,o) else (n,B7 Cp y o,q)
       cond (decide (s2.1<(y.Ae.length:Int))) (FL y os s2) s2).2.2):=by
      rintro z9 rfl
      by_cases j:n<(DV y (B7 Cp y o):Int)
      · rw[ct (dt j),bd (MV o aD aE hK)];simp only[if_pos j];exact c ((DV y (B7 Cp y o):Int),b,o) ((DV y (B7 Cp y o):Int),B7 Cp y o,o) (by show(_,b.l,o)=_;rw[k])
      · rw[cf (df j)];simp only[if_neg j];exact c (n,b,q) (n,B7 Cp y o,q) (by show(_,b.l,q)=_;rw[k])
    rw[run,FL];show∃(d:Bool) (a2:BC),Option.bind ((El K o y n a q).bind _) _=_;unfold El;rw[bd u]
    by_cases m:0≤n
    · rw[ct (dt m),dt m,Bool.true_and];have aB:([b.a0,b.a1,b.a2,b.a3]==[a.a0,a.a1,a.a2,a.a3])=(B7 Cp y o==a.l):=by rw[←k];rfl
      rw[aB];cases j:(B7 Cp y o==a.l) with
      |true=>
        rw[ct rfl,ct rfl];exact MX y e hK os n a q p
      |false=>
        rw[cf rfl,cf rfl,bd h9];exact main _ rfl
    · rw[cf (df m),df m,Bool.false_and,cf rfl,bd f];exact main _ rfl
theorem SM{K:Nat}(y:Ap)(hK:2000≤K):FV K y=some (if check y≠0 then ([],0,check y) else ((Gn y).2.2,(Gn y).1,0)):=by
 unfold FV;rw[bd (HU hK y)]
 by_cases h:check y=0
 ·rw[h,cf (by decide),if_neg (by simp)];have a:=Fx h;rw[MU _ y a hK];obtain⟨b,a2,e⟩:=MX (K:=K) y a hK (FE y) (-1) ⟨0,0,0,0⟩ [] fun o c=>Hk a c;exact Eq.trans (congrArg (fun z=>Option.bind (Option.bind z _) _) e) rfl
 ·rw[ct (by simpa using h),if_pos h]
theorem HS(y:Ap)(i:EF y):∀(os:List (List (List Int))) (s:Int×List Int×List (List Int)),s.1<(y.Ae.length:Int)∨0≤s.1→(0≤s.1→(DV y s.2.1:Int)≤s.1)→s.1≤(y.Ae.length:Int)→
  (∀o∈os,(F1 y o:Int)≤(FL y os s).1)∧s.1≤(FL y os s).1∧(((FL y os s).1=s.1∧(FL y os s).2.2=s.2.2)∨∃o∈os,(FL y os s).1=(F1 y o:Int)∧(FL y os s).2.2=o)
 |[],s,_,_,_=>⟨fun o l=>(by cases l),Int.le_refl _,.inl ⟨rfl,rfl⟩⟩
 |o::os,s,h,hi,hle=>by
  have hlen:∀x,(F1 y x:Int)≤(y.Ae.length:Int):=fun x=>by have:=Qk y x;omega
  have c:=Ps i o;rw[FL]
  by_cases f:(decide (0≤s.1)&&(B7 Cp y o==s.2.1))=true
  ·rw[ct f];rw[Bool.and_eq_true,decide_eq_true_eq] at f;obtain⟨g,d,a⟩:=HS y i os s h hi hle;refine⟨fun x b=>?_,d,?_⟩
   ·rcases List.mem_cons.1 b with rfl|b
    ·have:=hi f.1;rw[←eq_of_beq f.2,c] at this;omega
    ·exact g x b
   ·rcases a with a|⟨x,b,a⟩
    ·exact .inl a
    ·exact .inr ⟨x,List.mem_cons_of_mem _ b,a⟩
  ·rw[cf (by simpa using f)]
   by_cases j:s.1<(DV y (B7 Cp y o):Int)
   ·simp only[if_pos j]
    by_cases e:(DV y (B7 Cp y o):Int)<(y.Ae.length:Int)
    ·rw[ct (dt e)];obtain⟨g,d,a⟩:=HS y i os ((DV y (B7 Cp y o):Int),B7 Cp y o,o) (.inl e) (fun _=>Int.le_refl _) (by show(DV y (B7 Cp y o):Int)≤_;omega);have k:(DV y (B7 Cp y o):Int)≤_:=d;refine⟨fun x b=>?_,by omega,.inr ?_⟩
     ·rcases List.mem_cons.1 b with rfl|b
      ·rw[←c];exact d
      ·exact g x b
     ·rcases a with⟨a,m⟩|⟨x,b,a⟩
      ·exact⟨o,List.mem_cons_self ..,by rw[a,←c],m⟩
      ·exact⟨x,List.mem_cons_of_mem _ b,a⟩
    ·rw[cf (df e)];refine⟨fun x _=>?_,by show s.1≤(DV y (B7 Cp y o):Int);omega,.inr ⟨o,List.mem_cons_self ..,by show(DV y (B7 Cp y o):Int)=_;rw[c],rfl⟩⟩;have:=hlen x;show _≤(DV y (B7 Cp y o):Int);omega
   ·simp only[if_neg j];have h0:0≤s.1:=by omega
    by_cases e:s.1<(y.Ae.length:Int)
    ·rw[ct (dt e)];obtain⟨g,d,a⟩:=HS y i os (s.1,B7 Cp y o,s.2.2) (.inl e) (fun _=>by show(DV y (B7 Cp y o):Int)≤s.1;omega) hle;have k:s.1≤_:=d;refine⟨fun x b=>?_,d,?_⟩
     ·rcases List.mem_cons.1 b with rfl|b
      ·rw[←c];omega
      ·exact g x b
     ·rcases a with a|⟨x,b,a⟩
      ·exact .inl a
      ·exact .inr ⟨x,List.mem_cons_of_mem _ b,a⟩
    ·rw[cf (df e)];refine⟨fun x _=>?_,Int.le_refl _,.inl ⟨rfl,rfl⟩⟩;have:=hlen x;show _≤s.1;omega
theorem Jf {y:Ap} (c:EF y):(∀o,C3 y o=true→(F1 y o:Int)≤(Gn y).1)∧C3 y (Gn y).2.2=true∧(Gn y).1=(F1 y (Gn y).2.2:Int):=by
 obtain⟨d,f,a⟩:=HS y c (FE y) (-1,[0,0,0,0],[]) (.inl (by show(-1:Int)<_;omega)) (fun h=>absurd (show(0:Int)≤-1 from h) (by decide)) (by show(-1:Int)≤_;omega);refine⟨fun o b=>d o ((IB c).2 b),?_⟩;rcases a with⟨a,_⟩|⟨o,b,a,e⟩
 ·exfalso;obtain⟨o,b⟩:=List.exists_mem_of_ne_nil _ (Lb c);have:=d o b;rw[a] at this;have g:(F1 y o:Int)≤-1:=this;omega
 ·unfold Gn;rw[a,e];exact⟨Hk c b,rfl⟩
end Go.Proofs.YtkljfdkmjdjpfaaGreat
end
section
namespace Go.Proofs.YtkljfdkmjdjpfaaGreat
def GL(n i k:Nat):List Int:=((List.range' k (n-k)).filter fun j=>j !=i).map fun j:Nat=>(j:Int)
def Ge (y:Ap) (i:Nat):List (List Int):=((i:Int)::GL y.Ae.length i 0)::List.replicate (y.Ag.toNat-1) []
theorem SN{α:Type}(x:α)(r:List α):idx (x::r) (0:Int)=some x:=idx_eq (xs:=x::r) (k:=0) (by simp)
theorem TM(n i:Nat)(f:n≤4):∀(d m k:Nat) (x:List Int) (r:List (List Int)),n=k+d→d<m→x.length≤1+k→
  Iz (n:Int) (i:Int) m (k:Int) (x::r)=some ((x++GL n i k)::r):=by
 intro d
 induction d with
 |zero=>
  intro m k x r h hm e;cases m with
  |zero=>omega
  |succ m=>
   rw[Iz,cf (df (by omega))];unfold GL;rw[show n-k=0 by omega];simp
 |succ d ih=>
  intro m k x r h hm e;cases m with
  |zero=>omega
  |succ m=>
   have b:idx (x::r) (0:Int)=some x:=SN x r;have c:GL n i k=cond (k !=i) ((k:Int)::GL n i (k+1)) (GL n i (k+1)):=by
    unfold GL;rw[show n-k=(n-(k+1))+1 by omega,List.range'_succ,List.filter_cons];cases g:(k !=i) with
    |true=>rfl
    |false=>rfl
   rw[Iz,ct (dt (by omega))]
   by_cases a:k=i
   ·have:((k:Int) !=(i:Int))=false:=by rw[a];exact bne_self_eq_false ..
    rw[this,cf rfl,BJ (by omega) (by omega),DI,ih m (k+1) x r (by omega) (by omega) (by omega),c,show(k !=i)=false by rw[a];exact bne_self_eq_false ..];rfl
   ·have:((k:Int) !=(i:Int))=true:=by rw[bne_iff_ne];omega
    rw[this,ct rfl,bd b,Ga (by simp;omega),bd b,BJ (by omega) (by omega),DI];show Iz _ _ m _ ((x++[(k:Int)])::r)=_;rw[ih m (k+1) (x++[(k:Int)]) r (by omega) (by omega) (by simp;omega),c,show(k !=i)=true by rw[bne_iff_ne];exact a];simp
theorem Pt{y:Ap}(b:EF y){i:Nat}(hi:i<y.Ae.length):C3 y (Ge y i)=true:=by
 have c:=b.r1;rw[Fo];refine⟨by unfold Ge;simp;omega,?_⟩;have e:(Ge y i).flatten=(i:Int)::GL y.Ae.length i 0:=by
  unfold Ge;rw[List.flatten_cons];have:(List.replicate (y.Ag.toNat-1) ([]:List Int)).flatten=[]:=by
   simp
  rw[this,List.append_nil]
 rw[e];unfold GL iota;rw[←List.range_eq_range',Nat.sub_zero];have:((i:Int)::((List.range y.Ae.length).filter fun j=>j !=i).map fun j:Nat=>(j:Int))=(i::((List.range y.Ae.length).filter fun j=>j !=i)).map fun j:Nat=>(j:Int):=rfl;rw[this];refine List.Perm.map _ ?_;have hm:i∈List.range y.Ae.length:=List.mem_range.2 hi;have a:=List.perm_cons_erase hm;rw[List.Nodup.erase_eq_filter List.nodup_range] at a;exact a.symm
def FM(y:Ap)(k d:Nat):List Int:=((List.range' k d).filter fun i=> !(BL y).all (Gd y (Ge y i) i)).map fun i:Nat=>(i:Int)
theorem OA{K:Nat}(y:Ap)(c:EF y)(hK:2000≤K):∀(d m i:Nat) (a:List Int),y.Ae.length=i+d→d<m→a.length≤i→
  DB K y m a (i:Int)=some (a++FM y i d):=by
 have g:=c.n4;have s:=c.r1;have t:=c.r2;intro d
 induction d with
 |zero=>
  intro m i a h hm j;cases m with
  |zero=>omega
  |succ m=>rw[DB.eq_2,cf (df (by omega))];simp[FM]
 |succ d ih=>
  intro m i a h hm j;cases m with
  |zero=>omega
  |succ m=>
   have hi:i<y.Ae.length:=by omega
   have k:=Pt c hi;obtain⟨b,n,o⟩:=Lv (K:=K) Ff y c (Ge y i) k hK;have e:Cl K (fun(st:Unit) (x:AX×Aq)=>(C1 K x.1 x.2).bind fun r=>some (r,())) y (Ge y i) ()=some (b,((BL y).length:Int),()):=by
    rw[←n];congr 1;funext st x;rw[bd (Lr ..)]
   have er:List.replicate y.Ag.toNat ([]:List Int)=[]::List.replicate (y.Ag.toNat-1) []:=by
    rw[←List.replicate_succ];congr 1;omega
   have f:=TM y.Ae.length i g y.Ae.length K 0 [(i:Int)] (List.replicate (y.Ag.toNat-1) []) (by omega) (by omega) (by simp);rw[DB.eq_2,ct (dt (by omega)),NJ (by omega) (by omega) (by omega),er];rw[bd (show idx (([]:List Int)::List.replicate (y.Ag.toNat-1) []) (0:Int)=some [] from SN _ _)];rw[Int.natCast_zero] at f;show(Iz _ _ K (0:Int) ([(i:Int)]::List.replicate (y.Ag.toNat-1) [])).bind _=_;rw[bd f];show(Cl K _ y (Ge y i) ()).bind _=_;rw[bd e,bd (Me b i (by omega))];have p:((b.l.getD i 0)==((BL y).length:Int))=(BL y).all (Gd y (Ge y i) i):=by
    rw[o,Jc Ff y c (Ge y i) i hi,L3];rfl
   show cond ((b.l.getD i 0)==((BL y).length:Int)) _ _=_;rw[p];have q:FM y i (d+1)=cond ((BL y).all (Gd y (Ge y i) i)) (FM y (i+1) d) ((i:Int)::FM y (i+1) d):=by
    unfold FM;rw[List.range'_succ,List.filter_cons];cases (BL y).all (Gd y (Ge y i) i)<;>rfl
   rw[q];cases (BL y).all (Gd y (Ge y i) i) with
   |true=>
    rw[ct rfl,BJ (by omega) (by omega),DI,ih m (i+1) a (by omega) (by omega) (by omega)];rfl
   |false=>
    rw[cf rfl,Ga (by simp;omega),BJ (by omega) (by omega),DI,ih m (i+1) (a++[(i:Int)]) (by omega) (by omega) (by simp;omega)];simp
theorem OB{K:Nat}(y:Ap)(hK:2000≤K):Fb K y=some (if check y≠0 then ([],check y) else (FM y 0 y.Ae.length,0)):=by
 unfold Fb;rw[bd (HU hK y)]
 by_cases h:check y=0
 ·rw[h,if_neg (by simp)];have e:=OA (K:=K) y (Fx h) hK y.Ae.length K 0 [] (by omega) (by have:=(Fx h).n4;omega) (by simp);rw[Int.natCast_zero] at e;show cond false _ _=_;rw[cf rfl,bd e,List.nil_append]
 ·rw[ct (by simpa using h),if_pos h]
end Go.Proofs.YtkljfdkmjdjpfaaGreat
end
