import Derived.Test.YtkljfdkmjdjpfaaGreatBB1
import Derived.WalkKit
import Derived.KernelRfl
import Derived.WalkSpells
import Derived.WalkLawsBesides
import Derived.Maps.AppendAt
import Derived.OrdersIn
import Derived.RangeFuncIn
import Derived.RangeFuncLeaves
import Derived.RangeFuncRecord
import Derived.RangeFuncSeq
import Derived.Scope
import Derived.DeepKeys3
import Derived.Laws.CopyRow
import Derived.Laws.OwnMore
import Derived.Laws.MakeOwn
import Derived.Laws.IdiomCopy
/-
  The contracts of the functions of the program and of the reference, and the logic that they are proved in: the base that several claims of this seat share.
-/
set_option linter.all false
section
namespace Go.Proofs.YtkljfdkmjdjpfaaGreat
open Go.RowKit Go.WideShapes
theorem VH{f:Operand→Value}{i0 i1 i2 i3 i4:Nat}{a x1 x2 b c:Operand}{v0 v1 v2 v3 v4:Value}(h0:f a=v0)(h1:f x1=v1)(d:f x2=v2)(h3:f b=v3)(e:f c=v4): #[(i0,a),(i1,x1),(i2,x2),(i3,b),(i4,c)].map (fun(i,x)=>(i,f x))= #[(i0,v0),(i1,v1),(i2,v2),(i3,v3),(i4,v4)]:=by simp[h0,h1,d,h3,e]
section
variable{F F' F0:Nat→Prop}{B:List (Option Nat)}{w0 w w' w1 w2:World}{Z Z':Nat→Prop}{L L' M C:List (Option Nat)}{D:Nat→Prop}
theorem BR(a:List Nat)(h:Gt L a M):∀x∈M,x∈L:=h.sub
theorem AO(a:List Nat)(h:Gt L a M)(b:∀k,F' k→F k):∀k,FU F' M k→F k∨some k∈L:=To h.sub b
theorem CQ(h:∀k,F0 k→F k):∀k,FU F0 C k→F k∨some k∈C:=fun k a=>a.imp (h k) id
theorem Gh{k:Nat}{o:Obj}{r:Option Nat}(h:w.heap[k]?=some o)(g:w.grownBy w' r)(a:some k≠r):w'.heap[k]?=some o:=(g.block k (Array.getElem?_eq_some_iff.1 h).1 a).trans h
theorem E2{k:Nat}{o:Obj}(h:w.heap[k]?=some o)(g:Bm D w w')(a:¬D k):w'.heap[k]?=some o:=(g.block k (Array.getElem?_eq_some_iff.1 h).1 a).trans h
theorem Cp.BE{α:Type}{ev:α→Value}{r n:Nat}{a:List (List Int×α)}(h:Cp ev w r n a)(g:Bm D w w')(b:¬D r):Cp ev w' r n a:=h.of (g.block r h.lt b)
theorem Cp.F5{α:Type}{ev:α→Value}{r n:Nat}{a:List (List Int×α)}(h:Cp ev w r n a)(e:w'.heap[r]?=w.heap[r]?):Cp ev w' r n a:=h.of e
theorem Bk.F5{b:Nat}{t:TypeId}{cs:Array Value}(h:Bk w b t cs)(e:w'.heap[b]?=w.heap[b]?):Bk w' b t cs:=e.trans h
theorem Hp.zz(h:Hp F B w0 L w)(a c:List Nat)(d:Gt L a M)(e:Gt L c C)(f:∀k,F' k→F k∨some k∈C):∀b,ZZ F B Z w0.heap.size L b→¬F' b∧some b∉M:=h.zc d.sub fun k g=>(f k g).imp id (e.sub _)
theorem Hp.mz(h:Hp F B w0 L w)(a b:List Nat)(c:Gt L a M)(d:Gt L b C)(e:∀k,F' k→F k∨some k∈C):Mv w (ZZ F B Z w0.heap.size L) w (ZC F' M):=RG (h.zz a b c d e)
theorem Ou{i:Nat}{a b:List Nat}(h:((a++b).all fun j=> !Nat.beq i j)=true):(a.all fun j=> !Nat.beq i j)=true∧(b.all fun j=> !Nat.beq i j)=true:=by
 rw[List.all_append,Bool.and_eq_true] at h;exact h
theorem Hp.bz(h:Hp F B w0 L w)(i:Nat){b:Nat}(hi:L[i]?=some (some b))(a c:List Nat)(e:Gt L a M)(f:Gt L c C)(g:∀k,F' k→F k∨some k∈C)(d:((a++c).all fun j=> !Nat.beq i j)=true):ZC F' M b:=by
 have h1:=h.BB (F':=F) i hi a (Ou d).1 e (fun _ h=>h);have l:=h.BB (F':=F) i hi c (Ou d).2 f (fun _ h=>h);exact⟨fun m=>l ((g b m).imp id id),fun hm=>h1 (.inr hm)⟩
theorem Hp.rz{α:Type}{e:D5 α}{t:TypeId}{n0:Nat}{A:Option Addr}{c:Nat}{xs:List α}(h:Hp F B w0 L w)(i:Nat)(hi:L[i]?=some (ob A))(a b:List Nat)(d:Gt L a M)(f:Gt L b C)(g:∀k,F' k→F k∨some k∈C)(l:((a++b).all fun j=> !Nat.beq i j)=true)
  (m:AL e t n0 w (ZZ F B Z w0.heap.size L) A c xs):Sl e w (ZC F' M) A c xs:=
 (m.up (h.mz a b d f g)).sl fun k n _=>h.bz i (by rw[hi,n]) a b d f g l
theorem Br{Z:Nat→Prop}(w:World):Mv w Z w (ZZ FN [] Z w.heap.size L):=Bf (fun _ _=>⟨id,by simp⟩) w
theorem Jm(h:Mv w Z w' Z):Mv w Z w' (ZZ FN [] Z w.heap.size M):=⟨h.size,fun b a c=>⟨.inl ⟨c,a,id,by simp⟩,(h.stay b a c).2⟩⟩
theorem KQ{n:Nat}:Mv w (ZZ FN [] Z n M) w (ZZ FN [] Z n [none]):=G5 fun b a _=>a.imp id fun⟨h1,_⟩=>⟨h1,by simp⟩
theorem Lg{n:Nat}{o:Option Nat}(h:o∈M:=by simp):Mv w (ZZ FN [] Z n M) w (ZZ FN [] Z n [o]):=G5 fun b a _=>a.imp id fun⟨h1,c⟩=>⟨h1,fun hm=>by
 rw[List.mem_singleton] at hm;exact c (by rw[hm];exact h)⟩
theorem Kk(g:Bm D w w')(h:∀b,Z b→¬D b):Mv w Z w' Z:=⟨g.size,fun b a c=>⟨a,g.block b c (h b a)⟩⟩
theorem JJ{b:Nat}{o:Option Nat}(h:¬FU FN C b∧some b≠o):¬FU FN C b:=h.1
theorem PS{b:Nat}{o:Option Nat}(h:¬FU F C b∧some b≠o):¬FU F (C++[o]) b:=by
 rintro(h1|h1)
 ·exact h.1 (.inl h1)
 ·rcases List.mem_append.1 h1 with a|a
  ·exact h.1 (.inr a)
  ·exact h.2 (by simpa using a)
theorem EH{b:Nat}{o:Option Nat}(h:¬FU F C b)(k:some b≠o):¬F b∧some b∉C++[o]:=
 ⟨fun h1=>h (.inl h1),fun h1=>by
  rcases List.mem_append.1 h1 with a|a
  ·exact h (.inr a)
  ·exact k (by simpa using a)⟩
theorem Bm.lf{o:Option Nat}(g:Bm (FU F (C++[o])) w w'):Bm (FU (FU F C) [o]) w w':=g.mono fun k h=>by
 rcases h with h|h
 ·exact .inl (.inl h)
 ·rcases List.mem_append.1 h with a|a
  ·exact .inl (.inr a)
  ·exact .inr a
theorem Bm.PT{o:Option Nat}(g:Bm (FU F C) w w'):Bm (FU (FU F C) [o]) w w':=g.mono fun _ h=>.inl h
theorem Bm.cl{M1 M2:List (Option Nat)}(g:Bm (FU (FU F M1) M2) w w'):Bm (FU F (M1++M2)) w w':=g.fl
theorem Hp.I2(h:Hp F B w0 L w)(b:List Nat)(c:Gt L b C)(d:∀k,F0 k→F k):∀k,FU F0 C k→k<w.heap.size:=fun k a=>by
 rcases a with a|a
 ·exact Nat.lt_of_lt_of_le (h.ff k (d k a)) h.sz
 ·exact(h.lo k (c.sub _ a)).1
theorem Hp.RK(h:Hp F B w0 L w)(i:Nat){k:Nat}(hi:L[i]?=some (some k))(a:List Nat)(b:(a.all fun j=> !Nat.beq i j)=true)(c:Gt L a C):k<w.heap.size∧¬FU F C k:=
 ⟨(h.lo k (List.mem_of_getElem? hi)).1,h.BB (F':=F) i hi a b c fun _ h=>h⟩
theorem Hp.C2{x c:Option Nat}(h:Hp F B w0 L w)(i:Nat)(hi:L[i]?=some x)(a:List Nat)(e:(a.all fun j=> !Nat.beq i j)=true)(f:Gt L a M)(g:∀y∈B,y=c∨y∈M):∀k,x=some k→(c=some k∨w0.heap.size≤k)∧k<w.heap.size:=fun k d=>by
 have h1:=h.lo k (List.mem_of_getElem? (by rw[hi,d]));refine⟨?_,h1.1⟩;rcases Nat.lt_or_ge k w0.heap.size with b|b
 ·left;rcases g _ (h1.2.2 b) with h3|h3
  ·exact h3.symm
  ·exact absurd (.inr h3) (h.BB (F':=F) i (by rw[hi,d]) a e f fun _ h=>h)
 ·exact .inr b
theorem BQ.snoc{o:Option Nat}(h:BQ F C w)(g:∀k,o=some k→k<w.heap.size∧¬FU F C k):BQ F (C++[o]) w:=by
 refine⟨fun k p=>?_,fun i j x l hi e=>?_,h.ff⟩
 ·rcases List.mem_append.1 p with h1|h1
  ·exact h.lt k h1
  ·have c:=g k (by rw[List.mem_singleton] at h1;exact h1.symm);exact⟨c.1,fun q=>c.2 (.inl q)⟩
 ·have key:∀(a b:Nat),a<C.length→¬b<C.length→(C++[o])[a]?=some (some x)→(C++[o])[b]?=some (some x)→False:=fun a b r s h1 c=>by
   rw[List.getElem?_append_left r] at h1;rw[List.getElem?_append_right (by omega)] at c;have m:b-C.length=0:=by
    rcases Nat.eq_zero_or_pos (b-C.length) with h|h
    ·exact h
    ·rw[List.getElem?_eq_none (by simp;omega)] at c;cases c
   rw[m] at c;have n:o=some x:=by simpa using c
   exact(g x n).2 (.inr (List.mem_of_getElem? h1))
  by_cases f:i<C.length
  ·by_cases d:j<C.length
   ·rw[List.getElem?_append_left f] at hi;rw[List.getElem?_append_left d] at e;exact h.ap i j x l hi e
   ·exact key i j f d hi e
  ·by_cases d:j<C.length
   ·exact key j i d f e hi
   ·have t:(C++[o]).length=C.length+1:=by simp
    have h1:=(List.getElem?_eq_some_iff.1 hi).1;have c:=(List.getElem?_eq_some_iff.1 e).1;omega
theorem BQ.keep{o o':Option Nat}(h:BQ F C w)(d:w.heap.size≤w1.heap.size)(a:∀k,o=some k→k<w1.heap.size∧¬FU F C k)(hy:∀k,o'=some k→(o=some k∨w1.heap.size≤k)∧k<w2.heap.size):∀k,o'=some k→k<w2.heap.size∧¬FU F C k:=fun k b=>by
 obtain⟨h1,c⟩:=hy k b;refine⟨c,?_⟩;rcases h1 with h1|h1
 ·exact(a k h1).2
 ·rintro(h3|h3)
  ·have:=h.ff k h3;omega
  ·have:=(h.lt k h3).1;omega
def U9(L:List (Option Nat))(n:Nat):List (Option Nat)→Prop
 |[]=>True
 |x::M=>((∃j:Nat,L[j]?=some x)∨∀k,x=some k→some k∈L∨n≤k)∧U9 L n M
theorem Cx{n:Nat}:∀{M:List (Option Nat)},U9 L n M→∀k,some k∈M→some k∈L∨n≤k
 |[],_,_,h=>by cases h
 |x::M,h,k,a=>by
  rcases List.mem_cons.1 a with e|a
  ·rcases h.1 with⟨j,b⟩|h1
   ·left;rw[e];exact List.mem_of_getElem? b
   ·exact h1 k e.symm
  ·exact Cx h.2 k a
theorem DJ{y:Option Nat}(i:Nat)(h:y∈M):∀x∈L.set i y,x∈L∨x∈M:=fun x a=>by
 rcases List.mem_or_eq_of_mem_set a with h1|e
 ·exact .inl h1
 ·exact .inr (by rw[e];exact h)
theorem IJ{o:Option Nat}:∀b,ZC F [o] b→¬F b∧some b≠o:=fun _ h=>⟨h.1,fun e=>h.2 (by rw[e];exact List.mem_singleton_self _)⟩
end
theorem Ov{F:Nat→Prop}{B L:List (Option Nat)}{n:Nat}{Z Z':Nat→Prop}(h:∀b,Z b→Z' b):∀b,ZZ F B Z n L b→ZZ F B Z' n L b:=fun b a=>a.imp (fun⟨h1,c,h3⟩=>⟨h1,h b c,h3⟩) id
def I3{α:Type}(e:D5 α)(w:World)(Z:Nat→Prop)(A:Option Addr)(c:Nat)(xs:List α):Prop:=
 xs.length≤c∧(A=none→c=0)∧∃Bh,R2 e w Z Bh xs∧Rz w ZA A Bh.flatten
section
variable{α:Type}{e:D5 α}{t:TypeId}{n0:Nat}{w w':World}{Z Z':Nat→Prop}{A:Option Addr}{c:Nat}{xs:List α}
theorem I3.ext(h:I3 e w Z A c xs)(g:Ext w w')(hm:Mv w Z w' Z'):I3 e w' Z' A c xs:=⟨h.1,h.2.1,h.2.2.imp fun _ h=>⟨h.1.mv hm,h.2.mv (Ah g)⟩⟩
theorem AL.n(h:AL e t n0 w Z A c xs):I3 e w Z A c xs:=by
 have a:=h.all;obtain⟨Bh,h3,b⟩:=h;refine⟨a.1,a.2.1,Bh,h3,?_⟩;have d:=b.rd;exact Na d fun _ _ _=>trivial
theorem Sl.n(h:Sl e w Z A c xs):I3 e w Z A c xs:=⟨h.1,h.2.1,h.2.2.imp fun _ h=>⟨h.1,h.2.mv Kg⟩⟩
theorem Sl.HL(a:∀w Z w' Z' cs x,e.R w Z cs x→e.R w' Z' cs x)(h:Sl e w Z A c xs):I3 e w Z' A c xs:=⟨h.1,h.2.1,h.2.2.imp fun _ h=>⟨h.1.free a,h.2.mv Kg⟩⟩
theorem AL.HL(a:∀w Z w' Z' cs x,e.R w Z cs x→e.R w' Z' cs x)(h:AL e t n0 w Z A c xs):I3 e w Z' A c xs:=h.all.HL a
end
section
variable{P:Program}{a:Act}{w:World}{dst:Option Tmp}{ty:TypeId}{pos:String}{B6:Array Edge}{g:Option (Nat×Bool)}
theorem Gi{α:Type}{e:D5 α}{s x:Operand}{t j:TypeId}{z:Value}{sz bytes:Nat}(ht:P.underlying t=some (.slice j))(hi:(P.info? j).map (fun i=>(i.zero,i.size,i.bytes))=some (some z,sz,bytes))(l:z.cells.size=sz)(m:e.sz=sz)(h0:0<sz)
  {n0:Nat}{Z:Nat→Prop}{A B:Option Addr}{c d n:Nat}{xs ys:List α}(u:a.eval s=.slice A n c)(y:xs.length=n)(aA:a.eval x=.slice B ys.length d)(h:AL e j n0 w Z A c xs)(hy:I3 e w Z B d ys)
  (o:xs.length+ys.length≤maxLen)(b:(xs.length+ys.length)*bytes≤140737488355328)(f:n0≤w.heap.size):
  BL P ⟨dst,.call {callee:=.builtin .append,args:= #[s,x],argTypes:= #[t,t]},ty,pos,B6,g⟩ a w (fun v w'=>∃r aB,v=.slice r (xs++ys).length aB∧w.grownBy w' (ob A)∧(∀k,ob r=some k→(ob A=some k∨w.heap.size≤k)∧k<w'.heap.size)∧
   ∃Bh p,R2 e w Z Bh xs∧R2 e w Z p ys∧DV w' n0 j e.sz r (xs++ys).length aB (Bh++p).flatten):=by
 by_cases q:ys=[]
 ·refine Tt ht hi l m h0 u y aA h ?_ o b f;subst q;exact⟨hy.1,hy.2.1,[],trivial,.inl rfl⟩
 ·obtain⟨_,_,Bh,h1,aC⟩:=hy;exact Kh ht hi l m h0 u y aA h ⟨Bh,h1,aC⟩ o b f q
end
section
variable{α:Type}{e:D5 α}{t:TypeId}{n0:Nat}{w w':World}{Z Z':Nat→Prop}{A:Option Addr}{c:Nat}{xs:List α}
theorem AL.Pe(a:∀w Z w' Z' cs x,e.R w Z cs x→e.R w' Z' cs x)(h:AL e t n0 w Z A c xs):AL e t n0 w Z' A c xs:=by
 obtain⟨Bh,h1,b⟩:=h;exact⟨Bh,h1.free a,b⟩
theorem AL.Pf(h:AL e t n0 w Z A c xs):A=none→c=0:=h.all.2.1
theorem AL.keep(h:AL e t n0 w Z A c xs)(hm:Mv w Z w' Z')(d:∀k,ob A=some k→w'.heap[k]?=w.heap[k]?):AL e t n0 w' Z' A c xs:=by
 obtain⟨Bh,h1,a⟩:=h;refine⟨Bh,h1.mv hm,a.1,a.2.imp id ?_⟩;rintro⟨b,cap,cur,f,h3,g,i⟩;cases f;exact⟨b,_,cur,rfl,h3,(d b rfl).trans g,i⟩
end
def CI{α:Type}(xs:List α)(l h:Int):List α:=(xs.take h.toNat).drop l.toNat
def Nn(n:Nat)(l h:Int):Option Unit:=if 0≤l∧l≤h∧h≤(n:Int) then some () else none
theorem Mx{α:Type}{n:Nat}{l h:Int}{f:Unit→Option α}{r:α}(a:(Nn n l h).bind f=some r):(0≤l∧l≤h∧h≤(n:Int))∧f ()=some r:=by
 unfold Nn at a;split at a
 ·exact⟨by assumption,a⟩
 ·cases a
def SB(a:Act)(o:Option Operand)(v d:Int):Prop:=(o=none∧v=d)∨∃x k,o=some x∧a.eval x=.int k v
theorem Tu{a:Act}{d:Int}:SB a none d d:=.inl ⟨rfl,rfl⟩
theorem Tv{a:Act}{x:Operand}{k:IntKind}{v d:Int}(h:a.eval x=.int k v):SB a (some x) v d:=.inr ⟨x,k,rfl,h⟩
theorem JK{P:Program}(w:World)(k:IntKind)(i:Int)(y:Nat)(code:BoundsCode)(h0:0≤i)(h1:i≤(y:Int)):(Instr.sliceBound (.int k i) y code).run P w=.ok i.toNat w:=by
 simp[Instr.sliceBound,asIntOf,h0,h1]
section
variable{P:Program}{a:Act}{w:World}{dst:Option Tmp}{ty:TypeId}{pos:String}{B6:Array Edge}{g:Option (Nat×Bool)}
theorem PU{α:Type}{e:D5 α}{Z:Nat→Prop}{xs:List α}{t v:TypeId}{sz:Nat}{x:Operand}{A:Option Addr}{c:Nat}{lo hi:Option Operand}{l h:Int}(ht:P.underlying t=some (.slice v))(aI:(P.info? v).map (·.size)=some sz)(z:e.sz=sz)
  (aJ:a.eval x=.slice A xs.length c)(i:SB a lo l 0)(aA:SB a hi h xs.length)(aK:Sl e w Z A c xs)(aL:0≤l∧l≤h∧h≤(xs.length:Int)):
  BL P ⟨dst,.slice t x lo hi none,ty,pos,B6,g⟩ a w (fun u w'=>(∃aB aC,u=.slice aB (CI xs l h).length aC∧Sl e w Z aB aC (CI xs l h))∧w'=w):=by
 subst z;obtain⟨aR,m,Bh,n,h3⟩:=aK;obtain⟨aS,aT,aU⟩:=aL;have hlen:(CI xs l h).length=h.toNat-l.toNat:=by
  unfold CI;rw[List.length_drop,List.length_take];omega
 have p:(Instr.sliceAt t (.slice A xs.length c) (lo.map a.eval) (hi.map a.eval) none).run P w=.ok (.slice (if c=l.toNat then A else A.map (·.add (l.toNat*e.sz))) (h.toNat-l.toNat) (c-l.toNat)) w:=by
  have aM:(Instr.sliceBounds true xs.length c (lo.map a.eval) (hi.map a.eval) none).run P w=.ok (l.toNat,h.toNat,c) w:=by
   unfold Instr.sliceBounds;rcases aA with⟨rfl,rfl⟩|⟨y,k,rfl,hy⟩
   ·rcases i with⟨rfl,rfl⟩|⟨aN,k',rfl,d⟩
    ·simp
    ·simp[d,JK w k' l xs.length _ (by omega) (by omega)]
   ·have aD:=fun code=>JK (P:=P) w k h c code (by omega) (by omega);rcases i with⟨rfl,rfl⟩|⟨aN,k',rfl,d⟩
    ·simp[hy,aD]
    ·simp[hy,d,aD,JK w k' l h.toNat _ (by omega) (by omega)]
  simp[Instr.sliceAt,Instr.slice,underlying,program,Sem.run,ht,aM,IA aI]
 refine(RX aJ rfl rfl p).mono ?_;rintro u w' ⟨rfl,rfl⟩;refine⟨⟨_,_,by rw[hlen],?_⟩,rfl⟩;have q:=(n.take h.toNat).drop l.toNat;have aE:((Bh.take h.toNat).drop l.toNat).flatten=[]∨(0<e.sz∧l.toNat<h.toNat):=by
  rcases Nat.eq_zero_or_pos e.sz with h0|h0
  ·left;exact List.eq_nil_of_length_eq_zero (by rw[q.IG,h0,Nat.mul_zero])
  ·rcases Nat.lt_or_ge l.toNat h.toNat with r|r
   ·exact .inr ⟨h0,r⟩
   ·left;exact List.eq_nil_of_length_eq_zero (by rw[q.IG,List.length_drop,List.length_take,show min h.toNat xs.length-l.toNat=0 by omega,Nat.zero_mul])
 refine⟨by rw[hlen];omega,fun s=>?_,_,q,?_⟩
 ·split at s
  ·have:=m s;omega
  ·have:=m (by simpa using s);omega
 ·rcases aE with h0|⟨h0,r⟩
  ·exact .inl h0
  ·rcases h3 with aO|⟨b,o,rfl,aP,aF,f⟩
   ·left;have aG:=n.IG;rw[aO] at aG;simp only[List.length_nil] at aG;have aV:0<xs.length*e.sz:=Nat.mul_pos (by omega) h0;omega
   ·right;have aH:¬c=l.toNat:=by omega
    refine⟨b,o+l.toNat*e.sz,by simp[aH,Fq],aP,aF,fun j u hu=>?_⟩;rw[Nat.add_assoc];refine f _ _ ?_;rw[←(n.take h.toNat).RF h0,List.getElem?_drop] at hu;have aQ:Bh.flatten=(Bh.take h.toNat).flatten++(Bh.drop h.toNat).flatten:=by rw[←List.flatten_append,List.take_append_drop]
    rw[aQ,List.getElem?_append_left (List.getElem?_eq_some_iff.1 hu).1];exact hu
end
def Kl(n:Int)(b:Nat):Option Unit:=if 0≤n∧n*b≤140737488355328∧n≤140737488355328 then some () else none
theorem Hs{α:Type}{n:Int}{b:Nat}{f:Unit→Option α}{r:α}(h:(Kl n b).bind f=some r):(0≤n∧n*b≤140737488355328∧n≤140737488355328)∧f ()=some r:=by
 unfold Kl at h;split at h
 ·exact⟨by assumption,h⟩
 ·cases h
theorem Km(z:Array Value):∀m:Nat,(madeCells z (m*z.size)).toList=(List.replicate m z.toList).flatten
 |0=>by simp[madeCells]
 |m+1=>by
  have ih:=Km z m;have e:∀k,(madeCells z k).toList=(List.range k).map (z[· %z.size]!):=fun k=>by simp[madeCells]
  rw[e] at ih⊢;rw[Nat.add_mul,Nat.one_mul,List.range_add,List.map_append,ih,List.replicate_succ',List.flatten_append]
  congr 1
  simp only[List.map_map,List.flatten_cons,List.flatten_nil,List.append_nil];refine List.ext_getElem (by simp) fun i h1 a=>?_;simp only[List.getElem_map,List.getElem_range,Function.comp];have hi:i<z.size:=by simpa using a
  rw[Nat.add_comm,Nat.add_mul_mod_self_right,Nat.mod_eq_of_lt hi];simp[hi]
theorem R2.Va{α:Type}{e:D5 α}{w:World}{Z:Nat→Prop}{c:List Value}{x:α}(h:e.R w Z c x):∀m:Nat,R2 e w Z (List.replicate m c) (List.replicate m x)
 |0=>trivial
 |m+1=>⟨h,R2.Va h m⟩
section
variable{P:Program}{a:Act}{w:World}{dst:Option Tmp}{ty:TypeId}{pos:String}{B6:Array Edge}{g:Option (Nat×Bool)}
theorem HX{α:Type}{e:D5 α}{z:α}{zc:List Value}{n0:Nat}{t j:TypeId}{d:Value}{sz bytes:Nat}{n:Int}{x y:Operand}{m o:IntKind}{b':Nat}(ht:P.underlying t=some (.slice j))(hi:(P.info? j).map (fun i=>(i.zero,i.size,i.bytes))=some (some d,sz,bytes))
  (p:d.cells.toList=zc)(c:e.sz=sz)(aB:a.eval x=.int m n)(hy:a.eval y=.int o n)(hm:0≤n∧n*b'≤140737488355328∧n≤140737488355328)(q:∀w Z,e.R w Z zc z)(aC:n0≤w.heap.size)(aF:bytes≤b'):
  BL P ⟨dst,.makeSlice t x y,ty,pos,B6,g⟩ a w (fun u w'=>∃b,u=.slice (some ⟨b,0,none⟩) (List.replicate n.toNat z).length n.toNat∧w.heap.size≤b∧b<w'.heap.size∧Ext w w'∧∀Z,AL e j n0 w' Z (some ⟨b,0,none⟩) n.toNat (List.replicate n.toNat z)):=by
 subst p;subst c;cases f:P.info? j with
 |none=>simp[f] at hi
 |some i=>
  rw[f] at hi;simp only[Option.map_some,Option.some.injEq,Prod.mk.injEq] at hi;obtain⟨h1,r,h3⟩:=hi;obtain⟨s,aG,aH⟩:=hm;have v:d.cells.toList.length=e.sz:=e.len (q w ZA);have c:d.cells.size=e.sz:=by simpa using v
  have aA:(i.bytes:Int)*n≤281474976710656:=by
   rw[h3];have aD:(bytes:Int)*n≤(b':Int)*n:=Int.mul_le_mul_of_nonneg_right (by omega) s;rw[Int.mul_comm (b':Int)] at aD;omega
  have aE:=run_make (P:=P) w t j i d ht f h1 m o n n s (Int.le_refl _) aA (by omega);refine(IX (S:=Instr.makeSlice t (a.eval x) (a.eval y)) rfl (by rw[aB,hy];exact aE)).mono fun u w' h=>?_;obtain⟨rfl,rfl⟩:=h;have l:=Ii w j (madeCells d.cells (n.toNat*i.size));refine⟨w.heap.size,by rw[List.length_replicate],Nat.le_refl _,by rw[l.sz];exact Nat.lt_succ_self _,l.gr,fun Z=>⟨_,R2.Va (q _ Z) n.toNat,?_⟩⟩;rw[List.length_replicate];have k:(List.replicate n.toNat d.cells.toList).flatten.length=n.toNat*e.sz:=by rw[←Km,←c];simp[size_madeCells]
  refine⟨k,.inr ⟨w.heap.size,n.toNat,_,rfl,aC,l.bk,Nat.le_refl _,by simp only[maxLen];omega,by rw[size_madeCells,r],?_⟩⟩;rw[r,←c,Km,List.take_of_length_le (by rw[k,c];exact Nat.le_refl _)]
end
def Ko:Int⊕Bool→Value
 |.inl n=>.int .i64 n
 |.inr b=>.bool b
def LD(l:List (Int⊕Bool)):Value:=.agg (l.map Ko).toArray
def K5:Int⊕Bool→Bool
 |.inl _=>true
 |.inr _=>false
def HM:List (Int⊕Bool)→List (Int⊕Bool)→Bool
 |[],[]=>true
 |.inl a::l,.inl b::m=>a==b&&HM l m
 |.inr a::l,.inr b::m=>a==b&&HM l m
 |_,_=>false
def QU(P:Program)(t:TypeId)(a:List Bool):Prop:=∀(w:World) (x y:List (Int⊕Bool)),x.map K5=a→y.map K5=a→(Op.equal t (LD x) (LD y)).run P w=.ok (HM x y) w
def L4(a b:TypeId):Nat→List Field→List Bool→Bool
 |_,[],[]=>true
 |i,f::c,k::d=>f.name !="_"&&Nat.beq f.type (cond k a b)&&Nat.beq f.offset i&&L4 a b (i+1) c d
 |_,_,_=>false
section
variable{P:Program}{w:World}
theorem JL{e:TypeId}(he:One P e){cs:Array Value}{i:Nat}{v:Value}(h:cs[i]?=some v):(part e cs i).run P w=.ok v w:=by
 simp only[part,Sem.run_bind,Ja he,Result.andThen_ok,h];rfl
theorem My{j l:TypeId}(h1:One P j)(u1:P.underlying j=some (.int .i64))(t:One P l)(u:P.underlying l=some .bool)(d:Nat):∀(o:List Field) (b:List Bool) (x y a c:List (Int⊕Bool)),a.length=c.length→L4 j l a.length o b=true→x.map K5=b→y.map K5=b→
  (Op.eqFields (d+1) ((a++x).map Ko).toArray ((c++y).map Ko).toArray o).run P w=.ok (HM x y) w
 |[],[],[],[],_,_,_,_,_,_=>by simp[Op.eqFields,HM]
 |[],_::_,_,_,_,_,_,h,_,_=>by simp[L4] at h
 |_::_,[],_,_,_,_,_,h,_,_=>by simp[L4] at h
 |[],[],_::_,_,_,_,_,_,h,_=>by simp at h
 |[],[],_,_::_,_,_,_,_,_,h=>by simp at h
 |_::_,_::_,[],_,_,_,_,_,h,_=>by simp at h
 |_::_,_::_,_,[],_,_,_,_,_,h=>by simp at h
 |f::o,k::b,e::x,g::y,a,c,v,z,p,hy=>by
  simp only[L4,Bool.and_eq_true] at z;obtain⟨⟨⟨r,ht⟩,s⟩,aC⟩:=z;have r:f.name≠"_":=by simpa using r
  have ht:=Nat.eq_of_beq_eq_true ht;have s:=Nat.eq_of_beq_eq_true s;simp only[List.map_cons,List.cons.injEq] at p hy;have ih:=My h1 u1 t u d o b x y (a++[e]) (c++[g]) (by simp[v]) (by simpa using aC) p.2 hy.2;rw[List.append_assoc,List.append_assoc] at ih;simp only[List.singleton_append] at ih;have aA:((a++e::x).map Ko).toArray[f.offset]?=some (Ko e):=by rw[s];simp
  have aB:((c++g::y).map Ko).toArray[f.offset]?=some (Ko g):=by rw[s,v];simp
  cases k with
  |true=>
   cases e with
   |inr _=>simp[K5] at p
   |inl m=>
    cases g with
    |inr _=>simp[K5] at hy
    |inl n=>
     have ht:f.type=j:=ht;have i:One P f.type:=by rw[ht];exact h1
     have q:=run_equalIn_int (P:=P) w d f.type .i64 .i64 m n (by rw[ht];exact u1);simp only[Op.eqFields,r,ne_eq,not_false_eq_true,if_true,Sem.run_bind,JL i aA,JL i aB,Ko,q,Result.andThen_ok,HM];cases aD:(m==n)
     ·simp
     ·simpa using ih
  |false=>
   cases e with
   |inl _=>simp[K5] at p
   |inr m=>
    cases g with
    |inl _=>simp[K5] at hy
    |inr n=>
     have ht:f.type=l:=ht;have i:One P f.type:=by rw[ht];exact t
     have q:=run_equalIn_bool (P:=P) w d f.type m n (by rw[ht];exact u);simp only[Op.eqFields,r,ne_eq,not_false_eq_true,if_true,Sem.run_bind,JL i aA,JL i aB,Ko,q,Result.andThen_ok,HM];cases aD:(m==n)
     ·simp
     ·simpa using ih
theorem Og{K c d:Nat}{a:Array Field}{e:List Bool}(hK:P.underlying K=some (.struct a))(f:P.stoodInHeld K=false)(g:L4 c d 0 a.toList e=true)(h1:One P c)(u1:P.underlying c=some (.int .i64))(i:One P d)(j:P.underlying d=some .bool):QU P K e:=by
 intro w x y l hy;have b:P.fieldsOf K=a:=by simp[Program.fieldsOf,hK]
 have h:=run_equalIn_struct (P:=P) w 9999 K (x.map Ko).toArray (y.map Ko).toArray (by rw[b];exact hK) f;have k:=My (P:=P) (w:=w) h1 u1 i j 9998 a.toList e x y [] [] rfl g l hy;simp only[List.nil_append] at k;rw[b,k] at h;exact h
end
section
variable{P:Program}{a:Act}{w:World}{dst:Option Tmp}{ty:TypeId}{pos:String}{B6:Array Edge}{g:Option (Nat×Bool)}
theorem Pg{x y:Operand}{v1 v2:Value}{x1 x2:List (Int⊕Bool)}{b:List Bool}{t d:TypeId}(e:QU P t b)(c:P.eqGuardType P.depth t=false)(f:a.eval x=v1)(hy:a.eval y=v2)(h1:v1=LD x1)(h:v2=LD x2)(i:x1.map K5=b)(j:x2.map K5=b):
  BL P ⟨dst,.binOp .eql t x y d,ty,pos,B6,g⟩ a w (fun u w'=>u=.bool (HM x1 x2)∧w'=w):=by
 refine O6 f hy ?_;subst h1;subst h;have h3:=e w x1 x2 i j;have k:(eqGuard .eql t x y (LD x1) (LD x2)).run P w=.ok () w:=by
  simp[eqGuard,LD,program,Sem.run,c]
 simp only[Sem.run_bind,k,Result.andThen_ok];show(do pure (Value.bool (←Op.equal t (LD x1) (LD x2))):Sem Value).run P w=_;simp only[Sem.run_bind,h3,Result.andThen_ok,Sem.run_pure]
theorem RL{x y:Operand}{p q:Option Addr}{t u:TypeId}{b:Bool}(c:a.eval x=.pointer p)(hy:a.eval y=.pointer q)(d:(Op.equal t (.pointer p) (.pointer q)).run P w=.ok b w):BL P ⟨dst,.binOp .eql t x y u,ty,pos,B6,g⟩ a w (fun v w'=>v=.bool b∧w'=w):=
 Cv (by simp[execOp,c,hy,binOp,d,eqGuard])
theorem No {α:Type} {e:D5 α} {aA t:TypeId} {x y:Operand} {b o k p c:Nat} {v:Value} {n0:Nat} {Z:Nat→Prop} {A:Option Addr} {xs:List α} {z z':α} {l:List Value} {n:Nat}
  (aB:AL e aA n0 w Z A c xs) (aD:xs[k]?=some z) (aM:A=some ⟨b,o,none⟩) (aN:p=o+k*e.sz) (aO:a.eval x=.pointer (some ⟨b,p,none⟩)) (hy:a.eval y=v) (aP:(P.info? t).map (·.size)=some n) (aQ:v.cells.toList=l) (aR:l.length=n)
  (h1:∀u∈l,u.oneCell'=true) (aE:e.R w Z l z'):
  BL P ⟨dst,.store t x y,ty,pos,B6,g⟩ a w (fun _ w'=>w.grownBy w' (ob A)∧∃Bh,R2 e w Z Bh (xs.set k z')∧DV w' n0 aA e.sz A (xs.set k z').length c Bh.flatten):=by
 obtain⟨Bh,f,aS⟩:=aB;obtain⟨a2,aW,aF,aX⟩:=f.get aD;have aY:=e.len aF;have aG:=e.len aE;subst aM;subst aN;have aH:k<xs.length:=(List.getElem?_eq_some_iff.1 aD).1;have hlen:=f.len;have h:=f.lens;rcases aS.2 with⟨aI,h0⟩|⟨a3,cap,cur,aI,aJ,aT,q,aK,aC,i⟩
 ·omega
 ·cases aI;have aZ:k*e.sz+e.sz≤xs.length*e.sz:=by
   have:(k+1)*e.sz≤xs.length*e.sz:=Nat.mul_le_mul_right _ aH;rw[Nat.add_mul,Nat.one_mul] at this;exact this
  have a0:xs.length*e.sz≤c*e.sz:=Nat.mul_le_mul_right _ q;have aL:Bk w b aA cur:=aT;refine(Bg (Ci:=setCells cur (0+k*e.sz) l) aO hy aP aL aQ aR (by omega) h1 rfl).mono ?_;rintro _ w' ⟨s1,s2,aU⟩;have d:=f.set aE k;refine⟨aU,_,d,by rw[d.IG],.inr ⟨b,c,setCells cur (0+k*e.sz) l,rfl,aJ,s2,by rw[List.length_set];exact q,aK,by rw[EF 0];exact aC,?_⟩⟩;rw[List.length_set];rcases Nat.eq_zero_or_pos e.sz with h0|h0
  ·have aV:(Bh.set k l).flatten=[]:=List.eq_nil_of_length_eq_zero (by rw[d.IG,h0,Nat.mul_zero]);rw[aV,h0,Nat.mul_zero,List.take_zero]
  ·refine List.ext_getElem? fun j=>?_;rw[Nj aG h0 k Bh j h (by omega),List.getElem?_take,Array.getElem?_toList,GD _ _ _ _ (by omega)];have r:∀j:Nat,Bh.flatten[j]?=if j<xs.length*e.sz then cur[j]? else none:=fun j=>by
    rw[←i,List.getElem?_take,Array.getElem?_toList]
   by_cases m:j<xs.length*e.sz
   ·rw[if_pos m]
    by_cases s:k*e.sz≤j∧j<k*e.sz+e.sz
    ·rw[if_pos (by omega),if_pos s,show j-(0+k*e.sz)=j-k*e.sz by omega]
    ·rw[if_neg (by omega),if_neg s,r,if_pos m]
   ·rw[if_neg m,if_neg (by omega),r,if_neg m]
theorem Gj{α:Type}{e:D5 α}{f t:TypeId}{x y:Operand}{b o k p c:Nat}{v:Value}{n0:Nat}{Z:Nat→Prop}{A:Option Addr}{xs:List α}{z z':α}{l:List Value}{n:Nat}
  (d:AL e f n0 w Z A c xs)(i:xs[k]?=some z)(j:A=some ⟨b,o,none⟩)(m:p=o+k)(q:a.eval x=.pointer (some ⟨b,p,none⟩))(hy:a.eval y=v)(r:(P.info? t).map (·.size)=some n)(s:v.cells.toList=l)(aA:l.length=n)
  (h1:∀u∈l,u.oneCell'=true)(aB:e.R w Z l z')(h:e.sz=1:=by rfl):
  BL P ⟨dst,.store t x y,ty,pos,B6,g⟩ a w (fun _ w'=>w.grownBy w' (ob A)∧∃Bh,R2 e w Z Bh (xs.set k z')∧DV w' n0 f e.sz A (xs.set k z').length c Bh.flatten):=
 No d i j (by rw[h,Nat.mul_one];exact m) q hy r s aA h1 aB
end
theorem Kp{l:List Int}{i:Nat}{x:Int}(h:l[i]?=some x):(l.map fun n=>Value.int .i64 n)[i]?=some (.int .i64 x):=by rw[List.getElem?_map,h];rfl
theorem AL.UH {α:Type} {e:D5 α} {t:TypeId} {n0:Nat} {w:World} {Z:Nat→Prop} {A:Option Addr} {c k:Nat} {xs:List α} {x:α} (h:AL e t n0 w Z A c xs) (h0:0<e.sz) (f:xs[k]?=some x):
  ∃b o cs,A=some ⟨b,o,none⟩∧e.R w Z cs x∧Rz w ZA (some ⟨b,o+k*e.sz,none⟩) cs:=by
 obtain⟨Bh,h1,g⟩:=h;have p:Sl e w ZA A c xs:=AL.all (t:=t) (n0:=n0) (Z:=Z) ⟨Bh,h1,g⟩;obtain⟨b,o,Ci,i,s,z⟩:=p.elem h0 f;obtain⟨l,v,a,m⟩:=h1.get f;refine⟨b,o,l,i,a,?_⟩;have hlen:l.length=e.sz:=e.len a;have q:=g.rd;rcases q.2 with h3|⟨b',o',d,_,n,r⟩
 ·have:=h1.IG;rw[h3] at this;have y:k<xs.length:=(List.getElem?_eq_some_iff.1 f).1;have aA:0<xs.length*e.sz:=Nat.mul_pos (by omega) h0;simp at this;omega
 ·rw[i] at d;cases d;refine .inr ⟨b,_,rfl,trivial,n,fun j u hu=>?_⟩;rw[Nat.add_assoc];refine r _ _ ?_;rw[←m,List.getElem?_take] at hu;split at hu
  ·simpa using hu
  ·cases hu
theorem AL.GU{α:Type}{e:D5 α}{t:TypeId}{n0:Nat}{w:World}{Z:Nat→Prop}{A:Option Addr}{c k:Nat}{xs:List α}{x:α}(h:AL e t n0 w Z A c xs)(h1:e.sz=1)(d:xs[k]?=some x):
  ∃b o cs,A=some ⟨b,o,none⟩∧e.R w Z cs x∧Rz w ZA (some ⟨b,o+k,none⟩) cs:=by
 obtain⟨b,o,cs,f,h3,a⟩:=h.UH (by omega) d;rw[h1,Nat.mul_one] at a;exact⟨b,o,cs,f,h3,a⟩
def TC(w:World)(D:Nat→Prop)(M:World→Prop):Nat→World→Prop
 |0,w'=>Ext w w'
 |_+1,w'=>Bm D w w'∧M w'
section
variable{w w' Bj:World}{D:Nat→Prop}{M:World→Prop}{ph:Nat}
theorem F6(h:TC w D M ph w'):Bm D w w':=by
 cases ph with
 |zero=>exact Gf h
 |succ=>exact h.1
theorem BH(h:TC w D M ph w')(a:ph=0):Ext w w':=by subst a;exact h
theorem HN(c:∀a b,M a→Ext a b→M b)(h:TC w D M ph w')(g:Ext w' Bj):TC w D M ph Bj:=by
 cases ph with
 |zero=>exact Ext.trans h g
 |succ=>exact⟨(show Bm D w w' from h.1).trans (Gf g),c _ _ h.2 g⟩
theorem Im(h:TC w D M ph w')(a:ph=0)(g:Bm D w' Bj)(b:M Bj):TC w D M (ph+1) Bj:=by
 subst a;exact⟨(Gf h).trans g,b⟩
theorem Iw{r:Option Nat}(g:w.grownBy w' r):Bm (FU FN [r]) w w':=IH g fun k e=>.inr (by rw[e];exact List.mem_singleton_self _)
end
section
variable{F F':Nat→Prop}{B:List (Option Nat)}{w0 w w':World}{L M:List (Option Nat)}
theorem Hp.Ph{Z:Nat→Prop}{a:Nat}(h:Hp F B w0 L w)(c:w.heap.size≤a):Mv w' (ZZ FN [] FN a []) w' (ZZ F B Z w0.heap.size L):=G5 fun b d _=>by
 rcases d with⟨_,e,_⟩|⟨h1,_⟩
 ·exact e.elim
 ·refine .inr ⟨Nat.le_trans h.sz (Nat.le_trans c h1),fun hm=>?_⟩;have:=(h.lo b hm).1;omega
theorem Hp.RM{α:Type}{e:D5 α}{t:TypeId}{A:Option Addr}{c:Nat}{xs:List α}{Z Z':Nat→Prop}(h:Hp F B w0 L w)(b:∀w Z w' Z' cs x,e.R w Z cs x→e.R w' Z' cs x)(a:AL e t w.heap.size w' Z' A c xs):AL e t w0.heap.size w' Z A c xs:=
 AL.Pe b (a.base (n1:=w0.heap.size) fun k d=>Nat.le_trans h.sz (a.ge k d))
theorem Hp.LF{α:Type}{e:D5 α}{t:TypeId}{A:Option Addr}{c:Nat}{xs:List α}{Z a:Nat→Prop}(h:Hp F B w0 L w)(b:∀w Z w' Z' cs x,e.R w Z cs x→e.R w' Z' cs x)(d:AL e t w.heap.size w' a A c xs):Sl e w' (ZZ F B Z w0.heap.size L) A c xs:=
 (AL.Pe b d).sl fun k _ h0=>h.kn h0
theorem Hp.L5 (h:Hp F B w0 L w) (f:Hp F B w0 L w') {b:Nat} (p:w.heap.size≤b) (l:b<w'.heap.size):Hp F B w0 (some b::L) w':=by
 refine⟨f.ch,fun k a=>?_,?_,h.ff⟩
 ·rcases List.mem_cons.1 a with e|a
  ·cases e;exact⟨l,fun m=>absurd (h.ff _ m) (by have:=h.sz;omega),fun n=>absurd n (by have:=h.sz;omega)⟩
  ·exact f.lo k a
 ·have key:∀(j:Nat) (x:Nat),L[j]?=some (some x)→x≠b:=fun j x o e=>by
   have:=(h.lo x (List.mem_of_getElem? o)).1;omega
  intro i j x g hi c;cases i with
  |zero=>
   cases j with
   |zero=>exact g rfl
   |succ j=>
    have d:b=x:=by simpa using hi
    exact key j x (by simpa using c) d.symm
  |succ i=>
   cases j with
   |zero=>
    have d:b=x:=by simpa using c
    exact key i x (by simpa using hi) d.symm
   |succ j=>exact h.ap i j x (by omega) (by simpa using hi) (by simpa using c)
theorem FZ{Z:Nat→Prop}{n0:Nat}{b:Nat}(hm:Mv w (ZZ F B Z n0 L) w' (ZZ F B Z n0 L))(g:w.heap.size≤b):Mv w (ZZ F B Z n0 L) w' (ZZ F B Z n0 (some b::L)):=
 ⟨hm.size,fun k c d=>⟨(hm.stay k c d).1.imp id fun⟨h1,f⟩=>⟨h1,fun a=>by
  rcases List.mem_cons.1 a with e|a
  ·cases e;omega
  ·exact f a⟩,(hm.stay k c d).2⟩⟩
end
def Pj (w:World) (R:World→Value→World→Prop):JY Ext:=
 ⟨fun v a=>∃w1 w2,Ext w w1∧R w1 v w2∧Ext w2 a,fun _ _ _ ⟨w1,w2,h1,b,h3⟩ g=>⟨w1,w2,h1,b,Ext.trans h3 g⟩⟩
def I4(w:World)(R:World→Value→World→Prop)(a:World):Prop:=∃v w1 w2,Ext w w1∧R w1 v w2∧Ext w2 a
theorem HD{w:World}{R:World→Value→World→Prop}:∀a b,I4 w R a→Ext a b→I4 w R b:=fun _ _ ⟨v,w1,w2,h1,c,h3⟩ g=>⟨v,w1,w2,h1,c,Ext.trans h3 g⟩
def LG(_:World):Prop:=True
theorem Kq:∀a b,LG a→Ext a b→LG b:=fun _ _ _ _=>trivial
def Ht(n:Nat)(w:World):List Nat→Prop
 |[]=>True
 |b::l=>n≤b∧b<w.heap.size∧(l.all fun x=> !Nat.beq b x)=true∧Ht n w l
section
variable{F F':Nat→Prop}{B:List (Option Nat)}{w0 w w':World}{L M:List (Option Nat)}{Z:Nat→Prop}
theorem Ht.mem{n:Nat}:∀{l:List Nat},Ht n w l→∀b∈l,n≤b∧b<w.heap.size
 |[],_,_,h=>by cases h
 |x::l,h,b,a=>by
  rcases List.mem_cons.1 a with rfl|a
  ·exact⟨h.1,h.2.1⟩
  ·exact Ht.mem h.2.2.2 b a
theorem Ht.grow{n a:Nat}(b:a≤n)(c:w.heap.size≤w'.heap.size):∀{l:List Nat},Ht n w l→Ht a w' l
 |[],_=>trivial
 |_::_,h=>⟨Nat.le_trans b h.1,Nat.lt_of_lt_of_le h.2.1 c,h.2.2.1,Ht.grow b c h.2.2.2⟩
theorem Hp.Np(h:Hp F B w0 L w):∀{l:List Nat},Hp F B w0 L w'→Ht w.heap.size w' l→Hp F B w0 (l.map some++L) w'
 |[],c,_=>c
 |b::l,c,a=>by
  have d:=Hp.Np h c a.2.2.2;refine⟨d.ch,fun k f=>?_,?_,h.ff⟩
  ·rcases List.mem_cons.1 f with e|f
   ·cases e;exact⟨a.2.1,fun p=>absurd (h.ff _ p) (by have:=h.sz;have:=a.1;omega),fun n=>absurd n (by have:=h.sz;have:=a.1;omega)⟩
   ·exact d.lo k f
  ·have key:∀(j:Nat) (x:Nat),(l.map some++L)[j]?=some (some x)→x≠b:=fun j x q e=>by
    subst e;have hm:=List.mem_of_getElem? q;rcases List.mem_append.1 hm with hm|hm
    ·obtain⟨y,hy,e⟩:=List.mem_map.1 hm;cases e;have:=List.all_eq_true.1 a.2.2.1 x hy;rw[Nat.beq_refl] at this;cases this
    ·have:=(h.lo x hm).1;have:=a.1;omega
   intro i j x o hi g;cases i with
   |zero=>
    cases j with
    |zero=>exact o rfl
    |succ j=>
     have m:b=x:=by simpa using hi
     exact key j x (by simpa using g) m.symm
   |succ i=>
    cases j with
    |zero=>
     have m:b=x:=by simpa using g
     exact key i x (by simpa using hi) m.symm
    |succ j=>exact d.ap i j x (by omega) (by simpa using hi) (by simpa using g)
theorem Hp.L6(h:Hp F B w0 L w)(g:Ext w w'){l:List Nat}(a:Ht w.heap.size w' l):Hp F B w0 (l.map some++L) w':=h.Np (h.ext g) a
theorem E3{n0:Nat}{l:List Nat}(hm:Mv w (ZZ F B Z n0 L) w' (ZZ F B Z n0 L))(d:Ht w.heap.size w' l):Mv w (ZZ F B Z n0 L) w' (ZZ F B Z n0 (l.map some++L)):=
 ⟨hm.size,fun k c b=>⟨(hm.stay k c b).1.imp id fun⟨h1,f⟩=>⟨h1,fun a=>by
  rcases List.mem_append.1 a with a|a
  ·obtain⟨y,hy,e⟩:=List.mem_map.1 a;cases e;have:=(d.mem k hy).1;omega
  ·exact f a⟩,(hm.stay k c b).2⟩⟩
theorem Pk{b c:Nat}(f:w.heap.size≤b)(a:b<w'.heap.size)(g:w.heap.size≤c)(d:c<w'.heap.size)(e:b≠c):Ht w.heap.size w' [b,c]:=
 ⟨f,a,by
  have:Nat.beq b c=false:=by
   cases h:Nat.beq b c with
   |false=>rfl
   |true=>exact absurd (Nat.eq_of_beq_eq_true h) e
  simp[this],g,d,rfl,trivial⟩
theorem Hp.QV (h:Hp F B w0 L w):∀(l:List Nat) (c:List Nat),Gt L c (l.map some)→Jl c=true→(∀b∈l,w0.heap.size≤b)→Ht w0.heap.size w l
 |[],_,_,_,_=>trivial
 |b::l,[],a,_,_=>a.elim
 |b::l,j::c,a,e,d=>by
  simp only[Jl,Bool.and_eq_true] at e;refine⟨d b (List.mem_cons_self ..),(h.lo b (List.mem_of_getElem? a.1)).1,?_,h.QV l c a.2 e.2 fun x f=>d x (List.mem_cons_of_mem _ f)⟩;rw[List.all_eq_true];intro x f;cases i:Nat.beq b x with
  |false=>rfl
  |true=>
   have g:=Nat.eq_of_beq_eq_true i;subst g;have h1:=h.BB (F':=FN) j a.1 c e.1 a.2 (fun _ h=>h.elim);exact absurd (.inr (List.mem_map.2 ⟨b,f,rfl⟩)) h1
end
section
variable{P:Program}{N:Nat}{Q:Exit→Act→World→Prop}{a:Act}{l:Env}{w:World}
def L7(a:Act):Act:={a with defers:=[]}
theorem Kr(a:Act):∀l:Env,BV (L7 a) l=L7 (BV a l)
 |[]=>rfl
 |(d,v)::l=>by simp only[BV,Kr a l];rfl
theorem LH{D:Nat}{fn:Func}{R:Value→World→Prop}(c:w.heap[D]?=some (.deferred (some [])))(h:∀w',GM D w w'→LV X0 N (bodyPost P fn (fun e w'=>∃v,e=.returned v∧R v w')) .ret (L7 a) l w'):
  LV (X1 D) N (PM P fn R) .ret a l w:=fun s=>by
 have d:St X0 N (L7 a) l:=⟨s.sz,rfl,s.lt⟩;obtain⟨_,v,b,f⟩:=h _ (GN w D (.deferred none)) d;show LeavesInM Fence.wide 0 P fn _ _ (BV a l).defers .returning w;rw[Ds,show a.defers=mark D from s.df];refine⟨by simp,.inl ⟨D,_,rfl,run_takeDeferred c,?_⟩⟩;rw[Kr] at b;exact⟨v,b,f⟩
theorem Ow{D:Nat}{fn:Func}{R:Value→World→Prop}(c:w.heap[D]?=some (.deferred (some [])))(h:∀w',GM D w w'→LV X0 N (bodyPost P fn (fun e w'=>∃v,e=.returned v∧R v w')) .normal (L7 a) l w'):
  LV (X1 D) N (PM P fn R) .normal a l w:=fun s=>by
 have d:St X0 N (L7 a) l:=⟨s.sz,rfl,s.lt⟩;obtain⟨_,v,b,f⟩:=h _ (GN w D (.deferred none)) d;show LeavesInM Fence.wide 0 P fn _ _ (BV a l).defers .returning w;rw[Ds,show a.defers=mark D from s.df];refine⟨by simp,.inl ⟨D,_,rfl,run_takeDeferred c,?_⟩⟩;rw[Kr] at b;exact⟨v,b,f⟩
end
theorem Ox{α:Type}{b:Bool}{x:Option α}{r:α}(h:cond b none x=some r):b=false∧x=some r:=by
 cases b with
 |true=>cases h
 |false=>exact⟨rfl,h⟩
def C9(xs:List Int):List Int:=xs.mergeSort fun x y=>decide (x≤y)
theorem IK(xs:List Int):(C9 xs).length=xs.length:=List.length_mergeSort _
theorem PV{w:World}{Z:Nat→Prop}:∀{Bh:List (List Value)} {xs:List Int},R2 (Az .i64) w Z Bh xs→Bh.flatten=Co xs
 |[],[],_=>rfl
 |c::Bh,x::xs,h=>by
  have h1:c=[.int .i64 x]:=h.1;rw[List.flatten_cons,PV h.2,h1];rfl
 |[],_::_,h=>h.elim
 |_::_,[],h=>h.elim
theorem PW{w:World}{Z:Nat→Prop}:∀xs:List Int,R2 (Az .i64) w Z (xs.map fun x=>[.int .i64 x]) xs
 |[]=>trivial
 |_::xs=>⟨rfl,PW xs⟩
theorem QW(xs:List Int):(xs.map fun x=>[Value.int .i64 x]).flatten=Co xs:=by
 induction xs with
 |nil=>rfl
 |cons x xs ih=>rw[List.map_cons,List.flatten_cons,ih];rfl
theorem Pm{t:TypeId}{n0:Nat}{w:World}{Z:Nat→Prop}{A:Option Addr}{c:Nat}{xs:List Int}(h:AL (Az .i64) t n0 w Z A c xs):DV w n0 t 1 A xs.length c (Co xs):=by
 obtain⟨Bh,h1,a⟩:=h;rw[←PV h1];exact a
theorem KR{t:TypeId}{n0:Nat}{w:World}{Z:Nat→Prop}{A:Option Addr}{c:Nat}{xs:List Int}(h:DV w n0 t 1 A xs.length c (Co xs)):AL (Az .i64) t n0 w Z A c xs:=
 ⟨_,PW xs,by rw[QW];exact h⟩
theorem UI{α β:Type}{x:Option β}{f:α→Option β}{r:β}(h:Option.elim none x f=some r):x=some r:=h
theorem UJ{α β:Type}{a:α}{x:Option β}{f:α→Option β}{r:β}(h:Option.elim (some a) x f=some r):f a=some r:=h
theorem JM{F:Nat→Prop}{b:Nat}{L:List (Option Nat)}(h:¬F b∧some b∉L):¬F b∧some b∉L++[none]:=⟨h.1,fun hm=>by
 rcases List.mem_append.1 hm with h1|h1
 ·exact h.2 h1
 ·simp at h1⟩
theorem Bm.Oy{F:Nat→Prop}{C:List (Option Nat)}{o:Option Nat}{w w':World}(g:Bm (FU F (C++[o]++[none])) w w'):Bm (FU (FU F C) [o]) w w':=g.mono fun k h=>by
 rcases h with h|h
 ·exact .inl (.inl h)
 ·rcases List.mem_append.1 h with a|a
  ·rcases List.mem_append.1 a with h3|h3
   ·exact .inl (.inr h3)
   ·exact .inr h3
  ·simp at a
theorem Sl.RN{α β:Type}{e:D5 α}{ev:β→Value}{F:Nat→Prop}{B L:List (Option Nat)}{Z:Nat→Prop}{n0 r n:Nat}{w:World}{i:List (List Int×β)}{A:Option Addr}{c:Nat}{xs:List α}
  (j:∀w Z w' Z' cs x,e.R w Z cs x→e.R w' Z' cs x)(hm:Cp ev w r n i)(h:Sl e w (ZZ F B Z n0 L) A c xs):Sl e w (ZZ F B Z n0 (some r::L)) A c xs:=by
 obtain⟨h1,k,Bh,h3,d⟩:=h;refine⟨h1,k,Bh,h3.free j,?_⟩;rcases d with d|⟨b,o,m,p,q,f⟩
 ·exact .inl d
 ·cases g:Bh.flatten with
  |nil=>exact .inl rfl
  |cons u l=>
   rw[g] at f;refine .inr ⟨b,o,m,p.imp id fun⟨s,t⟩=>⟨s,fun a=>?_⟩,q,f⟩;rcases List.mem_cons.1 a with e|a
   ·cases e;obtain⟨es,y,v,_⟩:=hm;have:=f 0 u rfl;unfold World.cell? at this;simp[v] at this
   ·exact t a
section
variable{P:Program}{N:Nat}{a:Act}{l:Env}{w:World}
theorem Hu{fn:Func}{r1 r2 m:ResultVar}{v v' I8:Value}{R:Value→World→Prop}(g:fn.results= #[r1,r2,m])(h1:Nf P a l w r1 v)(p:Nf P a l w r2 v')(h3:Nf P a l w m I8)(h:R (.tuple #[v,v',I8]) w):
  LV X0 N (bodyPost P fn (fun e w'=>∃v,e=.returned v∧R v w')) .ret a l w:=fun s=>by
 refine bodyPost_ret (v:=.tuple #[v,v',I8]) ?_ (by rw[Ds,s.df]) ⟨_,rfl,h⟩;cases r1 with
 |tmp t0=>
  have d:(BV a l).tmps.getD t0 undef=v:=ee s h1;simp only[Array.getD_eq_getD_getElem?] at d;cases r2 with
  |tmp t1=>
   have c:(BV a l).tmps.getD t1 undef=v':=ee s p;simp only[Array.getD_eq_getD_getElem?] at c;cases m with
   |tmp t2=>
    have b:(BV a l).tmps.getD t2 undef=I8:=ee s h3;simp only[Array.getD_eq_getD_getElem?] at b;simp[results,g,d,c,b]
   |cell i t2=>
    obtain⟨f,j,k⟩:=h3;have b:(BV a l).tmps.getD i undef=.pointer (some f):=ee s j;simp only[Array.getD_eq_getD_getElem?] at b;simp[results,g,d,c,b,asAddr,k]
  |cell r t1=>
   obtain⟨n,t,o⟩:=p;have c:(BV a l).tmps.getD r undef=.pointer (some n):=ee s t;simp only[Array.getD_eq_getD_getElem?] at c;cases m with
   |tmp t2=>
    have b:(BV a l).tmps.getD t2 undef=I8:=ee s h3;simp only[Array.getD_eq_getD_getElem?] at b;simp[results,g,d,c,asAddr,o,b]
   |cell i t2=>
    obtain⟨f,j,k⟩:=h3;have b:(BV a l).tmps.getD i undef=.pointer (some f):=ee s j;simp only[Array.getD_eq_getD_getElem?] at b;simp[results,g,d,c,asAddr,o,b,asAddr,k]
 |cell x t0=>
  obtain⟨u,y,q⟩:=h1;have d:(BV a l).tmps.getD x undef=.pointer (some u):=ee s y;simp only[Array.getD_eq_getD_getElem?] at d;cases r2 with
  |tmp t1=>
   have c:(BV a l).tmps.getD t1 undef=v':=ee s p;simp only[Array.getD_eq_getD_getElem?] at c;cases m with
   |tmp t2=>
    have b:(BV a l).tmps.getD t2 undef=I8:=ee s h3;simp only[Array.getD_eq_getD_getElem?] at b;simp[results,g,d,asAddr,q,c,b]
   |cell i t2=>
    obtain⟨f,j,k⟩:=h3;have b:(BV a l).tmps.getD i undef=.pointer (some f):=ee s j;simp only[Array.getD_eq_getD_getElem?] at b;simp[results,g,d,asAddr,q,c,b,asAddr,k]
  |cell r t1=>
   obtain⟨n,t,o⟩:=p;have c:(BV a l).tmps.getD r undef=.pointer (some n):=ee s t;simp only[Array.getD_eq_getD_getElem?] at c;cases m with
   |tmp t2=>
    have b:(BV a l).tmps.getD t2 undef=I8:=ee s h3;simp only[Array.getD_eq_getD_getElem?] at b;simp[results,g,d,asAddr,q,c,asAddr,o,b]
   |cell i t2=>
    obtain⟨f,j,k⟩:=h3;have b:(BV a l).tmps.getD i undef=.pointer (some f):=ee s j;simp only[Array.getD_eq_getD_getElem?] at b;simp[results,g,d,asAddr,q,c,asAddr,o,b,asAddr,k]
end
theorem Tw{w w':World}{Z Z' Q:Nat→Prop}(h:Mv w Z w' Z'):Mv w (fun b=>Z b∧Q b) w' (fun b=>Z' b∧Q b):=⟨h.size,fun b a c=>⟨⟨(h.stay b a.1 c).1,a.2⟩,(h.stay b a.1 c).2⟩⟩
def eF(n:Nat):D5 (Bool×List Int):=
 ⟨1,fun w Z cs x=>∃A c,cs=[.slice A x.2.length c]∧Sl (Az .i64) w (fun b=>Z b∧(x.1=true→n≤b)) A c x.2,fun⟨_,_,h,_⟩=>by rw[h];rfl,fun⟨_,_,h,_⟩=>by rw[h];simp[Value.oneCell'],
  fun⟨A,c,h1,a⟩ g=>⟨A,c,h1,a.mv (Tw g)⟩⟩
theorem Tx{n:Nat}{w:World}{Z:Nat→Prop}:∀{Bh:List (List Value)} {xs:List (List Int)},R2 (BA (Az .i64)) w Z Bh xs→R2 (eF n) w Z Bh (xs.map fun x=>(false,x))
 |[],[],_=>trivial
 |_::_,_::_,⟨⟨A,c,h1,a⟩,h⟩=>⟨⟨A,c,h1,a.mv (G5 fun _ b _=>⟨b,fun e=>by cases e⟩)⟩,Tx h⟩
 |[],_::_,h=>h.elim
 |_::_,[],h=>h.elim
theorem Ty{n:Nat}{w:World}{Z:Nat→Prop}:∀{Bh:List (List Value)} {xs:List (Bool×List Int)},(∀y∈xs,y.1=true)→R2 (eF n) w Z Bh xs→R2 (BA (Az .i64)) w (fun b=>n≤b) Bh (xs.map Prod.snd)
 |[],[],_,_=>trivial
 |_::_,x::_,ht,⟨⟨A,c,h1,a⟩,h⟩=>⟨⟨A,c,h1,a.mv (G5 fun _ d _=>d.2 (ht x (List.mem_cons_self ..)))⟩,Ty (fun y hy=>ht y (List.mem_cons_of_mem _ hy)) h⟩
 |[],_::_,_,h=>h.elim
 |_::_,[],_,h=>h.elim
theorem UK{t n0 n:Nat}{w:World}{Z:Nat→Prop}{A:Option Addr}{c:Nat}{xs:List (List Int)}(h:AL (BA (Az .i64)) t n0 w Z A c xs):AL (eF n) t n0 w Z A c (xs.map fun x=>(false,x)):=by
 obtain⟨Bh,h1,a⟩:=h;exact⟨Bh,Tx h1,by rw[List.length_map];exact a⟩
theorem UL{t n0 n:Nat}{w:World}{Z:Nat→Prop}{A:Option Addr}{c:Nat}{xs:List (Bool×List Int)}(ht:∀y∈xs,y.1=true)(h:AL (eF n) t n0 w Z A c xs):AL (BA (Az .i64)) t n0 w (fun b=>n≤b) A c (xs.map Prod.snd):=by
 obtain⟨Bh,h1,a⟩:=h;exact⟨Bh,Ty ht h1,by rw[List.length_map];exact a⟩
theorem Tz{a:List (Bool×List Int)}{k:Nat}{x:List Int}(h:(a.map Prod.snd)[k]?=some x):∃b,a[k]?=some (b,x):=by
 rw[List.getElem?_map] at h;cases c:a[k]? with
 |none=>rw[c] at h;cases h
 |some y=>rw[c] at h;cases h;exact⟨y.1,rfl⟩
end Go.Proofs.YtkljfdkmjdjpfaaGreat
end
section
namespace Go.Proofs.YtkljfdkmjdjpfaaGreat
open Go.RowKit
theorem GZ{b:Nat}{t:TypeId}:∀(l:List Value) (o:Nat) {w:World} {cs:Array Value},Bk w b t cs→Bk (w.setCells b o l) b t (setCells cs o l)∧w.grownBy (w.setCells b o l) (some b)
 |[],o,w,cs,h=>⟨h,World.grownBy.refl w _⟩
 |v::l,o,w,cs,h=>by
  have c:Bk (w.setCell ⟨b,o,none⟩ v) b t (cs.setIfInBounds o v):=by
   unfold Bk at h⊢;simp[World.setCell,Array.getElem?_modify,h]
  have g1:GM b w (w.setCell ⟨b,o,none⟩ v):=⟨rfl,rfl,rfl,by simp,fun k _ a=>Below.heap_setCell w ⟨b,o,none⟩ v k (by simpa using a)⟩;have ih:=GZ l (o+1) c;exact⟨ih.1,World.grownBy.trans g1 ih.2⟩
def CM (xs:List Int) (i:Int) (x:Int):List Int:=xs.take i.toNat++x::xs.drop i.toNat
theorem K6(xs:List Int)(i:Int)(x:Int):(CM xs i x).length=xs.length+1:=by
 unfold CM;simp;omega
theorem QX{w w':World}{b:Nat}{o:Obj}(a:b=w.heap.size)(g:World.grownBy (w.alloc o) w' (some b)):Ext w w':=
 ⟨g.os,g.tape,g.output,by have:=g.size;simp at this;omega,fun k c _=>by
  have h1:=g.block k (by simp;omega) (by rw[a];intro e;cases e;omega);rw[h1];exact(World.grownBy_alloc w o none).block k c (by simp)⟩
theorem Io{w:World}{base t g c:Nat}{cur:Array Value}{l:List Value}(a:base≤g)(d:Bk w g t cur)(e:l.length≤c)(f:c≤maxLen)(i:cur.size=c)(h:∀j,j<l.length→cur[j]?=l[j]?):DV w base t 1 (some ⟨g,0,none⟩) l.length c l:=by
 refine⟨by simp,.inr ⟨g,c,cur,rfl,a,d,e,f,by simp[i],?_⟩⟩;rw[Nat.mul_one];apply List.ext_getElem?;intro j;rw[List.getElem?_take];split
 ·rename_i b
  rw[←h j b];simp
 ·rename_i b
  rw[List.getElem?_eq_none (by omega)]
theorem TA{b:Bool}(h:b=true→False):b=false:=by cases b<;>simp_all
theorem Jc{b:Bool}(h:b=false)(k:b=true):False:=by rw[h] at k;cases k
section
variable{F F':Nat→Prop}{B:List (Option Nat)}{w0 w w' Bj:World}{Z:Nat→Prop}{L M:List (Option Nat)}
theorem IL(h:Ext w w'){r:Option Nat}(g:w'.grownBy Bj r)(b:∀k,r=some k→w.heap.size≤k):Ext w Bj:=
 ⟨g.os.trans h.os,g.tape.trans h.tape,g.output.trans h.output,Nat.le_trans h.size g.size,fun k a _=>(g.block k (Nat.lt_of_lt_of_le a h.size) (fun e=>by have:=b k e.symm;omega)).trans (h.block k a (by simp))⟩
theorem IM{D:Nat→Prop}(h:Bm D w w'){r:Option Nat}(g:w'.grownBy Bj r)(c:∀k,r=some k→D k∨w.heap.size≤k):Bm D w Bj:=
 ⟨g.os.trans h.os,g.tape.trans h.tape,g.output.trans h.output,Nat.le_trans h.size g.size,fun k a b=>(g.block k (Nat.lt_of_lt_of_le a h.size) (fun e=>by
  rcases c k e.symm with h1|h1
  ·exact b h1
  ·omega)).trans (h.block k a b)⟩
theorem F2{x y:Option Nat}{n:Nat}(a:∀k,x=some k→n≤k)(b:n≤w'.heap.size)(hy:∀k,y=some k→(x=some k∨w'.heap.size≤k)∧k<Bj.heap.size):∀k,y=some k→n≤k:=fun k c=>
 (hy k c).1.elim (a k) (fun h=>Nat.le_trans b h)
theorem QY{x y a:Option Nat}{n:Nat}(b:∀k,x=some k→a=some k∨n≤k)(c:n≤w'.heap.size)(hy:∀k,y=some k→(x=some k∨w'.heap.size≤k)∧k<Bj.heap.size):∀k,y=some k→a=some k∨n≤k:=fun k d=>
 (hy k d).1.elim (b k) (fun h=>.inr (Nat.le_trans c h))
theorem IN{b:Nat}{t:TypeId}{cs:Array Value}(nb:I9 w' Bj b t cs):∀k,ob (some ⟨b,0,none⟩)=some k→((none:Option Nat)=some k∨w'.heap.size≤k)∧k<Bj.heap.size:=fun k e=>by
 cases e;exact⟨.inr (Nat.le_of_eq nb.En.symm),nb.bk.lt⟩
theorem TB{α:Type}{e:D5 α}{t:TypeId}{A:Option Addr}{c:Nat}{xs:List α}{Z:Nat→Prop}(h:AL e t w'.heap.size Bj Z A c xs):∀k,ob A=some k→((none:Option Nat)=some k∨w'.heap.size≤k)∧k<Bj.heap.size:=fun k e=>⟨.inr (h.ge k e),h.JZ k e⟩
end
def eT:D5 (Bool×(Option Addr×Nat)×List Int):=
 ⟨1,fun w Z cs x=>∃A c,cs=[.slice A x.2.2.length c]∧(x.1=true→A=x.2.1.1∧c=x.2.1.2)∧(x.1=false→Sl (Az .i64) w Z A c x.2.2),fun⟨_,_,h,_⟩=>by rw[h];rfl,fun⟨_,_,h,_⟩=>by rw[h];simp[Value.oneCell'],
  fun⟨A,c,h1,a,h3⟩ g=>⟨A,c,h1,a,fun e=>(h3 e).mv g⟩⟩
theorem TD{w:World}{Z:Nat→Prop}:∀{Bh:List (List Value)} {xs:List (List Int)},R2 (BA (Az .i64)) w Z Bh xs→R2 eT w Z Bh (xs.map fun x=>(false,(none,0),x))
 |[],[],_=>trivial
 |_::_,_::_,⟨⟨A,c,h1,a⟩,h⟩=>⟨⟨A,c,h1,fun e=>(by cases e),fun _=>a⟩,TD h⟩
 |[],_::_,h=>h.elim
 |_::_,[],h=>h.elim
theorem TE{w:World}{Z:Nat→Prop}:∀{Bh:List (List Value)} {xs:List (Bool×(Option Addr×Nat)×List Int)},(∀y∈xs,y.1=true→Sl (Az .i64) w Z y.2.1.1 y.2.1.2 y.2.2)→R2 eT w Z Bh xs→R2 (BA (Az .i64)) w Z Bh (xs.map fun y=>y.2.2)
  |[],[],_,_=>trivial
  |_::_,x::_,ht,⟨⟨A,c,h1,b,h3⟩,h⟩=>⟨by
      cases a:x.1 with
      |true=>
        obtain⟨rfl,rfl⟩:=b a;exact⟨_,_,h1,ht x (List.mem_cons_self ..) a⟩
      |false=>exact⟨A,c,h1,h3 a⟩,TE (fun y hy=>ht y (List.mem_cons_of_mem _ hy)) h⟩
  |[],_::_,_,h=>h.elim
  |_::_,[],_,h=>h.elim
theorem UM{t n0:Nat}{w:World}{Z:Nat→Prop}{A:Option Addr}{c:Nat}{xs:List (List Int)}(h:AL (BA (Az .i64)) t n0 w Z A c xs):AL eT t n0 w Z A c (xs.map fun x=>(false,(none,0),x)):=by
 obtain⟨Bh,h1,a⟩:=h;exact⟨Bh,TD h1,by rw[List.length_map];exact a⟩
theorem UN{t n0:Nat}{w:World}{Z:Nat→Prop}{A:Option Addr}{c:Nat}{xs:List (Bool×(Option Addr×Nat)×List Int)}(ht:∀y∈xs,y.1=true→Sl (Az .i64) w Z y.2.1.1 y.2.1.2 y.2.2)(h:AL eT t n0 w Z A c xs):AL (BA (Az .i64)) t n0 w Z A c (xs.map fun y=>y.2.2):=by
 obtain⟨Bh,h1,a⟩:=h;exact⟨Bh,TE ht h1,by rw[List.length_map];exact a⟩
def Jd (N i:Int):Nat→Int→List (List Int)→Option (List (List Int))
  |0,_,_=>none
  |a+1,k,s=>cond (decide (k<N)) (cond (k !=i) ((idx s (0:Int)).bind fun x=>(Gb (((x.length+([k]:List Int).length:Nat):Int)≤140737488355328/8)).bind fun _=>(idx s (0:Int)).bind fun _=>(i64 (k+1)).bind fun _=>Jd N i a (k+1) (s.set 0 (x++[k])))
      ((i64 (k+1)).bind fun _=>Jd N i a (k+1) s)) (some s)
theorem qz{X:Ctx}{N:Nat}{a:Act}{l:Env}(st:St X N a l):(BV a l).tmps.size=N:=(H8 _ _).trans st.sz
theorem qd{X:Ctx}{N:Nat}{a:Act}{l:Env}(st:St X N a l):(BV a l).defers=X.ds:=(Ds _ _).trans st.df
theorem sp{X:Ctx}{N:Nat}{a:Act}{l:Env}(st:St X N a l)(k:Nat){v:Value}(h:lk (sl a k) l k=v):sl (BV a l) k=v:=(HV st k).trans h
theorem Hp.nb{F:Nat→Prop}{B L:List (Option Nat)}{w0 w w':World}{b:Nat}{t:TypeId}{cs:Array Value}(h:Hp F B w0 L w)(n:I9 w w' b t cs):Hp F B w0 (some b::L) w':=h.new n.gr (Nat.le_of_eq n.En.symm) (Nat.lt_of_lt_of_eq (Nat.lt_succ_self _) n.sz.symm)
theorem Hp.BM{F:Nat→Prop}{B L:List (Option Nat)}{w0 w w':World}{b:Nat}{t:TypeId}{cs:Array Value}(h:Hp F B w0 L w)(n:I9 w w' b t cs):w0.heap.size≤b:=by rw[n.En];exact h.sz
theorem Ax{F:Nat→Prop}{B L:List (Option Nat)}{Z:Nat→Prop}{w w':World}{n0 b:Nat}{t:TypeId}{cs:Array Value}(n:I9 w w' b t cs):Mv w (ZZ F B Z n0 L) w' (ZZ F B Z n0 (some b::L)):=Eh n.gr (Nat.le_of_eq n.En.symm)
theorem X2{b c:Sort _}{p:b→c→Prop}{C:Prop}(h:∃a x1,p a x1)(k:∀a x1,p a x1→C):C:=h.elim fun a h=>h.elim fun x1 h=>k a x1 h
theorem X4{c d e f:Sort _}{p:c→d→e→f→Prop}{C:Prop}(h:∃a x1 x2 b,p a x1 x2 b)(k:∀a x1 x2 b,p a x1 x2 b→C):C:=h.elim fun a h=>h.elim fun x1 h=>h.elim fun x2 h=>h.elim fun b h=>k a x1 x2 b h
theorem Y2{a0 a1 r C:Prop}(h:a0∧a1∧r)(k:a0→a1→r→C):C:=h.elim fun a h=>h.elim fun x1 h=>k a x1 h
theorem Y4{a0 a1 a2 a3 r C:Prop}(h:a0∧a1∧a2∧a3∧r)(k:a0→a1→a2→a3→r→C):C:=h.elim fun a h=>h.elim fun x1 h=>h.elim fun x2 h=>h.elim fun b h=>k a x1 x2 b h
theorem Y8{a0 a1 a2 a3 a4 a5 a b r C:Prop}(h:a0∧a1∧a2∧a3∧a4∧a5∧a∧b∧r)(k:a0→a1→a2→a3→a4→a5→a→b→r→C):C:=h.elim fun c h=>h.elim fun x1 h=>h.elim fun x2 h=>h.elim fun d h=>h.elim fun e h=>h.elim fun f h=>h.elim fun g h=>h.elim fun i h=>k c x1 x2 d e f g i h
end Go.Proofs.YtkljfdkmjdjpfaaGreat
end
section
set_option linter.unusedVariables false
set_option linter.unusedSimpArgs false
namespace Go.Proofs.YtkljfdkmjdjpfaaGreat
open Go.RowKit Go.WideShapes
structure CB where
 Lo:Int
 Hi:Int
structure Av where
 On:Int
 AD:Int
 AM:Bool
structure Bb where
 Au:Int
 AJ:Int
 AM:Int
 Cc:Int
 Ct:Int
structure Ar where
 Am:Int
 Ak:Int
 Ao:Int
 AA:Int
 Ag:List Bb
structure AZ where
 Comes:List Int
 Ao:List Bool
structure Cy where
 BG:Int
 BZ:Int
 Ck:Int
 Cl:Int
 A8:List Bb
 Da:List Bool
 known:List (List Int×Av)
structure HO where
 Cr:Int
 day:Int
structure BN where
 a0:Int
 a1:Int
 a2:Int
 a3:Int
def BN.set(x:BN)(k:Nat)(v:Int):BN:=⟨if k=0 then v else x.a0,if k=1 then v else x.a1,if k=2 then v else x.a2,if k=3 then v else x.a3⟩
def BN.l(x:BN):List Int:=[x.a0,x.a1,x.a2,x.a3]
theorem BN.Vl(x:BN)(k:Nat)(v:Int)(h:k<4): #[.int .i64 (x.set k v).a0,.int .i64 (x.set k v).a1,.int .i64 (x.set k v).a2,.int .i64 (x.set k v).a3]=setCells #[.int .i64 x.a0,.int .i64 x.a1,.int .i64 x.a2,.int .i64 x.a3] k [.int .i64 v]:=by
 match k,h with
 |0,_=>rfl
 |1,_=>rfl
 |2,_=>rfl
 |3,_=>rfl
 |k+4,h=>omega
def BW:D5 Av:=⟨3,fun _ _ cs x=>cs=[.int .i64 x.On,.int .i64 x.AD,.bool x.AM],fun h=>by rw[h];rfl,fun h=>by rw[h];simp[Value.oneCell'],fun h _=>h⟩
def AQ:D5 Bb:=⟨5,fun _ _ cs x=>cs=[.int .i64 x.Au,.int .i64 x.AJ,.int .i64 x.AM,.int .i64 x.Cc,.int .i64 x.Ct],fun h=>by rw[h];rfl,fun h=>by rw[h];simp[Value.oneCell'],fun h _=>h⟩
def HP:D5 Ar:=⟨5,fun w Z cs x=>∃a b,cs=[.int .i64 x.Am,.int .i64 x.Ak,.int .i64 x.Ao,.int .i64 x.AA,.slice a x.Ag.length b]∧Sl AQ w Z a b x.Ag,fun⟨_,_,h,_⟩=>by rw[h];rfl,fun⟨_,_,h,_⟩=>by rw[h];simp[Value.oneCell'],fun⟨a,b,h,c⟩ g=>⟨a,b,h,c.mv g⟩⟩
def E9:D5 AZ:=⟨2,fun w Z cs x=>∃a b c d,cs=[.slice a x.Comes.length b,.slice c x.Ao.length d]∧Sl (Az .i64) w Z a b x.Comes∧Sl Bo w Z c d x.Ao,fun⟨_,_,_,_,h,_⟩=>by rw[h];rfl,fun⟨_,_,_,_,h,_⟩=>by rw[h];simp[Value.oneCell'],fun⟨a,b,c,d,h,h0,h1⟩ g=>⟨a,b,c,d,h,h0.mv g,h1.mv g⟩⟩
def Oz:D5 CB:=⟨2,fun _ _ cs x=>cs=[.int .i64 x.Lo,.int .i64 x.Hi],fun h=>by rw[h];rfl,fun h=>by rw[h];simp[Value.oneCell'],fun h _=>h⟩
def UO:D5 BN:=⟨4,fun _ _ cs x=>cs=[.int .i64 x.a0,.int .i64 x.a1,.int .i64 x.a2,.int .i64 x.a3],fun h=>by rw[h];rfl,fun h=>by rw[h];simp[Value.oneCell'],fun h _=>h⟩
def LI(w:World)(Z:Nat→Prop)(q:Nat)(o:Option Nat):Option Cy→Prop
 |none=>Bk w q 162 #[.pointer none]∧o=none
 |some x=>∃(b r:Nat) (a:Option Addr) (c:Nat) (d:Option Addr) (e:Nat),Bk w q 162 #[pt b 0]∧Rz w Z (some ⟨b,0,none⟩) [I x.BG,I x.BZ,I x.Ck,I x.Cl,.slice a x.A8.length c,.slice d x.Da.length e,.map (some r)]∧Sl AQ w Z a c x.A8∧Sl Bo w Z d e x.Da∧Cp (fun x:Av=>.agg #[I x.On,I x.AD,.bool x.AM]) w r 2 x.known∧o=some r
theorem LI.keep{w w':World}{Z Z':Nat→Prop}{q:Nat}{o:Option Nat}:∀{x:Option Cy},LI w Z q o x→Mv w Z w' Z'→w'.heap[q]?=w.heap[q]?→(∀k,o=some k→w'.heap[k]?=w.heap[k]?)→LI w' Z' q o x
 |none,h,_,a,_=>⟨h.1.F5 a,h.2⟩
 |some x,⟨b,r,e,f,g,i,j,l,h0,h1,hm,d⟩,c,a,m=>⟨b,r,e,f,g,i,j.F5 a,l.mv c,h0.mv c,h1.mv c,hm.F5 (m r d),d⟩
end Go.Proofs.YtkljfdkmjdjpfaaGreat
end
section
set_option linter.unusedVariables false
set_option linter.unusedSimpArgs false
namespace Go.Proofs.YtkljfdkmjdjpfaaGreat
open Go.RowKit Go.WideShapes
def Em(d:Nat)(a:Int)(b:Int)(c:Int):Option (Bool):=
 cond (decide (b≤a)) (some (decide (a≤c))) (some (false))
def Fa(b:Nat)(a:CB):Option (Int):=
 (i64 (a.Hi-a.Lo)).bind fun _=>(i64 ((a.Hi-a.Lo)+1)).bind fun _=>some ((a.Hi-a.Lo)+1)
def G6(c:Nat)(a:CB)(b:Int):Option (Bool):=
 cond (decide ((0:Int)≤a.Lo)) (cond (decide (a.Lo≤a.Hi)) (some (decide (a.Hi≤b))) (some (false))) (some (false))
def GV(a:Nat)(b:Int):Option (Bool):=
 (Em a b 1 5).bind fun r1=>some (r1)
def DW(d:Nat)(a:Int)(b:Int)(c:Int):Option (Bool):=
 cond (decide (b≤a)) (some (decide (a≤c))) (some (false))
def Ei(b:Nat)(a:CB):Option (Int):=
 (i64 (a.Hi-a.Lo)).bind fun _=>(i64 ((a.Hi-a.Lo)+1)).bind fun _=>some ((a.Hi-a.Lo)+1)
def D6(c:Nat)(b:Int)(a:Int):Option (Bool):=
 (LB .u64 a).bind fun _=>(Nh b a).bind fun _=>(rem (Fu b a) (2:Int)).bind fun _=>some (((Fu b a)%2)==1)
def ET(d:Nat)(a:Int)(b:Int)(c:Bool):Option (Av):=
 some ((⟨a,b,c⟩:Av))
def FO(b:Nat)(a:Ar)(c:Int):Option (Bool):=
 (i64 ((a.Ag.length:Int)-1)).bind fun _=>(Em b c 0 ((a.Ag.length:Int)-1)).bind fun d=>some (d)
def Dc(c:Nat)(b:Bb)(a:Av):Option (Bool):=
 cond (a.AM) (some (decide (a.AD≤b.Ct))) (some (false))
def Ej(a:Nat)(b:Bb)(c:Av):Option (Bool):=
 (Dc a b c).bind fun d=>some (!d)
end Go.Proofs.YtkljfdkmjdjpfaaGreat
end
section
set_option linter.unusedVariables false
set_option linter.unusedSimpArgs false
namespace Go.Proofs.YtkljfdkmjdjpfaaGreat
open Go.RowKit Go.WideShapes
def Cw(e:Nat)(c:Ar)(f:Int)(b:Int):Nat→Bool→Int→Option (Bool)
 |0,_,_=>none
 |g+1,d,a=>(i64 (b+c.AA)).bind fun _=>cond (decide (a≤(b+c.AA))) (cond (d) (cond (decide (a≤c.Am)) ((D6 e f a).bind fun h=>(i64 (a+1)).bind fun _=>Cw e c f b g h (a+1)) ((i64 (a+1)).bind fun _=>Cw e c f b g false (a+1))) ((i64 (a+1)).bind fun _=>Cw e c f b g false (a+1))) (some (d))
def Cs(e:Nat)(d:Ar)(f:Int)(b:Int):Nat→Bool→Int→Option (Bool)
 |0,_,_=>none
 |g+1,c,a=>(i64 (b+d.AA)).bind fun _=>cond (decide (a≤(b+d.AA))) (cond (c) (cond (decide (a≤d.Am)) ((D6 e f a).bind fun h=>(i64 (a+1)).bind fun _=>Cs e d f b g h (a+1)) ((i64 (a+1)).bind fun _=>Cs e d f b g false (a+1))) ((i64 (a+1)).bind fun _=>Cs e d f b g false (a+1))) (some (c))
def CE(c:Nat)(d:Ar)(e:Int):Nat→Int→Int→Option ((Bool)⊕(Int))
 |0,_,_=>none
 |f+1,b,a=>cond (decide (a≤d.Am)) ((D6 c e a).bind fun g=>cond (g) ((i64 (b+1)).bind fun _=>(Cw c d e a c true a).bind fun h=>cond (h) (some (.inl false)) ((i64 (a+1)).bind fun _=>CE c d e f (b+1) (a+1))) ((Cs c d e a c true a).bind fun z20=>cond (z20) (some (.inl false)) ((i64 (a+1)).bind fun _=>CE c d e f b (a+1)))) (some (.inr b))
def Er(b:Nat)(c:Ar)(d:Int):Option (Bool):=
 (CE b c d b (0:Int) (0:Int)).bind fun z=>Sum.elim (fun a=>some (a)) (fun a=>some (decide (a≤c.Ao))) z
def CJ(d:Nat)(c:Ar):Nat→(List Int)→Int→Option ((List Int))
 |0,_,_=>none
 |e+1,b,a=>(i64 (c.Am+1)).bind fun _=>(LB .u64 (c.Am+1)).bind fun _=>(L3 (1:Int) (c.Am+1)).bind fun _=>cond (decide (a<(Hr (1:Int) (c.Am+1)))) ((Er d c a).bind fun f=>cond (f) ((Gb (((b.length+[a].length:Nat):Int)≤140737488355328/8)).bind fun _=>(i64 (a+1)).bind fun _=>CJ d c e (b++[a]) (a+1)) ((i64 (a+1)).bind fun _=>CJ d c e b (a+1))) (some (b))
def D2(a:Nat)(b:Ar):Option ((List Int)):=
 (CJ a b a ([]:List Int) (0:Int)).bind fun z2=>some (z2)
def DK(d:Nat)(c:Ar):Nat→Int→Int→Option (Int)
 |0,_,_=>none
 |g+1,b,a=>cond (decide (a<(c.Ag.length:Int))) ((idx c.Ag a).bind fun e=>(Ei d (⟨e.Au,e.AJ⟩:CB)).bind fun f=>(i64 (b*f)).bind fun _=>(i64 (a+1)).bind fun _=>DK d c g (min (3000:Int) (b*f)) (a+1)) (some (b))
def Dq(a:Nat)(b:Ar):Option (Int):=
 (D2 a b).bind fun r2=>(DK a b a (r2.length:Int) (0:Int)).bind fun z4=>some (z4)
def Dg(d:Nat)(c:Ar):Nat→Int→Option ((Int)⊕(Unit))
 |0,_=>none
 |h+1,a=>cond (decide (a<(c.Ag.length:Int))) ((idx c.Ag a).bind fun b=>cond (decide (b.Au<0)) (some (.inl (1:Int))) (cond (decide (b.AJ<b.Au)) (some (.inl (1:Int))) (cond (decide (c.Am<b.AJ)) (some (.inl (1:Int))) ((DW d b.AM 1 5).bind fun e=>cond (!e) (some (.inl (1:Int))) ((DW d b.Cc 1 5).bind fun f=>cond (!f) (some (.inl (1:Int))) ((DW d b.Ct 0 c.Am).bind fun g=>cond (!g) (some (.inl (1:Int))) ((i64 (a+1)).bind fun _=>Dg d c h (a+1)))))))) (some (.inr ()))
def Ew(b:Nat)(a:Ar):Option (Int):=
 cond (decide ((9:Int)<a.Am)) (some (3)) (cond (decide ((2:Int)<a.Ak)) (some (3)) (cond (decide ((4:Int)<(a.Ag.length:Int))) (some (3)) (cond (decide (a.Am<0)) (some (1)) (cond (decide (a.Ak<1)) (some (1)) ((i64 (a.Am+1)).bind fun _=>(DW b a.Ao 0 (a.Am+1)).bind fun f=>cond (!f) (some (1)) ((i64 (a.Am+1)).bind fun _=>(DW b a.AA 0 (a.Am+1)).bind fun d=>cond (!d) (some (1)) ((Dg b a b (0:Int)).bind fun z=>Sum.elim (fun c=>some (c)) (fun c=>(Dq b a).bind fun e=>cond (decide ((1000:Int)<e)) (some (3)) (some (0))) z)))))))
def E4(b:Nat)(c:Ar)(a:Bb):Option (Bool):=
 (G6 b (⟨a.Au,a.AJ⟩:CB) c.Am).bind fun e=>cond (e) ((GV b a.AM).bind fun f=>cond (f) ((GV b a.Cc).bind fun g=>cond (g) ((Em b a.Ct 0 c.Am).bind fun d=>some (d)) (some (false))) (some (false))) (some (false))
def DL(b:List Int)(c:List Int):Nat→Int→Option ((Bool)⊕(Unit))
 |0,_=>none
 |d+1,a=>cond (decide (a<(b.length:Int))) ((idx b a).bind fun e=>(idx c a).bind fun f=>cond (e !=f) (some (.inl false)) ((i64 (a+1)).bind fun _=>DL b c d (a+1))) (some (.inr ()))
def FB(d:Nat)(b:List Int)(c:List Int):Option (Bool):=
 cond ((b.length:Int) !=(c.length:Int)) (some (false)) ((DL b c d (0:Int)).bind fun z=>Sum.elim (fun a=>some (a)) (fun a=>some (true)) z)
def CF(b:Nat)(a:Int):Option (Ar):=
 some ((⟨5,1,a,1,[(⟨0,0,2,2,2⟩:Bb),(⟨1,1,2,1,5⟩:Bb)]⟩:Ar))
def Gv(b:Nat)(a:Int):Option (AZ):=
 (Kl (6:Int) 1).bind fun _=>(idx (List.replicate (6:Int).toNat false) a).bind fun c=>some ((⟨[0,1],(List.replicate (6:Int).toNat false).set a.toNat true⟩:AZ))
def Gw(f:Nat)(a:List Av)(b:Av)(c:Av):Option (Bool):=
 cond ((a.length:Int)==2) ((idx a (0:Int)).bind fun d=>cond (HM [.inl d.On,.inl d.AD,.inr d.AM] [.inl b.On,.inl b.AD,.inr b.AM]) ((idx a (1:Int)).bind fun e=>some (HM [.inl e.On,.inl e.AD,.inr e.AM] [.inl c.On,.inl c.AD,.inr c.AM])) (some (false))) (some (false))
def GO(b:Nat)(a:CB):Option (CB):=
 some (a)
def DM(f:Nat)(e:Ar):Nat→Int→(List Bb)→Option ((List Bb))
 |0,_,_=>none
 |g+1,b,a=>cond (decide (b<(e.Ag.length:Int))) ((idx e.Ag b).bind fun c=>(GO f (⟨c.Au,c.AJ⟩:CB)).bind fun d=>(Gb (((a.length+[(⟨d.Lo,d.Hi,c.AM,c.Cc,c.Ct⟩:Bb)].length:Nat):Int)≤140737488355328/40)).bind fun _=>(i64 (b+1)).bind fun _=>DM f e g (b+1) (a++[(⟨d.Lo,d.Hi,c.AM,c.Cc,c.Ct⟩:Bb)])) (some (a))
def EU(b:Nat)(a:Ar):Option (Ar):=
 (DM b a b (0:Int) ([]:List Bb)).bind fun z5=>some ((⟨a.Am,a.Ak,a.Ao,a.AA,z5⟩:Ar))
def Fk(a:Nat)(b:Ar):Option (Int):=
 (Ew a b).bind fun r2=>some (r2)
def FC(b:Nat)(a:Ar):Option (Bool):=
 cond (decide ((a.Ag.length:Int)≤6)) ((Ew b a).bind fun c=>cond (c !=0) (some (true)) ((Dq b a).bind fun d=>some (decide (d≤60)))) (some (false))
end Go.Proofs.YtkljfdkmjdjpfaaGreat
end
section
set_option linter.unusedVariables false
set_option linter.unusedSimpArgs false
namespace Go.Proofs.YtkljfdkmjdjpfaaGreat
open Go.RowKit Go.WideShapes
def EO{a:Type}(e:Nat)(b:a→Bb→Option (Bool×a))(c:Bb)(d:a):Option (Bool×a):=
 (b d c).bind fun r2=>some ((!r2.1,r2.2))
def C6{c:Type}(d:c→Bb→Option (Bool×c))(e:List Bb):Nat→Int→c→Option ((Int×c)⊕(c))
 |0,_,_=>none
 |g+1,a,b=>cond (decide (a<(e.length:Int))) ((idx e a).bind fun h=>(d b h).bind fun f=>cond (f.1) (some (.inl (a,f.2))) ((i64 (a+1)).bind fun _=>C6 d e g (a+1) f.2)) (some (.inr b))
def Fz{b:Type}(d:Nat)(c:b→Bb→Option (Bool×b))(e:List Bb)(f:b):Option (Int×b):=
 (C6 c e d (0:Int) f).bind fun z=>Sum.elim (fun a=>some ((a.1,a.2))) (fun a=>some (((-1),a))) z
def EX{a:Type}(c:Nat)(b:a→Bb→Option (Bool×a))(d:List Bb)(e:a):Option (Bool×a):=
 (Fz c b d e).bind fun r1=>some ((decide ((0:Int)≤r1.1),r1.2))
def GG{a:Type}(b:Nat)(c:a→Bb→Option (Bool×a))(d:List Bb)(e:a):Option (Bool×a):=
 (EX b (fun(st:a) (x:Bb)=>(EO b c x st).bind fun r=>some (r.1,r.2)) d e).bind fun r2=>some ((!r2.1,r2.2))
def Es{a:Type}(e:Nat)(b:a→Bool→Option (Bool×a))(c:Bool)(d:a):Option (Bool×a):=
 (b d c).bind fun r1=>some ((!r1.1,r1.2))
def CT{c:Type}(d:c→Bool→Option (Bool×c))(e:List Bool):Nat→Int→c→Option ((Int×c)⊕(c))
 |0,_,_=>none
 |g+1,a,b=>cond (decide (a<(e.length:Int))) ((idx e a).bind fun h=>(d b h).bind fun f=>cond (f.1) (some (.inl (a,f.2))) ((i64 (a+1)).bind fun _=>CT d e g (a+1) f.2)) (some (.inr b))
def Fj{b:Type}(d:Nat)(c:b→Bool→Option (Bool×b))(e:List Bool)(f:b):Option (Int×b):=
 (CT c e d (0:Int) f).bind fun z=>Sum.elim (fun a=>some ((a.1,a.2))) (fun a=>some (((-1),a))) z
def EI{a:Type}(c:Nat)(b:a→Bool→Option (Bool×a))(d:List Bool)(e:a):Option (Bool×a):=
 (Fj c b d e).bind fun r1=>some ((decide ((0:Int)≤r1.1),r1.2))
def Gk{a:Type}(b:Nat)(c:a→Bool→Option (Bool×a))(d:List Bool)(e:a):Option (Bool×a):=
 (EI b (fun(st:a) (x:Bool)=>(Es b c x st).bind fun r=>some (r.1,r.2)) d e).bind fun r2=>some ((!r2.1,r2.2))
def DN(e:Nat)(d:Bool)(b:Int)(a:Int)(c:Ar):Option (Bool×Int×Int):=
 cond (!d) (some ((true,0,a))) ((i64 (a+1)).bind fun _=>(i64 (b+1)).bind fun _=>cond (decide ((a+1)≤c.Ao)) (some ((decide ((b+1)≤c.AA),b+1,a+1))) (some ((false,b+1,a+1))))
def Ex(a:Nat)(b:Ar)(c:List Bool):Option (Bool):=
 (Gk a (fun(st:Int×Int) (x:Bool)=>(DN a x st.1 st.2 b).bind fun r=>some (r.1,(r.2.1,r.2.2))) c (0,0)).bind fun d=>some (d.1)
end Go.Proofs.YtkljfdkmjdjpfaaGreat
end
section
set_option linter.unusedVariables false
set_option linter.unusedSimpArgs false
namespace Go.Proofs.YtkljfdkmjdjpfaaGreat
open Go.RowKit Go.WideShapes
def Ey(c:List Int):Nat→Int→Int→Option (Int)
 |0,_,_=>none
 |d+1,b,a=>cond (decide (a<(c.length:Int))) ((idx c a).bind fun e=>(i64 (a+1)).bind fun _=>Ey c d (min b e) (a+1)) (some (b))
def GP(b:Nat)(a:List Int):Option (Int):=
 cond (decide ((a.length:Int)<1)) (none) ((idx a (0:Int)).bind fun x2=>(Ey a b x2 (1:Int)).bind fun z3=>some (z3))
def GH(a:Nat)(b:List Int):Option (Int):=
 (GP a b).bind fun r1=>some (r1)
def CK(b:Int)(d:List Bool):Nat→Int→(List Bool)→Option ((List Bool))
 |0,_,_=>none
 |e+1,a,c=>cond (decide (a<(d.length:Int))) ((Nh b a).bind fun _=>(rem (Fu b a) (2:Int)).bind fun _=>(idx c a).bind fun f=>(i64 (a+1)).bind fun _=>CK b d e (a+1) (c.set a.toNat (((Fu b a)%2)==1))) (some (c))
def CL{c:Type}(d:c→(List Bool)→Option (Bool×c))(g:Nat)(h:Ar):Nat→Int→(List Bool)→c→Option ((c)⊕(c))
 |0,_,_,_=>none
 |j+1,a,e,b=>cond (decide (a<(Hr (1:Int) ((List.replicate (h.Am+1).toNat false).length:Int)))) ((CK a e g (0:Int) e).bind fun i=>(Ex g h i).bind fun k=>cond (k) ((d b i).bind fun f=>cond (!f.1) (some (.inl f.2)) ((i64 (a+1)).bind fun _=>CL d g h j (a+1) i f.2)) ((i64 (a+1)).bind fun _=>CL d g h j (a+1) i b)) (some (.inr b))
def Dt{c:Type}(d:Nat)(e:c→(List Bool)→Option (Bool×c))(a:Ar)(f:c):Option (c):=
 (i64 (a.Am+1)).bind fun _=>(Kl (a.Am+1) 1).bind fun _=>(L3 (1:Int) ((List.replicate (a.Am+1).toNat false).length:Int)).bind fun _=>(CL e d a d (0:Int) (List.replicate (a.Am+1).toNat false) f).bind fun z=>Sum.elim (fun b=>some (b)) (fun b=>some (b)) z
end Go.Proofs.YtkljfdkmjdjpfaaGreat
end
section
set_option linter.unusedVariables false
set_option linter.unusedSimpArgs false
namespace Go.Proofs.YtkljfdkmjdjpfaaGreat
open Go.RowKit Go.WideShapes
def E5(a:Int)(b:(List Bool)):Option (Bool×Int):=
 (i64 (a+1)).bind fun _=>some (true,a+1)
def DX(e:Nat)(f:Ar):Nat→Int→Int→Option (Int)
 |0,_,_=>none
 |h+1,b,a=>cond (decide (b<(f.Ag.length:Int))) ((idx f.Ag b).bind fun c=>(Fa e (⟨c.Au,c.AJ⟩:CB)).bind fun d=>(i64 (a*d)).bind fun _=>(GH e [a*d,1001]).bind fun g=>(i64 (b+1)).bind fun _=>DX e f h (b+1) g) (some (a))
def Du(b:Nat)(a:Ar):Option (Int):=
 cond (decide ((9:Int)<a.Am)) (some (3)) (cond (decide ((2:Int)<a.Ak)) (some (3)) (cond (decide ((4:Int)<(a.Ag.length:Int))) (some (3)) (cond (decide (a.Am<0)) (some (1)) (cond (decide (a.Ak<1)) (some (1)) ((i64 (a.Am+1)).bind fun _=>(Em b a.Ao 0 (a.Am+1)).bind fun g=>cond (!g) (some (1)) ((i64 (a.Am+1)).bind fun _=>(Em b a.AA 0 (a.Am+1)).bind fun c=>cond (!c) (some (1)) ((GG b (fun(st:Unit) (x:Bb)=>(E4 b a x).bind fun r=>some (r,())) a.Ag ()).bind fun d=>cond (!d.1) (some (1)) ((Dt b (fun(st:Int) (x:(List Bool))=>E5 st x) a (0:Int)).bind fun e=>(DX b a b (0:Int) e).bind fun f=>cond (decide ((1000:Int)<f)) (some (3)) (some (0))))))))))
end Go.Proofs.YtkljfdkmjdjpfaaGreat
end
section
set_option linter.unusedVariables false
set_option linter.unusedSimpArgs false
namespace Go.Proofs.YtkljfdkmjdjpfaaGreat
open Go.RowKit Go.WideShapes
def B9{f:Type}(g:Int→(List Int)→(List Bool)→Ar→f→Option (Bool×(List Int)×f))(e:Int)(j:List Bool)(i:Ar)(k:Int):Nat→Int→(List Int)→f→Option ((Bool×(List Int)×f)⊕((List Int)×f))
 |0,_,_,_=>none
 |l+1,a,b,d=>cond (decide (a<k)) ((idx i.Ag e).bind fun h=>(i64 (h.Au+a)).bind fun _=>(idx b e).bind fun m=>(i64 (e+1)).bind fun _=>(g (e+1) (b.set e.toNat (h.Au+a)) j i d).bind fun c=>cond (!c.1) (some (.inl (false,c.2.1,c.2.2))) ((i64 (a+1)).bind fun _=>B9 g e j i k l (a+1) c.2.1 c.2.2)) (some (.inr (b,d)))
def BS{b:Type}(e:Nat)(d:b→AZ→Option (Bool×b)):Nat→Int→(List Int)→(List Bool)→Ar→b→Option (Bool×(List Int)×b)
 |0,_,_,_,_,_=>none
 |k+1,f,c,g,h,i=>cond (f==(c.length:Int)) ((d i (⟨c,g⟩:AZ)).bind fun r2=>some ((r2.1,c,r2.2))) ((idx h.Ag f).bind fun j=>(Fa e (⟨j.Au,j.AJ⟩:CB)).bind fun l=>(B9 (BS e d k) f g h l e (0:Int) c i).bind fun z=>Sum.elim (fun a=>some ((a.1,a.2.1,a.2.2))) (fun a=>some ((true,a.1,a.2))) z)
end Go.Proofs.YtkljfdkmjdjpfaaGreat
end
section
set_option linter.unusedVariables false
set_option linter.unusedSimpArgs false
namespace Go.Proofs.YtkljfdkmjdjpfaaGreat
open Go.RowKit Go.WideShapes
def Dh{c:Type}(e:c→AZ→Option (Bool×c))(f:Nat)(g:Ar)(b:List Int)(d:c)(h:(List Bool)):Option (Bool×((List Int)×c×Bool)):=
 (BS f e f 0 b h g d).bind fun a=>cond (!a.1) (some (false,a.2.1,a.2.2,true)) (some (true,a.2.1,a.2.2,false))
def E6{a:Type}(d:Nat)(e:a→AZ→Option (Bool×a))(b:Ar)(f:a):Option (a):=
 (Kl (b.Ag.length:Int) 8).bind fun _=>(Dt d (fun(st:(List Int)×a×Bool) (x:(List Bool))=>cond st.2.2 none (Dh e d b st.1 st.2.1 x)) b (List.replicate (b.Ag.length:Int).toNat (0:Int),f,false)).bind fun c=>cond (c.2.2) (some (c.2.1)) (some (c.2.1))
end Go.Proofs.YtkljfdkmjdjpfaaGreat
end
section
set_option linter.unusedVariables false
set_option linter.unusedSimpArgs false
namespace Go.Proofs.YtkljfdkmjdjpfaaGreat
open Go.RowKit Go.WideShapes
def Dv(b:List Bool)(c:List Bool):Nat→Int→Option ((Bool)⊕(Unit))
 |0,_=>none
 |d+1,a=>cond (decide (a<(b.length:Int))) ((idx b a).bind fun e=>(idx c a).bind fun f=>cond (e !=f) (some (.inl false)) ((i64 (a+1)).bind fun _=>Dv b c d (a+1))) (some (.inr ()))
def Ez(d:Nat)(b:List Bool)(c:List Bool):Option (Bool):=
 cond ((b.length:Int) !=(c.length:Int)) (some (false)) ((Dv b c d (0:Int)).bind fun z=>Sum.elim (fun a=>some (a)) (fun a=>some (true)) z)
def Di(d:Nat)(c:Ar)(e:AZ):Nat→Int→Option ((Bool)⊕(Unit))
 |0,_=>none
 |h+1,a=>cond (decide (a<(c.Ag.length:Int))) ((idx c.Ag a).bind fun b=>(idx e.Comes a).bind fun f=>(Em d f b.Au b.AJ).bind fun g=>cond (!g) (some (.inl false)) ((i64 (a+1)).bind fun _=>Di d c e h (a+1))) (some (.inr ()))
def Fl(d:Nat)(a:Ar)(c:AZ):Option (Bool):=
 cond ((c.Comes.length:Int) !=(a.Ag.length:Int)) (some (false)) ((i64 (a.Am+1)).bind fun _=>cond ((c.Ao.length:Int) !=(a.Am+1)) (some (false)) ((Ex d a c.Ao).bind fun e=>cond (!e) (some (false)) ((Di d a c d (0:Int)).bind fun z=>Sum.elim (fun b=>some (b)) (fun b=>some (true)) z)))
def DS(i:Cy)(h:HO)(f:Bb):Nat→Int→Int→Int→Int→Int→Bool→Option ((Int×Int×Bool)⊕(Int×Int×Bool))
 |0,_,_,_,_,_,_=>none
 |j+1,b,g,a,c,d,e=>cond (decide (a≤i.BG)) ((idx i.Da a).bind fun k=>cond (k) ((i64 (g+1)).bind fun _=>cond (b==f.AM) (some (.inl (h.day,a,b==f.AM))) (cond ((g+1)==f.Cc) (some (.inl (h.day,a,b==f.AM))) ((i64 (a+1)).bind fun _=>DS i h f j b (g+1) (a+1) c d e))) ((i64 (b+1)).bind fun _=>cond ((b+1)==f.AM) (some (.inl (h.day,a,(b+1)==f.AM))) (cond ((0:Int)==f.Cc) (some (.inl (h.day,a,(b+1)==f.AM))) ((i64 (a+1)).bind fun _=>DS i h f j (b+1) (0:Int) (a+1) c d e)))) (some (.inr (c,d,e)))
def FI(d:Nat)(c:Cy)(b:HO):Option (Av):=
 cond (decide (c.BG<b.day)) (some ((⟨(-1),(-1),false⟩:Av))) ((idx c.A8 b.Cr).bind fun e=>(DS c b e d (0:Int) (0:Int) b.day (0:Int) (0:Int) false).bind fun z=>Sum.elim (fun a=>some ((⟨a.1,a.2.1,a.2.2⟩:Av))) (fun a=>some ((⟨b.day,(-1),false⟩:Av))) z)
def Fv(d:Nat)(b:Cy)(a:HO):Option (Av×(List (List Int×Av))):=
 cond (!((BF b.known [a.Cr,a.day]).isSome)) ((FI d b a).bind fun c=>some ((c,HK b.known [a.Cr,a.day] c))) (some ((((BF b.known [a.Cr,a.day]).getD (⟨0,0,false⟩:Av)),b.known)))
def DD(i:Nat)(c:Cy)(j:List Int)(g:List Int):Nat→Int→Int→(List Av)→(List (List Int×Av))→Option ((List Av)×(List (List Int×Av)))
 |0,_,_,_,_=>none
 |k+1,h,a,d,e=>cond (decide (a<(g.length:Int))) ((idx g a).bind fun f=>(idx j f).bind fun l=>(Fv i (⟨c.BG,c.BZ,c.Ck,c.Cl,c.A8,c.Da,e⟩:Cy) (⟨f,max h l⟩:HO)).bind fun b=>(idx d f).bind fun m=>(i64 (b.1.AD+1)).bind fun _=>cond (b.1.AD==(-1)) ((i64 (c.BG+1)).bind fun _=>(i64 (a+1)).bind fun _=>DD i c j g k (c.BG+1) (a+1) (d.set f.toNat b.1) b.2) ((i64 (a+1)).bind fun _=>DD i c j g k (b.1.AD+1) (a+1) (d.set f.toNat b.1) b.2)) (some ((d,e)))
def De(d:Nat)(f:Cy)(e:List (List Int))(g:List Int):Nat→Int→(List Av)→(List (List Int×Av))→Option ((List Av)×(List (List Int×Av)))
 |0,_,_,_=>none
 |i+1,a,c,b=>cond (decide (a<(e.length:Int))) ((idx e a).bind fun j=>(DD d f g j d (0:Int) (0:Int) c b).bind fun h=>(i64 (a+1)).bind fun _=>De d f e g i (a+1) h.1 h.2) (some ((c,b)))
def CU(b:Nat)(a:Cy)(c:List (List Int))(d:List Int):Option ((List Av)×(List (List Int×Av))):=
 (Kl (a.A8.length:Int) 24).bind fun _=>(De b a c d b (0:Int) (List.replicate (a.A8.length:Int).toNat (⟨0,0,false⟩:Av)) a.known).bind fun z3=>some ((z3.1,z3.2))
end Go.Proofs.YtkljfdkmjdjpfaaGreat
end
section
set_option linter.unusedVariables false
set_option linter.unusedSimpArgs false
namespace Go.Proofs.YtkljfdkmjdjpfaaGreat
open Go.RowKit Go.WideShapes
def Dw(c:List (List Int)):Nat→(List Int)→Int→Option ((List Int))
 |0,_,_=>none
 |e+1,b,a=>cond (decide (a<(c.length:Int))) ((idx c a).bind fun d=>(Gb (((b.length+d.length:Nat):Int)≤140737488355328/8)).bind fun _=>(i64 (a+1)).bind fun _=>Dw c e (b++d) (a+1)) (some (b))
def Dj(b:Ar)(z2:(List Int)):Nat→Int→Option ((Bool)⊕(Unit))
 |0,_=>none
 |d+1,a=>cond (decide (a<(b.Ag.length:Int))) (cond (((C9 z2).length:Int) !=(b.Ag.length:Int)) (some (.inl false)) ((idx (C9 z2) a).bind fun c=>cond (c !=a) (some (.inl false)) ((i64 (a+1)).bind fun _=>Dj b z2 d (a+1)))) (some (.inr ()))
def Eb(c:Nat)(b:Ar)(d:List (List Int)):Option (Bool):=
 (Dw d c ([]:List Int) (0:Int)).bind fun z2=>(Gb ((z2.length:Int)≤100000)).bind fun _=>(Dj b z2 c (0:Int)).bind fun z=>Sum.elim (fun a=>some (a)) (fun a=>cond ((d.length:Int)==b.Ak) (some (((C9 z2).length:Int)==(b.Ag.length:Int))) (some (false))) z
def FX(b:Nat)(a:Ar)(d:List (List Int))(c:AZ):Option ((List Av)×Int):=
 (Du b a).bind fun e=>cond (e !=0) (some ((([]:List Av),e))) ((Eb b a d).bind fun h=>cond (!h) (some ((([]:List Av),2))) ((Fl b a c).bind fun f=>cond (!f) (some ((([]:List Av),2))) ((CU b (⟨a.Am,a.Ak,a.Ao,a.AA,a.Ag,c.Ao,[]⟩:Cy) d c.Comes).bind fun g=>some ((g.1,0)))))
end Go.Proofs.YtkljfdkmjdjpfaaGreat
end
section
set_option linter.unusedVariables false
set_option linter.unusedSimpArgs false
namespace Go.Proofs.YtkljfdkmjdjpfaaGreat
open Go.RowKit Go.WideShapes
def DE(d:Nat)(e:Ar)(c:List Av):Nat→Int→Int→Option (Int)
 |0,_,_=>none
 |f+1,b,a=>cond (decide (a<(c.length:Int))) ((idx c a).bind fun i=>(idx e.Ag a).bind fun g=>(Ej d g i).bind fun h=>cond (h) ((i64 (b+1)).bind fun _=>(i64 (a+1)).bind fun _=>DE d e c f (b+1) (a+1)) ((i64 (a+1)).bind fun _=>DE d e c f b (a+1))) (some (b))
def EP(a:Nat)(b:Ar)(c:List Av):Option (Int):=
 (DE a b c a (0:Int) (0:Int)).bind fun z4=>some (z4)
def EV(d:Nat)(a:AZ)(e:List Av)(b:Ar)(c:Int)(f:AZ):Option (Bool×Int×AZ):=
 (EP d b e).bind fun r2=>cond (decide (c<r2)) ((Gb (((0+a.Comes.length:Nat):Int)≤140737488355328/8)).bind fun _=>(Gb (((0+a.Ao.length:Nat):Int)≤140737488355328/1)).bind fun _=>some ((decide (r2<(b.Ag.length:Int)),r2,a))) (some ((decide (c<(b.Ag.length:Int)),c,f)))
def CG{j:Type}(h:j→(Bb×Av)→Option (Bool×j))(k:List Av)(l:Ar):Nat→Int→Int→Int→Int→Int→j→Option (Int×Int×Int×Int×j)
 |0,_,_,_,_,_,_=>none
 |m+1,a,b,c,d,e,g=>cond (decide (a<(k.length:Int))) ((idx k a).bind fun o=>(idx l.Ag a).bind fun n=>(h g (n,o)).bind fun i=>cond (i.1) ((idx ([b,c,d,e]:List Int) a).bind fun f=>(i64 (f+1)).bind fun _=>(idx ([b,c,d,e]:List Int) a).bind fun p=>(i64 (a+1)).bind fun _=>CG h k l m (a+1) (((⟨b,c,d,e⟩:BN).set a.toNat (f+1)).a0) (((⟨b,c,d,e⟩:BN).set a.toNat (f+1)).a1) (((⟨b,c,d,e⟩:BN).set a.toNat (f+1)).a2) (((⟨b,c,d,e⟩:BN).set a.toNat (f+1)).a3) i.2) ((i64 (a+1)).bind fun _=>CG h k l m (a+1) b c d e i.2)) (some ((b,c,d,e,g)))
def C0{a:Type}(e:Nat)(c:a→(Bb×Av)→Option (Bool×a))(i:AZ)(f:List Av)(d:Int)(g:Ar)(b:BN)(h:a):Option (Bool×Int×BN×a):=
 (i64 (d+1)).bind fun _=>(CG c f g e (0:Int) b.a0 b.a1 b.a2 b.a3 h).bind fun z4=>some ((true,d+1,(⟨z4.1,z4.2.1,z4.2.2.1,z4.2.2.2.1⟩:BN),z4.2.2.2.2))
end Go.Proofs.YtkljfdkmjdjpfaaGreat
end
section
set_option linter.unusedVariables false
set_option linter.unusedSimpArgs false
namespace Go.Proofs.YtkljfdkmjdjpfaaGreat
open Go.RowKit Go.WideShapes
def DF{m:Type}(f:m→(AZ×(List Av))→Option (Bool×m))(n:Nat)(a:Ar)(o:List (List Int))(e:Option Cy)(d:m)(c:AZ):Option (Bool×((Option Cy)×m×Bool)):=
 Option.elim e ((Gb (((0+c.Ao.length:Nat):Int)≤140737488355328/1)).bind fun _=>(CU n (⟨a.Am,a.Ak,a.Ao,a.AA,a.Ag,c.Ao,[]⟩:Cy) o c.Comes).bind fun g=>(f d (c,g.1)).bind fun h=>cond (!h.1) (some (false,(some (⟨a.Am,a.Ak,a.Ao,a.AA,a.Ag,c.Ao,g.2⟩:Cy)),h.2,true)) (some (true,(some (⟨a.Am,a.Ak,a.Ao,a.AA,a.Ag,c.Ao,g.2⟩:Cy)),h.2,false))) (fun b=>(Ez n b.Da c.Ao).bind fun p=>cond (!p) ((Gb (((0+c.Ao.length:Nat):Int)≤140737488355328/1)).bind fun _=>(CU n (⟨a.Am,a.Ak,a.Ao,a.AA,a.Ag,c.Ao,[]⟩:Cy) o c.Comes).bind fun i=>(f d (c,i.1)).bind fun j=>cond (!j.1) (some (false,(some (⟨a.Am,a.Ak,a.Ao,a.AA,a.Ag,c.Ao,i.2⟩:Cy)),j.2,true)) (some (true,(some (⟨a.Am,a.Ak,a.Ao,a.AA,a.Ag,c.Ao,i.2⟩:Cy)),j.2,false))) ((CU n b o c.Comes).bind fun k=>(f d (c,k.1)).bind fun l=>cond (!l.1) (some (false,(some (⟨b.BG,b.BZ,b.Ck,b.Cl,b.A8,b.Da,k.2⟩:Cy)),l.2,true)) (some (true,(some (⟨b.BG,b.BZ,b.Ck,b.Cl,b.A8,b.Da,k.2⟩:Cy)),l.2,false))))
def Fw{a:Type}(c:Nat)(d:a→(AZ×(List Av))→Option (Bool×a))(e:Ar)(f:List (List Int))(g:a):Option (a):=
 (E6 c (fun(st:(Option Cy)×a×Bool) (x:AZ)=>cond st.2.2 none (DF d c e f st.1 st.2.1 x)) e (none,g,false)).bind fun b=>cond (b.2.2) (some (b.2.1)) (some (b.2.1))
end Go.Proofs.YtkljfdkmjdjpfaaGreat
end
section
set_option linter.unusedVariables false
set_option linter.unusedSimpArgs false
namespace Go.Proofs.YtkljfdkmjdjpfaaGreat
open Go.RowKit Go.WideShapes
def Cz{a:Type}(c:Nat)(d:a→(Bb×Av)→Option (Bool×a))(e:Ar)(f:List (List Int))(g:a):Option (BN×Int×a):=
 (Fw c (fun(st:Int×BN×a) (x:AZ×(List Av))=>(C0 c d x.1 x.2 st.1 e st.2.1 st.2.2).bind fun r=>some (r.1,(r.2.1,r.2.2.1,r.2.2.2))) e f (0,(⟨0,0,0,0⟩:BN),g)).bind fun b=>some ((b.2.1,b.1,b.2.2))
def Fx(a:Nat)(b:Ar)(d:List (List Int)):Option (Int×AZ):=
 (Fw a (fun(st:Int×AZ) (x:AZ×(List Av))=>(EV a x.1 x.2 b st.1 st.2).bind fun r=>some (r.1,(r.2.1,r.2.2))) b d ((-1),(⟨([]:List Int),([]:List Bool)⟩:AZ))).bind fun c=>some ((c.1,c.2))
def E7(b:Nat)(c:Ar)(e:List (List Int))(f:Int):Option (Int×Int):=
 (Du b c).bind fun r2=>cond (r2 !=0) (some ((0,r2))) ((Eb b c e).bind fun h=>cond (!h) (some ((0,2))) ((FO b c f).bind fun g=>cond (!g) (some ((0,2))) ((Cz b (fun(st:Unit) (x:Bb×Av)=>(Dc b x.1 x.2).bind fun r=>some (r,())) c e ()).bind fun a=>(idx ([a.1.a0,a.1.a1,a.1.a2,a.1.a3]:List Int) f).bind fun d=>cond (d==a.2.1) (some ((1,0))) (cond (d==0) (some ((2,0))) (some ((3,0)))))))
def Gs(b:Nat)(c:Ar)(d:List (List Int)):Option (Int×AZ×Int):=
 (Du b c).bind fun e=>cond (e !=0) (some ((0,(⟨([]:List Int),([]:List Bool)⟩:AZ),e))) ((Eb b c d).bind fun f=>cond (!f) (some ((0,(⟨([]:List Int),([]:List Bool)⟩:AZ),2))) ((Fx b c d).bind fun a=>some ((a.1,a.2,0))))
def Fb(a:Nat)(b:Ar)(c:List (List Int))(d:Int):Option (Bool):=
 (Gs a b c).bind fun r2=>cond (r2.2.2==0) (some (decide (r2.1≤d))) (some (false))
def Fy(a:Nat)(b:Ar)(d:List (List Int))(e:AZ)(f:Int):Option (Bool):=
 (FX a b d e).bind fun c=>cond (c.2==0) ((EP a b c.1).bind fun g=>some (decide (f≤g))) (some (false))
end Go.Proofs.YtkljfdkmjdjpfaaGreat
end
section
set_option linter.unusedVariables false
set_option linter.unusedSimpArgs false
namespace Go.Proofs.YtkljfdkmjdjpfaaGreat
open Go.RowKit Go.WideShapes
def ER(c:List (List Int)):Nat→Int→(List (List Int))→Option ((List (List Int)))
 |0,_,_=>none
 |e+1,a,b=>cond (decide (a<(c.length:Int))) ((idx b a).bind fun d=>(Gb (((0+d.length:Nat):Int)≤140737488355328/8)).bind fun _=>(idx b a).bind fun f=>(i64 (a+1)).bind fun _=>ER c e (a+1) (b.set a.toNat d)) (some (b))
def Ff(b:Nat)(a:List (List Int)):Option ((List (List Int))):=
 (Gb (((0+a.length:Nat):Int)≤140737488355328/24)).bind fun _=>(ER a b (0:Int) a).bind fun z4=>some (z4)
end Go.Proofs.YtkljfdkmjdjpfaaGreat
end
section
set_option linter.unusedVariables false
set_option linter.unusedSimpArgs false
namespace Go.Proofs.YtkljfdkmjdjpfaaGreat
open Go.RowKit Go.WideShapes
def Gg(b:Nat)(c:List (List Int))(d:Ar)(a:Int)(e:List (List Int)):Option (Bool×Int×(List (List Int))):=
 (Fx b d c).bind fun r1=>cond (decide (r1.1<a)) ((Ff b c).bind fun f=>some ((decide ((0:Int)<r1.1),r1.1,f))) (some ((decide ((0:Int)<a),a,e)))
def Ek(c:Ar)(r1:BN×Int×Unit):Nat→Int→Int→Option (Int)
 |0,_,_=>none
 |d+1,b,a=>cond (decide (a<(c.Ag.length:Int))) ((idx ([r1.1.a0,r1.1.a1,r1.1.a2,r1.1.a3]:List Int) a).bind fun e=>cond (e==0) ((i64 (b+1)).bind fun _=>(i64 (a+1)).bind fun _=>Ek c r1 d (b+1) (a+1)) ((i64 (a+1)).bind fun _=>Ek c r1 d b (a+1))) (some (b))
def Ea(c:Ar)(r1:BN×Int×Unit):Nat→Int→Int→Option (Int)
 |0,_,_=>none
 |d+1,b,a=>cond (decide (a<(c.Ag.length:Int))) ((idx ([r1.1.a0,r1.1.a1,r1.1.a2,r1.1.a3]:List Int) a).bind fun e=>cond (e==0) ((i64 (b+1)).bind fun _=>(i64 (a+1)).bind fun _=>Ea c r1 d (b+1) (a+1)) ((i64 (a+1)).bind fun _=>Ea c r1 d b (a+1))) (some (b))
def EJ(c:Nat)(e:List (List Int))(b:Ar)(a:Int)(d:BN)(f:List (List Int)):Option (Bool×Int×BN×(List (List Int))):=
 (Cz c (fun(st:Unit) (x:Bb×Av)=>(Ej c x.1 x.2).bind fun r=>some (r,())) b e ()).bind fun r1=>cond (decide ((0:Int)≤a)) (cond ([r1.1.a0,r1.1.a1,r1.1.a2,r1.1.a3]==[d.a0,d.a1,d.a2,d.a3]) (some ((true,a,d,f))) ((Ek b r1 c (0:Int) (0:Int)).bind fun z9=>cond (decide (a<z9)) ((Ff c e).bind fun g=>some ((decide (z9<(b.Ag.length:Int)),z9,r1.1,g))) (some ((decide (a<(b.Ag.length:Int)),a,r1.1,f))))) ((Ea b r1 c (0:Int) (0:Int)).bind fun z22=>cond (decide (a<z22)) ((Ff c e).bind fun h=>some ((decide (z22<(b.Ag.length:Int)),z22,r1.1,h))) (some ((decide (a<(b.Ag.length:Int)),a,r1.1,f))))
end Go.Proofs.YtkljfdkmjdjpfaaGreat
end
section
set_option linter.unusedVariables false
set_option linter.unusedSimpArgs false
namespace Go.Proofs.YtkljfdkmjdjpfaaGreat
open Go.RowKit Go.WideShapes
def Cn{g:Type}(h:Int→Ar→(List (List Int))→g→Option (Bool×(List (List Int))×g))(i:Int)(j:Ar)(c:Int)(f:List Int):Nat→Int→(List (List Int))→g→Option ((Bool×(List (List Int))×g)⊕((List (List Int))×g))
 |0,_,_,_=>none
 |k+1,a,b,e=>cond (decide (a<((f.length:Int)+1))) ((Gb (((0+f.length:Nat):Int)≤140737488355328/8)).bind fun _=>(Gb (0≤a∧a≤(f.length:Int)∧((f.length:Int)+1)*8≤140737488355328)).bind fun _=>(idx b c).bind fun l=>(i64 (i+1)).bind fun _=>(h (i+1) j (b.set c.toNat (CM f a i)) e).bind fun d=>cond (!d.1) (some (.inl (false,d.2.1,d.2.2))) ((i64 (a+1)).bind fun _=>Cn h i j c f k (a+1) d.2.1 d.2.2)) (some (.inr (b,e)))
def Ca{e:Type}(f:Int→Ar→(List (List Int))→e→Option (Bool×(List (List Int))×e))(h:Nat)(i:Int)(j:Ar)(k:List (List Int)):Nat→Int→(List (List Int))→e→Option ((Bool×(List (List Int))×e)⊕((List (List Int))×e))
 |0,_,_,_=>none
 |l+1,a,b,d=>cond (decide (a<(k.length:Int))) ((idx b a).bind fun g=>(i64 ((g.length:Int)+1)).bind fun _=>(Cn f i j a g h (0:Int) b d).bind fun z=>Sum.elim (fun c=>some (.inl (c.1,c.2.1,c.2.2))) (fun c=>(idx c.1 a).bind fun m=>(i64 (a+1)).bind fun _=>Ca f h i j k l (a+1) (c.1.set a.toNat g) c.2) z) (some (.inr (b,d)))
def Bz{b:Type}(e:Nat)(d:b→(List (List Int))→Option (Bool×b)):Nat→Int→Ar→(List (List Int))→b→Option (Bool×(List (List Int))×b)
 |0,_,_,_,_=>none
 |i+1,f,g,c,h=>cond (f==(g.Ag.length:Int)) ((d h c).bind fun r2=>some ((r2.1,c,r2.2))) ((Ca (Bz e d i) e f g c e (0:Int) c h).bind fun z=>Sum.elim (fun a=>some ((a.1,a.2.1,a.2.2))) (fun a=>some ((true,a.1,a.2))) z)
end Go.Proofs.YtkljfdkmjdjpfaaGreat
end
section
set_option linter.unusedVariables false
set_option linter.unusedSimpArgs false
namespace Go.Proofs.YtkljfdkmjdjpfaaGreat
open Go.RowKit Go.WideShapes
def EW{a:Type}(c:Nat)(d:a→(List (List Int))→Option (Bool×a))(b:Ar)(e:a):Option (a):=
 (Kl b.Ak 24).bind fun _=>(Bz c d c 0 b (List.replicate b.Ak.toNat ([]:List Int)) e).bind fun f=>some (f.2.2)
end Go.Proofs.YtkljfdkmjdjpfaaGreat
end
section
set_option linter.unusedVariables false
set_option linter.unusedSimpArgs false
namespace Go.Proofs.YtkljfdkmjdjpfaaGreat
open Go.RowKit Go.WideShapes
def G0(c:Nat)(a:Ar):Option ((List (List Int))×Int×Int):=
 (Du c a).bind fun d=>cond (d !=0) (some ((([]:List (List Int)),0,d))) ((i64 ((a.Ag.length:Int)+1)).bind fun _=>(EW c (fun(st:Int×(List (List Int))) (x:(List (List Int)))=>(Gg c x a st.1 st.2).bind fun r=>some (r.1,(r.2.1,r.2.2))) a ((a.Ag.length:Int)+1,([]:List (List Int)))).bind fun b=>some ((b.2,b.1,0)))
def G1(b:Nat)(c:Ar):Option ((List (List Int))×Int×Int):=
 (Du b c).bind fun d=>cond (d !=0) (some ((([]:List (List Int)),0,d))) ((EW b (fun(st:Int×BN×(List (List Int))) (x:(List (List Int)))=>(EJ b x c st.1 st.2.1 st.2.2).bind fun r=>some (r.1,(r.2.1,r.2.2.1,r.2.2.2))) c ((-1),(⟨0,0,0,0⟩:BN),([]:List (List Int)))).bind fun a=>some ((a.2.2,a.1,0)))
end Go.Proofs.YtkljfdkmjdjpfaaGreat
end
section
set_option linter.unusedVariables false
set_option linter.unusedSimpArgs false
namespace Go.Proofs.YtkljfdkmjdjpfaaGreat
open Go.RowKit Go.WideShapes
def DT(e:Nat)(c:Ar):Nat→(List Int)→Int→Option ((List Int))
 |0,_,_=>none
 |f+1,b,a=>cond (decide (a<(c.Ag.length:Int))) ((Kl c.Ak 24).bind fun _=>(idx (List.replicate c.Ak.toNat ([]:List Int)) (0:Int)).bind fun _=>(Jd (c.Ag.length:Int) a e (0:Int) ((List.replicate c.Ak.toNat ([]:List Int)).set 0 [a])).bind fun g=>(Cz e (fun(st:Unit) (x:Bb×Av)=>(Dc e x.1 x.2).bind fun r=>some (r,())) c g ()).bind fun d=>(idx ([d.1.a0,d.1.a1,d.1.a2,d.1.a3]:List Int) a).bind fun h=>cond (h==d.2.1) ((i64 (a+1)).bind fun _=>DT e c f b (a+1)) ((Gb (((b.length+[a].length:Nat):Int)≤140737488355328/8)).bind fun _=>(i64 (a+1)).bind fun _=>DT e c f (b++[a]) (a+1))) (some (b))
def FJ(a:Nat)(b:Ar):Option ((List Int)×Int):=
 (Du a b).bind fun r2=>cond (r2 !=0) (some ((([]:List Int),r2))) ((DT a b a ([]:List Int) (0:Int)).bind fun z5=>some ((z5,0)))
end Go.Proofs.YtkljfdkmjdjpfaaGreat
end
section
set_option linter.unusedVariables false
set_option linter.unusedSimpArgs false
namespace Go.Proofs.YtkljfdkmjdjpfaaGreat
open Go.RowKit Go.WideShapes
def DY(g:Nat)(h:Ar):Nat→Int→Int→(List Int)→Option ((List Int))
 |0,_,_,_=>none
 |i+1,a,d,b=>cond (decide (d<(h.Ag.length:Int))) ((idx h.Ag d).bind fun c=>(Ei g (⟨c.Au,c.AJ⟩:CB)).bind fun e=>(rem a e).bind fun _=>(i64 (c.Au+(a%e))).bind fun _=>(Gb (((b.length+[c.Au+(a%e)].length:Nat):Int)≤140737488355328/8)).bind fun _=>(Ei g (⟨c.Au,c.AJ⟩:CB)).bind fun f=>(quo a f).bind fun _=>(i64 (a/f)).bind fun _=>(i64 (d+1)).bind fun _=>DY g h i (a/f) (d+1) (b++[c.Au+(a%e)])) (some (b))
def DO(d:Nat)(e:Ar)(f:Int):Nat→Int→(List Bool)→Option ((List Bool))
 |0,_,_=>none
 |g+1,a,b=>cond (decide (a≤e.Am)) ((D6 d f a).bind fun c=>(Gb (((b.length+[c].length:Nat):Int)≤140737488355328/1)).bind fun _=>(i64 (a+1)).bind fun _=>DO d e f g (a+1) (b++[c])) (some (b))
def FP(c:Nat)(d:Ar)(a:List Int)(b:Int):Option (AZ):=
 (rem b (a.length:Int)).bind fun _=>(idx a (b%(a.length:Int))).bind fun e=>(quo b (a.length:Int)).bind fun _=>(i64 (b/(a.length:Int))).bind fun _=>(DY c d c (b/(a.length:Int)) (0:Int) ([]:List Int)).bind fun f=>(DO c d e c (0:Int) ([]:List Bool)).bind fun z23=>some ((⟨f,z23⟩:AZ))
end Go.Proofs.YtkljfdkmjdjpfaaGreat
end
section
set_option linter.unusedVariables false
set_option linter.unusedSimpArgs false
namespace Go.Proofs.YtkljfdkmjdjpfaaGreat
open Go.RowKit Go.WideShapes
def Dx(c:List (List Int)):Nat→(List (List Int))→Int→Option ((List (List Int)))
 |0,_,_=>none
 |e+1,b,a=>cond (decide (a<(c.length:Int))) ((idx c a).bind fun d=>(Gb (((([]:List Int).length+d.length:Nat):Int)≤140737488355328/8)).bind fun _=>(Gb (((b.length+[([]:List Int)++d].length:Nat):Int)≤140737488355328/24)).bind fun _=>(i64 (a+1)).bind fun _=>Dx c e (b++[([]:List Int)++d]) (a+1)) (some (b))
def EA(a:Nat)(b:List (List Int)):Option ((List (List Int))):=
 (Dx b a ([]:List (List Int)) (0:Int)).bind fun z2=>some (z2)
def EB(b:Nat)(a:AZ):Option (AZ):=
 (Gb (((([]:List Int).length+a.Comes.length:Nat):Int)≤140737488355328/8)).bind fun _=>(Gb (((([]:List Bool).length+a.Ao.length:Nat):Int)≤140737488355328/1)).bind fun _=>some ((⟨([]:List Int)++a.Comes,([]:List Bool)++a.Ao⟩:AZ))
def Fm(a:Nat)(b:Ar):Option (Bool):=
 (FC a b).bind fun r2=>cond (r2) ((Fk a b).bind fun c=>some (c==0)) (some (false))
def FD(d:Nat)(a:List Int)(b:Int):Option (Int):=
 cond ((a.length:Int)==0) (some (0)) ((rem b (a.length:Int)).bind fun _=>(idx a (b%(a.length:Int))).bind fun c=>(LB .i64 c).bind fun _=>some (c))
def Dy(h:Nat)(f:Ar)(i:List Int):Nat→Int→(List (List Int))→Option ((List (List Int)))
 |0,_,_=>none
 |j+1,c,d=>cond (decide (c<(f.Ag.length:Int))) ((FD h i c).bind fun a=>(rem a f.Ak).bind fun _=>(quo a (4:Int)).bind fun _=>(i64 (a/4)).bind fun _=>(idx d (a%f.Ak)).bind fun b=>(i64 ((b.length:Int)+1)).bind fun _=>(rem (a/4) ((b.length:Int)+1)).bind fun _=>(idx d (a%f.Ak)).bind fun g=>(Nn g.length (0:Int) ((a/4)%((b.length:Int)+1))).bind fun _=>(Gb (((([]:List Int).length+(CI g (0:Int) ((a/4)%((b.length:Int)+1))).length:Nat):Int)≤140737488355328/8)).bind fun _=>(Gb ((((([]:List Int)++(CI g (0:Int) ((a/4)%((b.length:Int)+1)))).length+[c].length:Nat):Int)≤140737488355328/8)).bind fun _=>(idx d (a%f.Ak)).bind fun e=>(Nn e.length ((a/4)%((b.length:Int)+1)) (e.length:Int)).bind fun _=>(Gb (((((([]:List Int)++(CI g (0:Int) ((a/4)%((b.length:Int)+1))))++[c]).length+(CI e ((a/4)%((b.length:Int)+1)) (e.length:Int)).length:Nat):Int)≤140737488355328/8)).bind fun _=>(idx d (a%f.Ak)).bind fun k=>(i64 (c+1)).bind fun _=>Dy h f i j (c+1) (d.set (a%f.Ak).toNat (((([]:List Int)++(CI g (0:Int) ((a/4)%((b.length:Int)+1))))++[c])++(CI e ((a/4)%((b.length:Int)+1)) (e.length:Int))))) (some (d))
def Fo(b:Nat)(a:Ar)(c:List Int):Option ((List (List Int))):=
 (Kl a.Ak 24).bind fun _=>(Dy b a c b (0:Int) (List.replicate a.Ak.toNat ([]:List Int))).bind fun z4=>some (z4)
def FE(a:Nat)(b:Ar)(c:Int):Option (AZ):=
 (D2 a b).bind fun e=>(LB .i64 c).bind fun _=>(Dq a b).bind fun d=>(rem c d).bind fun _=>(FP a b e (c%d)).bind fun f=>some (f)
end Go.Proofs.YtkljfdkmjdjpfaaGreat
end
section
set_option linter.unusedVariables false
set_option linter.unusedSimpArgs false
namespace Go.Proofs.YtkljfdkmjdjpfaaGreat
open Go.RowKit Go.WideShapes
def EC(a:Nat):Option (Bool):=
 (CF a 1).bind fun r1=>(Gv a 3).bind fun v=>(FX a r1 [[0,1]] v).bind fun h=>(CF a 1).bind fun w=>(E7 a w [[0,1]] 1).bind fun d=>(CF a 1).bind fun i=>(E7 a i [[1,0]] 0).bind fun e=>(CF a 1).bind fun j=>(Gs a j [[1,0]]).bind fun b=>(CF a 1).bind fun k=>(G0 a k).bind fun c=>(CF a 1).bind fun l=>(G1 a l).bind fun f=>(CF a 1).bind fun m=>(FJ a m).bind fun g=>cond (h.2==0) ((ET a 0 1 true).bind fun n=>(ET a 2 3 false).bind fun o=>(Gw a h.1 n o).bind fun p=>cond (p) (cond (d.2==0) (cond (d.1==3) (cond (e.2==0) (cond (e.1==2) (cond (b.2.2==0) (cond (b.1==2) ((CF a 1).bind fun q=>(Fy a q [[1,0]] b.2.1 2).bind fun r=>cond (r) (cond (c.2.2==0) (cond (c.2.1==1) ((CF a 1).bind fun s=>(Fb a s c.1 1).bind fun t=>cond (t) (cond (f.2.2==0) (cond (f.2.1==1) (cond (g.2==0) ((FB a g.1 [1]).bind fun u=>some (u)) (some (false))) (some (false))) (some (false))) (some (false))) (some (false))) (some (false))) (some (false))) (some (false))) (some (false))) (some (false))) (some (false))) (some (false))) (some (false))) (some (false))) (some (false))
end Go.Proofs.YtkljfdkmjdjpfaaGreat
end
section
namespace Go.Proofs.YtkljfdkmjdjpfaaGreat
theorem bd{α β:Type}{x:Option α}{a:α}{f:α→Option β}(h:x=some a):x.bind f=f a:=by rw[h];rfl
theorem BJ{β:Type}{x:Int}{f:Int→Option β}(h0:-9223372036854775808≤x)(h1:x≤9223372036854775807):(i64 x).bind f=f x:=bd (Ts h0 h1)
theorem C3{α β:Type}{xs:List α}{k:Nat}{f:α→Option β}(h:k<xs.length):(idx xs (k:Int)).bind f=f xs[k]:=bd (idx_eq h)
theorem FV{β:Type}{p:Prop}[Decidable p]{f:Unit→Option β}(h:p):(Gb p).bind f=f ():=bd (if_pos h)
theorem Ks{β:Type}{a b:Int}{f:Int→Option β}(h0:0≤a)(h1:1≤b):(rem a b).bind f=f (a%b):=bd (if_pos ⟨h0,h1⟩)
theorem QZ{β:Type}{a b:Int}{f:Int→Option β}(h0:0≤a)(h1:1≤b):(quo a b).bind f=f (a/b):=bd (if_pos ⟨h0,h1⟩)
theorem OA{β:Type}{n:Int}{b:Nat}{f:Unit→Option β}(h0:0≤n)(h1:n*b≤140737488355328)(a:n≤140737488355328):(Kl n b).bind f=f ():=bd (if_pos ⟨h0,h1,a⟩)
theorem ct{α:Type}{b:Bool}{x y:α}(h:b=true):cond b x y=x:=by rw[h];rfl
theorem cf{α:Type}{b:Bool}{x y:α}(h:b=false):cond b x y=y:=by rw[h];rfl
theorem nt{α:Type}{x y:α}:cond (!true) x y=y:=rfl
theorem nf{α:Type}{x y:α}:cond (!false) x y=x:=rfl
theorem dt{p:Prop}[Decidable p](h:p):decide p=true:=decide_eq_true h
theorem df{p:Prop}[Decidable p](h:¬p):decide p=false:=decide_eq_false h
theorem DG(i:Nat):(i:Int)+1=((i+1:Nat):Int):=by omega
def F7(n a b:Int):Bool:=decide (a≤n)&&decide (n≤b)
theorem FK{n a b:Int}:F7 n a b=true↔a≤n∧n≤b:=by simp[F7]
theorem Nq(K:Nat)(n a b:Int):DW K n a b=some (F7 n a b):=by unfold DW F7;cases decide (a≤n)<;>rfl
theorem Hv(K:Nat)(n a b:Int):Em K n a b=some (F7 n a b):=by unfold Em F7;cases decide (a≤n)<;>rfl
def run {σ α:Type} (cb:σ→α→Option (Bool×σ)):List α→σ→Option (Bool×σ)
 |[],s=>some (true,s)
 |x::l,s=>(cb s x).bind fun r=>cond r.1 (run cb l r.2) (some (false,r.2))
theorem HQ{σ α:Type}(cb:σ→α→Option (Bool×σ))(a:List α):∀(b:List α) (s:σ),run cb (b++a) s=(run cb b s).bind fun r=>cond r.1 (run cb a r.2) (some (false,r.2))
 |[],s=>rfl
 |x::l,s=>by
  simp only[List.cons_append,run];cases cb s x with
  |none=>rfl
  |some r=>
   simp only[Option.bind_some];cases h:r.1 with
   |false=>simp
   |true=>simpa using HQ cb a l r.2
theorem run_map{σ α β:Type}(cb:σ→β→Option (Bool×σ))(f:α→β):∀(l:List α) (s:σ),run cb (l.map f) s=run (fun s x=>cb s (f x)) l s
 |[],s=>rfl
 |x::l,s=>by simp only[List.map_cons,run,run_map cb f l]
theorem Pn{σ:Type}(K:Nat)(cb:σ→Bool→Option (Bool×σ))(p:List Bool)(a:p.length≤5000):∀(n m i:Nat) (s:σ),p.length=i+n→n<m→
  (CT (fun(st:σ) (x:Bool)=>(Es K cb x st).bind fun r=>some (r.1,r.2)) p m (i:Int) s).bind (fun z=>Sum.elim (fun q=>some (decide ((0:Int)≤q.1),q.2)) (fun q=>some (false,q)) z)=(run cb (p.drop i) s).bind fun r=>some (!r.1,r.2):=by
 intro n
 induction n with
 |zero=>
  intro m i s h hm;cases m with
  |zero=>omega
  |succ m=>
   rw[CT.eq_2,cf (df (by omega)),List.drop_eq_nil_of_le (by omega)];rfl
 |succ n ih=>
  intro m i s h hm;cases m with
  |zero=>omega
  |succ m=>
   have hi:i<p.length:=by omega
   rw[CT.eq_2,ct (dt (by omega)),C3 hi,List.drop_eq_getElem_cons hi];simp only[run];have e:(Es K cb p[i] s).bind (fun r=>some (r.1,r.2))=(cb s p[i]).bind fun r=>some (!r.1,r.2):=by
    unfold Es;cases cb s p[i]<;>rfl
   rw[e];cases b:cb s p[i] with
   |none=>rfl
   |some r=>
    simp only[Option.bind_some];cases c:r.1 with
    |false=>
     show some (decide ((0:Int)≤(i:Int)),r.2)=some (!false,r.2);rw[dt (by omega)];rfl
    |true=>
     rw[nt,BJ (by omega) (by omega),DG];exact ih m (i+1) r.2 (by omega) (by omega)
theorem Po{σ:Type}{K:Nat}(cb:σ→Bool→Option (Bool×σ))(p:List Bool)(s:σ)(b:p.length≤5000)(hK:p.length<K):Gk K cb p s=run cb p s:=by
 unfold Gk EI Fj;have h:=Pn K cb p b p.length K 0 s (by omega) hK;rw[List.drop_zero,Int.natCast_zero] at h;have e:∀(z:(Int×σ)⊕σ),(Sum.elim (fun a=>some ((a.1,a.2))) (fun a=>some (((-1),a))) z:Option (Int×σ)).bind (fun r1=>some ((decide ((0:Int)≤r1.1),r1.2)))=Sum.elim (fun q=>some (decide ((0:Int)≤q.1),q.2)) (fun q=>some (false,q)) z:=by
  intro z;cases z<;>rfl
 refine Eq.trans (congrArg (fun z=>Option.bind z _) ((Option.bind_assoc _ _ _).trans ((congrArg (fun f=>Option.bind _ f) (funext e)).trans h))) ?_;cases run cb p s with
 |none=>rfl
 |some r=>show some (!(!r.1),r.2)=some r;rw[Bool.not_not]
theorem PX{σ:Type}(K:Nat)(cb:σ→Bb→Option (Bool×σ))(p:List Bb)(a:p.length≤5000):∀(n m i:Nat) (s:σ),p.length=i+n→n<m→
  (C6 (fun(st:σ) (x:Bb)=>(EO K cb x st).bind fun r=>some (r.1,r.2)) p m (i:Int) s).bind (fun z=>Sum.elim (fun q=>some (decide ((0:Int)≤q.1),q.2)) (fun q=>some (false,q)) z)=(run cb (p.drop i) s).bind fun r=>some (!r.1,r.2):=by
 intro n
 induction n with
 |zero=>
  intro m i s h hm;cases m with
  |zero=>omega
  |succ m=>
   rw[C6.eq_2,cf (df (by omega)),List.drop_eq_nil_of_le (by omega)];rfl
 |succ n ih=>
  intro m i s h hm;cases m with
  |zero=>omega
  |succ m=>
   have hi:i<p.length:=by omega
   rw[C6.eq_2,ct (dt (by omega)),C3 hi,List.drop_eq_getElem_cons hi];simp only[run];have e:(EO K cb p[i] s).bind (fun r=>some (r.1,r.2))=(cb s p[i]).bind fun r=>some (!r.1,r.2):=by
    unfold EO;cases cb s p[i]<;>rfl
   rw[e];cases b:cb s p[i] with
   |none=>rfl
   |some r=>
    simp only[Option.bind_some];cases c:r.1 with
    |false=>
     show some (decide ((0:Int)≤(i:Int)),r.2)=some (!false,r.2);rw[dt (by omega)];rfl
    |true=>
     rw[nt,BJ (by omega) (by omega),DG];exact ih m (i+1) r.2 (by omega) (by omega)
theorem PY{σ:Type}{K:Nat}(cb:σ→Bb→Option (Bool×σ))(p:List Bb)(s:σ)(b:p.length≤5000)(hK:p.length<K):GG K cb p s=run cb p s:=by
 unfold GG EX Fz;have h:=PX K cb p b p.length K 0 s (by omega) hK;rw[List.drop_zero,Int.natCast_zero] at h;have e:∀(z:(Int×σ)⊕σ),(Sum.elim (fun a=>some ((a.1,a.2))) (fun a=>some (((-1),a))) z:Option (Int×σ)).bind (fun r1=>some ((decide ((0:Int)≤r1.1),r1.2)))=Sum.elim (fun q=>some (decide ((0:Int)≤q.1),q.2)) (fun q=>some (false,q)) z:=by
  intro z;cases z<;>rfl
 refine Eq.trans (congrArg (fun z=>Option.bind z _) ((Option.bind_assoc _ _ _).trans ((congrArg (fun f=>Option.bind _ f) (funext e)).trans h))) ?_;cases run cb p s with
 |none=>rfl
 |some r=>show some (!(!r.1),r.2)=some r;rw[Bool.not_not]
def okW (W R:Int):List Bool→Int→Int→Bool
 |[],_,_=>true
 |false::l,s,_=>okW W R l s 0
 |true::l,s,r=>decide (s+1≤W)&&(decide (r+1≤R)&&okW W R l (s+1) (r+1))
theorem JN(K:Nat)(y:Ar):∀(l:List Bool) (r s:Int),0≤r→0≤s→r+l.length≤5000→s+l.length≤5000→
  (run (fun(st:Int×Int) (x:Bool)=>(DN K x st.1 st.2 y).bind fun r=>some (r.1,(r.2.1,r.2.2))) l (r,s)).bind (fun c=>some (c.1))=some (okW y.Ao y.AA l s r)
 |[],r,s,_,_,_,_=>rfl
 |false::l,r,s,h1,b,h3,a=>by
  simp only[run,okW];unfold DN;simp only[Bool.not_false,cond_true,Option.bind_some];exact JN K y l 0 s (by omega) b (by simp at h3;omega) (by simp at a;omega)
 |true::l,r,s,h1,b,h3,a=>by
  simp only[List.length_cons] at h3 a;simp only[run,okW];unfold DN;simp only[Bool.not_true,cond_false];rw[BJ (by omega) (by omega),BJ (by omega) (by omega)];cases d:decide (s+1≤y.Ao) with
  |false=>simp
  |true=>
   simp only[cond_true,Option.bind_some];cases e:decide (r+1≤y.AA) with
   |false=>simp
   |true=>
    simp only[cond_true,Bool.true_and];exact JN K y l (r+1) (s+1) (by omega) (by omega) (by omega) (by omega)
theorem Mz{K:Nat}(y:Ar)(l:List Bool)(a:l.length≤4000)(hK:l.length<K):Ex K y l=some (okW y.Ao y.AA l 0 0):=by
 unfold Ex;rw[Po _ l _ (by omega) hK];exact JN K y l 0 0 (by omega) (by omega) (by omega) (by omega)
end Go.Proofs.YtkljfdkmjdjpfaaGreat
end
section
namespace Go.Proofs.YtkljfdkmjdjpfaaGreat
theorem OB(s x:Nat):Fu (s:Int) (x:Int)=((s/2^x:Nat):Int):=by
 unfold Fu;rw[Int.toNat_natCast,Int.natCast_ediv,Int.natCast_pow];rfl
theorem R6(s x:Nat):Fu (s:Int) (x:Int)%2=((s/2^x%2:Nat):Int):=by rw[OB];simp
theorem PZ(b d:Nat):(Fu (b:Int) (d:Int)%2==1)=b.testBit d:=by
 rw[R6,Nat.testBit_eq_decide_div_mod_eq];cases h:decide (b/2^d%2=1) with
 |true=>rw[of_decide_eq_true h];rfl
 |false=>
  have:=of_decide_eq_false h;simp only[beq_eq_false_iff_ne,ne_eq];omega
theorem P0(b d:Nat)(h:d<64):Nh (b:Int) (d:Int)=some ():=if_pos ⟨by omega,by omega⟩
theorem TF(b d:Nat):0≤Fu (b:Int) (d:Int):=by rw[OB];exact Int.natCast_nonneg _
def wl (n b:Nat):List Bool:=(List.range n).map b.testBit
theorem FF(n b:Nat):(wl n b).length=n:=by simp[wl]
theorem UP(b n:Nat)(a:List Bool)(h0:a.length=n)(d:n≤63):∀(k m i:Nat) (s:List Bool),n=i+k→k<m→s.length=n→
  CK (b:Int) a m (i:Int) s=some (s.take i++(List.range' i k).map b.testBit):=by
 intro k
 induction k with
 |zero=>
  intro m i s h hm c;cases m with
  |zero=>omega
  |succ m=>
   rw[CK.eq_2,cf (df (by omega)),List.take_of_length_le (by omega)];simp
 |succ k ih=>
  intro m i s h hm c;cases m with
  |zero=>omega
  |succ m=>
   have hi:i<s.length:=by omega
   rw[CK.eq_2,ct (dt (by omega)),bd (P0 b i (by omega)),Ks (TF b i) (by omega),C3 hi,BJ (by omega) (by omega),DG,PZ,Int.toNat_natCast];rw[ih m (i+1) (s.set i (b.testBit i)) (by omega) (by omega) (by rw[List.length_set];exact c)]
   congr 1
   rw[List.range'_succ,List.map_cons,List.take_add_one,List.getElem?_set_self hi,List.take_set_of_le (Nat.le_refl _)];simp
theorem UQ(b n:Nat)(s:List Bool)(c:n≤63){K:Nat}(hK:n<K)(a:s.length=n):CK (b:Int) s K 0 s=some (wl n b):=by
 have:=UP b n s a c n K 0 s (by omega) hK a;rw[Int.natCast_zero] at this;rw[this,wl,List.range_eq_range'];rfl
def Hw (y:Ar) (l:List Bool):Bool:=okW y.Ao y.AA l 0 0
def days(y:Ar):Nat:=(y.Am+1).toNat
def Bw(y:Ar):List (List Bool):=((List.range (2^days y)).map (wl (days y))).filter (Hw y)
theorem IP:∀n:Nat,n≤10→2^n≤1024:=by decide
theorem Pp{σ:Type}{K:Nat}(cb:σ→List Bool→Option (Bool×σ))(y:Ar)(hy:days y≤10)(hK:2000≤K):∀(k m i:Nat) (a:List Bool) (st:σ),2^days y=i+k→k<m→a.length=days y→
  CL cb K y m (i:Int) a st=(run cb (((List.range' i k).map (wl (days y))).filter (Hw y)) st).bind fun r=>some (cond r.1 (.inr r.2) (.inl r.2)):=by
 intro k;have f:=IP _ hy;have b:Hr (1:Int) ((List.replicate (y.Am+1).toNat false).length:Int)=((2^days y:Nat):Int):=by
  unfold Hr;rw[Int.one_mul,Int.toNat_natCast,List.length_replicate,Int.natCast_pow];rfl
 induction k with
 |zero=>
  intro m i a st h hm c;cases m with
  |zero=>omega
  |succ m=>
   rw[CL.eq_2,b,cf (df (by omega))];rfl
 |succ k ih=>
  intro m i a st h hm c;cases m with
  |zero=>omega
  |succ m=>
   rw[CL.eq_2,b,ct (dt (by omega)),bd (UQ i (days y) a (by omega) (by omega) c),bd (Mz y (wl (days y) i) (by rw[FF];omega) (by rw[FF];omega))];rw[List.range'_succ,List.map_cons];show cond (Hw y (wl (days y) i)) _ _=_;cases d:Hw y (wl (days y) i) with
   |false=>
    rw[List.filter_cons_of_neg (by rw[d];decide),cf rfl,BJ (by omega) (by omega),DG];exact ih m (i+1) _ st (by omega) (by omega) (FF _ _)
   |true=>
    rw[List.filter_cons_of_pos d,ct rfl];show _=(Option.bind _ _:Option (Bool×σ)).bind _;cases g:cb st (wl (days y) i) with
    |none=>rfl
    |some r=>
     cases e:r.1 with
     |false=>
      show(cond (!r.1) (some (Sum.inl r.2)) _:Option (σ⊕σ))=(cond r.1 _ (some (false,r.2)):Option (Bool×σ)).bind _;rw[e];rfl
     |true=>
      show cond (!r.1) _ ((i64 ((i:Int)+1)).bind _)=(cond r.1 (run cb _ r.2) _:Option (Bool×σ)).bind _;rw[e,nt,BJ (by omega) (by omega),DG];exact ih m (i+1) _ r.2 (by omega) (by omega) (FF _ _)
theorem LJ{σ:Type}{K:Nat}(cb:σ→List Bool→Option (Bool×σ))(y:Ar)(h0:0≤y.Am)(h9:y.Am≤9)(hK:2000≤K)(st:σ):
  Dt K cb y st=(run cb (Bw y) st).bind fun r=>some r.2:=by
 have a:days y≤10:=by unfold days;omega
 have c:=IP _ a;unfold Dt;rw[BJ (by omega) (by omega),OA (by omega) (by omega) (by omega)];have b:L3 (1:Int) ((List.replicate (y.Am+1).toNat false).length:Int)=some ():=by
  rw[List.length_replicate];refine if_pos ⟨by omega,by omega,?_,?_⟩
  ·have:(0:Int)≤1*2^((days y:Nat):Int).toNat:=by rw[Int.one_mul];exact Int.le_of_lt (Int.pow_pos (by omega))
   exact Int.le_trans (by omega) this
  ·rw[Int.one_mul,Int.toNat_natCast];have:((2^days y:Nat):Int)≤1024:=by omega
   rw[Int.natCast_pow] at this;exact Int.le_trans this (by omega)
 rw[bd b];have:=Pp (K:=K) cb y a hK (2^days y) K 0 (List.replicate (y.Am+1).toNat false) st (by omega) (by omega) (by rw[List.length_replicate];rfl);rw[Int.natCast_zero] at this;rw[this,Bw,List.range_eq_range',Option.bind_assoc]
 congr 1;funext r
 cases r.1<;>rfl
end Go.Proofs.YtkljfdkmjdjpfaaGreat
end
section
namespace Go.Proofs.YtkljfdkmjdjpfaaGreat
def Gl(y:Ar)(l:Bb):Bool:=decide (0≤l.Au)&&(decide (l.Au≤l.AJ)&&(decide (l.AJ≤y.Am)&&(F7 l.AM 1 5&&(F7 l.Cc 1 5&&F7 l.Ct 0 y.Am))))
def B0(l:Bb):Int:=l.AJ-l.Au+1
def EY:List Bb→Int
 |[]=>1
 |l::r=>B0 l*EY r
def Gm (y:Ar):Int:=((Bw y).length:Int)*EY y.Ag
def check(y:Ar):Int:=
 if 9<y.Am∨2<y.Ak∨4<(y.Ag.length:Int) then 3
 else if y.Am<0∨y.Ak<1∨F7 y.Ao 0 (y.Am+1)=false∨F7 y.AA 0 (y.Am+1)=false∨y.Ag.all (Gl y)=false then 1
 else if 1000<Gm y then 3 else 0
theorem Ia{y:Ar}{l:Bb}:Gl y l=true↔0≤l.Au∧l.Au≤l.AJ∧l.AJ≤y.Am∧(1≤l.AM∧l.AM≤5)∧(1≤l.Cc∧l.Cc≤5)∧0≤l.Ct∧l.Ct≤y.Am:=by
 unfold Gl;simp only[Bool.and_eq_true,decide_eq_true_eq,FK]
theorem UR(K:Nat)(y:Ar)(l:Bb):E4 K y l=some (Gl y l):=by
 unfold E4 Gl G6 GV;rw[Hv,Hv,Hv];cases decide ((0:Int)≤l.Au)<;>cases decide (l.Au≤l.AJ)<;>cases decide (l.AJ≤y.Am)<;>cases F7 l.AM 1 5<;>cases F7 l.Cc 1 5<;>rfl
theorem TG{K:Nat}(hK:2<K)(a b:Int):GH K [a,b]=some (min a b):=by
 obtain⟨k,rfl⟩:∃k,K=k+3:=⟨K-3,by omega⟩;unfold GH GP;rw[cf (df (by simp)),show(0:Int)=((0:Nat):Int) from rfl,C3 (by simp),show(1:Int)=((1:Nat):Int) from rfl,Ey.eq_2,ct (dt (by simp)),C3 (by simp),BJ (by omega) (by omega),Ey.eq_2,cf (df (by simp))];rfl
theorem P1(K:Nat)(l:Bb)(h0:0≤l.Au)(h1:l.Au≤l.AJ)(a:l.AJ≤9):Fa K (⟨l.Au,l.AJ⟩:CB)=some (B0 l):=by
 unfold Fa;show(i64 (l.AJ-l.Au)).bind _=_;rw[BJ (by omega) (by omega)];show(i64 (l.AJ-l.Au+1)).bind _=_;rw[BJ (by omega) (by omega)];rfl
theorem P2(K:Nat)(l:Bb)(h0:0≤l.Au)(h1:l.Au≤l.AJ)(a:l.AJ≤9):Ei K (⟨l.Au,l.AJ⟩:CB)=some (B0 l):=by
 unfold Ei;show(i64 (l.AJ-l.Au)).bind _=_;rw[BJ (by omega) (by omega)];show(i64 (l.AJ-l.Au+1)).bind _=_;rw[BJ (by omega) (by omega)];rfl
def Je(c:Int):Int→List Bb→Int
 |n,[]=>n
 |n,l::r=>Je c (min (n*B0 l) c) r
def sized(l:Bb):Prop:=1≤B0 l∧B0 l≤10
theorem Lh{y:Ar}{l:Bb}(h9:y.Am≤9)(h:Gl y l=true):sized l:=by
 obtain⟨h1,a,h3,_⟩:=Ia.1 h;unfold sized B0;omega
theorem Ku:∀{ls:List Bb},(∀l∈ls,sized l)→1≤EY ls
 |[],_=>Int.le_refl _
 |l::r,h=>by
  have h1:=(h l (List.mem_cons_self ..)).1;have a:=Ku (ls:=r) fun x b=>h x (List.mem_cons_of_mem _ b);have:=Int.mul_le_mul h1 a (by omega) (by omega);unfold EY;omega
theorem L8{c:Int}(d:1000<c):∀{ls:List Bb} (n:Int),0≤n→(∀l∈ls,sized l)→(1000<Je c n ls↔1000<n*EY ls)
 |[],n,_,_=>by simp[Je,EY]
 |l::r,n,e,h=>by
  have f:=h l (List.mem_cons_self ..);have a:∀x∈r,sized x:=fun x g=>h x (List.mem_cons_of_mem _ g);have b:=Ku a;have h0:0≤n*B0 l:=Int.mul_nonneg e (by have:=f.1;omega);unfold Je EY;rw[L8 d _ (by omega) a,←Int.mul_assoc];rcases Int.le_total (n*B0 l) c with h1|h1
  ·rw[Int.min_eq_left h1]
  ·rw[Int.min_eq_right h1];have i:c*1≤c*EY r:=Int.mul_le_mul_of_nonneg_left b (by omega);have h3:(n*B0 l)*1≤n*B0 l*EY r:=Int.mul_le_mul_of_nonneg_left b h0;constructor<;>intro _<;>omega
theorem OC{c:Int}(b:1000<c):∀{ls:List Bb} (n:Int),0≤n→(∀l∈ls,sized l)→n*EY ls≤1000→Je c n ls=n*EY ls
 |[],n,_,_,_=>by simp[Je,EY]
 |l::r,n,d,h,hle=>by
  have e:=h l (List.mem_cons_self ..);have a:∀x∈r,sized x:=fun x f=>h x (List.mem_cons_of_mem _ f);have g:=Ku a;have h0:0≤n*B0 l:=Int.mul_nonneg d (by have:=e.1;omega);rw[EY,←Int.mul_assoc] at hle;rw[Je,EY,←Int.mul_assoc];have h3:(n*B0 l)*1≤n*B0 l*EY r:=Int.mul_le_mul_of_nonneg_left g h0;rw[Int.min_eq_left (by omega),OC b _ h0 a hle]
theorem R7(y:Ar)(g:y.Ag.length≤4)(a:∀l∈y.Ag,sized l∧0≤l.Au∧l.AJ≤9){K:Nat}(hK:2000≤K):∀(k m i:Nat) (n:Int),y.Ag.length=i+k→k<m→0≤n→n≤3000→
  DX K y m (i:Int) n=some (Je 1001 n (y.Ag.drop i)):=by
 intro k
 induction k with
 |zero=>
  intro m i n h hm h0 h1;cases m with
  |zero=>omega
  |succ m=>rw[DX.eq_2,cf (df (by omega)),List.drop_eq_nil_of_le (by omega)];rfl
 |succ k ih=>
  intro m i n h hm h0 h1;cases m with
  |zero=>omega
  |succ m=>
   have hi:i<y.Ag.length:=by omega
   obtain⟨⟨s1,s2⟩,b,c⟩:=a y.Ag[i] (List.getElem_mem hi);have d:1≤B0 y.Ag[i]∧B0 y.Ag[i]≤10:=⟨s1,s2⟩;have e:0≤n*B0 y.Ag[i]:=Int.mul_nonneg h0 (by omega);have f:n*B0 y.Ag[i]≤3000*10:=Int.mul_le_mul h1 s2 (by omega) (by omega);rw[DX.eq_2,ct (dt (by omega)),C3 hi,bd (P1 K _ b (by unfold B0 at s1;omega) c),BJ (by omega) (by omega),bd (TG (by omega) _ _),BJ (by omega) (by omega),DG];rw[ih m (i+1) _ (by omega) (by omega) (by omega) (by omega),List.drop_eq_getElem_cons hi];rfl
theorem TH(y:Ar)(g:y.Ag.length≤4)(a:∀l∈y.Ag,sized l∧0≤l.Au∧l.AJ≤9){K:Nat}:∀(k m i:Nat) (n:Int),y.Ag.length=i+k→k<m→0≤n→n≤3000→
  DK K y m n (i:Int)=some (Je 3000 n (y.Ag.drop i)):=by
 intro k
 induction k with
 |zero=>
  intro m i n h hm h0 h1;cases m with
  |zero=>omega
  |succ m=>rw[DK.eq_2,cf (df (by omega)),List.drop_eq_nil_of_le (by omega)];rfl
 |succ k ih=>
  intro m i n h hm h0 h1;cases m with
  |zero=>omega
  |succ m=>
   have hi:i<y.Ag.length:=by omega
   obtain⟨⟨s1,s2⟩,b,c⟩:=a y.Ag[i] (List.getElem_mem hi);have d:1≤B0 y.Ag[i]∧B0 y.Ag[i]≤10:=⟨s1,s2⟩;have e:0≤n*B0 y.Ag[i]:=Int.mul_nonneg h0 (by omega);have f:n*B0 y.Ag[i]≤3000*10:=Int.mul_le_mul h1 s2 (by omega) (by omega);rw[DK.eq_2,ct (dt (by omega)),C3 hi,bd (P2 K _ b (by unfold B0 at s1;omega) c),BJ (by omega) (by omega),BJ (by omega) (by omega),DG,Int.min_comm];rw[ih m (i+1) _ (by omega) (by omega) (by omega) (by omega),List.drop_eq_getElem_cons hi];rfl
theorem MA{α:Type}:∀(l:List α) (n:Int),0≤n→n+l.length≤100000→run (fun(st:Int) (_:α)=>(i64 (st+1)).bind fun _=>some (true,st+1)) l n=some (true,n+l.length)
 |[],n,_,_=>by simp[run]
 |x::l,n,h0,h1=>by
  simp only[List.length_cons] at h1⊢;rw[run,BJ (by omega) (by omega)];show run _ l (n+1)=_;rw[MA l (n+1) (by omega) (by omega)]
  congr 2;omega
theorem Kw(y:Ar)(h:days y≤10):(Bw y).length≤1024:=by
 have h1:=IP _ h;have:(Bw y).length≤((List.range (2^days y)).map (wl (days y))).length:=List.length_filter_le ..;simp at this;omega
theorem MB{K:Nat}(y:Ar):∀(l:List Bb),run (fun(st:Unit) (x:Bb)=>(E4 K y x).bind fun r=>some (r,())) l ()=some (l.all (Gl y),())
 |[]=>rfl
 |x::l=>by
  rw[run,UR];show cond (Gl y x) (run _ l ()) (some (false,()))=_;rw[MB y l,List.all_cons];cases Gl y x<;>rfl
theorem Ix{K:Nat}(hK:2000≤K)(y:Ar):Du K y=some (check y):=by
 unfold Du check
 by_cases h1:9<y.Am
 ·rw[ct (dt h1),if_pos (.inl h1)]
 rw[cf (df h1)]
 by_cases g:2<y.Ak
 ·rw[ct (dt g),if_pos (.inr (.inl g))]
 rw[cf (df g)]
 by_cases h3:4<(y.Ag.length:Int)
 ·rw[ct (dt h3),if_pos (.inr (.inr h3))]
 rw[cf (df h3),if_neg (by omega)]
 by_cases b:y.Am<0
 ·rw[ct (dt b),if_pos (.inl b)]
 rw[cf (df b)]
 by_cases d:y.Ak<1
 ·rw[ct (dt d),if_pos (.inr (.inl d))]
 rw[cf (df d),BJ (by omega) (by omega),bd (Hv ..)];cases p:F7 y.Ao 0 (y.Am+1) with
 |false=>rw[nf,if_pos (.inr (.inr (.inl rfl)))]
 |true=>
  rw[nt,BJ (by omega) (by omega),bd (Hv ..)];cases q:F7 y.AA 0 (y.Am+1) with
  |false=>rw[nf,if_pos (.inr (.inr (.inr (.inl rfl))))]
  |true=>
   rw[nt,PY _ _ _ (by omega) (by omega),bd (MB y y.Ag)];cases m:y.Ag.all (Gl y) with
   |false=>rw[nf,if_pos (.inr (.inr (.inr (.inr rfl))))]
   |true=>
    rw[nt,if_neg (by simp[b,d])];have n:days y≤10:=by unfold days;omega
    have hw:=Kw y n;have j:∀l∈y.Ag,sized l∧0≤l.Au∧l.AJ≤9:=fun l i=>by
     have k:=List.all_eq_true.1 m l i;have:=Ia.1 k;exact⟨Lh (by omega) k,this.1,by omega⟩
    have o:Dt K (fun(st:Int) (x:List Bool)=>E5 st x) y (0:Int)=some ((Bw y).length:Int):=by
     rw[LJ _ y (by omega) (by omega) hK];show(run (fun(st:Int) (_:List Bool)=>(i64 (st+1)).bind fun _=>some (true,st+1)) (Bw y) 0).bind _=_;rw[MA _ 0 (by omega) (by omega)];simp
    have a:=R7 y (by omega) j hK y.Ag.length K 0 ((Bw y).length:Int) (by omega) (by omega) (by omega) (by omega);rw[Int.natCast_zero,List.drop_zero] at a;rw[bd o,bd a];have f:=L8 (c:=1001) (by omega) ((Bw y).length:Int) (by omega) fun l i=>(j l i).1;unfold Gm
    by_cases e:1000<((Bw y).length:Int)*EY y.Ag
    ·rw[ct (dt (f.2 e)),if_pos e]
    ·rw[cf (df fun h=>e (f.1 h)),if_neg e]
end Go.Proofs.YtkljfdkmjdjpfaaGreat
end
section
namespace Go.Proofs.YtkljfdkmjdjpfaaGreat
def ED:List Bb→List (List Int)
 |[]=>[[]]
 |l::r=>(List.range (B0 l).toNat).flatMap fun(n:Nat)=>(ED r).map fun c=>(l.Au+(n:Int))::c
def Cm(y:Ar):List AZ:=(Bw y).flatMap fun w=>(ED y.Ag).map fun c=>⟨c,w⟩
section
variable{σ:Type}{K:Nat}(cb:σ→AZ→Option (Bool×σ))(y:Ar)(w:List Bool)
def Tr (k i:Nat):Prop:=∀(c:List Int) (st:σ),c.length=y.Ag.length→
 (BS K cb k (i:Int) c w y st).map (fun z=>(z.1,z.2.2))=run (fun s d=>cb s ⟨c.take i++d,w⟩) (ED (y.Ag.drop i)) st∧
 ∀z,BS K cb k (i:Int) c w y st=some z→z.2.1.length=y.Ag.length∧z.2.1.take i=c.take i
def Q0{α β:Type}:(Bool×α×β)⊕(α×β)→Bool×β
 |.inl x=>(false,x.2.2)
 |.inr x=>(true,x.2)
def TI{α β:Type}:(Bool×α×β)⊕(α×β)→α
 |.inl x=>x.2.1
 |.inr x=>x.1
theorem Q1(k i:Nat)(hi:i<y.Ag.length)(aJ:y.Ag.length≤4)(aB:∀l∈y.Ag,sized l∧0≤l.Au∧l.AJ≤9)(ih:Tr (K:=K) cb y w k (i+1)):
  ∀(n m j:Nat) (c:List Int) (st:σ),(B0 y.Ag[i]).toNat=j+n→n<m→c.length=y.Ag.length→
  (B9 (BS K cb k) (i:Int) w y (B0 y.Ag[i]) m (j:Int) c st).map Q0=run (fun s d=>cb s ⟨c.take i++d,w⟩) ((List.range' j n).flatMap fun(q:Nat)=>(ED (y.Ag.drop (i+1))).map fun d=>(y.Ag[i].Au+(q:Int))::d) st∧
  ∀z,B9 (BS K cb k) (i:Int) w y (B0 y.Ag[i]) m (j:Int) c st=some z→(TI z).length=y.Ag.length∧(TI z).take i=c.take i∧(∀x,z=.inl x→x.1=false):=by
 obtain⟨⟨s1,s2⟩,aK,aL⟩:=aB y.Ag[i] (List.getElem_mem hi);have aH:1≤B0 y.Ag[i]∧B0 y.Ag[i]≤10:=⟨s1,s2⟩;intro n
 induction n with
 |zero=>
  intro m j c st h hm o;cases m with
  |zero=>omega
  |succ m=>
   rw[B9.eq_2,cf (df (by omega))];exact⟨rfl,fun z b=>by cases b;exact⟨o,rfl,fun x p=>by cases p⟩⟩
 |succ n u=>
  intro m j c st h hm o;cases m with
  |zero=>omega
  |succ m=>
   have f:i<c.length:=by omega
   have aI:y.Ag[i].Au≤9:=by unfold B0 at s1;omega
   rw[B9.eq_2,ct (dt (by omega)),C3 hi,BJ (by omega) (by omega),C3 f,BJ (by omega) (by omega),DG i,Int.toNat_natCast];have v:(c.set i (y.Ag[i].Au+(j:Int))).length=y.Ag.length:=by rw[List.length_set];exact o
   have g:(c.set i (y.Ag[i].Au+(j:Int))).take (i+1)=c.take i++[y.Ag[i].Au+(j:Int)]:=by
    rw[List.take_add_one,List.getElem?_set_self f,List.take_set_of_le (Nat.le_refl _)];rfl
   obtain⟨t,aC⟩:=ih _ st v;rw[g] at t;rw[List.range'_succ,List.flatMap_cons,HQ,run_map];have aD:run (fun s d=>cb s ⟨c.take i++[y.Ag[i].Au+(j:Int)]++d,w⟩) (ED (y.Ag.drop (i+1))) st=run (fun s d=>cb s ⟨c.take i++(y.Ag[i].Au+(j:Int))::d,w⟩) (ED (y.Ag.drop (i+1))) st:=by
    congr 1;funext s d;rw[List.append_assoc];rfl
   rw[aD] at t;rw[←t];cases aE:BS K cb k ((i+1:Nat):Int) (c.set i (y.Ag[i].Au+(j:Int))) w y st with
   |none=>exact⟨rfl,fun z b=>by cases b⟩
   |some r=>
    obtain⟨h1,aF⟩:=aC r aE;have h3:r.2.1.take i=c.take i:=by
     have:=congrArg (List.take i) aF;rw[List.take_take,Nat.min_eq_left (by omega),g,List.take_append_of_le_length (by rw[List.length_take];omega),List.take_take,Nat.min_self] at this;exact this
    obtain⟨aG,rc,e⟩:=r;cases aG with
    |false=>
     refine⟨rfl,fun z b=>?_⟩;have aA:some (Sum.inl (false,rc,e))=some z:=b;cases aA;exact⟨h1,h3,fun x p=>by cases p;rfl⟩
    |true=>
     have key:(Option.bind (some (true,rc,e)) fun a=>cond (!a.1) (some (Sum.inl (false,a.2.1,a.2.2))) ((i64 ((j:Int)+1)).bind fun _=>B9 (BS K cb k) (i:Int) w y (B0 y.Ag[i]) m ((j:Int)+1) a.2.1 a.2.2))=B9 (BS K cb k) (i:Int) w y (B0 y.Ag[i]) m ((j+1:Nat):Int) rc e:=by
      rw[Option.bind_some,nt,BJ (by omega) (by omega),DG j]
     have:=u m (j+1) rc e (by omega) (by omega) h1;rw[h3] at this;rw[key];exact this
theorem Pq(p:y.Ag.length≤4)(g:∀l∈y.Ag,sized l∧0≤l.Au∧l.AJ≤9)(hK:2000≤K):∀(n k i:Nat),y.Ag.length=i+n→n<k→Tr (K:=K) cb y w k i:=by
 intro n
 induction n with
 |zero=>
  intro k i h q c st f;cases k with
  |zero=>omega
  |succ k=>
   rw[BS.eq_2,ct (by rw[f,h];simp),List.drop_eq_nil_of_le (by omega)];have ht:c.take i=c:=List.take_of_length_le (by omega);rw[ht];simp only[ED,run,List.append_nil];cases cb st ⟨c,w⟩ with
   |none=>exact⟨rfl,fun z a=>by cases a⟩
   |some r=>
    obtain⟨b,s⟩:=r;refine⟨by cases b<;>rfl,fun z a=>?_⟩;have e:some (b,c,s)=some z:=a;cases e;exact⟨f,ht⟩
 |succ n ih=>
  intro k i h q c st f;cases k with
  |zero=>omega
  |succ k=>
   have hi:i<y.Ag.length:=by omega
   obtain⟨⟨s1,s2⟩,t,u⟩:=g y.Ag[i] (List.getElem_mem hi);rw[BS.eq_2,cf (by rw[f];simp;omega),C3 hi,bd (P1 K _ t (by unfold B0 at s1;omega) u)];obtain⟨j,m⟩:=Q1 cb y w k i hi p g (ih k (i+1) (by omega) (by omega)) (B0 y.Ag[i]).toNat K 0 c st (by omega) (by omega) f;rw[Int.natCast_zero] at j m;rw[List.drop_eq_getElem_cons hi,ED,List.range_eq_range',←j];cases v:B9 (BS K cb k) (i:Int) w y (B0 y.Ag[i]) K 0 c st with
   |none=>exact⟨rfl,fun z a=>by cases a⟩
   |some r=>
    obtain⟨h1,o,h3⟩:=m r v;cases r with
    |inl x=>
     obtain⟨b,d,s⟩:=x;obtain rfl:=h3 _ rfl;refine⟨rfl,fun z a=>?_⟩;have e:some (false,d,s)=some z:=a;cases e;exact⟨h1,o⟩
    |inr x=>
     obtain⟨d,s⟩:=x;refine⟨rfl,fun z a=>?_⟩;have e:some (true,d,s)=some z:=a;cases e;exact⟨h1,o⟩
end
theorem MC{σ:Type}{K:Nat}(cb:σ→AZ→Option (Bool×σ))(y:Ar)(e:y.Ag.length≤4)(f:∀l∈y.Ag,sized l∧0≤l.Au∧l.AJ≤9)(hK:2000≤K):∀(ws:List (List Bool)) (c:List Int) (st:σ),c.length=y.Ag.length→
  (run (fun(st:(List Int)×σ×Bool) (x:(List Bool))=>cond st.2.2 none (Dh cb K y st.1 st.2.1 x)) ws (c,st,false)).bind (fun a=>cond (a.2.2.2) (some (a.2.2.1)) (some (a.2.2.1)))=
  (run cb (ws.flatMap fun w=>(ED y.Ag).map fun c=>(⟨c,w⟩:AZ)) st).bind fun r=>some r.2
 |[],c,st,_=>rfl
 |w::ws,c,st,i=>by
  obtain⟨g,h⟩:=Pq cb y w e f hK y.Ag.length K 0 (by omega) (by omega) c st i;rw[Int.natCast_zero,List.drop_zero,List.take_zero] at g;rw[Int.natCast_zero] at h;rw[List.flatMap_cons,HQ,run_map];have j:run (fun s d=>cb s ⟨[]++d,w⟩) (ED y.Ag) st=run (fun s d=>cb s (⟨d,w⟩:AZ)) (ED y.Ag) st:=rfl;rw[←j,←g,run];show(Option.bind (Dh cb K y c st w) _:Option _).bind _=_;unfold Dh;cases k:BS K cb K 0 c w y st with
  |none=>rfl
  |some r=>
   obtain⟨h1,m⟩:=h r k;obtain⟨b,d,s⟩:=r;cases b with
   |false=>rfl
   |true=>
    show(run _ ws (d,s,false)).bind _=(run cb _ s).bind _;exact MC cb y e f hK ws d s h1
theorem Q2{σ:Type}{K:Nat}(cb:σ→AZ→Option (Bool×σ))(y:Ar)(h0:0≤y.Am)(h9:y.Am≤9)(a:y.Ag.length≤4)(b:∀l∈y.Ag,sized l∧0≤l.Au∧l.AJ≤9)(hK:2000≤K)(st:σ):
  E6 K cb y st=(run cb (Cm y) st).bind fun r=>some r.2:=by
 unfold E6;rw[OA (by omega) (by omega) (by omega),LJ _ y h0 h9 hK,Option.bind_assoc];exact MC cb y a b hK (Bw y) (List.replicate (y.Ag.length:Int).toNat (0:Int)) st (by rw[List.length_replicate];omega)
end Go.Proofs.YtkljfdkmjdjpfaaGreat
end
section
namespace Go.Proofs.YtkljfdkmjdjpfaaGreat
def HR:Bb:=⟨0,0,0,0,0⟩
def DI(y:Ar)(i:Int):Bb:=y.Ag.getD i.toNat HR
def Dd(c:List Int)(i:Int):Int:=c.getD i.toNat 0
def E8 (l:Bb) (d0:Int):List Bool→Int→Int→Int→Av
 |[],_,_,_=>⟨d0,-1,false⟩
 |true::ws,d,DH,run=>cond (DH==l.AM) ⟨d0,d,DH==l.AM⟩ (cond (run+1==l.Cc) ⟨d0,d,DH==l.AM⟩ (E8 l d0 ws (d+1) DH (run+1)))
 |false::ws,d,DH,run=>cond (DH+1==l.AM) ⟨d0,d,DH+1==l.AM⟩ (cond ((0:Int)==l.Cc) ⟨d0,d,DH+1==l.AM⟩ (E8 l d0 ws (d+1) (DH+1) 0))
def C1(y:Ar)(w:List Bool)(l:Bb)(d:Int):Av:=if y.Am<d then ⟨-1,-1,false⟩ else E8 l d (w.drop d.toNat) d 0 0
def wk(y:Ar)(w:List Bool)(m:List (List Int×Av)):Cy:=⟨y.Am,y.Ak,y.Ao,y.AA,y.Ag,w,m⟩
theorem US(y:Ar)(w:List Bool)(mm:List (List Int×Av))(p:HO)(l:Bb)(h9:y.Am≤9)(hw:(w.length:Int)=y.Am+1)(b0 f:Int)(g:Bool):∀(k m d:Nat) (DH r:Int),y.Am+1=d+k→k<m→0≤DH→DH≤d→0≤r→r≤d→
  (DS (wk y w mm) p l m DH r (d:Int) b0 f g).bind (fun z=>Sum.elim (fun a=>some ((⟨a.1,a.2.1,a.2.2⟩:Av))) (fun a=>some ((⟨p.day,(-1),false⟩:Av))) z)=some (E8 l p.day (w.drop d) (d:Int) DH r):=by
 intro k
 induction k with
 |zero=>
  intro m d DH r h hm h0 h1 i h3;cases m with
  |zero=>omega
  |succ m=>
   rw[DS.eq_2,cf (df (by show¬(d:Int)≤y.Am;omega)),List.drop_eq_nil_of_le (by omega)];rfl
 |succ k ih=>
  intro m d DH r h hm h0 h1 i h3;cases m with
  |zero=>omega
  |succ m=>
   have b:d<w.length:=by omega
   have c:d<(wk y w mm).Da.length:=b;rw[DS.eq_2,ct (dt (by show(d:Int)≤y.Am;omega)),C3 c,List.drop_eq_getElem_cons b];have e:(wk y w mm).Da[d]=w[d]:=rfl;rw[e];cases o:w[d] with
   |true=>
    rw[ct rfl,BJ (by omega) (by omega),E8];cases j:(DH==l.AM) with
    |true=>rw[ct rfl,ct rfl];rfl
    |false=>
     rw[cf rfl,cf rfl];cases n:(r+1==l.Cc) with
     |true=>rw[ct rfl,ct rfl];rfl
     |false=>
      rw[cf rfl,cf rfl,BJ (by omega) (by omega),DG];exact ih m (d+1) DH (r+1) (by omega) (by omega) h0 (by omega) (by omega) (by omega)
   |false=>
    rw[cf rfl,BJ (by omega) (by omega),E8];cases j:(DH+1==l.AM) with
    |true=>rw[ct rfl,ct rfl];rfl
    |false=>
     rw[cf rfl,cf rfl];cases n:((0:Int)==l.Cc) with
     |true=>rw[ct rfl,ct rfl];rfl
     |false=>
      rw[cf rfl,cf rfl,BJ (by omega) (by omega),DG];exact ih m (d+1) (DH+1) 0 (by omega) (by omega) (by omega) (by omega) (by omega) (by omega)
theorem UT{K:Nat}(y:Ar)(w:List Bool)(mm:List (List Int×Av))(i d:Int)(h9:y.Am≤9)(hw:(w.length:Int)=y.Am+1)(a:0≤i)(hi:i<(y.Ag.length:Int))(c:0≤d)(hK:2000≤K):
  FI K (wk y w mm) ⟨i,d⟩=some (C1 y w (DI y i) d):=by
 unfold FI C1;show cond (decide (y.Am<d)) _ ((idx y.Ag i).bind _)=_
 by_cases h:y.Am<d
 ·rw[ct (dt h),if_pos h]
 rw[cf (df h),if_neg h];obtain⟨i,rfl⟩:=Int.eq_ofNat_of_zero_le a;obtain⟨d,rfl⟩:=Int.eq_ofNat_of_zero_le c;have b:i<y.Ag.length:=by omega
 rw[C3 b];have e:y.Ag[i]=DI y (i:Int):=by
  show y.Ag[i]=y.Ag.getD ((i:Int)).toNat HR;rw[Int.toNat_natCast,List.getD_eq_getElem?_getD,List.getElem?_eq_getElem (by omega)];rfl
 rw[e,Int.toNat_natCast];exact US y w mm ⟨(i:Int),(d:Int)⟩ _ h9 hw 0 0 false (y.Am+1-d).toNat K d 0 0 (by omega) (by omega) (by omega) (by omega) (by omega) (by omega)
def GI (y:Ar) (w:List Bool) (m:List (List Int×Av)):Prop:=∀(i d:Int) (s:Av),BF m [i,d]=some s→s=C1 y w (DI y i) d
theorem Nr(y:Ar)(w:List Bool):GI y w []:=fun i d s h=>by cases h
theorem TJ{K:Nat}(y:Ar)(w:List Bool)(mm:List (List Int×Av))(i d:Int)(h9:y.Am≤9)(hw:(w.length:Int)=y.Am+1)(e:0≤i)(hi:i<(y.Ag.length:Int))(j:0≤d)(hK:2000≤K)(hm:GI y w mm):
  ∃c,Fv K (wk y w mm) ⟨i,d⟩=some (C1 y w (DI y i) d,c)∧GI y w c:=by
 unfold Fv;show∃c,cond (!(BF mm [i,d]).isSome) ((FI K (wk y w mm) ⟨i,d⟩).bind _) _=_∧_;cases f:BF mm [i,d] with
 |none=>
  rw[bd (UT y w mm i d h9 hw e hi j hK)];refine⟨_,rfl,fun i2 d2 s h=>?_⟩;have a:BF (HK mm [i,d] (C1 y w (DI y i) d)) [i2,d2]=some s:=h;rw[Of] at a;split at a
  ·rename_i he
   have b:=List.cons.inj he;have g:=List.cons.inj b.2;rw[b.1,g.1];exact(Option.some.inj a).symm
  ·exact hm i2 d2 s a
 |some s=>
  refine⟨mm,?_,hm⟩;show some ((BF mm [i,d]).getD ⟨0,0,false⟩,mm)=_;rw[f,hm i d s f];rfl
def Gx (y:Ar) (w:List Bool) (c:List Int):List Int→Int→List Av→List Av
 |[],_,out=>out
 |i::r,free,out=>
  let s:=C1 y w (DI y i) (max free (Dd c i))
  Gx y w c r (cond (s.AD==-1) (y.Am+1) (s.AD+1)) (out.set i.toNat s)
def Gy(y:Ar)(w:List Bool)(c:List Int):List (List Int)→List Av→List Av
 |[],out=>out
 |l::r,out=>Gy y w c r (Gx y w c l 0 out)
def JO:Av:=⟨0,0,false⟩
def Gz(y:Ar)(w:List Bool)(order:List (List Int))(c:List Int):List Av:=Gy y w c order (List.replicate y.Ag.length JO)
theorem HS(y:Ar)(w:List Bool)(c:List Int):∀(l:List Int) (free:Int) (out:List Av),(Gx y w c l free out).length=out.length
 |[],_,_=>rfl
 |i::r,free,out=>by rw[Gx,HS y w c r];simp
theorem Kx(y:Ar)(w:List Bool)(c:List Int):∀(l:List (List Int)) (out:List Av),(Gy y w c l out).length=out.length
 |[],_=>rfl
 |i::r,out=>by rw[Gy,Kx y w c r,HS]
theorem Li(l:Bb)(d0:Int):∀(ws:List Bool) (d DH r:Int),0≤d→(E8 l d0 ws d DH r).AD=-1∨(d≤(E8 l d0 ws d DH r).AD∧(E8 l d0 ws d DH r).AD<d+ws.length)
 |[],d,DH,r,_=>.inl rfl
 |true::ws,d,DH,r,h=>by
  rw[E8];cases (DH==l.AM) with
  |true=>right;simp;omega
  |false=>
   cases (r+1==l.Cc) with
   |true=>right;simp;omega
   |false=>
    rcases Li l d0 ws (d+1) DH (r+1) (by omega) with h1|h1
    ·exact .inl h1
    ·right;simp only[List.length_cons,cond_false];omega
 |false::ws,d,DH,r,h=>by
  rw[E8];cases (DH+1==l.AM) with
  |true=>right;simp;omega
  |false=>
   cases ((0:Int)==l.Cc) with
   |true=>right;simp;omega
   |false=>
    rcases Li l d0 ws (d+1) (DH+1) 0 (by omega) with h1|h1
    ·exact .inl h1
    ·right;simp only[List.length_cons,cond_false];omega
theorem MD(y:Ar)(w:List Bool)(l:Bb)(d:Int)(a:0≤d)(hw:(w.length:Int)=y.Am+1):(C1 y w l d).AD=-1∨(d≤(C1 y w l d).AD∧(C1 y w l d).AD≤y.Am):=by
 unfold C1
 by_cases h:y.Am<d
 ·rw[if_pos h];exact .inl rfl
 ·rw[if_neg h];rcases Li l d (w.drop d.toNat) d 0 0 a with h1|h1
  ·exact .inl h1
  ·right;rw[List.length_drop] at h1;omega
theorem R8{K:Nat}(y:Ar)(w:List Bool)(a:List (List Int×Av))(c l:List Int)(h0:0≤y.Am)(h9:y.Am≤9)(hw:(w.length:Int)=y.Am+1)(hK:2000≤K)(x:∀i∈l,0≤i∧i<(y.Ag.length:Int))(aE:c.length=y.Ag.length)(aC:l.length≤1000):
  ∀(k m j:Nat) (free:Int) (out:List Av) (mm:List (List Int×Av)),l.length=j+k→k<m→0≤free→out.length=y.Ag.length→GI y w mm→
  ∃b,DD K (wk y w a) c l m free (j:Int) out mm=some (Gx y w c (l.drop j) free out,b)∧GI y w b:=by
 intro k
 induction k with
 |zero=>
  intro m j free out mm h hm z f g;cases m with
  |zero=>omega
  |succ m=>rw[DD.eq_2,cf (df (by omega)),List.drop_eq_nil_of_le (by omega)];exact⟨mm,rfl,g⟩
 |succ k ih=>
  intro m j free out mm h hm z f g;cases m with
  |zero=>omega
  |succ m=>
   have n:j<l.length:=by omega
   obtain⟨d,p⟩:=x l[j] (List.getElem_mem n);obtain⟨i,hi⟩:=Int.eq_ofNat_of_zero_le d;have e:i<c.length:=by omega
   have q:i<out.length:=by omega
   have r:c[i]=Dd c l[j]:=by
    rw[hi];unfold Dd;rw[Int.toNat_natCast,List.getD_eq_getElem?_getD,List.getElem?_eq_getElem e];rfl
   rw[DD.eq_2,ct (dt (by omega)),C3 n,List.drop_eq_getElem_cons n,Gx];have s:idx c l[j]=some (Dd c l[j]):=by rw[←r];rw[hi];exact idx_eq e
   rw[bd s];obtain⟨b,aA,t⟩:=TJ (K:=K) y w mm l[j] (max free (Dd c l[j])) h9 hw d p (by omega) hK g;have u:Fv K (⟨(wk y w a).BG,(wk y w a).BZ,(wk y w a).Ck,(wk y w a).Cl,(wk y w a).A8,(wk y w a).Da,mm⟩:Cy) (⟨l[j],max free (Dd c l[j])⟩:HO)=some (C1 y w (DI y l[j]) (max free (Dd c l[j])),b):=aA;have o:idx out l[j]=some out[i]:=by rw[hi];exact idx_eq q
   have aB:=MD y w (DI y l[j]) (max free (Dd c l[j])) (by omega) hw;have aD:-1≤(C1 y w (DI y l[j]) (max free (Dd c l[j]))).AD∧(C1 y w (DI y l[j]) (max free (Dd c l[j]))).AD≤9:=by omega
   rw[bd u,bd o];show∃v,(i64 ((C1 y w (DI y l[j]) (max free (Dd c l[j]))).AD+1)).bind _=_∧_;rw[BJ (by omega) (by omega)];show∃v,cond ((C1 y w (DI y l[j]) (max free (Dd c l[j]))).AD==-1) ((i64 (y.Am+1)).bind _) _=_∧_;cases aF:((C1 y w (DI y l[j]) (max free (Dd c l[j]))).AD==-1) with
   |true=>
    rw[ct rfl,ct rfl,BJ (by omega) (by omega),BJ (by omega) (by omega),DG];exact ih m (j+1) (y.Am+1) _ b (by omega) (by omega) (by omega) (by rw[List.length_set];exact f) t
   |false=>
    rw[cf rfl,cf rfl,BJ (by omega) (by omega),DG];exact ih m (j+1) ((C1 y w (DI y l[j]) (max free (Dd c l[j]))).AD+1) _ b (by omega) (by omega) (by omega) (by rw[List.length_set];exact f) t
theorem R9{K:Nat}(y:Ar)(w:List Bool)(b:List (List Int×Av))(c:List Int)(order:List (List Int))(h0:0≤y.Am)(h9:y.Am≤9)(hw:(w.length:Int)=y.Am+1)(hK:2000≤K)(p:∀l∈order,l.length≤1000∧∀i∈l,0≤i∧i<(y.Ag.length:Int))(q:c.length=y.Ag.length)(s:order.length≤1000):
  ∀(k m j:Nat) (out:List Av) (mm:List (List Int×Av)),order.length=j+k→k<m→out.length=y.Ag.length→GI y w mm→
  ∃a,De K (wk y w b) order c m (j:Int) out mm=some (Gy y w c (order.drop j) out,a)∧GI y w a:=by
 intro k
 induction k with
 |zero=>
  intro m j out mm h hm d e;cases m with
  |zero=>omega
  |succ m=>rw[De.eq_2,cf (df (by omega)),List.drop_eq_nil_of_le (by omega)];exact⟨mm,rfl,e⟩
 |succ k ih=>
  intro m j out mm h hm d e;cases m with
  |zero=>omega
  |succ m=>
   have f:j<order.length:=by omega
   obtain⟨g,n⟩:=p order[j] (List.getElem_mem f);obtain⟨a,o,r⟩:=R8 (K:=K) y w b c order[j] h0 h9 hw hK n q g order[j].length K 0 0 out mm (by omega) (by omega) (by omega) d e;rw[Int.natCast_zero,List.drop_zero] at o;rw[De.eq_2,ct (dt (by omega)),C3 f,List.drop_eq_getElem_cons f,Gy,bd o,BJ (by omega) (by omega),DG];exact ih m (j+1) _ a (by omega) (by omega) (by rw[HS];exact d) r
theorem P3{K:Nat}(y:Ar)(w:List Bool)(mm:List (List Int×Av))(c:List Int)(order:List (List Int))(h0:0≤y.Am)(h9:y.Am≤9)(k:y.Ag.length≤4)(hw:(w.length:Int)=y.Am+1)(hK:2000≤K)(e:∀l∈order,l.length≤1000∧∀i∈l,0≤i∧i<(y.Ag.length:Int))(f:c.length=y.Ag.length)(b:order.length≤1000)(g:GI y w mm):
  ∃a,CU K (wk y w mm) order c=some (Gz y w order c,a)∧GI y w a:=by
 unfold CU;show∃a,(Kl (y.Ag.length:Int) 24).bind _=_∧_;rw[OA (by omega) (by omega) (by omega)];obtain⟨a,d,h⟩:=R9 (K:=K) y w mm c order h0 h9 hw hK e f b order.length K 0 (List.replicate y.Ag.length JO) mm (by omega) (by omega) (by rw[List.length_replicate]) g;rw[Int.natCast_zero,List.drop_zero] at d;have j:De K (wk y w mm) order c K (0:Int) (List.replicate ((wk y w mm).A8.length:Int).toNat (⟨0,0,false⟩:Av)) (wk y w mm).known=some (Gy y w c order (List.replicate y.Ag.length JO),a):=by
  show De K (wk y w mm) order c K (0:Int) (List.replicate (y.Ag.length:Int).toNat JO) mm=_;rw[Int.toNat_natCast];exact d
 exact⟨a,bd j,h⟩
end Go.Proofs.YtkljfdkmjdjpfaaGreat
end
section
namespace Go.Proofs.YtkljfdkmjdjpfaaGreat
def iota(n:Nat):List Int:=(List.range n).map fun(i:Nat)=>(i:Int)
theorem G2(n:Nat):(iota n).length=n:=by simp[iota]
theorem Ns(n i:Nat)(h:i<n):(iota n)[i]?=some (i:Int):=by simp[iota,h]
def Dz(y:Ar)(o:List (List Int)):Bool:=((o.length:Int)==y.Ak)&&(C9 o.flatten==iota y.Ag.length)
theorem TK(o:List (List Int))(c:o.flatten.length≤100000):∀(k m i:Nat) (acc:List Int),o.length=i+k→k<m→o.length≤100000→acc++(o.drop i).flatten=o.flatten→
  Dw o m acc (i:Int)=some o.flatten:=by
 intro k
 induction k with
 |zero=>
  intro m i acc h hm b a;cases m with
  |zero=>omega
  |succ m=>
   rw[Dw.eq_2,cf (df (by omega))];rw[List.drop_eq_nil_of_le (by omega)] at a;rw[←a];simp
 |succ k ih=>
  intro m i acc h hm b a;cases m with
  |zero=>omega
  |succ m=>
   have hi:i<o.length:=by omega
   rw[List.drop_eq_getElem_cons hi,List.flatten_cons,←List.append_assoc] at a;have hlen:acc.length+o[i].length≤100000:=by
    have:=congrArg List.length a;rw[List.length_append,List.length_append] at this;omega
   rw[Dw.eq_2,ct (dt (by omega)),C3 hi,FV (by omega),BJ (by omega) (by omega),DG];exact ih m (i+1) (acc++o[i]) (by omega) (by omega) b a
theorem Q3(y:Ar)(z:List Int)(l:y.Ag.length≤4):∀(k m i:Nat),y.Ag.length=i+k→k<m→(∀j,j<i→(C9 z).length=y.Ag.length∧(C9 z)[j]?=some (j:Int))→
  Dj y z m (i:Int)=some (cond ((C9 z==iota y.Ag.length)||decide (y.Ag.length=0)) (.inr ()) (.inl false)):=by
 intro k
 induction k with
 |zero=>
  intro m i h hm a;cases m with
  |zero=>omega
  |succ m=>
   rw[Dj.eq_2,cf (df (by omega))];have:((C9 z==iota y.Ag.length)||decide (y.Ag.length=0))=true:=by
    rw[Bool.or_eq_true];rcases Nat.eq_zero_or_pos i with h0|h0
    ·right;exact dt (by omega)
    ·left;rw[beq_iff_eq];have d:=(a 0 h0).1;apply List.ext_getElem?;intro j
     by_cases f:j<y.Ag.length
     ·rw[(a j (by omega)).2,Ns _ _ f]
     ·rw[List.getElem?_eq_none (by omega),List.getElem?_eq_none (by rw[G2];omega)]
   rw[this];rfl
 |succ k ih=>
  intro m i h hm a;cases m with
  |zero=>omega
  |succ m=>
   rw[Dj.eq_2,ct (dt (by omega))];have c:decide (y.Ag.length=0)=false:=df (by omega)
   by_cases d:(C9 z).length=y.Ag.length
   ·rw[cf (by rw[d];simp)];have hi:i<(C9 z).length:=by omega
    rw[C3 hi]
    by_cases b:(C9 z)[i]=(i:Int)
    ·rw[b,cf (by simp),BJ (by omega) (by omega),DG];refine ih m (i+1) (by omega) (by omega) fun j f=>?_
     by_cases g:j=i
     ·subst g;exact⟨d,by rw[List.getElem?_eq_getElem hi,b]⟩
     ·exact a j (by omega)
    ·rw[ct (by simpa using b)];have:((C9 z==iota y.Ag.length)||decide (y.Ag.length=0))=false:=by
      rw[c,Bool.or_false,beq_eq_false_iff_ne];intro e;have:(C9 z)[i]?=(iota y.Ag.length)[i]?:=by rw[e]
      rw[List.getElem?_eq_getElem hi,Ns _ _ (by omega)] at this;exact b (Option.some.inj this)
     rw[this];rfl
   ·rw[ct (by simp;omega)];have:((C9 z==iota y.Ag.length)||decide (y.Ag.length=0))=false:=by
     rw[c,Bool.or_false,beq_eq_false_iff_ne];intro e;have:=congrArg List.length e;rw[G2] at this;omega
    rw[this];rfl
theorem Ky{K:Nat}(y:Ar)(o:List (List Int))(f:y.Ag.length≤4)(hK:2000≤K)(i:o.length≤1000)(k:o.flatten.length≤1000):Eb K y o=some (Dz y o):=by
 unfold Eb;have c:=TK o (by omega) o.length K 0 [] (by omega) (by omega) (by omega) (by simp);have d:=Q3 y o.flatten f y.Ag.length K 0 (by omega) (by omega) fun j g=>absurd g (by omega);rw[Int.natCast_zero] at c d;rw[bd c,FV (by omega),bd d];unfold Dz
 by_cases b:y.Ag.length=0
 ·rw[show((C9 o.flatten==iota y.Ag.length)||decide (y.Ag.length=0))=true by rw[Bool.or_eq_true];exact .inr (dt b)];show cond ((o.length:Int)==y.Ak) (some (((C9 o.flatten).length:Int)==(y.Ag.length:Int))) (some false)=_;have h:(((C9 o.flatten).length:Int)==(y.Ag.length:Int))=(C9 o.flatten==iota y.Ag.length):=by
   rw[b];cases e:C9 o.flatten with
   |nil=>rfl
   |cons a l=>
    have h1:(((a::l).length:Int)==((0:Nat):Int))=false:=by simp;omega
    rw[h1];rfl
  rw[h];cases ((o.length:Int)==y.Ak)<;>rfl
 ·rw[show decide (y.Ag.length=0)=false from df b,Bool.or_false];cases e:(C9 o.flatten==iota y.Ag.length) with
  |false=>show some false=_;rw[Bool.and_false]
  |true=>
   show cond ((o.length:Int)==y.Ak) (some (((C9 o.flatten).length:Int)==(y.Ag.length:Int))) (some false)=_;rw[eq_of_beq e,G2];cases ((o.length:Int)==y.Ak)<;>simp
theorem Fg{y:Ar}{o:List (List Int)}:Dz y o=true↔(o.length:Int)=y.Ak∧o.flatten.Perm (iota y.Ag.length):=by
 unfold Dz;rw[Bool.and_eq_true,beq_iff_eq,beq_iff_eq];refine and_congr_right fun _=>⟨fun h=>?_,fun h=>?_⟩
 ·rw[←h];exact(List.mergeSort_perm _ _).symm
 ·have h1:(C9 o.flatten).Pairwise (fun a b:Int=>a≤b):=by
   have:=List.pairwise_mergeSort (le:=fun x y:Int=>decide (x≤y)) (fun a b c h1 d=>by simp at*;omega) (fun a b=>by simp;omega) o.flatten;exact this.imp fun h=>by simpa using h
  have d:(iota y.Ag.length).Pairwise (fun a b:Int=>a≤b):=by
   unfold iota;rw[List.pairwise_map];exact List.pairwise_lt_range.imp fun h=>by omega
  exact List.Perm.eq_of_pairwise (le:=fun a b:Int=>a≤b) (fun a b _ _ h e=>by omega) h1 d ((List.mergeSort_perm _ _).trans h)
theorem Nt{n:Nat}{i:Int}:i∈iota n↔0≤i∧i<n:=by
 unfold iota;rw[List.mem_map];constructor
 ·rintro⟨k,a,rfl⟩;rw[List.mem_range] at a;omega
 ·rintro⟨h0,h1⟩;exact⟨i.toNat,by rw[List.mem_range];omega,by omega⟩
theorem L9{y:Ar}{o:List (List Int)}(h:Dz y o=true):∀l∈o,l.length≤y.Ag.length∧∀i∈l,0≤i∧i<(y.Ag.length:Int):=by
 intro l a;have b:=(Fg.1 h).2;constructor
 ·have h1:=b.length_eq;rw[G2] at h1;have:=(List.sublist_flatten_of_mem a).length_le;omega
 ·intro i hi;exact Nt.1 (b.mem_iff.1 (List.mem_flatten.2 ⟨l,a,hi⟩))
def DA:List Bb→List Int→Bool
 |[],[]=>true
 |l::ls,c::cs=>F7 c l.Au l.AJ&&DA ls cs
 |_,_=>false
def Et(y:Ar)(t:AZ):Bool:=decide ((t.Ao.length:Int)=y.Am+1)&&(Hw y t.Ao&&DA y.Ag t.Comes)
theorem GQ:∀{ls:List Bb} {cs:List Int},DA ls cs=true→cs.length=ls.length
 |[],[],_=>rfl
 |_::ls,_::cs,h=>by
  rw[DA,Bool.and_eq_true] at h;rw[List.length_cons,List.length_cons,GQ h.2]
 |[],_::_,h=>by cases h
 |_::_,[],h=>by cases h
theorem P4(K:Nat)(y:Ar)(t:AZ)(b:y.Ag.length≤4)(c:t.Comes.length=y.Ag.length):∀(k m i:Nat),y.Ag.length=i+k→k<m→
  Di K y t m (i:Int)=some (cond (DA (y.Ag.drop i) (t.Comes.drop i)) (.inr ()) (.inl false)):=by
 intro k
 induction k with
 |zero=>
  intro m i h hm;cases m with
  |zero=>omega
  |succ m=>rw[Di.eq_2,cf (df (by omega)),List.drop_eq_nil_of_le (by omega),List.drop_eq_nil_of_le (by omega)];rfl
 |succ k ih=>
  intro m i h hm;cases m with
  |zero=>omega
  |succ m=>
   have hi:i<y.Ag.length:=by omega
   have a:i<t.Comes.length:=by omega
   rw[Di.eq_2,ct (dt (by omega)),C3 hi,C3 a,bd (Hv ..),List.drop_eq_getElem_cons hi,List.drop_eq_getElem_cons a,DA];cases d:F7 t.Comes[i] y.Ag[i].Au y.Ag[i].AJ with
   |false=>rw[nf];rfl
   |true=>rw[nt,BJ (by omega) (by omega),DG,Bool.true_and];exact ih m (i+1) (by omega) (by omega)
theorem P5{K:Nat}(y:Ar)(t:AZ)(h0:0≤y.Am)(h9:y.Am≤9)(b:y.Ag.length≤4)(hK:2000≤K):Fl K y t=some (Et y t):=by
 unfold Fl Et
 by_cases a:t.Comes.length=y.Ag.length
 ·rw[cf (by rw[a];simp),BJ (by omega) (by omega)]
  by_cases hw:(t.Ao.length:Int)=y.Am+1
  ·rw[cf (by rw[hw];simp),bd (Mz y t.Ao (by omega) (by omega)),dt hw,Bool.true_and];show cond (!(Hw y t.Ao)) _ _=_;cases Hw y t.Ao with
   |false=>rw[nf];rfl
   |true=>
    have:=P4 K y t b a y.Ag.length K 0 (by omega) (by omega);rw[Int.natCast_zero,List.drop_zero,List.drop_zero] at this;rw[nt,bd this,Bool.true_and];cases DA y.Ag t.Comes<;>rfl
  ·rw[ct (by simpa using hw),df hw];rfl
 ·rw[ct (by simp;omega)];cases c:DA y.Ag t.Comes with
  |false=>rw[Bool.and_false,Bool.and_false]
  |true=>exact absurd (GQ c) a
theorem GR{c:List Int}:∀{ls:List Bb},c∈ED ls↔DA ls c=true
 |[]=>by
  cases c with
  |nil=>simp[ED,DA]
  |cons a l=>simp[ED,DA]
 |l::r=>by
  rw[ED,List.mem_flatMap];constructor
  ·rintro⟨n,b,e⟩;obtain⟨d,f,rfl⟩:=List.mem_map.1 e;rw[DA,Bool.and_eq_true];rw[List.mem_range] at b;unfold B0 at b;exact⟨FK.2 (by omega),GR.1 f⟩
  ·intro h;cases c with
   |nil=>simp[DA] at h
   |cons a d=>
    rw[DA,Bool.and_eq_true] at h;have h1:=FK.1 h.1;refine⟨(a-l.Au).toNat,?_,List.mem_map.2 ⟨d,GR.2 h.2,?_⟩⟩
    ·rw[List.mem_range];unfold B0;omega
    ·congr 1;omega
def bitsOf:List Bool→Nat
 |[]=>0
 |b::l=>(cond b 1 0)+2*bitsOf l
theorem K7:∀(l:List Bool) (d:Nat),(bitsOf l).testBit d=l.getD d false
 |[],d=>by simp[bitsOf]
 |b::l,0=>by rw[bitsOf,Nat.testBit_zero];cases b<;>simp<;>omega
 |b::l,d+1=>by
  rw[Nat.testBit_succ,bitsOf];have:((cond b 1 0)+2*bitsOf l)/2=bitsOf l:=by cases b<;>simp<;>omega
  rw[this,K7 l d];rfl
theorem ME:∀(l:List Bool),bitsOf l<2^l.length
 |[]=>by simp[bitsOf]
 |b::l=>by
  have:=ME l;rw[bitsOf,List.length_cons,Nat.pow_succ];cases b<;>simp<;>omega
theorem P6(l:List Bool):wl l.length (bitsOf l)=l:=by
 apply List.ext_getElem?;intro i;unfold wl;rw[List.getElem?_map]
 by_cases h:i<l.length
 ·rw[List.getElem?_range h,List.getElem?_eq_getElem h];show some ((bitsOf l).testBit i)=_;rw[K7,List.getD_eq_getElem?_getD,List.getElem?_eq_getElem h];rfl
 ·rw[List.getElem?_eq_none (by simp;omega),List.getElem?_eq_none (by omega)];rfl
theorem Ic{y:Ar}{w:List Bool}:w∈Bw y↔w.length=days y∧Hw y w=true:=by
 unfold Bw;rw[List.mem_filter,List.mem_map];constructor
 ·rintro⟨⟨b,_,rfl⟩,h⟩;exact⟨FF _ _,h⟩
 ·rintro⟨h1,a⟩;exact⟨⟨bitsOf w,by rw[List.mem_range,←h1];exact ME w,by rw[←h1];exact P6 w⟩,a⟩
theorem Hl{y:Ar}(h0:0≤y.Am){t:AZ}:t∈Cm y↔Et y t=true:=by
 unfold Cm Et;rw[List.mem_flatMap,Bool.and_eq_true,Bool.and_eq_true,decide_eq_true_eq];constructor
 ·rintro⟨w,hw,ht⟩;obtain⟨c,b,rfl⟩:=List.mem_map.1 ht;obtain⟨h1,a⟩:=Ic.1 hw;unfold days at h1;exact⟨by show(w.length:Int)=_;omega,a,GR.1 b⟩
 ·rintro⟨h1,a,h3⟩;exact⟨t.Ao,Ic.2 ⟨by unfold days;omega,a⟩,List.mem_map.2 ⟨t.Comes,GR.2 h3,rfl⟩⟩
theorem UU(a b:List Bool)(g:a.length≤1000)(f:a.length=b.length):∀(k m i:Nat),a.length=i+k→k<m→Dv a b m (i:Int)=some (cond (a.drop i==b.drop i) (.inr ()) (.inl false)):=by
 intro k
 induction k with
 |zero=>
  intro m i h hm;cases m with
  |zero=>omega
  |succ m=>rw[Dv.eq_2,cf (df (by omega)),List.drop_eq_nil_of_le (by omega),List.drop_eq_nil_of_le (by omega)];rfl
 |succ k ih=>
  intro m i h hm;cases m with
  |zero=>omega
  |succ m=>
   have h1:i<a.length:=by omega
   have c:i<b.length:=by omega
   rw[Dv.eq_2,ct (dt (by omega)),C3 h1,C3 c,List.drop_eq_getElem_cons h1,List.drop_eq_getElem_cons c];cases d:(a[i] !=b[i]) with
   |true=>
    rw[ct rfl];have:(a[i]::a.drop (i+1)==b[i]::b.drop (i+1))=false:=by
     rw[List.cons_beq_cons];have:(a[i]==b[i])=false:=by simpa[bne] using d
     rw[this,Bool.false_and]
    rw[this];rfl
   |false=>
    have e:a[i]=b[i]:=by simpa[bne] using d
    rw[cf rfl,BJ (by omega) (by omega),DG,ih m (i+1) (by omega) (by omega),List.cons_beq_cons,e,beq_self_eq_true,Bool.true_and]
theorem UW{K:Nat}(a b:List Bool)(c:a.length≤1000)(hK:2000≤K):Ez K a b=some (a==b):=by
 unfold Ez
 by_cases h:a.length=b.length
 ·have:=UU a b c h a.length K 0 (by omega) (by omega);rw[Int.natCast_zero,List.drop_zero,List.drop_zero] at this;rw[cf (by rw[h];simp),bd this];cases (a==b)<;>rfl
 ·rw[ct (by simp;omega)];have:(a==b)=false:=by
   rw[beq_eq_false_iff_ne];intro e;exact h (by rw[e])
  rw[this]
structure Fp(y:Ar):Prop where
 h0:0≤y.Am
 h9:y.Am≤9
 r1:1≤y.Ak
 r2:y.Ak≤2
 n4:y.Ag.length≤4
 w0:0≤y.Ao
 w1:y.Ao≤y.Am+1
 u0:0≤y.AA
 u1:y.AA≤y.Am+1
 Nu:∀l∈y.Ag,Gl y l=true
 many:Gm y≤1000
theorem FQ{y:Ar}(h:check y=0):Fp y:=by
 unfold check at h;split at h
 ·cases h
 ·rename_i h1
  split at h
  ·cases h
  ·rename_i b
   split at h
   ·cases h
   ·rename_i h3
    rw[not_or,not_or] at h1;rw[not_or,not_or,not_or,not_or] at b;have hw:F7 y.Ao 0 (y.Am+1)=true:=by cases a:F7 y.Ao 0 (y.Am+1) with|true=>rfl|false=>exact absurd a b.2.2.1
    have c:F7 y.AA 0 (y.Am+1)=true:=by cases a:F7 y.AA 0 (y.Am+1) with|true=>rfl|false=>exact absurd a b.2.2.2.1
    have d:y.Ag.all (Gl y)=true:=by cases a:y.Ag.all (Gl y) with|true=>rfl|false=>exact absurd a b.2.2.2.2
    rw[FK] at hw c;exact⟨by omega,by omega,by omega,by omega,by omega,hw.1,hw.2,c.1,c.2,List.all_eq_true.1 d,by omega⟩
theorem Fp.sz{y:Ar}(h:Fp y):∀l∈y.Ag,sized l∧0≤l.Au∧l.AJ≤9:=fun l b=>by
 have a:=h.Nu l b;have:=Ia.1 a;have:=h.h9;exact⟨Lh h.h9 a,by omega,by omega⟩
def UX(y:Ar):Option Cy→Prop
 |none=>True
 |some x=>∃w m,x=wk y w m∧(w.length:Int)=y.Am+1∧GI y w m
theorem P7{σ:Type}{K:Nat}(cb:σ→AZ×List Av→Option (Bool×σ))(y:Ar)(hy:Fp y)(o:List (List Int))(u:Dz y o=true)(hK:2000≤K):∀(d:List AZ) (g:Option Cy) (s:σ),(∀t∈d,Et y t=true)→UX y g→
  (run (fun(st:(Option Cy)×σ×Bool) (x:AZ)=>cond st.2.2 none (DF cb K y o st.1 st.2.1 x)) d (g,s,false)).bind (fun f=>cond f.2.2.2 (some f.2.2.1) (some f.2.2.1))=(run (fun s t=>cb s (t,Gz y t.Ao o t.Comes)) d s).bind fun r=>some r.2
 |[],g,s,_,_=>rfl
 |t::d,g,s,ht,aF=>by
  have h:=ht t (List.mem_cons_self ..);have z:∀x∈d,Et y x=true:=fun x aG=>ht x (List.mem_cons_of_mem _ aG);unfold Et at h;rw[Bool.and_eq_true,Bool.and_eq_true,decide_eq_true_eq] at h;obtain⟨hw,_,aH⟩:=h;have aA:=GQ aH;have p:=L9 u;have aB:o.length≤1000:=by have:=(Fg.1 u).1;have:=hy.r2;omega
  have v:∀l∈o,l.length≤1000∧∀i∈l,0≤i∧i<(y.Ag.length:Int):=fun l aC=>⟨by have:=(p l aC).1;have:=hy.n4;omega,(p l aC).2⟩;rw[run,run];show(Option.bind (DF cb K y o g s t) _:Option _).bind _=_
  
  have key:∀(m:List (List Int×Av)),GI y t.Ao m→∃c,GI y t.Ao c∧CU K (wk y t.Ao m) o t.Comes=some (Gz y t.Ao o t.Comes,c):=fun m hm=>by
   obtain⟨c,h1,aI⟩:=P3 (K:=K) y t.Ao m t.Comes o hy.h0 hy.h9 hy.n4 hw hK v aA aB hm;exact⟨c,aI,h1⟩
  have fin:∀(c:List (List Int×Av)),GI y t.Ao c→
    (Option.bind ((cb s (t,Gz y t.Ao o t.Comes)).bind fun a=>cond (!a.1) (some (false,(some (wk y t.Ao c)),a.2,true)) (some (true,(some (wk y t.Ao c)),a.2,false))) fun r=>cond r.1 (run (fun(st:(Option Cy)×σ×Bool) (x:AZ)=>cond st.2.2 none (DF cb K y o st.1 st.2.1 x)) d r.2) (some (false,r.2))).bind (fun f=>cond f.2.2.2 (some f.2.2.1) (some f.2.2.1))=
    (Option.bind (cb s (t,Gz y t.Ao o t.Comes)) fun r=>cond r.1 (run (fun s t=>cb s (t,Gz y t.Ao o t.Comes)) d r.2) (some (false,r.2))).bind fun r=>some r.2:=fun c j=>by
   cases cb s (t,Gz y t.Ao o t.Comes) with
   |none=>rfl
   |some r=>
    obtain⟨b,s2⟩:=r;cases b with
    |false=>rfl
    |true=>exact P7 cb y hy o u hK d (some (wk y t.Ao c)) s2 z ⟨t.Ao,c,rfl,hw,j⟩
  unfold DF;obtain⟨k,q,aJ⟩:=key [] (Nr _ _);have aM:=hy.h9;have e:(Gb (((0+t.Ao.length:Nat):Int)≤140737488355328/1)).bind (fun _=>(CU K (⟨y.Am,y.Ak,y.Ao,y.AA,y.Ag,t.Ao,[]⟩:Cy) o t.Comes).bind fun n=>(cb s (t,n.1)).bind fun a=>cond (!a.1) (some (false,(some (⟨y.Am,y.Ak,y.Ao,y.AA,y.Ag,t.Ao,n.2⟩:Cy)),a.2,true)) (some (true,(some (⟨y.Am,y.Ak,y.Ao,y.AA,y.Ag,t.Ao,n.2⟩:Cy)),a.2,false)))=
    (cb s (t,Gz y t.Ao o t.Comes)).bind fun a=>cond (!a.1) (some (false,(some (wk y t.Ao k)),a.2,true)) (some (true,(some (wk y t.Ao k)),a.2,false)):=by
   have aD:CU K (⟨y.Am,y.Ak,y.Ao,y.AA,y.Ag,t.Ao,[]⟩:Cy) o t.Comes=some (Gz y t.Ao o t.Comes,k):=aJ;rw[FV (by omega),bd aD];rfl
  cases g with
  |none=>
   show(Option.bind ((Gb _).bind _) _:Option _).bind _=_;rw[e];exact fin k q
  |some x=>
   obtain⟨w,m,rfl,aN,aE⟩:=aF;show(Option.bind ((Ez K w t.Ao).bind _) _:Option _).bind _=_;rw[bd (UW w t.Ao (by omega) hK)];cases aK:(w==t.Ao) with
   |false=>
    rw[nf,e];exact fin k q
   |true=>
    obtain rfl:=eq_of_beq aK;obtain⟨c,j,aL⟩:=key m aE;rw[nt,bd aL];exact fin c j
theorem P8{σ:Type}{K:Nat}(cb:σ→AZ×List Av→Option (Bool×σ))(y:Ar)(hy:Fp y)(o:List (List Int))(a:Dz y o=true)(hK:2000≤K)(s:σ):
  Fw K cb y o s=(run (fun s t=>cb s (t,Gz y t.Ao o t.Comes)) (Cm y) s).bind fun r=>some r.2:=by
 unfold Fw;rw[Q2 _ y hy.h0 hy.h9 hy.n4 hy.sz hK,Option.bind_assoc];exact P7 cb y hy o a hK (Cm y) none s (fun t ht=>(Hl hy.h0).1 ht) trivial
end Go.Proofs.YtkljfdkmjdjpfaaGreat
end
section
namespace Go.Proofs.YtkljfdkmjdjpfaaGreat
def GJ(l:Bb)(s:Av):Bool:=s.AM&&decide (s.AD≤l.Ct)
theorem Ma(K:Nat)(l:Bb)(s:Av):Dc K l s=some (GJ l s):=by unfold Dc GJ;cases s.AM<;>rfl
theorem OD(K:Nat)(l:Bb)(s:Av):Ej K l s=some (!GJ l s):=by unfold Ej;rw[bd (Ma ..)]
def Hj (p:Bb→Av→Bool):List Bb→List Av→Nat
 |l::ls,s::ss=>(cond (p l s) 1 0)+Hj p ls ss
 |_,_=>0
def DQ(l:Bb)(s:Av):Bool:= !GJ l s
def D1(y:Ar)(ss:List Av):Nat:=Hj DQ y.Ag ss
theorem Mb(p:Bb→Av→Bool):∀(ls:List Bb) (ss:List Av),Hj p ls ss≤ls.length
 |l::ls,s::ss=>by
  have:=Mb p ls ss;rw[Hj,List.length_cons];cases p l s<;>simp<;>omega
 |[],_=>by simp[Hj]
 |_::_,[]=>by simp[Hj]
theorem TL{K:Nat}(y:Ar)(ss:List Av)(c:y.Ag.length≤4)(d:ss.length=y.Ag.length):∀(k m i:Nat) (a:Int),ss.length=i+k→k<m→0≤a→a≤i→
  DE K y ss m a (i:Int)=some (a+(Hj DQ (y.Ag.drop i) (ss.drop i):Nat)):=by
 intro k
 induction k with
 |zero=>
  intro m i a h hm h0 h1;cases m with
  |zero=>omega
  |succ m=>
   rw[DE.eq_2,cf (df (by omega)),List.drop_eq_nil_of_le («as»:=y.Ag) (by omega),Hj]
   ·simp
   ·intro _ _ _ _ h;cases h
 |succ k ih=>
  intro m i a h hm h0 h1;cases m with
  |zero=>omega
  |succ m=>
   have hi:i<ss.length:=by omega
   have b:i<y.Ag.length:=by omega
   rw[DE.eq_2,ct (dt (by omega)),C3 hi,C3 b,bd (OD ..),List.drop_eq_getElem_cons hi,List.drop_eq_getElem_cons b,Hj];show cond (DQ y.Ag[i] ss[i]) _ _=_;cases e:DQ y.Ag[i] ss[i] with
   |true=>
    rw[ct rfl,BJ (by omega) (by omega),BJ (by omega) (by omega),DG,ih m (i+1) (a+1) (by omega) (by omega) (by omega) (by omega)]
    congr 1
    show a+1+_=a+((1+Hj DQ _ _:Nat):Int);omega
   |false=>
    rw[cf rfl,BJ (by omega) (by omega),DG,ih m (i+1) a (by omega) (by omega) (by omega) (by omega)]
    congr 1
    show a+_=a+((0+Hj DQ _ _:Nat):Int);omega
theorem P9{K:Nat}(y:Ar)(ss:List Av)(a:y.Ag.length≤4)(b:ss.length=y.Ag.length)(hK:2000≤K):EP K y ss=some (D1 y ss:Int):=by
 unfold EP;have:=TL (K:=K) y ss a b ss.length K 0 0 (by omega) (by omega) (by omega) (by omega);rw[Int.natCast_zero,List.drop_zero,List.drop_zero] at this;rw[bd this];simp[D1]
theorem G9(y:Ar)(w:List Bool)(o:List (List Int))(c:List Int):(Gz y w o c).length=y.Ag.length:=by unfold Gz;rw[Kx,List.length_replicate]
def B8 (y:Ar) (o:List (List Int)) (t:AZ):List Av:=Gz y t.Ao o t.Comes
theorem Qa{K:Nat}(y:Ar)(o:List (List Int))(t:AZ)(hK:2000≤K)(c:o.length≤1000)(f:o.flatten.length≤1000):
  FX K y o t=some (if check y≠0 then ([],check y) else if Dz y o=false∨Et y t=false then ([],2) else (B8 y o t,0)):=by
 unfold FX;rw[bd (Ix hK y)]
 by_cases h:check y=0
 ·rw[h,cf (by decide),if_neg (by simp)];have hy:=FQ h;rw[bd (Ky y o hy.n4 hK c f)];cases g:Dz y o with
  |false=>rw[nf,if_pos (.inl rfl)]
  |true=>
   rw[nt,bd (P5 y t hy.h0 hy.h9 hy.n4 hK)];cases ht:Et y t with
   |false=>rw[nf,if_pos (.inr rfl)]
   |true=>
    rw[nt,if_neg (by simp)];have a:=ht;unfold Et at a;rw[Bool.and_eq_true,Bool.and_eq_true,decide_eq_true_eq] at a;have b:=L9 g;obtain⟨i,e,_⟩:=P3 (K:=K) y t.Ao [] t.Comes o hy.h0 hy.h9 hy.n4 a.1 hK (fun l d=>⟨by have:=(b l d).1;have:=hy.n4;omega,(b l d).2⟩) (GQ a.2.2) c (Nr _ _);have j:CU K (⟨y.Am,y.Ak,y.Ao,y.AA,y.Ag,t.Ao,[]⟩:Cy) o t.Comes=some (Gz y t.Ao o t.Comes,i):=e;rw[bd j];rfl
 ·rw[ct (by simpa using h),if_pos h]
def Ip (y:Ar) (o:List (List Int)):List AZ→Int×AZ→Int×AZ
 |[],s=>s
 |t::a,s=>
  let s2:=if s.1<(D1 y (B8 y o t):Int) then ((D1 y (B8 y o t):Int),t) else s
  cond (decide (s2.1<(y.Ag.length:Int))) (Ip y o a s2) s2
def C7(y:Ar)(o:List (List Int)):Int×AZ:=Ip y o (Cm y) (-1,⟨[],[]⟩)
theorem Nv{K:Nat}(y:Ar)(hy:Fp y)(o:List (List Int))(hK:2000≤K):∀(a:List AZ) (s:Int×AZ),(∀t∈a,Et y t=true)→
  (run (fun(st:Int×AZ) t=>(EV K t (B8 y o t) y st.1 st.2).bind fun r=>some (r.1,(r.2.1,r.2.2))) a s).bind (fun r=>some r.2)=some (Ip y o a s)
 |[],s,_=>rfl
 |t::a,s,ht=>by
  have b:=ht t (List.mem_cons_self ..);unfold Et at b;rw[Bool.and_eq_true,Bool.and_eq_true,decide_eq_true_eq] at b;have d:=GQ b.2.2;have e:=hy.n4;have h9:=hy.h9;rw[run,Ip];unfold EV;rw[bd (P9 y (B8 y o t) hy.n4 (G9 ..) hK)]
  by_cases h:s.1<(D1 y (B8 y o t):Int)
  ·rw[ct (dt h),FV (by omega),FV (by omega),if_pos h];show(cond (decide ((D1 y (B8 y o t):Int)<(y.Ag.length:Int))) _ _:Option (Bool×Int×AZ)).bind _=some (cond (decide ((D1 y (B8 y o t):Int)<(y.Ag.length:Int))) _ _);cases decide ((D1 y (B8 y o t):Int)<(y.Ag.length:Int)) with
   |false=>rfl
   |true=>exact Nv y hy o hK a _ fun x c=>ht x (List.mem_cons_of_mem _ c)
  ·rw[cf (df h),if_neg h];show(cond (decide (s.1<(y.Ag.length:Int))) _ _:Option (Bool×Int×AZ)).bind _=some (cond (decide (s.1<(y.Ag.length:Int))) _ _);cases decide (s.1<(y.Ag.length:Int)) with
   |false=>rfl
   |true=>exact Nv y hy o hK a s fun x c=>ht x (List.mem_cons_of_mem _ c)
theorem Qb{K:Nat}(y:Ar)(hy:Fp y)(o:List (List Int))(a:Dz y o=true)(hK:2000≤K):Fx K y o=some (C7 y o):=by
 unfold Fx;rw[P8 _ y hy o a hK];have:=Nv y hy o hK (Cm y) (-1,⟨[],[]⟩) fun t ht=>(Hl hy.h0).1 ht;exact Eq.trans (bd this) rfl
theorem Qc{K:Nat}(y:Ar)(o:List (List Int))(hK:2000≤K)(a:o.length≤1000)(b:o.flatten.length≤1000):
  Gs K y o=some (if check y≠0 then (0,⟨[],[]⟩,check y) else if Dz y o=false then (0,⟨[],[]⟩,2) else ((C7 y o).1,(C7 y o).2,0)):=by
 unfold Gs;rw[bd (Ix hK y)]
 by_cases h:check y=0
 ·rw[h,cf (by decide),if_neg (by simp)];have hy:=FQ h;rw[bd (Ky y o hy.n4 hK a b)];cases c:Dz y o with
  |false=>rw[nf,if_pos rfl]
  |true=>rw[nt,if_neg (by simp),bd (Qb y hy o c hK)]
 ·rw[ct (by simpa using h),if_pos h]
theorem Nw{K:Nat}(y:Ar)(o:List (List Int))(n:Int)(hK:2000≤K)(a:o.length≤1000)(b:o.flatten.length≤1000):
  Fb K y o n=some (decide (check y=0)&&(Dz y o&&decide ((C7 y o).1≤n))):=by
 unfold Fb;rw[bd (Qc y o hK a b)]
 by_cases h:check y=0
 ·rw[if_neg (by simp[h]),dt h];cases c:Dz y o with
  |false=>rw[if_pos rfl];rfl
  |true=>rw[if_neg (by simp)];rfl
 ·rw[if_pos h,df h,cf (by simpa using h)];rfl
theorem Oh{K:Nat}(y:Ar)(o:List (List Int))(t:AZ)(n:Int)(hK:2000≤K)(a:o.length≤1000)(b:o.flatten.length≤1000):
  Fy K y o t n=some (decide (check y=0)&&(Dz y o&&(Et y t&&decide (n≤(D1 y (B8 y o t):Int))))):=by
 unfold Fy;rw[bd (Qa y o t hK a b)]
 by_cases h:check y=0
 ·rw[if_neg (by simp[h]),dt h];cases c:Dz y o with
  |false=>rw[if_pos (.inl rfl)];rfl
  |true=>
   cases ht:Et y t with
   |false=>rw[if_pos (.inr rfl)];rfl
   |true=>
    rw[if_neg (by simp)];show(EP K y (B8 y o t)).bind _=_;rw[bd (P9 y (B8 y o t) (FQ h).n4 (G9 ..) hK)];rfl
 ·rw[if_pos h,df h,cf (by simpa using h)];rfl
def Hk(p:Bb→Av→Bool):List Bb→List Av→List Int→List Int
 |l::ls,s::ss,a::b=>(cond (p l s) (a+1) a)::Hk p ls ss b
 |_,_,b=>b
theorem RO(x:BN)(k:Nat)(v:Int)(h:k<4):(x.set k v).l=x.l.set k v:=by
 match k,h with
 |0,_=>rfl
 |1,_=>rfl
 |2,_=>rfl
 |3,_=>rfl
theorem Lj(p:Bb→Av→Bool)(ss:List Av)(a:List Int):Hk p [] ss a=a:=by cases a<;>rfl
theorem Sa{K:Nat}(p:Bb→Av→Bool)(y:Ar)(ss:List Av)(q:y.Ag.length≤4)(r:ss.length=y.Ag.length):∀(k m i:Nat) (a:BN),ss.length=i+k→k<m→(∀x∈a.l.drop i,0≤x∧x≤100000)→
  ∃b:BN,CG (fun(st:Unit) (x:Bb×Av)=>some (p x.1 x.2,())) ss y m (i:Int) a.a0 a.a1 a.a2 a.a3 ()=some (b.a0,b.a1,b.a2,b.a3,())∧b.l=a.l.take i++Hk p (y.Ag.drop i) (ss.drop i) (a.l.drop i):=by
 intro k
 induction k with
 |zero=>
  intro m i a h hm e;cases m with
  |zero=>omega
  |succ m=>
   rw[CG.eq_2,cf (df (by omega)),List.drop_eq_nil_of_le («as»:=y.Ag) (by omega),Lj];exact⟨a,rfl,(List.take_append_drop ..).symm⟩
 |succ k ih=>
  intro m i a h hm e;cases m with
  |zero=>omega
  |succ m=>
   have hi:i<ss.length:=by omega
   have f:i<y.Ag.length:=by omega
   have c:i<a.l.length:=by show i<4;omega
   rw[CG.eq_2,ct (dt (by omega)),C3 hi,C3 f,Option.bind_some,List.drop_eq_getElem_cons hi,List.drop_eq_getElem_cons f,List.drop_eq_getElem_cons c,Hk];cases s:p y.Ag[i] ss[i] with
   |true=>
    have t:=e a.l[i] (by rw[List.drop_eq_getElem_cons c];exact List.mem_cons_self ..);have g:idx [a.a0,a.a1,a.a2,a.a3] (i:Int)=some a.l[i]:=idx_eq c;rw[ct rfl,bd g,BJ (by omega) (by omega),bd g,BJ (by omega) (by omega),DG,Int.toNat_natCast];obtain⟨b,j,n⟩:=ih m (i+1) (a.set i (a.l[i]+1)) (by omega) (by omega) (fun x d=>by
     rw[RO _ _ _ (by omega),List.drop_set_of_lt (by omega)] at d;exact e x (by rw[List.drop_eq_getElem_cons c];exact List.mem_cons_of_mem _ d))
    refine⟨b,j,?_⟩;rw[n,RO _ _ _ (by omega),List.take_add_one,List.getElem?_set_self c,List.take_set_of_le (Nat.le_refl _),List.drop_set_of_lt (by omega)];simp
   |false=>
    rw[cf rfl,BJ (by omega) (by omega),DG];obtain⟨b,j,n⟩:=ih m (i+1) a (by omega) (by omega) fun x d=>e x (by rw[List.drop_eq_getElem_cons c];exact List.mem_cons_of_mem _ d);refine⟨b,j,?_⟩;have o:a.l.take (i+1)=a.l.take i++[a.l[i]]:=by rw[List.take_add_one,List.getElem?_eq_getElem c];rfl
    rw[n,o,List.append_assoc];rfl
theorem Q4{K:Nat}(p:Bb→Av→Bool)(y:Ar)(t:AZ)(ss:List Av)(e:y.Ag.length≤4)(f:ss.length=y.Ag.length)(hK:2000≤K)(n:Int)(a:BN)(h:0≤n∧n≤100000)(g:∀x∈a.l,0≤x∧x≤100000):
  ∃b:BN,C0 K (fun(st:Unit) (x:Bb×Av)=>some (p x.1 x.2,())) t ss n y a ()=some (true,n+1,b,())∧b.l=Hk p y.Ag ss a.l:=by
 unfold C0;obtain⟨b,c,d⟩:=Sa (K:=K) p y ss e f ss.length K 0 a (by omega) (by omega) (by rw[List.drop_zero];exact g);rw[Int.natCast_zero] at c;rw[List.take_zero,List.drop_zero,List.drop_zero,List.drop_zero,List.nil_append] at d;rw[BJ (by omega) (by omega),bd c];exact⟨b,rfl,d⟩
theorem OE(p:Bb→Av→Bool)(B:Int):∀(ls:List Bb) (ss:List Av) (c:List Int),(∀x∈c,0≤x∧x≤B)→∀x∈Hk p ls ss c,0≤x∧x≤B+1
 |l::ls,s::ss,a::c,h,x,b=>by
  rw[Hk] at b;rcases List.mem_cons.1 b with rfl|b
  ·have:=h a (List.mem_cons_self ..);cases p l s<;>simp<;>omega
  ·exact OE p B ls ss c (fun z d=>h z (List.mem_cons_of_mem _ d)) x b
 |[],_,c,h,x,b=>by
  rw[Lj] at b;have:=h x b;omega
 |l::ls,[],c,h,x,b=>by
  have e:Hk p (l::ls) [] c=c:=by cases c<;>rfl
  rw[e] at b;have:=h x b;omega
 |l::ls,s::ss,[],h,x,b=>by
  have e:Hk p (l::ls) (s::ss) []=[]:=rfl;rw[e] at b;cases b
def Mc (p:Bb→Av→Bool) (y:Ar) (o:List (List Int)):List AZ→List Int→List Int
 |[],a=>a
 |t::b,a=>Mc p y o b (Hk p y.Ag (B8 y o t) a)
theorem Nx{K:Nat}(p:Bb→Av→Bool)(y:Ar)(hy:Fp y)(o:List (List Int))(hK:2000≤K):∀(c:List AZ) (n:Int) (a:BN) (B:Int),0≤n→n+c.length≤100000→B+c.length≤100000→(∀x∈a.l,0≤x∧x≤B)→
  ∃b:BN,run (fun(st:Int×BN×Unit) t=>(C0 K (fun(st:Unit) (x:Bb×Av)=>some (p x.1 x.2,())) t (B8 y o t) st.1 y st.2.1 st.2.2).bind fun r=>some (r.1,(r.2.1,r.2.2.1,r.2.2.2))) c (n,a,())=some (true,n+c.length,b,())∧b.l=Mc p y o c a.l
 |[],n,a,B,_,_,_,_=>⟨a,by simp[run],rfl⟩
 |t::c,n,a,B,h0,h1,f,d=>by
  rw[List.length_cons] at h1 f;obtain⟨b,g,e⟩:=Q4 (K:=K) p y t (B8 y o t) hy.n4 (G9 ..) hK n a (by omega) (fun x h=>by have:=d x h;omega);obtain⟨i,j,k⟩:=Nx p y hy o hK c (n+1) b (B+1) (by omega) (by omega) (by omega) (by rw[e];exact OE p B _ _ _ d);refine⟨i,?_,by rw[k,e];rfl⟩;rw[run];show Option.bind ((C0 K _ t (B8 y o t) n y a ()).bind _) _=_;rw[bd g];show run _ c (n+1,b,())=_;rw[j,List.length_cons]
  congr 3;omega
theorem Jn(y:Ar)(hy:Fp y):((Cm y).length:Int)=Gm y:=by
 have a:∀ls:List Bb,(∀l∈ls,sized l)→((ED ls).length:Int)=EY ls:=by
  intro ls
  induction ls with
  |nil=>intro _;rfl
  |cons l r ih=>
   intro h;have h1:=(h l (List.mem_cons_self ..)).1;rw[ED,EY,List.length_flatMap,←ih fun x b=>h x (List.mem_cons_of_mem _ b)];have:((List.range (B0 l).toNat).map fun(n:Nat)=>((ED r).map fun c=>(l.Au+(n:Int))::c).length)=List.replicate (B0 l).toNat (ED r).length:=by
    apply List.ext_getElem
    ·simp
    ·intro i h1 d;simp
   rw[this,List.sum_replicate_nat,Int.natCast_mul]
   congr 1;omega
 unfold Cm Gm;rw[List.length_flatMap,←a y.Ag fun l e=>(hy.sz l e).1];have:((Bw y).map fun w=>((ED y.Ag).map fun c=>(⟨c,w⟩:AZ)).length)=List.replicate (Bw y).length (ED y.Ag).length:=by
  apply List.ext_getElem
  ·simp
  ·intro i h1 d;simp
 rw[this,List.sum_replicate_nat,Int.natCast_mul]
def Dk (p:Bb→Av→Bool) (y:Ar) (o:List (List Int)):List Int:=Mc p y o (Cm y) [0,0,0,0]
theorem Md{K:Nat}(p:Bb→Av→Bool)(y:Ar)(hy:Fp y)(o:List (List Int))(a:Dz y o=true)(hK:2000≤K):
  ∃b:BN,Cz K (fun(st:Unit) (x:Bb×Av)=>some (p x.1 x.2,())) y o ()=some (b,((Cm y).length:Int),())∧b.l=Dk p y o:=by
 unfold Cz;rw[P8 _ y hy o a hK];have f:=Jn y hy;have:=hy.many;obtain⟨b,c,d⟩:=Nx (K:=K) p y hy o hK (Cm y) 0 ⟨0,0,0,0⟩ 0 (by omega) (by omega) (by omega) (by intro x e;simp[BN.l] at e;omega);refine⟨b,?_,d⟩;refine Eq.trans (congrArg (fun z=>Option.bind (Option.bind z _) _) c) ?_;rw[Int.zero_add];rfl
end Go.Proofs.YtkljfdkmjdjpfaaGreat
end
section
namespace Go.Proofs.YtkljfdkmjdjpfaaGreat
def Fi(y:Ar)(i:Nat):Bb:=y.Ag.getD i HR
def MR(y:Ar)(o:List (List Int))(t:AZ)(i:Nat):Av:=(B8 y o t).getD i JO
def Kz (y:Ar) (o:List (List Int)) (i:Nat) (t:AZ):Bool:=GJ (Fi y i) (MR y o t i)
theorem Ny(p:Bb→Av→Bool):∀(ls:List Bb) (ss:List Av) (b:List Int) (i:Nat),i<ls.length→i<ss.length→i<b.length→
  (Hk p ls ss b).getD i 0=b.getD i 0+(cond (p (ls.getD i HR) (ss.getD i JO)) 1 0)
 |l::ls,s::ss,a::b,0,_,_,_=>by
  rw[Hk];show cond (p l s) (a+1) a=a+cond (p l s) 1 0;cases p l s<;>simp
 |l::ls,s::ss,a::b,i+1,h1,c,h3=>by
  rw[Hk];exact Ny p ls ss b i (by simpa using h1) (by simpa using c) (by simpa using h3)
theorem K8(p:Bb→Av→Bool):∀(ls:List Bb) (ss:List Av) (b:List Int),(Hk p ls ss b).length=b.length
 |l::ls,s::ss,a::b=>by rw[Hk,List.length_cons,K8 p ls ss b,List.length_cons]
 |[],ss,b=>by rw[Lj]
 |l::ls,[],b=>by
  have e:Hk p (l::ls) [] b=b:=by cases b<;>rfl
  rw[e]
 |l::ls,s::ss,[]=>rfl
theorem Nz(p:Bb→Av→Bool)(y:Ar)(o:List (List Int))(i:Nat)(hi:i<y.Ag.length):∀(b:List AZ) (a:List Int),i<a.length→
  (Mc p y o b a).getD i 0=a.getD i 0+(b.countP (fun t=>p (Fi y i) (MR y o t i)):Nat)
 |[],a,_=>by simp[Mc]
 |t::b,a,h=>by
  rw[Mc,Nz p y o i hi b _ (by rw[K8];exact h),Ny p _ _ _ i hi (by rw[B8,G9];exact hi) h,List.countP_cons];unfold Fi MR;cases p (y.Ag.getD i HR) ((B8 y o t).getD i JO)<;>simp<;>omega
theorem LK(p:Bb→Av→Bool)(y:Ar)(hy:Fp y)(o:List (List Int))(i:Nat)(hi:i<y.Ag.length):(Dk p y o).getD i 0=((Cm y).countP (fun t=>p (Fi y i) (MR y o t i)):Nat):=by
 unfold Dk;have a:=hy.n4;rw[Nz p y o i hi _ _ (by show i<4;omega)];have:([0,0,0,0]:List Int).getD i 0=0:=by
  match i,(show i<4 by omega) with
  |0,_=>rfl
  |1,_=>rfl
  |2,_=>rfl
  |3,_=>rfl
 rw[this,Int.zero_add]
theorem MS(b:BN)(i:Nat)(h:i<4):idx [b.a0,b.a1,b.a2,b.a3] (i:Int)=some (b.l.getD i 0):=by
 have:i<[b.a0,b.a1,b.a2,b.a3].length:=h;rw[idx_eq this];show some b.l[i]=_;rw[List.getD_eq_getElem?_getD,List.getElem?_eq_getElem (show i<b.l.length from h)];rfl
def verdict (y:Ar) (o:List (List Int)) (i:Nat):Int:=cond ((Cm y).all (Kz y o i)) 1 (cond ((Cm y).all fun t=> !Kz y o i t) 2 3)
theorem MF{α:Type}(p:α→Bool)(l:List α):((((l.countP p:Nat):Int)==(l.length:Int)))=l.all p:=by
 rw[Bool.eq_iff_iff,beq_iff_eq,List.all_eq_true,Int.ofNat_inj,List.countP_eq_length]
theorem Pr{α:Type}(p:α→Bool)(l:List α):((((l.countP p:Nat):Int)==0))=l.all fun t=> !p t:=by
 rw[Bool.eq_iff_iff,beq_iff_eq,List.all_eq_true,show(0:Int)=((0:Nat):Int) from rfl,Int.ofNat_inj,List.countP_eq_zero];simp
theorem Sb{K:Nat}(y:Ar)(o:List (List Int))(n:Int)(hK:2000≤K)(d:o.length≤1000)(e:o.flatten.length≤1000):
  E7 K y o n=some (if check y≠0 then (0,check y) else if Dz y o=false∨F7 n 0 ((y.Ag.length:Int)-1)=false then (0,2) else (verdict y o n.toNat,0)):=by
 unfold E7;rw[bd (Ix hK y)]
 by_cases h:check y=0
 ·rw[h,cf (by decide),if_neg (by simp)];have hy:=FQ h;have l:=hy.n4;rw[bd (Ky y o hy.n4 hK d e)];cases f:Dz y o with
  |false=>rw[nf,if_pos (.inl rfl)]
  |true=>
   have g:FO K y n=some (F7 n 0 ((y.Ag.length:Int)-1)):=by
    unfold FO;rw[BJ (by omega) (by omega),bd (Hv ..)]
   rw[nt,bd g];cases a:F7 n 0 ((y.Ag.length:Int)-1) with
   |false=>rw[nf,if_pos (.inr rfl)]
   |true=>
    rw[nt,if_neg (by simp)];rw[FK] at a;obtain⟨i,rfl⟩:=Int.eq_ofNat_of_zero_le a.1;have hi:i<y.Ag.length:=by omega
    obtain⟨b,j,k⟩:=Md (K:=K) GJ y hy o f hK;have c:Cz K (fun(st:Unit) (x:Bb×Av)=>(Dc K x.1 x.2).bind fun r=>some (r,())) y o ()=some (b,((Cm y).length:Int),()):=by
     rw[←j];congr 1;funext st x;rw[bd (Ma ..)]
    rw[bd c,bd (MS b i (by omega)),k,LK GJ y hy o i hi,Int.toNat_natCast];unfold verdict;show cond ((((Cm y).countP (Kz y o i):Nat):Int)==((Cm y).length:Int)) _ (cond ((((Cm y).countP (Kz y o i):Nat):Int)==0) _ _)=_;rw[MF,Pr];cases (Cm y).all (Kz y o i)<;>cases (Cm y).all (fun t=> !Kz y o i t)<;>rfl
 ·rw[ct (by simpa using h),if_pos h]
theorem JP(y:Ar)(o:List (List Int)):∀(a:List AZ) (s:Int×AZ),s.1<(y.Ag.length:Int)∨a=[]→
  (∀t∈a,(D1 y (B8 y o t):Int)≤(Ip y o a s).1)∧s.1≤(Ip y o a s).1∧((Ip y o a s)=s∨∃t∈a,(Ip y o a s)=((D1 y (B8 y o t):Int),t))
 |[],s,_=>⟨fun t ht=>(by cases ht),Int.le_refl _,.inl rfl⟩
 |t::a,s,h=>by
  have e:s.1<(y.Ag.length:Int):=by
   rcases h with h|h
   ·exact h
   ·cases h
  have hle:∀x,(D1 y (B8 y o x):Int)≤(y.Ag.length:Int):=fun x=>by
   have:=Mb DQ y.Ag (B8 y o x);unfold D1;omega
  rw[Ip]
  by_cases f:s.1<(D1 y (B8 y o t):Int)
  ·rw[if_pos f];show(∀x∈t::a,_≤(cond (decide ((D1 y (B8 y o t):Int)<(y.Ag.length:Int))) _ _:Int×AZ).1)∧_
   by_cases d:(D1 y (B8 y o t):Int)<(y.Ag.length:Int)
   ·rw[ct (dt d)];obtain⟨h1,c,h3⟩:=JP y o a ((D1 y (B8 y o t):Int),t) (.inl d);refine⟨fun x b=>?_,by have g:(D1 y (B8 y o t):Int)≤_:=c;omega,.inr ?_⟩
    ·rcases List.mem_cons.1 b with rfl|b
     ·exact c
     ·exact h1 x b
    ·rcases h3 with h3|⟨x,b,h3⟩
     ·exact⟨t,List.mem_cons_self ..,h3⟩
     ·exact⟨x,List.mem_cons_of_mem _ b,h3⟩
   ·rw[cf (df d)];exact⟨fun x _=>Int.le_trans (hle x) (by show(y.Ag.length:Int)≤(D1 y (B8 y o t):Int);omega),by show s.1≤(D1 y (B8 y o t):Int);omega,.inr ⟨t,List.mem_cons_self ..,rfl⟩⟩
  ·rw[if_neg f];show(∀x∈t::a,_≤(cond (decide (s.1<(y.Ag.length:Int))) _ _:Int×AZ).1)∧_;rw[ct (dt e)];obtain⟨h1,c,h3⟩:=JP y o a s (.inl e);refine⟨fun x b=>?_,c,?_⟩
   ·rcases List.mem_cons.1 b with rfl|b
    ·omega
    ·exact h1 x b
   ·rcases h3 with h3|⟨x,b,h3⟩
    ·exact .inl h3
    ·exact .inr ⟨x,List.mem_cons_of_mem _ b,h3⟩
theorem LL{y:Ar}(hy:Fp y):Cm y≠[]:=by
 have h1:wl (days y) 0∈Bw y:=by
  refine Ic.2 ⟨FF _ _,?_⟩;have key:∀(l:List Bool) (s r:Int),(∀b∈l,b=false)→okW y.Ao y.AA l s r=true:=by
   intro l
   induction l with
   |nil=>intros;rfl
   |cons b l ih=>
    intro s r h;have a:=h b (List.mem_cons_self ..);subst a;rw[okW];exact ih s 0 fun x c=>h x (List.mem_cons_of_mem _ c)
  refine key _ 0 0 fun b a=>?_;unfold wl at a;obtain⟨d,_,rfl⟩:=List.mem_map.1 a;exact Nat.zero_testBit d
 have f:DA y.Ag (y.Ag.map (·.Au))=true:=by
  have key:∀ls:List Bb,(∀l∈ls,sized l)→DA ls (ls.map (·.Au))=true:=by
   intro ls
   induction ls with
   |nil=>intro _;rfl
   |cons l r ih=>
    intro h;have:=(h l (List.mem_cons_self ..)).1;rw[List.map_cons,DA,Bool.and_eq_true];exact⟨FK.2 (by unfold B0 at this;omega),ih fun x c=>h x (List.mem_cons_of_mem _ c)⟩
  exact key _ fun l g=>(hy.sz l g).1
 intro e;have:(⟨y.Ag.map (·.Au),wl (days y) 0⟩:AZ)∈Cm y:=by
  unfold Cm;exact List.mem_flatMap.2 ⟨_,h1,List.mem_map.2 ⟨_,GR.2 f,rfl⟩⟩
 rw[e] at this;cases this
theorem Iq {y:Ar} (hy:Fp y) (o:List (List Int)):(∀t,Et y t=true→(D1 y (B8 y o t):Int)≤(C7 y o).1)∧Et y (C7 y o).2=true∧(C7 y o).1=(D1 y (B8 y o (C7 y o).2):Int):=by
 obtain⟨h1,a,h3⟩:=JP y o (Cm y) (-1,⟨[],[]⟩) (.inl (by show(-1:Int)<_;omega));refine⟨fun t ht=>h1 t ((Hl hy.h0).2 ht),?_⟩;rcases h3 with h3|⟨t,ht,h3⟩
 ·exfalso;obtain⟨t,ht⟩:=List.exists_mem_of_ne_nil _ (LL hy);have:=h1 t ht;rw[h3] at this;have b:(D1 y (B8 y o t):Int)≤-1:=this;omega
 ·unfold C7;rw[h3];exact⟨(Hl hy.h0).1 ht,rfl⟩
end Go.Proofs.YtkljfdkmjdjpfaaGreat
end
section
namespace Go.Proofs.YtkljfdkmjdjpfaaGreat
def Ep:Nat→Nat→List (List Int)→List (List (List Int))
 |0,_,o=>[o]
 |k+1,i,o=>(List.range o.length).flatMap fun r=>(List.range ((o.getD r []).length+1)).flatMap fun(a:Nat)=>Ep k (i+1) (o.set r (CM (o.getD r []) (a:Int) (i:Int)))
def GK(y:Ar):List (List (List Int)):=Ep y.Ag.length 0 (List.replicate y.Ak.toNat [])
section
variable{σ:Type}{K:Nat}(cb:σ→List (List Int)→Option (Bool×σ))(y:Ar)
def Or(n k i:Nat):Prop:=∀(o:List (List Int)) (st:σ),(∀l∈o,l.length≤i)→o.length≤1000→
 (Bz K cb k (i:Int) y o st).map (fun z=>(z.1,z.2.2))=run cb (Ep n i o) st∧
 ∀z,Bz K cb k (i:Int) y o st=some z→z.1=true→z.2.1=o
theorem NA{l:List (List Int)}{r:Nat}(h:r<l.length):l.set r (l.getD r [])=l:=by
 rw[List.getD_eq_getElem?_getD,List.getElem?_eq_getElem h];exact List.set_getElem_self h
theorem Qd(n k i r:Nat)(hi:i≤10)(o:List (List Int))(s:r<o.length)(u:o.length≤1000)(hlen:∀l∈o,l.length≤i)(ih:Or (K:=K) cb y n k (i+1)):
  ∀(c m a:Nat) (q:List (List Int)) (st:σ),(o.getD r []).length+1=a+c→c<m→q.length=o.length→q.set r (o.getD r [])=o→
  (Cn (Bz K cb k) (i:Int) y (r:Int) (o.getD r []) m (a:Int) q st).map Q0=run cb ((List.range' a c).flatMap fun(a:Nat)=>Ep n (i+1) (o.set r (CM (o.getD r []) (a:Int) (i:Int)))) st∧
  ∀z,Cn (Bz K cb k) (i:Int) y (r:Int) (o.getD r []) m (a:Int) q st=some z→(∀x,z=.inl x→x.1=false)∧(∀x,z=.inr x→x.1.length=o.length∧x.1.set r (o.getD r [])=o):=by
 have aG:(o.getD r []).length≤i:=by
  rw[List.getD_eq_getElem?_getD,List.getElem?_eq_getElem s];exact hlen _ (List.getElem_mem s)
 intro c
 induction c with
 |zero=>
  intro m a q st h hm v f;cases m with
  |zero=>omega
  |succ m=>
   rw[Cn.eq_2,cf (df (by omega))];exact⟨rfl,fun z g=>by cases g;exact⟨fun x e=>(by cases e),fun x e=>by cases e;exact⟨v,f⟩⟩⟩
 |succ c w=>
  intro m a q st h hm v f;cases m with
  |zero=>omega
  |succ m=>
   have aA:r<q.length:=by omega
   have t:q.set r (CM (o.getD r []) (a:Int) (i:Int))=o.set r (CM (o.getD r []) (a:Int) (i:Int)):=by
    have h:(q.set r (o.getD r [])).set r (CM (o.getD r []) (a:Int) (i:Int))=o.set r (CM (o.getD r []) (a:Int) (i:Int)):=by rw[f]
    rw[List.set_set] at h;exact h
   rw[Cn.eq_2,ct (dt (by omega)),FV (by omega),FV (by omega),C3 aA,BJ (by omega) (by omega),DG i,Int.toNat_natCast,t];obtain⟨aC,aD⟩:=ih (o.set r (CM (o.getD r []) (a:Int) (i:Int))) st (fun l aE=>by
    rcases List.mem_or_eq_of_mem_set aE with h1|h1
    ·have:=hlen l h1;omega
    ·rw[h1,K6];omega) (by rw[List.length_set];exact u)
   rw[List.range'_succ,List.flatMap_cons,HQ,←aC];cases aF:Bz K cb k ((i+1:Nat):Int) y (o.set r (CM (o.getD r []) (a:Int) (i:Int))) st with
   |none=>exact⟨rfl,fun z g=>by cases g⟩
   |some z0=>
    obtain⟨b,j,s2⟩:=z0;cases b with
    |false=>
     refine⟨rfl,fun z g=>?_⟩;have aB:some (Sum.inl (false,j,s2))=some z:=g;cases aB;exact⟨fun x e=>by cases e;rfl,fun x e=>by cases e⟩
    |true=>
     have p:j=o.set r (CM (o.getD r []) (a:Int) (i:Int)):=aD _ aF rfl;have key:(Option.bind (some (true,j,s2)) fun d=>cond (!d.1) (some (Sum.inl (false,d.2.1,d.2.2))) ((i64 ((a:Int)+1)).bind fun _=>Cn (Bz K cb k) (i:Int) y (r:Int) (o.getD r []) m ((a:Int)+1) d.2.1 d.2.2))=Cn (Bz K cb k) (i:Int) y (r:Int) (o.getD r []) m ((a+1:Nat):Int) j s2:=by
      rw[Option.bind_some,nt,BJ (by omega) (by omega),DG a]
     rw[key];exact w m (a+1) j s2 (by omega) (by omega) (by rw[p,List.length_set]) (by rw[p,List.set_set];exact NA s)
theorem Qe(n k i:Nat)(hi:i≤10)(hK:2000≤K)(o:List (List Int))(p:o.length≤1000)(hlen:∀l∈o,l.length≤i)(ih:Or (K:=K) cb y n k (i+1)):
  ∀(c m r:Nat) (st:σ),o.length=r+c→c<m→
  (Ca (Bz K cb k) K (i:Int) y o m (r:Int) o st).map Q0=run cb ((List.range' r c).flatMap fun r=>(List.range ((o.getD r []).length+1)).flatMap fun(a:Nat)=>Ep n (i+1) (o.set r (CM (o.getD r []) (a:Int) (i:Int)))) st∧
  ∀z,Ca (Bz K cb k) K (i:Int) y o m (r:Int) o st=some z→(∀x,z=.inl x→x.1=false)∧(∀x,z=.inr x→x.1=o):=by
 intro c
 induction c with
 |zero=>
  intro m r st h hm;cases m with
  |zero=>omega
  |succ m=>
   rw[Ca.eq_2,cf (df (by omega))];exact⟨rfl,fun z j=>by cases j;exact⟨fun x f=>(by cases f),fun x f=>by cases f;rfl⟩⟩
 |succ c q=>
  intro m r st h hm;cases m with
  |zero=>omega
  |succ m=>
   have g:r<o.length:=by omega
   have aD:(o.getD r []).length≤i:=by
    rw[List.getD_eq_getElem?_getD,List.getElem?_eq_getElem g];exact hlen _ (List.getElem_mem g)
   have s:o[r]=o.getD r []:=by rw[List.getD_eq_getElem?_getD,List.getElem?_eq_getElem g];rfl
   rw[Ca.eq_2,ct (dt (by omega)),C3 g,s,BJ (by omega) (by omega)];obtain⟨t,u⟩:=Qd cb y n k i r hi o g p hlen ih ((o.getD r []).length+1) K 0 o st (by omega) (by omega) rfl (NA g);rw[Int.natCast_zero] at t u;rw[List.range'_succ,List.flatMap_cons,HQ,List.range_eq_range',←t];cases aA:Cn (Bz K cb k) (i:Int) y (r:Int) (o.getD r []) K 0 o st with
   |none=>exact⟨rfl,fun z j=>by cases j⟩
   |some z0=>
    obtain⟨h1,aB⟩:=u _ aA;cases z0 with
    |inl x=>
     obtain⟨b,e,s2⟩:=x;obtain rfl:b=false:=h1 _ rfl;refine⟨rfl,fun z j=>?_⟩;have v:some (Sum.inl (false,e,s2))=some z:=j;cases v;exact⟨fun x f=>by cases f;rfl,fun x f=>by cases f⟩
    |inr x=>
     obtain⟨e,s2⟩:=x;obtain⟨h3,aC⟩:=aB _ rfl;have aE:e.length=o.length:=h3;have w:e.set r (o.getD r [])=o:=aC;have key:(Option.bind (some (Sum.inr (e,s2):(Bool×List (List Int)×σ)⊕(List (List Int)×σ))) fun z=>Sum.elim (fun d=>some (Sum.inl (d.1,d.2.1,d.2.2))) (fun d=>(idx d.1 (r:Int)).bind fun _=>(i64 ((r:Int)+1)).bind fun _=>Ca (Bz K cb k) K (i:Int) y o m ((r:Int)+1) (d.1.set (r:Int).toNat (o.getD r [])) d.2) z)=Ca (Bz K cb k) K (i:Int) y o m ((r+1:Nat):Int) o s2:=by
      rw[Option.bind_some];show(idx e (r:Int)).bind _=_;rw[C3 (show r<e.length by omega),BJ (by omega) (by omega),DG r];show Ca _ K _ y o m _ (e.set (r:Int).toNat (o.getD r [])) s2=_;rw[Int.toNat_natCast,w]
     rw[key];exact q m (r+1) s2 (by omega) (by omega)
theorem Qf(p:y.Ag.length≤4)(hK:2000≤K):∀(n k i:Nat),y.Ag.length=i+n→n<k→Or (K:=K) cb y n k i:=by
 intro n
 induction n with
 |zero=>
  intro k i h j o st hlen e;cases k with
  |zero=>omega
  |succ k=>
   rw[Bz.eq_2,ct (by rw[h];simp)];rw[Ep,run];cases cb st o with
   |none=>exact⟨rfl,fun z a=>by cases a⟩
   |some r=>
    obtain⟨b,s⟩:=r;refine⟨by cases b<;>rfl,fun z a _=>?_⟩;have c:some (b,o,s)=some z:=a;cases c;rfl
 |succ n ih=>
  intro k i h j o st hlen e;cases k with
  |zero=>omega
  |succ k=>
   rw[Bz.eq_2,cf (by simp;omega)];obtain⟨f,g⟩:=Qe cb y n k i (by omega) hK o e hlen (ih k (i+1) (by omega) (by omega)) o.length K 0 st (by omega) (by omega);rw[Int.natCast_zero] at f g;rw[Ep,List.range_eq_range',←f];cases l:Ca (Bz K cb k) K (i:Int) y o K 0 o st with
   |none=>exact⟨rfl,fun z a=>by cases a⟩
   |some z0=>
    obtain⟨h1,m⟩:=g _ l;cases z0 with
    |inl x=>
     obtain⟨b,d,s2⟩:=x;obtain rfl:b=false:=h1 _ rfl;refine⟨rfl,fun z a ht=>?_⟩;have c:some (false,d,s2)=some z:=a;cases c;cases ht
    |inr x=>
     obtain⟨d,s2⟩:=x;obtain rfl:d=o:=m _ rfl;refine⟨rfl,fun z a ht=>?_⟩;have c:some (true,d,s2)=some z:=a;cases c;rfl
end
theorem NB{σ:Type}{K:Nat}(cb:σ→List (List Int)→Option (Bool×σ))(y:Ar)(hy:Fp y)(hK:2000≤K)(st:σ):EW K cb y st=(run cb (GK y) st).bind fun r=>some r.2:=by
 unfold EW;have:=hy.r1;have:=hy.r2;rw[OA (by omega) (by omega) (by omega)];obtain⟨a,_⟩:=Qf cb y hy.n4 hK y.Ag.length K 0 (by omega) (by have:=hy.n4;omega) (List.replicate y.Ak.toNat []) st (fun l b=>by rw[(List.mem_replicate.1 b).2];exact Nat.le_refl _) (by rw[List.length_replicate];omega);rw[Int.natCast_zero] at a;unfold GK;rw[←a];cases Bz K cb K 0 y (List.replicate y.Ak.toNat []) st with
 |none=>rfl
 |some z=>rfl
end Go.Proofs.YtkljfdkmjdjpfaaGreat
end
section
namespace Go.Proofs.YtkljfdkmjdjpfaaGreat
theorem Qg(l:List Int)(a i:Int):(CM l a i).Perm (i::l):=by
 unfold CM;refine List.perm_middle.trans (List.Perm.cons _ ?_);rw[List.take_append_drop]
theorem Hy(v:Int):∀(o:List (List Int)) (r:Nat) (a:Int),r<o.length→(o.set r (CM (o.getD r []) a v)).flatten.Perm (v::o.flatten)
 |l::o,0,a,_=>by
  show(CM l a v++o.flatten).Perm (v::(l++o.flatten));exact(Qg l a v).append_right _
 |l::o,r+1,a,h=>by
  show(l++(o.set r (CM (o.getD r []) a v)).flatten).Perm (v::(l++o.flatten));exact((Hy v o r a (by simpa using h)).append_left l).trans List.perm_middle
theorem I5(n:Nat):iota (n+1)=iota n++[(n:Int)]:=by simp[iota,List.range_succ]
theorem LM:∀(k i:Nat) (c o:List (List Int)),c.flatten.Perm (iota i)→o∈Ep k i c→o.length=c.length∧o.flatten.Perm (iota (i+k))
 |0,i,c,o,h,b=>by
  rw[Ep,List.mem_singleton] at b;subst b;exact⟨rfl,h⟩
 |k+1,i,c,o,h,b=>by
  rw[Ep,List.mem_flatMap] at b;obtain⟨r,d,b⟩:=b;obtain⟨a,_,b⟩:=List.mem_flatMap.1 b;rw[List.mem_range] at d;obtain⟨h1,e⟩:=LM k (i+1) _ o (by
   rw[I5];exact((Hy (i:Int) c r (a:Int) d).trans (h.cons _)).trans (List.perm_append_singleton _ _).symm) b
  rw[List.length_set] at h1;exact⟨h1,by rw[show i+(k+1)=i+1+k by omega];exact e⟩
theorem Ir{y:Ar}(hy:Fp y){o:List (List Int)}(h:o∈GK y):Dz y o=true:=by
 have:=LM _ 0 _ o (by
  have:(List.replicate y.Ak.toNat ([]:List Int)).flatten=[]:=by simp
  rw[this];exact List.Perm.refl _) h
 rw[List.length_replicate,Nat.zero_add] at this;refine Fg.2 ⟨?_,this.2⟩;have:=hy.r1;omega
theorem KA:∀(k i:Nat) (c o:List (List Int)) (r a:Nat),o∈Ep k i c→r<o.length→a≤(o.getD r []).length→o.set r (CM (o.getD r []) (a:Int) ((i+k:Nat):Int))∈Ep (k+1) i c
 |0,i,c,o,r,a,b,d,e=>by
  rw[Ep,List.mem_singleton] at b;subst b;rw[Ep,List.mem_flatMap];refine⟨r,List.mem_range.2 d,List.mem_flatMap.2 ⟨a,List.mem_range.2 (by omega),?_⟩⟩;rw[Ep,List.mem_singleton];rfl
 |k+1,i,c,o,r,a,b,d,e=>by
  rw[Ep,List.mem_flatMap] at b;obtain⟨r1,f,b⟩:=b;obtain⟨a1,g,b⟩:=List.mem_flatMap.1 b;rw[Ep,List.mem_flatMap];refine⟨r1,f,List.mem_flatMap.2 ⟨a1,g,?_⟩⟩;have:=KA k (i+1) _ o r a b d e;rw[show i+1+k=i+(k+1) by omega] at this;exact this
theorem LN (v:Int):∀(o:List (List Int)),v∈o.flatten→∃(o':List (List Int)) (r a:Nat),r<o'.length∧a≤(o'.getD r []).length∧o=o'.set r (CM (o'.getD r []) (a:Int) v)∧o.flatten.Perm (v::o'.flatten)∧o'.length=o.length
 |[],h=>by cases h
 |l::o,h=>by
  by_cases b:v∈l
  ·obtain⟨s,t,rfl⟩:=List.append_of_mem b;refine⟨(s++t)::o,0,s.length,by simp,by simp,?_,?_,by simp⟩
   ·show _=CM (s++t) (s.length:Int) v::o;unfold CM;rw[Int.toNat_natCast,List.take_left,List.drop_left]
   ·show((s++v::t)++o.flatten).Perm (v::((s++t)++o.flatten));exact(List.perm_middle (a:=v) (l₁:=s) (l₂:=t)).append_right _
  ·have c:v∈o.flatten:=by
    rw[List.flatten_cons,List.mem_append] at h;exact h.resolve_left b
   obtain⟨o',r,a,h1,d,h3,e,f⟩:=LN v o c;refine⟨l::o',r+1,a,by simpa using h1,d,?_,?_,by simp[f]⟩
   ·show l::o=l::o'.set r (CM (o'.getD r []) (a:Int) v);rw[←h3]
   ·show(l++o.flatten).Perm (v::(l++o'.flatten));exact(e.append_left l).trans List.perm_middle
theorem K9(LS:Nat):∀(n:Nat) (o:List (List Int)),o.length=LS→o.flatten.Perm (iota n)→o∈Ep n 0 (List.replicate LS [])
 |0,o,c,b=>by
  rw[Ep,List.mem_singleton];have he:o.flatten=[]:=b.eq_nil;rw[List.flatten_eq_nil_iff] at he;exact List.eq_replicate_iff.2 ⟨c,he⟩
 |n+1,o,c,b=>by
  have e:(n:Int)∈o.flatten:=b.mem_iff.2 (by rw[I5];simp);obtain⟨o',r,a,h1,f,h3,g,i⟩:=LN (n:Int) o e;have d:o'.flatten.Perm (iota n):=by
   have h:(iota (n+1)).Perm ((n:Int)::iota n):=by rw[I5];exact List.perm_append_singleton _ _
   exact(List.perm_cons _).1 ((g.symm.trans b).trans h)
  have:=KA n 0 _ o' r a (K9 LS n o' (by omega) d) h1 f;rw[Nat.zero_add] at this;rw[h3];exact this
theorem La{y:Ar}(hy:Fp y){o:List (List Int)}:o∈GK y↔Dz y o=true:=by
 refine⟨Ir hy,fun h=>?_⟩;have a:=Fg.1 h;exact K9 _ _ o (by omega) a.2
theorem Ps{y:Ar}(hy:Fp y):GK y≠[]:=by
 have:((iota y.Ag.length)::List.replicate (y.Ak.toNat-1) [])∈GK y:=by
  refine(La hy).2 (Fg.2 ⟨?_,?_⟩)
  ·have:=hy.r1;simp;omega
  ·simp
 intro e;rw[e] at this;cases this
theorem Q5(p:List (List Int))(c:p.length≤1000)(a:∀l∈p,l.length≤1000):∀(k m i:Nat),p.length=i+k→k<m→ER p m (i:Int) p=some p:=by
 intro k
 induction k with
 |zero=>
  intro m i h hm;cases m with
  |zero=>omega
  |succ m=>rw[ER.eq_2,cf (df (by omega))]
 |succ k ih=>
  intro m i h hm;cases m with
  |zero=>omega
  |succ m=>
   have hi:i<p.length:=by omega
   have b:=a p[i] (List.getElem_mem hi);rw[ER.eq_2,ct (dt (by omega)),C3 hi,FV (by omega),C3 hi,BJ (by omega) (by omega),DG,Int.toNat_natCast,List.set_getElem_self hi];exact ih m (i+1) (by omega) (by omega)
theorem NC{K:Nat}(p:List (List Int))(a:p.length≤1000)(b:∀l∈p,l.length≤1000)(hK:2000≤K):Ff K p=some p:=by
 unfold Ff;have:=Q5 p a b p.length K 0 (by omega) (by omega);rw[Int.natCast_zero] at this;rw[FV (by omega),bd this]
theorem KB{y:Ar}(hy:Fp y){o:List (List Int)}(h:Dz y o=true):o.length≤1000∧(∀l∈o,l.length≤1000)∧o.flatten.length≤1000:=by
 have h1:=Fg.1 h;have a:=L9 h;have:=hy.r2;have:=hy.n4;have h3:=h1.2.length_eq;rw[G2] at h3;exact⟨by omega,fun l b=>by have:=(a l b).1;omega,by omega⟩
def H4(y:Ar):List (List (List Int))→Int×List (List Int)→Int×List (List Int)
 |[],s=>s
 |o::os,s=>
  let s2:=if (C7 y o).1<s.1 then ((C7 y o).1,o) else s
  cond (decide (0<s2.1)) (H4 y os s2) s2
def H5(y:Ar):Int×List (List Int):=H4 y (GK y) ((y.Ag.length:Int)+1,[])
theorem ND{K:Nat}(y:Ar)(hy:Fp y)(hK:2000≤K):∀(os:List (List (List Int))) (s:Int×List (List Int)),(∀o∈os,Dz y o=true)→
  (run (fun(st:Int×(List (List Int))) (x:(List (List Int)))=>(Gg K x y st.1 st.2).bind fun r=>some (r.1,(r.2.1,r.2.2))) os s).bind (fun r=>some r.2)=some (H4 y os s)
 |[],s,_=>rfl
 |o::os,s,h=>by
  have c:=h o (List.mem_cons_self ..);obtain⟨d,e,_⟩:=KB hy c;rw[run,H4];unfold Gg;rw[bd (Qb y hy o c hK)]
  by_cases a:(C7 y o).1<s.1
  ·rw[ct (dt a),bd (NC o d e hK),if_pos a];show(cond (decide (0<(C7 y o).1)) _ _:Option (Bool×Int×List (List Int))).bind _=some (cond (decide (0<(C7 y o).1)) _ _);cases decide (0<(C7 y o).1) with
   |false=>rfl
   |true=>exact ND y hy hK os _ fun x b=>h x (List.mem_cons_of_mem _ b)
  ·rw[cf (df a),if_neg a];show(cond (decide (0<s.1)) _ _:Option (Bool×Int×List (List Int))).bind _=some (cond (decide (0<s.1)) _ _);cases decide (0<s.1) with
   |false=>rfl
   |true=>exact ND y hy hK os s fun x b=>h x (List.mem_cons_of_mem _ b)
theorem TM{K:Nat}(y:Ar)(hK:2000≤K):G0 K y=some (if check y≠0 then ([],0,check y) else ((H5 y).2,(H5 y).1,0)):=by
 unfold G0;rw[bd (Ix hK y)]
 by_cases h:check y=0
 ·rw[h,cf (by decide),if_neg (by simp)];have hy:=FQ h;have b:=hy.n4;rw[BJ (by omega) (by omega),NB _ y hy hK];exact Eq.trans (bd (ND y hy hK (GK y) _ fun o a=>Ir hy a)) rfl
 ·rw[ct (by simpa using h),if_pos h]
theorem NF{y:Ar}(hy:Fp y)(o:List (List Int)):0≤(C7 y o).1∧(C7 y o).1≤(y.Ag.length:Int):=by
 obtain⟨_,_,e⟩:=Iq hy o;have:=Mb DQ y.Ag (B8 y o (C7 y o).2);rw[e];unfold D1;omega
theorem JQ(y:Ar)(hy:Fp y):∀(os:List (List (List Int))) (s:Int×List (List Int)),0<s.1∨os=[]→
  (∀o∈os,(H4 y os s).1≤(C7 y o).1)∧(H4 y os s).1≤s.1∧((H4 y os s)=s∨∃o∈os,(H4 y os s)=((C7 y o).1,o))
 |[],s,_=>⟨fun o f=>(by cases f),Int.le_refl _,.inl rfl⟩
 |o::os,s,h=>by
  have d:0<s.1:=by
   rcases h with h|h
   ·exact h
   ·cases h
  rw[H4]
  by_cases e:(C7 y o).1<s.1
  ·rw[if_pos e];show(∀x∈o::os,(cond (decide (0<(C7 y o).1)) _ _:Int×List (List Int)).1≤_)∧_
   by_cases c:0<(C7 y o).1
   ·rw[ct (dt c)];obtain⟨h1,b,h3⟩:=JQ y hy os ((C7 y o).1,o) (.inl c);have g:(H4 y os ((C7 y o).1,o)).1≤(C7 y o).1:=b;refine⟨fun x a=>?_,by omega,.inr ?_⟩
    ·rcases List.mem_cons.1 a with rfl|a
     ·exact b
     ·exact h1 x a
    ·rcases h3 with h3|⟨x,a,h3⟩
     ·exact⟨o,List.mem_cons_self ..,h3⟩
     ·exact⟨x,List.mem_cons_of_mem _ a,h3⟩
   ·rw[cf (df c)];refine⟨fun x _=>?_,by show(C7 y o).1≤s.1;omega,.inr ⟨o,List.mem_cons_self ..,rfl⟩⟩;have:=(NF hy x).1;show(C7 y o).1≤_;omega
  ·rw[if_neg e];show(∀x∈o::os,(cond (decide (0<s.1)) _ _:Int×List (List Int)).1≤_)∧_;rw[ct (dt d)];obtain⟨h1,b,h3⟩:=JQ y hy os s (.inl d);refine⟨fun x a=>?_,b,?_⟩
   ·rcases List.mem_cons.1 a with rfl|a
    ·omega
    ·exact h1 x a
   ·rcases h3 with h3|⟨x,a,h3⟩
    ·exact .inl h3
    ·exact .inr ⟨x,List.mem_cons_of_mem _ a,h3⟩
theorem Pt {y:Ar} (hy:Fp y):(∀o,Dz y o=true→(H5 y).1≤(C7 y o).1)∧Dz y (H5 y).2=true∧(H5 y).1=(C7 y (H5 y).2).1:=by
 obtain⟨h1,b,h3⟩:=JQ y hy (GK y) ((y.Ag.length:Int)+1,[]) (.inl (by show(0:Int)<_+1;omega));refine⟨fun o a=>h1 o ((La hy).2 a),?_⟩;rcases h3 with h3|⟨o,a,h3⟩
 ·exfalso;obtain⟨o,a⟩:=List.exists_mem_of_ne_nil _ (Ps hy);have:=h1 o a;rw[h3] at this;have c:(y.Ag.length:Int)+1≤(C7 y o).1:=this;have:=(NF hy o).2;omega
 ·unfold H5;rw[h3];exact⟨Ir hy a,rfl⟩
end Go.Proofs.YtkljfdkmjdjpfaaGreat
end
section
namespace Go.Proofs.YtkljfdkmjdjpfaaGreat
def Ha(y:Ar)(yes:List Int):Nat:=(List.range y.Ag.length).countP fun i=>yes.getD i 0==0
theorem Sc(y:Ar)(r:BN×Int×Unit)(b:y.Ag.length≤4):∀(k m i:Nat) (a:Int),y.Ag.length=i+k→k<m→0≤a→a≤i→
  Ek y r m a (i:Int)=some (a+((List.range' i k).countP (fun i=>r.1.l.getD i 0==0):Nat)):=by
 intro k
 induction k with
 |zero=>
  intro m i a h hm h0 h1;cases m with
  |zero=>omega
  |succ m=>rw[Ek.eq_2,cf (df (by omega))];simp
 |succ k ih=>
  intro m i a h hm h0 h1;cases m with
  |zero=>omega
  |succ m=>
   rw[Ek.eq_2,ct (dt (by omega)),bd (MS r.1 i (by omega)),List.range'_succ,List.countP_cons];cases c:(r.1.l.getD i 0==0) with
   |true=>
    rw[ct rfl,BJ (by omega) (by omega),BJ (by omega) (by omega),DG,ih m (i+1) (a+1) (by omega) (by omega) (by omega) (by omega)]
    congr 1;simp;omega
   |false=>
    rw[cf rfl,BJ (by omega) (by omega),DG,ih m (i+1) a (by omega) (by omega) (by omega) (by omega)]
    congr 1
theorem Q6(y:Ar)(r:BN×Int×Unit)(b:y.Ag.length≤4):∀(k m i:Nat) (a:Int),y.Ag.length=i+k→k<m→0≤a→a≤i→
  Ea y r m a (i:Int)=some (a+((List.range' i k).countP (fun i=>r.1.l.getD i 0==0):Nat)):=by
 intro k
 induction k with
 |zero=>
  intro m i a h hm h0 h1;cases m with
  |zero=>omega
  |succ m=>rw[Ea.eq_2,cf (df (by omega))];simp
 |succ k ih=>
  intro m i a h hm h0 h1;cases m with
  |zero=>omega
  |succ m=>
   rw[Ea.eq_2,ct (dt (by omega)),bd (MS r.1 i (by omega)),List.range'_succ,List.countP_cons];cases c:(r.1.l.getD i 0==0) with
   |true=>
    rw[ct rfl,BJ (by omega) (by omega),BJ (by omega) (by omega),DG,ih m (i+1) (a+1) (by omega) (by omega) (by omega) (by omega)]
    congr 1;simp;omega
   |false=>
    rw[cf rfl,BJ (by omega) (by omega),DG,ih m (i+1) a (by omega) (by omega) (by omega) (by omega)]
    congr 1
def H6(y:Ar):List (List (List Int))→Int×List Int×List (List Int)→Int×List Int×List (List Int)
  |[],s=>s
  |o::os,s=>
    cond (decide (0≤s.1)&&(Dk DQ y o==s.2.1)) (H6 y os s)
      (let s2:=if s.1<(Ha y (Dk DQ y o):Int) then ((Ha y (Dk DQ y o):Int),Dk DQ y o,o) else (s.1,Dk DQ y o,s.2.2)
       cond (decide (s2.1<(y.Ag.length:Int))) (H6 y os s2) s2)
def LO(y:Ar):Int×List Int×List (List Int):=H6 y (GK y) (-1,[0,0,0,0],[])
theorem NG{K:Nat}(y:Ar)(hy:Fp y)(hK:2000≤K):∀(os:List (List (List Int))) (n:Int) (a:BN) (q:List (List Int)),(∀o∈os,Dz y o=true)→
    ∃(b:Bool) (a2:BN),run (fun(st:Int×BN×(List (List Int))) (x:(List (List Int)))=>(EJ K x y st.1 st.2.1 st.2.2).bind fun r=>some (r.1,(r.2.1,r.2.2.1,r.2.2.2))) os (n,a,q)=some (b,(H6 y os (n,a.l,q)).1,a2,(H6 y os (n,a.l,q)).2.2)
  |[],n,a,q,_=>⟨true,a,rfl⟩
  |o::os,n,a,q,h=>by
    have p:=h o (List.mem_cons_self ..);have m:∀x∈os,Dz y x=true:=fun x aB=>h x (List.mem_cons_of_mem _ aB);obtain⟨aC,aD,_⟩:=KB hy p;have s:=hy.n4;obtain⟨b,aE,j⟩:=Md (K:=K) DQ y hy o p hK;have t:Cz K (fun(st:Unit) (x:Bb×Av)=>(Ej K x.1 x.2).bind fun r=>some (r,())) y o ()=some (b,((Cm y).length:Int),()):=by
      rw[←aE];congr 1;funext st x;rw[bd (OD ..)];rfl
    have h9:=Sc y (b,((Cm y).length:Int),()) s y.Ag.length K 0 0 (by omega) (by omega) (by omega) (by omega);have e:=Q6 y (b,((Cm y).length:Int),()) s y.Ag.length K 0 0 (by omega) (by omega) (by omega) (by omega);rw[Int.natCast_zero,Int.zero_add] at h9 e;have u:((List.range' 0 y.Ag.length).countP (fun i=>(b,((Cm y).length:Int),()).1.l.getD i 0==0))=Ha y (Dk DQ y o):=by
      rw[←List.range_eq_range',←j];rfl
    rw[u] at h9 e;have c:∀(l:Int×BN×List (List Int)) (z:Int×List Int×List (List Int)),(l.1,l.2.1.l,l.2.2)=z→
        ∃(d:Bool) (a2:BN),cond (decide (l.1<(y.Ag.length:Int))) (run (fun(st:Int×BN×(List (List Int))) (x:(List (List Int)))=>(EJ K x y st.1 st.2.1 st.2.2).bind fun r=>some (r.1,(r.2.1,r.2.2.1,r.2.2.2))) os l) (some (false,l))=some (d,(cond (decide (z.1<(y.Ag.length:Int))) (H6 y os z) z).1,a2,(cond (decide (z.1<(y.Ag.length:Int))) (H6 y os z) z).2.2):=by
      rintro⟨f,v,aF⟩ z rfl;show∃(d:Bool) (a2:BN),cond (decide (f<(y.Ag.length:Int))) _ _=some (d,(cond (decide (f<(y.Ag.length:Int))) _ _:Int×List Int×List (List Int)).1,a2,(cond (decide (f<(y.Ag.length:Int))) _ _:Int×List Int×List (List Int)).2.2);cases decide (f<(y.Ag.length:Int)) with
      |false=>exact⟨false,v,rfl⟩
      |true=>exact NG y hy hK os f v aF m
    have main:∀z9:Int,z9=(Ha y (Dk DQ y o):Int)→∃(d:Bool) (a2:BN),
        (((cond (decide (n<z9)) ((Ff K o).bind fun w=>some ((decide (z9<(y.Ag.length:Int)),z9,b,w))) (some ((decide (n<(y.Ag.length:Int)),n,b,q))):Option (Bool×Int×BN×List (List Int))).bind fun r=>some (r.1,(r.2.1,r.2.2.1,r.2.2.2))).bind fun r=>cond r.1 (run (fun(st:Int×BN×(List (List Int))) (x:(List (List Int)))=>(EJ K x y st.1 st.2.1 st.2.2).bind fun r=>some (r.1,(r.2.1,r.2.2.1,r.2.2.2))) os r.2) (some (false,r.2)))=
        some (d,(let s2:=if n<(Ha y (Dk DQ y o):Int) then ((Ha y (Dk DQ y o):Int),Dk DQ y o,o) else (n,Dk DQ y o,q)
       cond (decide (s2.1<(y.Ag.length:Int))) (H6 y os s2) s2).1,a2,(let s2:=if n<(Ha y (Dk DQ y o):Int) then ((Ha y (Dk DQ y o):Int),Dk DQ y o,o) else (n,Dk DQ y o,q)
       cond (decide (s2.1<(y.Ag.length:Int))) (H6 y os s2) s2).2.2):=by
      rintro z9 rfl
      by_cases g:n<(Ha y (Dk DQ y o):Int)
      · rw[ct (dt g),bd (NC o aC aD hK)];simp only[if_pos g];exact c ((Ha y (Dk DQ y o):Int),b,o) ((Ha y (Dk DQ y o):Int),Dk DQ y o,o) (by show(_,b.l,o)=_;rw[j])
      · rw[cf (df g)];simp only[if_neg g];exact c (n,b,q) (n,Dk DQ y o,q) (by show(_,b.l,q)=_;rw[j])
    rw[run,H6];show∃(d:Bool) (a2:BN),Option.bind ((EJ K o y n a q).bind _) _=_;unfold EJ;rw[bd t]
    by_cases k:0≤n
    · rw[ct (dt k),dt k,Bool.true_and];have aA:([b.a0,b.a1,b.a2,b.a3]==[a.a0,a.a1,a.a2,a.a3])=(Dk DQ y o==a.l):=by rw[←j];rfl
      rw[aA];cases g:(Dk DQ y o==a.l) with
      |true=>
        rw[ct rfl,ct rfl];exact NG y hy hK os n a q m
      |false=>
        rw[cf rfl,cf rfl,bd h9];exact main _ rfl
    · rw[cf (df k),df k,Bool.false_and,cf rfl,bd e];exact main _ rfl
theorem TN{K:Nat}(y:Ar)(hK:2000≤K):G1 K y=some (if check y≠0 then ([],0,check y) else ((LO y).2.2,(LO y).1,0)):=by
 unfold G1;rw[bd (Ix hK y)]
 by_cases h:check y=0
 ·rw[h,cf (by decide),if_neg (by simp)];have hy:=FQ h;rw[NB _ y hy hK];obtain⟨b,a2,e⟩:=NG (K:=K) y hy hK (GK y) (-1) ⟨0,0,0,0⟩ [] fun o a=>Ir hy a;exact Eq.trans (congrArg (fun z=>Option.bind (Option.bind z _) _) e) rfl
 ·rw[ct (by simpa using h),if_pos h]
end Go.Proofs.YtkljfdkmjdjpfaaGreat
end
section
namespace Go.Proofs.YtkljfdkmjdjpfaaGreat
def Hg(n i k:Nat):List Int:=((List.range' k (n-k)).filter fun j=>j !=i).map fun j:Nat=>(j:Int)
def GL (y:Ar) (i:Nat):List (List Int):=((i:Int)::Hg y.Ag.length i 0)::List.replicate (y.Ak.toNat-1) []
theorem TO{α:Type}(x:α)(r:List α):idx (x::r) (0:Int)=some x:=idx_eq (xs:=x::r) (k:=0) (by simp)
theorem UY(n i:Nat)(f:n≤4):∀(d m k:Nat) (x:List Int) (r:List (List Int)),n=k+d→d<m→x.length≤1+k→
  Jd (n:Int) (i:Int) m (k:Int) (x::r)=some ((x++Hg n i k)::r):=by
 intro d
 induction d with
 |zero=>
  intro m k x r h hm e;cases m with
  |zero=>omega
  |succ m=>
   rw[Jd,cf (df (by omega))];unfold Hg;rw[show n-k=0 by omega];simp
 |succ d ih=>
  intro m k x r h hm e;cases m with
  |zero=>omega
  |succ m=>
   have b:idx (x::r) (0:Int)=some x:=TO x r;have c:Hg n i k=cond (k !=i) ((k:Int)::Hg n i (k+1)) (Hg n i (k+1)):=by
    unfold Hg;rw[show n-k=(n-(k+1))+1 by omega,List.range'_succ,List.filter_cons];cases g:(k !=i) with
    |true=>rfl
    |false=>rfl
   rw[Jd,ct (dt (by omega))]
   by_cases a:k=i
   ·have:((k:Int) !=(i:Int))=false:=by rw[a];exact bne_self_eq_false ..
    rw[this,cf rfl,BJ (by omega) (by omega),DG,ih m (k+1) x r (by omega) (by omega) (by omega),c,show(k !=i)=false by rw[a];exact bne_self_eq_false ..];rfl
   ·have:((k:Int) !=(i:Int))=true:=by rw[bne_iff_ne];omega
    rw[this,ct rfl,bd b,FV (by simp;omega),bd b,BJ (by omega) (by omega),DG];show Jd _ _ m _ ((x++[(k:Int)])::r)=_;rw[ih m (k+1) (x++[(k:Int)]) r (by omega) (by omega) (by simp;omega),c,show(k !=i)=true by rw[bne_iff_ne];exact a];simp
theorem Qh{y:Ar}(hy:Fp y){i:Nat}(hi:i<y.Ag.length):Dz y (GL y i)=true:=by
 have h1:=hy.r1;rw[Fg];refine⟨by unfold GL;simp;omega,?_⟩;have e:(GL y i).flatten=(i:Int)::Hg y.Ag.length i 0:=by
  unfold GL;rw[List.flatten_cons];have:(List.replicate (y.Ak.toNat-1) ([]:List Int)).flatten=[]:=by
   simp
  rw[this,List.append_nil]
 rw[e];unfold Hg iota;rw[←List.range_eq_range',Nat.sub_zero];have:((i:Int)::((List.range y.Ag.length).filter fun j=>j !=i).map fun j:Nat=>(j:Int))=(i::((List.range y.Ag.length).filter fun j=>j !=i)).map fun j:Nat=>(j:Int):=rfl;rw[this];refine List.Perm.map _ ?_;have hm:i∈List.range y.Ag.length:=List.mem_range.2 hi;have a:=List.perm_cons_erase hm;rw[List.Nodup.erase_eq_filter List.nodup_range] at a;exact a.symm
def Gn(y:Ar)(k d:Nat):List Int:=((List.range' k d).filter fun i=> !(Cm y).all (Kz y (GL y i) i)).map fun i:Nat=>(i:Int)
theorem Pu{K:Nat}(y:Ar)(hy:Fp y)(hK:2000≤K):∀(d m i:Nat) (a:List Int),y.Ag.length=i+d→d<m→a.length≤i→
  DT K y m a (i:Int)=some (a++Gn y i d):=by
 have f:=hy.n4;have q:=hy.r1;have s:=hy.r2;intro d
 induction d with
 |zero=>
  intro m i a h hm g;cases m with
  |zero=>omega
  |succ m=>rw[DT.eq_2,cf (df (by omega))];simp[Gn]
 |succ d ih=>
  intro m i a h hm g;cases m with
  |zero=>omega
  |succ m=>
   have hi:i<y.Ag.length:=by omega
   have j:=Qh hy hi;obtain⟨b,k,n⟩:=Md (K:=K) GJ y hy (GL y i) j hK;have c:Cz K (fun(st:Unit) (x:Bb×Av)=>(Dc K x.1 x.2).bind fun r=>some (r,())) y (GL y i) ()=some (b,((Cm y).length:Int),()):=by
    rw[←k];congr 1;funext st x;rw[bd (Ma ..)]
   have er:List.replicate y.Ak.toNat ([]:List Int)=[]::List.replicate (y.Ak.toNat-1) []:=by
    rw[←List.replicate_succ];congr 1;omega
   have e:=UY y.Ag.length i f y.Ag.length K 0 [(i:Int)] (List.replicate (y.Ak.toNat-1) []) (by omega) (by omega) (by simp);rw[DT.eq_2,ct (dt (by omega)),OA (by omega) (by omega) (by omega),er];rw[bd (show idx (([]:List Int)::List.replicate (y.Ak.toNat-1) []) (0:Int)=some [] from TO _ _)];rw[Int.natCast_zero] at e;show(Jd _ _ K (0:Int) ([(i:Int)]::List.replicate (y.Ak.toNat-1) [])).bind _=_;rw[bd e];show(Cz K _ y (GL y i) ()).bind _=_;rw[bd c,bd (MS b i (by omega))];have o:((b.l.getD i 0)==((Cm y).length:Int))=(Cm y).all (Kz y (GL y i) i):=by
    rw[n,LK GJ y hy (GL y i) i hi,MF];rfl
   show cond ((b.l.getD i 0)==((Cm y).length:Int)) _ _=_;rw[o];have p:Gn y i (d+1)=cond ((Cm y).all (Kz y (GL y i) i)) (Gn y (i+1) d) ((i:Int)::Gn y (i+1) d):=by
    unfold Gn;rw[List.range'_succ,List.filter_cons];cases (Cm y).all (Kz y (GL y i) i)<;>rfl
   rw[p];cases (Cm y).all (Kz y (GL y i) i) with
   |true=>
    rw[ct rfl,BJ (by omega) (by omega),DG,ih m (i+1) a (by omega) (by omega) (by omega)];rfl
   |false=>
    rw[cf rfl,FV (by simp;omega),BJ (by omega) (by omega),DG,ih m (i+1) (a++[(i:Int)]) (by omega) (by omega) (by simp;omega)];simp
theorem Pv{K:Nat}(y:Ar)(hK:2000≤K):FJ K y=some (if check y≠0 then ([],check y) else (Gn y 0 y.Ag.length,0)):=by
 unfold FJ;rw[bd (Ix hK y)]
 by_cases h:check y=0
 ·rw[h,if_neg (by simp)];have e:=Pu (K:=K) y (FQ h) hK y.Ag.length K 0 [] (by omega) (by have:=(FQ h).n4;omega) (by simp);rw[Int.natCast_zero] at e;show cond false _ _=_;rw[cf rfl,bd e,List.nil_append]
 ·rw[ct (by simpa using h),if_pos h]
end Go.Proofs.YtkljfdkmjdjpfaaGreat
end
