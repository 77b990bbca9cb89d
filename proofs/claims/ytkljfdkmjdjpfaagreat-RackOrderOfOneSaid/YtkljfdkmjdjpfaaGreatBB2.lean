import Derived.Test.YtkljfdkmjdjpfaaGreatBB1
import Derived.WalkKit
import Derived.KernelRfl
import Derived.WalkSpells
import Derived.WalkLawsBesides
import Derived.Maps.AppendAt
import Derived.OrdersIn
import Derived.RangeFuncIn
import Derived.RangeFuncLeaves
import Derived.RangeFuncRecord
import Derived.RangeFuncSeq
import Derived.Scope
import Derived.DeepKeys3
import Derived.Laws.CopyRow
import Derived.Laws.OwnMore
import Derived.Laws.MakeOwn
import Derived.Laws.IdiomCopy
/-
  The contracts of the functions of the program and of the reference, and the logic that they are proved in: the base that several claims of this seat share.
-/
set_option linter.all false
section
namespace Go.Proofs.YtkljfdkmjdjpfaaGreat
open Go.RowKit Go.WideShapes
theorem VY{f:Operand→Value}{i0 i1 i2 i3 i4:Nat}{a x1 x2 b c:Operand}{v0 v1 v2 v3 v4:Value}(h0:f a=v0)(h1:f x1=v1)(d:f x2=v2)(h3:f b=v3)(e:f c=v4): #[(i0,a),(i1,x1),(i2,x2),(i3,b),(i4,c)].map (fun(i,x)=>(i,f x))= #[(i0,v0),(i1,v1),(i2,v2),(i3,v3),(i4,v4)]:=by simp[h0,h1,d,h3,e]
section
variable{F F' F0:Nat→Prop}{B:List (Option Nat)}{w0 w w' w1 w2:World}{Z Z':Nat→Prop}{L L' M C:List (Option Nat)}{D:Nat→Prop}
theorem BT(a:List Nat)(h:Gq L a M):∀x∈M,x∈L:=h.sub
theorem AI(a:List Nat)(h:Gq L a M)(b:∀k,F' k→F k):∀k,FU F' M k→F k∨some k∈L:=TJ h.sub b
theorem C2(h:∀k,F0 k→F k):∀k,FU F0 C k→F k∨some k∈C:=fun k a=>a.imp (h k) id
theorem Gj{k:Nat}{o:Obj}{r:Option Nat}(h:w.heap[k]?=some o)(g:w.grownBy w' r)(a:some k≠r):w'.heap[k]?=some o:=(g.block k (Array.getElem?_eq_some_iff.1 h).1 a).trans h
theorem E1{k:Nat}{o:Obj}(h:w.heap[k]?=some o)(g:Bj D w w')(a:¬D k):w'.heap[k]?=some o:=(g.block k (Array.getElem?_eq_some_iff.1 h).1 a).trans h
theorem Cp.BC{α:Type}{ev:α→Value}{r n:Nat}{a:List (List Int×α)}(h:Cp ev w r n a)(g:Bj D w w')(b:¬D r):Cp ev w' r n a:=h.of (g.block r h.lt b)
theorem Cp.F1{α:Type}{ev:α→Value}{r n:Nat}{a:List (List Int×α)}(h:Cp ev w r n a)(e:w'.heap[r]?=w.heap[r]?):Cp ev w' r n a:=h.of e
theorem Bk.F1{b:Nat}{t:TypeId}{cs:Array Value}(h:Bk w b t cs)(e:w'.heap[b]?=w.heap[b]?):Bk w' b t cs:=e.trans h
theorem Hp.zz(h:Hp F B w0 L w)(a c:List Nat)(d:Gq L a M)(e:Gq L c C)(f:∀k,F' k→F k∨some k∈C):∀b,ZZ F B Z w0.heap.size L b→¬F' b∧some b∉M:=h.zc d.sub fun k g=>(f k g).imp id (e.sub _)
theorem Hp.mz(h:Hp F B w0 L w)(a b:List Nat)(c:Gq L a M)(d:Gq L b C)(e:∀k,F' k→F k∨some k∈C):Mv w (ZZ F B Z w0.heap.size L) w (ZC F' M):=RZ (h.zz a b c d e)
theorem OP{i:Nat}{a b:List Nat}(h:((a++b).all fun j=> !Nat.beq i j)=true):(a.all fun j=> !Nat.beq i j)=true∧(b.all fun j=> !Nat.beq i j)=true:=by
 rw[List.all_append,Bool.and_eq_true] at h;exact h
theorem Hp.bz(h:Hp F B w0 L w)(i:Nat){b:Nat}(hi:L[i]?=some (some b))(a c:List Nat)(e:Gq L a M)(f:Gq L c C)(g:∀k,F' k→F k∨some k∈C)(d:((a++c).all fun j=> !Nat.beq i j)=true):ZC F' M b:=by
 have h1:=h.BA (F':=F) i hi a (OP d).1 e (fun _ h=>h);have l:=h.BA (F':=F) i hi c (OP d).2 f (fun _ h=>h);exact⟨fun m=>l ((g b m).imp id id),fun hm=>h1 (.inr hm)⟩
theorem Hp.rz{α:Type}{e:Eg α}{t:TypeId}{n0:Nat}{A:Option Addr}{c:Nat}{xs:List α}(h:Hp F B w0 L w)(i:Nat)(hi:L[i]?=some (ob A))(a b:List Nat)(d:Gq L a M)(f:Gq L b C)(g:∀k,F' k→F k∨some k∈C)(l:((a++b).all fun j=> !Nat.beq i j)=true)
  (m:AB e t n0 w (ZZ F B Z w0.heap.size L) A c xs):Sl e w (ZC F' M) A c xs:=
 (m.up (h.mz a b d f g)).sl fun k n _=>h.bz i (by rw[hi,n]) a b d f g l
theorem Bq{Z:Nat→Prop}(w:World):Mv w Z w (ZZ FN [] Z w.heap.size L):=Bf (fun _ _=>⟨id,by simp⟩) w
theorem Jl(h:Mv w Z w' Z):Mv w Z w' (ZZ FN [] Z w.heap.size M):=⟨h.size,fun b a c=>⟨.inl ⟨c,a,id,by simp⟩,(h.stay b a c).2⟩⟩
theorem KZ{n:Nat}:Mv w (ZZ FN [] Z n M) w (ZZ FN [] Z n [none]):=G2 fun b a _=>a.imp id fun⟨h1,_⟩=>⟨h1,by simp⟩
theorem Lu{n:Nat}{o:Option Nat}(h:o∈M:=by simp):Mv w (ZZ FN [] Z n M) w (ZZ FN [] Z n [o]):=G2 fun b a _=>a.imp id fun⟨h1,c⟩=>⟨h1,fun hm=>by
 rw[List.mem_singleton] at hm;exact c (by rw[hm];exact h)⟩
theorem Ky(g:Bj D w w')(h:∀b,Z b→¬D b):Mv w Z w' Z:=⟨g.size,fun b a c=>⟨a,g.block b c (h b a)⟩⟩
theorem JN{b:Nat}{o:Option Nat}(h:¬FU FN C b∧some b≠o):¬FU FN C b:=h.1
theorem Qi{b:Nat}{o:Option Nat}(h:¬FU F C b∧some b≠o):¬FU F (C++[o]) b:=by
 rintro(h1|h1)
 ·exact h.1 (.inl h1)
 ·rcases List.mem_append.1 h1 with a|a
  ·exact h.1 (.inr a)
  ·exact h.2 (by simpa using a)
theorem EL{b:Nat}{o:Option Nat}(h:¬FU F C b)(k:some b≠o):¬F b∧some b∉C++[o]:=
 ⟨fun h1=>h (.inl h1),fun h1=>by
  rcases List.mem_append.1 h1 with a|a
  ·exact h (.inr a)
  ·exact k (by simpa using a)⟩
theorem Bj.lf{o:Option Nat}(g:Bj (FU F (C++[o])) w w'):Bj (FU (FU F C) [o]) w w':=g.mono fun k h=>by
 rcases h with h|h
 ·exact .inl (.inl h)
 ·rcases List.mem_append.1 h with a|a
  ·exact .inl (.inr a)
  ·exact .inr a
theorem Bj.Qj{o:Option Nat}(g:Bj (FU F C) w w'):Bj (FU (FU F C) [o]) w w':=g.mono fun _ h=>.inl h
theorem Bj.cl{M1 M2:List (Option Nat)}(g:Bj (FU (FU F M1) M2) w w'):Bj (FU F (M1++M2)) w w':=g.fl
theorem Hp.IZ(h:Hp F B w0 L w)(b:List Nat)(c:Gq L b C)(d:∀k,F0 k→F k):∀k,FU F0 C k→k<w.heap.size:=fun k a=>by
 rcases a with a|a
 ·exact Nat.lt_of_lt_of_le (h.ff k (d k a)) h.sz
 ·exact(h.lo k (c.sub _ a)).1
theorem Hp.R3(h:Hp F B w0 L w)(i:Nat){k:Nat}(hi:L[i]?=some (some k))(a:List Nat)(b:(a.all fun j=> !Nat.beq i j)=true)(c:Gq L a C):k<w.heap.size∧¬FU F C k:=
 ⟨(h.lo k (List.mem_of_getElem? hi)).1,h.BA (F':=F) i hi a b c fun _ h=>h⟩
theorem Hp.C8{x c:Option Nat}(h:Hp F B w0 L w)(i:Nat)(hi:L[i]?=some x)(a:List Nat)(e:(a.all fun j=> !Nat.beq i j)=true)(f:Gq L a M)(g:∀y∈B,y=c∨y∈M):∀k,x=some k→(c=some k∨w0.heap.size≤k)∧k<w.heap.size:=fun k d=>by
 have h1:=h.lo k (List.mem_of_getElem? (by rw[hi,d]));refine⟨?_,h1.1⟩;rcases Nat.lt_or_ge k w0.heap.size with b|b
 ·left;rcases g _ (h1.2.2 b) with h3|h3
  ·exact h3.symm
  ·exact absurd (.inr h3) (h.BA (F':=F) i (by rw[hi,d]) a e f fun _ h=>h)
 ·exact .inr b
theorem BQ.snoc{o:Option Nat}(h:BQ F C w)(g:∀k,o=some k→k<w.heap.size∧¬FU F C k):BQ F (C++[o]) w:=by
 refine⟨fun k p=>?_,fun i j x l hi e=>?_,h.ff⟩
 ·rcases List.mem_append.1 p with h1|h1
  ·exact h.lt k h1
  ·have c:=g k (by rw[List.mem_singleton] at h1;exact h1.symm);exact⟨c.1,fun q=>c.2 (.inl q)⟩
 ·have key:∀(a b:Nat),a<C.length→¬b<C.length→(C++[o])[a]?=some (some x)→(C++[o])[b]?=some (some x)→False:=fun a b r s h1 c=>by
   rw[List.getElem?_append_left r] at h1;rw[List.getElem?_append_right (by omega)] at c;have m:b-C.length=0:=by
    rcases Nat.eq_zero_or_pos (b-C.length) with h|h
    ·exact h
    ·rw[List.getElem?_eq_none (by simp;omega)] at c;cases c
   rw[m] at c;have n:o=some x:=by simpa using c
   exact(g x n).2 (.inr (List.mem_of_getElem? h1))
  by_cases f:i<C.length
  ·by_cases d:j<C.length
   ·rw[List.getElem?_append_left f] at hi;rw[List.getElem?_append_left d] at e;exact h.ap i j x l hi e
   ·exact key i j f d hi e
  ·by_cases d:j<C.length
   ·exact key j i d f e hi
   ·have t:(C++[o]).length=C.length+1:=by simp
    have h1:=(List.getElem?_eq_some_iff.1 hi).1;have c:=(List.getElem?_eq_some_iff.1 e).1;omega
theorem BQ.keep{o o':Option Nat}(h:BQ F C w)(d:w.heap.size≤w1.heap.size)(a:∀k,o=some k→k<w1.heap.size∧¬FU F C k)(hy:∀k,o'=some k→(o=some k∨w1.heap.size≤k)∧k<w2.heap.size):∀k,o'=some k→k<w2.heap.size∧¬FU F C k:=fun k b=>by
 obtain⟨h1,c⟩:=hy k b;refine⟨c,?_⟩;rcases h1 with h1|h1
 ·exact(a k h1).2
 ·rintro(h3|h3)
  ·have:=h.ff k h3;omega
  ·have:=(h.lt k h3).1;omega
def Vq(L:List (Option Nat))(n:Nat):List (Option Nat)→Prop
 |[]=>True
 |x::M=>((∃j:Nat,L[j]?=some x)∨∀k,x=some k→some k∈L∨n≤k)∧Vq L n M
theorem Cy{n:Nat}:∀{M:List (Option Nat)},Vq L n M→∀k,some k∈M→some k∈L∨n≤k
 |[],_,_,h=>by cases h
 |x::M,h,k,a=>by
  rcases List.mem_cons.1 a with e|a
  ·rcases h.1 with⟨j,b⟩|h1
   ·left;rw[e];exact List.mem_of_getElem? b
   ·exact h1 k e.symm
  ·exact Cy h.2 k a
theorem DM{y:Option Nat}(i:Nat)(h:y∈M):∀x∈L.set i y,x∈L∨x∈M:=fun x a=>by
 rcases List.mem_or_eq_of_mem_set a with h1|e
 ·exact .inl h1
 ·exact .inr (by rw[e];exact h)
theorem IF{o:Option Nat}:∀b,ZC F [o] b→¬F b∧some b≠o:=fun _ h=>⟨h.1,fun e=>h.2 (by rw[e];exact List.mem_singleton_self _)⟩
end
theorem OQ{F:Nat→Prop}{B L:List (Option Nat)}{n:Nat}{Z Z':Nat→Prop}(h:∀b,Z b→Z' b):∀b,ZZ F B Z n L b→ZZ F B Z' n L b:=fun b a=>a.imp (fun⟨h1,c,h3⟩=>⟨h1,h b c,h3⟩) id
def I0{α:Type}(e:Eg α)(w:World)(Z:Nat→Prop)(A:Option Addr)(c:Nat)(xs:List α):Prop:=
 xs.length≤c∧(A=none→c=0)∧∃Bg,R2 e w Z Bg xs∧Rz w ZA A Bg.flatten
section
variable{α:Type}{e:Eg α}{t:TypeId}{n0:Nat}{w w':World}{Z Z':Nat→Prop}{A:Option Addr}{c:Nat}{xs:List α}
theorem I0.ext(h:I0 e w Z A c xs)(g:Ext w w')(hm:Mv w Z w' Z'):I0 e w' Z' A c xs:=⟨h.1,h.2.1,h.2.2.imp fun _ h=>⟨h.1.mv hm,h.2.mv (Ak g)⟩⟩
theorem AB.n(h:AB e t n0 w Z A c xs):I0 e w Z A c xs:=by
 have a:=h.all;obtain⟨Bg,h3,b⟩:=h;refine⟨a.1,a.2.1,Bg,h3,?_⟩;have d:=b.rd;exact Nu d fun _ _ _=>trivial
theorem Sl.n(h:Sl e w Z A c xs):I0 e w Z A c xs:=⟨h.1,h.2.1,h.2.2.imp fun _ h=>⟨h.1,h.2.mv Ks⟩⟩
theorem Sl.Hz(a:∀w Z w' Z' cs x,e.R w Z cs x→e.R w' Z' cs x)(h:Sl e w Z A c xs):I0 e w Z' A c xs:=⟨h.1,h.2.1,h.2.2.imp fun _ h=>⟨h.1.free a,h.2.mv Ks⟩⟩
theorem AB.Hz(a:∀w Z w' Z' cs x,e.R w Z cs x→e.R w' Z' cs x)(h:AB e t n0 w Z A c xs):I0 e w Z' A c xs:=h.all.Hz a
end
section
variable{P:Program}{a:Act}{w:World}{dst:Option Tmp}{ty:TypeId}{pos:String}{B3:Array Edge}{g:Option (Nat×Bool)}
theorem Gk{α:Type}{e:Eg α}{s x:Operand}{t j:TypeId}{z:Value}{sz bytes:Nat}(ht:P.underlying t=some (.slice j))(hi:(P.info? j).map (fun i=>(i.zero,i.size,i.bytes))=some (some z,sz,bytes))(l:z.cells.size=sz)(m:e.sz=sz)(h0:0<sz)
  {n0:Nat}{Z:Nat→Prop}{A B:Option Addr}{c d n:Nat}{xs ys:List α}(u:a.eval s=.slice A n c)(y:xs.length=n)(aA:a.eval x=.slice B ys.length d)(h:AB e j n0 w Z A c xs)(hy:I0 e w Z B d ys)
  (o:xs.length+ys.length≤maxLen)(b:(xs.length+ys.length)*bytes≤140737488355328)(f:n0≤w.heap.size):
  BM P ⟨dst,.call {callee:=.builtin .append,args:= #[s,x],argTypes:= #[t,t]},ty,pos,B3,g⟩ a w (fun v w'=>∃r aB,v=.slice r (xs++ys).length aB∧w.grownBy w' (ob A)∧(∀k,ob r=some k→(ob A=some k∨w.heap.size≤k)∧k<w'.heap.size)∧
   ∃Bg p,R2 e w Z Bg xs∧R2 e w Z p ys∧D1 w' n0 j e.sz r (xs++ys).length aB (Bg++p).flatten):=by
 by_cases q:ys=[]
 ·refine TN ht hi l m h0 u y aA h ?_ o b f;subst q;exact⟨hy.1,hy.2.1,[],trivial,.inl rfl⟩
 ·obtain⟨_,_,Bg,h1,aC⟩:=hy;exact Ku ht hi l m h0 u y aA h ⟨Bg,h1,aC⟩ o b f q
end
section
variable{α:Type}{e:Eg α}{t:TypeId}{n0:Nat}{w w':World}{Z Z':Nat→Prop}{A:Option Addr}{c:Nat}{xs:List α}
theorem AB.PH(a:∀w Z w' Z' cs x,e.R w Z cs x→e.R w' Z' cs x)(h:AB e t n0 w Z A c xs):AB e t n0 w Z' A c xs:=by
 obtain⟨Bg,h1,b⟩:=h;exact⟨Bg,h1.free a,b⟩
theorem AB.PI(h:AB e t n0 w Z A c xs):A=none→c=0:=h.all.2.1
theorem AB.keep(h:AB e t n0 w Z A c xs)(hm:Mv w Z w' Z')(d:∀k,ob A=some k→w'.heap[k]?=w.heap[k]?):AB e t n0 w' Z' A c xs:=by
 obtain⟨Bg,h1,a⟩:=h;refine⟨Bg,h1.mv hm,a.1,a.2.imp id ?_⟩;rintro⟨b,cap,cur,f,h3,g,i⟩;cases f;exact⟨b,_,cur,rfl,h3,(d b rfl).trans g,i⟩
end
def BS{α:Type}(xs:List α)(l h:Int):List α:=(xs.take h.toNat).drop l.toNat
def IG(n:Nat)(l h:Int):Option Unit:=if 0≤l∧l≤h∧h≤(n:Int) then some () else none
theorem Hr{α:Type}{n:Nat}{l h:Int}{f:Unit→Option α}{r:α}(a:(IG n l h).bind f=some r):(0≤l∧l≤h∧h≤(n:Int))∧f ()=some r:=by
 unfold IG at a;split at a
 ·exact⟨by assumption,a⟩
 ·cases a
def SB(a:Act)(o:Option Operand)(v d:Int):Prop:=(o=none∧v=d)∨∃x k,o=some x∧a.eval x=.int k v
theorem TO{a:Act}{d:Int}:SB a none d d:=.inl ⟨rfl,rfl⟩
theorem Jb{a:Act}{x:Operand}{k:IntKind}{v d:Int}(h:a.eval x=.int k v):SB a (some x) v d:=.inr ⟨x,k,rfl,h⟩
theorem JO{P:Program}(w:World)(k:IntKind)(i:Int)(y:Nat)(code:BoundsCode)(h0:0≤i)(h1:i≤(y:Int)):(Instr.sliceBound (.int k i) y code).run P w=.ok i.toNat w:=by
 simp[Instr.sliceBound,asIntOf,h0,h1]
section
variable{P:Program}{a:Act}{w:World}{dst:Option Tmp}{ty:TypeId}{pos:String}{B3:Array Edge}{g:Option (Nat×Bool)}
theorem Jm{α:Type}{e:Eg α}{Z:Nat→Prop}{xs:List α}{t v:TypeId}{sz:Nat}{x:Operand}{A:Option Addr}{c:Nat}{lo hi:Option Operand}{l h:Int}(ht:P.underlying t=some (.slice v))(aI:(P.info? v).map (·.size)=some sz)(z:e.sz=sz)
  (aJ:a.eval x=.slice A xs.length c)(i:SB a lo l 0)(aA:SB a hi h xs.length)(aK:Sl e w Z A c xs)(aL:0≤l∧l≤h∧h≤(xs.length:Int)):
  BM P ⟨dst,.slice t x lo hi none,ty,pos,B3,g⟩ a w (fun u w'=>(∃aB aC,u=.slice aB (BS xs l h).length aC∧Sl e w Z aB aC (BS xs l h))∧w'=w):=by
 subst z;obtain⟨aR,m,Bg,n,h3⟩:=aK;obtain⟨aS,aT,aU⟩:=aL;have hlen:(BS xs l h).length=h.toNat-l.toNat:=by
  unfold BS;rw[List.length_drop,List.length_take];omega
 have p:(Instr.sliceAt t (.slice A xs.length c) (lo.map a.eval) (hi.map a.eval) none).run P w=.ok (.slice (if c=l.toNat then A else A.map (·.add (l.toNat*e.sz))) (h.toNat-l.toNat) (c-l.toNat)) w:=by
  have aM:(Instr.sliceBounds true xs.length c (lo.map a.eval) (hi.map a.eval) none).run P w=.ok (l.toNat,h.toNat,c) w:=by
   unfold Instr.sliceBounds;rcases aA with⟨rfl,rfl⟩|⟨y,k,rfl,hy⟩
   ·rcases i with⟨rfl,rfl⟩|⟨aN,k',rfl,d⟩
    ·simp
    ·simp[d,JO w k' l xs.length _ (by omega) (by omega)]
   ·have aD:=fun code=>JO (P:=P) w k h c code (by omega) (by omega);rcases i with⟨rfl,rfl⟩|⟨aN,k',rfl,d⟩
    ·simp[hy,aD]
    ·simp[hy,d,aD,JO w k' l h.toNat _ (by omega) (by omega)]
  simp[Instr.sliceAt,Instr.slice,underlying,program,Sem.run,ht,aM,Iv aI]
 refine(Sj aJ rfl rfl p).mono ?_;rintro u w' ⟨rfl,rfl⟩;refine⟨⟨_,_,by rw[hlen],?_⟩,rfl⟩;have q:=(n.take h.toNat).drop l.toNat;have aE:((Bg.take h.toNat).drop l.toNat).flatten=[]∨(0<e.sz∧l.toNat<h.toNat):=by
  rcases Nat.eq_zero_or_pos e.sz with h0|h0
  ·left;exact List.eq_nil_of_length_eq_zero (by rw[q.IB,h0,Nat.mul_zero])
  ·rcases Nat.lt_or_ge l.toNat h.toNat with r|r
   ·exact .inr ⟨h0,r⟩
   ·left;exact List.eq_nil_of_length_eq_zero (by rw[q.IB,List.length_drop,List.length_take,show min h.toNat xs.length-l.toNat=0 by omega,Nat.zero_mul])
 refine⟨by rw[hlen];omega,fun s=>?_,_,q,?_⟩
 ·split at s
  ·have:=m s;omega
  ·have:=m (by simpa using s);omega
 ·rcases aE with h0|⟨h0,r⟩
  ·exact .inl h0
  ·rcases h3 with aO|⟨b,o,rfl,aP,aF,f⟩
   ·left;have aG:=n.IB;rw[aO] at aG;simp only[List.length_nil] at aG;have aV:0<xs.length*e.sz:=Nat.mul_pos (by omega) h0;omega
   ·right;have aH:¬c=l.toNat:=by omega
    refine⟨b,o+l.toNat*e.sz,by simp[aH,Fk],aP,aF,fun j u hu=>?_⟩;rw[Nat.add_assoc];refine f _ _ ?_;rw[←(n.take h.toNat).RY h0,List.getElem?_drop] at hu;have aQ:Bg.flatten=(Bg.take h.toNat).flatten++(Bg.drop h.toNat).flatten:=by rw[←List.flatten_append,List.take_append_drop]
    rw[aQ,List.getElem?_append_left (List.getElem?_eq_some_iff.1 hu).1];exact hu
end
def I1(n:Int)(b:Nat):Option Unit:=if 0≤n∧n*b≤140737488355328∧n≤140737488355328 then some () else none
theorem GL{α:Type}{n:Int}{b:Nat}{f:Unit→Option α}{r:α}(h:(I1 n b).bind f=some r):(0≤n∧n*b≤140737488355328∧n≤140737488355328)∧f ()=some r:=by
 unfold I1 at h;split at h
 ·exact⟨by assumption,h⟩
 ·cases h
theorem Kz(z:Array Value):∀m:Nat,(madeCells z (m*z.size)).toList=(List.replicate m z.toList).flatten
 |0=>by simp[madeCells]
 |m+1=>by
  have ih:=Kz z m;have e:∀k,(madeCells z k).toList=(List.range k).map (z[· %z.size]!):=fun k=>by simp[madeCells]
  rw[e] at ih⊢;rw[Nat.add_mul,Nat.one_mul,List.range_add,List.map_append,ih,List.replicate_succ',List.flatten_append]
  congr 1
  simp only[List.map_map,List.flatten_cons,List.flatten_nil,List.append_nil];refine List.ext_getElem (by simp) fun i h1 a=>?_;simp only[List.getElem_map,List.getElem_range,Function.comp];have hi:i<z.size:=by simpa using a
  rw[Nat.add_comm,Nat.add_mul_mod_self_right,Nat.mod_eq_of_lt hi];simp[hi]
theorem R2.Vr{α:Type}{e:Eg α}{w:World}{Z:Nat→Prop}{c:List Value}{x:α}(h:e.R w Z c x):∀m:Nat,R2 e w Z (List.replicate m c) (List.replicate m x)
 |0=>trivial
 |m+1=>⟨h,R2.Vr h m⟩
section
variable{P:Program}{a:Act}{w:World}{dst:Option Tmp}{ty:TypeId}{pos:String}{B3:Array Edge}{g:Option (Nat×Bool)}
theorem Hc{α:Type}{e:Eg α}{z:α}{zc:List Value}{n0:Nat}{t j:TypeId}{d:Value}{sz bytes:Nat}{n:Int}{x y:Operand}{m o:IntKind}{b':Nat}(ht:P.underlying t=some (.slice j))(hi:(P.info? j).map (fun i=>(i.zero,i.size,i.bytes))=some (some d,sz,bytes))
  (p:d.cells.toList=zc)(c:e.sz=sz)(aB:a.eval x=.int m n)(hy:a.eval y=.int o n)(hm:0≤n∧n*b'≤140737488355328∧n≤140737488355328)(q:∀w Z,e.R w Z zc z)(aC:n0≤w.heap.size)(aF:bytes≤b'):
  BM P ⟨dst,.makeSlice t x y,ty,pos,B3,g⟩ a w (fun u w'=>∃b,u=.slice (some ⟨b,0,none⟩) (List.replicate n.toNat z).length n.toNat∧w.heap.size≤b∧b<w'.heap.size∧Ext w w'∧∀Z,AB e j n0 w' Z (some ⟨b,0,none⟩) n.toNat (List.replicate n.toNat z)):=by
 subst p;subst c;cases f:P.info? j with
 |none=>simp[f] at hi
 |some i=>
  rw[f] at hi;simp only[Option.map_some,Option.some.injEq,Prod.mk.injEq] at hi;obtain⟨h1,r,h3⟩:=hi;obtain⟨s,aG,aH⟩:=hm;have v:d.cells.toList.length=e.sz:=e.len (q w ZA);have c:d.cells.size=e.sz:=by simpa using v
  have aA:(i.bytes:Int)*n≤281474976710656:=by
   rw[h3];have aD:(bytes:Int)*n≤(b':Int)*n:=Int.mul_le_mul_of_nonneg_right (by omega) s;rw[Int.mul_comm (b':Int)] at aD;omega
  have aE:=run_make (P:=P) w t j i d ht f h1 m o n n s (Int.le_refl _) aA (by omega);refine(IW (S:=Instr.makeSlice t (a.eval x) (a.eval y)) rfl (by rw[aB,hy];exact aE)).mono fun u w' h=>?_;obtain⟨rfl,rfl⟩:=h;have l:=Ie w j (madeCells d.cells (n.toNat*i.size));refine⟨w.heap.size,by rw[List.length_replicate],Nat.le_refl _,by rw[l.sz];exact Nat.lt_succ_self _,l.gr,fun Z=>⟨_,R2.Vr (q _ Z) n.toNat,?_⟩⟩;rw[List.length_replicate];have k:(List.replicate n.toNat d.cells.toList).flatten.length=n.toNat*e.sz:=by rw[←Kz,←c];simp[size_madeCells]
  refine⟨k,.inr ⟨w.heap.size,n.toNat,_,rfl,aC,l.bk,Nat.le_refl _,by simp only[maxLen];omega,by rw[size_madeCells,r],?_⟩⟩;rw[r,←c,Kz,List.take_of_length_le (by rw[k,c];exact Nat.le_refl _)]
end
def KA:Int⊕Bool→Value
 |.inl n=>.int .i64 n
 |.inr b=>.bool b
def LR(l:List (Int⊕Bool)):Value:=.agg (l.map KA).toArray
def Lh:Int⊕Bool→Bool
 |.inl _=>true
 |.inr _=>false
def Gb:List (Int⊕Bool)→List (Int⊕Bool)→Bool
 |[],[]=>true
 |.inl a::l,.inl b::m=>a==b&&Gb l m
 |.inr a::l,.inr b::m=>a==b&&Gb l m
 |_,_=>false
def Rg(P:Program)(t:TypeId)(a:List Bool):Prop:=∀(w:World) (x y:List (Int⊕Bool)),x.map Lh=a→y.map Lh=a→(Op.equal t (LR x) (LR y)).run P w=.ok (Gb x y) w
def Mi(a b:TypeId):Nat→List Field→List Bool→Bool
 |_,[],[]=>true
 |i,f::c,k::d=>f.name !="_"&&Nat.beq f.type (cond k a b)&&Nat.beq f.offset i&&Mi a b (i+1) c d
 |_,_,_=>false
section
variable{P:Program}{w:World}
theorem JP{e:TypeId}(he:One P e){cs:Array Value}{i:Nat}{v:Value}(h:cs[i]?=some v):(part e cs i).run P w=.ok v w:=by
 simp only[part,Sem.run_bind,I9 he,Result.andThen_ok,h];rfl
theorem MN{i j:TypeId}(h1:One P i)(u1:P.underlying i=some (.int .i64))(s:One P j)(t:P.underlying j=some .bool)(d:Nat):∀(l:List Field) (b:List Bool) (x y a c:List (Int⊕Bool)),a.length=c.length→Mi i j a.length l b=true→x.map Lh=b→y.map Lh=b→
  (Op.eqFields (d+1) ((a++x).map KA).toArray ((c++y).map KA).toArray l).run P w=.ok (Gb x y) w
 |[],[],[],[],_,_,_,_,_,_=>by simp[Op.eqFields,Gb]
 |[],_::_,_,_,_,_,_,h,_,_=>by simp[Mi] at h
 |_::_,[],_,_,_,_,_,h,_,_=>by simp[Mi] at h
 |[],[],_::_,_,_,_,_,_,h,_=>by simp at h
 |[],[],_,_::_,_,_,_,_,_,h=>by simp at h
 |_::_,_::_,[],_,_,_,_,_,h,_=>by simp at h
 |_::_,_::_,_,[],_,_,_,_,_,h=>by simp at h
 |f::l,k::b,e::x,g::y,a,c,u,v,o,hy=>by
  simp only[Mi,Bool.and_eq_true] at v;obtain⟨⟨⟨p,ht⟩,r⟩,aB⟩:=v;have p:f.name≠"_":=by simpa using p
  have ht:=Nat.eq_of_beq_eq_true ht;have r:=Nat.eq_of_beq_eq_true r;simp only[List.map_cons,List.cons.injEq] at o hy;have ih:=MN h1 u1 s t d l b x y (a++[e]) (c++[g]) (by simp[u]) (by simpa using aB) o.2 hy.2;rw[List.append_assoc,List.append_assoc] at ih;simp only[List.singleton_append] at ih;have z:((a++e::x).map KA).toArray[f.offset]?=some (KA e):=by rw[r];simp
  have aA:((c++g::y).map KA).toArray[f.offset]?=some (KA g):=by rw[r,u];simp
  cases k with
  |true=>
   cases e with
   |inr _=>simp[Lh] at o
   |inl m=>
    cases g with
    |inr _=>simp[Lh] at hy
    |inl n=>
     have ht:f.type=i:=ht;have o1:One P f.type:=by rw[ht];exact h1
     have q:=run_equalIn_int (P:=P) w d f.type .i64 .i64 m n (by rw[ht];exact u1);simp only[Op.eqFields,p,ne_eq,not_false_eq_true,if_true,Sem.run_bind,JP o1 z,JP o1 aA,KA,q,Result.andThen_ok,Gb];cases aC:(m==n)
     ·simp
     ·simpa using ih
  |false=>
   cases e with
   |inl _=>simp[Lh] at o
   |inr m=>
    cases g with
    |inl _=>simp[Lh] at hy
    |inr n=>
     have ht:f.type=j:=ht;have o1:One P f.type:=by rw[ht];exact s
     have q:=run_equalIn_bool (P:=P) w d f.type m n (by rw[ht];exact t);simp only[Op.eqFields,p,ne_eq,not_false_eq_true,if_true,Sem.run_bind,JP o1 z,JP o1 aA,KA,q,Result.andThen_ok,Gb];cases aC:(m==n)
     ·simp
     ·simpa using ih
theorem OD{K c d:Nat}{a:Array Field}{e:List Bool}(hK:P.underlying K=some (.struct a))(f:P.stoodInHeld K=false)(g:Mi c d 0 a.toList e=true)(h1:One P c)(u1:P.underlying c=some (.int .i64))(i:One P d)(j:P.underlying d=some .bool):Rg P K e:=by
 intro w x y l hy;have b:P.fieldsOf K=a:=by simp[Program.fieldsOf,hK]
 have h:=run_equalIn_struct (P:=P) w 9999 K (x.map KA).toArray (y.map KA).toArray (by rw[b];exact hK) f;have k:=MN (P:=P) (w:=w) h1 u1 i j 9998 a.toList e x y [] [] rfl g l hy;simp only[List.nil_append] at k;rw[b,k] at h;exact h
end
section
variable{P:Program}{a:Act}{w:World}{dst:Option Tmp}{ty:TypeId}{pos:String}{B3:Array Edge}{g:Option (Nat×Bool)}
theorem LS{x y:Operand}{v1 v2:Value}{x1 x2:List (Int⊕Bool)}{b:List Bool}{t d:TypeId}(e:Rg P t b)(c:P.eqGuardType P.depth t=false)(f:a.eval x=v1)(hy:a.eval y=v2)(h1:v1=LR x1)(h:v2=LR x2)(i:x1.map Lh=b)(j:x2.map Lh=b):
  BM P ⟨dst,.binOp .eql t x y d,ty,pos,B3,g⟩ a w (fun u w'=>u=.bool (Gb x1 x2)∧w'=w):=by
 refine PA f hy ?_;subst h1;subst h;have h3:=e w x1 x2 i j;have k:(eqGuard .eql t x y (LR x1) (LR x2)).run P w=.ok () w:=by
  simp[eqGuard,LR,program,Sem.run,c]
 simp only[Sem.run_bind,k,Result.andThen_ok];show(do pure (Value.bool (←Op.equal t (LR x1) (LR x2))):Sem Value).run P w=_;simp only[Sem.run_bind,h3,Result.andThen_ok,Sem.run_pure]
theorem R4{x y:Operand}{p q:Option Addr}{t u:TypeId}{b:Bool}(c:a.eval x=.pointer p)(hy:a.eval y=.pointer q)(d:(Op.equal t (.pointer p) (.pointer q)).run P w=.ok b w):BM P ⟨dst,.binOp .eql t x y u,ty,pos,B3,g⟩ a w (fun v w'=>v=.bool b∧w'=w):=
 Cu (by simp[execOp,c,hy,binOp,d,eqGuard])
theorem NG {α:Type} {e:Eg α} {aA t:TypeId} {x y:Operand} {b o k p c:Nat} {v:Value} {n0:Nat} {Z:Nat→Prop} {A:Option Addr} {xs:List α} {z z':α} {l:List Value} {n:Nat}
  (aB:AB e aA n0 w Z A c xs) (aD:xs[k]?=some z) (aM:A=some ⟨b,o,none⟩) (aN:p=o+k*e.sz) (aO:a.eval x=.pointer (some ⟨b,p,none⟩)) (hy:a.eval y=v) (aP:(P.info? t).map (·.size)=some n) (aQ:v.cells.toList=l) (aR:l.length=n)
  (h1:∀u∈l,u.oneCell'=true) (aE:e.R w Z l z'):
  BM P ⟨dst,.store t x y,ty,pos,B3,g⟩ a w (fun _ w'=>w.grownBy w' (ob A)∧∃Bg,R2 e w Z Bg (xs.set k z')∧D1 w' n0 aA e.sz A (xs.set k z').length c Bg.flatten):=by
 obtain⟨Bg,f,aS⟩:=aB;obtain⟨a2,aW,aF,aX⟩:=f.get aD;have aY:=e.len aF;have aG:=e.len aE;subst aM;subst aN;have aH:k<xs.length:=(List.getElem?_eq_some_iff.1 aD).1;have hlen:=f.len;have h:=f.lens;rcases aS.2 with⟨aI,h0⟩|⟨a3,cap,cur,aI,aJ,aT,q,aK,aC,i⟩
 ·omega
 ·cases aI;have aZ:k*e.sz+e.sz≤xs.length*e.sz:=by
   have:(k+1)*e.sz≤xs.length*e.sz:=Nat.mul_le_mul_right _ aH;rw[Nat.add_mul,Nat.one_mul] at this;exact this
  have a0:xs.length*e.sz≤c*e.sz:=Nat.mul_le_mul_right _ q;have aL:Bk w b aA cur:=aT;refine(Ba (Ca:=setCells cur (0+k*e.sz) l) aO hy aP aL aQ aR (by omega) h1 rfl).mono ?_;rintro _ w' ⟨s1,s2,aU⟩;have d:=f.set aE k;refine⟨aU,_,d,by rw[d.IB],.inr ⟨b,c,setCells cur (0+k*e.sz) l,rfl,aJ,s2,by rw[List.length_set];exact q,aK,by rw[EI 0];exact aC,?_⟩⟩;rw[List.length_set];rcases Nat.eq_zero_or_pos e.sz with h0|h0
  ·have aV:(Bg.set k l).flatten=[]:=List.eq_nil_of_length_eq_zero (by rw[d.IB,h0,Nat.mul_zero]);rw[aV,h0,Nat.mul_zero,List.take_zero]
  ·refine List.ext_getElem? fun j=>?_;rw[NC aG h0 k Bg j h (by omega),List.getElem?_take,Array.getElem?_toList,Gz _ _ _ _ (by omega)];have r:∀j:Nat,Bg.flatten[j]?=if j<xs.length*e.sz then cur[j]? else none:=fun j=>by
    rw[←i,List.getElem?_take,Array.getElem?_toList]
   by_cases m:j<xs.length*e.sz
   ·rw[if_pos m]
    by_cases s:k*e.sz≤j∧j<k*e.sz+e.sz
    ·rw[if_pos (by omega),if_pos s,show j-(0+k*e.sz)=j-k*e.sz by omega]
    ·rw[if_neg (by omega),if_neg s,r,if_pos m]
   ·rw[if_neg m,if_neg (by omega),r,if_neg m]
theorem FA{α:Type}{e:Eg α}{f t:TypeId}{x y:Operand}{b o k p c:Nat}{v:Value}{n0:Nat}{Z:Nat→Prop}{A:Option Addr}{xs:List α}{z z':α}{l:List Value}{n:Nat}
  (d:AB e f n0 w Z A c xs)(i:xs[k]?=some z)(j:A=some ⟨b,o,none⟩)(m:p=o+k)(q:a.eval x=.pointer (some ⟨b,p,none⟩))(hy:a.eval y=v)(r:(P.info? t).map (·.size)=some n)(s:v.cells.toList=l)(aA:l.length=n)
  (h1:∀u∈l,u.oneCell'=true)(aB:e.R w Z l z')(h:e.sz=1:=by rfl):
  BM P ⟨dst,.store t x y,ty,pos,B3,g⟩ a w (fun _ w'=>w.grownBy w' (ob A)∧∃Bg,R2 e w Z Bg (xs.set k z')∧D1 w' n0 f e.sz A (xs.set k z').length c Bg.flatten):=
 NG d i j (by rw[h,Nat.mul_one];exact m) q hy r s aA h1 aB
end
theorem KB{l:List Int}{i:Nat}{x:Int}(h:l[i]?=some x):(l.map fun n=>Value.int .i64 n)[i]?=some (.int .i64 x):=by rw[List.getElem?_map,h];rfl
theorem AB.UY {α:Type} {e:Eg α} {t:TypeId} {n0:Nat} {w:World} {Z:Nat→Prop} {A:Option Addr} {c k:Nat} {xs:List α} {x:α} (h:AB e t n0 w Z A c xs) (h0:0<e.sz) (f:xs[k]?=some x):
  ∃b o cs,A=some ⟨b,o,none⟩∧e.R w Z cs x∧Rz w ZA (some ⟨b,o+k*e.sz,none⟩) cs:=by
 obtain⟨Bg,h1,g⟩:=h;have p:Sl e w ZA A c xs:=AB.all (t:=t) (n0:=n0) (Z:=Z) ⟨Bg,h1,g⟩;obtain⟨b,o,Ca,i,s,z⟩:=p.elem h0 f;obtain⟨l,v,a,m⟩:=h1.get f;refine⟨b,o,l,i,a,?_⟩;have hlen:l.length=e.sz:=e.len a;have q:=g.rd;rcases q.2 with h3|⟨b',o',d,_,n,r⟩
 ·have:=h1.IB;rw[h3] at this;have y:k<xs.length:=(List.getElem?_eq_some_iff.1 f).1;have aA:0<xs.length*e.sz:=Nat.mul_pos (by omega) h0;simp at this;omega
 ·rw[i] at d;cases d;refine .inr ⟨b,_,rfl,trivial,n,fun j u hu=>?_⟩;rw[Nat.add_assoc];refine r _ _ ?_;rw[←m,List.getElem?_take] at hu;split at hu
  ·simpa using hu
  ·cases hu
theorem AB.Gl{α:Type}{e:Eg α}{t:TypeId}{n0:Nat}{w:World}{Z:Nat→Prop}{A:Option Addr}{c k:Nat}{xs:List α}{x:α}(h:AB e t n0 w Z A c xs)(h1:e.sz=1)(d:xs[k]?=some x):
  ∃b o cs,A=some ⟨b,o,none⟩∧e.R w Z cs x∧Rz w ZA (some ⟨b,o+k,none⟩) cs:=by
 obtain⟨b,o,cs,f,h3,a⟩:=h.UY (by omega) d;rw[h1,Nat.mul_one] at a;exact⟨b,o,cs,f,h3,a⟩
def TC(w:World)(D:Nat→Prop)(M:World→Prop):Nat→World→Prop
 |0,w'=>Ext w w'
 |_+1,w'=>Bj D w w'∧M w'
section
variable{w w' Bb:World}{D:Nat→Prop}{M:World→Prop}{ph:Nat}
theorem F2(h:TC w D M ph w'):Bj D w w':=by
 cases ph with
 |zero=>exact Gf h
 |succ=>exact h.1
theorem BJ(h:TC w D M ph w')(a:ph=0):Ext w w':=by subst a;exact h
theorem HA(c:∀a b,M a→Ext a b→M b)(h:TC w D M ph w')(g:Ext w' Bb):TC w D M ph Bb:=by
 cases ph with
 |zero=>exact Ext.trans h g
 |succ=>exact⟨(show Bj D w w' from h.1).trans (Gf g),c _ _ h.2 g⟩
theorem Ii(h:TC w D M ph w')(a:ph=0)(g:Bj D w' Bb)(b:M Bb):TC w D M (ph+1) Bb:=by
 subst a;exact⟨(Gf h).trans g,b⟩
theorem Iq{r:Option Nat}(g:w.grownBy w' r):Bj (FU FN [r]) w w':=IC g fun k e=>.inr (by rw[e];exact List.mem_singleton_self _)
end
section
variable{F F':Nat→Prop}{B:List (Option Nat)}{w0 w w':World}{L M:List (Option Nat)}
theorem Hp.PJ{Z:Nat→Prop}{a:Nat}(h:Hp F B w0 L w)(c:w.heap.size≤a):Mv w' (ZZ FN [] FN a []) w' (ZZ F B Z w0.heap.size L):=G2 fun b d _=>by
 rcases d with⟨_,e,_⟩|⟨h1,_⟩
 ·exact e.elim
 ·refine .inr ⟨Nat.le_trans h.sz (Nat.le_trans c h1),fun hm=>?_⟩;have:=(h.lo b hm).1;omega
theorem Hp.R5{α:Type}{e:Eg α}{t:TypeId}{A:Option Addr}{c:Nat}{xs:List α}{Z Z':Nat→Prop}(h:Hp F B w0 L w)(b:∀w Z w' Z' cs x,e.R w Z cs x→e.R w' Z' cs x)(a:AB e t w.heap.size w' Z' A c xs):AB e t w0.heap.size w' Z A c xs:=
 AB.PH b (a.base (n1:=w0.heap.size) fun k d=>Nat.le_trans h.sz (a.ge k d))
theorem Hp.LU{α:Type}{e:Eg α}{t:TypeId}{A:Option Addr}{c:Nat}{xs:List α}{Z a:Nat→Prop}(h:Hp F B w0 L w)(b:∀w Z w' Z' cs x,e.R w Z cs x→e.R w' Z' cs x)(d:AB e t w.heap.size w' a A c xs):Sl e w' (ZZ F B Z w0.heap.size L) A c xs:=
 (AB.PH b d).sl fun k _ h0=>h.kn h0
theorem Hp.Mj (h:Hp F B w0 L w) (f:Hp F B w0 L w') {b:Nat} (p:w.heap.size≤b) (l:b<w'.heap.size):Hp F B w0 (some b::L) w':=by
 refine⟨f.ch,fun k a=>?_,?_,h.ff⟩
 ·rcases List.mem_cons.1 a with e|a
  ·cases e;exact⟨l,fun m=>absurd (h.ff _ m) (by have:=h.sz;omega),fun n=>absurd n (by have:=h.sz;omega)⟩
  ·exact f.lo k a
 ·have key:∀(j:Nat) (x:Nat),L[j]?=some (some x)→x≠b:=fun j x o e=>by
   have:=(h.lo x (List.mem_of_getElem? o)).1;omega
  intro i j x g hi c;cases i with
  |zero=>
   cases j with
   |zero=>exact g rfl
   |succ j=>
    have d:b=x:=by simpa using hi
    exact key j x (by simpa using c) d.symm
  |succ i=>
   cases j with
   |zero=>
    have d:b=x:=by simpa using c
    exact key i x (by simpa using hi) d.symm
   |succ j=>exact h.ap i j x (by omega) (by simpa using hi) (by simpa using c)
theorem FX{Z:Nat→Prop}{n0:Nat}{b:Nat}(hm:Mv w (ZZ F B Z n0 L) w' (ZZ F B Z n0 L))(g:w.heap.size≤b):Mv w (ZZ F B Z n0 L) w' (ZZ F B Z n0 (some b::L)):=
 ⟨hm.size,fun k c d=>⟨(hm.stay k c d).1.imp id fun⟨h1,f⟩=>⟨h1,fun a=>by
  rcases List.mem_cons.1 a with e|a
  ·cases e;omega
  ·exact f a⟩,(hm.stay k c d).2⟩⟩
end
def PK (w:World) (R:World→Value→World→Prop):J9 Ext:=
 ⟨fun v a=>∃w1 w2,Ext w w1∧R w1 v w2∧Ext w2 a,fun _ _ _ ⟨w1,w2,h1,b,h3⟩ g=>⟨w1,w2,h1,b,Ext.trans h3 g⟩⟩
def I2(w:World)(R:World→Value→World→Prop)(a:World):Prop:=∃v w1 w2,Ext w w1∧R w1 v w2∧Ext w2 a
theorem Hs{w:World}{R:World→Value→World→Prop}:∀a b,I2 w R a→Ext a b→I2 w R b:=fun _ _ ⟨v,w1,w2,h1,c,h3⟩ g=>⟨v,w1,w2,h1,c,Ext.trans h3 g⟩
def LW(_:World):Prop:=True
theorem KC:∀a b,LW a→Ext a b→LW b:=fun _ _ _ _=>trivial
def Hj(n:Nat)(w:World):List Nat→Prop
 |[]=>True
 |b::l=>n≤b∧b<w.heap.size∧(l.all fun x=> !Nat.beq b x)=true∧Hj n w l
section
variable{F F':Nat→Prop}{B:List (Option Nat)}{w0 w w':World}{L M:List (Option Nat)}{Z:Nat→Prop}
theorem Hj.mem{n:Nat}:∀{l:List Nat},Hj n w l→∀b∈l,n≤b∧b<w.heap.size
 |[],_,_,h=>by cases h
 |x::l,h,b,a=>by
  rcases List.mem_cons.1 a with rfl|a
  ·exact⟨h.1,h.2.1⟩
  ·exact Hj.mem h.2.2.2 b a
theorem Hj.grow{n a:Nat}(b:a≤n)(c:w.heap.size≤w'.heap.size):∀{l:List Nat},Hj n w l→Hj a w' l
 |[],_=>trivial
 |_::_,h=>⟨Nat.le_trans b h.1,Nat.lt_of_lt_of_le h.2.1 c,h.2.2.1,Hj.grow b c h.2.2.2⟩
theorem Hp.NH(h:Hp F B w0 L w):∀{l:List Nat},Hp F B w0 L w'→Hj w.heap.size w' l→Hp F B w0 (l.map some++L) w'
 |[],c,_=>c
 |b::l,c,a=>by
  have d:=Hp.NH h c a.2.2.2;refine⟨d.ch,fun k f=>?_,?_,h.ff⟩
  ·rcases List.mem_cons.1 f with e|f
   ·cases e;exact⟨a.2.1,fun p=>absurd (h.ff _ p) (by have:=h.sz;have:=a.1;omega),fun n=>absurd n (by have:=h.sz;have:=a.1;omega)⟩
   ·exact d.lo k f
  ·have key:∀(j:Nat) (x:Nat),(l.map some++L)[j]?=some (some x)→x≠b:=fun j x q e=>by
    subst e;have hm:=List.mem_of_getElem? q;rcases List.mem_append.1 hm with hm|hm
    ·obtain⟨y,hy,e⟩:=List.mem_map.1 hm;cases e;have:=List.all_eq_true.1 a.2.2.1 x hy;rw[Nat.beq_refl] at this;cases this
    ·have:=(h.lo x hm).1;have:=a.1;omega
   intro i j x o hi g;cases i with
   |zero=>
    cases j with
    |zero=>exact o rfl
    |succ j=>
     have m:b=x:=by simpa using hi
     exact key j x (by simpa using g) m.symm
   |succ i=>
    cases j with
    |zero=>
     have m:b=x:=by simpa using g
     exact key i x (by simpa using hi) m.symm
    |succ j=>exact d.ap i j x (by omega) (by simpa using hi) (by simpa using g)
theorem Hp.Mk(h:Hp F B w0 L w)(g:Ext w w'){l:List Nat}(a:Hj w.heap.size w' l):Hp F B w0 (l.map some++L) w':=h.NH (h.ext g) a
theorem E2{n0:Nat}{l:List Nat}(hm:Mv w (ZZ F B Z n0 L) w' (ZZ F B Z n0 L))(d:Hj w.heap.size w' l):Mv w (ZZ F B Z n0 L) w' (ZZ F B Z n0 (l.map some++L)):=
 ⟨hm.size,fun k c b=>⟨(hm.stay k c b).1.imp id fun⟨h1,f⟩=>⟨h1,fun a=>by
  rcases List.mem_append.1 a with a|a
  ·obtain⟨y,hy,e⟩:=List.mem_map.1 a;cases e;have:=(d.mem k hy).1;omega
  ·exact f a⟩,(hm.stay k c b).2⟩⟩
theorem PL{b c:Nat}(f:w.heap.size≤b)(a:b<w'.heap.size)(g:w.heap.size≤c)(d:c<w'.heap.size)(e:b≠c):Hj w.heap.size w' [b,c]:=
 ⟨f,a,by
  have:Nat.beq b c=false:=by
   cases h:Nat.beq b c with
   |false=>rfl
   |true=>exact absurd (Nat.eq_of_beq_eq_true h) e
  simp[this],g,d,rfl,trivial⟩
theorem Hp.Rh (h:Hp F B w0 L w):∀(l:List Nat) (c:List Nat),Gq L c (l.map some)→Jk c=true→(∀b∈l,w0.heap.size≤b)→Hj w0.heap.size w l
 |[],_,_,_,_=>trivial
 |b::l,[],a,_,_=>a.elim
 |b::l,j::c,a,e,d=>by
  simp only[Jk,Bool.and_eq_true] at e;refine⟨d b (List.mem_cons_self ..),(h.lo b (List.mem_of_getElem? a.1)).1,?_,h.Rh l c a.2 e.2 fun x f=>d x (List.mem_cons_of_mem _ f)⟩;rw[List.all_eq_true];intro x f;cases i:Nat.beq b x with
  |false=>rfl
  |true=>
   have g:=Nat.eq_of_beq_eq_true i;subst g;have h1:=h.BA (F':=FN) j a.1 c e.1 a.2 (fun _ h=>h.elim);exact absurd (.inr (List.mem_map.2 ⟨b,f,rfl⟩)) h1
end
section
variable{P:Program}{N:Nat}{Q:Exit→Act→World→Prop}{a:Act}{l:Env}{w:World}
def Ml(a:Act):Act:={a with defers:=[]}
theorem KD(a:Act):∀l:Env,BX (Ml a) l=Ml (BX a l)
 |[]=>rfl
 |(d,v)::l=>by simp only[BX,KD a l];rfl
theorem LX{D:Nat}{fn:Func}{R:Value→World→Prop}(c:w.heap[D]?=some (.deferred (some [])))(h:∀w',GI D w w'→LV X0 N (bodyPost P fn (fun e w'=>∃v,e=.returned v∧R v w')) .ret (Ml a) l w'):
  LV (X1 D) N (PM P fn R) .ret a l w:=fun s=>by
 have d:St X0 N (Ml a) l:=⟨s.sz,rfl,s.lt⟩;obtain⟨_,v,b,f⟩:=h _ (GJ w D (.deferred none)) d;show LeavesInM Fence.wide 0 P fn _ _ (BX a l).defers .returning w;rw[Dy,show a.defers=mark D from s.df];refine⟨by simp,.inl ⟨D,_,rfl,run_takeDeferred c,?_⟩⟩;rw[KD] at b;exact⟨v,b,f⟩
theorem OR{D:Nat}{fn:Func}{R:Value→World→Prop}(c:w.heap[D]?=some (.deferred (some [])))(h:∀w',GI D w w'→LV X0 N (bodyPost P fn (fun e w'=>∃v,e=.returned v∧R v w')) .normal (Ml a) l w'):
  LV (X1 D) N (PM P fn R) .normal a l w:=fun s=>by
 have d:St X0 N (Ml a) l:=⟨s.sz,rfl,s.lt⟩;obtain⟨_,v,b,f⟩:=h _ (GJ w D (.deferred none)) d;show LeavesInM Fence.wide 0 P fn _ _ (BX a l).defers .returning w;rw[Dy,show a.defers=mark D from s.df];refine⟨by simp,.inl ⟨D,_,rfl,run_takeDeferred c,?_⟩⟩;rw[KD] at b;exact⟨v,b,f⟩
end
theorem OS{α:Type}{b:Bool}{x:Option α}{r:α}(h:cond b none x=some r):b=false∧x=some r:=by
 cases b with
 |true=>cases h
 |false=>exact⟨rfl,h⟩
def Dc(xs:List Int):List Int:=xs.mergeSort fun x y=>decide (x≤y)
theorem IH(xs:List Int):(Dc xs).length=xs.length:=List.length_mergeSort _
theorem Qk{w:World}{Z:Nat→Prop}:∀{Bg:List (List Value)} {xs:List Int},R2 (Ay .i64) w Z Bg xs→Bg.flatten=Co xs
 |[],[],_=>rfl
 |c::Bg,x::xs,h=>by
  have h1:c=[.int .i64 x]:=h.1;rw[List.flatten_cons,Qk h.2,h1];rfl
 |[],_::_,h=>h.elim
 |_::_,[],h=>h.elim
theorem Ql{w:World}{Z:Nat→Prop}:∀xs:List Int,R2 (Ay .i64) w Z (xs.map fun x=>[.int .i64 x]) xs
 |[]=>trivial
 |_::xs=>⟨rfl,Ql xs⟩
theorem Ri(xs:List Int):(xs.map fun x=>[Value.int .i64 x]).flatten=Co xs:=by
 induction xs with
 |nil=>rfl
 |cons x xs ih=>rw[List.map_cons,List.flatten_cons,ih];rfl
theorem PN{t:TypeId}{n0:Nat}{w:World}{Z:Nat→Prop}{A:Option Addr}{c:Nat}{xs:List Int}(h:AB (Ay .i64) t n0 w Z A c xs):D1 w n0 t 1 A xs.length c (Co xs):=by
 obtain⟨Bg,h1,a⟩:=h;rw[←Qk h1];exact a
theorem K0{t:TypeId}{n0:Nat}{w:World}{Z:Nat→Prop}{A:Option Addr}{c:Nat}{xs:List Int}(h:D1 w n0 t 1 A xs.length c (Co xs)):AB (Ay .i64) t n0 w Z A c xs:=
 ⟨_,Ql xs,by rw[Ri];exact h⟩
theorem UZ{α β:Type}{x:Option β}{f:α→Option β}{r:β}(h:Option.elim none x f=some r):x=some r:=h
theorem U0{α β:Type}{a:α}{x:Option β}{f:α→Option β}{r:β}(h:Option.elim (some a) x f=some r):f a=some r:=h
theorem JQ{F:Nat→Prop}{b:Nat}{L:List (Option Nat)}(h:¬F b∧some b∉L):¬F b∧some b∉L++[none]:=⟨h.1,fun hm=>by
 rcases List.mem_append.1 hm with h1|h1
 ·exact h.2 h1
 ·simp at h1⟩
theorem Bj.OT{F:Nat→Prop}{C:List (Option Nat)}{o:Option Nat}{w w':World}(g:Bj (FU F (C++[o]++[none])) w w'):Bj (FU (FU F C) [o]) w w':=g.mono fun k h=>by
 rcases h with h|h
 ·exact .inl (.inl h)
 ·rcases List.mem_append.1 h with a|a
  ·rcases List.mem_append.1 a with h3|h3
   ·exact .inl (.inr h3)
   ·exact .inr h3
  ·simp at a
theorem Sl.R6{α β:Type}{e:Eg α}{ev:β→Value}{F:Nat→Prop}{B L:List (Option Nat)}{Z:Nat→Prop}{n0 r n:Nat}{w:World}{i:List (List Int×β)}{A:Option Addr}{c:Nat}{xs:List α}
  (j:∀w Z w' Z' cs x,e.R w Z cs x→e.R w' Z' cs x)(hm:Cp ev w r n i)(h:Sl e w (ZZ F B Z n0 L) A c xs):Sl e w (ZZ F B Z n0 (some r::L)) A c xs:=by
 obtain⟨h1,k,Bg,h3,d⟩:=h;refine⟨h1,k,Bg,h3.free j,?_⟩;rcases d with d|⟨b,o,m,p,q,f⟩
 ·exact .inl d
 ·cases g:Bg.flatten with
  |nil=>exact .inl rfl
  |cons u l=>
   rw[g] at f;refine .inr ⟨b,o,m,p.imp id fun⟨s,t⟩=>⟨s,fun a=>?_⟩,q,f⟩;rcases List.mem_cons.1 a with e|a
   ·cases e;obtain⟨es,y,v,_⟩:=hm;have:=f 0 u rfl;unfold World.cell? at this;simp[v] at this
   ·exact t a
section
variable{P:Program}{N:Nat}{a:Act}{l:Env}{w:World}
theorem Hk{fn:Func}{r1 r2 m:ResultVar}{v v' I7:Value}{R:Value→World→Prop}(g:fn.results= #[r1,r2,m])(h1:Ny P a l w r1 v)(p:Ny P a l w r2 v')(h3:Ny P a l w m I7)(h:R (.tuple #[v,v',I7]) w):
  LV X0 N (bodyPost P fn (fun e w'=>∃v,e=.returned v∧R v w')) .ret a l w:=fun s=>by
 refine bodyPost_ret (v:=.tuple #[v,v',I7]) ?_ (by rw[Dy,s.df]) ⟨_,rfl,h⟩;cases r1 with
 |tmp t0=>
  have d:(BX a l).tmps.getD t0 undef=v:=ee s h1;simp only[Array.getD_eq_getD_getElem?] at d;cases r2 with
  |tmp t1=>
   have c:(BX a l).tmps.getD t1 undef=v':=ee s p;simp only[Array.getD_eq_getD_getElem?] at c;cases m with
   |tmp t2=>
    have b:(BX a l).tmps.getD t2 undef=I7:=ee s h3;simp only[Array.getD_eq_getD_getElem?] at b;simp[results,g,d,c,b]
   |cell i t2=>
    obtain⟨f,j,k⟩:=h3;have b:(BX a l).tmps.getD i undef=.pointer (some f):=ee s j;simp only[Array.getD_eq_getD_getElem?] at b;simp[results,g,d,c,b,asAddr,k]
  |cell r t1=>
   obtain⟨n,t,o⟩:=p;have c:(BX a l).tmps.getD r undef=.pointer (some n):=ee s t;simp only[Array.getD_eq_getD_getElem?] at c;cases m with
   |tmp t2=>
    have b:(BX a l).tmps.getD t2 undef=I7:=ee s h3;simp only[Array.getD_eq_getD_getElem?] at b;simp[results,g,d,c,asAddr,o,b]
   |cell i t2=>
    obtain⟨f,j,k⟩:=h3;have b:(BX a l).tmps.getD i undef=.pointer (some f):=ee s j;simp only[Array.getD_eq_getD_getElem?] at b;simp[results,g,d,c,asAddr,o,b,asAddr,k]
 |cell x t0=>
  obtain⟨u,y,q⟩:=h1;have d:(BX a l).tmps.getD x undef=.pointer (some u):=ee s y;simp only[Array.getD_eq_getD_getElem?] at d;cases r2 with
  |tmp t1=>
   have c:(BX a l).tmps.getD t1 undef=v':=ee s p;simp only[Array.getD_eq_getD_getElem?] at c;cases m with
   |tmp t2=>
    have b:(BX a l).tmps.getD t2 undef=I7:=ee s h3;simp only[Array.getD_eq_getD_getElem?] at b;simp[results,g,d,asAddr,q,c,b]
   |cell i t2=>
    obtain⟨f,j,k⟩:=h3;have b:(BX a l).tmps.getD i undef=.pointer (some f):=ee s j;simp only[Array.getD_eq_getD_getElem?] at b;simp[results,g,d,asAddr,q,c,b,asAddr,k]
  |cell r t1=>
   obtain⟨n,t,o⟩:=p;have c:(BX a l).tmps.getD r undef=.pointer (some n):=ee s t;simp only[Array.getD_eq_getD_getElem?] at c;cases m with
   |tmp t2=>
    have b:(BX a l).tmps.getD t2 undef=I7:=ee s h3;simp only[Array.getD_eq_getD_getElem?] at b;simp[results,g,d,asAddr,q,c,asAddr,o,b]
   |cell i t2=>
    obtain⟨f,j,k⟩:=h3;have b:(BX a l).tmps.getD i undef=.pointer (some f):=ee s j;simp only[Array.getD_eq_getD_getElem?] at b;simp[results,g,d,asAddr,q,c,asAddr,o,b,asAddr,k]
end
theorem TP{w w':World}{Z Z' Q:Nat→Prop}(h:Mv w Z w' Z'):Mv w (fun b=>Z b∧Q b) w' (fun b=>Z' b∧Q b):=⟨h.size,fun b a c=>⟨⟨(h.stay b a.1 c).1,a.2⟩,(h.stay b a.1 c).2⟩⟩
def eF(n:Nat):Eg (Bool×List Int):=
 ⟨1,fun w Z cs x=>∃A c,cs=[.slice A x.2.length c]∧Sl (Ay .i64) w (fun b=>Z b∧(x.1=true→n≤b)) A c x.2,fun⟨_,_,h,_⟩=>by rw[h];rfl,fun⟨_,_,h,_⟩=>by rw[h];simp[Value.oneCell'],
  fun⟨A,c,h1,a⟩ g=>⟨A,c,h1,a.mv (TP g)⟩⟩
theorem TQ{n:Nat}{w:World}{Z:Nat→Prop}:∀{Bg:List (List Value)} {xs:List (List Int)},R2 (Bx (Ay .i64)) w Z Bg xs→R2 (eF n) w Z Bg (xs.map fun x=>(false,x))
 |[],[],_=>trivial
 |_::_,_::_,⟨⟨A,c,h1,a⟩,h⟩=>⟨⟨A,c,h1,a.mv (G2 fun _ b _=>⟨b,fun e=>by cases e⟩)⟩,TQ h⟩
 |[],_::_,h=>h.elim
 |_::_,[],h=>h.elim
theorem TR{n:Nat}{w:World}{Z:Nat→Prop}:∀{Bg:List (List Value)} {xs:List (Bool×List Int)},(∀y∈xs,y.1=true)→R2 (eF n) w Z Bg xs→R2 (Bx (Ay .i64)) w (fun b=>n≤b) Bg (xs.map Prod.snd)
 |[],[],_,_=>trivial
 |_::_,x::_,ht,⟨⟨A,c,h1,a⟩,h⟩=>⟨⟨A,c,h1,a.mv (G2 fun _ d _=>d.2 (ht x (List.mem_cons_self ..)))⟩,TR (fun y hy=>ht y (List.mem_cons_of_mem _ hy)) h⟩
 |[],_::_,_,h=>h.elim
 |_::_,[],_,h=>h.elim
theorem U1{t n0 n:Nat}{w:World}{Z:Nat→Prop}{A:Option Addr}{c:Nat}{xs:List (List Int)}(h:AB (Bx (Ay .i64)) t n0 w Z A c xs):AB (eF n) t n0 w Z A c (xs.map fun x=>(false,x)):=by
 obtain⟨Bg,h1,a⟩:=h;exact⟨Bg,TQ h1,by rw[List.length_map];exact a⟩
theorem U2{t n0 n:Nat}{w:World}{Z:Nat→Prop}{A:Option Addr}{c:Nat}{xs:List (Bool×List Int)}(ht:∀y∈xs,y.1=true)(h:AB (eF n) t n0 w Z A c xs):AB (Bx (Ay .i64)) t n0 w (fun b=>n≤b) A c (xs.map Prod.snd):=by
 obtain⟨Bg,h1,a⟩:=h;exact⟨Bg,TR ht h1,by rw[List.length_map];exact a⟩
theorem TS{a:List (Bool×List Int)}{k:Nat}{x:List Int}(h:(a.map Prod.snd)[k]?=some x):∃b,a[k]?=some (b,x):=by
 rw[List.getElem?_map] at h;cases c:a[k]? with
 |none=>rw[c] at h;cases h
 |some y=>rw[c] at h;cases h;exact⟨y.1,rfl⟩
end Go.Proofs.YtkljfdkmjdjpfaaGreat
end
section
namespace Go.Proofs.YtkljfdkmjdjpfaaGreat
open Go.RowKit
theorem GW{b:Nat}{t:TypeId}:∀(l:List Value) (o:Nat) {w:World} {cs:Array Value},Bk w b t cs→Bk (w.setCells b o l) b t (setCells cs o l)∧w.grownBy (w.setCells b o l) (some b)
 |[],o,w,cs,h=>⟨h,World.grownBy.refl w _⟩
 |v::l,o,w,cs,h=>by
  have c:Bk (w.setCell ⟨b,o,none⟩ v) b t (cs.setIfInBounds o v):=by
   unfold Bk at h⊢;simp[World.setCell,Array.getElem?_modify,h]
  have g1:GI b w (w.setCell ⟨b,o,none⟩ v):=⟨rfl,rfl,rfl,by simp,fun k _ a=>Below.heap_setCell w ⟨b,o,none⟩ v k (by simpa using a)⟩;have ih:=GW l (o+1) c;exact⟨ih.1,World.grownBy.trans g1 ih.2⟩
def CY (xs:List Int) (i:Int) (x:Int):List Int:=xs.take i.toNat++x::xs.drop i.toNat
theorem Li(xs:List Int)(i:Int)(x:Int):(CY xs i x).length=xs.length+1:=by
 unfold CY;simp;omega
theorem Rj{w w':World}{b:Nat}{o:Obj}(a:b=w.heap.size)(g:World.grownBy (w.alloc o) w' (some b)):Ext w w':=
 ⟨g.os,g.tape,g.output,by have:=g.size;simp at this;omega,fun k c _=>by
  have h1:=g.block k (by simp;omega) (by rw[a];intro e;cases e;omega);rw[h1];exact(World.grownBy_alloc w o none).block k c (by simp)⟩
theorem Ij{w:World}{base t g c:Nat}{cur:Array Value}{l:List Value}(a:base≤g)(d:Bk w g t cur)(e:l.length≤c)(f:c≤maxLen)(i:cur.size=c)(h:∀j,j<l.length→cur[j]?=l[j]?):D1 w base t 1 (some ⟨g,0,none⟩) l.length c l:=by
 refine⟨by simp,.inr ⟨g,c,cur,rfl,a,d,e,f,by simp[i],?_⟩⟩;rw[Nat.mul_one];apply List.ext_getElem?;intro j;rw[List.getElem?_take];split
 ·rename_i b
  rw[←h j b];simp
 ·rename_i b
  rw[List.getElem?_eq_none (by omega)]
theorem TU{b:Bool}(h:b=true→False):b=false:=by cases b<;>simp_all
theorem H9{b:Bool}(h:b=false)(k:b=true):False:=by rw[h] at k;cases k
section
variable{F F':Nat→Prop}{B:List (Option Nat)}{w0 w w' Bb:World}{Z:Nat→Prop}{L M:List (Option Nat)}
theorem II(h:Ext w w'){r:Option Nat}(g:w'.grownBy Bb r)(b:∀k,r=some k→w.heap.size≤k):Ext w Bb:=
 ⟨g.os.trans h.os,g.tape.trans h.tape,g.output.trans h.output,Nat.le_trans h.size g.size,fun k a _=>(g.block k (Nat.lt_of_lt_of_le a h.size) (fun e=>by have:=b k e.symm;omega)).trans (h.block k a (by simp))⟩
theorem IJ{D:Nat→Prop}(h:Bj D w w'){r:Option Nat}(g:w'.grownBy Bb r)(c:∀k,r=some k→D k∨w.heap.size≤k):Bj D w Bb:=
 ⟨g.os.trans h.os,g.tape.trans h.tape,g.output.trans h.output,Nat.le_trans h.size g.size,fun k a b=>(g.block k (Nat.lt_of_lt_of_le a h.size) (fun e=>by
  rcases c k e.symm with h1|h1
  ·exact b h1
  ·omega)).trans (h.block k a b)⟩
theorem FI{x y:Option Nat}{n:Nat}(a:∀k,x=some k→n≤k)(b:n≤w'.heap.size)(hy:∀k,y=some k→(x=some k∨w'.heap.size≤k)∧k<Bb.heap.size):∀k,y=some k→n≤k:=fun k c=>
 (hy k c).1.elim (a k) (fun h=>Nat.le_trans b h)
theorem Rk{x y a:Option Nat}{n:Nat}(b:∀k,x=some k→a=some k∨n≤k)(c:n≤w'.heap.size)(hy:∀k,y=some k→(x=some k∨w'.heap.size≤k)∧k<Bb.heap.size):∀k,y=some k→a=some k∨n≤k:=fun k d=>
 (hy k d).1.elim (b k) (fun h=>.inr (Nat.le_trans c h))
theorem H6{b:Nat}{t:TypeId}{cs:Array Value}(nb:I8 w' Bb b t cs):∀k,ob (some ⟨b,0,none⟩)=some k→((none:Option Nat)=some k∨w'.heap.size≤k)∧k<Bb.heap.size:=fun k e=>by
 cases e;exact⟨.inr (Nat.le_of_eq nb.En.symm),nb.bk.lt⟩
theorem TV{α:Type}{e:Eg α}{t:TypeId}{A:Option Addr}{c:Nat}{xs:List α}{Z:Nat→Prop}(h:AB e t w'.heap.size Bb Z A c xs):∀k,ob A=some k→((none:Option Nat)=some k∨w'.heap.size≤k)∧k<Bb.heap.size:=fun k e=>⟨.inr (h.ge k e),h.Ka k e⟩
end
def eT:Eg (Bool×(Option Addr×Nat)×List Int):=
 ⟨1,fun w Z cs x=>∃A c,cs=[.slice A x.2.2.length c]∧(x.1=true→A=x.2.1.1∧c=x.2.1.2)∧(x.1=false→Sl (Ay .i64) w Z A c x.2.2),fun⟨_,_,h,_⟩=>by rw[h];rfl,fun⟨_,_,h,_⟩=>by rw[h];simp[Value.oneCell'],
  fun⟨A,c,h1,a,h3⟩ g=>⟨A,c,h1,a,fun e=>(h3 e).mv g⟩⟩
theorem TW{w:World}{Z:Nat→Prop}:∀{Bg:List (List Value)} {xs:List (List Int)},R2 (Bx (Ay .i64)) w Z Bg xs→R2 eT w Z Bg (xs.map fun x=>(false,(none,0),x))
 |[],[],_=>trivial
 |_::_,_::_,⟨⟨A,c,h1,a⟩,h⟩=>⟨⟨A,c,h1,fun e=>(by cases e),fun _=>a⟩,TW h⟩
 |[],_::_,h=>h.elim
 |_::_,[],h=>h.elim
theorem TX{w:World}{Z:Nat→Prop}:∀{Bg:List (List Value)} {xs:List (Bool×(Option Addr×Nat)×List Int)},(∀y∈xs,y.1=true→Sl (Ay .i64) w Z y.2.1.1 y.2.1.2 y.2.2)→R2 eT w Z Bg xs→R2 (Bx (Ay .i64)) w Z Bg (xs.map fun y=>y.2.2)
  |[],[],_,_=>trivial
  |_::_,x::_,ht,⟨⟨A,c,h1,b,h3⟩,h⟩=>⟨by
      cases a:x.1 with
      |true=>
        obtain⟨rfl,rfl⟩:=b a;exact⟨_,_,h1,ht x (List.mem_cons_self ..) a⟩
      |false=>exact⟨A,c,h1,h3 a⟩,TX (fun y hy=>ht y (List.mem_cons_of_mem _ hy)) h⟩
  |[],_::_,_,h=>h.elim
  |_::_,[],_,h=>h.elim
theorem U3{t n0:Nat}{w:World}{Z:Nat→Prop}{A:Option Addr}{c:Nat}{xs:List (List Int)}(h:AB (Bx (Ay .i64)) t n0 w Z A c xs):AB eT t n0 w Z A c (xs.map fun x=>(false,(none,0),x)):=by
 obtain⟨Bg,h1,a⟩:=h;exact⟨Bg,TW h1,by rw[List.length_map];exact a⟩
theorem U4{t n0:Nat}{w:World}{Z:Nat→Prop}{A:Option Addr}{c:Nat}{xs:List (Bool×(Option Addr×Nat)×List Int)}(ht:∀y∈xs,y.1=true→Sl (Ay .i64) w Z y.2.1.1 y.2.1.2 y.2.2)(h:AB eT t n0 w Z A c xs):AB (Bx (Ay .i64)) t n0 w Z A c (xs.map fun y=>y.2.2):=by
 obtain⟨Bg,h1,a⟩:=h;exact⟨Bg,TX ht h1,by rw[List.length_map];exact a⟩
def Jc (N i:Int):Nat→Int→List (List Int)→Option (List (List Int))
  |0,_,_=>none
  |a+1,k,s=>cond (decide (k<N)) (cond (k !=i) ((idx s (0:Int)).bind fun x=>(Fz (((x.length+([k]:List Int).length:Nat):Int)≤140737488355328/8)).bind fun _=>(idx s (0:Int)).bind fun _=>(i64 (k+1)).bind fun _=>Jc N i a (k+1) (s.set 0 (x++[k])))
      ((i64 (k+1)).bind fun _=>Jc N i a (k+1) s)) (some s)
theorem qz{X:Ctx}{N:Nat}{a:Act}{l:Env}(st:St X N a l):(BX a l).tmps.size=N:=(H2 _ _).trans st.sz
theorem qd{X:Ctx}{N:Nat}{a:Act}{l:Env}(st:St X N a l):(BX a l).defers=X.ds:=(Dy _ _).trans st.df
theorem sp{X:Ctx}{N:Nat}{a:Act}{l:Env}(st:St X N a l)(k:Nat){v:Value}(h:lk (sl a k) l k=v):sl (BX a l) k=v:=(HL st k).trans h
theorem Hp.nb{F:Nat→Prop}{B L:List (Option Nat)}{w0 w w':World}{b:Nat}{t:TypeId}{cs:Array Value}(h:Hp F B w0 L w)(n:I8 w w' b t cs):Hp F B w0 (some b::L) w':=h.new n.gr (Nat.le_of_eq n.En.symm) (Nat.lt_of_lt_of_eq (Nat.lt_succ_self _) n.sz.symm)
theorem Hp.BK{F:Nat→Prop}{B L:List (Option Nat)}{w0 w w':World}{b:Nat}{t:TypeId}{cs:Array Value}(h:Hp F B w0 L w)(n:I8 w w' b t cs):w0.heap.size≤b:=by rw[n.En];exact h.sz
theorem Av{F:Nat→Prop}{B L:List (Option Nat)}{Z:Nat→Prop}{w w':World}{n0 b:Nat}{t:TypeId}{cs:Array Value}(n:I8 w w' b t cs):Mv w (ZZ F B Z n0 L) w' (ZZ F B Z n0 (some b::L)):=C1 n.gr (Nat.le_of_eq n.En.symm)
theorem X2{b c:Sort _}{p:b→c→Prop}{C:Prop}(h:∃a x1,p a x1)(k:∀a x1,p a x1→C):C:=h.elim fun a h=>h.elim fun x1 h=>k a x1 h
theorem X4{c d e f:Sort _}{p:c→d→e→f→Prop}{C:Prop}(h:∃a x1 x2 b,p a x1 x2 b)(k:∀a x1 x2 b,p a x1 x2 b→C):C:=h.elim fun a h=>h.elim fun x1 h=>h.elim fun x2 h=>h.elim fun b h=>k a x1 x2 b h
theorem Y2{a0 a1 r C:Prop}(h:a0∧a1∧r)(k:a0→a1→r→C):C:=h.elim fun a h=>h.elim fun x1 h=>k a x1 h
theorem Y3{a0 a1 a2 r C:Prop}(h:a0∧a1∧a2∧r)(k:a0→a1→a2→r→C):C:=h.elim fun a h=>h.elim fun x1 h=>h.elim fun x2 h=>k a x1 x2 h
theorem Y4{a0 a1 a2 a3 r C:Prop}(h:a0∧a1∧a2∧a3∧r)(k:a0→a1→a2→a3→r→C):C:=h.elim fun a h=>h.elim fun x1 h=>h.elim fun x2 h=>h.elim fun b h=>k a x1 x2 b h
theorem Y8{a0 a1 a2 a3 a4 a5 a b r C:Prop}(h:a0∧a1∧a2∧a3∧a4∧a5∧a∧b∧r)(k:a0→a1→a2→a3→a4→a5→a→b→r→C):C:=h.elim fun c h=>h.elim fun x1 h=>h.elim fun x2 h=>h.elim fun d h=>h.elim fun e h=>h.elim fun f h=>h.elim fun g h=>h.elim fun i h=>k c x1 x2 d e f g i h
end Go.Proofs.YtkljfdkmjdjpfaaGreat
end
section
set_option linter.unusedVariables false
set_option linter.unusedSimpArgs false
namespace Go.Proofs.YtkljfdkmjdjpfaaGreat
open Go.RowKit Go.WideShapes
structure CJ where
 Lo:Int
 Hi:Int
structure Au where
 On:Int
 Be:Int
 AQ:Bool
structure AY where
 Ar:Int
 AD:Int
 AQ:Int
 B9:Int
 Ck:Int
structure Ao where
 Aj:Int
 Ah:Int
 Am:Int
 Ax:Int
 Ac:List AY
structure AT where
 Comes:List Int
 Am:List Bool
structure CD where
 BH:Int
 BZ:Int
 Ci:Int
 Cj:Int
 AX:List AY
 Dd:List Bool
 known:List (List Int×Au)
structure HB where
 Cq:Int
 day:Int
structure BN where
 a0:Int
 a1:Int
 a2:Int
 a3:Int
def BN.set(x:BN)(k:Nat)(v:Int):BN:=⟨if k=0 then v else x.a0,if k=1 then v else x.a1,if k=2 then v else x.a2,if k=3 then v else x.a3⟩
def BN.l(x:BN):List Int:=[x.a0,x.a1,x.a2,x.a3]
theorem BN.VC(x:BN)(k:Nat)(v:Int)(h:k<4): #[.int .i64 (x.set k v).a0,.int .i64 (x.set k v).a1,.int .i64 (x.set k v).a2,.int .i64 (x.set k v).a3]=setCells #[.int .i64 x.a0,.int .i64 x.a1,.int .i64 x.a2,.int .i64 x.a3] k [.int .i64 v]:=by
 match k,h with
 |0,_=>rfl
 |1,_=>rfl
 |2,_=>rfl
 |3,_=>rfl
 |k+4,h=>omega
def BR:Eg Au:=⟨3,fun _ _ cs x=>cs=[.int .i64 x.On,.int .i64 x.Be,.bool x.AQ],fun h=>by rw[h];rfl,fun h=>by rw[h];simp[Value.oneCell'],fun h _=>h⟩
def AO:Eg AY:=⟨5,fun _ _ cs x=>cs=[.int .i64 x.Ar,.int .i64 x.AD,.int .i64 x.AQ,.int .i64 x.B9,.int .i64 x.Ck],fun h=>by rw[h];rfl,fun h=>by rw[h];simp[Value.oneCell'],fun h _=>h⟩
def F3:Eg Ao:=⟨5,fun w Z cs x=>∃a b,cs=[.int .i64 x.Aj,.int .i64 x.Ah,.int .i64 x.Am,.int .i64 x.Ax,.slice a x.Ac.length b]∧Sl AO w Z a b x.Ac,fun⟨_,_,h,_⟩=>by rw[h];rfl,fun⟨_,_,h,_⟩=>by rw[h];simp[Value.oneCell'],fun⟨a,b,h,c⟩ g=>⟨a,b,h,c.mv g⟩⟩
def D0:Eg AT:=⟨2,fun w Z cs x=>∃a b c d,cs=[.slice a x.Comes.length b,.slice c x.Am.length d]∧Sl (Ay .i64) w Z a b x.Comes∧Sl Bt w Z c d x.Am,fun⟨_,_,_,_,h,_⟩=>by rw[h];rfl,fun⟨_,_,_,_,h,_⟩=>by rw[h];simp[Value.oneCell'],fun⟨a,b,c,d,h,h0,h1⟩ g=>⟨a,b,c,d,h,h0.mv g,h1.mv g⟩⟩
def OU:Eg CJ:=⟨2,fun _ _ cs x=>cs=[.int .i64 x.Lo,.int .i64 x.Hi],fun h=>by rw[h];rfl,fun h=>by rw[h];simp[Value.oneCell'],fun h _=>h⟩
def U5:Eg BN:=⟨4,fun _ _ cs x=>cs=[.int .i64 x.a0,.int .i64 x.a1,.int .i64 x.a2,.int .i64 x.a3],fun h=>by rw[h];rfl,fun h=>by rw[h];simp[Value.oneCell'],fun h _=>h⟩
def LY(w:World)(Z:Nat→Prop)(q:Nat)(o:Option Nat):Option CD→Prop
 |none=>Bk w q 162 #[.pointer none]∧o=none
 |some x=>∃(b r:Nat) (a:Option Addr) (c:Nat) (d:Option Addr) (e:Nat),Bk w q 162 #[pt b 0]∧Rz w Z (some ⟨b,0,none⟩) [I x.BH,I x.BZ,I x.Ci,I x.Cj,.slice a x.AX.length c,.slice d x.Dd.length e,.map (some r)]∧Sl AO w Z a c x.AX∧Sl Bt w Z d e x.Dd∧Cp (fun x:Au=>.agg #[I x.On,I x.Be,.bool x.AQ]) w r 2 x.known∧o=some r
theorem LY.keep{w w':World}{Z Z':Nat→Prop}{q:Nat}{o:Option Nat}:∀{x:Option CD},LY w Z q o x→Mv w Z w' Z'→w'.heap[q]?=w.heap[q]?→(∀k,o=some k→w'.heap[k]?=w.heap[k]?)→LY w' Z' q o x
 |none,h,_,a,_=>⟨h.1.F1 a,h.2⟩
 |some x,⟨b,r,e,f,g,i,j,l,h0,h1,hm,d⟩,c,a,m=>⟨b,r,e,f,g,i,j.F1 a,l.mv c,h0.mv c,h1.mv c,hm.F1 (m r d),d⟩
end Go.Proofs.YtkljfdkmjdjpfaaGreat
end
section
set_option linter.unusedVariables false
set_option linter.unusedSimpArgs false
namespace Go.Proofs.YtkljfdkmjdjpfaaGreat
open Go.RowKit Go.WideShapes
def Et(d:Nat)(a:Int)(b:Int)(c:Int):Option (Bool):=
 cond (decide (b≤a)) (some (decide (a≤c))) (some (false))
def E7(b:Nat)(a:CJ):Option (Int):=
 (i64 (a.Hi-a.Lo)).bind fun _=>(i64 ((a.Hi-a.Lo)+1)).bind fun _=>some ((a.Hi-a.Lo)+1)
def G3(c:Nat)(a:CJ)(b:Int):Option (Bool):=
 cond (decide ((0:Int)≤a.Lo)) (cond (decide (a.Lo≤a.Hi)) (some (decide (a.Hi≤b))) (some (false))) (some (false))
def GR(a:Nat)(b:Int):Option (Bool):=
 (Et a b 1 5).bind fun r1=>some (r1)
def D2(d:Nat)(a:Int)(b:Int)(c:Int):Option (Bool):=
 cond (decide (b≤a)) (some (decide (a≤c))) (some (false))
def Eo(b:Nat)(a:CJ):Option (Int):=
 (i64 (a.Hi-a.Lo)).bind fun _=>(i64 ((a.Hi-a.Lo)+1)).bind fun _=>some ((a.Hi-a.Lo)+1)
def Eh(c:Nat)(b:Int)(a:Int):Option (Bool):=
 (Lg .u64 a).bind fun _=>(NA b a).bind fun _=>(rem (Fp b a) (2:Int)).bind fun _=>some (((Fp b a)%2)==1)
def EW(d:Nat)(a:Int)(b:Int)(c:Bool):Option (Au):=
 some ((⟨a,b,c⟩:Au))
def FP(b:Nat)(a:Ao)(c:Int):Option (Bool):=
 (i64 ((a.Ac.length:Int)-1)).bind fun _=>(Et b c 0 ((a.Ac.length:Int)-1)).bind fun d=>some (d)
def Dg(c:Nat)(b:AY)(a:Au):Option (Bool):=
 cond (a.AQ) (some (decide (a.Be≤b.Ck))) (some (false))
def Ep(a:Nat)(b:AY)(c:Au):Option (Bool):=
 (Dg a b c).bind fun d=>some (!d)
end Go.Proofs.YtkljfdkmjdjpfaaGreat
end
section
set_option linter.unusedVariables false
set_option linter.unusedSimpArgs false
namespace Go.Proofs.YtkljfdkmjdjpfaaGreat
open Go.RowKit Go.WideShapes
def Cx(e:Nat)(c:Ao)(f:Int)(b:Int):Nat→Bool→Int→Option (Bool)
 |0,_,_=>none
 |g+1,d,a=>(i64 (b+c.Ax)).bind fun _=>cond (decide (a≤(b+c.Ax))) (cond (d) (cond (decide (a≤c.Aj)) ((Eh e f a).bind fun h=>(i64 (a+1)).bind fun _=>Cx e c f b g h (a+1)) ((i64 (a+1)).bind fun _=>Cx e c f b g false (a+1))) ((i64 (a+1)).bind fun _=>Cx e c f b g false (a+1))) (some (d))
def Cr(e:Nat)(d:Ao)(f:Int)(b:Int):Nat→Bool→Int→Option (Bool)
 |0,_,_=>none
 |g+1,c,a=>(i64 (b+d.Ax)).bind fun _=>cond (decide (a≤(b+d.Ax))) (cond (c) (cond (decide (a≤d.Aj)) ((Eh e f a).bind fun h=>(i64 (a+1)).bind fun _=>Cr e d f b g h (a+1)) ((i64 (a+1)).bind fun _=>Cr e d f b g false (a+1))) ((i64 (a+1)).bind fun _=>Cr e d f b g false (a+1))) (some (c))
def CL(c:Nat)(d:Ao)(e:Int):Nat→Int→Int→Option ((Bool)⊕(Int))
 |0,_,_=>none
 |f+1,b,a=>cond (decide (a≤d.Aj)) ((Eh c e a).bind fun g=>cond (g) ((i64 (b+1)).bind fun _=>(Cx c d e a c true a).bind fun h=>cond (h) (some (.inl false)) ((i64 (a+1)).bind fun _=>CL c d e f (b+1) (a+1))) ((Cr c d e a c true a).bind fun z20=>cond (z20) (some (.inl false)) ((i64 (a+1)).bind fun _=>CL c d e f b (a+1)))) (some (.inr b))
def EA(b:Nat)(c:Ao)(d:Int):Option (Bool):=
 (CL b c d b (0:Int) (0:Int)).bind fun z=>Sum.elim (fun a=>some (a)) (fun a=>some (decide (a≤c.Am))) z
def CU(d:Nat)(c:Ao):Nat→(List Int)→Int→Option ((List Int))
 |0,_,_=>none
 |e+1,b,a=>(i64 (c.Aj+1)).bind fun _=>(Lg .u64 (c.Aj+1)).bind fun _=>(Mh (1:Int) (c.Aj+1)).bind fun _=>cond (decide (a<(Hh (1:Int) (c.Aj+1)))) ((EA d c a).bind fun f=>cond (f) ((Fz (((b.length+[a].length:Nat):Int)≤140737488355328/8)).bind fun _=>(i64 (a+1)).bind fun _=>CU d c e (b++[a]) (a+1)) ((i64 (a+1)).bind fun _=>CU d c e b (a+1))) (some (b))
def Ee(a:Nat)(b:Ao):Option ((List Int)):=
 (CU a b a ([]:List Int) (0:Int)).bind fun z2=>some (z2)
def DN(d:Nat)(c:Ao):Nat→Int→Int→Option (Int)
 |0,_,_=>none
 |g+1,b,a=>cond (decide (a<(c.Ac.length:Int))) ((idx c.Ac a).bind fun e=>(Eo d (⟨e.Ar,e.AD⟩:CJ)).bind fun f=>(i64 (b*f)).bind fun _=>(i64 (a+1)).bind fun _=>DN d c g (min (3000:Int) (b*f)) (a+1)) (some (b))
def Dw(a:Nat)(b:Ao):Option (Int):=
 (Ee a b).bind fun r2=>(DN a b a (r2.length:Int) (0:Int)).bind fun z4=>some (z4)
def Dn(d:Nat)(c:Ao):Nat→Int→Option ((Int)⊕(Unit))
 |0,_=>none
 |h+1,a=>cond (decide (a<(c.Ac.length:Int))) ((idx c.Ac a).bind fun b=>cond (decide (b.Ar<0)) (some (.inl (1:Int))) (cond (decide (b.AD<b.Ar)) (some (.inl (1:Int))) (cond (decide (c.Aj<b.AD)) (some (.inl (1:Int))) ((D2 d b.AQ 1 5).bind fun e=>cond (!e) (some (.inl (1:Int))) ((D2 d b.B9 1 5).bind fun f=>cond (!f) (some (.inl (1:Int))) ((D2 d b.Ck 0 c.Aj).bind fun g=>cond (!g) (some (.inl (1:Int))) ((i64 (a+1)).bind fun _=>Dn d c h (a+1)))))))) (some (.inr ()))
def EC(b:Nat)(a:Ao):Option (Int):=
 cond (decide ((9:Int)<a.Aj)) (some (3)) (cond (decide ((2:Int)<a.Ah)) (some (3)) (cond (decide ((4:Int)<(a.Ac.length:Int))) (some (3)) (cond (decide (a.Aj<0)) (some (1)) (cond (decide (a.Ah<1)) (some (1)) ((i64 (a.Aj+1)).bind fun _=>(D2 b a.Am 0 (a.Aj+1)).bind fun f=>cond (!f) (some (1)) ((i64 (a.Aj+1)).bind fun _=>(D2 b a.Ax 0 (a.Aj+1)).bind fun d=>cond (!d) (some (1)) ((Dn b a b (0:Int)).bind fun z=>Sum.elim (fun c=>some (c)) (fun c=>(Dw b a).bind fun e=>cond (decide ((1000:Int)<e)) (some (3)) (some (0))) z)))))))
def E3(b:Nat)(c:Ao)(a:AY):Option (Bool):=
 (G3 b (⟨a.Ar,a.AD⟩:CJ) c.Aj).bind fun e=>cond (e) ((GR b a.AQ).bind fun f=>cond (f) ((GR b a.B9).bind fun g=>cond (g) ((Et b a.Ck 0 c.Aj).bind fun d=>some (d)) (some (false))) (some (false))) (some (false))
def DO(b:List Int)(c:List Int):Nat→Int→Option ((Bool)⊕(Unit))
 |0,_=>none
 |d+1,a=>cond (decide (a<(b.length:Int))) ((idx b a).bind fun e=>(idx c a).bind fun f=>cond (e !=f) (some (.inl false)) ((i64 (a+1)).bind fun _=>DO b c d (a+1))) (some (.inr ()))
def FB(d:Nat)(b:List Int)(c:List Int):Option (Bool):=
 cond ((b.length:Int) !=(c.length:Int)) (some (false)) ((DO b c d (0:Int)).bind fun z=>Sum.elim (fun a=>some (a)) (fun a=>some (true)) z)
def CM(b:Nat)(a:Int):Option (Ao):=
 some ((⟨5,1,a,1,[(⟨0,0,2,2,2⟩:AY),(⟨1,1,2,1,5⟩:AY)]⟩:Ao))
def Gr(b:Nat)(a:Int):Option (AT):=
 (I1 (6:Int) 1).bind fun _=>(idx (List.replicate (6:Int).toNat false) a).bind fun c=>some ((⟨[0,1],(List.replicate (6:Int).toNat false).set a.toNat true⟩:AT))
def Gs(f:Nat)(a:List Au)(b:Au)(c:Au):Option (Bool):=
 cond ((a.length:Int)==2) ((idx a (0:Int)).bind fun d=>cond (Gb [.inl d.On,.inl d.Be,.inr d.AQ] [.inl b.On,.inl b.Be,.inr b.AQ]) ((idx a (1:Int)).bind fun e=>some (Gb [.inl e.On,.inl e.Be,.inr e.AQ] [.inl c.On,.inl c.Be,.inr c.AQ])) (some (false))) (some (false))
def GM(b:Nat)(a:CJ):Option (CJ):=
 some (a)
def DP(f:Nat)(e:Ao):Nat→Int→(List AY)→Option ((List AY))
 |0,_,_=>none
 |g+1,b,a=>cond (decide (b<(e.Ac.length:Int))) ((idx e.Ac b).bind fun c=>(GM f (⟨c.Ar,c.AD⟩:CJ)).bind fun d=>(Fz (((a.length+[(⟨d.Lo,d.Hi,c.AQ,c.B9,c.Ck⟩:AY)].length:Nat):Int)≤140737488355328/40)).bind fun _=>(i64 (b+1)).bind fun _=>DP f e g (b+1) (a++[(⟨d.Lo,d.Hi,c.AQ,c.B9,c.Ck⟩:AY)])) (some (a))
def CE(b:Nat)(a:Ao):Option (Ao):=
 (DP b a b (0:Int) ([]:List AY)).bind fun z5=>some ((⟨a.Aj,a.Ah,a.Am,a.Ax,z5⟩:Ao))
def Fg(a:Nat)(b:Ao):Option (Int):=
 (EC a b).bind fun r2=>some (r2)
def FC(b:Nat)(a:Ao):Option (Bool):=
 cond (decide ((a.Ac.length:Int)≤6)) ((EC b a).bind fun c=>cond (c !=0) (some (true)) ((Dw b a).bind fun d=>some (decide (d≤60)))) (some (false))
end Go.Proofs.YtkljfdkmjdjpfaaGreat
end
section
set_option linter.unusedVariables false
set_option linter.unusedSimpArgs false
namespace Go.Proofs.YtkljfdkmjdjpfaaGreat
open Go.RowKit Go.WideShapes
def ER{a:Type}(e:Nat)(b:a→AY→Option (Bool×a))(c:AY)(d:a):Option (Bool×a):=
 (b d c).bind fun r2=>some ((!r2.1,r2.2))
def Da{c:Type}(d:c→AY→Option (Bool×c))(e:List AY):Nat→Int→c→Option ((Int×c)⊕(c))
 |0,_,_=>none
 |g+1,a,b=>cond (decide (a<(e.length:Int))) ((idx e a).bind fun h=>(d b h).bind fun f=>cond (f.1) (some (.inl (a,f.2))) ((i64 (a+1)).bind fun _=>Da d e g (a+1) f.2)) (some (.inr b))
def Fw{b:Type}(d:Nat)(c:b→AY→Option (Bool×b))(e:List AY)(f:b):Option (Int×b):=
 (Da c e d (0:Int) f).bind fun z=>Sum.elim (fun a=>some ((a.1,a.2))) (fun a=>some (((-1),a))) z
def E0{a:Type}(c:Nat)(b:a→AY→Option (Bool×a))(d:List AY)(e:a):Option (Bool×a):=
 (Fw c b d e).bind fun r1=>some ((decide ((0:Int)≤r1.1),r1.2))
def GB{a:Type}(b:Nat)(c:a→AY→Option (Bool×a))(d:List AY)(e:a):Option (Bool×a):=
 (E0 b (fun(st:a) (x:AY)=>(ER b c x st).bind fun r=>some (r.1,r.2)) d e).bind fun r2=>some ((!r2.1,r2.2))
def EB{a:Type}(e:Nat)(b:a→Bool→Option (Bool×a))(c:Bool)(d:a):Option (Bool×a):=
 (b d c).bind fun r1=>some ((!r1.1,r1.2))
def C4{c:Type}(d:c→Bool→Option (Bool×c))(e:List Bool):Nat→Int→c→Option ((Int×c)⊕(c))
 |0,_,_=>none
 |g+1,a,b=>cond (decide (a<(e.length:Int))) ((idx e a).bind fun h=>(d b h).bind fun f=>cond (f.1) (some (.inl (a,f.2))) ((i64 (a+1)).bind fun _=>C4 d e g (a+1) f.2)) (some (.inr b))
def Ff{b:Type}(d:Nat)(c:b→Bool→Option (Bool×b))(e:List Bool)(f:b):Option (Int×b):=
 (C4 c e d (0:Int) f).bind fun z=>Sum.elim (fun a=>some ((a.1,a.2))) (fun a=>some (((-1),a))) z
def EM{a:Type}(c:Nat)(b:a→Bool→Option (Bool×a))(d:List Bool)(e:a):Option (Bool×a):=
 (Ff c b d e).bind fun r1=>some ((decide ((0:Int)≤r1.1),r1.2))
def Gm{a:Type}(b:Nat)(c:a→Bool→Option (Bool×a))(d:List Bool)(e:a):Option (Bool×a):=
 (EM b (fun(st:a) (x:Bool)=>(EB b c x st).bind fun r=>some (r.1,r.2)) d e).bind fun r2=>some ((!r2.1,r2.2))
def DQ(e:Nat)(d:Bool)(b:Int)(a:Int)(c:Ao):Option (Bool×Int×Int):=
 cond (!d) (some ((true,0,a))) ((i64 (a+1)).bind fun _=>(i64 (b+1)).bind fun _=>cond (decide ((a+1)≤c.Am)) (some ((decide ((b+1)≤c.Ax),b+1,a+1))) (some ((false,b+1,a+1))))
def ED(a:Nat)(b:Ao)(c:List Bool):Option (Bool):=
 (Gm a (fun(st:Int×Int) (x:Bool)=>(DQ a x st.1 st.2 b).bind fun r=>some (r.1,(r.2.1,r.2.2))) c (0,0)).bind fun d=>some (d.1)
end Go.Proofs.YtkljfdkmjdjpfaaGreat
end
section
set_option linter.unusedVariables false
set_option linter.unusedSimpArgs false
namespace Go.Proofs.YtkljfdkmjdjpfaaGreat
open Go.RowKit Go.WideShapes
def EE(c:List Int):Nat→Int→Int→Option (Int)
 |0,_,_=>none
 |d+1,b,a=>cond (decide (a<(c.length:Int))) ((idx c a).bind fun e=>(i64 (a+1)).bind fun _=>EE c d (min b e) (a+1)) (some (b))
def GN(b:Nat)(a:List Int):Option (Int):=
 cond (decide ((a.length:Int)<1)) (none) ((idx a (0:Int)).bind fun x2=>(EE a b x2 (1:Int)).bind fun z3=>some (z3))
def GC(a:Nat)(b:List Int):Option (Int):=
 (GN a b).bind fun r1=>some (r1)
def CV(b:Int)(d:List Bool):Nat→Int→(List Bool)→Option ((List Bool))
 |0,_,_=>none
 |e+1,a,c=>cond (decide (a<(d.length:Int))) ((NA b a).bind fun _=>(rem (Fp b a) (2:Int)).bind fun _=>(idx c a).bind fun f=>(i64 (a+1)).bind fun _=>CV b d e (a+1) (c.set a.toNat (((Fp b a)%2)==1))) (some (c))
def CX{c:Type}(d:c→(List Bool)→Option (Bool×c))(g:Nat)(h:Ao):Nat→Int→(List Bool)→c→Option ((c)⊕(c))
 |0,_,_,_=>none
 |j+1,a,e,b=>cond (decide (a<(Hh (1:Int) ((List.replicate (h.Aj+1).toNat false).length:Int)))) ((CV a e g (0:Int) e).bind fun i=>(ED g h i).bind fun k=>cond (k) ((d b i).bind fun f=>cond (!f.1) (some (.inl f.2)) ((i64 (a+1)).bind fun _=>CX d g h j (a+1) i f.2)) ((i64 (a+1)).bind fun _=>CX d g h j (a+1) i b)) (some (.inr b))
def Dz{c:Type}(d:Nat)(e:c→(List Bool)→Option (Bool×c))(a:Ao)(f:c):Option (c):=
 (i64 (a.Aj+1)).bind fun _=>(I1 (a.Aj+1) 1).bind fun _=>(Mh (1:Int) ((List.replicate (a.Aj+1).toNat false).length:Int)).bind fun _=>(CX e d a d (0:Int) (List.replicate (a.Aj+1).toNat false) f).bind fun z=>Sum.elim (fun b=>some (b)) (fun b=>some (b)) z
end Go.Proofs.YtkljfdkmjdjpfaaGreat
end
section
set_option linter.unusedVariables false
set_option linter.unusedSimpArgs false
namespace Go.Proofs.YtkljfdkmjdjpfaaGreat
open Go.RowKit Go.WideShapes
def E4(a:Int)(b:(List Bool)):Option (Bool×Int):=
 (i64 (a+1)).bind fun _=>some (true,a+1)
def D4(e:Nat)(f:Ao):Nat→Int→Int→Option (Int)
 |0,_,_=>none
 |h+1,b,a=>cond (decide (b<(f.Ac.length:Int))) ((idx f.Ac b).bind fun c=>(E7 e (⟨c.Ar,c.AD⟩:CJ)).bind fun d=>(i64 (a*d)).bind fun _=>(GC e [a*d,1001]).bind fun g=>(i64 (b+1)).bind fun _=>D4 e f h (b+1) g) (some (a))
def DA(b:Nat)(a:Ao):Option (Int):=
 cond (decide ((9:Int)<a.Aj)) (some (3)) (cond (decide ((2:Int)<a.Ah)) (some (3)) (cond (decide ((4:Int)<(a.Ac.length:Int))) (some (3)) (cond (decide (a.Aj<0)) (some (1)) (cond (decide (a.Ah<1)) (some (1)) ((i64 (a.Aj+1)).bind fun _=>(Et b a.Am 0 (a.Aj+1)).bind fun g=>cond (!g) (some (1)) ((i64 (a.Aj+1)).bind fun _=>(Et b a.Ax 0 (a.Aj+1)).bind fun c=>cond (!c) (some (1)) ((GB b (fun(st:Unit) (x:AY)=>(E3 b a x).bind fun r=>some (r,())) a.Ac ()).bind fun d=>cond (!d.1) (some (1)) ((Dz b (fun(st:Int) (x:(List Bool))=>E4 st x) a (0:Int)).bind fun e=>(D4 b a b (0:Int) e).bind fun f=>cond (decide ((1000:Int)<f)) (some (3)) (some (0))))))))))
end Go.Proofs.YtkljfdkmjdjpfaaGreat
end
section
set_option linter.unusedVariables false
set_option linter.unusedSimpArgs false
namespace Go.Proofs.YtkljfdkmjdjpfaaGreat
open Go.RowKit Go.WideShapes
def Cc{f:Type}(g:Int→(List Int)→(List Bool)→Ao→f→Option (Bool×(List Int)×f))(e:Int)(j:List Bool)(i:Ao)(k:Int):Nat→Int→(List Int)→f→Option ((Bool×(List Int)×f)⊕((List Int)×f))
 |0,_,_,_=>none
 |l+1,a,b,d=>cond (decide (a<k)) ((idx i.Ac e).bind fun h=>(i64 (h.Ar+a)).bind fun _=>(idx b e).bind fun m=>(i64 (e+1)).bind fun _=>(g (e+1) (b.set e.toNat (h.Ar+a)) j i d).bind fun c=>cond (!c.1) (some (.inl (false,c.2.1,c.2.2))) ((i64 (a+1)).bind fun _=>Cc g e j i k l (a+1) c.2.1 c.2.2)) (some (.inr (b,d)))
def BU{b:Type}(e:Nat)(d:b→AT→Option (Bool×b)):Nat→Int→(List Int)→(List Bool)→Ao→b→Option (Bool×(List Int)×b)
 |0,_,_,_,_,_=>none
 |k+1,f,c,g,h,i=>cond (f==(c.length:Int)) ((d i (⟨c,g⟩:AT)).bind fun r2=>some ((r2.1,c,r2.2))) ((idx h.Ac f).bind fun j=>(E7 e (⟨j.Ar,j.AD⟩:CJ)).bind fun l=>(Cc (BU e d k) f g h l e (0:Int) c i).bind fun z=>Sum.elim (fun a=>some ((a.1,a.2.1,a.2.2))) (fun a=>some ((true,a.1,a.2))) z)
end Go.Proofs.YtkljfdkmjdjpfaaGreat
end
section
set_option linter.unusedVariables false
set_option linter.unusedSimpArgs false
namespace Go.Proofs.YtkljfdkmjdjpfaaGreat
open Go.RowKit Go.WideShapes
def Dp{c:Type}(e:c→AT→Option (Bool×c))(f:Nat)(g:Ao)(b:List Int)(d:c)(h:(List Bool)):Option (Bool×((List Int)×c×Bool)):=
 (BU f e f 0 b h g d).bind fun a=>cond (!a.1) (some (false,a.2.1,a.2.2,true)) (some (true,a.2.1,a.2.2,false))
def E5{a:Type}(d:Nat)(e:a→AT→Option (Bool×a))(b:Ao)(f:a):Option (a):=
 (I1 (b.Ac.length:Int) 8).bind fun _=>(Dz d (fun(st:(List Int)×a×Bool) (x:(List Bool))=>cond st.2.2 none (Dp e d b st.1 st.2.1 x)) b (List.replicate (b.Ac.length:Int).toNat (0:Int),f,false)).bind fun c=>cond (c.2.2) (some (c.2.1)) (some (c.2.1))
end Go.Proofs.YtkljfdkmjdjpfaaGreat
end
section
set_option linter.unusedVariables false
set_option linter.unusedSimpArgs false
namespace Go.Proofs.YtkljfdkmjdjpfaaGreat
open Go.RowKit Go.WideShapes
def DB(b:List Bool)(c:List Bool):Nat→Int→Option ((Bool)⊕(Unit))
 |0,_=>none
 |d+1,a=>cond (decide (a<(b.length:Int))) ((idx b a).bind fun e=>(idx c a).bind fun f=>cond (e !=f) (some (.inl false)) ((i64 (a+1)).bind fun _=>DB b c d (a+1))) (some (.inr ()))
def EF(d:Nat)(b:List Bool)(c:List Bool):Option (Bool):=
 cond ((b.length:Int) !=(c.length:Int)) (some (false)) ((DB b c d (0:Int)).bind fun z=>Sum.elim (fun a=>some (a)) (fun a=>some (true)) z)
def Dq(d:Nat)(c:Ao)(e:AT):Nat→Int→Option ((Bool)⊕(Unit))
 |0,_=>none
 |h+1,a=>cond (decide (a<(c.Ac.length:Int))) ((idx c.Ac a).bind fun b=>(idx e.Comes a).bind fun f=>(Et d f b.Ar b.AD).bind fun g=>cond (!g) (some (.inl false)) ((i64 (a+1)).bind fun _=>Dq d c e h (a+1))) (some (.inr ()))
def Fh(d:Nat)(a:Ao)(c:AT):Option (Bool):=
 cond ((c.Comes.length:Int) !=(a.Ac.length:Int)) (some (false)) ((i64 (a.Aj+1)).bind fun _=>cond ((c.Am.length:Int) !=(a.Aj+1)) (some (false)) ((ED d a c.Am).bind fun e=>cond (!e) (some (false)) ((Dq d a c d (0:Int)).bind fun z=>Sum.elim (fun b=>some (b)) (fun b=>some (true)) z)))
def DX(i:CD)(h:HB)(f:AY):Nat→Int→Int→Int→Int→Int→Bool→Option ((Int×Int×Bool)⊕(Int×Int×Bool))
 |0,_,_,_,_,_,_=>none
 |j+1,b,g,a,c,d,e=>cond (decide (a≤i.BH)) ((idx i.Dd a).bind fun k=>cond (k) ((i64 (g+1)).bind fun _=>cond (b==f.AQ) (some (.inl (h.day,a,b==f.AQ))) (cond ((g+1)==f.B9) (some (.inl (h.day,a,b==f.AQ))) ((i64 (a+1)).bind fun _=>DX i h f j b (g+1) (a+1) c d e))) ((i64 (b+1)).bind fun _=>cond ((b+1)==f.AQ) (some (.inl (h.day,a,(b+1)==f.AQ))) (cond ((0:Int)==f.B9) (some (.inl (h.day,a,(b+1)==f.AQ))) ((i64 (a+1)).bind fun _=>DX i h f j (b+1) (0:Int) (a+1) c d e)))) (some (.inr (c,d,e)))
def FJ(d:Nat)(c:CD)(b:HB):Option (Au):=
 cond (decide (c.BH<b.day)) (some ((⟨(-1),(-1),false⟩:Au))) ((idx c.AX b.Cq).bind fun e=>(DX c b e d (0:Int) (0:Int) b.day (0:Int) (0:Int) false).bind fun z=>Sum.elim (fun a=>some ((⟨a.1,a.2.1,a.2.2⟩:Au))) (fun a=>some ((⟨b.day,(-1),false⟩:Au))) z)
def Fq(d:Nat)(b:CD)(a:HB):Option (Au×(List (List Int×Au))):=
 cond (!((BG b.known [a.Cq,a.day]).isSome)) ((FJ d b a).bind fun c=>some ((c,Hy b.known [a.Cq,a.day] c))) (some ((((BG b.known [a.Cq,a.day]).getD (⟨0,0,false⟩:Au)),b.known)))
def DJ(i:Nat)(c:CD)(j:List Int)(g:List Int):Nat→Int→Int→(List Au)→(List (List Int×Au))→Option ((List Au)×(List (List Int×Au)))
 |0,_,_,_,_=>none
 |k+1,h,a,d,e=>cond (decide (a<(g.length:Int))) ((idx g a).bind fun f=>(idx j f).bind fun l=>(Fq i (⟨c.BH,c.BZ,c.Ci,c.Cj,c.AX,c.Dd,e⟩:CD) (⟨f,max h l⟩:HB)).bind fun b=>(idx d f).bind fun m=>(i64 (b.1.Be+1)).bind fun _=>cond (b.1.Be==(-1)) ((i64 (c.BH+1)).bind fun _=>(i64 (a+1)).bind fun _=>DJ i c j g k (c.BH+1) (a+1) (d.set f.toNat b.1) b.2) ((i64 (a+1)).bind fun _=>DJ i c j g k (b.1.Be+1) (a+1) (d.set f.toNat b.1) b.2)) (some ((d,e)))
def Dj(d:Nat)(f:CD)(e:List (List Int))(g:List Int):Nat→Int→(List Au)→(List (List Int×Au))→Option ((List Au)×(List (List Int×Au)))
 |0,_,_,_=>none
 |i+1,a,c,b=>cond (decide (a<(e.length:Int))) ((idx e a).bind fun j=>(DJ d f g j d (0:Int) (0:Int) c b).bind fun h=>(i64 (a+1)).bind fun _=>Dj d f e g i (a+1) h.1 h.2) (some ((c,b)))
def C5(b:Nat)(a:CD)(c:List (List Int))(d:List Int):Option ((List Au)×(List (List Int×Au))):=
 (I1 (a.AX.length:Int) 24).bind fun _=>(Dj b a c d b (0:Int) (List.replicate (a.AX.length:Int).toNat (⟨0,0,false⟩:Au)) a.known).bind fun z3=>some ((z3.1,z3.2))
end Go.Proofs.YtkljfdkmjdjpfaaGreat
end
section
set_option linter.unusedVariables false
set_option linter.unusedSimpArgs false
namespace Go.Proofs.YtkljfdkmjdjpfaaGreat
open Go.RowKit Go.WideShapes
def DC(c:List (List Int)):Nat→(List Int)→Int→Option ((List Int))
 |0,_,_=>none
 |e+1,b,a=>cond (decide (a<(c.length:Int))) ((idx c a).bind fun d=>(Fz (((b.length+d.length:Nat):Int)≤140737488355328/8)).bind fun _=>(i64 (a+1)).bind fun _=>DC c e (b++d) (a+1)) (some (b))
def Dr(b:Ao)(z2:(List Int)):Nat→Int→Option ((Bool)⊕(Unit))
 |0,_=>none
 |d+1,a=>cond (decide (a<(b.Ac.length:Int))) (cond (((Dc z2).length:Int) !=(b.Ac.length:Int)) (some (.inl false)) ((idx (Dc z2) a).bind fun c=>cond (c !=a) (some (.inl false)) ((i64 (a+1)).bind fun _=>Dr b z2 d (a+1)))) (some (.inr ()))
def Ej(c:Nat)(b:Ao)(d:List (List Int)):Option (Bool):=
 (DC d c ([]:List Int) (0:Int)).bind fun z2=>(Fz ((z2.length:Int)≤100000)).bind fun _=>(Dr b z2 c (0:Int)).bind fun z=>Sum.elim (fun a=>some (a)) (fun a=>cond ((d.length:Int)==b.Ah) (some (((Dc z2).length:Int)==(b.Ac.length:Int))) (some (false))) z
def Ef(b:Nat)(a:Ao)(d:List (List Int))(c:AT):Option ((List Au)×Int):=
 (DA b a).bind fun e=>cond (e !=0) (some ((([]:List Au),e))) ((Ej b a d).bind fun h=>cond (!h) (some ((([]:List Au),2))) ((Fh b a c).bind fun f=>cond (!f) (some ((([]:List Au),2))) ((C5 b (⟨a.Aj,a.Ah,a.Am,a.Ax,a.Ac,c.Am,[]⟩:CD) d c.Comes).bind fun g=>some ((g.1,0)))))
end Go.Proofs.YtkljfdkmjdjpfaaGreat
end
section
set_option linter.unusedVariables false
set_option linter.unusedSimpArgs false
namespace Go.Proofs.YtkljfdkmjdjpfaaGreat
open Go.RowKit Go.WideShapes
def DK(d:Nat)(e:Ao)(c:List Au):Nat→Int→Int→Option (Int)
 |0,_,_=>none
 |f+1,b,a=>cond (decide (a<(c.length:Int))) ((idx c a).bind fun i=>(idx e.Ac a).bind fun g=>(Ep d g i).bind fun h=>cond (h) ((i64 (b+1)).bind fun _=>(i64 (a+1)).bind fun _=>DK d e c f (b+1) (a+1)) ((i64 (a+1)).bind fun _=>DK d e c f b (a+1))) (some (b))
def ES(a:Nat)(b:Ao)(c:List Au):Option (Int):=
 (DK a b c a (0:Int) (0:Int)).bind fun z4=>some (z4)
def EX(d:Nat)(a:AT)(e:List Au)(b:Ao)(c:Int)(f:AT):Option (Bool×Int×AT):=
 (ES d b e).bind fun r2=>cond (decide (c<r2)) ((Fz (((0+a.Comes.length:Nat):Int)≤140737488355328/8)).bind fun _=>(Fz (((0+a.Am.length:Nat):Int)≤140737488355328/1)).bind fun _=>some ((decide (r2<(b.Ac.length:Int)),r2,a))) (some ((decide (c<(b.Ac.length:Int)),c,f)))
def CN{j:Type}(h:j→(AY×Au)→Option (Bool×j))(k:List Au)(l:Ao):Nat→Int→Int→Int→Int→Int→j→Option (Int×Int×Int×Int×j)
 |0,_,_,_,_,_,_=>none
 |m+1,a,b,c,d,e,g=>cond (decide (a<(k.length:Int))) ((idx k a).bind fun o=>(idx l.Ac a).bind fun n=>(h g (n,o)).bind fun i=>cond (i.1) ((idx ([b,c,d,e]:List Int) a).bind fun f=>(i64 (f+1)).bind fun _=>(idx ([b,c,d,e]:List Int) a).bind fun p=>(i64 (a+1)).bind fun _=>CN h k l m (a+1) (((⟨b,c,d,e⟩:BN).set a.toNat (f+1)).a0) (((⟨b,c,d,e⟩:BN).set a.toNat (f+1)).a1) (((⟨b,c,d,e⟩:BN).set a.toNat (f+1)).a2) (((⟨b,c,d,e⟩:BN).set a.toNat (f+1)).a3) i.2) ((i64 (a+1)).bind fun _=>CN h k l m (a+1) b c d e i.2)) (some ((b,c,d,e,g)))
def C7{a:Type}(e:Nat)(c:a→(AY×Au)→Option (Bool×a))(i:AT)(f:List Au)(d:Int)(g:Ao)(b:BN)(h:a):Option (Bool×Int×BN×a):=
 (i64 (d+1)).bind fun _=>(CN c f g e (0:Int) b.a0 b.a1 b.a2 b.a3 h).bind fun z4=>some ((true,d+1,(⟨z4.1,z4.2.1,z4.2.2.1,z4.2.2.2.1⟩:BN),z4.2.2.2.2))
end Go.Proofs.YtkljfdkmjdjpfaaGreat
end
section
set_option linter.unusedVariables false
set_option linter.unusedSimpArgs false
namespace Go.Proofs.YtkljfdkmjdjpfaaGreat
open Go.RowKit Go.WideShapes
def DL{m:Type}(f:m→(AT×(List Au))→Option (Bool×m))(n:Nat)(a:Ao)(o:List (List Int))(e:Option CD)(d:m)(c:AT):Option (Bool×((Option CD)×m×Bool)):=
 Option.elim e ((Fz (((0+c.Am.length:Nat):Int)≤140737488355328/1)).bind fun _=>(C5 n (⟨a.Aj,a.Ah,a.Am,a.Ax,a.Ac,c.Am,[]⟩:CD) o c.Comes).bind fun g=>(f d (c,g.1)).bind fun h=>cond (!h.1) (some (false,(some (⟨a.Aj,a.Ah,a.Am,a.Ax,a.Ac,c.Am,g.2⟩:CD)),h.2,true)) (some (true,(some (⟨a.Aj,a.Ah,a.Am,a.Ax,a.Ac,c.Am,g.2⟩:CD)),h.2,false))) (fun b=>(EF n b.Dd c.Am).bind fun p=>cond (!p) ((Fz (((0+c.Am.length:Nat):Int)≤140737488355328/1)).bind fun _=>(C5 n (⟨a.Aj,a.Ah,a.Am,a.Ax,a.Ac,c.Am,[]⟩:CD) o c.Comes).bind fun i=>(f d (c,i.1)).bind fun j=>cond (!j.1) (some (false,(some (⟨a.Aj,a.Ah,a.Am,a.Ax,a.Ac,c.Am,i.2⟩:CD)),j.2,true)) (some (true,(some (⟨a.Aj,a.Ah,a.Am,a.Ax,a.Ac,c.Am,i.2⟩:CD)),j.2,false))) ((C5 n b o c.Comes).bind fun k=>(f d (c,k.1)).bind fun l=>cond (!l.1) (some (false,(some (⟨b.BH,b.BZ,b.Ci,b.Cj,b.AX,b.Dd,k.2⟩:CD)),l.2,true)) (some (true,(some (⟨b.BH,b.BZ,b.Ci,b.Cj,b.AX,b.Dd,k.2⟩:CD)),l.2,false))))
def Fs{a:Type}(c:Nat)(d:a→(AT×(List Au))→Option (Bool×a))(e:Ao)(f:List (List Int))(g:a):Option (a):=
 (E5 c (fun(st:(Option CD)×a×Bool) (x:AT)=>cond st.2.2 none (DL d c e f st.1 st.2.1 x)) e (none,g,false)).bind fun b=>cond (b.2.2) (some (b.2.1)) (some (b.2.1))
end Go.Proofs.YtkljfdkmjdjpfaaGreat
end
section
set_option linter.unusedVariables false
set_option linter.unusedSimpArgs false
namespace Go.Proofs.YtkljfdkmjdjpfaaGreat
open Go.RowKit Go.WideShapes
def CF{a:Type}(c:Nat)(d:a→(AY×Au)→Option (Bool×a))(e:Ao)(f:List (List Int))(g:a):Option (BN×Int×a):=
 (Fs c (fun(st:Int×BN×a) (x:AT×(List Au))=>(C7 c d x.1 x.2 st.1 e st.2.1 st.2.2).bind fun r=>some (r.1,(r.2.1,r.2.2.1,r.2.2.2))) e f (0,(⟨0,0,0,0⟩:BN),g)).bind fun b=>some ((b.2.1,b.1,b.2.2))
def Ft(a:Nat)(b:Ao)(d:List (List Int)):Option (Int×AT):=
 (Fs a (fun(st:Int×AT) (x:AT×(List Au))=>(EX a x.1 x.2 b st.1 st.2).bind fun r=>some (r.1,(r.2.1,r.2.2))) b d ((-1),(⟨([]:List Int),([]:List Bool)⟩:AT))).bind fun c=>some ((c.1,c.2))
def EG(b:Nat)(c:Ao)(e:List (List Int))(f:Int):Option (Int×Int):=
 (DA b c).bind fun r2=>cond (r2 !=0) (some ((0,r2))) ((Ej b c e).bind fun h=>cond (!h) (some ((0,2))) ((FP b c f).bind fun g=>cond (!g) (some ((0,2))) ((CF b (fun(st:Unit) (x:AY×Au)=>(Dg b x.1 x.2).bind fun r=>some (r,())) c e ()).bind fun a=>(idx ([a.1.a0,a.1.a1,a.1.a2,a.1.a3]:List Int) f).bind fun d=>cond (d==a.2.1) (some ((1,0))) (cond (d==0) (some ((2,0))) (some ((3,0)))))))
def Gp(b:Nat)(c:Ao)(d:List (List Int)):Option (Int×AT×Int):=
 (DA b c).bind fun e=>cond (e !=0) (some ((0,(⟨([]:List Int),([]:List Bool)⟩:AT),e))) ((Ej b c d).bind fun f=>cond (!f) (some ((0,(⟨([]:List Int),([]:List Bool)⟩:AT),2))) ((Ft b c d).bind fun a=>some ((a.1,a.2,0))))
def E8(a:Nat)(b:Ao)(c:List (List Int))(d:Int):Option (Bool):=
 (Gp a b c).bind fun r2=>cond (r2.2.2==0) (some (decide (r2.1≤d))) (some (false))
def Fu(a:Nat)(b:Ao)(d:List (List Int))(e:AT)(f:Int):Option (Bool):=
 (Ef a b d e).bind fun c=>cond (c.2==0) ((ES a b c.1).bind fun g=>some (decide (f≤g))) (some (false))
end Go.Proofs.YtkljfdkmjdjpfaaGreat
end
section
set_option linter.unusedVariables false
set_option linter.unusedSimpArgs false
namespace Go.Proofs.YtkljfdkmjdjpfaaGreat
open Go.RowKit Go.WideShapes
def ET(c:List (List Int)):Nat→Int→(List (List Int))→Option ((List (List Int)))
 |0,_,_=>none
 |e+1,a,b=>cond (decide (a<(c.length:Int))) ((idx b a).bind fun d=>(Fz (((0+d.length:Nat):Int)≤140737488355328/8)).bind fun _=>(idx b a).bind fun f=>(i64 (a+1)).bind fun _=>ET c e (a+1) (b.set a.toNat d)) (some (b))
def Fc(b:Nat)(a:List (List Int)):Option ((List (List Int))):=
 (Fz (((0+a.length:Nat):Int)≤140737488355328/24)).bind fun _=>(ET a b (0:Int) a).bind fun z4=>some (z4)
end Go.Proofs.YtkljfdkmjdjpfaaGreat
end
section
set_option linter.unusedVariables false
set_option linter.unusedSimpArgs false
namespace Go.Proofs.YtkljfdkmjdjpfaaGreat
open Go.RowKit Go.WideShapes
def Gg(b:Nat)(c:List (List Int))(d:Ao)(a:Int)(e:List (List Int)):Option (Bool×Int×(List (List Int))):=
 (Ft b d c).bind fun r1=>cond (decide (r1.1<a)) ((Fc b c).bind fun f=>some ((decide ((0:Int)<r1.1),r1.1,f))) (some ((decide ((0:Int)<a),a,e)))
def Er(c:Ao)(r1:BN×Int×Unit):Nat→Int→Int→Option (Int)
 |0,_,_=>none
 |d+1,b,a=>cond (decide (a<(c.Ac.length:Int))) ((idx ([r1.1.a0,r1.1.a1,r1.1.a2,r1.1.a3]:List Int) a).bind fun e=>cond (e==0) ((i64 (b+1)).bind fun _=>(i64 (a+1)).bind fun _=>Er c r1 d (b+1) (a+1)) ((i64 (a+1)).bind fun _=>Er c r1 d b (a+1))) (some (b))
def Ei(c:Ao)(r1:BN×Int×Unit):Nat→Int→Int→Option (Int)
 |0,_,_=>none
 |d+1,b,a=>cond (decide (a<(c.Ac.length:Int))) ((idx ([r1.1.a0,r1.1.a1,r1.1.a2,r1.1.a3]:List Int) a).bind fun e=>cond (e==0) ((i64 (b+1)).bind fun _=>(i64 (a+1)).bind fun _=>Ei c r1 d (b+1) (a+1)) ((i64 (a+1)).bind fun _=>Ei c r1 d b (a+1))) (some (b))
def EN(c:Nat)(e:List (List Int))(b:Ao)(a:Int)(d:BN)(f:List (List Int)):Option (Bool×Int×BN×(List (List Int))):=
 (CF c (fun(st:Unit) (x:AY×Au)=>(Ep c x.1 x.2).bind fun r=>some (r,())) b e ()).bind fun r1=>cond (decide ((0:Int)≤a)) (cond ([r1.1.a0,r1.1.a1,r1.1.a2,r1.1.a3]==[d.a0,d.a1,d.a2,d.a3]) (some ((true,a,d,f))) ((Er b r1 c (0:Int) (0:Int)).bind fun z9=>cond (decide (a<z9)) ((Fc c e).bind fun g=>some ((decide (z9<(b.Ac.length:Int)),z9,r1.1,g))) (some ((decide (a<(b.Ac.length:Int)),a,r1.1,f))))) ((Ei b r1 c (0:Int) (0:Int)).bind fun z22=>cond (decide (a<z22)) ((Fc c e).bind fun h=>some ((decide (z22<(b.Ac.length:Int)),z22,r1.1,h))) (some ((decide (a<(b.Ac.length:Int)),a,r1.1,f))))
end Go.Proofs.YtkljfdkmjdjpfaaGreat
end
section
set_option linter.unusedVariables false
set_option linter.unusedSimpArgs false
namespace Go.Proofs.YtkljfdkmjdjpfaaGreat
open Go.RowKit Go.WideShapes
def Cm{g:Type}(h:Int→Ao→(List (List Int))→g→Option (Bool×(List (List Int))×g))(i:Int)(j:Ao)(c:Int)(f:List Int):Nat→Int→(List (List Int))→g→Option ((Bool×(List (List Int))×g)⊕((List (List Int))×g))
 |0,_,_,_=>none
 |k+1,a,b,e=>cond (decide (a<((f.length:Int)+1))) ((Fz (((0+f.length:Nat):Int)≤140737488355328/8)).bind fun _=>(Fz (0≤a∧a≤(f.length:Int)∧((f.length:Int)+1)*8≤140737488355328)).bind fun _=>(idx b c).bind fun l=>(i64 (i+1)).bind fun _=>(h (i+1) j (b.set c.toNat (CY f a i)) e).bind fun d=>cond (!d.1) (some (.inl (false,d.2.1,d.2.2))) ((i64 (a+1)).bind fun _=>Cm h i j c f k (a+1) d.2.1 d.2.2)) (some (.inr (b,e)))
def Cd{e:Type}(f:Int→Ao→(List (List Int))→e→Option (Bool×(List (List Int))×e))(h:Nat)(i:Int)(j:Ao)(k:List (List Int)):Nat→Int→(List (List Int))→e→Option ((Bool×(List (List Int))×e)⊕((List (List Int))×e))
 |0,_,_,_=>none
 |l+1,a,b,d=>cond (decide (a<(k.length:Int))) ((idx b a).bind fun g=>(i64 ((g.length:Int)+1)).bind fun _=>(Cm f i j a g h (0:Int) b d).bind fun z=>Sum.elim (fun c=>some (.inl (c.1,c.2.1,c.2.2))) (fun c=>(idx c.1 a).bind fun m=>(i64 (a+1)).bind fun _=>Cd f h i j k l (a+1) (c.1.set a.toNat g) c.2) z) (some (.inr (b,d)))
def By{b:Type}(e:Nat)(d:b→(List (List Int))→Option (Bool×b)):Nat→Int→Ao→(List (List Int))→b→Option (Bool×(List (List Int))×b)
 |0,_,_,_,_=>none
 |i+1,f,g,c,h=>cond (f==(g.Ac.length:Int)) ((d h c).bind fun r2=>some ((r2.1,c,r2.2))) ((Cd (By e d i) e f g c e (0:Int) c h).bind fun z=>Sum.elim (fun a=>some ((a.1,a.2.1,a.2.2))) (fun a=>some ((true,a.1,a.2))) z)
end Go.Proofs.YtkljfdkmjdjpfaaGreat
end
section
set_option linter.unusedVariables false
set_option linter.unusedSimpArgs false
namespace Go.Proofs.YtkljfdkmjdjpfaaGreat
open Go.RowKit Go.WideShapes
def EY{a:Type}(c:Nat)(d:a→(List (List Int))→Option (Bool×a))(b:Ao)(e:a):Option (a):=
 (I1 b.Ah 24).bind fun _=>(By c d c 0 b (List.replicate b.Ah.toNat ([]:List Int)) e).bind fun f=>some (f.2.2)
end Go.Proofs.YtkljfdkmjdjpfaaGreat
end
section
set_option linter.unusedVariables false
set_option linter.unusedSimpArgs false
namespace Go.Proofs.YtkljfdkmjdjpfaaGreat
open Go.RowKit Go.WideShapes
def GX(c:Nat)(a:Ao):Option ((List (List Int))×Int×Int):=
 (DA c a).bind fun d=>cond (d !=0) (some ((([]:List (List Int)),0,d))) ((i64 ((a.Ac.length:Int)+1)).bind fun _=>(EY c (fun(st:Int×(List (List Int))) (x:(List (List Int)))=>(Gg c x a st.1 st.2).bind fun r=>some (r.1,(r.2.1,r.2.2))) a ((a.Ac.length:Int)+1,([]:List (List Int)))).bind fun b=>some ((b.2,b.1,0)))
def GY(b:Nat)(c:Ao):Option ((List (List Int))×Int×Int):=
 (DA b c).bind fun d=>cond (d !=0) (some ((([]:List (List Int)),0,d))) ((EY b (fun(st:Int×BN×(List (List Int))) (x:(List (List Int)))=>(EN b x c st.1 st.2.1 st.2.2).bind fun r=>some (r.1,(r.2.1,r.2.2.1,r.2.2.2))) c ((-1),(⟨0,0,0,0⟩:BN),([]:List (List Int)))).bind fun a=>some ((a.2.2,a.1,0)))
end Go.Proofs.YtkljfdkmjdjpfaaGreat
end
section
set_option linter.unusedVariables false
set_option linter.unusedSimpArgs false
namespace Go.Proofs.YtkljfdkmjdjpfaaGreat
open Go.RowKit Go.WideShapes
def DY(e:Nat)(c:Ao):Nat→(List Int)→Int→Option ((List Int))
 |0,_,_=>none
 |f+1,b,a=>cond (decide (a<(c.Ac.length:Int))) ((I1 c.Ah 24).bind fun _=>(idx (List.replicate c.Ah.toNat ([]:List Int)) (0:Int)).bind fun _=>(Jc (c.Ac.length:Int) a e (0:Int) ((List.replicate c.Ah.toNat ([]:List Int)).set 0 [a])).bind fun g=>(CF e (fun(st:Unit) (x:AY×Au)=>(Dg e x.1 x.2).bind fun r=>some (r,())) c g ()).bind fun d=>(idx ([d.1.a0,d.1.a1,d.1.a2,d.1.a3]:List Int) a).bind fun h=>cond (h==d.2.1) ((i64 (a+1)).bind fun _=>DY e c f b (a+1)) ((Fz (((b.length+[a].length:Nat):Int)≤140737488355328/8)).bind fun _=>(i64 (a+1)).bind fun _=>DY e c f (b++[a]) (a+1))) (some (b))
def E6(a:Nat)(b:Ao):Option ((List Int)×Int):=
 (DA a b).bind fun r2=>cond (r2 !=0) (some ((([]:List Int),r2))) ((DY a b a ([]:List Int) (0:Int)).bind fun z5=>some ((z5,0)))
end Go.Proofs.YtkljfdkmjdjpfaaGreat
end
section
set_option linter.unusedVariables false
set_option linter.unusedSimpArgs false
namespace Go.Proofs.YtkljfdkmjdjpfaaGreat
open Go.RowKit Go.WideShapes
def D5(g:Nat)(h:Ao):Nat→Int→Int→(List Int)→Option ((List Int))
 |0,_,_,_=>none
 |i+1,a,d,b=>cond (decide (d<(h.Ac.length:Int))) ((idx h.Ac d).bind fun c=>(Eo g (⟨c.Ar,c.AD⟩:CJ)).bind fun e=>(rem a e).bind fun _=>(i64 (c.Ar+(a%e))).bind fun _=>(Fz (((b.length+[c.Ar+(a%e)].length:Nat):Int)≤140737488355328/8)).bind fun _=>(Eo g (⟨c.Ar,c.AD⟩:CJ)).bind fun f=>(quo a f).bind fun _=>(i64 (a/f)).bind fun _=>(i64 (d+1)).bind fun _=>D5 g h i (a/f) (d+1) (b++[c.Ar+(a%e)])) (some (b))
def DR(d:Nat)(e:Ao)(f:Int):Nat→Int→(List Bool)→Option ((List Bool))
 |0,_,_=>none
 |g+1,a,b=>cond (decide (a≤e.Aj)) ((Eh d f a).bind fun c=>(Fz (((b.length+[c].length:Nat):Int)≤140737488355328/1)).bind fun _=>(i64 (a+1)).bind fun _=>DR d e f g (a+1) (b++[c])) (some (b))
def FQ(c:Nat)(d:Ao)(a:List Int)(b:Int):Option (AT):=
 (rem b (a.length:Int)).bind fun _=>(idx a (b%(a.length:Int))).bind fun e=>(quo b (a.length:Int)).bind fun _=>(i64 (b/(a.length:Int))).bind fun _=>(D5 c d c (b/(a.length:Int)) (0:Int) ([]:List Int)).bind fun f=>(DR c d e c (0:Int) ([]:List Bool)).bind fun z23=>some ((⟨f,z23⟩:AT))
end Go.Proofs.YtkljfdkmjdjpfaaGreat
end
section
set_option linter.unusedVariables false
set_option linter.unusedSimpArgs false
namespace Go.Proofs.YtkljfdkmjdjpfaaGreat
open Go.RowKit Go.WideShapes
def DD(c:List (List Int)):Nat→(List (List Int))→Int→Option ((List (List Int)))
 |0,_,_=>none
 |e+1,b,a=>cond (decide (a<(c.length:Int))) ((idx c a).bind fun d=>(Fz (((([]:List Int).length+d.length:Nat):Int)≤140737488355328/8)).bind fun _=>(Fz (((b.length+[([]:List Int)++d].length:Nat):Int)≤140737488355328/24)).bind fun _=>(i64 (a+1)).bind fun _=>DD c e (b++[([]:List Int)++d]) (a+1)) (some (b))
def Dk(a:Nat)(b:List (List Int)):Option ((List (List Int))):=
 (DD b a ([]:List (List Int)) (0:Int)).bind fun z2=>some (z2)
def CS(b:Nat)(a:AT):Option (AT):=
 (Fz (((([]:List Int).length+a.Comes.length:Nat):Int)≤140737488355328/8)).bind fun _=>(Fz (((([]:List Bool).length+a.Am.length:Nat):Int)≤140737488355328/1)).bind fun _=>some ((⟨([]:List Int)++a.Comes,([]:List Bool)++a.Am⟩:AT))
def Fi(a:Nat)(b:Ao):Option (Bool):=
 (FC a b).bind fun r2=>cond (r2) ((Fg a b).bind fun c=>some (c==0)) (some (false))
def FD(d:Nat)(a:List Int)(b:Int):Option (Int):=
 cond ((a.length:Int)==0) (some (0)) ((rem b (a.length:Int)).bind fun _=>(idx a (b%(a.length:Int))).bind fun c=>(Lg .i64 c).bind fun _=>some (c))
def DE(h:Nat)(f:Ao)(i:List Int):Nat→Int→(List (List Int))→Option ((List (List Int)))
 |0,_,_=>none
 |j+1,c,d=>cond (decide (c<(f.Ac.length:Int))) ((FD h i c).bind fun a=>(rem a f.Ah).bind fun _=>(quo a (4:Int)).bind fun _=>(i64 (a/4)).bind fun _=>(idx d (a%f.Ah)).bind fun b=>(i64 ((b.length:Int)+1)).bind fun _=>(rem (a/4) ((b.length:Int)+1)).bind fun _=>(idx d (a%f.Ah)).bind fun g=>(IG g.length (0:Int) ((a/4)%((b.length:Int)+1))).bind fun _=>(Fz (((([]:List Int).length+(BS g (0:Int) ((a/4)%((b.length:Int)+1))).length:Nat):Int)≤140737488355328/8)).bind fun _=>(Fz ((((([]:List Int)++(BS g (0:Int) ((a/4)%((b.length:Int)+1)))).length+[c].length:Nat):Int)≤140737488355328/8)).bind fun _=>(idx d (a%f.Ah)).bind fun e=>(IG e.length ((a/4)%((b.length:Int)+1)) (e.length:Int)).bind fun _=>(Fz (((((([]:List Int)++(BS g (0:Int) ((a/4)%((b.length:Int)+1))))++[c]).length+(BS e ((a/4)%((b.length:Int)+1)) (e.length:Int)).length:Nat):Int)≤140737488355328/8)).bind fun _=>(idx d (a%f.Ah)).bind fun k=>(i64 (c+1)).bind fun _=>DE h f i j (c+1) (d.set (a%f.Ah).toNat (((([]:List Int)++(BS g (0:Int) ((a/4)%((b.length:Int)+1))))++[c])++(BS e ((a/4)%((b.length:Int)+1)) (e.length:Int))))) (some (d))
def Fj(b:Nat)(a:Ao)(c:List Int):Option ((List (List Int))):=
 (I1 a.Ah 24).bind fun _=>(DE b a c b (0:Int) (List.replicate a.Ah.toNat ([]:List Int))).bind fun z4=>some (z4)
def DZ(a:Nat)(b:Ao)(c:Int):Option (AT):=
 (Ee a b).bind fun e=>(Lg .i64 c).bind fun _=>(Dw a b).bind fun d=>(rem c d).bind fun _=>(FQ a b e (c%d)).bind fun f=>some (f)
end Go.Proofs.YtkljfdkmjdjpfaaGreat
end
section
set_option linter.unusedVariables false
set_option linter.unusedSimpArgs false
namespace Go.Proofs.YtkljfdkmjdjpfaaGreat
open Go.RowKit Go.WideShapes
def CT(a:Nat):Option (Bool):=
 (CM a 1).bind fun r1=>(Gr a 3).bind fun v=>(Ef a r1 [[0,1]] v).bind fun h=>(CM a 1).bind fun w=>(EG a w [[0,1]] 1).bind fun d=>(CM a 1).bind fun i=>(EG a i [[1,0]] 0).bind fun e=>(CM a 1).bind fun j=>(Gp a j [[1,0]]).bind fun b=>(CM a 1).bind fun k=>(GX a k).bind fun c=>(CM a 1).bind fun l=>(GY a l).bind fun f=>(CM a 1).bind fun m=>(E6 a m).bind fun g=>cond (h.2==0) ((EW a 0 1 true).bind fun n=>(EW a 2 3 false).bind fun o=>(Gs a h.1 n o).bind fun p=>cond (p) (cond (d.2==0) (cond (d.1==3) (cond (e.2==0) (cond (e.1==2) (cond (b.2.2==0) (cond (b.1==2) ((CM a 1).bind fun q=>(Fu a q [[1,0]] b.2.1 2).bind fun r=>cond (r) (cond (c.2.2==0) (cond (c.2.1==1) ((CM a 1).bind fun s=>(E8 a s c.1 1).bind fun t=>cond (t) (cond (f.2.2==0) (cond (f.2.1==1) (cond (g.2==0) ((FB a g.1 [1]).bind fun u=>some (u)) (some (false))) (some (false))) (some (false))) (some (false))) (some (false))) (some (false))) (some (false))) (some (false))) (some (false))) (some (false))) (some (false))) (some (false))) (some (false))) (some (false))) (some (false))
end Go.Proofs.YtkljfdkmjdjpfaaGreat
end
section
namespace Go.Proofs.YtkljfdkmjdjpfaaGreat
theorem bd{α β:Type}{x:Option α}{a:α}{f:α→Option β}(h:x=some a):x.bind f=f a:=by rw[h];rfl
theorem BL{β:Type}{x:Int}{f:Int→Option β}(h0:-9223372036854775808≤x)(h1:x≤9223372036854775807):(i64 x).bind f=f x:=bd (TM h0 h1)
theorem Ds{α β:Type}{xs:List α}{k:Nat}{f:α→Option β}(h:k<xs.length):(idx xs (k:Int)).bind f=f xs[k]:=bd (idx_eq h)
theorem Fv{β:Type}{p:Prop}[Decidable p]{f:Unit→Option β}(h:p):(Fz p).bind f=f ():=bd (if_pos h)
theorem JR{β:Type}{a b:Int}{f:Int→Option β}(h0:0≤a)(h1:1≤b):(rem a b).bind f=f (a%b):=bd (if_pos ⟨h0,h1⟩)
theorem Rl{β:Type}{a b:Int}{f:Int→Option β}(h0:0≤a)(h1:1≤b):(quo a b).bind f=f (a/b):=bd (if_pos ⟨h0,h1⟩)
theorem NI{β:Type}{n:Int}{b:Nat}{f:Unit→Option β}(h0:0≤n)(h1:n*b≤140737488355328)(a:n≤140737488355328):(I1 n b).bind f=f ():=bd (if_pos ⟨h0,h1,a⟩)
theorem ct{α:Type}{b:Bool}{x y:α}(h:b=true):cond b x y=x:=by rw[h];rfl
theorem cf{α:Type}{b:Bool}{x y:α}(h:b=false):cond b x y=y:=by rw[h];rfl
theorem nt{α:Type}{x y:α}:cond (!true) x y=y:=rfl
theorem nf{α:Type}{x y:α}:cond (!false) x y=x:=rfl
theorem dt{p:Prop}[Decidable p](h:p):decide p=true:=decide_eq_true h
theorem df{p:Prop}[Decidable p](h:¬p):decide p=false:=decide_eq_false h
theorem DF(i:Nat):(i:Int)+1=((i+1:Nat):Int):=by omega
def FK(n a b:Int):Bool:=decide (a≤n)&&decide (n≤b)
theorem E9{n a b:Int}:FK n a b=true↔a≤n∧n≤b:=by simp[FK]
theorem NJ(K:Nat)(n a b:Int):D2 K n a b=some (FK n a b):=by unfold D2 FK;cases decide (a≤n)<;>rfl
theorem Hl(K:Nat)(n a b:Int):Et K n a b=some (FK n a b):=by unfold Et FK;cases decide (a≤n)<;>rfl
def run {σ α:Type} (cb:σ→α→Option (Bool×σ)):List α→σ→Option (Bool×σ)
 |[],s=>some (true,s)
 |x::l,s=>(cb s x).bind fun r=>cond r.1 (run cb l r.2) (some (false,r.2))
theorem HC{σ α:Type}(cb:σ→α→Option (Bool×σ))(a:List α):∀(b:List α) (s:σ),run cb (b++a) s=(run cb b s).bind fun r=>cond r.1 (run cb a r.2) (some (false,r.2))
 |[],s=>rfl
 |x::l,s=>by
  simp only[List.cons_append,run];cases cb s x with
  |none=>rfl
  |some r=>
   simp only[Option.bind_some];cases h:r.1 with
   |false=>simp
   |true=>simpa using HC cb a l r.2
theorem run_map{σ α β:Type}(cb:σ→β→Option (Bool×σ))(f:α→β):∀(l:List α) (s:σ),run cb (l.map f) s=run (fun s x=>cb s (f x)) l s
 |[],s=>rfl
 |x::l,s=>by simp only[List.map_cons,run,run_map cb f l]
theorem PO{σ:Type}(K:Nat)(cb:σ→Bool→Option (Bool×σ))(p:List Bool)(a:p.length≤5000):∀(n m i:Nat) (s:σ),p.length=i+n→n<m→
  (C4 (fun(st:σ) (x:Bool)=>(EB K cb x st).bind fun r=>some (r.1,r.2)) p m (i:Int) s).bind (fun z=>Sum.elim (fun q=>some (decide ((0:Int)≤q.1),q.2)) (fun q=>some (false,q)) z)=(run cb (p.drop i) s).bind fun r=>some (!r.1,r.2):=by
 intro n
 induction n with
 |zero=>
  intro m i s h hm;cases m with
  |zero=>omega
  |succ m=>
   rw[C4.eq_2,cf (df (by omega)),List.drop_eq_nil_of_le (by omega)];rfl
 |succ n ih=>
  intro m i s h hm;cases m with
  |zero=>omega
  |succ m=>
   have hi:i<p.length:=by omega
   rw[C4.eq_2,ct (dt (by omega)),Ds hi,List.drop_eq_getElem_cons hi];simp only[run];have e:(EB K cb p[i] s).bind (fun r=>some (r.1,r.2))=(cb s p[i]).bind fun r=>some (!r.1,r.2):=by
    unfold EB;cases cb s p[i]<;>rfl
   rw[e];cases b:cb s p[i] with
   |none=>rfl
   |some r=>
    simp only[Option.bind_some];cases c:r.1 with
    |false=>
     show some (decide ((0:Int)≤(i:Int)),r.2)=some (!false,r.2);rw[dt (by omega)];rfl
    |true=>
     rw[nt,BL (by omega) (by omega),DF];exact ih m (i+1) r.2 (by omega) (by omega)
theorem PQ{σ:Type}{K:Nat}(cb:σ→Bool→Option (Bool×σ))(p:List Bool)(s:σ)(b:p.length≤5000)(hK:p.length<K):Gm K cb p s=run cb p s:=by
 unfold Gm EM Ff;have h:=PO K cb p b p.length K 0 s (by omega) hK;rw[List.drop_zero,Int.natCast_zero] at h;have e:∀(z:(Int×σ)⊕σ),(Sum.elim (fun a=>some ((a.1,a.2))) (fun a=>some (((-1),a))) z:Option (Int×σ)).bind (fun r1=>some ((decide ((0:Int)≤r1.1),r1.2)))=Sum.elim (fun q=>some (decide ((0:Int)≤q.1),q.2)) (fun q=>some (false,q)) z:=by
  intro z;cases z<;>rfl
 refine Eq.trans (congrArg (fun z=>Option.bind z _) ((Option.bind_assoc _ _ _).trans ((congrArg (fun f=>Option.bind _ f) (funext e)).trans h))) ?_;cases run cb p s with
 |none=>rfl
 |some r=>show some (!(!r.1),r.2)=some r;rw[Bool.not_not]
theorem Qm{σ:Type}(K:Nat)(cb:σ→AY→Option (Bool×σ))(p:List AY)(a:p.length≤5000):∀(n m i:Nat) (s:σ),p.length=i+n→n<m→
  (Da (fun(st:σ) (x:AY)=>(ER K cb x st).bind fun r=>some (r.1,r.2)) p m (i:Int) s).bind (fun z=>Sum.elim (fun q=>some (decide ((0:Int)≤q.1),q.2)) (fun q=>some (false,q)) z)=(run cb (p.drop i) s).bind fun r=>some (!r.1,r.2):=by
 intro n
 induction n with
 |zero=>
  intro m i s h hm;cases m with
  |zero=>omega
  |succ m=>
   rw[Da.eq_2,cf (df (by omega)),List.drop_eq_nil_of_le (by omega)];rfl
 |succ n ih=>
  intro m i s h hm;cases m with
  |zero=>omega
  |succ m=>
   have hi:i<p.length:=by omega
   rw[Da.eq_2,ct (dt (by omega)),Ds hi,List.drop_eq_getElem_cons hi];simp only[run];have e:(ER K cb p[i] s).bind (fun r=>some (r.1,r.2))=(cb s p[i]).bind fun r=>some (!r.1,r.2):=by
    unfold ER;cases cb s p[i]<;>rfl
   rw[e];cases b:cb s p[i] with
   |none=>rfl
   |some r=>
    simp only[Option.bind_some];cases c:r.1 with
    |false=>
     show some (decide ((0:Int)≤(i:Int)),r.2)=some (!false,r.2);rw[dt (by omega)];rfl
    |true=>
     rw[nt,BL (by omega) (by omega),DF];exact ih m (i+1) r.2 (by omega) (by omega)
theorem Qn{σ:Type}{K:Nat}(cb:σ→AY→Option (Bool×σ))(p:List AY)(s:σ)(b:p.length≤5000)(hK:p.length<K):GB K cb p s=run cb p s:=by
 unfold GB E0 Fw;have h:=Qm K cb p b p.length K 0 s (by omega) hK;rw[List.drop_zero,Int.natCast_zero] at h;have e:∀(z:(Int×σ)⊕σ),(Sum.elim (fun a=>some ((a.1,a.2))) (fun a=>some (((-1),a))) z:Option (Int×σ)).bind (fun r1=>some ((decide ((0:Int)≤r1.1),r1.2)))=Sum.elim (fun q=>some (decide ((0:Int)≤q.1),q.2)) (fun q=>some (false,q)) z:=by
  intro z;cases z<;>rfl
 refine Eq.trans (congrArg (fun z=>Option.bind z _) ((Option.bind_assoc _ _ _).trans ((congrArg (fun f=>Option.bind _ f) (funext e)).trans h))) ?_;cases run cb p s with
 |none=>rfl
 |some r=>show some (!(!r.1),r.2)=some r;rw[Bool.not_not]
def okW (W R:Int):List Bool→Int→Int→Bool
 |[],_,_=>true
 |false::l,s,_=>okW W R l s 0
 |true::l,s,r=>decide (s+1≤W)&&(decide (r+1≤R)&&okW W R l (s+1) (r+1))
theorem JS(K:Nat)(y:Ao):∀(l:List Bool) (r s:Int),0≤r→0≤s→r+l.length≤5000→s+l.length≤5000→
  (run (fun(st:Int×Int) (x:Bool)=>(DQ K x st.1 st.2 y).bind fun r=>some (r.1,(r.2.1,r.2.2))) l (r,s)).bind (fun c=>some (c.1))=some (okW y.Am y.Ax l s r)
 |[],r,s,_,_,_,_=>rfl
 |false::l,r,s,h1,b,h3,a=>by
  simp only[run,okW];unfold DQ;simp only[Bool.not_false,cond_true,Option.bind_some];exact JS K y l 0 s (by omega) b (by simp at h3;omega) (by simp at a;omega)
 |true::l,r,s,h1,b,h3,a=>by
  simp only[List.length_cons] at h3 a;simp only[run,okW];unfold DQ;simp only[Bool.not_true,cond_false];rw[BL (by omega) (by omega),BL (by omega) (by omega)];cases d:decide (s+1≤y.Am) with
  |false=>simp
  |true=>
   simp only[cond_true,Option.bind_some];cases e:decide (r+1≤y.Ax) with
   |false=>simp
   |true=>
    simp only[cond_true,Bool.true_and];exact JS K y l (r+1) (s+1) (by omega) (by omega) (by omega) (by omega)
theorem MO{K:Nat}(y:Ao)(l:List Bool)(a:l.length≤4000)(hK:l.length<K):ED K y l=some (okW y.Am y.Ax l 0 0):=by
 unfold ED;rw[PQ _ l _ (by omega) hK];exact JS K y l 0 0 (by omega) (by omega) (by omega) (by omega)
end Go.Proofs.YtkljfdkmjdjpfaaGreat
end
section
namespace Go.Proofs.YtkljfdkmjdjpfaaGreat
theorem OV(s x:Nat):Fp (s:Int) (x:Int)=((s/2^x:Nat):Int):=by
 unfold Fp;rw[Int.toNat_natCast,Int.natCast_ediv,Int.natCast_pow];rfl
theorem Su(s x:Nat):Fp (s:Int) (x:Int)%2=((s/2^x%2:Nat):Int):=by rw[OV];simp
theorem Qo(b d:Nat):(Fp (b:Int) (d:Int)%2==1)=b.testBit d:=by
 rw[Su,Nat.testBit_eq_decide_div_mod_eq];cases h:decide (b/2^d%2=1) with
 |true=>rw[of_decide_eq_true h];rfl
 |false=>
  have:=of_decide_eq_false h;simp only[beq_eq_false_iff_ne,ne_eq];omega
theorem Qp(b d:Nat)(h:d<64):NA (b:Int) (d:Int)=some ():=if_pos ⟨by omega,by omega⟩
theorem TY(b d:Nat):0≤Fp (b:Int) (d:Int):=by rw[OV];exact Int.natCast_nonneg _
def wl (n b:Nat):List Bool:=(List.range n).map b.testBit
theorem FE(n b:Nat):(wl n b).length=n:=by simp[wl]
theorem U6(b n:Nat)(a:List Bool)(h0:a.length=n)(d:n≤63):∀(k m i:Nat) (s:List Bool),n=i+k→k<m→s.length=n→
  CV (b:Int) a m (i:Int) s=some (s.take i++(List.range' i k).map b.testBit):=by
 intro k
 induction k with
 |zero=>
  intro m i s h hm c;cases m with
  |zero=>omega
  |succ m=>
   rw[CV.eq_2,cf (df (by omega)),List.take_of_length_le (by omega)];simp
 |succ k ih=>
  intro m i s h hm c;cases m with
  |zero=>omega
  |succ m=>
   have hi:i<s.length:=by omega
   rw[CV.eq_2,ct (dt (by omega)),bd (Qp b i (by omega)),JR (TY b i) (by omega),Ds hi,BL (by omega) (by omega),DF,Qo,Int.toNat_natCast];rw[ih m (i+1) (s.set i (b.testBit i)) (by omega) (by omega) (by rw[List.length_set];exact c)]
   congr 1
   rw[List.range'_succ,List.map_cons,List.take_add_one,List.getElem?_set_self hi,List.take_set_of_le (Nat.le_refl _)];simp
theorem U7(b n:Nat)(s:List Bool)(c:n≤63){K:Nat}(hK:n<K)(a:s.length=n):CV (b:Int) s K 0 s=some (wl n b):=by
 have:=U6 b n s a c n K 0 s (by omega) hK a;rw[Int.natCast_zero] at this;rw[this,wl,List.range_eq_range'];rfl
def G5 (y:Ao) (l:List Bool):Bool:=okW y.Am y.Ax l 0 0
def days(y:Ao):Nat:=(y.Aj+1).toNat
def Bn(y:Ao):List (List Bool):=((List.range (2^days y)).map (wl (days y))).filter (G5 y)
theorem IK:∀n:Nat,n≤10→2^n≤1024:=by decide
theorem PR{σ:Type}{K:Nat}(cb:σ→List Bool→Option (Bool×σ))(y:Ao)(hy:days y≤10)(hK:2000≤K):∀(k m i:Nat) (a:List Bool) (st:σ),2^days y=i+k→k<m→a.length=days y→
  CX cb K y m (i:Int) a st=(run cb (((List.range' i k).map (wl (days y))).filter (G5 y)) st).bind fun r=>some (cond r.1 (.inr r.2) (.inl r.2)):=by
 intro k;have f:=IK _ hy;have b:Hh (1:Int) ((List.replicate (y.Aj+1).toNat false).length:Int)=((2^days y:Nat):Int):=by
  unfold Hh;rw[Int.one_mul,Int.toNat_natCast,List.length_replicate,Int.natCast_pow];rfl
 induction k with
 |zero=>
  intro m i a st h hm c;cases m with
  |zero=>omega
  |succ m=>
   rw[CX.eq_2,b,cf (df (by omega))];rfl
 |succ k ih=>
  intro m i a st h hm c;cases m with
  |zero=>omega
  |succ m=>
   rw[CX.eq_2,b,ct (dt (by omega)),bd (U7 i (days y) a (by omega) (by omega) c),bd (MO y (wl (days y) i) (by rw[FE];omega) (by rw[FE];omega))];rw[List.range'_succ,List.map_cons];show cond (G5 y (wl (days y) i)) _ _=_;cases d:G5 y (wl (days y) i) with
   |false=>
    rw[List.filter_cons_of_neg (by rw[d];decide),cf rfl,BL (by omega) (by omega),DF];exact ih m (i+1) _ st (by omega) (by omega) (FE _ _)
   |true=>
    rw[List.filter_cons_of_pos d,ct rfl];show _=(Option.bind _ _:Option (Bool×σ)).bind _;cases g:cb st (wl (days y) i) with
    |none=>rfl
    |some r=>
     cases e:r.1 with
     |false=>
      show(cond (!r.1) (some (Sum.inl r.2)) _:Option (σ⊕σ))=(cond r.1 _ (some (false,r.2)):Option (Bool×σ)).bind _;rw[e];rfl
     |true=>
      show cond (!r.1) _ ((i64 ((i:Int)+1)).bind _)=(cond r.1 (run cb _ r.2) _:Option (Bool×σ)).bind _;rw[e,nt,BL (by omega) (by omega),DF];exact ih m (i+1) _ r.2 (by omega) (by omega) (FE _ _)
theorem LZ{σ:Type}{K:Nat}(cb:σ→List Bool→Option (Bool×σ))(y:Ao)(h0:0≤y.Aj)(h9:y.Aj≤9)(hK:2000≤K)(st:σ):
  Dz K cb y st=(run cb (Bn y) st).bind fun r=>some r.2:=by
 have a:days y≤10:=by unfold days;omega
 have c:=IK _ a;unfold Dz;rw[BL (by omega) (by omega),NI (by omega) (by omega) (by omega)];have b:Mh (1:Int) ((List.replicate (y.Aj+1).toNat false).length:Int)=some ():=by
  rw[List.length_replicate];refine if_pos ⟨by omega,by omega,?_,?_⟩
  ·have:(0:Int)≤1*2^((days y:Nat):Int).toNat:=by rw[Int.one_mul];exact Int.le_of_lt (Int.pow_pos (by omega))
   exact Int.le_trans (by omega) this
  ·rw[Int.one_mul,Int.toNat_natCast];have:((2^days y:Nat):Int)≤1024:=by omega
   rw[Int.natCast_pow] at this;exact Int.le_trans this (by omega)
 rw[bd b];have:=PR (K:=K) cb y a hK (2^days y) K 0 (List.replicate (y.Aj+1).toNat false) st (by omega) (by omega) (by rw[List.length_replicate];rfl);rw[Int.natCast_zero] at this;rw[this,Bn,List.range_eq_range',Option.bind_assoc]
 congr 1;funext r
 cases r.1<;>rfl
end Go.Proofs.YtkljfdkmjdjpfaaGreat
end
section
namespace Go.Proofs.YtkljfdkmjdjpfaaGreat
def F9(y:Ao)(l:AY):Bool:=decide (0≤l.Ar)&&(decide (l.Ar≤l.AD)&&(decide (l.AD≤y.Aj)&&(FK l.AQ 1 5&&(FK l.B9 1 5&&FK l.Ck 0 y.Aj))))
def BW(l:AY):Int:=l.AD-l.Ar+1
def Ex:List AY→Int
 |[]=>1
 |l::r=>BW l*Ex r
def FT (y:Ao):Int:=((Bn y).length:Int)*Ex y.Ac
def check(y:Ao):Int:=
 if 9<y.Aj∨2<y.Ah∨4<(y.Ac.length:Int) then 3
 else if y.Aj<0∨y.Ah<1∨FK y.Am 0 (y.Aj+1)=false∨FK y.Ax 0 (y.Aj+1)=false∨y.Ac.all (F9 y)=false then 1
 else if 1000<FT y then 3 else 0
theorem H7{y:Ao}{l:AY}:F9 y l=true↔0≤l.Ar∧l.Ar≤l.AD∧l.AD≤y.Aj∧(1≤l.AQ∧l.AQ≤5)∧(1≤l.B9∧l.B9≤5)∧0≤l.Ck∧l.Ck≤y.Aj:=by
 unfold F9;simp only[Bool.and_eq_true,decide_eq_true_eq,E9]
theorem U8(K:Nat)(y:Ao)(l:AY):E3 K y l=some (F9 y l):=by
 unfold E3 F9 G3 GR;rw[Hl,Hl,Hl];cases decide ((0:Int)≤l.Ar)<;>cases decide (l.Ar≤l.AD)<;>cases decide (l.AD≤y.Aj)<;>cases FK l.AQ 1 5<;>cases FK l.B9 1 5<;>rfl
theorem TZ{K:Nat}(hK:2<K)(a b:Int):GC K [a,b]=some (min a b):=by
 obtain⟨k,rfl⟩:∃k,K=k+3:=⟨K-3,by omega⟩;unfold GC GN;rw[cf (df (by simp)),show(0:Int)=((0:Nat):Int) from rfl,Ds (by simp),show(1:Int)=((1:Nat):Int) from rfl,EE.eq_2,ct (dt (by simp)),Ds (by simp),BL (by omega) (by omega),EE.eq_2,cf (df (by simp))];rfl
theorem Qq(K:Nat)(l:AY)(h0:0≤l.Ar)(h1:l.Ar≤l.AD)(a:l.AD≤9):E7 K (⟨l.Ar,l.AD⟩:CJ)=some (BW l):=by
 unfold E7;show(i64 (l.AD-l.Ar)).bind _=_;rw[BL (by omega) (by omega)];show(i64 (l.AD-l.Ar+1)).bind _=_;rw[BL (by omega) (by omega)];rfl
theorem Qr(K:Nat)(l:AY)(h0:0≤l.Ar)(h1:l.Ar≤l.AD)(a:l.AD≤9):Eo K (⟨l.Ar,l.AD⟩:CJ)=some (BW l):=by
 unfold Eo;show(i64 (l.AD-l.Ar)).bind _=_;rw[BL (by omega) (by omega)];show(i64 (l.AD-l.Ar+1)).bind _=_;rw[BL (by omega) (by omega)];rfl
def Jd(c:Int):Int→List AY→Int
 |n,[]=>n
 |n,l::r=>Jd c (min (n*BW l) c) r
def sized(l:AY):Prop:=1≤BW l∧BW l≤10
theorem Lv{y:Ao}{l:AY}(h9:y.Aj≤9)(h:F9 y l=true):sized l:=by
 obtain⟨h1,a,h3,_⟩:=H7.1 h;unfold sized BW;omega
theorem I3:∀{ls:List AY},(∀l∈ls,sized l)→1≤Ex ls
 |[],_=>Int.le_refl _
 |l::r,h=>by
  have h1:=(h l (List.mem_cons_self ..)).1;have a:=I3 (ls:=r) fun x b=>h x (List.mem_cons_of_mem _ b);have:=Int.mul_le_mul h1 a (by omega) (by omega);unfold Ex;omega
theorem Mm{c:Int}(d:1000<c):∀{ls:List AY} (n:Int),0≤n→(∀l∈ls,sized l)→(1000<Jd c n ls↔1000<n*Ex ls)
 |[],n,_,_=>by simp[Jd,Ex]
 |l::r,n,e,h=>by
  have f:=h l (List.mem_cons_self ..);have a:∀x∈r,sized x:=fun x g=>h x (List.mem_cons_of_mem _ g);have b:=I3 a;have h0:0≤n*BW l:=Int.mul_nonneg e (by have:=f.1;omega);unfold Jd Ex;rw[Mm d _ (by omega) a,←Int.mul_assoc];rcases Int.le_total (n*BW l) c with h1|h1
  ·rw[Int.min_eq_left h1]
  ·rw[Int.min_eq_right h1];have i:c*1≤c*Ex r:=Int.mul_le_mul_of_nonneg_left b (by omega);have h3:(n*BW l)*1≤n*BW l*Ex r:=Int.mul_le_mul_of_nonneg_left b h0;constructor<;>intro _<;>omega
theorem OW{c:Int}(b:1000<c):∀{ls:List AY} (n:Int),0≤n→(∀l∈ls,sized l)→n*Ex ls≤1000→Jd c n ls=n*Ex ls
 |[],n,_,_,_=>by simp[Jd,Ex]
 |l::r,n,d,h,hle=>by
  have e:=h l (List.mem_cons_self ..);have a:∀x∈r,sized x:=fun x f=>h x (List.mem_cons_of_mem _ f);have g:=I3 a;have h0:0≤n*BW l:=Int.mul_nonneg d (by have:=e.1;omega);rw[Ex,←Int.mul_assoc] at hle;rw[Jd,Ex,←Int.mul_assoc];have h3:(n*BW l)*1≤n*BW l*Ex r:=Int.mul_le_mul_of_nonneg_left g h0;rw[Int.min_eq_left (by omega),OW b _ h0 a hle]
theorem Sv(y:Ao)(g:y.Ac.length≤4)(a:∀l∈y.Ac,sized l∧0≤l.Ar∧l.AD≤9){K:Nat}(hK:2000≤K):∀(k m i:Nat) (n:Int),y.Ac.length=i+k→k<m→0≤n→n≤3000→
  D4 K y m (i:Int) n=some (Jd 1001 n (y.Ac.drop i)):=by
 intro k
 induction k with
 |zero=>
  intro m i n h hm h0 h1;cases m with
  |zero=>omega
  |succ m=>rw[D4.eq_2,cf (df (by omega)),List.drop_eq_nil_of_le (by omega)];rfl
 |succ k ih=>
  intro m i n h hm h0 h1;cases m with
  |zero=>omega
  |succ m=>
   have hi:i<y.Ac.length:=by omega
   obtain⟨⟨s1,s2⟩,b,c⟩:=a y.Ac[i] (List.getElem_mem hi);have d:1≤BW y.Ac[i]∧BW y.Ac[i]≤10:=⟨s1,s2⟩;have e:0≤n*BW y.Ac[i]:=Int.mul_nonneg h0 (by omega);have f:n*BW y.Ac[i]≤3000*10:=Int.mul_le_mul h1 s2 (by omega) (by omega);rw[D4.eq_2,ct (dt (by omega)),Ds hi,bd (Qq K _ b (by unfold BW at s1;omega) c),BL (by omega) (by omega),bd (TZ (by omega) _ _),BL (by omega) (by omega),DF];rw[ih m (i+1) _ (by omega) (by omega) (by omega) (by omega),List.drop_eq_getElem_cons hi];rfl
theorem T0(y:Ao)(g:y.Ac.length≤4)(a:∀l∈y.Ac,sized l∧0≤l.Ar∧l.AD≤9){K:Nat}:∀(k m i:Nat) (n:Int),y.Ac.length=i+k→k<m→0≤n→n≤3000→
  DN K y m n (i:Int)=some (Jd 3000 n (y.Ac.drop i)):=by
 intro k
 induction k with
 |zero=>
  intro m i n h hm h0 h1;cases m with
  |zero=>omega
  |succ m=>rw[DN.eq_2,cf (df (by omega)),List.drop_eq_nil_of_le (by omega)];rfl
 |succ k ih=>
  intro m i n h hm h0 h1;cases m with
  |zero=>omega
  |succ m=>
   have hi:i<y.Ac.length:=by omega
   obtain⟨⟨s1,s2⟩,b,c⟩:=a y.Ac[i] (List.getElem_mem hi);have d:1≤BW y.Ac[i]∧BW y.Ac[i]≤10:=⟨s1,s2⟩;have e:0≤n*BW y.Ac[i]:=Int.mul_nonneg h0 (by omega);have f:n*BW y.Ac[i]≤3000*10:=Int.mul_le_mul h1 s2 (by omega) (by omega);rw[DN.eq_2,ct (dt (by omega)),Ds hi,bd (Qr K _ b (by unfold BW at s1;omega) c),BL (by omega) (by omega),BL (by omega) (by omega),DF,Int.min_comm];rw[ih m (i+1) _ (by omega) (by omega) (by omega) (by omega),List.drop_eq_getElem_cons hi];rfl
theorem MP{α:Type}:∀(l:List α) (n:Int),0≤n→n+l.length≤100000→run (fun(st:Int) (_:α)=>(i64 (st+1)).bind fun _=>some (true,st+1)) l n=some (true,n+l.length)
 |[],n,_,_=>by simp[run]
 |x::l,n,h0,h1=>by
  simp only[List.length_cons] at h1⊢;rw[run,BL (by omega) (by omega)];show run _ l (n+1)=_;rw[MP l (n+1) (by omega) (by omega)]
  congr 2;omega
theorem KE(y:Ao)(h:days y≤10):(Bn y).length≤1024:=by
 have h1:=IK _ h;have:(Bn y).length≤((List.range (2^days y)).map (wl (days y))).length:=List.length_filter_le ..;simp at this;omega
theorem MQ{K:Nat}(y:Ao):∀(l:List AY),run (fun(st:Unit) (x:AY)=>(E3 K y x).bind fun r=>some (r,())) l ()=some (l.all (F9 y),())
 |[]=>rfl
 |x::l=>by
  rw[run,U8];show cond (F9 y x) (run _ l ()) (some (false,()))=_;rw[MQ y l,List.all_cons];cases F9 y x<;>rfl
theorem Ir{K:Nat}(hK:2000≤K)(y:Ao):DA K y=some (check y):=by
 unfold DA check
 by_cases h1:9<y.Aj
 ·rw[ct (dt h1),if_pos (.inl h1)]
 rw[cf (df h1)]
 by_cases g:2<y.Ah
 ·rw[ct (dt g),if_pos (.inr (.inl g))]
 rw[cf (df g)]
 by_cases h3:4<(y.Ac.length:Int)
 ·rw[ct (dt h3),if_pos (.inr (.inr h3))]
 rw[cf (df h3),if_neg (by omega)]
 by_cases b:y.Aj<0
 ·rw[ct (dt b),if_pos (.inl b)]
 rw[cf (df b)]
 by_cases d:y.Ah<1
 ·rw[ct (dt d),if_pos (.inr (.inl d))]
 rw[cf (df d),BL (by omega) (by omega),bd (Hl ..)];cases p:FK y.Am 0 (y.Aj+1) with
 |false=>rw[nf,if_pos (.inr (.inr (.inl rfl)))]
 |true=>
  rw[nt,BL (by omega) (by omega),bd (Hl ..)];cases q:FK y.Ax 0 (y.Aj+1) with
  |false=>rw[nf,if_pos (.inr (.inr (.inr (.inl rfl))))]
  |true=>
   rw[nt,Qn _ _ _ (by omega) (by omega),bd (MQ y y.Ac)];cases m:y.Ac.all (F9 y) with
   |false=>rw[nf,if_pos (.inr (.inr (.inr (.inr rfl))))]
   |true=>
    rw[nt,if_neg (by simp[b,d])];have n:days y≤10:=by unfold days;omega
    have hw:=KE y n;have j:∀l∈y.Ac,sized l∧0≤l.Ar∧l.AD≤9:=fun l i=>by
     have k:=List.all_eq_true.1 m l i;have:=H7.1 k;exact⟨Lv (by omega) k,this.1,by omega⟩
    have o:Dz K (fun(st:Int) (x:List Bool)=>E4 st x) y (0:Int)=some ((Bn y).length:Int):=by
     rw[LZ _ y (by omega) (by omega) hK];show(run (fun(st:Int) (_:List Bool)=>(i64 (st+1)).bind fun _=>some (true,st+1)) (Bn y) 0).bind _=_;rw[MP _ 0 (by omega) (by omega)];simp
    have a:=Sv y (by omega) j hK y.Ac.length K 0 ((Bn y).length:Int) (by omega) (by omega) (by omega) (by omega);rw[Int.natCast_zero,List.drop_zero] at a;rw[bd o,bd a];have f:=Mm (c:=1001) (by omega) ((Bn y).length:Int) (by omega) fun l i=>(j l i).1;unfold FT
    by_cases e:1000<((Bn y).length:Int)*Ex y.Ac
    ·rw[ct (dt (f.2 e)),if_pos e]
    ·rw[cf (df fun h=>e (f.1 h)),if_neg e]
end Go.Proofs.YtkljfdkmjdjpfaaGreat
end
section
namespace Go.Proofs.YtkljfdkmjdjpfaaGreat
def EH:List AY→List (List Int)
 |[]=>[[]]
 |l::r=>(List.range (BW l).toNat).flatMap fun(n:Nat)=>(EH r).map fun c=>(l.Ar+(n:Int))::c
def B0(y:Ao):List AT:=(Bn y).flatMap fun w=>(EH y.Ac).map fun c=>⟨c,w⟩
section
variable{σ:Type}{K:Nat}(cb:σ→AT→Option (Bool×σ))(y:Ao)(w:List Bool)
def Tr (k i:Nat):Prop:=∀(c:List Int) (st:σ),c.length=y.Ac.length→
 (BU K cb k (i:Int) c w y st).map (fun z=>(z.1,z.2.2))=run (fun s d=>cb s ⟨c.take i++d,w⟩) (EH (y.Ac.drop i)) st∧
 ∀z,BU K cb k (i:Int) c w y st=some z→z.2.1.length=y.Ac.length∧z.2.1.take i=c.take i
def Rm{α β:Type}:(Bool×α×β)⊕(α×β)→Bool×β
 |.inl x=>(false,x.2.2)
 |.inr x=>(true,x.2)
def T1{α β:Type}:(Bool×α×β)⊕(α×β)→α
 |.inl x=>x.2.1
 |.inr x=>x.1
theorem Rn(k i:Nat)(hi:i<y.Ac.length)(aJ:y.Ac.length≤4)(aB:∀l∈y.Ac,sized l∧0≤l.Ar∧l.AD≤9)(ih:Tr (K:=K) cb y w k (i+1)):
  ∀(n m j:Nat) (c:List Int) (st:σ),(BW y.Ac[i]).toNat=j+n→n<m→c.length=y.Ac.length→
  (Cc (BU K cb k) (i:Int) w y (BW y.Ac[i]) m (j:Int) c st).map Rm=run (fun s d=>cb s ⟨c.take i++d,w⟩) ((List.range' j n).flatMap fun(q:Nat)=>(EH (y.Ac.drop (i+1))).map fun d=>(y.Ac[i].Ar+(q:Int))::d) st∧
  ∀z,Cc (BU K cb k) (i:Int) w y (BW y.Ac[i]) m (j:Int) c st=some z→(T1 z).length=y.Ac.length∧(T1 z).take i=c.take i∧(∀x,z=.inl x→x.1=false):=by
 obtain⟨⟨s1,s2⟩,aK,aL⟩:=aB y.Ac[i] (List.getElem_mem hi);have aH:1≤BW y.Ac[i]∧BW y.Ac[i]≤10:=⟨s1,s2⟩;intro n
 induction n with
 |zero=>
  intro m j c st h hm o;cases m with
  |zero=>omega
  |succ m=>
   rw[Cc.eq_2,cf (df (by omega))];exact⟨rfl,fun z b=>by cases b;exact⟨o,rfl,fun x p=>by cases p⟩⟩
 |succ n u=>
  intro m j c st h hm o;cases m with
  |zero=>omega
  |succ m=>
   have f:i<c.length:=by omega
   have aI:y.Ac[i].Ar≤9:=by unfold BW at s1;omega
   rw[Cc.eq_2,ct (dt (by omega)),Ds hi,BL (by omega) (by omega),Ds f,BL (by omega) (by omega),DF i,Int.toNat_natCast];have v:(c.set i (y.Ac[i].Ar+(j:Int))).length=y.Ac.length:=by rw[List.length_set];exact o
   have g:(c.set i (y.Ac[i].Ar+(j:Int))).take (i+1)=c.take i++[y.Ac[i].Ar+(j:Int)]:=by
    rw[List.take_add_one,List.getElem?_set_self f,List.take_set_of_le (Nat.le_refl _)];rfl
   obtain⟨t,aC⟩:=ih _ st v;rw[g] at t;rw[List.range'_succ,List.flatMap_cons,HC,run_map];have aD:run (fun s d=>cb s ⟨c.take i++[y.Ac[i].Ar+(j:Int)]++d,w⟩) (EH (y.Ac.drop (i+1))) st=run (fun s d=>cb s ⟨c.take i++(y.Ac[i].Ar+(j:Int))::d,w⟩) (EH (y.Ac.drop (i+1))) st:=by
    congr 1;funext s d;rw[List.append_assoc];rfl
   rw[aD] at t;rw[←t];cases aE:BU K cb k ((i+1:Nat):Int) (c.set i (y.Ac[i].Ar+(j:Int))) w y st with
   |none=>exact⟨rfl,fun z b=>by cases b⟩
   |some r=>
    obtain⟨h1,aF⟩:=aC r aE;have h3:r.2.1.take i=c.take i:=by
     have:=congrArg (List.take i) aF;rw[List.take_take,Nat.min_eq_left (by omega),g,List.take_append_of_le_length (by rw[List.length_take];omega),List.take_take,Nat.min_self] at this;exact this
    obtain⟨aG,rc,e⟩:=r;cases aG with
    |false=>
     refine⟨rfl,fun z b=>?_⟩;have aA:some (Sum.inl (false,rc,e))=some z:=b;cases aA;exact⟨h1,h3,fun x p=>by cases p;rfl⟩
    |true=>
     have key:(Option.bind (some (true,rc,e)) fun a=>cond (!a.1) (some (Sum.inl (false,a.2.1,a.2.2))) ((i64 ((j:Int)+1)).bind fun _=>Cc (BU K cb k) (i:Int) w y (BW y.Ac[i]) m ((j:Int)+1) a.2.1 a.2.2))=Cc (BU K cb k) (i:Int) w y (BW y.Ac[i]) m ((j+1:Nat):Int) rc e:=by
      rw[Option.bind_some,nt,BL (by omega) (by omega),DF j]
     have:=u m (j+1) rc e (by omega) (by omega) h1;rw[h3] at this;rw[key];exact this
theorem PS(p:y.Ac.length≤4)(g:∀l∈y.Ac,sized l∧0≤l.Ar∧l.AD≤9)(hK:2000≤K):∀(n k i:Nat),y.Ac.length=i+n→n<k→Tr (K:=K) cb y w k i:=by
 intro n
 induction n with
 |zero=>
  intro k i h q c st f;cases k with
  |zero=>omega
  |succ k=>
   rw[BU.eq_2,ct (by rw[f,h];simp),List.drop_eq_nil_of_le (by omega)];have ht:c.take i=c:=List.take_of_length_le (by omega);rw[ht];simp only[EH,run,List.append_nil];cases cb st ⟨c,w⟩ with
   |none=>exact⟨rfl,fun z a=>by cases a⟩
   |some r=>
    obtain⟨b,s⟩:=r;refine⟨by cases b<;>rfl,fun z a=>?_⟩;have e:some (b,c,s)=some z:=a;cases e;exact⟨f,ht⟩
 |succ n ih=>
  intro k i h q c st f;cases k with
  |zero=>omega
  |succ k=>
   have hi:i<y.Ac.length:=by omega
   obtain⟨⟨s1,s2⟩,t,u⟩:=g y.Ac[i] (List.getElem_mem hi);rw[BU.eq_2,cf (by rw[f];simp;omega),Ds hi,bd (Qq K _ t (by unfold BW at s1;omega) u)];obtain⟨j,m⟩:=Rn cb y w k i hi p g (ih k (i+1) (by omega) (by omega)) (BW y.Ac[i]).toNat K 0 c st (by omega) (by omega) f;rw[Int.natCast_zero] at j m;rw[List.drop_eq_getElem_cons hi,EH,List.range_eq_range',←j];cases v:Cc (BU K cb k) (i:Int) w y (BW y.Ac[i]) K 0 c st with
   |none=>exact⟨rfl,fun z a=>by cases a⟩
   |some r=>
    obtain⟨h1,o,h3⟩:=m r v;cases r with
    |inl x=>
     obtain⟨b,d,s⟩:=x;obtain rfl:=h3 _ rfl;refine⟨rfl,fun z a=>?_⟩;have e:some (false,d,s)=some z:=a;cases e;exact⟨h1,o⟩
    |inr x=>
     obtain⟨d,s⟩:=x;refine⟨rfl,fun z a=>?_⟩;have e:some (true,d,s)=some z:=a;cases e;exact⟨h1,o⟩
end
theorem MR{σ:Type}{K:Nat}(cb:σ→AT→Option (Bool×σ))(y:Ao)(e:y.Ac.length≤4)(f:∀l∈y.Ac,sized l∧0≤l.Ar∧l.AD≤9)(hK:2000≤K):∀(ws:List (List Bool)) (c:List Int) (st:σ),c.length=y.Ac.length→
  (run (fun(st:(List Int)×σ×Bool) (x:(List Bool))=>cond st.2.2 none (Dp cb K y st.1 st.2.1 x)) ws (c,st,false)).bind (fun a=>cond (a.2.2.2) (some (a.2.2.1)) (some (a.2.2.1)))=
  (run cb (ws.flatMap fun w=>(EH y.Ac).map fun c=>(⟨c,w⟩:AT)) st).bind fun r=>some r.2
 |[],c,st,_=>rfl
 |w::ws,c,st,i=>by
  obtain⟨g,h⟩:=PS cb y w e f hK y.Ac.length K 0 (by omega) (by omega) c st i;rw[Int.natCast_zero,List.drop_zero,List.take_zero] at g;rw[Int.natCast_zero] at h;rw[List.flatMap_cons,HC,run_map];have j:run (fun s d=>cb s ⟨[]++d,w⟩) (EH y.Ac) st=run (fun s d=>cb s (⟨d,w⟩:AT)) (EH y.Ac) st:=rfl;rw[←j,←g,run];show(Option.bind (Dp cb K y c st w) _:Option _).bind _=_;unfold Dp;cases k:BU K cb K 0 c w y st with
  |none=>rfl
  |some r=>
   obtain⟨h1,m⟩:=h r k;obtain⟨b,d,s⟩:=r;cases b with
   |false=>rfl
   |true=>
    show(run _ ws (d,s,false)).bind _=(run cb _ s).bind _;exact MR cb y e f hK ws d s h1
theorem Ro{σ:Type}{K:Nat}(cb:σ→AT→Option (Bool×σ))(y:Ao)(h0:0≤y.Aj)(h9:y.Aj≤9)(a:y.Ac.length≤4)(b:∀l∈y.Ac,sized l∧0≤l.Ar∧l.AD≤9)(hK:2000≤K)(st:σ):
  E5 K cb y st=(run cb (B0 y) st).bind fun r=>some r.2:=by
 unfold E5;rw[NI (by omega) (by omega) (by omega),LZ _ y h0 h9 hK,Option.bind_assoc];exact MR cb y a b hK (Bn y) (List.replicate (y.Ac.length:Int).toNat (0:Int)) st (by rw[List.length_replicate];omega)
end Go.Proofs.YtkljfdkmjdjpfaaGreat
end
section
namespace Go.Proofs.YtkljfdkmjdjpfaaGreat
def HD:AY:=⟨0,0,0,0,0⟩
def Ec(y:Ao)(i:Int):AY:=y.Ac.getD i.toNat HD
def BV(c:List Int)(i:Int):Int:=c.getD i.toNat 0
def Em (l:AY) (d0:Int):List Bool→Int→Int→Int→Au
 |[],_,_,_=>⟨d0,-1,false⟩
 |true::ws,d,De,run=>cond (De==l.AQ) ⟨d0,d,De==l.AQ⟩ (cond (run+1==l.B9) ⟨d0,d,De==l.AQ⟩ (Em l d0 ws (d+1) De (run+1)))
 |false::ws,d,De,run=>cond (De+1==l.AQ) ⟨d0,d,De+1==l.AQ⟩ (cond ((0:Int)==l.B9) ⟨d0,d,De+1==l.AQ⟩ (Em l d0 ws (d+1) (De+1) 0))
def Cf(y:Ao)(w:List Bool)(l:AY)(d:Int):Au:=if y.Aj<d then ⟨-1,-1,false⟩ else Em l d (w.drop d.toNat) d 0 0
def wk(y:Ao)(w:List Bool)(m:List (List Int×Au)):CD:=⟨y.Aj,y.Ah,y.Am,y.Ax,y.Ac,w,m⟩
theorem U9(y:Ao)(w:List Bool)(mm:List (List Int×Au))(p:HB)(l:AY)(h9:y.Aj≤9)(hw:(w.length:Int)=y.Aj+1)(b0 f:Int)(g:Bool):∀(k m d:Nat) (De r:Int),y.Aj+1=d+k→k<m→0≤De→De≤d→0≤r→r≤d→
  (DX (wk y w mm) p l m De r (d:Int) b0 f g).bind (fun z=>Sum.elim (fun a=>some ((⟨a.1,a.2.1,a.2.2⟩:Au))) (fun a=>some ((⟨p.day,(-1),false⟩:Au))) z)=some (Em l p.day (w.drop d) (d:Int) De r):=by
 intro k
 induction k with
 |zero=>
  intro m d De r h hm h0 h1 i h3;cases m with
  |zero=>omega
  |succ m=>
   rw[DX.eq_2,cf (df (by show¬(d:Int)≤y.Aj;omega)),List.drop_eq_nil_of_le (by omega)];rfl
 |succ k ih=>
  intro m d De r h hm h0 h1 i h3;cases m with
  |zero=>omega
  |succ m=>
   have b:d<w.length:=by omega
   have c:d<(wk y w mm).Dd.length:=b;rw[DX.eq_2,ct (dt (by show(d:Int)≤y.Aj;omega)),Ds c,List.drop_eq_getElem_cons b];have e:(wk y w mm).Dd[d]=w[d]:=rfl;rw[e];cases o:w[d] with
   |true=>
    rw[ct rfl,BL (by omega) (by omega),Em];cases j:(De==l.AQ) with
    |true=>rw[ct rfl,ct rfl];rfl
    |false=>
     rw[cf rfl,cf rfl];cases n:(r+1==l.B9) with
     |true=>rw[ct rfl,ct rfl];rfl
     |false=>
      rw[cf rfl,cf rfl,BL (by omega) (by omega),DF];exact ih m (d+1) De (r+1) (by omega) (by omega) h0 (by omega) (by omega) (by omega)
   |false=>
    rw[cf rfl,BL (by omega) (by omega),Em];cases j:(De+1==l.AQ) with
    |true=>rw[ct rfl,ct rfl];rfl
    |false=>
     rw[cf rfl,cf rfl];cases n:((0:Int)==l.B9) with
     |true=>rw[ct rfl,ct rfl];rfl
     |false=>
      rw[cf rfl,cf rfl,BL (by omega) (by omega),DF];exact ih m (d+1) (De+1) 0 (by omega) (by omega) (by omega) (by omega) (by omega) (by omega)
theorem Va{K:Nat}(y:Ao)(w:List Bool)(mm:List (List Int×Au))(i d:Int)(h9:y.Aj≤9)(hw:(w.length:Int)=y.Aj+1)(a:0≤i)(hi:i<(y.Ac.length:Int))(c:0≤d)(hK:2000≤K):
  FJ K (wk y w mm) ⟨i,d⟩=some (Cf y w (Ec y i) d):=by
 unfold FJ Cf;show cond (decide (y.Aj<d)) _ ((idx y.Ac i).bind _)=_
 by_cases h:y.Aj<d
 ·rw[ct (dt h),if_pos h]
 rw[cf (df h),if_neg h];obtain⟨i,rfl⟩:=Int.eq_ofNat_of_zero_le a;obtain⟨d,rfl⟩:=Int.eq_ofNat_of_zero_le c;have b:i<y.Ac.length:=by omega
 rw[Ds b];have e:y.Ac[i]=Ec y (i:Int):=by
  show y.Ac[i]=y.Ac.getD ((i:Int)).toNat HD;rw[Int.toNat_natCast,List.getD_eq_getElem?_getD,List.getElem?_eq_getElem (by omega)];rfl
 rw[e,Int.toNat_natCast];exact U9 y w mm ⟨(i:Int),(d:Int)⟩ _ h9 hw 0 0 false (y.Aj+1-d).toNat K d 0 0 (by omega) (by omega) (by omega) (by omega) (by omega) (by omega)
def GD (y:Ao) (w:List Bool) (m:List (List Int×Au)):Prop:=∀(i d:Int) (s:Au),BG m [i,d]=some s→s=Cf y w (Ec y i) d
theorem NK(y:Ao)(w:List Bool):GD y w []:=fun i d s h=>by cases h
theorem T3{K:Nat}(y:Ao)(w:List Bool)(mm:List (List Int×Au))(i d:Int)(h9:y.Aj≤9)(hw:(w.length:Int)=y.Aj+1)(e:0≤i)(hi:i<(y.Ac.length:Int))(j:0≤d)(hK:2000≤K)(hm:GD y w mm):
  ∃c,Fq K (wk y w mm) ⟨i,d⟩=some (Cf y w (Ec y i) d,c)∧GD y w c:=by
 unfold Fq;show∃c,cond (!(BG mm [i,d]).isSome) ((FJ K (wk y w mm) ⟨i,d⟩).bind _) _=_∧_;cases f:BG mm [i,d] with
 |none=>
  rw[bd (Va y w mm i d h9 hw e hi j hK)];refine⟨_,rfl,fun i2 d2 s h=>?_⟩;have a:BG (Hy mm [i,d] (Cf y w (Ec y i) d)) [i2,d2]=some s:=h;rw[OC] at a;split at a
  ·rename_i he
   have b:=List.cons.inj he;have g:=List.cons.inj b.2;rw[b.1,g.1];exact(Option.some.inj a).symm
  ·exact hm i2 d2 s a
 |some s=>
  refine⟨mm,?_,hm⟩;show some ((BG mm [i,d]).getD ⟨0,0,false⟩,mm)=_;rw[f,hm i d s f];rfl
def Gt (y:Ao) (w:List Bool) (c:List Int):List Int→Int→List Au→List Au
 |[],_,out=>out
 |i::r,free,out=>
  let s:=Cf y w (Ec y i) (max free (BV c i))
  Gt y w c r (cond (s.Be==-1) (y.Aj+1) (s.Be+1)) (out.set i.toNat s)
def Gu(y:Ao)(w:List Bool)(c:List Int):List (List Int)→List Au→List Au
 |[],out=>out
 |l::r,out=>Gu y w c r (Gt y w c l 0 out)
def JT:Au:=⟨0,0,false⟩
def Gv(y:Ao)(w:List Bool)(order:List (List Int))(c:List Int):List Au:=Gu y w c order (List.replicate y.Ac.length JT)
theorem HE(y:Ao)(w:List Bool)(c:List Int):∀(l:List Int) (free:Int) (out:List Au),(Gt y w c l free out).length=out.length
 |[],_,_=>rfl
 |i::r,free,out=>by rw[Gt,HE y w c r];simp
theorem KF(y:Ao)(w:List Bool)(c:List Int):∀(l:List (List Int)) (out:List Au),(Gu y w c l out).length=out.length
 |[],_=>rfl
 |i::r,out=>by rw[Gu,KF y w c r,HE]
theorem JU(l:AY)(d0:Int):∀(ws:List Bool) (d De r:Int),0≤d→(Em l d0 ws d De r).Be=-1∨(d≤(Em l d0 ws d De r).Be∧(Em l d0 ws d De r).Be<d+ws.length)
 |[],d,De,r,_=>.inl rfl
 |true::ws,d,De,r,h=>by
  rw[Em];cases (De==l.AQ) with
  |true=>right;simp;omega
  |false=>
   cases (r+1==l.B9) with
   |true=>right;simp;omega
   |false=>
    rcases JU l d0 ws (d+1) De (r+1) (by omega) with h1|h1
    ·exact .inl h1
    ·right;simp only[List.length_cons,cond_false];omega
 |false::ws,d,De,r,h=>by
  rw[Em];cases (De+1==l.AQ) with
  |true=>right;simp;omega
  |false=>
   cases ((0:Int)==l.B9) with
   |true=>right;simp;omega
   |false=>
    rcases JU l d0 ws (d+1) (De+1) 0 (by omega) with h1|h1
    ·exact .inl h1
    ·right;simp only[List.length_cons,cond_false];omega
theorem MS(y:Ao)(w:List Bool)(l:AY)(d:Int)(a:0≤d)(hw:(w.length:Int)=y.Aj+1):(Cf y w l d).Be=-1∨(d≤(Cf y w l d).Be∧(Cf y w l d).Be≤y.Aj):=by
 unfold Cf
 by_cases h:y.Aj<d
 ·rw[if_pos h];exact .inl rfl
 ·rw[if_neg h];rcases JU l d (w.drop d.toNat) d 0 0 a with h1|h1
  ·exact .inl h1
  ·right;rw[List.length_drop] at h1;omega
theorem Sw{K:Nat}(y:Ao)(w:List Bool)(a:List (List Int×Au))(c l:List Int)(h0:0≤y.Aj)(h9:y.Aj≤9)(hw:(w.length:Int)=y.Aj+1)(hK:2000≤K)(x:∀i∈l,0≤i∧i<(y.Ac.length:Int))(aE:c.length=y.Ac.length)(aC:l.length≤1000):
  ∀(k m j:Nat) (free:Int) (out:List Au) (mm:List (List Int×Au)),l.length=j+k→k<m→0≤free→out.length=y.Ac.length→GD y w mm→
  ∃b,DJ K (wk y w a) c l m free (j:Int) out mm=some (Gt y w c (l.drop j) free out,b)∧GD y w b:=by
 intro k
 induction k with
 |zero=>
  intro m j free out mm h hm z f g;cases m with
  |zero=>omega
  |succ m=>rw[DJ.eq_2,cf (df (by omega)),List.drop_eq_nil_of_le (by omega)];exact⟨mm,rfl,g⟩
 |succ k ih=>
  intro m j free out mm h hm z f g;cases m with
  |zero=>omega
  |succ m=>
   have n:j<l.length:=by omega
   obtain⟨d,p⟩:=x l[j] (List.getElem_mem n);obtain⟨i,hi⟩:=Int.eq_ofNat_of_zero_le d;have e:i<c.length:=by omega
   have q:i<out.length:=by omega
   have r:c[i]=BV c l[j]:=by
    rw[hi];unfold BV;rw[Int.toNat_natCast,List.getD_eq_getElem?_getD,List.getElem?_eq_getElem e];rfl
   rw[DJ.eq_2,ct (dt (by omega)),Ds n,List.drop_eq_getElem_cons n,Gt];have s:idx c l[j]=some (BV c l[j]):=by rw[←r];rw[hi];exact idx_eq e
   rw[bd s];obtain⟨b,aA,t⟩:=T3 (K:=K) y w mm l[j] (max free (BV c l[j])) h9 hw d p (by omega) hK g;have u:Fq K (⟨(wk y w a).BH,(wk y w a).BZ,(wk y w a).Ci,(wk y w a).Cj,(wk y w a).AX,(wk y w a).Dd,mm⟩:CD) (⟨l[j],max free (BV c l[j])⟩:HB)=some (Cf y w (Ec y l[j]) (max free (BV c l[j])),b):=aA;have o:idx out l[j]=some out[i]:=by rw[hi];exact idx_eq q
   have aB:=MS y w (Ec y l[j]) (max free (BV c l[j])) (by omega) hw;have aD:-1≤(Cf y w (Ec y l[j]) (max free (BV c l[j]))).Be∧(Cf y w (Ec y l[j]) (max free (BV c l[j]))).Be≤9:=by omega
   rw[bd u,bd o];show∃v,(i64 ((Cf y w (Ec y l[j]) (max free (BV c l[j]))).Be+1)).bind _=_∧_;rw[BL (by omega) (by omega)];show∃v,cond ((Cf y w (Ec y l[j]) (max free (BV c l[j]))).Be==-1) ((i64 (y.Aj+1)).bind _) _=_∧_;cases aF:((Cf y w (Ec y l[j]) (max free (BV c l[j]))).Be==-1) with
   |true=>
    rw[ct rfl,ct rfl,BL (by omega) (by omega),BL (by omega) (by omega),DF];exact ih m (j+1) (y.Aj+1) _ b (by omega) (by omega) (by omega) (by rw[List.length_set];exact f) t
   |false=>
    rw[cf rfl,cf rfl,BL (by omega) (by omega),DF];exact ih m (j+1) ((Cf y w (Ec y l[j]) (max free (BV c l[j]))).Be+1) _ b (by omega) (by omega) (by omega) (by rw[List.length_set];exact f) t
theorem Sx{K:Nat}(y:Ao)(w:List Bool)(b:List (List Int×Au))(c:List Int)(order:List (List Int))(h0:0≤y.Aj)(h9:y.Aj≤9)(hw:(w.length:Int)=y.Aj+1)(hK:2000≤K)(p:∀l∈order,l.length≤1000∧∀i∈l,0≤i∧i<(y.Ac.length:Int))(q:c.length=y.Ac.length)(s:order.length≤1000):
  ∀(k m j:Nat) (out:List Au) (mm:List (List Int×Au)),order.length=j+k→k<m→out.length=y.Ac.length→GD y w mm→
  ∃a,Dj K (wk y w b) order c m (j:Int) out mm=some (Gu y w c (order.drop j) out,a)∧GD y w a:=by
 intro k
 induction k with
 |zero=>
  intro m j out mm h hm d e;cases m with
  |zero=>omega
  |succ m=>rw[Dj.eq_2,cf (df (by omega)),List.drop_eq_nil_of_le (by omega)];exact⟨mm,rfl,e⟩
 |succ k ih=>
  intro m j out mm h hm d e;cases m with
  |zero=>omega
  |succ m=>
   have f:j<order.length:=by omega
   obtain⟨g,n⟩:=p order[j] (List.getElem_mem f);obtain⟨a,o,r⟩:=Sw (K:=K) y w b c order[j] h0 h9 hw hK n q g order[j].length K 0 0 out mm (by omega) (by omega) (by omega) d e;rw[Int.natCast_zero,List.drop_zero] at o;rw[Dj.eq_2,ct (dt (by omega)),Ds f,List.drop_eq_getElem_cons f,Gu,bd o,BL (by omega) (by omega),DF];exact ih m (j+1) _ a (by omega) (by omega) (by rw[HE];exact d) r
theorem Qs{K:Nat}(y:Ao)(w:List Bool)(mm:List (List Int×Au))(c:List Int)(order:List (List Int))(h0:0≤y.Aj)(h9:y.Aj≤9)(k:y.Ac.length≤4)(hw:(w.length:Int)=y.Aj+1)(hK:2000≤K)(e:∀l∈order,l.length≤1000∧∀i∈l,0≤i∧i<(y.Ac.length:Int))(f:c.length=y.Ac.length)(b:order.length≤1000)(g:GD y w mm):
  ∃a,C5 K (wk y w mm) order c=some (Gv y w order c,a)∧GD y w a:=by
 unfold C5;show∃a,(I1 (y.Ac.length:Int) 24).bind _=_∧_;rw[NI (by omega) (by omega) (by omega)];obtain⟨a,d,h⟩:=Sx (K:=K) y w mm c order h0 h9 hw hK e f b order.length K 0 (List.replicate y.Ac.length JT) mm (by omega) (by omega) (by rw[List.length_replicate]) g;rw[Int.natCast_zero,List.drop_zero] at d;have j:Dj K (wk y w mm) order c K (0:Int) (List.replicate ((wk y w mm).AX.length:Int).toNat (⟨0,0,false⟩:Au)) (wk y w mm).known=some (Gu y w c order (List.replicate y.Ac.length JT),a):=by
  show Dj K (wk y w mm) order c K (0:Int) (List.replicate (y.Ac.length:Int).toNat JT) mm=_;rw[Int.toNat_natCast];exact d
 exact⟨a,bd j,h⟩
end Go.Proofs.YtkljfdkmjdjpfaaGreat
end
section
namespace Go.Proofs.YtkljfdkmjdjpfaaGreat
def iota(n:Nat):List Int:=(List.range n).map fun(i:Nat)=>(i:Int)
theorem GZ(n:Nat):(iota n).length=n:=by simp[iota]
theorem NL(n i:Nat)(h:i<n):(iota n)[i]?=some (i:Int):=by simp[iota,h]
def Dh(y:Ao)(o:List (List Int)):Bool:=((o.length:Int)==y.Ah)&&(Dc o.flatten==iota y.Ac.length)
theorem T4(o:List (List Int))(c:o.flatten.length≤100000):∀(k m i:Nat) (acc:List Int),o.length=i+k→k<m→o.length≤100000→acc++(o.drop i).flatten=o.flatten→
  DC o m acc (i:Int)=some o.flatten:=by
 intro k
 induction k with
 |zero=>
  intro m i acc h hm b a;cases m with
  |zero=>omega
  |succ m=>
   rw[DC.eq_2,cf (df (by omega))];rw[List.drop_eq_nil_of_le (by omega)] at a;rw[←a];simp
 |succ k ih=>
  intro m i acc h hm b a;cases m with
  |zero=>omega
  |succ m=>
   have hi:i<o.length:=by omega
   rw[List.drop_eq_getElem_cons hi,List.flatten_cons,←List.append_assoc] at a;have hlen:acc.length+o[i].length≤100000:=by
    have:=congrArg List.length a;rw[List.length_append,List.length_append] at this;omega
   rw[DC.eq_2,ct (dt (by omega)),Ds hi,Fv (by omega),BL (by omega) (by omega),DF];exact ih m (i+1) (acc++o[i]) (by omega) (by omega) b a
theorem Rp(y:Ao)(z:List Int)(l:y.Ac.length≤4):∀(k m i:Nat),y.Ac.length=i+k→k<m→(∀j,j<i→(Dc z).length=y.Ac.length∧(Dc z)[j]?=some (j:Int))→
  Dr y z m (i:Int)=some (cond ((Dc z==iota y.Ac.length)||decide (y.Ac.length=0)) (.inr ()) (.inl false)):=by
 intro k
 induction k with
 |zero=>
  intro m i h hm a;cases m with
  |zero=>omega
  |succ m=>
   rw[Dr.eq_2,cf (df (by omega))];have:((Dc z==iota y.Ac.length)||decide (y.Ac.length=0))=true:=by
    rw[Bool.or_eq_true];rcases Nat.eq_zero_or_pos i with h0|h0
    ·right;exact dt (by omega)
    ·left;rw[beq_iff_eq];have d:=(a 0 h0).1;apply List.ext_getElem?;intro j
     by_cases f:j<y.Ac.length
     ·rw[(a j (by omega)).2,NL _ _ f]
     ·rw[List.getElem?_eq_none (by omega),List.getElem?_eq_none (by rw[GZ];omega)]
   rw[this];rfl
 |succ k ih=>
  intro m i h hm a;cases m with
  |zero=>omega
  |succ m=>
   rw[Dr.eq_2,ct (dt (by omega))];have c:decide (y.Ac.length=0)=false:=df (by omega)
   by_cases d:(Dc z).length=y.Ac.length
   ·rw[cf (by rw[d];simp)];have hi:i<(Dc z).length:=by omega
    rw[Ds hi]
    by_cases b:(Dc z)[i]=(i:Int)
    ·rw[b,cf (by simp),BL (by omega) (by omega),DF];refine ih m (i+1) (by omega) (by omega) fun j f=>?_
     by_cases g:j=i
     ·subst g;exact⟨d,by rw[List.getElem?_eq_getElem hi,b]⟩
     ·exact a j (by omega)
    ·rw[ct (by simpa using b)];have:((Dc z==iota y.Ac.length)||decide (y.Ac.length=0))=false:=by
      rw[c,Bool.or_false,beq_eq_false_iff_ne];intro e;have:(Dc z)[i]?=(iota y.Ac.length)[i]?:=by rw[e]
      rw[List.getElem?_eq_getElem hi,NL _ _ (by omega)] at this;exact b (Option.some.inj this)
     rw[this];rfl
   ·rw[ct (by simp;omega)];have:((Dc z==iota y.Ac.length)||decide (y.Ac.length=0))=false:=by
     rw[c,Bool.or_false,beq_eq_false_iff_ne];intro e;have:=congrArg List.length e;rw[GZ] at this;omega
    rw[this];rfl
theorem KG{K:Nat}(y:Ao)(o:List (List Int))(f:y.Ac.length≤4)(hK:2000≤K)(i:o.length≤1000)(k:o.flatten.length≤1000):Ej K y o=some (Dh y o):=by
 unfold Ej;have c:=T4 o (by omega) o.length K 0 [] (by omega) (by omega) (by omega) (by simp);have d:=Rp y o.flatten f y.Ac.length K 0 (by omega) (by omega) fun j g=>absurd g (by omega);rw[Int.natCast_zero] at c d;rw[bd c,Fv (by omega),bd d];unfold Dh
 by_cases b:y.Ac.length=0
 ·rw[show((Dc o.flatten==iota y.Ac.length)||decide (y.Ac.length=0))=true by rw[Bool.or_eq_true];exact .inr (dt b)];show cond ((o.length:Int)==y.Ah) (some (((Dc o.flatten).length:Int)==(y.Ac.length:Int))) (some false)=_;have h:(((Dc o.flatten).length:Int)==(y.Ac.length:Int))=(Dc o.flatten==iota y.Ac.length):=by
   rw[b];cases e:Dc o.flatten with
   |nil=>rfl
   |cons a l=>
    have h1:(((a::l).length:Int)==((0:Nat):Int))=false:=by simp;omega
    rw[h1];rfl
  rw[h];cases ((o.length:Int)==y.Ah)<;>rfl
 ·rw[show decide (y.Ac.length=0)=false from df b,Bool.or_false];cases e:(Dc o.flatten==iota y.Ac.length) with
  |false=>show some false=_;rw[Bool.and_false]
  |true=>
   show cond ((o.length:Int)==y.Ah) (some (((Dc o.flatten).length:Int)==(y.Ac.length:Int))) (some false)=_;rw[eq_of_beq e,GZ];cases ((o.length:Int)==y.Ah)<;>simp
theorem EZ{y:Ao}{o:List (List Int)}:Dh y o=true↔(o.length:Int)=y.Ah∧o.flatten.Perm (iota y.Ac.length):=by
 unfold Dh;rw[Bool.and_eq_true,beq_iff_eq,beq_iff_eq];refine and_congr_right fun _=>⟨fun h=>?_,fun h=>?_⟩
 ·rw[←h];exact(List.mergeSort_perm _ _).symm
 ·have h1:(Dc o.flatten).Pairwise (fun a b:Int=>a≤b):=by
   have:=List.pairwise_mergeSort (le:=fun x y:Int=>decide (x≤y)) (fun a b c h1 d=>by simp at*;omega) (fun a b=>by simp;omega) o.flatten;exact this.imp fun h=>by simpa using h
  have d:(iota y.Ac.length).Pairwise (fun a b:Int=>a≤b):=by
   unfold iota;rw[List.pairwise_map];exact List.pairwise_lt_range.imp fun h=>by omega
  exact List.Perm.eq_of_pairwise (le:=fun a b:Int=>a≤b) (fun a b _ _ h e=>by omega) h1 d ((List.mergeSort_perm _ _).trans h)
theorem NM{n:Nat}{i:Int}:i∈iota n↔0≤i∧i<n:=by
 unfold iota;rw[List.mem_map];constructor
 ·rintro⟨k,a,rfl⟩;rw[List.mem_range] at a;omega
 ·rintro⟨h0,h1⟩;exact⟨i.toNat,by rw[List.mem_range];omega,by omega⟩
theorem Mn{y:Ao}{o:List (List Int)}(h:Dh y o=true):∀l∈o,l.length≤y.Ac.length∧∀i∈l,0≤i∧i<(y.Ac.length:Int):=by
 intro l a;have b:=(EZ.1 h).2;constructor
 ·have h1:=b.length_eq;rw[GZ] at h1;have:=(List.sublist_flatten_of_mem a).length_le;omega
 ·intro i hi;exact NM.1 (b.mem_iff.1 (List.mem_flatten.2 ⟨l,a,hi⟩))
def DG:List AY→List Int→Bool
 |[],[]=>true
 |l::ls,c::cs=>FK c l.Ar l.AD&&DG ls cs
 |_,_=>false
def DV(y:Ao)(t:AT):Bool:=decide ((t.Am.length:Int)=y.Aj+1)&&(G5 y t.Am&&DG y.Ac t.Comes)
theorem GO:∀{ls:List AY} {cs:List Int},DG ls cs=true→cs.length=ls.length
 |[],[],_=>rfl
 |_::ls,_::cs,h=>by
  rw[DG,Bool.and_eq_true] at h;rw[List.length_cons,List.length_cons,GO h.2]
 |[],_::_,h=>by cases h
 |_::_,[],h=>by cases h
theorem Qt(K:Nat)(y:Ao)(t:AT)(b:y.Ac.length≤4)(c:t.Comes.length=y.Ac.length):∀(k m i:Nat),y.Ac.length=i+k→k<m→
  Dq K y t m (i:Int)=some (cond (DG (y.Ac.drop i) (t.Comes.drop i)) (.inr ()) (.inl false)):=by
 intro k
 induction k with
 |zero=>
  intro m i h hm;cases m with
  |zero=>omega
  |succ m=>rw[Dq.eq_2,cf (df (by omega)),List.drop_eq_nil_of_le (by omega),List.drop_eq_nil_of_le (by omega)];rfl
 |succ k ih=>
  intro m i h hm;cases m with
  |zero=>omega
  |succ m=>
   have hi:i<y.Ac.length:=by omega
   have a:i<t.Comes.length:=by omega
   rw[Dq.eq_2,ct (dt (by omega)),Ds hi,Ds a,bd (Hl ..),List.drop_eq_getElem_cons hi,List.drop_eq_getElem_cons a,DG];cases d:FK t.Comes[i] y.Ac[i].Ar y.Ac[i].AD with
   |false=>rw[nf];rfl
   |true=>rw[nt,BL (by omega) (by omega),DF,Bool.true_and];exact ih m (i+1) (by omega) (by omega)
theorem Qu{K:Nat}(y:Ao)(t:AT)(h0:0≤y.Aj)(h9:y.Aj≤9)(b:y.Ac.length≤4)(hK:2000≤K):Fh K y t=some (DV y t):=by
 unfold Fh DV
 by_cases a:t.Comes.length=y.Ac.length
 ·rw[cf (by rw[a];simp),BL (by omega) (by omega)]
  by_cases hw:(t.Am.length:Int)=y.Aj+1
  ·rw[cf (by rw[hw];simp),bd (MO y t.Am (by omega) (by omega)),dt hw,Bool.true_and];show cond (!(G5 y t.Am)) _ _=_;cases G5 y t.Am with
   |false=>rw[nf];rfl
   |true=>
    have:=Qt K y t b a y.Ac.length K 0 (by omega) (by omega);rw[Int.natCast_zero,List.drop_zero,List.drop_zero] at this;rw[nt,bd this,Bool.true_and];cases DG y.Ac t.Comes<;>rfl
  ·rw[ct (by simpa using hw),df hw];rfl
 ·rw[ct (by simp;omega)];cases c:DG y.Ac t.Comes with
  |false=>rw[Bool.and_false,Bool.and_false]
  |true=>exact absurd (GO c) a
theorem GP{c:List Int}:∀{ls:List AY},c∈EH ls↔DG ls c=true
 |[]=>by
  cases c with
  |nil=>simp[EH,DG]
  |cons a l=>simp[EH,DG]
 |l::r=>by
  rw[EH,List.mem_flatMap];constructor
  ·rintro⟨n,b,e⟩;obtain⟨d,f,rfl⟩:=List.mem_map.1 e;rw[DG,Bool.and_eq_true];rw[List.mem_range] at b;unfold BW at b;exact⟨E9.2 (by omega),GP.1 f⟩
  ·intro h;cases c with
   |nil=>simp[DG] at h
   |cons a d=>
    rw[DG,Bool.and_eq_true] at h;have h1:=E9.1 h.1;refine⟨(a-l.Ar).toNat,?_,List.mem_map.2 ⟨d,GP.2 h.2,?_⟩⟩
    ·rw[List.mem_range];unfold BW;omega
    ·congr 1;omega
def bitsOf:List Bool→Nat
 |[]=>0
 |b::l=>(cond b 1 0)+2*bitsOf l
theorem Lj:∀(l:List Bool) (d:Nat),(bitsOf l).testBit d=l.getD d false
 |[],d=>by simp[bitsOf]
 |b::l,0=>by rw[bitsOf,Nat.testBit_zero];cases b<;>simp<;>omega
 |b::l,d+1=>by
  rw[Nat.testBit_succ,bitsOf];have:((cond b 1 0)+2*bitsOf l)/2=bitsOf l:=by cases b<;>simp<;>omega
  rw[this,Lj l d];rfl
theorem MT:∀(l:List Bool),bitsOf l<2^l.length
 |[]=>by simp[bitsOf]
 |b::l=>by
  have:=MT l;rw[bitsOf,List.length_cons,Nat.pow_succ];cases b<;>simp<;>omega
theorem Qv(l:List Bool):wl l.length (bitsOf l)=l:=by
 apply List.ext_getElem?;intro i;unfold wl;rw[List.getElem?_map]
 by_cases h:i<l.length
 ·rw[List.getElem?_range h,List.getElem?_eq_getElem h];show some ((bitsOf l).testBit i)=_;rw[Lj,List.getD_eq_getElem?_getD,List.getElem?_eq_getElem h];rfl
 ·rw[List.getElem?_eq_none (by simp;omega),List.getElem?_eq_none (by omega)];rfl
theorem Ia{y:Ao}{w:List Bool}:w∈Bn y↔w.length=days y∧G5 y w=true:=by
 unfold Bn;rw[List.mem_filter,List.mem_map];constructor
 ·rintro⟨⟨b,_,rfl⟩,h⟩;exact⟨FE _ _,h⟩
 ·rintro⟨h1,a⟩;exact⟨⟨bitsOf w,by rw[List.mem_range,←h1];exact MT w,by rw[←h1];exact Qv w⟩,a⟩
theorem Fx{y:Ao}(h0:0≤y.Aj){t:AT}:t∈B0 y↔DV y t=true:=by
 unfold B0 DV;rw[List.mem_flatMap,Bool.and_eq_true,Bool.and_eq_true,decide_eq_true_eq];constructor
 ·rintro⟨w,hw,ht⟩;obtain⟨c,b,rfl⟩:=List.mem_map.1 ht;obtain⟨h1,a⟩:=Ia.1 hw;unfold days at h1;exact⟨by show(w.length:Int)=_;omega,a,GP.1 b⟩
 ·rintro⟨h1,a,h3⟩;exact⟨t.Am,Ia.2 ⟨by unfold days;omega,a⟩,List.mem_map.2 ⟨t.Comes,GP.2 h3,rfl⟩⟩
theorem Vb(a b:List Bool)(g:a.length≤1000)(f:a.length=b.length):∀(k m i:Nat),a.length=i+k→k<m→DB a b m (i:Int)=some (cond (a.drop i==b.drop i) (.inr ()) (.inl false)):=by
 intro k
 induction k with
 |zero=>
  intro m i h hm;cases m with
  |zero=>omega
  |succ m=>rw[DB.eq_2,cf (df (by omega)),List.drop_eq_nil_of_le (by omega),List.drop_eq_nil_of_le (by omega)];rfl
 |succ k ih=>
  intro m i h hm;cases m with
  |zero=>omega
  |succ m=>
   have h1:i<a.length:=by omega
   have c:i<b.length:=by omega
   rw[DB.eq_2,ct (dt (by omega)),Ds h1,Ds c,List.drop_eq_getElem_cons h1,List.drop_eq_getElem_cons c];cases d:(a[i] !=b[i]) with
   |true=>
    rw[ct rfl];have:(a[i]::a.drop (i+1)==b[i]::b.drop (i+1))=false:=by
     rw[List.cons_beq_cons];have:(a[i]==b[i])=false:=by simpa[bne] using d
     rw[this,Bool.false_and]
    rw[this];rfl
   |false=>
    have e:a[i]=b[i]:=by simpa[bne] using d
    rw[cf rfl,BL (by omega) (by omega),DF,ih m (i+1) (by omega) (by omega),List.cons_beq_cons,e,beq_self_eq_true,Bool.true_and]
theorem Vc{K:Nat}(a b:List Bool)(c:a.length≤1000)(hK:2000≤K):EF K a b=some (a==b):=by
 unfold EF
 by_cases h:a.length=b.length
 ·have:=Vb a b c h a.length K 0 (by omega) (by omega);rw[Int.natCast_zero,List.drop_zero,List.drop_zero] at this;rw[cf (by rw[h];simp),bd this];cases (a==b)<;>rfl
 ·rw[ct (by simp;omega)];have:(a==b)=false:=by
   rw[beq_eq_false_iff_ne];intro e;exact h (by rw[e])
  rw[this]
structure EO(y:Ao):Prop where
 h0:0≤y.Aj
 h9:y.Aj≤9
 r1:1≤y.Ah
 r2:y.Ah≤2
 n4:y.Ac.length≤4
 w0:0≤y.Am
 w1:y.Am≤y.Aj+1
 u0:0≤y.Ax
 u1:y.Ax≤y.Aj+1
 Mo:∀l∈y.Ac,F9 y l=true
 many:FT y≤1000
theorem FF{y:Ao}(h:check y=0):EO y:=by
 unfold check at h;split at h
 ·cases h
 ·rename_i h1
  split at h
  ·cases h
  ·rename_i b
   split at h
   ·cases h
   ·rename_i h3
    rw[not_or,not_or] at h1;rw[not_or,not_or,not_or,not_or] at b;have hw:FK y.Am 0 (y.Aj+1)=true:=by cases a:FK y.Am 0 (y.Aj+1) with|true=>rfl|false=>exact absurd a b.2.2.1
    have c:FK y.Ax 0 (y.Aj+1)=true:=by cases a:FK y.Ax 0 (y.Aj+1) with|true=>rfl|false=>exact absurd a b.2.2.2.1
    have d:y.Ac.all (F9 y)=true:=by cases a:y.Ac.all (F9 y) with|true=>rfl|false=>exact absurd a b.2.2.2.2
    rw[E9] at hw c;exact⟨by omega,by omega,by omega,by omega,by omega,hw.1,hw.2,c.1,c.2,List.all_eq_true.1 d,by omega⟩
theorem EO.sz{y:Ao}(h:EO y):∀l∈y.Ac,sized l∧0≤l.Ar∧l.AD≤9:=fun l b=>by
 have a:=h.Mo l b;have:=H7.1 a;have:=h.h9;exact⟨Lv h.h9 a,by omega,by omega⟩
def Vd(y:Ao):Option CD→Prop
 |none=>True
 |some x=>∃w m,x=wk y w m∧(w.length:Int)=y.Aj+1∧GD y w m
theorem Qw{σ:Type}{K:Nat}(cb:σ→AT×List Au→Option (Bool×σ))(y:Ao)(hy:EO y)(o:List (List Int))(u:Dh y o=true)(hK:2000≤K):∀(d:List AT) (g:Option CD) (s:σ),(∀t∈d,DV y t=true)→Vd y g→
  (run (fun(st:(Option CD)×σ×Bool) (x:AT)=>cond st.2.2 none (DL cb K y o st.1 st.2.1 x)) d (g,s,false)).bind (fun f=>cond f.2.2.2 (some f.2.2.1) (some f.2.2.1))=(run (fun s t=>cb s (t,Gv y t.Am o t.Comes)) d s).bind fun r=>some r.2
 |[],g,s,_,_=>rfl
 |t::d,g,s,ht,aF=>by
  have h:=ht t (List.mem_cons_self ..);have z:∀x∈d,DV y x=true:=fun x aG=>ht x (List.mem_cons_of_mem _ aG);unfold DV at h;rw[Bool.and_eq_true,Bool.and_eq_true,decide_eq_true_eq] at h;obtain⟨hw,_,aH⟩:=h;have aA:=GO aH;have p:=Mn u;have aB:o.length≤1000:=by have:=(EZ.1 u).1;have:=hy.r2;omega
  have v:∀l∈o,l.length≤1000∧∀i∈l,0≤i∧i<(y.Ac.length:Int):=fun l aC=>⟨by have:=(p l aC).1;have:=hy.n4;omega,(p l aC).2⟩;rw[run,run];show(Option.bind (DL cb K y o g s t) _:Option _).bind _=_
  
  have key:∀(m:List (List Int×Au)),GD y t.Am m→∃c,GD y t.Am c∧C5 K (wk y t.Am m) o t.Comes=some (Gv y t.Am o t.Comes,c):=fun m hm=>by
   obtain⟨c,h1,aI⟩:=Qs (K:=K) y t.Am m t.Comes o hy.h0 hy.h9 hy.n4 hw hK v aA aB hm;exact⟨c,aI,h1⟩
  have fin:∀(c:List (List Int×Au)),GD y t.Am c→
    (Option.bind ((cb s (t,Gv y t.Am o t.Comes)).bind fun a=>cond (!a.1) (some (false,(some (wk y t.Am c)),a.2,true)) (some (true,(some (wk y t.Am c)),a.2,false))) fun r=>cond r.1 (run (fun(st:(Option CD)×σ×Bool) (x:AT)=>cond st.2.2 none (DL cb K y o st.1 st.2.1 x)) d r.2) (some (false,r.2))).bind (fun f=>cond f.2.2.2 (some f.2.2.1) (some f.2.2.1))=
    (Option.bind (cb s (t,Gv y t.Am o t.Comes)) fun r=>cond r.1 (run (fun s t=>cb s (t,Gv y t.Am o t.Comes)) d r.2) (some (false,r.2))).bind fun r=>some r.2:=fun c j=>by
   cases cb s (t,Gv y t.Am o t.Comes) with
   |none=>rfl
   |some r=>
    obtain⟨b,s2⟩:=r;cases b with
    |false=>rfl
    |true=>exact Qw cb y hy o u hK d (some (wk y t.Am c)) s2 z ⟨t.Am,c,rfl,hw,j⟩
  unfold DL;obtain⟨k,q,aJ⟩:=key [] (NK _ _);have aM:=hy.h9;have e:(Fz (((0+t.Am.length:Nat):Int)≤140737488355328/1)).bind (fun _=>(C5 K (⟨y.Aj,y.Ah,y.Am,y.Ax,y.Ac,t.Am,[]⟩:CD) o t.Comes).bind fun n=>(cb s (t,n.1)).bind fun a=>cond (!a.1) (some (false,(some (⟨y.Aj,y.Ah,y.Am,y.Ax,y.Ac,t.Am,n.2⟩:CD)),a.2,true)) (some (true,(some (⟨y.Aj,y.Ah,y.Am,y.Ax,y.Ac,t.Am,n.2⟩:CD)),a.2,false)))=
    (cb s (t,Gv y t.Am o t.Comes)).bind fun a=>cond (!a.1) (some (false,(some (wk y t.Am k)),a.2,true)) (some (true,(some (wk y t.Am k)),a.2,false)):=by
   have aD:C5 K (⟨y.Aj,y.Ah,y.Am,y.Ax,y.Ac,t.Am,[]⟩:CD) o t.Comes=some (Gv y t.Am o t.Comes,k):=aJ;rw[Fv (by omega),bd aD];rfl
  cases g with
  |none=>
   show(Option.bind ((Fz _).bind _) _:Option _).bind _=_;rw[e];exact fin k q
  |some x=>
   obtain⟨w,m,rfl,aN,aE⟩:=aF;show(Option.bind ((EF K w t.Am).bind _) _:Option _).bind _=_;rw[bd (Vc w t.Am (by omega) hK)];cases aK:(w==t.Am) with
   |false=>
    rw[nf,e];exact fin k q
   |true=>
    obtain rfl:=eq_of_beq aK;obtain⟨c,j,aL⟩:=key m aE;rw[nt,bd aL];exact fin c j
theorem Qx{σ:Type}{K:Nat}(cb:σ→AT×List Au→Option (Bool×σ))(y:Ao)(hy:EO y)(o:List (List Int))(a:Dh y o=true)(hK:2000≤K)(s:σ):
  Fs K cb y o s=(run (fun s t=>cb s (t,Gv y t.Am o t.Comes)) (B0 y) s).bind fun r=>some r.2:=by
 unfold Fs;rw[Ro _ y hy.h0 hy.h9 hy.n4 hy.sz hK,Option.bind_assoc];exact Qw cb y hy o a hK (B0 y) none s (fun t ht=>(Fx hy.h0).1 ht) trivial
end Go.Proofs.YtkljfdkmjdjpfaaGreat
end
section
namespace Go.Proofs.YtkljfdkmjdjpfaaGreat
def D9(l:AY)(s:Au):Bool:=s.AQ&&decide (s.Be≤l.Ck)
theorem Mp(K:Nat)(l:AY)(s:Au):Dg K l s=some (D9 l s):=by unfold Dg D9;cases s.AQ<;>rfl
theorem OX(K:Nat)(l:AY)(s:Au):Ep K l s=some (!D9 l s):=by unfold Ep;rw[bd (Mp ..)]
def He (p:AY→Au→Bool):List AY→List Au→Nat
 |l::ls,s::ss=>(cond (p l s) 1 0)+He p ls ss
 |_,_=>0
def DT(l:AY)(s:Au):Bool:= !D9 l s
def Ed(y:Ao)(ss:List Au):Nat:=He DT y.Ac ss
theorem Mq(p:AY→Au→Bool):∀(ls:List AY) (ss:List Au),He p ls ss≤ls.length
 |l::ls,s::ss=>by
  have:=Mq p ls ss;rw[He,List.length_cons];cases p l s<;>simp<;>omega
 |[],_=>by simp[He]
 |_::_,[]=>by simp[He]
theorem T5{K:Nat}(y:Ao)(ss:List Au)(c:y.Ac.length≤4)(d:ss.length=y.Ac.length):∀(k m i:Nat) (a:Int),ss.length=i+k→k<m→0≤a→a≤i→
  DK K y ss m a (i:Int)=some (a+(He DT (y.Ac.drop i) (ss.drop i):Nat)):=by
 intro k
 induction k with
 |zero=>
  intro m i a h hm h0 h1;cases m with
  |zero=>omega
  |succ m=>
   rw[DK.eq_2,cf (df (by omega)),List.drop_eq_nil_of_le («as»:=y.Ac) (by omega),He]
   ·simp
   ·intro _ _ _ _ h;cases h
 |succ k ih=>
  intro m i a h hm h0 h1;cases m with
  |zero=>omega
  |succ m=>
   have hi:i<ss.length:=by omega
   have b:i<y.Ac.length:=by omega
   rw[DK.eq_2,ct (dt (by omega)),Ds hi,Ds b,bd (OX ..),List.drop_eq_getElem_cons hi,List.drop_eq_getElem_cons b,He];show cond (DT y.Ac[i] ss[i]) _ _=_;cases e:DT y.Ac[i] ss[i] with
   |true=>
    rw[ct rfl,BL (by omega) (by omega),BL (by omega) (by omega),DF,ih m (i+1) (a+1) (by omega) (by omega) (by omega) (by omega)]
    congr 1
    show a+1+_=a+((1+He DT _ _:Nat):Int);omega
   |false=>
    rw[cf rfl,BL (by omega) (by omega),DF,ih m (i+1) a (by omega) (by omega) (by omega) (by omega)]
    congr 1
    show a+_=a+((0+He DT _ _:Nat):Int);omega
theorem Qy{K:Nat}(y:Ao)(ss:List Au)(a:y.Ac.length≤4)(b:ss.length=y.Ac.length)(hK:2000≤K):ES K y ss=some (Ed y ss:Int):=by
 unfold ES;have:=T5 (K:=K) y ss a b ss.length K 0 0 (by omega) (by omega) (by omega) (by omega);rw[Int.natCast_zero,List.drop_zero,List.drop_zero] at this;rw[bd this];simp[Ed]
theorem GF(y:Ao)(w:List Bool)(o:List (List Int))(c:List Int):(Gv y w o c).length=y.Ac.length:=by unfold Gv;rw[KF,List.length_replicate]
def B4 (y:Ao) (o:List (List Int)) (t:AT):List Au:=Gv y t.Am o t.Comes
theorem Qz{K:Nat}(y:Ao)(o:List (List Int))(t:AT)(hK:2000≤K)(c:o.length≤1000)(f:o.flatten.length≤1000):
  Ef K y o t=some (if check y≠0 then ([],check y) else if Dh y o=false∨DV y t=false then ([],2) else (B4 y o t,0)):=by
 unfold Ef;rw[bd (Ir hK y)]
 by_cases h:check y=0
 ·rw[h,cf (by decide),if_neg (by simp)];have hy:=FF h;rw[bd (KG y o hy.n4 hK c f)];cases g:Dh y o with
  |false=>rw[nf,if_pos (.inl rfl)]
  |true=>
   rw[nt,bd (Qu y t hy.h0 hy.h9 hy.n4 hK)];cases ht:DV y t with
   |false=>rw[nf,if_pos (.inr rfl)]
   |true=>
    rw[nt,if_neg (by simp)];have a:=ht;unfold DV at a;rw[Bool.and_eq_true,Bool.and_eq_true,decide_eq_true_eq] at a;have b:=Mn g;obtain⟨i,e,_⟩:=Qs (K:=K) y t.Am [] t.Comes o hy.h0 hy.h9 hy.n4 a.1 hK (fun l d=>⟨by have:=(b l d).1;have:=hy.n4;omega,(b l d).2⟩) (GO a.2.2) c (NK _ _);have j:C5 K (⟨y.Aj,y.Ah,y.Am,y.Ax,y.Ac,t.Am,[]⟩:CD) o t.Comes=some (Gv y t.Am o t.Comes,i):=e;rw[bd j];rfl
 ·rw[ct (by simpa using h),if_pos h]
def Ik (y:Ao) (o:List (List Int)):List AT→Int×AT→Int×AT
 |[],s=>s
 |t::a,s=>
  let s2:=if s.1<(Ed y (B4 y o t):Int) then ((Ed y (B4 y o t):Int),t) else s
  cond (decide (s2.1<(y.Ac.length:Int))) (Ik y o a s2) s2
def Db(y:Ao)(o:List (List Int)):Int×AT:=Ik y o (B0 y) (-1,⟨[],[]⟩)
theorem NN{K:Nat}(y:Ao)(hy:EO y)(o:List (List Int))(hK:2000≤K):∀(a:List AT) (s:Int×AT),(∀t∈a,DV y t=true)→
  (run (fun(st:Int×AT) t=>(EX K t (B4 y o t) y st.1 st.2).bind fun r=>some (r.1,(r.2.1,r.2.2))) a s).bind (fun r=>some r.2)=some (Ik y o a s)
 |[],s,_=>rfl
 |t::a,s,ht=>by
  have b:=ht t (List.mem_cons_self ..);unfold DV at b;rw[Bool.and_eq_true,Bool.and_eq_true,decide_eq_true_eq] at b;have d:=GO b.2.2;have e:=hy.n4;have h9:=hy.h9;rw[run,Ik];unfold EX;rw[bd (Qy y (B4 y o t) hy.n4 (GF ..) hK)]
  by_cases h:s.1<(Ed y (B4 y o t):Int)
  ·rw[ct (dt h),Fv (by omega),Fv (by omega),if_pos h];show(cond (decide ((Ed y (B4 y o t):Int)<(y.Ac.length:Int))) _ _:Option (Bool×Int×AT)).bind _=some (cond (decide ((Ed y (B4 y o t):Int)<(y.Ac.length:Int))) _ _);cases decide ((Ed y (B4 y o t):Int)<(y.Ac.length:Int)) with
   |false=>rfl
   |true=>exact NN y hy o hK a _ fun x c=>ht x (List.mem_cons_of_mem _ c)
  ·rw[cf (df h),if_neg h];show(cond (decide (s.1<(y.Ac.length:Int))) _ _:Option (Bool×Int×AT)).bind _=some (cond (decide (s.1<(y.Ac.length:Int))) _ _);cases decide (s.1<(y.Ac.length:Int)) with
   |false=>rfl
   |true=>exact NN y hy o hK a s fun x c=>ht x (List.mem_cons_of_mem _ c)
theorem QA{K:Nat}(y:Ao)(hy:EO y)(o:List (List Int))(a:Dh y o=true)(hK:2000≤K):Ft K y o=some (Db y o):=by
 unfold Ft;rw[Qx _ y hy o a hK];have:=NN y hy o hK (B0 y) (-1,⟨[],[]⟩) fun t ht=>(Fx hy.h0).1 ht;exact Eq.trans (bd this) rfl
theorem QB{K:Nat}(y:Ao)(o:List (List Int))(hK:2000≤K)(a:o.length≤1000)(b:o.flatten.length≤1000):
  Gp K y o=some (if check y≠0 then (0,⟨[],[]⟩,check y) else if Dh y o=false then (0,⟨[],[]⟩,2) else ((Db y o).1,(Db y o).2,0)):=by
 unfold Gp;rw[bd (Ir hK y)]
 by_cases h:check y=0
 ·rw[h,cf (by decide),if_neg (by simp)];have hy:=FF h;rw[bd (KG y o hy.n4 hK a b)];cases c:Dh y o with
  |false=>rw[nf,if_pos rfl]
  |true=>rw[nt,if_neg (by simp),bd (QA y hy o c hK)]
 ·rw[ct (by simpa using h),if_pos h]
theorem NO{K:Nat}(y:Ao)(o:List (List Int))(n:Int)(hK:2000≤K)(a:o.length≤1000)(b:o.flatten.length≤1000):
  E8 K y o n=some (decide (check y=0)&&(Dh y o&&decide ((Db y o).1≤n))):=by
 unfold E8;rw[bd (QB y o hK a b)]
 by_cases h:check y=0
 ·rw[if_neg (by simp[h]),dt h];cases c:Dh y o with
  |false=>rw[if_pos rfl];rfl
  |true=>rw[if_neg (by simp)];rfl
 ·rw[if_pos h,df h,cf (by simpa using h)];rfl
theorem OE{K:Nat}(y:Ao)(o:List (List Int))(t:AT)(n:Int)(hK:2000≤K)(a:o.length≤1000)(b:o.flatten.length≤1000):
  Fu K y o t n=some (decide (check y=0)&&(Dh y o&&(DV y t&&decide (n≤(Ed y (B4 y o t):Int))))):=by
 unfold Fu;rw[bd (Qz y o t hK a b)]
 by_cases h:check y=0
 ·rw[if_neg (by simp[h]),dt h];cases c:Dh y o with
  |false=>rw[if_pos (.inl rfl)];rfl
  |true=>
   cases ht:DV y t with
   |false=>rw[if_pos (.inr rfl)];rfl
   |true=>
    rw[if_neg (by simp)];show(ES K y (B4 y o t)).bind _=_;rw[bd (Qy y (B4 y o t) (FF h).n4 (GF ..) hK)];rfl
 ·rw[if_pos h,df h,cf (by simpa using h)];rfl
def Hf(p:AY→Au→Bool):List AY→List Au→List Int→List Int
 |l::ls,s::ss,a::as=>(cond (p l s) (a+1) a)::Hf p ls ss as
 |_,_,as=>as
theorem R7(x:BN)(k:Nat)(v:Int)(h:k<4):(x.set k v).l=x.l.set k v:=by
 match k,h with
 |0,_=>rfl
 |1,_=>rfl
 |2,_=>rfl
 |3,_=>rfl
theorem Lw(p:AY→Au→Bool)(ss:List Au)(as:List Int):Hf p [] ss as=as:=by cases as<;>rfl
theorem Sy{K:Nat}(p:AY→Au→Bool)(y:Ao)(ss:List Au)(q:y.Ac.length≤4)(r:ss.length=y.Ac.length):∀(k m i:Nat) (a:BN),ss.length=i+k→k<m→(∀x∈a.l.drop i,0≤x∧x≤100000)→
  ∃b:BN,CN (fun(st:Unit) (x:AY×Au)=>some (p x.1 x.2,())) ss y m (i:Int) a.a0 a.a1 a.a2 a.a3 ()=some (b.a0,b.a1,b.a2,b.a3,())∧b.l=a.l.take i++Hf p (y.Ac.drop i) (ss.drop i) (a.l.drop i):=by
 intro k
 induction k with
 |zero=>
  intro m i a h hm e;cases m with
  |zero=>omega
  |succ m=>
   rw[CN.eq_2,cf (df (by omega)),List.drop_eq_nil_of_le («as»:=y.Ac) (by omega),Lw];exact⟨a,rfl,(List.take_append_drop ..).symm⟩
 |succ k ih=>
  intro m i a h hm e;cases m with
  |zero=>omega
  |succ m=>
   have hi:i<ss.length:=by omega
   have f:i<y.Ac.length:=by omega
   have c:i<a.l.length:=by show i<4;omega
   rw[CN.eq_2,ct (dt (by omega)),Ds hi,Ds f,Option.bind_some,List.drop_eq_getElem_cons hi,List.drop_eq_getElem_cons f,List.drop_eq_getElem_cons c,Hf];cases s:p y.Ac[i] ss[i] with
   |true=>
    have t:=e a.l[i] (by rw[List.drop_eq_getElem_cons c];exact List.mem_cons_self ..);have g:idx [a.a0,a.a1,a.a2,a.a3] (i:Int)=some a.l[i]:=idx_eq c;rw[ct rfl,bd g,BL (by omega) (by omega),bd g,BL (by omega) (by omega),DF,Int.toNat_natCast];obtain⟨b,j,n⟩:=ih m (i+1) (a.set i (a.l[i]+1)) (by omega) (by omega) (fun x d=>by
     rw[R7 _ _ _ (by omega),List.drop_set_of_lt (by omega)] at d;exact e x (by rw[List.drop_eq_getElem_cons c];exact List.mem_cons_of_mem _ d))
    refine⟨b,j,?_⟩;rw[n,R7 _ _ _ (by omega),List.take_add_one,List.getElem?_set_self c,List.take_set_of_le (Nat.le_refl _),List.drop_set_of_lt (by omega)];simp
   |false=>
    rw[cf rfl,BL (by omega) (by omega),DF];obtain⟨b,j,n⟩:=ih m (i+1) a (by omega) (by omega) fun x d=>e x (by rw[List.drop_eq_getElem_cons c];exact List.mem_cons_of_mem _ d);refine⟨b,j,?_⟩;have o:a.l.take (i+1)=a.l.take i++[a.l[i]]:=by rw[List.take_add_one,List.getElem?_eq_getElem c];rfl
    rw[n,o,List.append_assoc];rfl
theorem Rq{K:Nat}(p:AY→Au→Bool)(y:Ao)(t:AT)(ss:List Au)(e:y.Ac.length≤4)(f:ss.length=y.Ac.length)(hK:2000≤K)(n:Int)(a:BN)(h:0≤n∧n≤100000)(g:∀x∈a.l,0≤x∧x≤100000):
  ∃b:BN,C7 K (fun(st:Unit) (x:AY×Au)=>some (p x.1 x.2,())) t ss n y a ()=some (true,n+1,b,())∧b.l=Hf p y.Ac ss a.l:=by
 unfold C7;obtain⟨b,c,d⟩:=Sy (K:=K) p y ss e f ss.length K 0 a (by omega) (by omega) (by rw[List.drop_zero];exact g);rw[Int.natCast_zero] at c;rw[List.take_zero,List.drop_zero,List.drop_zero,List.drop_zero,List.nil_append] at d;rw[BL (by omega) (by omega),bd c];exact⟨b,rfl,d⟩
theorem OY(p:AY→Au→Bool)(B:Int):∀(ls:List AY) (ss:List Au) (as:List Int),(∀x∈as,0≤x∧x≤B)→∀x∈Hf p ls ss as,0≤x∧x≤B+1
 |l::ls,s::ss,a::as,h,x,b=>by
  rw[Hf] at b;rcases List.mem_cons.1 b with rfl|b
  ·have:=h a (List.mem_cons_self ..);cases p l s<;>simp<;>omega
  ·exact OY p B ls ss as (fun z c=>h z (List.mem_cons_of_mem _ c)) x b
 |[],_,as,h,x,b=>by
  rw[Lw] at b;have:=h x b;omega
 |l::ls,[],as,h,x,b=>by
  have e:Hf p (l::ls) [] as=as:=by cases as<;>rfl
  rw[e] at b;have:=h x b;omega
 |l::ls,s::ss,[],h,x,b=>by
  have e:Hf p (l::ls) (s::ss) []=[]:=rfl;rw[e] at b;cases b
def Mr (p:AY→Au→Bool) (y:Ao) (o:List (List Int)):List AT→List Int→List Int
 |[],a=>a
 |t::b,a=>Mr p y o b (Hf p y.Ac (B4 y o t) a)
theorem NP{K:Nat}(p:AY→Au→Bool)(y:Ao)(hy:EO y)(o:List (List Int))(hK:2000≤K):∀(c:List AT) (n:Int) (a:BN) (B:Int),0≤n→n+c.length≤100000→B+c.length≤100000→(∀x∈a.l,0≤x∧x≤B)→
  ∃b:BN,run (fun(st:Int×BN×Unit) t=>(C7 K (fun(st:Unit) (x:AY×Au)=>some (p x.1 x.2,())) t (B4 y o t) st.1 y st.2.1 st.2.2).bind fun r=>some (r.1,(r.2.1,r.2.2.1,r.2.2.2))) c (n,a,())=some (true,n+c.length,b,())∧b.l=Mr p y o c a.l
 |[],n,a,B,_,_,_,_=>⟨a,by simp[run],rfl⟩
 |t::c,n,a,B,h0,h1,f,d=>by
  rw[List.length_cons] at h1 f;obtain⟨b,g,e⟩:=Rq (K:=K) p y t (B4 y o t) hy.n4 (GF ..) hK n a (by omega) (fun x h=>by have:=d x h;omega);obtain⟨i,j,k⟩:=NP p y hy o hK c (n+1) b (B+1) (by omega) (by omega) (by omega) (by rw[e];exact OY p B _ _ _ d);refine⟨i,?_,by rw[k,e];rfl⟩;rw[run];show Option.bind ((C7 K _ t (B4 y o t) n y a ()).bind _) _=_;rw[bd g];show run _ c (n+1,b,())=_;rw[j,List.length_cons]
  congr 3;omega
theorem Jn(y:Ao)(hy:EO y):((B0 y).length:Int)=FT y:=by
 have a:∀ls:List AY,(∀l∈ls,sized l)→((EH ls).length:Int)=Ex ls:=by
  intro ls
  induction ls with
  |nil=>intro _;rfl
  |cons l r ih=>
   intro h;have h1:=(h l (List.mem_cons_self ..)).1;rw[EH,Ex,List.length_flatMap,←ih fun x b=>h x (List.mem_cons_of_mem _ b)];have:((List.range (BW l).toNat).map fun(n:Nat)=>((EH r).map fun c=>(l.Ar+(n:Int))::c).length)=List.replicate (BW l).toNat (EH r).length:=by
    apply List.ext_getElem
    ·simp
    ·intro i h1 d;simp
   rw[this,List.sum_replicate_nat,Int.natCast_mul]
   congr 1;omega
 unfold B0 FT;rw[List.length_flatMap,←a y.Ac fun l e=>(hy.sz l e).1];have:((Bn y).map fun w=>((EH y.Ac).map fun c=>(⟨c,w⟩:AT)).length)=List.replicate (Bn y).length (EH y.Ac).length:=by
  apply List.ext_getElem
  ·simp
  ·intro i h1 d;simp
 rw[this,List.sum_replicate_nat,Int.natCast_mul]
def Dt (p:AY→Au→Bool) (y:Ao) (o:List (List Int)):List Int:=Mr p y o (B0 y) [0,0,0,0]
theorem Ms{K:Nat}(p:AY→Au→Bool)(y:Ao)(hy:EO y)(o:List (List Int))(a:Dh y o=true)(hK:2000≤K):
  ∃b:BN,CF K (fun(st:Unit) (x:AY×Au)=>some (p x.1 x.2,())) y o ()=some (b,((B0 y).length:Int),())∧b.l=Dt p y o:=by
 unfold CF;rw[Qx _ y hy o a hK];have f:=Jn y hy;have:=hy.many;obtain⟨b,c,d⟩:=NP (K:=K) p y hy o hK (B0 y) 0 ⟨0,0,0,0⟩ 0 (by omega) (by omega) (by omega) (by intro x e;simp[BN.l] at e;omega);refine⟨b,?_,d⟩;refine Eq.trans (congrArg (fun z=>Option.bind (Option.bind z _) _) c) ?_;rw[Int.zero_add];rfl
end Go.Proofs.YtkljfdkmjdjpfaaGreat
end
section
namespace Go.Proofs.YtkljfdkmjdjpfaaGreat
def CG(y:Ao)(i:Nat):AY:=y.Ac.getD i HD
def Hg(y:Ao)(o:List (List Int))(t:AT)(i:Nat):Au:=(B4 y o t).getD i JT
def G6 (y:Ao) (o:List (List Int)) (i:Nat) (t:AT):Bool:=D9 (CG y i) (Hg y o t i)
theorem NQ(p:AY→Au→Bool):∀(ls:List AY) (ss:List Au) (as:List Int) (i:Nat),i<ls.length→i<ss.length→i<as.length→
  (Hf p ls ss as).getD i 0=as.getD i 0+(cond (p (ls.getD i HD) (ss.getD i JT)) 1 0)
 |l::ls,s::ss,a::as,0,_,_,_=>by
  rw[Hf];show cond (p l s) (a+1) a=a+cond (p l s) 1 0;cases p l s<;>simp
 |l::ls,s::ss,a::as,i+1,h1,b,h3=>by
  rw[Hf];exact NQ p ls ss as i (by simpa using h1) (by simpa using b) (by simpa using h3)
theorem Lk(p:AY→Au→Bool):∀(ls:List AY) (ss:List Au) (as:List Int),(Hf p ls ss as).length=as.length
 |l::ls,s::ss,a::as=>by rw[Hf,List.length_cons,Lk p ls ss as,List.length_cons]
 |[],ss,as=>by rw[Lw]
 |l::ls,[],as=>by
  have e:Hf p (l::ls) [] as=as:=by cases as<;>rfl
  rw[e]
 |l::ls,s::ss,[]=>rfl
theorem NR(p:AY→Au→Bool)(y:Ao)(o:List (List Int))(i:Nat)(hi:i<y.Ac.length):∀(a:List AT) (as:List Int),i<as.length→
  (Mr p y o a as).getD i 0=as.getD i 0+(a.countP (fun t=>p (CG y i) (Hg y o t i)):Nat)
 |[],as,_=>by simp[Mr]
 |t::a,as,h=>by
  rw[Mr,NR p y o i hi a _ (by rw[Lk];exact h),NQ p _ _ _ i hi (by rw[B4,GF];exact hi) h,List.countP_cons];unfold CG Hg;cases p (y.Ac.getD i HD) ((B4 y o t).getD i JT)<;>simp<;>omega
theorem L0(p:AY→Au→Bool)(y:Ao)(hy:EO y)(o:List (List Int))(i:Nat)(hi:i<y.Ac.length):(Dt p y o).getD i 0=((B0 y).countP (fun t=>p (CG y i) (Hg y o t i)):Nat):=by
 unfold Dt;have a:=hy.n4;rw[NR p y o i hi _ _ (by show i<4;omega)];have:([0,0,0,0]:List Int).getD i 0=0:=by
  match i,(show i<4 by omega) with
  |0,_=>rfl
  |1,_=>rfl
  |2,_=>rfl
  |3,_=>rfl
 rw[this,Int.zero_add]
theorem Na(b:BN)(i:Nat)(h:i<4):idx [b.a0,b.a1,b.a2,b.a3] (i:Int)=some (b.l.getD i 0):=by
 have:i<[b.a0,b.a1,b.a2,b.a3].length:=h;rw[idx_eq this];show some b.l[i]=_;rw[List.getD_eq_getElem?_getD,List.getElem?_eq_getElem (show i<b.l.length from h)];rfl
def verdict (y:Ao) (o:List (List Int)) (i:Nat):Int:=cond ((B0 y).all (G6 y o i)) 1 (cond ((B0 y).all fun t=> !G6 y o i t) 2 3)
theorem MU{α:Type}(p:α→Bool)(l:List α):((((l.countP p:Nat):Int)==(l.length:Int)))=l.all p:=by
 rw[Bool.eq_iff_iff,beq_iff_eq,List.all_eq_true,Int.ofNat_inj,List.countP_eq_length]
theorem PT{α:Type}(p:α→Bool)(l:List α):((((l.countP p:Nat):Int)==0))=l.all fun t=> !p t:=by
 rw[Bool.eq_iff_iff,beq_iff_eq,List.all_eq_true,show(0:Int)=((0:Nat):Int) from rfl,Int.ofNat_inj,List.countP_eq_zero];simp
theorem Sz{K:Nat}(y:Ao)(o:List (List Int))(n:Int)(hK:2000≤K)(d:o.length≤1000)(e:o.flatten.length≤1000):
  EG K y o n=some (if check y≠0 then (0,check y) else if Dh y o=false∨FK n 0 ((y.Ac.length:Int)-1)=false then (0,2) else (verdict y o n.toNat,0)):=by
 unfold EG;rw[bd (Ir hK y)]
 by_cases h:check y=0
 ·rw[h,cf (by decide),if_neg (by simp)];have hy:=FF h;have l:=hy.n4;rw[bd (KG y o hy.n4 hK d e)];cases f:Dh y o with
  |false=>rw[nf,if_pos (.inl rfl)]
  |true=>
   have g:FP K y n=some (FK n 0 ((y.Ac.length:Int)-1)):=by
    unfold FP;rw[BL (by omega) (by omega),bd (Hl ..)]
   rw[nt,bd g];cases a:FK n 0 ((y.Ac.length:Int)-1) with
   |false=>rw[nf,if_pos (.inr rfl)]
   |true=>
    rw[nt,if_neg (by simp)];rw[E9] at a;obtain⟨i,rfl⟩:=Int.eq_ofNat_of_zero_le a.1;have hi:i<y.Ac.length:=by omega
    obtain⟨b,j,k⟩:=Ms (K:=K) D9 y hy o f hK;have c:CF K (fun(st:Unit) (x:AY×Au)=>(Dg K x.1 x.2).bind fun r=>some (r,())) y o ()=some (b,((B0 y).length:Int),()):=by
     rw[←j];congr 1;funext st x;rw[bd (Mp ..)]
    rw[bd c,bd (Na b i (by omega)),k,L0 D9 y hy o i hi,Int.toNat_natCast];unfold verdict;show cond ((((B0 y).countP (G6 y o i):Nat):Int)==((B0 y).length:Int)) _ (cond ((((B0 y).countP (G6 y o i):Nat):Int)==0) _ _)=_;rw[MU,PT];cases (B0 y).all (G6 y o i)<;>cases (B0 y).all (fun t=> !G6 y o i t)<;>rfl
 ·rw[ct (by simpa using h),if_pos h]
theorem JV(y:Ao)(o:List (List Int)):∀(a:List AT) (s:Int×AT),s.1<(y.Ac.length:Int)∨a=[]→
  (∀t∈a,(Ed y (B4 y o t):Int)≤(Ik y o a s).1)∧s.1≤(Ik y o a s).1∧((Ik y o a s)=s∨∃t∈a,(Ik y o a s)=((Ed y (B4 y o t):Int),t))
 |[],s,_=>⟨fun t ht=>(by cases ht),Int.le_refl _,.inl rfl⟩
 |t::a,s,h=>by
  have e:s.1<(y.Ac.length:Int):=by
   rcases h with h|h
   ·exact h
   ·cases h
  have hle:∀x,(Ed y (B4 y o x):Int)≤(y.Ac.length:Int):=fun x=>by
   have:=Mq DT y.Ac (B4 y o x);unfold Ed;omega
  rw[Ik]
  by_cases f:s.1<(Ed y (B4 y o t):Int)
  ·rw[if_pos f];show(∀x∈t::a,_≤(cond (decide ((Ed y (B4 y o t):Int)<(y.Ac.length:Int))) _ _:Int×AT).1)∧_
   by_cases d:(Ed y (B4 y o t):Int)<(y.Ac.length:Int)
   ·rw[ct (dt d)];obtain⟨h1,c,h3⟩:=JV y o a ((Ed y (B4 y o t):Int),t) (.inl d);refine⟨fun x b=>?_,by have g:(Ed y (B4 y o t):Int)≤_:=c;omega,.inr ?_⟩
    ·rcases List.mem_cons.1 b with rfl|b
     ·exact c
     ·exact h1 x b
    ·rcases h3 with h3|⟨x,b,h3⟩
     ·exact⟨t,List.mem_cons_self ..,h3⟩
     ·exact⟨x,List.mem_cons_of_mem _ b,h3⟩
   ·rw[cf (df d)];exact⟨fun x _=>Int.le_trans (hle x) (by show(y.Ac.length:Int)≤(Ed y (B4 y o t):Int);omega),by show s.1≤(Ed y (B4 y o t):Int);omega,.inr ⟨t,List.mem_cons_self ..,rfl⟩⟩
  ·rw[if_neg f];show(∀x∈t::a,_≤(cond (decide (s.1<(y.Ac.length:Int))) _ _:Int×AT).1)∧_;rw[ct (dt e)];obtain⟨h1,c,h3⟩:=JV y o a s (.inl e);refine⟨fun x b=>?_,c,?_⟩
   ·rcases List.mem_cons.1 b with rfl|b
    ·omega
    ·exact h1 x b
   ·rcases h3 with h3|⟨x,b,h3⟩
    ·exact .inl h3
    ·exact .inr ⟨x,List.mem_cons_of_mem _ b,h3⟩
theorem L1{y:Ao}(hy:EO y):B0 y≠[]:=by
 have h1:wl (days y) 0∈Bn y:=by
  refine Ia.2 ⟨FE _ _,?_⟩;have key:∀(l:List Bool) (s r:Int),(∀b∈l,b=false)→okW y.Am y.Ax l s r=true:=by
   intro l
   induction l with
   |nil=>intros;rfl
   |cons b l ih=>
    intro s r h;have a:=h b (List.mem_cons_self ..);subst a;rw[okW];exact ih s 0 fun x c=>h x (List.mem_cons_of_mem _ c)
  refine key _ 0 0 fun b a=>?_;unfold wl at a;obtain⟨d,_,rfl⟩:=List.mem_map.1 a;exact Nat.zero_testBit d
 have f:DG y.Ac (y.Ac.map (·.Ar))=true:=by
  have key:∀ls:List AY,(∀l∈ls,sized l)→DG ls (ls.map (·.Ar))=true:=by
   intro ls
   induction ls with
   |nil=>intro _;rfl
   |cons l r ih=>
    intro h;have:=(h l (List.mem_cons_self ..)).1;rw[List.map_cons,DG,Bool.and_eq_true];exact⟨E9.2 (by unfold BW at this;omega),ih fun x c=>h x (List.mem_cons_of_mem _ c)⟩
  exact key _ fun l g=>(hy.sz l g).1
 intro e;have:(⟨y.Ac.map (·.Ar),wl (days y) 0⟩:AT)∈B0 y:=by
  unfold B0;exact List.mem_flatMap.2 ⟨_,h1,List.mem_map.2 ⟨_,GP.2 f,rfl⟩⟩
 rw[e] at this;cases this
theorem Il {y:Ao} (hy:EO y) (o:List (List Int)):(∀t,DV y t=true→(Ed y (B4 y o t):Int)≤(Db y o).1)∧DV y (Db y o).2=true∧(Db y o).1=(Ed y (B4 y o (Db y o).2):Int):=by
 obtain⟨h1,a,h3⟩:=JV y o (B0 y) (-1,⟨[],[]⟩) (.inl (by show(-1:Int)<_;omega));refine⟨fun t ht=>h1 t ((Fx hy.h0).2 ht),?_⟩;rcases h3 with h3|⟨t,ht,h3⟩
 ·exfalso;obtain⟨t,ht⟩:=List.exists_mem_of_ne_nil _ (L1 hy);have:=h1 t ht;rw[h3] at this;have b:(Ed y (B4 y o t):Int)≤-1:=this;omega
 ·unfold Db;rw[h3];exact⟨(Fx hy.h0).1 ht,rfl⟩
end Go.Proofs.YtkljfdkmjdjpfaaGreat
end
section
namespace Go.Proofs.YtkljfdkmjdjpfaaGreat
def Ey:Nat→Nat→List (List Int)→List (List (List Int))
 |0,_,o=>[o]
 |k+1,i,o=>(List.range o.length).flatMap fun r=>(List.range ((o.getD r []).length+1)).flatMap fun(a:Nat)=>Ey k (i+1) (o.set r (CY (o.getD r []) (a:Int) (i:Int)))
def GG(y:Ao):List (List (List Int)):=Ey y.Ac.length 0 (List.replicate y.Ah.toNat [])
section
variable{σ:Type}{K:Nat}(cb:σ→List (List Int)→Option (Bool×σ))(y:Ao)
def Or(n k i:Nat):Prop:=∀(o:List (List Int)) (st:σ),(∀l∈o,l.length≤i)→o.length≤1000→
 (By K cb k (i:Int) y o st).map (fun z=>(z.1,z.2.2))=run cb (Ey n i o) st∧
 ∀z,By K cb k (i:Int) y o st=some z→z.1=true→z.2.1=o
theorem NS{l:List (List Int)}{r:Nat}(h:r<l.length):l.set r (l.getD r [])=l:=by
 rw[List.getD_eq_getElem?_getD,List.getElem?_eq_getElem h];exact List.set_getElem_self h
theorem QC(n k i r:Nat)(hi:i≤10)(o:List (List Int))(s:r<o.length)(u:o.length≤1000)(hlen:∀l∈o,l.length≤i)(ih:Or (K:=K) cb y n k (i+1)):
  ∀(c m a:Nat) (q:List (List Int)) (st:σ),(o.getD r []).length+1=a+c→c<m→q.length=o.length→q.set r (o.getD r [])=o→
  (Cm (By K cb k) (i:Int) y (r:Int) (o.getD r []) m (a:Int) q st).map Rm=run cb ((List.range' a c).flatMap fun(a:Nat)=>Ey n (i+1) (o.set r (CY (o.getD r []) (a:Int) (i:Int)))) st∧
  ∀z,Cm (By K cb k) (i:Int) y (r:Int) (o.getD r []) m (a:Int) q st=some z→(∀x,z=.inl x→x.1=false)∧(∀x,z=.inr x→x.1.length=o.length∧x.1.set r (o.getD r [])=o):=by
 have aG:(o.getD r []).length≤i:=by
  rw[List.getD_eq_getElem?_getD,List.getElem?_eq_getElem s];exact hlen _ (List.getElem_mem s)
 intro c
 induction c with
 |zero=>
  intro m a q st h hm v f;cases m with
  |zero=>omega
  |succ m=>
   rw[Cm.eq_2,cf (df (by omega))];exact⟨rfl,fun z g=>by cases g;exact⟨fun x e=>(by cases e),fun x e=>by cases e;exact⟨v,f⟩⟩⟩
 |succ c w=>
  intro m a q st h hm v f;cases m with
  |zero=>omega
  |succ m=>
   have aA:r<q.length:=by omega
   have t:q.set r (CY (o.getD r []) (a:Int) (i:Int))=o.set r (CY (o.getD r []) (a:Int) (i:Int)):=by
    have h:(q.set r (o.getD r [])).set r (CY (o.getD r []) (a:Int) (i:Int))=o.set r (CY (o.getD r []) (a:Int) (i:Int)):=by rw[f]
    rw[List.set_set] at h;exact h
   rw[Cm.eq_2,ct (dt (by omega)),Fv (by omega),Fv (by omega),Ds aA,BL (by omega) (by omega),DF i,Int.toNat_natCast,t];obtain⟨aC,aD⟩:=ih (o.set r (CY (o.getD r []) (a:Int) (i:Int))) st (fun l aE=>by
    rcases List.mem_or_eq_of_mem_set aE with h1|h1
    ·have:=hlen l h1;omega
    ·rw[h1,Li];omega) (by rw[List.length_set];exact u)
   rw[List.range'_succ,List.flatMap_cons,HC,←aC];cases aF:By K cb k ((i+1:Nat):Int) y (o.set r (CY (o.getD r []) (a:Int) (i:Int))) st with
   |none=>exact⟨rfl,fun z g=>by cases g⟩
   |some z0=>
    obtain⟨b,j,s2⟩:=z0;cases b with
    |false=>
     refine⟨rfl,fun z g=>?_⟩;have aB:some (Sum.inl (false,j,s2))=some z:=g;cases aB;exact⟨fun x e=>by cases e;rfl,fun x e=>by cases e⟩
    |true=>
     have p:j=o.set r (CY (o.getD r []) (a:Int) (i:Int)):=aD _ aF rfl;have key:(Option.bind (some (true,j,s2)) fun d=>cond (!d.1) (some (Sum.inl (false,d.2.1,d.2.2))) ((i64 ((a:Int)+1)).bind fun _=>Cm (By K cb k) (i:Int) y (r:Int) (o.getD r []) m ((a:Int)+1) d.2.1 d.2.2))=Cm (By K cb k) (i:Int) y (r:Int) (o.getD r []) m ((a+1:Nat):Int) j s2:=by
      rw[Option.bind_some,nt,BL (by omega) (by omega),DF a]
     rw[key];exact w m (a+1) j s2 (by omega) (by omega) (by rw[p,List.length_set]) (by rw[p,List.set_set];exact NS s)
theorem QD(n k i:Nat)(hi:i≤10)(hK:2000≤K)(o:List (List Int))(p:o.length≤1000)(hlen:∀l∈o,l.length≤i)(ih:Or (K:=K) cb y n k (i+1)):
  ∀(c m r:Nat) (st:σ),o.length=r+c→c<m→
  (Cd (By K cb k) K (i:Int) y o m (r:Int) o st).map Rm=run cb ((List.range' r c).flatMap fun r=>(List.range ((o.getD r []).length+1)).flatMap fun(a:Nat)=>Ey n (i+1) (o.set r (CY (o.getD r []) (a:Int) (i:Int)))) st∧
  ∀z,Cd (By K cb k) K (i:Int) y o m (r:Int) o st=some z→(∀x,z=.inl x→x.1=false)∧(∀x,z=.inr x→x.1=o):=by
 intro c
 induction c with
 |zero=>
  intro m r st h hm;cases m with
  |zero=>omega
  |succ m=>
   rw[Cd.eq_2,cf (df (by omega))];exact⟨rfl,fun z j=>by cases j;exact⟨fun x f=>(by cases f),fun x f=>by cases f;rfl⟩⟩
 |succ c q=>
  intro m r st h hm;cases m with
  |zero=>omega
  |succ m=>
   have g:r<o.length:=by omega
   have aD:(o.getD r []).length≤i:=by
    rw[List.getD_eq_getElem?_getD,List.getElem?_eq_getElem g];exact hlen _ (List.getElem_mem g)
   have s:o[r]=o.getD r []:=by rw[List.getD_eq_getElem?_getD,List.getElem?_eq_getElem g];rfl
   rw[Cd.eq_2,ct (dt (by omega)),Ds g,s,BL (by omega) (by omega)];obtain⟨t,u⟩:=QC cb y n k i r hi o g p hlen ih ((o.getD r []).length+1) K 0 o st (by omega) (by omega) rfl (NS g);rw[Int.natCast_zero] at t u;rw[List.range'_succ,List.flatMap_cons,HC,List.range_eq_range',←t];cases aA:Cm (By K cb k) (i:Int) y (r:Int) (o.getD r []) K 0 o st with
   |none=>exact⟨rfl,fun z j=>by cases j⟩
   |some z0=>
    obtain⟨h1,aB⟩:=u _ aA;cases z0 with
    |inl x=>
     obtain⟨b,e,s2⟩:=x;obtain rfl:b=false:=h1 _ rfl;refine⟨rfl,fun z j=>?_⟩;have v:some (Sum.inl (false,e,s2))=some z:=j;cases v;exact⟨fun x f=>by cases f;rfl,fun x f=>by cases f⟩
    |inr x=>
     obtain⟨e,s2⟩:=x;obtain⟨h3,aC⟩:=aB _ rfl;have aE:e.length=o.length:=h3;have w:e.set r (o.getD r [])=o:=aC;have key:(Option.bind (some (Sum.inr (e,s2):(Bool×List (List Int)×σ)⊕(List (List Int)×σ))) fun z=>Sum.elim (fun d=>some (Sum.inl (d.1,d.2.1,d.2.2))) (fun d=>(idx d.1 (r:Int)).bind fun _=>(i64 ((r:Int)+1)).bind fun _=>Cd (By K cb k) K (i:Int) y o m ((r:Int)+1) (d.1.set (r:Int).toNat (o.getD r [])) d.2) z)=Cd (By K cb k) K (i:Int) y o m ((r+1:Nat):Int) o s2:=by
      rw[Option.bind_some];show(idx e (r:Int)).bind _=_;rw[Ds (show r<e.length by omega),BL (by omega) (by omega),DF r];show Cd _ K _ y o m _ (e.set (r:Int).toNat (o.getD r [])) s2=_;rw[Int.toNat_natCast,w]
     rw[key];exact q m (r+1) s2 (by omega) (by omega)
theorem QE(p:y.Ac.length≤4)(hK:2000≤K):∀(n k i:Nat),y.Ac.length=i+n→n<k→Or (K:=K) cb y n k i:=by
 intro n
 induction n with
 |zero=>
  intro k i h j o st hlen e;cases k with
  |zero=>omega
  |succ k=>
   rw[By.eq_2,ct (by rw[h];simp)];rw[Ey,run];cases cb st o with
   |none=>exact⟨rfl,fun z a=>by cases a⟩
   |some r=>
    obtain⟨b,s⟩:=r;refine⟨by cases b<;>rfl,fun z a _=>?_⟩;have c:some (b,o,s)=some z:=a;cases c;rfl
 |succ n ih=>
  intro k i h j o st hlen e;cases k with
  |zero=>omega
  |succ k=>
   rw[By.eq_2,cf (by simp;omega)];obtain⟨f,g⟩:=QD cb y n k i (by omega) hK o e hlen (ih k (i+1) (by omega) (by omega)) o.length K 0 st (by omega) (by omega);rw[Int.natCast_zero] at f g;rw[Ey,List.range_eq_range',←f];cases l:Cd (By K cb k) K (i:Int) y o K 0 o st with
   |none=>exact⟨rfl,fun z a=>by cases a⟩
   |some z0=>
    obtain⟨h1,m⟩:=g _ l;cases z0 with
    |inl x=>
     obtain⟨b,d,s2⟩:=x;obtain rfl:b=false:=h1 _ rfl;refine⟨rfl,fun z a ht=>?_⟩;have c:some (false,d,s2)=some z:=a;cases c;cases ht
    |inr x=>
     obtain⟨d,s2⟩:=x;obtain rfl:d=o:=m _ rfl;refine⟨rfl,fun z a ht=>?_⟩;have c:some (true,d,s2)=some z:=a;cases c;rfl
end
theorem NT{σ:Type}{K:Nat}(cb:σ→List (List Int)→Option (Bool×σ))(y:Ao)(hy:EO y)(hK:2000≤K)(st:σ):EY K cb y st=(run cb (GG y) st).bind fun r=>some r.2:=by
 unfold EY;have:=hy.r1;have:=hy.r2;rw[NI (by omega) (by omega) (by omega)];obtain⟨a,_⟩:=QE cb y hy.n4 hK y.Ac.length K 0 (by omega) (by have:=hy.n4;omega) (List.replicate y.Ah.toNat []) st (fun l b=>by rw[(List.mem_replicate.1 b).2];exact Nat.le_refl _) (by rw[List.length_replicate];omega);rw[Int.natCast_zero] at a;unfold GG;rw[←a];cases By K cb K 0 y (List.replicate y.Ah.toNat []) st with
 |none=>rfl
 |some z=>rfl
end Go.Proofs.YtkljfdkmjdjpfaaGreat
end
section
namespace Go.Proofs.YtkljfdkmjdjpfaaGreat
theorem QF(l:List Int)(a i:Int):(CY l a i).Perm (i::l):=by
 unfold CY;refine List.perm_middle.trans (List.Perm.cons _ ?_);rw[List.take_append_drop]
theorem Hm(v:Int):∀(o:List (List Int)) (r:Nat) (a:Int),r<o.length→(o.set r (CY (o.getD r []) a v)).flatten.Perm (v::o.flatten)
 |l::o,0,a,_=>by
  show(CY l a v++o.flatten).Perm (v::(l++o.flatten));exact(QF l a v).append_right _
 |l::o,r+1,a,h=>by
  show(l++(o.set r (CY (o.getD r []) a v)).flatten).Perm (v::(l++o.flatten));exact((Hm v o r a (by simpa using h)).append_left l).trans List.perm_middle
theorem I4(n:Nat):iota (n+1)=iota n++[(n:Int)]:=by simp[iota,List.range_succ]
theorem L2:∀(k i:Nat) (c o:List (List Int)),c.flatten.Perm (iota i)→o∈Ey k i c→o.length=c.length∧o.flatten.Perm (iota (i+k))
 |0,i,c,o,h,b=>by
  rw[Ey,List.mem_singleton] at b;subst b;exact⟨rfl,h⟩
 |k+1,i,c,o,h,b=>by
  rw[Ey,List.mem_flatMap] at b;obtain⟨r,d,b⟩:=b;obtain⟨a,_,b⟩:=List.mem_flatMap.1 b;rw[List.mem_range] at d;obtain⟨h1,e⟩:=L2 k (i+1) _ o (by
   rw[I4];exact((Hm (i:Int) c r (a:Int) d).trans (h.cons _)).trans (List.perm_append_singleton _ _).symm) b
  rw[List.length_set] at h1;exact⟨h1,by rw[show i+(k+1)=i+1+k by omega];exact e⟩
theorem Im{y:Ao}(hy:EO y){o:List (List Int)}(h:o∈GG y):Dh y o=true:=by
 have:=L2 _ 0 _ o (by
  have:(List.replicate y.Ah.toNat ([]:List Int)).flatten=[]:=by simp
  rw[this];exact List.Perm.refl _) h
 rw[List.length_replicate,Nat.zero_add] at this;refine EZ.2 ⟨?_,this.2⟩;have:=hy.r1;omega
theorem KH:∀(k i:Nat) (c o:List (List Int)) (r a:Nat),o∈Ey k i c→r<o.length→a≤(o.getD r []).length→o.set r (CY (o.getD r []) (a:Int) ((i+k:Nat):Int))∈Ey (k+1) i c
 |0,i,c,o,r,a,b,d,e=>by
  rw[Ey,List.mem_singleton] at b;subst b;rw[Ey,List.mem_flatMap];refine⟨r,List.mem_range.2 d,List.mem_flatMap.2 ⟨a,List.mem_range.2 (by omega),?_⟩⟩;rw[Ey,List.mem_singleton];rfl
 |k+1,i,c,o,r,a,b,d,e=>by
  rw[Ey,List.mem_flatMap] at b;obtain⟨r1,f,b⟩:=b;obtain⟨a1,g,b⟩:=List.mem_flatMap.1 b;rw[Ey,List.mem_flatMap];refine⟨r1,f,List.mem_flatMap.2 ⟨a1,g,?_⟩⟩;have:=KH k (i+1) _ o r a b d e;rw[show i+1+k=i+(k+1) by omega] at this;exact this
theorem L3 (v:Int):∀(o:List (List Int)),v∈o.flatten→∃(o':List (List Int)) (r a:Nat),r<o'.length∧a≤(o'.getD r []).length∧o=o'.set r (CY (o'.getD r []) (a:Int) v)∧o.flatten.Perm (v::o'.flatten)∧o'.length=o.length
 |[],h=>by cases h
 |l::o,h=>by
  by_cases b:v∈l
  ·obtain⟨s,t,rfl⟩:=List.append_of_mem b;refine⟨(s++t)::o,0,s.length,by simp,by simp,?_,?_,by simp⟩
   ·show _=CY (s++t) (s.length:Int) v::o;unfold CY;rw[Int.toNat_natCast,List.take_left,List.drop_left]
   ·show((s++v::t)++o.flatten).Perm (v::((s++t)++o.flatten));exact(List.perm_middle (a:=v) (l₁:=s) (l₂:=t)).append_right _
  ·have c:v∈o.flatten:=by
    rw[List.flatten_cons,List.mem_append] at h;exact h.resolve_left b
   obtain⟨o',r,a,h1,d,h3,e,f⟩:=L3 v o c;refine⟨l::o',r+1,a,by simpa using h1,d,?_,?_,by simp[f]⟩
   ·show l::o=l::o'.set r (CY (o'.getD r []) (a:Int) v);rw[←h3]
   ·show(l++o.flatten).Perm (v::(l++o'.flatten));exact(e.append_left l).trans List.perm_middle
theorem Ll(L7:Nat):∀(n:Nat) (o:List (List Int)),o.length=L7→o.flatten.Perm (iota n)→o∈Ey n 0 (List.replicate L7 [])
 |0,o,c,b=>by
  rw[Ey,List.mem_singleton];have he:o.flatten=[]:=b.eq_nil;rw[List.flatten_eq_nil_iff] at he;exact List.eq_replicate_iff.2 ⟨c,he⟩
 |n+1,o,c,b=>by
  have e:(n:Int)∈o.flatten:=b.mem_iff.2 (by rw[I4];simp);obtain⟨o',r,a,h1,f,h3,g,i⟩:=L3 (n:Int) o e;have d:o'.flatten.Perm (iota n):=by
   have h:(iota (n+1)).Perm ((n:Int)::iota n):=by rw[I4];exact List.perm_append_singleton _ _
   exact(List.perm_cons _).1 ((g.symm.trans b).trans h)
  have:=KH n 0 _ o' r a (Ll L7 n o' (by omega) d) h1 f;rw[Nat.zero_add] at this;rw[h3];exact this
theorem Lm{y:Ao}(hy:EO y){o:List (List Int)}:o∈GG y↔Dh y o=true:=by
 refine⟨Im hy,fun h=>?_⟩;have a:=EZ.1 h;exact Ll _ _ o (by omega) a.2
theorem PU{y:Ao}(hy:EO y):GG y≠[]:=by
 have:((iota y.Ac.length)::List.replicate (y.Ah.toNat-1) [])∈GG y:=by
  refine(Lm hy).2 (EZ.2 ⟨?_,?_⟩)
  ·have:=hy.r1;simp;omega
  ·simp
 intro e;rw[e] at this;cases this
theorem Rr(p:List (List Int))(c:p.length≤1000)(a:∀l∈p,l.length≤1000):∀(k m i:Nat),p.length=i+k→k<m→ET p m (i:Int) p=some p:=by
 intro k
 induction k with
 |zero=>
  intro m i h hm;cases m with
  |zero=>omega
  |succ m=>rw[ET.eq_2,cf (df (by omega))]
 |succ k ih=>
  intro m i h hm;cases m with
  |zero=>omega
  |succ m=>
   have hi:i<p.length:=by omega
   have b:=a p[i] (List.getElem_mem hi);rw[ET.eq_2,ct (dt (by omega)),Ds hi,Fv (by omega),Ds hi,BL (by omega) (by omega),DF,Int.toNat_natCast,List.set_getElem_self hi];exact ih m (i+1) (by omega) (by omega)
theorem NU{K:Nat}(p:List (List Int))(a:p.length≤1000)(b:∀l∈p,l.length≤1000)(hK:2000≤K):Fc K p=some p:=by
 unfold Fc;have:=Rr p a b p.length K 0 (by omega) (by omega);rw[Int.natCast_zero] at this;rw[Fv (by omega),bd this]
theorem KI{y:Ao}(hy:EO y){o:List (List Int)}(h:Dh y o=true):o.length≤1000∧(∀l∈o,l.length≤1000)∧o.flatten.length≤1000:=by
 have h1:=EZ.1 h;have a:=Mn h;have:=hy.r2;have:=hy.n4;have h3:=h1.2.length_eq;rw[GZ] at h3;exact⟨by omega,fun l b=>by have:=(a l b).1;omega,by omega⟩
def HX(y:Ao):List (List (List Int))→Int×List (List Int)→Int×List (List Int)
 |[],s=>s
 |o::os,s=>
  let s2:=if (Db y o).1<s.1 then ((Db y o).1,o) else s
  cond (decide (0<s2.1)) (HX y os s2) s2
def HY(y:Ao):Int×List (List Int):=HX y (GG y) ((y.Ac.length:Int)+1,[])
theorem NV{K:Nat}(y:Ao)(hy:EO y)(hK:2000≤K):∀(os:List (List (List Int))) (s:Int×List (List Int)),(∀o∈os,Dh y o=true)→
  (run (fun(st:Int×(List (List Int))) (x:(List (List Int)))=>(Gg K x y st.1 st.2).bind fun r=>some (r.1,(r.2.1,r.2.2))) os s).bind (fun r=>some r.2)=some (HX y os s)
 |[],s,_=>rfl
 |o::os,s,h=>by
  have c:=h o (List.mem_cons_self ..);obtain⟨d,e,_⟩:=KI hy c;rw[run,HX];unfold Gg;rw[bd (QA y hy o c hK)]
  by_cases a:(Db y o).1<s.1
  ·rw[ct (dt a),bd (NU o d e hK),if_pos a];show(cond (decide (0<(Db y o).1)) _ _:Option (Bool×Int×List (List Int))).bind _=some (cond (decide (0<(Db y o).1)) _ _);cases decide (0<(Db y o).1) with
   |false=>rfl
   |true=>exact NV y hy hK os _ fun x b=>h x (List.mem_cons_of_mem _ b)
  ·rw[cf (df a),if_neg a];show(cond (decide (0<s.1)) _ _:Option (Bool×Int×List (List Int))).bind _=some (cond (decide (0<s.1)) _ _);cases decide (0<s.1) with
   |false=>rfl
   |true=>exact NV y hy hK os s fun x b=>h x (List.mem_cons_of_mem _ b)
theorem T6{K:Nat}(y:Ao)(hK:2000≤K):GX K y=some (if check y≠0 then ([],0,check y) else ((HY y).2,(HY y).1,0)):=by
 unfold GX;rw[bd (Ir hK y)]
 by_cases h:check y=0
 ·rw[h,cf (by decide),if_neg (by simp)];have hy:=FF h;have b:=hy.n4;rw[BL (by omega) (by omega),NT _ y hy hK];exact Eq.trans (bd (NV y hy hK (GG y) _ fun o a=>Im hy a)) rfl
 ·rw[ct (by simpa using h),if_pos h]
theorem NW{y:Ao}(hy:EO y)(o:List (List Int)):0≤(Db y o).1∧(Db y o).1≤(y.Ac.length:Int):=by
 obtain⟨_,_,e⟩:=Il hy o;have:=Mq DT y.Ac (B4 y o (Db y o).2);rw[e];unfold Ed;omega
theorem JW(y:Ao)(hy:EO y):∀(os:List (List (List Int))) (s:Int×List (List Int)),0<s.1∨os=[]→
  (∀o∈os,(HX y os s).1≤(Db y o).1)∧(HX y os s).1≤s.1∧((HX y os s)=s∨∃o∈os,(HX y os s)=((Db y o).1,o))
 |[],s,_=>⟨fun o f=>(by cases f),Int.le_refl _,.inl rfl⟩
 |o::os,s,h=>by
  have d:0<s.1:=by
   rcases h with h|h
   ·exact h
   ·cases h
  rw[HX]
  by_cases e:(Db y o).1<s.1
  ·rw[if_pos e];show(∀x∈o::os,(cond (decide (0<(Db y o).1)) _ _:Int×List (List Int)).1≤_)∧_
   by_cases c:0<(Db y o).1
   ·rw[ct (dt c)];obtain⟨h1,b,h3⟩:=JW y hy os ((Db y o).1,o) (.inl c);have g:(HX y os ((Db y o).1,o)).1≤(Db y o).1:=b;refine⟨fun x a=>?_,by omega,.inr ?_⟩
    ·rcases List.mem_cons.1 a with rfl|a
     ·exact b
     ·exact h1 x a
    ·rcases h3 with h3|⟨x,a,h3⟩
     ·exact⟨o,List.mem_cons_self ..,h3⟩
     ·exact⟨x,List.mem_cons_of_mem _ a,h3⟩
   ·rw[cf (df c)];refine⟨fun x _=>?_,by show(Db y o).1≤s.1;omega,.inr ⟨o,List.mem_cons_self ..,rfl⟩⟩;have:=(NW hy x).1;show(Db y o).1≤_;omega
  ·rw[if_neg e];show(∀x∈o::os,(cond (decide (0<s.1)) _ _:Int×List (List Int)).1≤_)∧_;rw[ct (dt d)];obtain⟨h1,b,h3⟩:=JW y hy os s (.inl d);refine⟨fun x a=>?_,b,?_⟩
   ·rcases List.mem_cons.1 a with rfl|a
    ·omega
    ·exact h1 x a
   ·rcases h3 with h3|⟨x,a,h3⟩
    ·exact .inl h3
    ·exact .inr ⟨x,List.mem_cons_of_mem _ a,h3⟩
theorem PV {y:Ao} (hy:EO y):(∀o,Dh y o=true→(HY y).1≤(Db y o).1)∧Dh y (HY y).2=true∧(HY y).1=(Db y (HY y).2).1:=by
 obtain⟨h1,b,h3⟩:=JW y hy (GG y) ((y.Ac.length:Int)+1,[]) (.inl (by show(0:Int)<_+1;omega));refine⟨fun o a=>h1 o ((Lm hy).2 a),?_⟩;rcases h3 with h3|⟨o,a,h3⟩
 ·exfalso;obtain⟨o,a⟩:=List.exists_mem_of_ne_nil _ (PU hy);have:=h1 o a;rw[h3] at this;have c:(y.Ac.length:Int)+1≤(Db y o).1:=this;have:=(NW hy o).2;omega
 ·unfold HY;rw[h3];exact⟨Im hy a,rfl⟩
end Go.Proofs.YtkljfdkmjdjpfaaGreat
end
section
namespace Go.Proofs.YtkljfdkmjdjpfaaGreat
def G7(y:Ao)(yes:List Int):Nat:=(List.range y.Ac.length).countP fun i=>yes.getD i 0==0
theorem SA(y:Ao)(r:BN×Int×Unit)(b:y.Ac.length≤4):∀(k m i:Nat) (a:Int),y.Ac.length=i+k→k<m→0≤a→a≤i→
  Er y r m a (i:Int)=some (a+((List.range' i k).countP (fun i=>r.1.l.getD i 0==0):Nat)):=by
 intro k
 induction k with
 |zero=>
  intro m i a h hm h0 h1;cases m with
  |zero=>omega
  |succ m=>rw[Er.eq_2,cf (df (by omega))];simp
 |succ k ih=>
  intro m i a h hm h0 h1;cases m with
  |zero=>omega
  |succ m=>
   rw[Er.eq_2,ct (dt (by omega)),bd (Na r.1 i (by omega)),List.range'_succ,List.countP_cons];cases c:(r.1.l.getD i 0==0) with
   |true=>
    rw[ct rfl,BL (by omega) (by omega),BL (by omega) (by omega),DF,ih m (i+1) (a+1) (by omega) (by omega) (by omega) (by omega)]
    congr 1;simp;omega
   |false=>
    rw[cf rfl,BL (by omega) (by omega),DF,ih m (i+1) a (by omega) (by omega) (by omega) (by omega)]
    congr 1
theorem Rs(y:Ao)(r:BN×Int×Unit)(b:y.Ac.length≤4):∀(k m i:Nat) (a:Int),y.Ac.length=i+k→k<m→0≤a→a≤i→
  Ei y r m a (i:Int)=some (a+((List.range' i k).countP (fun i=>r.1.l.getD i 0==0):Nat)):=by
 intro k
 induction k with
 |zero=>
  intro m i a h hm h0 h1;cases m with
  |zero=>omega
  |succ m=>rw[Ei.eq_2,cf (df (by omega))];simp
 |succ k ih=>
  intro m i a h hm h0 h1;cases m with
  |zero=>omega
  |succ m=>
   rw[Ei.eq_2,ct (dt (by omega)),bd (Na r.1 i (by omega)),List.range'_succ,List.countP_cons];cases c:(r.1.l.getD i 0==0) with
   |true=>
    rw[ct rfl,BL (by omega) (by omega),BL (by omega) (by omega),DF,ih m (i+1) (a+1) (by omega) (by omega) (by omega) (by omega)]
    congr 1;simp;omega
   |false=>
    rw[cf rfl,BL (by omega) (by omega),DF,ih m (i+1) a (by omega) (by omega) (by omega) (by omega)]
    congr 1
def HZ(y:Ao):List (List (List Int))→Int×List Int×List (List Int)→Int×List Int×List (List Int)
  |[],s=>s
  |o::os,s=>
    cond (decide (0≤s.1)&&(Dt DT y o==s.2.1)) (HZ y os s)
      (let s2:=if s.1<(G7 y (Dt DT y o):Int) then ((G7 y (Dt DT y o):Int),Dt DT y o,o) else (s.1,Dt DT y o,s.2.2)
       cond (decide (s2.1<(y.Ac.length:Int))) (HZ y os s2) s2)
def L4(y:Ao):Int×List Int×List (List Int):=HZ y (GG y) (-1,[0,0,0,0],[])
theorem NX{K:Nat}(y:Ao)(hy:EO y)(hK:2000≤K):∀(os:List (List (List Int))) (n:Int) (a:BN) (q:List (List Int)),(∀o∈os,Dh y o=true)→
    ∃(b:Bool) (a2:BN),run (fun(st:Int×BN×(List (List Int))) (x:(List (List Int)))=>(EN K x y st.1 st.2.1 st.2.2).bind fun r=>some (r.1,(r.2.1,r.2.2.1,r.2.2.2))) os (n,a,q)=some (b,(HZ y os (n,a.l,q)).1,a2,(HZ y os (n,a.l,q)).2.2)
  |[],n,a,q,_=>⟨true,a,rfl⟩
  |o::os,n,a,q,h=>by
    have p:=h o (List.mem_cons_self ..);have m:∀x∈os,Dh y x=true:=fun x aB=>h x (List.mem_cons_of_mem _ aB);obtain⟨aC,aD,_⟩:=KI hy p;have s:=hy.n4;obtain⟨b,aE,j⟩:=Ms (K:=K) DT y hy o p hK;have t:CF K (fun(st:Unit) (x:AY×Au)=>(Ep K x.1 x.2).bind fun r=>some (r,())) y o ()=some (b,((B0 y).length:Int),()):=by
      rw[←aE];congr 1;funext st x;rw[bd (OX ..)];rfl
    have h9:=SA y (b,((B0 y).length:Int),()) s y.Ac.length K 0 0 (by omega) (by omega) (by omega) (by omega);have e:=Rs y (b,((B0 y).length:Int),()) s y.Ac.length K 0 0 (by omega) (by omega) (by omega) (by omega);rw[Int.natCast_zero,Int.zero_add] at h9 e;have u:((List.range' 0 y.Ac.length).countP (fun i=>(b,((B0 y).length:Int),()).1.l.getD i 0==0))=G7 y (Dt DT y o):=by
      rw[←List.range_eq_range',←j];rfl
    rw[u] at h9 e;have c:∀(l:Int×BN×List (List Int)) (z:Int×List Int×List (List Int)),(l.1,l.2.1.l,l.2.2)=z→
        ∃(d:Bool) (a2:BN),cond (decide (l.1<(y.Ac.length:Int))) (run (fun(st:Int×BN×(List (List Int))) (x:(List (List Int)))=>(EN K x y st.1 st.2.1 st.2.2).bind fun r=>some (r.1,(r.2.1,r.2.2.1,r.2.2.2))) os l) (some (false,l))=some (d,(cond (decide (z.1<(y.Ac.length:Int))) (HZ y os z) z).1,a2,(cond (decide (z.1<(y.Ac.length:Int))) (HZ y os z) z).2.2):=by
      rintro⟨f,v,aF⟩ z rfl;show∃(d:Bool) (a2:BN),cond (decide (f<(y.Ac.length:Int))) _ _=some (d,(cond (decide (f<(y.Ac.length:Int))) _ _:Int×List Int×List (List Int)).1,a2,(cond (decide (f<(y.Ac.length:Int))) _ _:Int×List Int×List (List Int)).2.2);cases decide (f<(y.Ac.length:Int)) with
      |false=>exact⟨false,v,rfl⟩
      |true=>exact NX y hy hK os f v aF m
    have main:∀z9:Int,z9=(G7 y (Dt DT y o):Int)→∃(d:Bool) (a2:BN),
        (((cond (decide (n<z9)) ((Fc K o).bind fun w=>some ((decide (z9<(y.Ac.length:Int)),z9,b,w))) (some ((decide (n<(y.Ac.length:Int)),n,b,q))):Option (Bool×Int×BN×List (List Int))).bind fun r=>some (r.1,(r.2.1,r.2.2.1,r.2.2.2))).bind fun r=>cond r.1 (run (fun(st:Int×BN×(List (List Int))) (x:(List (List Int)))=>(EN K x y st.1 st.2.1 st.2.2).bind fun r=>some (r.1,(r.2.1,r.2.2.1,r.2.2.2))) os r.2) (some (false,r.2)))=
        some (d,(let s2:=if n<(G7 y (Dt DT y o):Int) then ((G7 y (Dt DT y o):Int),Dt DT y o,o) else (n,Dt DT y o,q)
       cond (decide (s2.1<(y.Ac.length:Int))) (HZ y os s2) s2).1,a2,(let s2:=if n<(G7 y (Dt DT y o):Int) then ((G7 y (Dt DT y o):Int),Dt DT y o,o) else (n,Dt DT y o,q)
       cond (decide (s2.1<(y.Ac.length:Int))) (HZ y os s2) s2).2.2):=by
      rintro z9 rfl
      by_cases g:n<(G7 y (Dt DT y o):Int)
      · rw[ct (dt g),bd (NU o aC aD hK)];simp only[if_pos g];exact c ((G7 y (Dt DT y o):Int),b,o) ((G7 y (Dt DT y o):Int),Dt DT y o,o) (by show(_,b.l,o)=_;rw[j])
      · rw[cf (df g)];simp only[if_neg g];exact c (n,b,q) (n,Dt DT y o,q) (by show(_,b.l,q)=_;rw[j])
    rw[run,HZ];show∃(d:Bool) (a2:BN),Option.bind ((EN K o y n a q).bind _) _=_;unfold EN;rw[bd t]
    by_cases k:0≤n
    · rw[ct (dt k),dt k,Bool.true_and];have aA:([b.a0,b.a1,b.a2,b.a3]==[a.a0,a.a1,a.a2,a.a3])=(Dt DT y o==a.l):=by rw[←j];rfl
      rw[aA];cases g:(Dt DT y o==a.l) with
      |true=>
        rw[ct rfl,ct rfl];exact NX y hy hK os n a q m
      |false=>
        rw[cf rfl,cf rfl,bd h9];exact main _ rfl
    · rw[cf (df k),df k,Bool.false_and,cf rfl,bd e];exact main _ rfl
theorem T7{K:Nat}(y:Ao)(hK:2000≤K):GY K y=some (if check y≠0 then ([],0,check y) else ((L4 y).2.2,(L4 y).1,0)):=by
 unfold GY;rw[bd (Ir hK y)]
 by_cases h:check y=0
 ·rw[h,cf (by decide),if_neg (by simp)];have hy:=FF h;rw[NT _ y hy hK];obtain⟨b,a2,e⟩:=NX (K:=K) y hy hK (GG y) (-1) ⟨0,0,0,0⟩ [] fun o a=>Im hy a;exact Eq.trans (congrArg (fun z=>Option.bind (Option.bind z _) _) e) rfl
 ·rw[ct (by simpa using h),if_pos h]
end Go.Proofs.YtkljfdkmjdjpfaaGreat
end
section
namespace Go.Proofs.YtkljfdkmjdjpfaaGreat
def GH(n i k:Nat):List Int:=((List.range' k (n-k)).filter fun j=>j !=i).map fun j:Nat=>(j:Int)
def F4 (y:Ao) (i:Nat):List (List Int):=((i:Int)::GH y.Ac.length i 0)::List.replicate (y.Ah.toNat-1) []
theorem T8{α:Type}(x:α)(r:List α):idx (x::r) (0:Int)=some x:=idx_eq (xs:=x::r) (k:=0) (by simp)
theorem Ve(n i:Nat)(f:n≤4):∀(d m k:Nat) (x:List Int) (r:List (List Int)),n=k+d→d<m→x.length≤1+k→
  Jc (n:Int) (i:Int) m (k:Int) (x::r)=some ((x++GH n i k)::r):=by
 intro d
 induction d with
 |zero=>
  intro m k x r h hm e;cases m with
  |zero=>omega
  |succ m=>
   rw[Jc,cf (df (by omega))];unfold GH;rw[show n-k=0 by omega];simp
 |succ d ih=>
  intro m k x r h hm e;cases m with
  |zero=>omega
  |succ m=>
   have b:idx (x::r) (0:Int)=some x:=T8 x r;have c:GH n i k=cond (k !=i) ((k:Int)::GH n i (k+1)) (GH n i (k+1)):=by
    unfold GH;rw[show n-k=(n-(k+1))+1 by omega,List.range'_succ,List.filter_cons];cases g:(k !=i) with
    |true=>rfl
    |false=>rfl
   rw[Jc,ct (dt (by omega))]
   by_cases a:k=i
   ·have:((k:Int) !=(i:Int))=false:=by rw[a];exact bne_self_eq_false ..
    rw[this,cf rfl,BL (by omega) (by omega),DF,ih m (k+1) x r (by omega) (by omega) (by omega),c,show(k !=i)=false by rw[a];exact bne_self_eq_false ..];rfl
   ·have:((k:Int) !=(i:Int))=true:=by rw[bne_iff_ne];omega
    rw[this,ct rfl,bd b,Fv (by simp;omega),bd b,BL (by omega) (by omega),DF];show Jc _ _ m _ ((x++[(k:Int)])::r)=_;rw[ih m (k+1) (x++[(k:Int)]) r (by omega) (by omega) (by simp;omega),c,show(k !=i)=true by rw[bne_iff_ne];exact a];simp
theorem KJ{y:Ao}(hy:EO y){i:Nat}(hi:i<y.Ac.length):Dh y (F4 y i)=true:=by
 have h1:=hy.r1;rw[EZ];refine⟨by unfold F4;simp;omega,?_⟩;have e:(F4 y i).flatten=(i:Int)::GH y.Ac.length i 0:=by
  unfold F4;rw[List.flatten_cons];have:(List.replicate (y.Ah.toNat-1) ([]:List Int)).flatten=[]:=by
   simp
  rw[this,List.append_nil]
 rw[e];unfold GH iota;rw[←List.range_eq_range',Nat.sub_zero];have:((i:Int)::((List.range y.Ac.length).filter fun j=>j !=i).map fun j:Nat=>(j:Int))=(i::((List.range y.Ac.length).filter fun j=>j !=i)).map fun j:Nat=>(j:Int):=rfl;rw[this];refine List.Perm.map _ ?_;have hm:i∈List.range y.Ac.length:=List.mem_range.2 hi;have a:=List.perm_cons_erase hm;rw[List.Nodup.erase_eq_filter List.nodup_range] at a;exact a.symm
def Dl(y:Ao)(k d:Nat):List Int:=((List.range' k d).filter fun i=> !(B0 y).all (G6 y (F4 y i) i)).map fun i:Nat=>(i:Int)
theorem PW{K:Nat}(y:Ao)(hy:EO y)(hK:2000≤K):∀(d m i:Nat) (a:List Int),y.Ac.length=i+d→d<m→a.length≤i→
  DY K y m a (i:Int)=some (a++Dl y i d):=by
 have f:=hy.n4;have q:=hy.r1;have s:=hy.r2;intro d
 induction d with
 |zero=>
  intro m i a h hm g;cases m with
  |zero=>omega
  |succ m=>rw[DY.eq_2,cf (df (by omega))];simp[Dl]
 |succ d ih=>
  intro m i a h hm g;cases m with
  |zero=>omega
  |succ m=>
   have hi:i<y.Ac.length:=by omega
   have j:=KJ hy hi;obtain⟨b,k,n⟩:=Ms (K:=K) D9 y hy (F4 y i) j hK;have c:CF K (fun(st:Unit) (x:AY×Au)=>(Dg K x.1 x.2).bind fun r=>some (r,())) y (F4 y i) ()=some (b,((B0 y).length:Int),()):=by
    rw[←k];congr 1;funext st x;rw[bd (Mp ..)]
   have er:List.replicate y.Ah.toNat ([]:List Int)=[]::List.replicate (y.Ah.toNat-1) []:=by
    rw[←List.replicate_succ];congr 1;omega
   have e:=Ve y.Ac.length i f y.Ac.length K 0 [(i:Int)] (List.replicate (y.Ah.toNat-1) []) (by omega) (by omega) (by simp);rw[DY.eq_2,ct (dt (by omega)),NI (by omega) (by omega) (by omega),er];rw[bd (show idx (([]:List Int)::List.replicate (y.Ah.toNat-1) []) (0:Int)=some [] from T8 _ _)];rw[Int.natCast_zero] at e;show(Jc _ _ K (0:Int) ([(i:Int)]::List.replicate (y.Ah.toNat-1) [])).bind _=_;rw[bd e];show(CF K _ y (F4 y i) ()).bind _=_;rw[bd c,bd (Na b i (by omega))];have o:((b.l.getD i 0)==((B0 y).length:Int))=(B0 y).all (G6 y (F4 y i) i):=by
    rw[n,L0 D9 y hy (F4 y i) i hi,MU];rfl
   show cond ((b.l.getD i 0)==((B0 y).length:Int)) _ _=_;rw[o];have p:Dl y i (d+1)=cond ((B0 y).all (G6 y (F4 y i) i)) (Dl y (i+1) d) ((i:Int)::Dl y (i+1) d):=by
    unfold Dl;rw[List.range'_succ,List.filter_cons];cases (B0 y).all (G6 y (F4 y i) i)<;>rfl
   rw[p];cases (B0 y).all (G6 y (F4 y i) i) with
   |true=>
    rw[ct rfl,BL (by omega) (by omega),DF,ih m (i+1) a (by omega) (by omega) (by omega)];rfl
   |false=>
    rw[cf rfl,Fv (by simp;omega),BL (by omega) (by omega),DF,ih m (i+1) (a++[(i:Int)]) (by omega) (by omega) (by simp;omega)];simp
theorem PX{K:Nat}(y:Ao)(hK:2000≤K):E6 K y=some (if check y≠0 then ([],check y) else (Dl y 0 y.Ac.length,0)):=by
 unfold E6;rw[bd (Ir hK y)]
 by_cases h:check y=0
 ·rw[h,if_neg (by simp)];have e:=PW (K:=K) y (FF h) hK y.Ac.length K 0 [] (by omega) (by have:=(FF h).n4;omega) (by simp);rw[Int.natCast_zero] at e;show cond false _ _=_;rw[cf rfl,bd e,List.nil_append]
 ·rw[ct (by simpa using h),if_pos h]
end Go.Proofs.YtkljfdkmjdjpfaaGreat
end
