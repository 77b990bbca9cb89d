import Derived.Test.YtkljfdkmjdjpfaaGreatBB1
import Derived.WalkKit
import Derived.KernelRfl
import Derived.WalkSpells
import Derived.WalkLawsBesides
import Derived.Maps.AppendAt
import Derived.OrdersIn
import Derived.RangeFuncIn
import Derived.RangeFuncLeaves
import Derived.RangeFuncRecord
import Derived.RangeFuncSeq
import Derived.Scope
import Derived.DeepKeys3
import Derived.Laws.CopyRow
import Derived.Laws.OwnMore
import Derived.Laws.MakeOwn
import Derived.Laws.IdiomCopy
/-
  The contracts of the functions of the program and of the reference, and the logic that they are proved in: the base that several claims of this seat share.
-/
set_option linter.all false
section
namespace Go.Proofs.YtkljfdkmjdjpfaaGreat
open Go.RowKit Go.WideShapes
theorem Vl{f:Operand→Value}{i0 i1 i2 i3 i4:Nat}{a x1 x2 b c:Operand}{v0 v1 v2 v3 v4:Value}(h0:f a=v0)(h1:f x1=v1)(d:f x2=v2)(h3:f b=v3)(e:f c=v4): #[(i0,a),(i1,x1),(i2,x2),(i3,b),(i4,c)].map (fun(i,x)=>(i,f x))= #[(i0,v0),(i1,v1),(i2,v2),(i3,v3),(i4,v4)]:=by simp[h0,h1,d,h3,e]
section
variable{F F' F0:Nat→Prop}{B:List (Option Nat)}{w0 w w' w1 w2:World}{Z Z':Nat→Prop}{L L' M C:List (Option Nat)}{D:Nat→Prop}
theorem BL(a:List Nat)(h:F9 L a M):∀x∈M,x∈L:=h.sub
theorem AE(a:List Nat)(h:F9 L a M)(b:∀k,F' k→F k):∀k,FU F' M k→F k∨some k∈L:=S5 h.sub b
theorem CJ(h:∀k,F0 k→F k):∀k,FU F0 C k→F k∨some k∈C:=fun k a=>a.imp (h k) id
theorem FZ{k:Nat}{o:Obj}{r:Option Nat}(h:w.heap[k]?=some o)(g:w.grownBy w' r)(a:some k≠r):w'.heap[k]?=some o:=(g.block k (Array.getElem?_eq_some_iff.1 h).1 a).trans h
theorem EN{k:Nat}{o:Obj}(h:w.heap[k]?=some o)(g:Bf D w w')(a:¬D k):w'.heap[k]?=some o:=(g.block k (Array.getElem?_eq_some_iff.1 h).1 a).trans h
theorem Ce.Bw{α:Type}{ev:α→Value}{r n:Nat}{a:List (List Int×α)}(h:Ce ev w r n a)(g:Bf D w w')(b:¬D r):Ce ev w' r n a:=h.of (g.block r h.lt b)
theorem Ce.FI{α:Type}{ev:α→Value}{r n:Nat}{a:List (List Int×α)}(h:Ce ev w r n a)(e:w'.heap[r]?=w.heap[r]?):Ce ev w' r n a:=h.of e
theorem Bk.FI{b:Nat}{t:TypeId}{cs:Array Value}(h:Bk w b t cs)(e:w'.heap[b]?=w.heap[b]?):Bk w' b t cs:=e.trans h
theorem Hp.zz(h:Hp F B w0 L w)(a c:List Nat)(d:F9 L a M)(e:F9 L c C)(f:∀k,F' k→F k∨some k∈C):∀b,ZZ F B Z w0.heap.size L b→¬F' b∧some b∉M:=h.zc d.sub fun k g=>(f k g).imp id (e.sub _)
theorem Hp.mz(h:Hp F B w0 L w)(a b:List Nat)(c:F9 L a M)(d:F9 L b C)(e:∀k,F' k→F k∨some k∈C):Mv w (ZZ F B Z w0.heap.size L) w (ZC F' M):=Rj (h.zz a b c d e)
theorem N6{i:Nat}{a b:List Nat}(h:((a++b).all fun j=> !Nat.beq i j)=true):(a.all fun j=> !Nat.beq i j)=true∧(b.all fun j=> !Nat.beq i j)=true:=by
 rw[List.all_append,Bool.and_eq_true] at h;exact h
theorem Hp.bz(h:Hp F B w0 L w)(i:Nat){b:Nat}(hi:L[i]?=some (some b))(a c:List Nat)(e:F9 L a M)(f:F9 L c C)(g:∀k,F' k→F k∨some k∈C)(d:((a++c).all fun j=> !Nat.beq i j)=true):ZC F' M b:=by
 have h1:=h.Bv (F':=F) i hi a (N6 d).1 e (fun _ h=>h);have l:=h.Bv (F':=F) i hi c (N6 d).2 f (fun _ h=>h);exact⟨fun m=>l ((g b m).imp id id),fun hm=>h1 (.inr hm)⟩
theorem Hp.rz{α:Type}{e:DV α}{t:TypeId}{n0:Nat}{A:Option Addr}{c:Nat}{xs:List α}(h:Hp F B w0 L w)(i:Nat)(hi:L[i]?=some (ob A))(a b:List Nat)(d:F9 L a M)(f:F9 L b C)(g:∀k,F' k→F k∨some k∈C)(l:((a++b).all fun j=> !Nat.beq i j)=true)
  (m:AB e t n0 w (ZZ F B Z w0.heap.size L) A c xs):Sl e w (ZC F' M) A c xs:=
 (m.up (h.mz a b d f g)).sl fun k n _=>h.bz i (by rw[hi,n]) a b d f g l
theorem Bn{Z:Nat→Prop}(w:World):Mv w Z w (ZZ FN [] Z w.heap.size L):=Bb (fun _ _=>⟨id,by simp⟩) w
theorem IV(h:Mv w Z w' Z):Mv w Z w' (ZZ FN [] Z w.heap.size M):=⟨h.size,fun b a c=>⟨.inl ⟨c,a,id,by simp⟩,(h.stay b a c).2⟩⟩
theorem Kq{n:Nat}:Mv w (ZZ FN [] Z n M) w (ZZ FN [] Z n [none]):=GI fun b a _=>a.imp id fun⟨h1,_⟩=>⟨h1,by simp⟩
theorem KU{n:Nat}{o:Option Nat}(h:o∈M:=by simp):Mv w (ZZ FN [] Z n M) w (ZZ FN [] Z n [o]):=GI fun b a _=>a.imp id fun⟨h1,c⟩=>⟨h1,fun hm=>by
 rw[List.mem_singleton] at hm;exact c (by rw[hm];exact h)⟩
theorem JU(g:Bf D w w')(h:∀b,Z b→¬D b):Mv w Z w' Z:=⟨g.size,fun b a c=>⟨a,g.block b c (h b a)⟩⟩
theorem Jk{b:Nat}{o:Option Nat}(h:¬FU FN C b∧some b≠o):¬FU FN C b:=h.1
theorem PA{b:Nat}{o:Option Nat}(h:¬FU F C b∧some b≠o):¬FU F (C++[o]) b:=by
 rintro(h1|h1)
 ·exact h.1 (.inl h1)
 ·rcases List.mem_append.1 h1 with a|a
  ·exact h.1 (.inr a)
  ·exact h.2 (by simpa using a)
theorem Ev{b:Nat}{o:Option Nat}(h:¬FU F C b)(k:some b≠o):¬F b∧some b∉C++[o]:=
 ⟨fun h1=>h (.inl h1),fun h1=>by
  rcases List.mem_append.1 h1 with a|a
  ·exact h (.inr a)
  ·exact k (by simpa using a)⟩
theorem Bf.lf{o:Option Nat}(g:Bf (FU F (C++[o])) w w'):Bf (FU (FU F C) [o]) w w':=g.mono fun k h=>by
 rcases h with h|h
 ·exact .inl (.inl h)
 ·rcases List.mem_append.1 h with a|a
  ·exact .inl (.inr a)
  ·exact .inr a
theorem Bf.PB{o:Option Nat}(g:Bf (FU F C) w w'):Bf (FU (FU F C) [o]) w w':=g.mono fun _ h=>.inl h
theorem Bf.cl{M1 M2:List (Option Nat)}(g:Bf (FU (FU F M1) M2) w w'):Bf (FU F (M1++M2)) w w':=g.fl
theorem Hp.Iz(h:Hp F B w0 L w)(b:List Nat)(c:F9 L b C)(d:∀k,F0 k→F k):∀k,FU F0 C k→k<w.heap.size:=fun k a=>by
 rcases a with a|a
 ·exact Nat.lt_of_lt_of_le (h.ff k (d k a)) h.sz
 ·exact(h.lo k (c.sub _ a)).1
theorem Hp.Rn(h:Hp F B w0 L w)(i:Nat){k:Nat}(hi:L[i]?=some (some k))(a:List Nat)(b:(a.all fun j=> !Nat.beq i j)=true)(c:F9 L a C):k<w.heap.size∧¬FU F C k:=
 ⟨(h.lo k (List.mem_of_getElem? hi)).1,h.Bv (F':=F) i hi a b c fun _ h=>h⟩
theorem Hp.CQ{x c:Option Nat}(h:Hp F B w0 L w)(i:Nat)(hi:L[i]?=some x)(a:List Nat)(e:(a.all fun j=> !Nat.beq i j)=true)(f:F9 L a M)(g:∀y∈B,y=c∨y∈M):∀k,x=some k→(c=some k∨w0.heap.size≤k)∧k<w.heap.size:=fun k d=>by
 have h1:=h.lo k (List.mem_of_getElem? (by rw[hi,d]));refine⟨?_,h1.1⟩;rcases Nat.lt_or_ge k w0.heap.size with b|b
 ·left;rcases g _ (h1.2.2 b) with h3|h3
  ·exact h3.symm
  ·exact absurd (.inr h3) (h.Bv (F':=F) i (by rw[hi,d]) a e f fun _ h=>h)
 ·exact .inr b
theorem BK.snoc{o:Option Nat}(h:BK F C w)(g:∀k,o=some k→k<w.heap.size∧¬FU F C k):BK F (C++[o]) w:=by
 refine⟨fun k p=>?_,fun i j x l hi e=>?_,h.ff⟩
 ·rcases List.mem_append.1 p with h1|h1
  ·exact h.lt k h1
  ·have c:=g k (by rw[List.mem_singleton] at h1;exact h1.symm);exact⟨c.1,fun q=>c.2 (.inl q)⟩
 ·have key:∀(a b:Nat),a<C.length→¬b<C.length→(C++[o])[a]?=some (some x)→(C++[o])[b]?=some (some x)→False:=fun a b r s h1 c=>by
   rw[List.getElem?_append_left r] at h1;rw[List.getElem?_append_right (by omega)] at c;have m:b-C.length=0:=by
    rcases Nat.eq_zero_or_pos (b-C.length) with h|h
    ·exact h
    ·rw[List.getElem?_eq_none (by simp;omega)] at c;cases c
   rw[m] at c;have n:o=some x:=by simpa using c
   exact(g x n).2 (.inr (List.mem_of_getElem? h1))
  by_cases f:i<C.length
  ·by_cases d:j<C.length
   ·rw[List.getElem?_append_left f] at hi;rw[List.getElem?_append_left d] at e;exact h.ap i j x l hi e
   ·exact key i j f d hi e
  ·by_cases d:j<C.length
   ·exact key j i d f e hi
   ·have t:(C++[o]).length=C.length+1:=by simp
    have h1:=(List.getElem?_eq_some_iff.1 hi).1;have c:=(List.getElem?_eq_some_iff.1 e).1;omega
theorem BK.keep{o o':Option Nat}(h:BK F C w)(d:w.heap.size≤w1.heap.size)(a:∀k,o=some k→k<w1.heap.size∧¬FU F C k)(hy:∀k,o'=some k→(o=some k∨w1.heap.size≤k)∧k<w2.heap.size):∀k,o'=some k→k<w2.heap.size∧¬FU F C k:=fun k b=>by
 obtain⟨h1,c⟩:=hy k b;refine⟨c,?_⟩;rcases h1 with h1|h1
 ·exact(a k h1).2
 ·rintro(h3|h3)
  ·have:=h.ff k h3;omega
  ·have:=(h.lt k h3).1;omega
def UP(L:List (Option Nat))(n:Nat):List (Option Nat)→Prop
 |[]=>True
 |x::M=>((∃j:Nat,L[j]?=some x)∨∀k,x=some k→some k∈L∨n≤k)∧UP L n M
theorem Cp{n:Nat}:∀{M:List (Option Nat)},UP L n M→∀k,some k∈M→some k∈L∨n≤k
 |[],_,_,h=>by cases h
 |x::M,h,k,a=>by
  rcases List.mem_cons.1 a with e|a
  ·rcases h.1 with⟨j,b⟩|h1
   ·left;rw[e];exact List.mem_of_getElem? b
   ·exact h1 k e.symm
  ·exact Cp h.2 k a
theorem Dy{y:Option Nat}(i:Nat)(h:y∈M):∀x∈L.set i y,x∈L∨x∈M:=fun x a=>by
 rcases List.mem_or_eq_of_mem_set a with h1|e
 ·exact .inl h1
 ·exact .inr (by rw[e];exact h)
theorem Ij{o:Option Nat}:∀b,ZC F [o] b→¬F b∧some b≠o:=fun _ h=>⟨h.1,fun e=>h.2 (by rw[e];exact List.mem_singleton_self _)⟩
end
theorem N7{F:Nat→Prop}{B L:List (Option Nat)}{n:Nat}{Z Z':Nat→Prop}(h:∀b,Z b→Z' b):∀b,ZZ F B Z n L b→ZZ F B Z' n L b:=fun b a=>a.imp (fun⟨h1,c,h3⟩=>⟨h1,h b c,h3⟩) id
def IA{α:Type}(e:DV α)(w:World)(Z:Nat→Prop)(A:Option Addr)(c:Nat)(xs:List α):Prop:=
 xs.length≤c∧(A=none→c=0)∧∃Be,R2 e w Z Be xs∧Rz w ZA A Be.flatten
section
variable{α:Type}{e:DV α}{t:TypeId}{n0:Nat}{w w':World}{Z Z':Nat→Prop}{A:Option Addr}{c:Nat}{xs:List α}
theorem IA.ext(h:IA e w Z A c xs)(g:Ext w w')(hm:Mv w Z w' Z'):IA e w' Z' A c xs:=⟨h.1,h.2.1,h.2.2.imp fun _ h=>⟨h.1.mv hm,h.2.mv (Ak g)⟩⟩
theorem AB.n(h:AB e t n0 w Z A c xs):IA e w Z A c xs:=by
 have a:=h.all;obtain⟨Be,h3,b⟩:=h;refine⟨a.1,a.2.1,Be,h3,?_⟩;have d:=b.rd;exact MP d fun _ _ _=>trivial
theorem Sl.n(h:Sl e w Z A c xs):IA e w Z A c xs:=⟨h.1,h.2.1,h.2.2.imp fun _ h=>⟨h.1,h.2.mv JQ⟩⟩
theorem Sl.HE(a:∀w Z w' Z' cs x,e.R w Z cs x→e.R w' Z' cs x)(h:Sl e w Z A c xs):IA e w Z' A c xs:=⟨h.1,h.2.1,h.2.2.imp fun _ h=>⟨h.1.free a,h.2.mv JQ⟩⟩
theorem AB.HE(a:∀w Z w' Z' cs x,e.R w Z cs x→e.R w' Z' cs x)(h:AB e t n0 w Z A c xs):IA e w Z' A c xs:=h.all.HE a
end
section
variable{P:Program}{a:Act}{w:World}{dst:Option Tmp}{ty:TypeId}{pos:String}{BW:Array Edge}{g:Option (Nat×Bool)}
theorem GM{α:Type}{e:DV α}{s x:Operand}{t j:TypeId}{z:Value}{sz bytes:Nat}(ht:P.underlying t=some (.slice j))(hi:(P.info? j).map (fun i=>(i.zero,i.size,i.bytes))=some (some z,sz,bytes))(l:z.cells.size=sz)(m:e.sz=sz)(h0:0<sz)
  {n0:Nat}{Z:Nat→Prop}{A B:Option Addr}{c d n:Nat}{xs ys:List α}(u:a.eval s=.slice A n c)(y:xs.length=n)(aA:a.eval x=.slice B ys.length d)(h:AB e j n0 w Z A c xs)(hy:IA e w Z B d ys)
  (o:xs.length+ys.length≤maxLen)(b:(xs.length+ys.length)*bytes≤140737488355328)(f:n0≤w.heap.size):
  BD P ⟨dst,.call {callee:=.builtin .append,args:= #[s,x],argTypes:= #[t,t]},ty,pos,BW,g⟩ a w (fun v w'=>∃r aB,v=.slice r (xs++ys).length aB∧w.grownBy w' (ob A)∧(∀k,ob r=some k→(ob A=some k∨w.heap.size≤k)∧k<w'.heap.size)∧
   ∃Be p,R2 e w Z Be xs∧R2 e w Z p ys∧DK w' n0 j e.sz r (xs++ys).length aB (Be++p).flatten):=by
 by_cases q:ys=[]
 ·refine S9 ht hi l m h0 u y aA h ?_ o b f;subst q;exact⟨hy.1,hy.2.1,[],trivial,.inl rfl⟩
 ·obtain⟨_,_,Be,h1,aC⟩:=hy;exact JR ht hi l m h0 u y aA h ⟨Be,h1,aC⟩ o b f q
end
section
variable{α:Type}{e:DV α}{t:TypeId}{n0:Nat}{w w':World}{Z Z':Nat→Prop}{A:Option Addr}{c:Nat}{xs:List α}
theorem AB.OT(a:∀w Z w' Z' cs x,e.R w Z cs x→e.R w' Z' cs x)(h:AB e t n0 w Z A c xs):AB e t n0 w Z' A c xs:=by
 obtain⟨Be,h1,b⟩:=h;exact⟨Be,h1.free a,b⟩
theorem AB.OU(h:AB e t n0 w Z A c xs):A=none→c=0:=h.all.2.1
theorem AB.keep(h:AB e t n0 w Z A c xs)(hm:Mv w Z w' Z')(d:∀k,ob A=some k→w'.heap[k]?=w.heap[k]?):AB e t n0 w' Z' A c xs:=by
 obtain⟨Be,h1,a⟩:=h;refine⟨Be,h1.mv hm,a.1,a.2.imp id ?_⟩;rintro⟨b,cap,cur,f,h3,g,i⟩;cases f;exact⟨b,_,cur,rfl,h3,(d b rfl).trans g,i⟩
end
def EJ{α:Type}(xs:List α)(l h:Int):List α:=(xs.take h.toNat).drop l.toNat
def OV(n:Nat)(l h:Int):Option Unit:=if 0≤l∧l≤h∧h≤(n:Int) then some () else none
theorem PC{α:Type}{n:Nat}{l h:Int}{f:Unit→Option α}{r:α}(a:(OV n l h).bind f=some r):(0≤l∧l≤h∧h≤(n:Int))∧f ()=some r:=by
 unfold OV at a;split at a
 ·exact⟨by assumption,a⟩
 ·cases a
def SB(a:Act)(o:Option Operand)(v d:Int):Prop:=(o=none∧v=d)∨∃x k,o=some x∧a.eval x=.int k v
theorem U0{a:Act}{d:Int}:SB a none d d:=.inl ⟨rfl,rfl⟩
theorem U1{a:Act}{x:Operand}{k:IntKind}{v d:Int}(h:a.eval x=.int k v):SB a (some x) v d:=.inr ⟨x,k,rfl,h⟩
theorem Jl{P:Program}(w:World)(k:IntKind)(i:Int)(y:Nat)(code:BoundsCode)(h0:0≤i)(h1:i≤(y:Int)):(Instr.sliceBound (.int k i) y code).run P w=.ok i.toNat w:=by
 simp[Instr.sliceBound,asIntOf,h0,h1]
section
variable{P:Program}{a:Act}{w:World}{dst:Option Tmp}{ty:TypeId}{pos:String}{BW:Array Edge}{g:Option (Nat×Bool)}
theorem Ta{α:Type}{e:DV α}{Z:Nat→Prop}{xs:List α}{t v:TypeId}{sz:Nat}{x:Operand}{A:Option Addr}{c:Nat}{lo hi:Option Operand}{l h:Int}(ht:P.underlying t=some (.slice v))(aI:(P.info? v).map (·.size)=some sz)(z:e.sz=sz)
  (aJ:a.eval x=.slice A xs.length c)(i:SB a lo l 0)(aA:SB a hi h xs.length)(aK:Sl e w Z A c xs)(aL:0≤l∧l≤h∧h≤(xs.length:Int)):
  BD P ⟨dst,.slice t x lo hi none,ty,pos,BW,g⟩ a w (fun u w'=>(∃aB aC,u=.slice aB (EJ xs l h).length aC∧Sl e w Z aB aC (EJ xs l h))∧w'=w):=by
 subst z;obtain⟨aR,m,Be,n,h3⟩:=aK;obtain⟨aS,aT,aU⟩:=aL;have hlen:(EJ xs l h).length=h.toNat-l.toNat:=by
  unfold EJ;rw[List.length_drop,List.length_take];omega
 have p:(Instr.sliceAt t (.slice A xs.length c) (lo.map a.eval) (hi.map a.eval) none).run P w=.ok (.slice (if c=l.toNat then A else A.map (·.add (l.toNat*e.sz))) (h.toNat-l.toNat) (c-l.toNat)) w:=by
  have aM:(Instr.sliceBounds true xs.length c (lo.map a.eval) (hi.map a.eval) none).run P w=.ok (l.toNat,h.toNat,c) w:=by
   unfold Instr.sliceBounds;rcases aA with⟨rfl,rfl⟩|⟨y,k,rfl,hy⟩
   ·rcases i with⟨rfl,rfl⟩|⟨aN,k',rfl,d⟩
    ·simp
    ·simp[d,Jl w k' l xs.length _ (by omega) (by omega)]
   ·have aD:=fun code=>Jl (P:=P) w k h c code (by omega) (by omega);rcases i with⟨rfl,rfl⟩|⟨aN,k',rfl,d⟩
    ·simp[hy,aD]
    ·simp[hy,d,aD,Jl w k' l h.toNat _ (by omega) (by omega)]
  simp[Instr.sliceAt,Instr.slice,underlying,program,Sem.run,ht,aM,H8 aI]
 refine(RE aJ rfl rfl p).mono ?_;rintro u w' ⟨rfl,rfl⟩;refine⟨⟨_,_,by rw[hlen],?_⟩,rfl⟩;have q:=(n.take h.toNat).drop l.toNat;have aE:((Be.take h.toNat).drop l.toNat).flatten=[]∨(0<e.sz∧l.toNat<h.toNat):=by
  rcases Nat.eq_zero_or_pos e.sz with h0|h0
  ·left;exact List.eq_nil_of_length_eq_zero (by rw[q.Ig,h0,Nat.mul_zero])
  ·rcases Nat.lt_or_ge l.toNat h.toNat with r|r
   ·exact .inr ⟨h0,r⟩
   ·left;exact List.eq_nil_of_length_eq_zero (by rw[q.Ig,List.length_drop,List.length_take,show min h.toNat xs.length-l.toNat=0 by omega,Nat.zero_mul])
 refine⟨by rw[hlen];omega,fun s=>?_,_,q,?_⟩
 ·split at s
  ·have:=m s;omega
  ·have:=m (by simpa using s);omega
 ·rcases aE with h0|⟨h0,r⟩
  ·exact .inl h0
  ·rcases h3 with aO|⟨b,o,rfl,aP,aF,f⟩
   ·left;have aG:=n.Ig;rw[aO] at aG;simp only[List.length_nil] at aG;have aV:0<xs.length*e.sz:=Nat.mul_pos (by omega) h0;omega
   ·right;have aH:¬c=l.toNat:=by omega
    refine⟨b,o+l.toNat*e.sz,by simp[aH,E7],aP,aF,fun j u hu=>?_⟩;rw[Nat.add_assoc];refine f _ _ ?_;rw[←(n.take h.toNat).Ri h0,List.getElem?_drop] at hu;have aQ:Be.flatten=(Be.take h.toNat).flatten++(Be.drop h.toNat).flatten:=by rw[←List.flatten_append,List.take_append_drop]
    rw[aQ,List.getElem?_append_left (List.getElem?_eq_some_iff.1 hu).1];exact hu
end
def JV(n:Int)(b:Nat):Option Unit:=if 0≤n∧n*b≤140737488355328∧n≤140737488355328 then some () else none
theorem G5{α:Type}{n:Int}{b:Nat}{f:Unit→Option α}{r:α}(h:(JV n b).bind f=some r):(0≤n∧n*b≤140737488355328∧n≤140737488355328)∧f ()=some r:=by
 unfold JV at h;split at h
 ·exact⟨by assumption,h⟩
 ·cases h
theorem JW(z:Array Value):∀m:Nat,(madeCells z (m*z.size)).toList=(List.replicate m z.toList).flatten
 |0=>by simp[madeCells]
 |m+1=>by
  have ih:=JW z m;have e:∀k,(madeCells z k).toList=(List.range k).map (z[· %z.size]!):=fun k=>by simp[madeCells]
  rw[e] at ih⊢;rw[Nat.add_mul,Nat.one_mul,List.range_add,List.map_append,ih,List.replicate_succ',List.flatten_append]
  congr 1
  simp only[List.map_map,List.flatten_cons,List.flatten_nil,List.append_nil];refine List.ext_getElem (by simp) fun i h1 a=>?_;simp only[List.getElem_map,List.getElem_range,Function.comp];have hi:i<z.size:=by simpa using a
  rw[Nat.add_comm,Nat.add_mul_mod_self_right,Nat.mod_eq_of_lt hi];simp[hi]
theorem R2.UQ{α:Type}{e:DV α}{w:World}{Z:Nat→Prop}{c:List Value}{x:α}(h:e.R w Z c x):∀m:Nat,R2 e w Z (List.replicate m c) (List.replicate m x)
 |0=>trivial
 |m+1=>⟨h,R2.UQ h m⟩
section
variable{P:Program}{a:Act}{w:World}{dst:Option Tmp}{ty:TypeId}{pos:String}{BW:Array Edge}{g:Option (Nat×Bool)}
theorem Hy{α:Type}{e:DV α}{z:α}{zc:List Value}{n0:Nat}{t j:TypeId}{d:Value}{sz bytes:Nat}{n:Int}{x y:Operand}{m o:IntKind}{b':Nat}(ht:P.underlying t=some (.slice j))(hi:(P.info? j).map (fun i=>(i.zero,i.size,i.bytes))=some (some d,sz,bytes))
  (p:d.cells.toList=zc)(c:e.sz=sz)(aB:a.eval x=.int m n)(hy:a.eval y=.int o n)(hm:0≤n∧n*b'≤140737488355328∧n≤140737488355328)(q:∀w Z,e.R w Z zc z)(aC:n0≤w.heap.size)(aF:bytes≤b'):
  BD P ⟨dst,.makeSlice t x y,ty,pos,BW,g⟩ a w (fun u w'=>∃b,u=.slice (some ⟨b,0,none⟩) (List.replicate n.toNat z).length n.toNat∧w.heap.size≤b∧b<w'.heap.size∧Ext w w'∧∀Z,AB e j n0 w' Z (some ⟨b,0,none⟩) n.toNat (List.replicate n.toNat z)):=by
 subst p;subst c;cases f:P.info? j with
 |none=>simp[f] at hi
 |some i=>
  rw[f] at hi;simp only[Option.map_some,Option.some.injEq,Prod.mk.injEq] at hi;obtain⟨h1,r,h3⟩:=hi;obtain⟨s,aG,aH⟩:=hm;have v:d.cells.toList.length=e.sz:=e.len (q w ZA);have c:d.cells.size=e.sz:=by simpa using v
  have aA:(i.bytes:Int)*n≤281474976710656:=by
   rw[h3];have aD:(bytes:Int)*n≤(b':Int)*n:=Int.mul_le_mul_of_nonneg_right (by omega) s;rw[Int.mul_comm (b':Int)] at aD;omega
  have aE:=run_make (P:=P) w t j i d ht f h1 m o n n s (Int.le_refl _) aA (by omega);refine(Iw (S:=Instr.makeSlice t (a.eval x) (a.eval y)) rfl (by rw[aB,hy];exact aE)).mono fun u w' h=>?_;obtain⟨rfl,rfl⟩:=h;have l:=HS w j (madeCells d.cells (n.toNat*i.size));refine⟨w.heap.size,by rw[List.length_replicate],Nat.le_refl _,by rw[l.sz];exact Nat.lt_succ_self _,l.gr,fun Z=>⟨_,R2.UQ (q _ Z) n.toNat,?_⟩⟩;rw[List.length_replicate];have k:(List.replicate n.toNat d.cells.toList).flatten.length=n.toNat*e.sz:=by rw[←JW,←c];simp[size_madeCells]
  refine⟨k,.inr ⟨w.heap.size,n.toNat,_,rfl,aC,l.bk,Nat.le_refl _,by simp only[maxLen];omega,by rw[size_madeCells,r],?_⟩⟩;rw[r,←c,JW,List.take_of_length_le (by rw[k,c];exact Nat.le_refl _)]
end
def JX:Int⊕Bool→Value
 |.inl n=>.int .i64 n
 |.inr b=>.bool b
def HR(l:List (Int⊕Bool)):Value:=.agg (l.map JX).toArray
def JB:Int⊕Bool→Bool
 |.inl _=>true
 |.inr _=>false
def Ga:List (Int⊕Bool)→List (Int⊕Bool)→Bool
 |[],[]=>true
 |.inl a::l,.inl b::m=>a==b&&Ga l m
 |.inr a::l,.inr b::m=>a==b&&Ga l m
 |_,_=>false
def OW(P:Program)(t:TypeId)(a:List Bool):Prop:=∀(w:World) (x y:List (Int⊕Bool)),x.map JB=a→y.map JB=a→(Op.equal t (HR x) (HR y)).run P w=.ok (Ga x y) w
def LK(a b:TypeId):Nat→List Field→List Bool→Bool
 |_,[],[]=>true
 |i,f::c,k::d=>f.name !="_"&&Nat.beq f.type (cond k a b)&&Nat.beq f.offset i&&LK a b (i+1) c d
 |_,_,_=>false
section
variable{P:Program}{w:World}
theorem Jm{e:TypeId}(he:One P e){cs:Array Value}{i:Nat}{v:Value}(h:cs[i]?=some v):(part e cs i).run P w=.ok v w:=by
 simp only[part,Sem.run_bind,IH he,Result.andThen_ok,h];rfl
theorem Mf{j l:TypeId}(h1:One P j)(u1:P.underlying j=some (.int .i64))(t:One P l)(u:P.underlying l=some .bool)(d:Nat):∀(o:List Field) (b:List Bool) (x y a c:List (Int⊕Bool)),a.length=c.length→LK j l a.length o b=true→x.map JB=b→y.map JB=b→
  (Op.eqFields (d+1) ((a++x).map JX).toArray ((c++y).map JX).toArray o).run P w=.ok (Ga x y) w
 |[],[],[],[],_,_,_,_,_,_=>by simp[Op.eqFields,Ga]
 |[],_::_,_,_,_,_,_,h,_,_=>by simp[LK] at h
 |_::_,[],_,_,_,_,_,h,_,_=>by simp[LK] at h
 |[],[],_::_,_,_,_,_,_,h,_=>by simp at h
 |[],[],_,_::_,_,_,_,_,_,h=>by simp at h
 |_::_,_::_,[],_,_,_,_,_,h,_=>by simp at h
 |_::_,_::_,_,[],_,_,_,_,_,h=>by simp at h
 |f::o,k::b,e::x,g::y,a,c,v,z,p,hy=>by
  simp only[LK,Bool.and_eq_true] at z;obtain⟨⟨⟨r,ht⟩,s⟩,aC⟩:=z;have r:f.name≠"_":=by simpa using r
  have ht:=Nat.eq_of_beq_eq_true ht;have s:=Nat.eq_of_beq_eq_true s;simp only[List.map_cons,List.cons.injEq] at p hy;have ih:=Mf h1 u1 t u d o b x y (a++[e]) (c++[g]) (by simp[v]) (by simpa using aC) p.2 hy.2;rw[List.append_assoc,List.append_assoc] at ih;simp only[List.singleton_append] at ih;have aA:((a++e::x).map JX).toArray[f.offset]?=some (JX e):=by rw[s];simp
  have aB:((c++g::y).map JX).toArray[f.offset]?=some (JX g):=by rw[s,v];simp
  cases k with
  |true=>
   cases e with
   |inr _=>simp[JB] at p
   |inl m=>
    cases g with
    |inr _=>simp[JB] at hy
    |inl n=>
     have ht:f.type=j:=ht;have i:One P f.type:=by rw[ht];exact h1
     have q:=run_equalIn_int (P:=P) w d f.type .i64 .i64 m n (by rw[ht];exact u1);simp only[Op.eqFields,r,ne_eq,not_false_eq_true,if_true,Sem.run_bind,Jm i aA,Jm i aB,JX,q,Result.andThen_ok,Ga];cases aD:(m==n)
     ·simp
     ·simpa using ih
  |false=>
   cases e with
   |inl _=>simp[JB] at p
   |inr m=>
    cases g with
    |inl _=>simp[JB] at hy
    |inr n=>
     have ht:f.type=l:=ht;have i:One P f.type:=by rw[ht];exact t
     have q:=run_equalIn_bool (P:=P) w d f.type m n (by rw[ht];exact u);simp only[Op.eqFields,r,ne_eq,not_false_eq_true,if_true,Sem.run_bind,Jm i aA,Jm i aB,JX,q,Result.andThen_ok,Ga];cases aD:(m==n)
     ·simp
     ·simpa using ih
theorem NW{K c d:Nat}{a:Array Field}{e:List Bool}(hK:P.underlying K=some (.struct a))(f:P.stoodInHeld K=false)(g:LK c d 0 a.toList e=true)(h1:One P c)(u1:P.underlying c=some (.int .i64))(i:One P d)(j:P.underlying d=some .bool):OW P K e:=by
 intro w x y l hy;have b:P.fieldsOf K=a:=by simp[Program.fieldsOf,hK]
 have h:=run_equalIn_struct (P:=P) w 9999 K (x.map JX).toArray (y.map JX).toArray (by rw[b];exact hK) f;have k:=Mf (P:=P) (w:=w) h1 u1 i j 9998 a.toList e x y [] [] rfl g l hy;simp only[List.nil_append] at k;rw[b,k] at h;exact h
end
section
variable{P:Program}{a:Act}{w:World}{dst:Option Tmp}{ty:TypeId}{pos:String}{BW:Array Edge}{g:Option (Nat×Bool)}
theorem OX{x y:Operand}{v1 v2:Value}{x1 x2:List (Int⊕Bool)}{b:List Bool}{t d:TypeId}(e:OW P t b)(c:P.eqGuardType P.depth t=false)(f:a.eval x=v1)(hy:a.eval y=v2)(h1:v1=HR x1)(h:v2=HR x2)(i:x1.map JB=b)(j:x2.map JB=b):
  BD P ⟨dst,.binOp .eql t x y d,ty,pos,BW,g⟩ a w (fun u w'=>u=.bool (Ga x1 x2)∧w'=w):=by
 refine Mu f hy ?_;subst h1;subst h;have h3:=e w x1 x2 i j;have k:(eqGuard .eql t x y (HR x1) (HR x2)).run P w=.ok () w:=by
  simp[eqGuard,HR,program,Sem.run,c]
 simp only[Sem.run_bind,k,Result.andThen_ok];show(do pure (Value.bool (←Op.equal t (HR x1) (HR x2))):Sem Value).run P w=_;simp only[Sem.run_bind,h3,Result.andThen_ok,Sem.run_pure]
theorem Ro{x y:Operand}{v1 v2:Value}{x1 x2:List (Int⊕Bool)}{b:List Bool}{t d:TypeId}(e:OW P t b)(c:P.eqGuardType P.depth t=false)(f:a.eval x=v1)(hy:a.eval y=v2)(h1:v1=HR x1)(h:v2=HR x2)(i:x1.map JB=b)(j:x2.map JB=b):
  BD P ⟨dst,.binOp .neq t x y d,ty,pos,BW,g⟩ a w (fun u w'=>u=.bool (!Ga x1 x2)∧w'=w):=by
 refine Mu f hy ?_;subst h1;subst h;have h3:=e w x1 x2 i j;have k:(eqGuard .neq t x y (HR x1) (HR x2)).run P w=.ok () w:=by
  simp[eqGuard,HR,program,Sem.run,c]
 simp only[Sem.run_bind,k,Result.andThen_ok];show(do pure (Value.bool (!(←Op.equal t (HR x1) (HR x2)))):Sem Value).run P w=_;simp only[Sem.run_bind,h3,Result.andThen_ok,Sem.run_pure]
theorem Rp{x y:Operand}{p q:Option Addr}{t u:TypeId}{b:Bool}(c:a.eval x=.pointer p)(hy:a.eval y=.pointer q)(d:(Op.equal t (.pointer p) (.pointer q)).run P w=.ok b w):BD P ⟨dst,.binOp .eql t x y u,ty,pos,BW,g⟩ a w (fun v w'=>v=.bool b∧w'=w):=
 Cl (by simp[execOp,c,hy,binOp,d,eqGuard])
theorem M0 {α:Type} {e:DV α} {aA t:TypeId} {x y:Operand} {b o k p c:Nat} {v:Value} {n0:Nat} {Z:Nat→Prop} {A:Option Addr} {xs:List α} {z z':α} {l:List Value} {n:Nat}
  (aB:AB e aA n0 w Z A c xs) (aD:xs[k]?=some z) (aM:A=some ⟨b,o,none⟩) (aN:p=o+k*e.sz) (aO:a.eval x=.pointer (some ⟨b,p,none⟩)) (hy:a.eval y=v) (aP:(P.info? t).map (·.size)=some n) (aQ:v.cells.toList=l) (aR:l.length=n)
  (h1:∀u∈l,u.oneCell'=true) (aE:e.R w Z l z'):
  BD P ⟨dst,.store t x y,ty,pos,BW,g⟩ a w (fun _ w'=>w.grownBy w' (ob A)∧∃Be,R2 e w Z Be (xs.set k z')∧DK w' n0 aA e.sz A (xs.set k z').length c Be.flatten):=by
 obtain⟨Be,f,aS⟩:=aB;obtain⟨a2,aW,aF,aX⟩:=f.get aD;have aY:=e.len aF;have aG:=e.len aE;subst aM;subst aN;have aH:k<xs.length:=(List.getElem?_eq_some_iff.1 aD).1;have hlen:=f.len;have h:=f.lens;rcases aS.2 with⟨aI,h0⟩|⟨a3,cap,cur,aI,aJ,aT,q,aK,aC,i⟩
 ·omega
 ·cases aI;have aZ:k*e.sz+e.sz≤xs.length*e.sz:=by
   have:(k+1)*e.sz≤xs.length*e.sz:=Nat.mul_le_mul_right _ aH;rw[Nat.add_mul,Nat.one_mul] at this;exact this
  have a0:xs.length*e.sz≤c*e.sz:=Nat.mul_le_mul_right _ q;have aL:Bk w b aA cur:=aT;refine(A8 (B4:=setCells cur (0+k*e.sz) l) aO hy aP aL aQ aR (by omega) h1 rfl).mono ?_;rintro _ w' ⟨s1,s2,aU⟩;have d:=f.set aE k;refine⟨aU,_,d,by rw[d.Ig],.inr ⟨b,c,setCells cur (0+k*e.sz) l,rfl,aJ,s2,by rw[List.length_set];exact q,aK,by rw[Et 0];exact aC,?_⟩⟩;rw[List.length_set];rcases Nat.eq_zero_or_pos e.sz with h0|h0
  ·have aV:(Be.set k l).flatten=[]:=List.eq_nil_of_length_eq_zero (by rw[d.Ig,h0,Nat.mul_zero]);rw[aV,h0,Nat.mul_zero,List.take_zero]
  ·refine List.ext_getElem? fun j=>?_;rw[MX aG h0 k Be j h (by omega),List.getElem?_take,Array.getElem?_toList,Gi _ _ _ _ (by omega)];have r:∀j:Nat,Be.flatten[j]?=if j<xs.length*e.sz then cur[j]? else none:=fun j=>by
    rw[←i,List.getElem?_take,Array.getElem?_toList]
   by_cases m:j<xs.length*e.sz
   ·rw[if_pos m]
    by_cases s:k*e.sz≤j∧j<k*e.sz+e.sz
    ·rw[if_pos (by omega),if_pos s,show j-(0+k*e.sz)=j-k*e.sz by omega]
    ·rw[if_neg (by omega),if_neg s,r,if_pos m]
   ·rw[if_neg m,if_neg (by omega),r,if_neg m]
theorem F1{α:Type}{e:DV α}{f t:TypeId}{x y:Operand}{b o k p c:Nat}{v:Value}{n0:Nat}{Z:Nat→Prop}{A:Option Addr}{xs:List α}{z z':α}{l:List Value}{n:Nat}
  (d:AB e f n0 w Z A c xs)(i:xs[k]?=some z)(j:A=some ⟨b,o,none⟩)(m:p=o+k)(q:a.eval x=.pointer (some ⟨b,p,none⟩))(hy:a.eval y=v)(r:(P.info? t).map (·.size)=some n)(s:v.cells.toList=l)(aA:l.length=n)
  (h1:∀u∈l,u.oneCell'=true)(aB:e.R w Z l z')(h:e.sz=1:=by rfl):
  BD P ⟨dst,.store t x y,ty,pos,BW,g⟩ a w (fun _ w'=>w.grownBy w' (ob A)∧∃Be,R2 e w Z Be (xs.set k z')∧DK w' n0 f e.sz A (xs.set k z').length c Be.flatten):=
 M0 d i j (by rw[h,Nat.mul_one];exact m) q hy r s aA h1 aB
end
theorem JY{l:List Int}{i:Nat}{x:Int}(h:l[i]?=some x):(l.map fun n=>Value.int .i64 n)[i]?=some (.int .i64 x):=by rw[List.getElem?_map,h];rfl
theorem AB.Um {α:Type} {e:DV α} {t:TypeId} {n0:Nat} {w:World} {Z:Nat→Prop} {A:Option Addr} {c k:Nat} {xs:List α} {x:α} (h:AB e t n0 w Z A c xs) (h0:0<e.sz) (f:xs[k]?=some x):
  ∃b o cs,A=some ⟨b,o,none⟩∧e.R w Z cs x∧Rz w ZA (some ⟨b,o+k*e.sz,none⟩) cs:=by
 obtain⟨Be,h1,g⟩:=h;have p:Sl e w ZA A c xs:=AB.all (t:=t) (n0:=n0) (Z:=Z) ⟨Be,h1,g⟩;obtain⟨b,o,B4,i,s,z⟩:=p.elem h0 f;obtain⟨l,v,a,m⟩:=h1.get f;refine⟨b,o,l,i,a,?_⟩;have hlen:l.length=e.sz:=e.len a;have q:=g.rd;rcases q.2 with h3|⟨b',o',d,_,n,r⟩
 ·have:=h1.Ig;rw[h3] at this;have y:k<xs.length:=(List.getElem?_eq_some_iff.1 f).1;have aA:0<xs.length*e.sz:=Nat.mul_pos (by omega) h0;simp at this;omega
 ·rw[i] at d;cases d;refine .inr ⟨b,_,rfl,trivial,n,fun j u hu=>?_⟩;rw[Nat.add_assoc];refine r _ _ ?_;rw[←m,List.getElem?_take] at hu;split at hu
  ·simpa using hu
  ·cases hu
theorem AB.Hk{α:Type}{e:DV α}{t:TypeId}{n0:Nat}{w:World}{Z:Nat→Prop}{A:Option Addr}{c k:Nat}{xs:List α}{x:α}(h:AB e t n0 w Z A c xs)(h1:e.sz=1)(d:xs[k]?=some x):
  ∃b o cs,A=some ⟨b,o,none⟩∧e.R w Z cs x∧Rz w ZA (some ⟨b,o+k,none⟩) cs:=by
 obtain⟨b,o,cs,f,h3,a⟩:=h.Um (by omega) d;rw[h1,Nat.mul_one] at a;exact⟨b,o,cs,f,h3,a⟩
def TC(w:World)(D:Nat→Prop)(M:World→Prop):Nat→World→Prop
 |0,w'=>Ext w w'
 |_+1,w'=>Bf D w w'∧M w'
section
variable{w w' Bm:World}{D:Nat→Prop}{M:World→Prop}{ph:Nat}
theorem FJ(h:TC w D M ph w'):Bf D w w':=by
 cases ph with
 |zero=>exact FR h
 |succ=>exact h.1
theorem BB(h:TC w D M ph w')(a:ph=0):Ext w w':=by subst a;exact h
theorem Hl(c:∀a b,M a→Ext a b→M b)(h:TC w D M ph w')(g:Ext w' Bm):TC w D M ph Bm:=by
 cases ph with
 |zero=>exact Ext.trans h g
 |succ=>exact⟨(show Bf D w w' from h.1).trans (FR g),c _ _ h.2 g⟩
theorem HV(h:TC w D M ph w')(a:ph=0)(g:Bf D w' Bm)(b:M Bm):TC w D M (ph+1) Bm:=by
 subst a;exact⟨(FR h).trans g,b⟩
theorem H3{r:Option Nat}(g:w.grownBy w' r):Bf (FU FN [r]) w w':=Ih g fun k e=>.inr (by rw[e];exact List.mem_singleton_self _)
end
section
variable{F F':Nat→Prop}{B:List (Option Nat)}{w0 w w':World}{L M:List (Option Nat)}
theorem Hp.OY{Z:Nat→Prop}{a:Nat}(h:Hp F B w0 L w)(c:w.heap.size≤a):Mv w' (ZZ FN [] FN a []) w' (ZZ F B Z w0.heap.size L):=GI fun b d _=>by
 rcases d with⟨_,e,_⟩|⟨h1,_⟩
 ·exact e.elim
 ·refine .inr ⟨Nat.le_trans h.sz (Nat.le_trans c h1),fun hm=>?_⟩;have:=(h.lo b hm).1;omega
theorem Hp.Rq{α:Type}{e:DV α}{t:TypeId}{A:Option Addr}{c:Nat}{xs:List α}{Z Z':Nat→Prop}(h:Hp F B w0 L w)(b:∀w Z w' Z' cs x,e.R w Z cs x→e.R w' Z' cs x)(a:AB e t w.heap.size w' Z' A c xs):AB e t w0.heap.size w' Z A c xs:=
 AB.OT b (a.base (n1:=w0.heap.size) fun k d=>Nat.le_trans h.sz (a.ge k d))
theorem Hp.Lg{α:Type}{e:DV α}{t:TypeId}{A:Option Addr}{c:Nat}{xs:List α}{Z a:Nat→Prop}(h:Hp F B w0 L w)(b:∀w Z w' Z' cs x,e.R w Z cs x→e.R w' Z' cs x)(d:AB e t w.heap.size w' a A c xs):Sl e w' (ZZ F B Z w0.heap.size L) A c xs:=
 (AB.OT b d).sl fun k _ h0=>h.kn h0
theorem Hp.Kr (h:Hp F B w0 L w) (f:Hp F B w0 L w') {b:Nat} (p:w.heap.size≤b) (l:b<w'.heap.size):Hp F B w0 (some b::L) w':=by
 refine⟨f.ch,fun k a=>?_,?_,h.ff⟩
 ·rcases List.mem_cons.1 a with e|a
  ·cases e;exact⟨l,fun m=>absurd (h.ff _ m) (by have:=h.sz;omega),fun n=>absurd n (by have:=h.sz;omega)⟩
  ·exact f.lo k a
 ·have key:∀(j:Nat) (x:Nat),L[j]?=some (some x)→x≠b:=fun j x o e=>by
   have:=(h.lo x (List.mem_of_getElem? o)).1;omega
  intro i j x g hi c;cases i with
  |zero=>
   cases j with
   |zero=>exact g rfl
   |succ j=>
    have d:b=x:=by simpa using hi
    exact key j x (by simpa using c) d.symm
  |succ i=>
   cases j with
   |zero=>
    have d:b=x:=by simpa using c
    exact key i x (by simpa using hi) d.symm
   |succ j=>exact h.ap i j x (by omega) (by simpa using hi) (by simpa using c)
theorem DT{Z:Nat→Prop}{n0:Nat}{b:Nat}(hm:Mv w (ZZ F B Z n0 L) w' (ZZ F B Z n0 L))(g:w.heap.size≤b):Mv w (ZZ F B Z n0 L) w' (ZZ F B Z n0 (some b::L)):=
 ⟨hm.size,fun k c d=>⟨(hm.stay k c d).1.imp id fun⟨h1,f⟩=>⟨h1,fun a=>by
  rcases List.mem_cons.1 a with e|a
  ·cases e;omega
  ·exact f a⟩,(hm.stay k c d).2⟩⟩
end
def OZ (w:World) (R:World→Value→World→Prop):Jz Ext:=
 ⟨fun v a=>∃w1 w2,Ext w w1∧R w1 v w2∧Ext w2 a,fun _ _ _ ⟨w1,w2,h1,b,h3⟩ g=>⟨w1,w2,h1,b,Ext.trans h3 g⟩⟩
def IB(w:World)(R:World→Value→World→Prop)(a:World):Prop:=∃v w1 w2,Ext w w1∧R w1 v w2∧Ext w2 a
theorem Hc{w:World}{R:World→Value→World→Prop}:∀a b,IB w R a→Ext a b→IB w R b:=fun _ _ ⟨v,w1,w2,h1,c,h3⟩ g=>⟨v,w1,w2,h1,c,Ext.trans h3 g⟩
def Lh(_:World):Prop:=True
theorem JZ:∀a b,Lh a→Ext a b→Lh b:=fun _ _ _ _=>trivial
def G6(n:Nat)(w:World):List Nat→Prop
 |[]=>True
 |b::l=>n≤b∧b<w.heap.size∧(l.all fun x=> !Nat.beq b x)=true∧G6 n w l
section
variable{F F':Nat→Prop}{B:List (Option Nat)}{w0 w w':World}{L M:List (Option Nat)}{Z:Nat→Prop}
theorem G6.mem{n:Nat}:∀{l:List Nat},G6 n w l→∀b∈l,n≤b∧b<w.heap.size
 |[],_,_,h=>by cases h
 |x::l,h,b,a=>by
  rcases List.mem_cons.1 a with rfl|a
  ·exact⟨h.1,h.2.1⟩
  ·exact G6.mem h.2.2.2 b a
theorem G6.grow{n a:Nat}(b:a≤n)(c:w.heap.size≤w'.heap.size):∀{l:List Nat},G6 n w l→G6 a w' l
 |[],_=>trivial
 |_::_,h=>⟨Nat.le_trans b h.1,Nat.lt_of_lt_of_le h.2.1 c,h.2.2.1,G6.grow b c h.2.2.2⟩
theorem Hp.M3(h:Hp F B w0 L w):∀{l:List Nat},Hp F B w0 L w'→G6 w.heap.size w' l→Hp F B w0 (l.map some++L) w'
 |[],c,_=>c
 |b::l,c,a=>by
  have d:=Hp.M3 h c a.2.2.2;refine⟨d.ch,fun k f=>?_,?_,h.ff⟩
  ·rcases List.mem_cons.1 f with e|f
   ·cases e;exact⟨a.2.1,fun p=>absurd (h.ff _ p) (by have:=h.sz;have:=a.1;omega),fun n=>absurd n (by have:=h.sz;have:=a.1;omega)⟩
   ·exact d.lo k f
  ·have key:∀(j:Nat) (x:Nat),(l.map some++L)[j]?=some (some x)→x≠b:=fun j x q e=>by
    subst e;have hm:=List.mem_of_getElem? q;rcases List.mem_append.1 hm with hm|hm
    ·obtain⟨y,hy,e⟩:=List.mem_map.1 hm;cases e;have:=List.all_eq_true.1 a.2.2.1 x hy;rw[Nat.beq_refl] at this;cases this
    ·have:=(h.lo x hm).1;have:=a.1;omega
   intro i j x o hi g;cases i with
   |zero=>
    cases j with
    |zero=>exact o rfl
    |succ j=>
     have m:b=x:=by simpa using hi
     exact key j x (by simpa using g) m.symm
   |succ i=>
    cases j with
    |zero=>
     have m:b=x:=by simpa using g
     exact key i x (by simpa using hi) m.symm
    |succ j=>exact d.ap i j x (by omega) (by simpa using hi) (by simpa using g)
theorem Hp.LL(h:Hp F B w0 L w)(g:Ext w w'){l:List Nat}(a:G6 w.heap.size w' l):Hp F B w0 (l.map some++L) w':=h.M3 (h.ext g) a
theorem EO{n0:Nat}{l:List Nat}(hm:Mv w (ZZ F B Z n0 L) w' (ZZ F B Z n0 L))(d:G6 w.heap.size w' l):Mv w (ZZ F B Z n0 L) w' (ZZ F B Z n0 (l.map some++L)):=
 ⟨hm.size,fun k c b=>⟨(hm.stay k c b).1.imp id fun⟨h1,f⟩=>⟨h1,fun a=>by
  rcases List.mem_append.1 a with a|a
  ·obtain⟨y,hy,e⟩:=List.mem_map.1 a;cases e;have:=(d.mem k hy).1;omega
  ·exact f a⟩,(hm.stay k c b).2⟩⟩
theorem O0{b c:Nat}(f:w.heap.size≤b)(a:b<w'.heap.size)(g:w.heap.size≤c)(d:c<w'.heap.size)(e:b≠c):G6 w.heap.size w' [b,c]:=
 ⟨f,a,by
  have:Nat.beq b c=false:=by
   cases h:Nat.beq b c with
   |false=>rfl
   |true=>exact absurd (Nat.eq_of_beq_eq_true h) e
  simp[this],g,d,rfl,trivial⟩
theorem Hp.QE (h:Hp F B w0 L w):∀(l:List Nat) (c:List Nat),F9 L c (l.map some)→IU c=true→(∀b∈l,w0.heap.size≤b)→G6 w0.heap.size w l
 |[],_,_,_,_=>trivial
 |b::l,[],a,_,_=>a.elim
 |b::l,j::c,a,e,d=>by
  simp only[IU,Bool.and_eq_true] at e;refine⟨d b (List.mem_cons_self ..),(h.lo b (List.mem_of_getElem? a.1)).1,?_,h.QE l c a.2 e.2 fun x f=>d x (List.mem_cons_of_mem _ f)⟩;rw[List.all_eq_true];intro x f;cases i:Nat.beq b x with
  |false=>rfl
  |true=>
   have g:=Nat.eq_of_beq_eq_true i;subst g;have h1:=h.Bv (F':=FN) j a.1 c e.1 a.2 (fun _ h=>h.elim);exact absurd (.inr (List.mem_map.2 ⟨b,f,rfl⟩)) h1
end
section
variable{P:Program}{N:Nat}{Q:Exit→Act→World→Prop}{a:Act}{l:Env}{w:World}
def LM(a:Act):Act:={a with defers:=[]}
theorem J0(a:Act):∀l:Env,BP (LM a) l=LM (BP a l)
 |[]=>rfl
 |(d,v)::l=>by simp only[BP,J0 a l];rfl
theorem Li{D:Nat}{fn:Func}{R:Value→World→Prop}(c:w.heap[D]?=some (.deferred (some [])))(h:∀w',Gt D w w'→LV X0 N (bodyPost P fn (fun e w'=>∃v,e=.returned v∧R v w')) .ret (LM a) l w'):
  LV (X1 D) N (PM P fn R) .ret a l w:=fun s=>by
 have d:St X0 N (LM a) l:=⟨s.sz,rfl,s.lt⟩;obtain⟨_,v,b,f⟩:=h _ (Gu w D (.deferred none)) d;show LeavesInM Fence.wide 0 P fn _ _ (BP a l).defers .returning w;rw[Dg,show a.defers=mark D from s.df];refine⟨by simp,.inl ⟨D,_,rfl,run_takeDeferred c,?_⟩⟩;rw[J0] at b;exact⟨v,b,f⟩
theorem N8{D:Nat}{fn:Func}{R:Value→World→Prop}(c:w.heap[D]?=some (.deferred (some [])))(h:∀w',Gt D w w'→LV X0 N (bodyPost P fn (fun e w'=>∃v,e=.returned v∧R v w')) .normal (LM a) l w'):
  LV (X1 D) N (PM P fn R) .normal a l w:=fun s=>by
 have d:St X0 N (LM a) l:=⟨s.sz,rfl,s.lt⟩;obtain⟨_,v,b,f⟩:=h _ (Gu w D (.deferred none)) d;show LeavesInM Fence.wide 0 P fn _ _ (BP a l).defers .returning w;rw[Dg,show a.defers=mark D from s.df];refine⟨by simp,.inl ⟨D,_,rfl,run_takeDeferred c,?_⟩⟩;rw[J0] at b;exact⟨v,b,f⟩
end
theorem N9{α:Type}{b:Bool}{x:Option α}{r:α}(h:cond b none x=some r):b=false∧x=some r:=by
 cases b with
 |true=>cases h
 |false=>exact⟨rfl,h⟩
def CZ(xs:List Int):List Int:=xs.mergeSort fun x y=>decide (x≤y)
theorem Ik(xs:List Int):(CZ xs).length=xs.length:=List.length_mergeSort _
theorem PD{w:World}{Z:Nat→Prop}:∀{Be:List (List Value)} {xs:List Int},R2 (Ay .i64) w Z Be xs→Be.flatten=Cd xs
 |[],[],_=>rfl
 |c::Be,x::xs,h=>by
  have h1:c=[.int .i64 x]:=h.1;rw[List.flatten_cons,PD h.2,h1];rfl
 |[],_::_,h=>h.elim
 |_::_,[],h=>h.elim
theorem PE{w:World}{Z:Nat→Prop}:∀xs:List Int,R2 (Ay .i64) w Z (xs.map fun x=>[.int .i64 x]) xs
 |[]=>trivial
 |_::xs=>⟨rfl,PE xs⟩
theorem QF(xs:List Int):(xs.map fun x=>[Value.int .i64 x]).flatten=Cd xs:=by
 induction xs with
 |nil=>rfl
 |cons x xs ih=>rw[List.map_cons,List.flatten_cons,ih];rfl
theorem O1{t:TypeId}{n0:Nat}{w:World}{Z:Nat→Prop}{A:Option Addr}{c:Nat}{xs:List Int}(h:AB (Ay .i64) t n0 w Z A c xs):DK w n0 t 1 A xs.length c (Cd xs):=by
 obtain⟨Be,h1,a⟩:=h;rw[←PD h1];exact a
theorem Ks{t:TypeId}{n0:Nat}{w:World}{Z:Nat→Prop}{A:Option Addr}{c:Nat}{xs:List Int}(h:DK w n0 t 1 A xs.length c (Cd xs)):AB (Ay .i64) t n0 w Z A c xs:=
 ⟨_,PE xs,by rw[QF];exact h⟩
theorem Un{α β:Type}{x:Option β}{f:α→Option β}{r:β}(h:Option.elim none x f=some r):x=some r:=h
theorem Uo{α β:Type}{a:α}{x:Option β}{f:α→Option β}{r:β}(h:Option.elim (some a) x f=some r):f a=some r:=h
theorem Jn{F:Nat→Prop}{b:Nat}{L:List (Option Nat)}(h:¬F b∧some b∉L):¬F b∧some b∉L++[none]:=⟨h.1,fun hm=>by
 rcases List.mem_append.1 hm with h1|h1
 ·exact h.2 h1
 ·simp at h1⟩
theorem Bf.Oa{F:Nat→Prop}{C:List (Option Nat)}{o:Option Nat}{w w':World}(g:Bf (FU F (C++[o]++[none])) w w'):Bf (FU (FU F C) [o]) w w':=g.mono fun k h=>by
 rcases h with h|h
 ·exact .inl (.inl h)
 ·rcases List.mem_append.1 h with a|a
  ·rcases List.mem_append.1 a with h3|h3
   ·exact .inl (.inr h3)
   ·exact .inr h3
  ·simp at a
theorem Sl.Rr{α β:Type}{e:DV α}{ev:β→Value}{F:Nat→Prop}{B L:List (Option Nat)}{Z:Nat→Prop}{n0 r n:Nat}{w:World}{i:List (List Int×β)}{A:Option Addr}{c:Nat}{xs:List α}
  (j:∀w Z w' Z' cs x,e.R w Z cs x→e.R w' Z' cs x)(hm:Ce ev w r n i)(h:Sl e w (ZZ F B Z n0 L) A c xs):Sl e w (ZZ F B Z n0 (some r::L)) A c xs:=by
 obtain⟨h1,k,Be,h3,d⟩:=h;refine⟨h1,k,Be,h3.free j,?_⟩;rcases d with d|⟨b,o,m,p,q,f⟩
 ·exact .inl d
 ·cases g:Be.flatten with
  |nil=>exact .inl rfl
  |cons u l=>
   rw[g] at f;refine .inr ⟨b,o,m,p.imp id fun⟨s,t⟩=>⟨s,fun a=>?_⟩,q,f⟩;rcases List.mem_cons.1 a with e|a
   ·cases e;obtain⟨es,y,v,_⟩:=hm;have:=f 0 u rfl;unfold World.cell? at this;simp[v] at this
   ·exact t a
section
variable{P:Program}{N:Nat}{a:Act}{l:Env}{w:World}
theorem G7{fn:Func}{r1 r2 m:ResultVar}{v v' IF:Value}{R:Value→World→Prop}(g:fn.results= #[r1,r2,m])(h1:MU P a l w r1 v)(p:MU P a l w r2 v')(h3:MU P a l w m IF)(h:R (.tuple #[v,v',IF]) w):
  LV X0 N (bodyPost P fn (fun e w'=>∃v,e=.returned v∧R v w')) .ret a l w:=fun s=>by
 refine bodyPost_ret (v:=.tuple #[v,v',IF]) ?_ (by rw[Dg,s.df]) ⟨_,rfl,h⟩;cases r1 with
 |tmp t0=>
  have d:(BP a l).tmps.getD t0 undef=v:=ee s h1;simp only[Array.getD_eq_getD_getElem?] at d;cases r2 with
  |tmp t1=>
   have c:(BP a l).tmps.getD t1 undef=v':=ee s p;simp only[Array.getD_eq_getD_getElem?] at c;cases m with
   |tmp t2=>
    have b:(BP a l).tmps.getD t2 undef=IF:=ee s h3;simp only[Array.getD_eq_getD_getElem?] at b;simp[results,g,d,c,b]
   |cell i t2=>
    obtain⟨f,j,k⟩:=h3;have b:(BP a l).tmps.getD i undef=.pointer (some f):=ee s j;simp only[Array.getD_eq_getD_getElem?] at b;simp[results,g,d,c,b,asAddr,k]
  |cell r t1=>
   obtain⟨n,t,o⟩:=p;have c:(BP a l).tmps.getD r undef=.pointer (some n):=ee s t;simp only[Array.getD_eq_getD_getElem?] at c;cases m with
   |tmp t2=>
    have b:(BP a l).tmps.getD t2 undef=IF:=ee s h3;simp only[Array.getD_eq_getD_getElem?] at b;simp[results,g,d,c,asAddr,o,b]
   |cell i t2=>
    obtain⟨f,j,k⟩:=h3;have b:(BP a l).tmps.getD i undef=.pointer (some f):=ee s j;simp only[Array.getD_eq_getD_getElem?] at b;simp[results,g,d,c,asAddr,o,b,asAddr,k]
 |cell x t0=>
  obtain⟨u,y,q⟩:=h1;have d:(BP a l).tmps.getD x undef=.pointer (some u):=ee s y;simp only[Array.getD_eq_getD_getElem?] at d;cases r2 with
  |tmp t1=>
   have c:(BP a l).tmps.getD t1 undef=v':=ee s p;simp only[Array.getD_eq_getD_getElem?] at c;cases m with
   |tmp t2=>
    have b:(BP a l).tmps.getD t2 undef=IF:=ee s h3;simp only[Array.getD_eq_getD_getElem?] at b;simp[results,g,d,asAddr,q,c,b]
   |cell i t2=>
    obtain⟨f,j,k⟩:=h3;have b:(BP a l).tmps.getD i undef=.pointer (some f):=ee s j;simp only[Array.getD_eq_getD_getElem?] at b;simp[results,g,d,asAddr,q,c,b,asAddr,k]
  |cell r t1=>
   obtain⟨n,t,o⟩:=p;have c:(BP a l).tmps.getD r undef=.pointer (some n):=ee s t;simp only[Array.getD_eq_getD_getElem?] at c;cases m with
   |tmp t2=>
    have b:(BP a l).tmps.getD t2 undef=IF:=ee s h3;simp only[Array.getD_eq_getD_getElem?] at b;simp[results,g,d,asAddr,q,c,asAddr,o,b]
   |cell i t2=>
    obtain⟨f,j,k⟩:=h3;have b:(BP a l).tmps.getD i undef=.pointer (some f):=ee s j;simp only[Array.getD_eq_getD_getElem?] at b;simp[results,g,d,asAddr,q,c,asAddr,o,b,asAddr,k]
end
theorem Tb{w w':World}{Z Z' Q:Nat→Prop}(h:Mv w Z w' Z'):Mv w (fun b=>Z b∧Q b) w' (fun b=>Z' b∧Q b):=⟨h.size,fun b a c=>⟨⟨(h.stay b a.1 c).1,a.2⟩,(h.stay b a.1 c).2⟩⟩
def eF(n:Nat):DV (Bool×List Int):=
 ⟨1,fun w Z cs x=>∃A c,cs=[.slice A x.2.length c]∧Sl (Ay .i64) w (fun b=>Z b∧(x.1=true→n≤b)) A c x.2,fun⟨_,_,h,_⟩=>by rw[h];rfl,fun⟨_,_,h,_⟩=>by rw[h];simp[Value.oneCell'],
  fun⟨A,c,h1,a⟩ g=>⟨A,c,h1,a.mv (Tb g)⟩⟩
theorem Tc{n:Nat}{w:World}{Z:Nat→Prop}:∀{Be:List (List Value)} {xs:List (List Int)},R2 (BC (Ay .i64)) w Z Be xs→R2 (eF n) w Z Be (xs.map fun x=>(false,x))
 |[],[],_=>trivial
 |_::_,_::_,⟨⟨A,c,h1,a⟩,h⟩=>⟨⟨A,c,h1,a.mv (GI fun _ b _=>⟨b,fun e=>by cases e⟩)⟩,Tc h⟩
 |[],_::_,h=>h.elim
 |_::_,[],h=>h.elim
theorem Td{n:Nat}{w:World}{Z:Nat→Prop}:∀{Be:List (List Value)} {xs:List (Bool×List Int)},(∀y∈xs,y.1=true)→R2 (eF n) w Z Be xs→R2 (BC (Ay .i64)) w (fun b=>n≤b) Be (xs.map Prod.snd)
 |[],[],_,_=>trivial
 |_::_,x::_,ht,⟨⟨A,c,h1,a⟩,h⟩=>⟨⟨A,c,h1,a.mv (GI fun _ d _=>d.2 (ht x (List.mem_cons_self ..)))⟩,Td (fun y hy=>ht y (List.mem_cons_of_mem _ hy)) h⟩
 |[],_::_,_,h=>h.elim
 |_::_,[],_,h=>h.elim
theorem Up{t n0 n:Nat}{w:World}{Z:Nat→Prop}{A:Option Addr}{c:Nat}{xs:List (List Int)}(h:AB (BC (Ay .i64)) t n0 w Z A c xs):AB (eF n) t n0 w Z A c (xs.map fun x=>(false,x)):=by
 obtain⟨Be,h1,a⟩:=h;exact⟨Be,Tc h1,by rw[List.length_map];exact a⟩
theorem Uq{t n0 n:Nat}{w:World}{Z:Nat→Prop}{A:Option Addr}{c:Nat}{xs:List (Bool×List Int)}(ht:∀y∈xs,y.1=true)(h:AB (eF n) t n0 w Z A c xs):AB (BC (Ay .i64)) t n0 w (fun b=>n≤b) A c (xs.map Prod.snd):=by
 obtain⟨Be,h1,a⟩:=h;exact⟨Be,Td ht h1,by rw[List.length_map];exact a⟩
theorem Te{a:List (Bool×List Int)}{k:Nat}{x:List Int}(h:(a.map Prod.snd)[k]?=some x):∃b,a[k]?=some (b,x):=by
 rw[List.getElem?_map] at h;cases c:a[k]? with
 |none=>rw[c] at h;cases h
 |some y=>rw[c] at h;cases h;exact⟨y.1,rfl⟩
end Go.Proofs.YtkljfdkmjdjpfaaGreat
end
section
namespace Go.Proofs.YtkljfdkmjdjpfaaGreat
open Go.RowKit
theorem GD{b:Nat}{t:TypeId}:∀(l:List Value) (o:Nat) {w:World} {cs:Array Value},Bk w b t cs→Bk (w.setCells b o l) b t (setCells cs o l)∧w.grownBy (w.setCells b o l) (some b)
 |[],o,w,cs,h=>⟨h,World.grownBy.refl w _⟩
 |v::l,o,w,cs,h=>by
  have c:Bk (w.setCell ⟨b,o,none⟩ v) b t (cs.setIfInBounds o v):=by
   unfold Bk at h⊢;simp[World.setCell,Array.getElem?_modify,h]
  have g1:Gt b w (w.setCell ⟨b,o,none⟩ v):=⟨rfl,rfl,rfl,by simp,fun k _ a=>Below.heap_setCell w ⟨b,o,none⟩ v k (by simpa using a)⟩;have ih:=GD l (o+1) c;exact⟨ih.1,World.grownBy.trans g1 ih.2⟩
def CK (xs:List Int) (i:Int) (x:Int):List Int:=xs.take i.toNat++x::xs.drop i.toNat
theorem KJ(xs:List Int)(i:Int)(x:Int):(CK xs i x).length=xs.length+1:=by
 unfold CK;simp;omega
theorem QG{w w':World}{b:Nat}{o:Obj}(a:b=w.heap.size)(g:World.grownBy (w.alloc o) w' (some b)):Ext w w':=
 ⟨g.os,g.tape,g.output,by have:=g.size;simp at this;omega,fun k c _=>by
  have h1:=g.block k (by simp;omega) (by rw[a];intro e;cases e;omega);rw[h1];exact(World.grownBy_alloc w o none).block k c (by simp)⟩
theorem HW{w:World}{base t g c:Nat}{cur:Array Value}{l:List Value}(a:base≤g)(d:Bk w g t cur)(e:l.length≤c)(f:c≤maxLen)(i:cur.size=c)(h:∀j,j<l.length→cur[j]?=l[j]?):DK w base t 1 (some ⟨g,0,none⟩) l.length c l:=by
 refine⟨by simp,.inr ⟨g,c,cur,rfl,a,d,e,f,by simp[i],?_⟩⟩;rw[Nat.mul_one];apply List.ext_getElem?;intro j;rw[List.getElem?_take];split
 ·rename_i b
  rw[←h j b];simp
 ·rename_i b
  rw[List.getElem?_eq_none (by omega)]
theorem Tf{b:Bool}(h:b=true→False):b=false:=by cases b<;>simp_all
theorem O2{b:Bool}(h:b=false)(k:b=true):False:=by rw[h] at k;cases k
section
variable{F F':Nat→Prop}{B:List (Option Nat)}{w0 w w' Bm:World}{Z:Nat→Prop}{L M:List (Option Nat)}
theorem M4(h:Ext w w'){r:Option Nat}(g:w'.grownBy Bm r)(b:∀k,r=some k→w.heap.size≤k):Ext w Bm:=
 ⟨g.os.trans h.os,g.tape.trans h.tape,g.output.trans h.output,Nat.le_trans h.size g.size,fun k a _=>(g.block k (Nat.lt_of_lt_of_le a h.size) (fun e=>by have:=b k e.symm;omega)).trans (h.block k a (by simp))⟩
theorem Il{D:Nat→Prop}(h:Bf D w w'){r:Option Nat}(g:w'.grownBy Bm r)(c:∀k,r=some k→D k∨w.heap.size≤k):Bf D w Bm:=
 ⟨g.os.trans h.os,g.tape.trans h.tape,g.output.trans h.output,Nat.le_trans h.size g.size,fun k a b=>(g.block k (Nat.lt_of_lt_of_le a h.size) (fun e=>by
  rcases c k e.symm with h1|h1
  ·exact b h1
  ·omega)).trans (h.block k a b)⟩
theorem Hz{x y:Option Nat}{n:Nat}(a:∀k,x=some k→n≤k)(b:n≤w'.heap.size)(hy:∀k,y=some k→(x=some k∨w'.heap.size≤k)∧k<Bm.heap.size):∀k,y=some k→n≤k:=fun k c=>
 (hy k c).1.elim (a k) (fun h=>Nat.le_trans b h)
theorem QH{x y a:Option Nat}{n:Nat}(b:∀k,x=some k→a=some k∨n≤k)(c:n≤w'.heap.size)(hy:∀k,y=some k→(x=some k∨w'.heap.size≤k)∧k<Bm.heap.size):∀k,y=some k→a=some k∨n≤k:=fun k d=>
 (hy k d).1.elim (b k) (fun h=>.inr (Nat.le_trans c h))
theorem Lj{b:Nat}{t:TypeId}{cs:Array Value}(nb:IG w' Bm b t cs):∀k,ob (some ⟨b,0,none⟩)=some k→((none:Option Nat)=some k∨w'.heap.size≤k)∧k<Bm.heap.size:=fun k e=>by
 cases e;exact⟨.inr (Nat.le_of_eq nb.Ey.symm),nb.bk.lt⟩
theorem Tg{α:Type}{e:DV α}{t:TypeId}{A:Option Addr}{c:Nat}{xs:List α}{Z:Nat→Prop}(h:AB e t w'.heap.size Bm Z A c xs):∀k,ob A=some k→((none:Option Nat)=some k∨w'.heap.size≤k)∧k<Bm.heap.size:=fun k e=>⟨.inr (h.ge k e),h.JA k e⟩
end
def eT:DV (Bool×(Option Addr×Nat)×List Int):=
 ⟨1,fun w Z cs x=>∃A c,cs=[.slice A x.2.2.length c]∧(x.1=true→A=x.2.1.1∧c=x.2.1.2)∧(x.1=false→Sl (Ay .i64) w Z A c x.2.2),fun⟨_,_,h,_⟩=>by rw[h];rfl,fun⟨_,_,h,_⟩=>by rw[h];simp[Value.oneCell'],
  fun⟨A,c,h1,a,h3⟩ g=>⟨A,c,h1,a,fun e=>(h3 e).mv g⟩⟩
theorem Th{w:World}{Z:Nat→Prop}:∀{Be:List (List Value)} {xs:List (List Int)},R2 (BC (Ay .i64)) w Z Be xs→R2 eT w Z Be (xs.map fun x=>(false,(none,0),x))
 |[],[],_=>trivial
 |_::_,_::_,⟨⟨A,c,h1,a⟩,h⟩=>⟨⟨A,c,h1,fun e=>(by cases e),fun _=>a⟩,Th h⟩
 |[],_::_,h=>h.elim
 |_::_,[],h=>h.elim
theorem Ti{w:World}{Z:Nat→Prop}:∀{Be:List (List Value)} {xs:List (Bool×(Option Addr×Nat)×List Int)},(∀y∈xs,y.1=true→Sl (Ay .i64) w Z y.2.1.1 y.2.1.2 y.2.2)→R2 eT w Z Be xs→R2 (BC (Ay .i64)) w Z Be (xs.map fun y=>y.2.2)
  |[],[],_,_=>trivial
  |_::_,x::_,ht,⟨⟨A,c,h1,b,h3⟩,h⟩=>⟨by
      cases a:x.1 with
      |true=>
        obtain⟨rfl,rfl⟩:=b a;exact⟨_,_,h1,ht x (List.mem_cons_self ..) a⟩
      |false=>exact⟨A,c,h1,h3 a⟩,Ti (fun y hy=>ht y (List.mem_cons_of_mem _ hy)) h⟩
  |[],_::_,_,h=>h.elim
  |_::_,[],_,h=>h.elim
theorem Ur{t n0:Nat}{w:World}{Z:Nat→Prop}{A:Option Addr}{c:Nat}{xs:List (List Int)}(h:AB (BC (Ay .i64)) t n0 w Z A c xs):AB eT t n0 w Z A c (xs.map fun x=>(false,(none,0),x)):=by
 obtain⟨Be,h1,a⟩:=h;exact⟨Be,Th h1,by rw[List.length_map];exact a⟩
theorem Us{t n0:Nat}{w:World}{Z:Nat→Prop}{A:Option Addr}{c:Nat}{xs:List (Bool×(Option Addr×Nat)×List Int)}(ht:∀y∈xs,y.1=true→Sl (Ay .i64) w Z y.2.1.1 y.2.1.2 y.2.2)(h:AB eT t n0 w Z A c xs):AB (BC (Ay .i64)) t n0 w Z A c (xs.map fun y=>y.2.2):=by
 obtain⟨Be,h1,a⟩:=h;exact⟨Be,Ti ht h1,by rw[List.length_map];exact a⟩
def IK (N i:Int):Nat→Int→List (List Int)→Option (List (List Int))
  |0,_,_=>none
  |a+1,k,s=>cond (decide (k<N)) (cond (k !=i) ((idx s (0:Int)).bind fun x=>(FX (((x.length+([k]:List Int).length:Nat):Int)≤140737488355328/8)).bind fun _=>(idx s (0:Int)).bind fun _=>(i64 (k+1)).bind fun _=>IK N i a (k+1) (s.set 0 (x++[k])))
      ((i64 (k+1)).bind fun _=>IK N i a (k+1) s)) (some s)
theorem qz{X:Ctx}{N:Nat}{a:Act}{l:Env}(st:St X N a l):(BP a l).tmps.size=N:=(HK _ _).trans st.sz
theorem qd{X:Ctx}{N:Nat}{a:Act}{l:Env}(st:St X N a l):(BP a l).defers=X.ds:=(Dg _ _).trans st.df
theorem sp{X:Ctx}{N:Nat}{a:Act}{l:Env}(st:St X N a l)(k:Nat){v:Value}(h:lk (sl a k) l k=v):sl (BP a l) k=v:=(Hv st k).trans h
theorem Hp.nb{F:Nat→Prop}{B L:List (Option Nat)}{w0 w w':World}{b:Nat}{t:TypeId}{cs:Array Value}(h:Hp F B w0 L w)(n:IG w w' b t cs):Hp F B w0 (some b::L) w':=h.new n.gr (Nat.le_of_eq n.Ey.symm) (Nat.lt_of_lt_of_eq (Nat.lt_succ_self _) n.sz.symm)
theorem Hp.BE{F:Nat→Prop}{B L:List (Option Nat)}{w0 w w':World}{b:Nat}{t:TypeId}{cs:Array Value}(h:Hp F B w0 L w)(n:IG w w' b t cs):w0.heap.size≤b:=by rw[n.Ey];exact h.sz
theorem Aw{F:Nat→Prop}{B L:List (Option Nat)}{Z:Nat→Prop}{w w':World}{n0 b:Nat}{t:TypeId}{cs:Array Value}(n:IG w w' b t cs):Mv w (ZZ F B Z n0 L) w' (ZZ F B Z n0 (some b::L)):=Ed n.gr (Nat.le_of_eq n.Ey.symm)
theorem X2{b c:Sort _}{p:b→c→Prop}{C:Prop}(h:∃a x1,p a x1)(k:∀a x1,p a x1→C):C:=h.elim fun a h=>h.elim fun x1 h=>k a x1 h
theorem X4{c d e f:Sort _}{p:c→d→e→f→Prop}{C:Prop}(h:∃a x1 x2 b,p a x1 x2 b)(k:∀a x1 x2 b,p a x1 x2 b→C):C:=h.elim fun a h=>h.elim fun x1 h=>h.elim fun x2 h=>h.elim fun b h=>k a x1 x2 b h
theorem Y2{a0 a1 r C:Prop}(h:a0∧a1∧r)(k:a0→a1→r→C):C:=h.elim fun a h=>h.elim fun x1 h=>k a x1 h
theorem Y4{a0 a1 a2 a3 r C:Prop}(h:a0∧a1∧a2∧a3∧r)(k:a0→a1→a2→a3→r→C):C:=h.elim fun a h=>h.elim fun x1 h=>h.elim fun x2 h=>h.elim fun b h=>k a x1 x2 b h
theorem Y8{a0 a1 a2 a3 a4 a5 a b r C:Prop}(h:a0∧a1∧a2∧a3∧a4∧a5∧a∧b∧r)(k:a0→a1→a2→a3→a4→a5→a→b→r→C):C:=h.elim fun c h=>h.elim fun x1 h=>h.elim fun x2 h=>h.elim fun d h=>h.elim fun e h=>h.elim fun f h=>h.elim fun g h=>h.elim fun i h=>k c x1 x2 d e f g i h
end Go.Proofs.YtkljfdkmjdjpfaaGreat
end
section
set_option linter.unusedVariables false
set_option linter.unusedSimpArgs false
namespace Go.Proofs.YtkljfdkmjdjpfaaGreat
open Go.RowKit Go.WideShapes
structure Cv where
 Lo:Int
 Hi:Int
structure Ar where
 On:Int
 Bc:Int
 AI:Bool
structure AX where
 Aq:Int
 AA:Int
 AI:Int
 B3:Int
 Ci:Int
structure Ao where
 Aj:Int
 Ah:Int
 An:Int
 Av:Int
 Ac:List AX
structure AS where
 Comes:List Int
 An:List Bool
structure Cr where
 BA:Int
 BR:Int
 B8:Int
 B9:Int
 AT:List AX
 C0:List Bool
 known:List (List Int×Ar)
structure Hm where
 Cf:Int
 day:Int
structure BG where
 a0:Int
 a1:Int
 a2:Int
 a3:Int
def BG.set(x:BG)(k:Nat)(v:Int):BG:=⟨if k=0 then v else x.a0,if k=1 then v else x.a1,if k=2 then v else x.a2,if k=3 then v else x.a3⟩
def BG.l(x:BG):List Int:=[x.a0,x.a1,x.a2,x.a3]
theorem BG.U2(x:BG)(k:Nat)(v:Int)(h:k<4): #[.int .i64 (x.set k v).a0,.int .i64 (x.set k v).a1,.int .i64 (x.set k v).a2,.int .i64 (x.set k v).a3]=setCells #[.int .i64 x.a0,.int .i64 x.a1,.int .i64 x.a2,.int .i64 x.a3] k [.int .i64 v]:=by
 match k,h with
 |0,_=>rfl
 |1,_=>rfl
 |2,_=>rfl
 |3,_=>rfl
 |k+4,h=>omega
def BY:DV Ar:=⟨3,fun _ _ cs x=>cs=[.int .i64 x.On,.int .i64 x.Bc,.bool x.AI],fun h=>by rw[h];rfl,fun h=>by rw[h];simp[Value.oneCell'],fun h _=>h⟩
def AJ:DV AX:=⟨5,fun _ _ cs x=>cs=[.int .i64 x.Aq,.int .i64 x.AA,.int .i64 x.AI,.int .i64 x.B3,.int .i64 x.Ci],fun h=>by rw[h];rfl,fun h=>by rw[h];simp[Value.oneCell'],fun h _=>h⟩
def Hn:DV Ao:=⟨5,fun w Z cs x=>∃a b,cs=[.int .i64 x.Aj,.int .i64 x.Ah,.int .i64 x.An,.int .i64 x.Av,.slice a x.Ac.length b]∧Sl AJ w Z a b x.Ac,fun⟨_,_,h,_⟩=>by rw[h];rfl,fun⟨_,_,h,_⟩=>by rw[h];simp[Value.oneCell'],fun⟨a,b,h,c⟩ g=>⟨a,b,h,c.mv g⟩⟩
def EV:DV AS:=⟨2,fun w Z cs x=>∃a b c d,cs=[.slice a x.Comes.length b,.slice c x.An.length d]∧Sl (Ay .i64) w Z a b x.Comes∧Sl Bo w Z c d x.An,fun⟨_,_,_,_,h,_⟩=>by rw[h];rfl,fun⟨_,_,_,_,h,_⟩=>by rw[h];simp[Value.oneCell'],fun⟨a,b,c,d,h,h0,h1⟩ g=>⟨a,b,c,d,h,h0.mv g,h1.mv g⟩⟩
def Ob:DV Cv:=⟨2,fun _ _ cs x=>cs=[.int .i64 x.Lo,.int .i64 x.Hi],fun h=>by rw[h];rfl,fun h=>by rw[h];simp[Value.oneCell'],fun h _=>h⟩
def Ut:DV BG:=⟨4,fun _ _ cs x=>cs=[.int .i64 x.a0,.int .i64 x.a1,.int .i64 x.a2,.int .i64 x.a3],fun h=>by rw[h];rfl,fun h=>by rw[h];simp[Value.oneCell'],fun h _=>h⟩
def Lk(w:World)(Z:Nat→Prop)(q:Nat)(o:Option Nat):Option Cr→Prop
 |none=>Bk w q 162 #[.pointer none]∧o=none
 |some x=>∃(b r:Nat) (a:Option Addr) (c:Nat) (d:Option Addr) (e:Nat),Bk w q 162 #[pt b 0]∧Rz w Z (some ⟨b,0,none⟩) [I x.BA,I x.BR,I x.B8,I x.B9,.slice a x.AT.length c,.slice d x.C0.length e,.map (some r)]∧Sl AJ w Z a c x.AT∧Sl Bo w Z d e x.C0∧Ce (fun x:Ar=>.agg #[I x.On,I x.Bc,.bool x.AI]) w r 2 x.known∧o=some r
theorem Lk.keep{w w':World}{Z Z':Nat→Prop}{q:Nat}{o:Option Nat}:∀{x:Option Cr},Lk w Z q o x→Mv w Z w' Z'→w'.heap[q]?=w.heap[q]?→(∀k,o=some k→w'.heap[k]?=w.heap[k]?)→Lk w' Z' q o x
 |none,h,_,a,_=>⟨h.1.FI a,h.2⟩
 |some x,⟨b,r,e,f,g,i,j,l,h0,h1,hm,d⟩,c,a,m=>⟨b,r,e,f,g,i,j.FI a,l.mv c,h0.mv c,h1.mv c,hm.FI (m r d),d⟩
end Go.Proofs.YtkljfdkmjdjpfaaGreat
end
section
set_option linter.unusedVariables false
set_option linter.unusedSimpArgs false
namespace Go.Proofs.YtkljfdkmjdjpfaaGreat
open Go.RowKit Go.WideShapes
def D6(d:Nat)(a:Int)(b:Int)(c:Int):Option (Bool):=
 cond (decide (b≤a)) (some (decide (a≤c))) (some (false))
def EW(b:Nat)(a:Cv):Option (Int):=
 (i64 (a.Hi-a.Lo)).bind fun _=>(i64 ((a.Hi-a.Lo)+1)).bind fun _=>some ((a.Hi-a.Lo)+1)
def GJ(c:Nat)(a:Cv)(b:Int):Option (Bool):=
 cond (decide ((0:Int)≤a.Lo)) (cond (decide (a.Lo≤a.Hi)) (some (decide (a.Hi≤b))) (some (false))) (some (false))
def GA(a:Nat)(b:Int):Option (Bool):=
 (D6 a b 1 5).bind fun r1=>some (r1)
def DL(d:Nat)(a:Int)(b:Int)(c:Int):Option (Bool):=
 cond (decide (b≤a)) (some (decide (a≤c))) (some (false))
def D2(b:Nat)(a:Cv):Option (Int):=
 (i64 (a.Hi-a.Lo)).bind fun _=>(i64 ((a.Hi-a.Lo)+1)).bind fun _=>some ((a.Hi-a.Lo)+1)
def DW(c:Nat)(b:Int)(a:Int):Option (Bool):=
 (Me .u64 a).bind fun _=>(MW b a).bind fun _=>(rem (E9 b a) (2:Int)).bind fun _=>some (((E9 b a)%2)==1)
def CY(d:Nat)(a:Int)(b:Int)(c:Bool):Option (Ar):=
 some ((⟨a,b,c⟩:Ar))
def Fx(b:Nat)(a:Ao)(c:Int):Option (Bool):=
 (i64 ((a.Ac.length:Int)-1)).bind fun _=>(D6 b c 0 ((a.Ac.length:Int)-1)).bind fun d=>some (d)
def C2(c:Nat)(b:AX)(a:Ar):Option (Bool):=
 cond (a.AI) (some (decide (a.Bc≤b.Ci))) (some (false))
def D4(a:Nat)(b:AX)(c:Ar):Option (Bool):=
 (C2 a b c).bind fun d=>some (!d)
end Go.Proofs.YtkljfdkmjdjpfaaGreat
end
section
set_option linter.unusedVariables false
set_option linter.unusedSimpArgs false
namespace Go.Proofs.YtkljfdkmjdjpfaaGreat
open Go.RowKit Go.WideShapes
def Cm(e:Nat)(c:Ao)(f:Int)(b:Int):Nat→Bool→Int→Option (Bool)
 |0,_,_=>none
 |g+1,d,a=>(i64 (b+c.Av)).bind fun _=>cond (decide (a≤(b+c.Av))) (cond (d) (cond (decide (a≤c.Aj)) ((DW e f a).bind fun h=>(i64 (a+1)).bind fun _=>Cm e c f b g h (a+1)) ((i64 (a+1)).bind fun _=>Cm e c f b g false (a+1))) ((i64 (a+1)).bind fun _=>Cm e c f b g false (a+1))) (some (d))
def Cg(e:Nat)(d:Ao)(f:Int)(b:Int):Nat→Bool→Int→Option (Bool)
 |0,_,_=>none
 |g+1,c,a=>(i64 (b+d.Av)).bind fun _=>cond (decide (a≤(b+d.Av))) (cond (c) (cond (decide (a≤d.Aj)) ((DW e f a).bind fun h=>(i64 (a+1)).bind fun _=>Cg e d f b g h (a+1)) ((i64 (a+1)).bind fun _=>Cg e d f b g false (a+1))) ((i64 (a+1)).bind fun _=>Cg e d f b g false (a+1))) (some (c))
def Cw(c:Nat)(d:Ao)(e:Int):Nat→Int→Int→Option ((Bool)⊕(Int))
 |0,_,_=>none
 |f+1,b,a=>cond (decide (a≤d.Aj)) ((DW c e a).bind fun g=>cond (g) ((i64 (b+1)).bind fun _=>(Cm c d e a c true a).bind fun h=>cond (h) (some (.inl false)) ((i64 (a+1)).bind fun _=>Cw c d e f (b+1) (a+1))) ((Cg c d e a c true a).bind fun z20=>cond (z20) (some (.inl false)) ((i64 (a+1)).bind fun _=>Cw c d e f b (a+1)))) (some (.inr b))
def Ee(b:Nat)(c:Ao)(d:Int):Option (Bool):=
 (Cw b c d b (0:Int) (0:Int)).bind fun z=>Sum.elim (fun a=>some (a)) (fun a=>some (decide (a≤c.An))) z
def CE(d:Nat)(c:Ao):Nat→(List Int)→Int→Option ((List Int))
 |0,_,_=>none
 |e+1,b,a=>(i64 (c.Aj+1)).bind fun _=>(Me .u64 (c.Aj+1)).bind fun _=>(LJ (1:Int) (c.Aj+1)).bind fun _=>cond (decide (a<(G4 (1:Int) (c.Aj+1)))) ((Ee d c a).bind fun f=>cond (f) ((FX (((b.length+[a].length:Nat):Int)≤140737488355328/8)).bind fun _=>(i64 (a+1)).bind fun _=>CE d c e (b++[a]) (a+1)) ((i64 (a+1)).bind fun _=>CE d c e b (a+1))) (some (b))
def DU(a:Nat)(b:Ao):Option ((List Int)):=
 (CE a b a ([]:List Int) (0:Int)).bind fun z2=>some (z2)
def Dz(d:Nat)(c:Ao):Nat→Int→Int→Option (Int)
 |0,_,_=>none
 |g+1,b,a=>cond (decide (a<(c.Ac.length:Int))) ((idx c.Ac a).bind fun e=>(D2 d (⟨e.Aq,e.AA⟩:Cv)).bind fun f=>(i64 (b*f)).bind fun _=>(i64 (a+1)).bind fun _=>Dz d c g (min (3000:Int) (b*f)) (a+1)) (some (b))
def Dd(a:Nat)(b:Ao):Option (Int):=
 (DU a b).bind fun r2=>(Dz a b a (r2.length:Int) (0:Int)).bind fun z4=>some (z4)
def C6(d:Nat)(c:Ao):Nat→Int→Option ((Int)⊕(Unit))
 |0,_=>none
 |h+1,a=>cond (decide (a<(c.Ac.length:Int))) ((idx c.Ac a).bind fun b=>cond (decide (b.Aq<0)) (some (.inl (1:Int))) (cond (decide (b.AA<b.Aq)) (some (.inl (1:Int))) (cond (decide (c.Aj<b.AA)) (some (.inl (1:Int))) ((DL d b.AI 1 5).bind fun e=>cond (!e) (some (.inl (1:Int))) ((DL d b.B3 1 5).bind fun f=>cond (!f) (some (.inl (1:Int))) ((DL d b.Ci 0 c.Aj).bind fun g=>cond (!g) (some (.inl (1:Int))) ((i64 (a+1)).bind fun _=>C6 d c h (a+1)))))))) (some (.inr ()))
def Ei(b:Nat)(a:Ao):Option (Int):=
 cond (decide ((9:Int)<a.Aj)) (some (3)) (cond (decide ((2:Int)<a.Ah)) (some (3)) (cond (decide ((4:Int)<(a.Ac.length:Int))) (some (3)) (cond (decide (a.Aj<0)) (some (1)) (cond (decide (a.Ah<1)) (some (1)) ((i64 (a.Aj+1)).bind fun _=>(DL b a.An 0 (a.Aj+1)).bind fun f=>cond (!f) (some (1)) ((i64 (a.Aj+1)).bind fun _=>(DL b a.Av 0 (a.Aj+1)).bind fun d=>cond (!d) (some (1)) ((C6 b a b (0:Int)).bind fun z=>Sum.elim (fun c=>some (c)) (fun c=>(Dd b a).bind fun e=>cond (decide ((1000:Int)<e)) (some (3)) (some (0))) z)))))))
def EP(b:Nat)(c:Ao)(a:AX):Option (Bool):=
 (GJ b (⟨a.Aq,a.AA⟩:Cv) c.Aj).bind fun e=>cond (e) ((GA b a.AI).bind fun f=>cond (f) ((GA b a.B3).bind fun g=>cond (g) ((D6 b a.Ci 0 c.Aj).bind fun d=>some (d)) (some (false))) (some (false))) (some (false))
def DA(b:List Int)(c:List Int):Nat→Int→Option ((Bool)⊕(Unit))
 |0,_=>none
 |d+1,a=>cond (decide (a<(b.length:Int))) ((idx b a).bind fun e=>(idx c a).bind fun f=>cond (e !=f) (some (.inl false)) ((i64 (a+1)).bind fun _=>DA b c d (a+1))) (some (.inr ()))
def Fj(d:Nat)(b:List Int)(c:List Int):Option (Bool):=
 cond ((b.length:Int) !=(c.length:Int)) (some (false)) ((DA b c d (0:Int)).bind fun z=>Sum.elim (fun a=>some (a)) (fun a=>some (true)) z)
def Cx(b:Nat)(a:Int):Option (Ao):=
 some ((⟨5,1,a,1,[(⟨0,0,2,2,2⟩:AX),(⟨1,1,2,1,5⟩:AX)]⟩:Ao))
def Gb(b:Nat)(a:Int):Option (AS):=
 (JV (6:Int) 1).bind fun _=>(idx (List.replicate (6:Int).toNat false) a).bind fun c=>some ((⟨[0,1],(List.replicate (6:Int).toNat false).set a.toNat true⟩:AS))
def Gc(f:Nat)(a:List Ar)(b:Ar)(c:Ar):Option (Bool):=
 cond ((a.length:Int)==2) ((idx a (0:Int)).bind fun d=>cond (Ga [.inl d.On,.inl d.Bc,.inr d.AI] [.inl b.On,.inl b.Bc,.inr b.AI]) ((idx a (1:Int)).bind fun e=>some (Ga [.inl e.On,.inl e.Bc,.inr e.AI] [.inl c.On,.inl c.Bc,.inr c.AI])) (some (false))) (some (false))
def Gv(b:Nat)(a:Cv):Option (Cv):=
 some (a)
def DB(f:Nat)(e:Ao):Nat→Int→(List AX)→Option ((List AX))
 |0,_,_=>none
 |g+1,b,a=>cond (decide (b<(e.Ac.length:Int))) ((idx e.Ac b).bind fun c=>(Gv f (⟨c.Aq,c.AA⟩:Cv)).bind fun d=>(FX (((a.length+[(⟨d.Lo,d.Hi,c.AI,c.B3,c.Ci⟩:AX)].length:Nat):Int)≤140737488355328/40)).bind fun _=>(i64 (b+1)).bind fun _=>DB f e g (b+1) (a++[(⟨d.Lo,d.Hi,c.AI,c.B3,c.Ci⟩:AX)])) (some (a))
def ED(b:Nat)(a:Ao):Option (Ao):=
 (DB b a b (0:Int) ([]:List AX)).bind fun z5=>some ((⟨a.Aj,a.Ah,a.An,a.Av,z5⟩:Ao))
def E5(a:Nat)(b:Ao):Option (Int):=
 (Ei a b).bind fun r2=>some (r2)
def Fk(b:Nat)(a:Ao):Option (Bool):=
 cond (decide ((a.Ac.length:Int)≤6)) ((Ei b a).bind fun c=>cond (c !=0) (some (true)) ((Dd b a).bind fun d=>some (decide (d≤60)))) (some (false))
end Go.Proofs.YtkljfdkmjdjpfaaGreat
end
section
set_option linter.unusedVariables false
set_option linter.unusedSimpArgs false
namespace Go.Proofs.YtkljfdkmjdjpfaaGreat
open Go.RowKit Go.WideShapes
def EA{a:Type}(e:Nat)(b:a→AX→Option (Bool×a))(c:AX)(d:a):Option (Bool×a):=
 (b d c).bind fun r2=>some ((!r2.1,r2.2))
def CV{c:Type}(d:c→AX→Option (Bool×c))(e:List AX):Nat→Int→c→Option ((Int×c)⊕(c))
 |0,_,_=>none
 |g+1,a,b=>cond (decide (a<(e.length:Int))) ((idx e a).bind fun h=>(d b h).bind fun f=>cond (f.1) (some (.inl (a,f.2))) ((i64 (a+1)).bind fun _=>CV d e g (a+1) f.2)) (some (.inr b))
def Fh{b:Type}(d:Nat)(c:b→AX→Option (Bool×b))(e:List AX)(f:b):Option (Int×b):=
 (CV c e d (0:Int) f).bind fun z=>Sum.elim (fun a=>some ((a.1,a.2))) (fun a=>some (((-1),a))) z
def EH{a:Type}(c:Nat)(b:a→AX→Option (Bool×a))(d:List AX)(e:a):Option (Bool×a):=
 (Fh c b d e).bind fun r1=>some ((decide ((0:Int)≤r1.1),r1.2))
def Gk{a:Type}(b:Nat)(c:a→AX→Option (Bool×a))(d:List AX)(e:a):Option (Bool×a):=
 (EH b (fun(st:a) (x:AX)=>(EA b c x st).bind fun r=>some (r.1,r.2)) d e).bind fun r2=>some ((!r2.1,r2.2))
def Eg{a:Type}(e:Nat)(b:a→Bool→Option (Bool×a))(c:Bool)(d:a):Option (Bool×a):=
 (b d c).bind fun r1=>some ((!r1.1,r1.2))
def CM{c:Type}(d:c→Bool→Option (Bool×c))(e:List Bool):Nat→Int→c→Option ((Int×c)⊕(c))
 |0,_,_=>none
 |g+1,a,b=>cond (decide (a<(e.length:Int))) ((idx e a).bind fun h=>(d b h).bind fun f=>cond (f.1) (some (.inl (a,f.2))) ((i64 (a+1)).bind fun _=>CM d e g (a+1) f.2)) (some (.inr b))
def E4{b:Type}(d:Nat)(c:b→Bool→Option (Bool×b))(e:List Bool)(f:b):Option (Int×b):=
 (CM c e d (0:Int) f).bind fun z=>Sum.elim (fun a=>some ((a.1,a.2))) (fun a=>some (((-1),a))) z
def Ew{a:Type}(c:Nat)(b:a→Bool→Option (Bool×a))(d:List Bool)(e:a):Option (Bool×a):=
 (E4 c b d e).bind fun r1=>some ((decide ((0:Int)≤r1.1),r1.2))
def F2{a:Type}(b:Nat)(c:a→Bool→Option (Bool×a))(d:List Bool)(e:a):Option (Bool×a):=
 (Ew b (fun(st:a) (x:Bool)=>(Eg b c x st).bind fun r=>some (r.1,r.2)) d e).bind fun r2=>some ((!r2.1,r2.2))
def DC(e:Nat)(d:Bool)(b:Int)(a:Int)(c:Ao):Option (Bool×Int×Int):=
 cond (!d) (some ((true,0,a))) ((i64 (a+1)).bind fun _=>(i64 (b+1)).bind fun _=>cond (decide ((a+1)≤c.An)) (some ((decide ((b+1)≤c.Av),b+1,a+1))) (some ((false,b+1,a+1))))
def Ej(a:Nat)(b:Ao)(c:List Bool):Option (Bool):=
 (F2 a (fun(st:Int×Int) (x:Bool)=>(DC a x st.1 st.2 b).bind fun r=>some (r.1,(r.2.1,r.2.2))) c (0,0)).bind fun d=>some (d.1)
end Go.Proofs.YtkljfdkmjdjpfaaGreat
end
section
set_option linter.unusedVariables false
set_option linter.unusedSimpArgs false
namespace Go.Proofs.YtkljfdkmjdjpfaaGreat
open Go.RowKit Go.WideShapes
def Ek(c:List Int):Nat→Int→Int→Option (Int)
 |0,_,_=>none
 |d+1,b,a=>cond (decide (a<(c.length:Int))) ((idx c a).bind fun e=>(i64 (a+1)).bind fun _=>Ek c d (min b e) (a+1)) (some (b))
def Gw(b:Nat)(a:List Int):Option (Int):=
 cond (decide ((a.length:Int)<1)) (none) ((idx a (0:Int)).bind fun x2=>(Ek a b x2 (1:Int)).bind fun z3=>some (z3))
def Gl(a:Nat)(b:List Int):Option (Int):=
 (Gw a b).bind fun r1=>some (r1)
def CF(b:Int)(d:List Bool):Nat→Int→(List Bool)→Option ((List Bool))
 |0,_,_=>none
 |e+1,a,c=>cond (decide (a<(d.length:Int))) ((MW b a).bind fun _=>(rem (E9 b a) (2:Int)).bind fun _=>(idx c a).bind fun f=>(i64 (a+1)).bind fun _=>CF b d e (a+1) (c.set a.toNat (((E9 b a)%2)==1))) (some (c))
def CG{c:Type}(d:c→(List Bool)→Option (Bool×c))(g:Nat)(h:Ao):Nat→Int→(List Bool)→c→Option ((c)⊕(c))
 |0,_,_,_=>none
 |j+1,a,e,b=>cond (decide (a<(G4 (1:Int) ((List.replicate (h.Aj+1).toNat false).length:Int)))) ((CF a e g (0:Int) e).bind fun i=>(Ej g h i).bind fun k=>cond (k) ((d b i).bind fun f=>cond (!f.1) (some (.inl f.2)) ((i64 (a+1)).bind fun _=>CG d g h j (a+1) i f.2)) ((i64 (a+1)).bind fun _=>CG d g h j (a+1) i b)) (some (.inr b))
def Dh{c:Type}(d:Nat)(e:c→(List Bool)→Option (Bool×c))(a:Ao)(f:c):Option (c):=
 (i64 (a.Aj+1)).bind fun _=>(JV (a.Aj+1) 1).bind fun _=>(LJ (1:Int) ((List.replicate (a.Aj+1).toNat false).length:Int)).bind fun _=>(CG e d a d (0:Int) (List.replicate (a.Aj+1).toNat false) f).bind fun z=>Sum.elim (fun b=>some (b)) (fun b=>some (b)) z
end Go.Proofs.YtkljfdkmjdjpfaaGreat
end
section
set_option linter.unusedVariables false
set_option linter.unusedSimpArgs false
namespace Go.Proofs.YtkljfdkmjdjpfaaGreat
open Go.RowKit Go.WideShapes
def ER(a:Int)(b:(List Bool)):Option (Bool×Int):=
 (i64 (a+1)).bind fun _=>some (true,a+1)
def DM(e:Nat)(f:Ao):Nat→Int→Int→Option (Int)
 |0,_,_=>none
 |h+1,b,a=>cond (decide (b<(f.Ac.length:Int))) ((idx f.Ac b).bind fun c=>(EW e (⟨c.Aq,c.AA⟩:Cv)).bind fun d=>(i64 (a*d)).bind fun _=>(Gl e [a*d,1001]).bind fun g=>(i64 (b+1)).bind fun _=>DM e f h (b+1) g) (some (a))
def Di(b:Nat)(a:Ao):Option (Int):=
 cond (decide ((9:Int)<a.Aj)) (some (3)) (cond (decide ((2:Int)<a.Ah)) (some (3)) (cond (decide ((4:Int)<(a.Ac.length:Int))) (some (3)) (cond (decide (a.Aj<0)) (some (1)) (cond (decide (a.Ah<1)) (some (1)) ((i64 (a.Aj+1)).bind fun _=>(D6 b a.An 0 (a.Aj+1)).bind fun g=>cond (!g) (some (1)) ((i64 (a.Aj+1)).bind fun _=>(D6 b a.Av 0 (a.Aj+1)).bind fun c=>cond (!c) (some (1)) ((Gk b (fun(st:Unit) (x:AX)=>(EP b a x).bind fun r=>some (r,())) a.Ac ()).bind fun d=>cond (!d.1) (some (1)) ((Dh b (fun(st:Int) (x:(List Bool))=>ER st x) a (0:Int)).bind fun e=>(DM b a b (0:Int) e).bind fun f=>cond (decide ((1000:Int)<f)) (some (3)) (some (0))))))))))
end Go.Proofs.YtkljfdkmjdjpfaaGreat
end
section
set_option linter.unusedVariables false
set_option linter.unusedSimpArgs false
namespace Go.Proofs.YtkljfdkmjdjpfaaGreat
open Go.RowKit Go.WideShapes
def B1{f:Type}(g:Int→(List Int)→(List Bool)→Ao→f→Option (Bool×(List Int)×f))(e:Int)(j:List Bool)(i:Ao)(k:Int):Nat→Int→(List Int)→f→Option ((Bool×(List Int)×f)⊕((List Int)×f))
 |0,_,_,_=>none
 |l+1,a,b,d=>cond (decide (a<k)) ((idx i.Ac e).bind fun h=>(i64 (h.Aq+a)).bind fun _=>(idx b e).bind fun m=>(i64 (e+1)).bind fun _=>(g (e+1) (b.set e.toNat (h.Aq+a)) j i d).bind fun c=>cond (!c.1) (some (.inl (false,c.2.1,c.2.2))) ((i64 (a+1)).bind fun _=>B1 g e j i k l (a+1) c.2.1 c.2.2)) (some (.inr (b,d)))
def BN{b:Type}(e:Nat)(d:b→AS→Option (Bool×b)):Nat→Int→(List Int)→(List Bool)→Ao→b→Option (Bool×(List Int)×b)
 |0,_,_,_,_,_=>none
 |k+1,f,c,g,h,i=>cond (f==(c.length:Int)) ((d i (⟨c,g⟩:AS)).bind fun r2=>some ((r2.1,c,r2.2))) ((idx h.Ac f).bind fun j=>(EW e (⟨j.Aq,j.AA⟩:Cv)).bind fun l=>(B1 (BN e d k) f g h l e (0:Int) c i).bind fun z=>Sum.elim (fun a=>some ((a.1,a.2.1,a.2.2))) (fun a=>some ((true,a.1,a.2))) z)
end Go.Proofs.YtkljfdkmjdjpfaaGreat
end
section
set_option linter.unusedVariables false
set_option linter.unusedSimpArgs false
namespace Go.Proofs.YtkljfdkmjdjpfaaGreat
open Go.RowKit Go.WideShapes
def C7{c:Type}(e:c→AS→Option (Bool×c))(f:Nat)(g:Ao)(b:List Int)(d:c)(h:(List Bool)):Option (Bool×((List Int)×c×Bool)):=
 (BN f e f 0 b h g d).bind fun a=>cond (!a.1) (some (false,a.2.1,a.2.2,true)) (some (true,a.2.1,a.2.2,false))
def ES{a:Type}(d:Nat)(e:a→AS→Option (Bool×a))(b:Ao)(f:a):Option (a):=
 (JV (b.Ac.length:Int) 8).bind fun _=>(Dh d (fun(st:(List Int)×a×Bool) (x:(List Bool))=>cond st.2.2 none (C7 e d b st.1 st.2.1 x)) b (List.replicate (b.Ac.length:Int).toNat (0:Int),f,false)).bind fun c=>cond (c.2.2) (some (c.2.1)) (some (c.2.1))
end Go.Proofs.YtkljfdkmjdjpfaaGreat
end
section
set_option linter.unusedVariables false
set_option linter.unusedSimpArgs false
namespace Go.Proofs.YtkljfdkmjdjpfaaGreat
open Go.RowKit Go.WideShapes
def Dj(b:List Bool)(c:List Bool):Nat→Int→Option ((Bool)⊕(Unit))
 |0,_=>none
 |d+1,a=>cond (decide (a<(b.length:Int))) ((idx b a).bind fun e=>(idx c a).bind fun f=>cond (e !=f) (some (.inl false)) ((i64 (a+1)).bind fun _=>Dj b c d (a+1))) (some (.inr ()))
def El(d:Nat)(b:List Bool)(c:List Bool):Option (Bool):=
 cond ((b.length:Int) !=(c.length:Int)) (some (false)) ((Dj b c d (0:Int)).bind fun z=>Sum.elim (fun a=>some (a)) (fun a=>some (true)) z)
def C8(d:Nat)(c:Ao)(e:AS):Nat→Int→Option ((Bool)⊕(Unit))
 |0,_=>none
 |h+1,a=>cond (decide (a<(c.Ac.length:Int))) ((idx c.Ac a).bind fun b=>(idx e.Comes a).bind fun f=>(D6 d f b.Aq b.AA).bind fun g=>cond (!g) (some (.inl false)) ((i64 (a+1)).bind fun _=>C8 d c e h (a+1))) (some (.inr ()))
def E6(d:Nat)(a:Ao)(c:AS):Option (Bool):=
 cond ((c.Comes.length:Int) !=(a.Ac.length:Int)) (some (false)) ((i64 (a.Aj+1)).bind fun _=>cond ((c.An.length:Int) !=(a.Aj+1)) (some (false)) ((Ej d a c.An).bind fun e=>cond (!e) (some (false)) ((C8 d a c d (0:Int)).bind fun z=>Sum.elim (fun b=>some (b)) (fun b=>some (true)) z)))
def DH(i:Cr)(h:Hm)(f:AX):Nat→Int→Int→Int→Int→Int→Bool→Option ((Int×Int×Bool)⊕(Int×Int×Bool))
 |0,_,_,_,_,_,_=>none
 |j+1,b,g,a,c,d,e=>cond (decide (a≤i.BA)) ((idx i.C0 a).bind fun k=>cond (k) ((i64 (g+1)).bind fun _=>cond (b==f.AI) (some (.inl (h.day,a,b==f.AI))) (cond ((g+1)==f.B3) (some (.inl (h.day,a,b==f.AI))) ((i64 (a+1)).bind fun _=>DH i h f j b (g+1) (a+1) c d e))) ((i64 (b+1)).bind fun _=>cond ((b+1)==f.AI) (some (.inl (h.day,a,(b+1)==f.AI))) (cond ((0:Int)==f.B3) (some (.inl (h.day,a,(b+1)==f.AI))) ((i64 (a+1)).bind fun _=>DH i h f j (b+1) (0:Int) (a+1) c d e)))) (some (.inr (c,d,e)))
def Fs(d:Nat)(c:Cr)(b:Hm):Option (Ar):=
 cond (decide (c.BA<b.day)) (some ((⟨(-1),(-1),false⟩:Ar))) ((idx c.AT b.Cf).bind fun e=>(DH c b e d (0:Int) (0:Int) b.day (0:Int) (0:Int) false).bind fun z=>Sum.elim (fun a=>some ((⟨a.1,a.2.1,a.2.2⟩:Ar))) (fun a=>some ((⟨b.day,(-1),false⟩:Ar))) z)
def Fa(d:Nat)(b:Cr)(a:Hm):Option (Ar×(List (List Int×Ar))):=
 cond (!((Bz b.known [a.Cf,a.day]).isSome)) ((Fs d b a).bind fun c=>some ((c,Hj b.known [a.Cf,a.day] c))) (some ((((Bz b.known [a.Cf,a.day]).getD (⟨0,0,false⟩:Ar)),b.known)))
def Dt(i:Nat)(c:Cr)(j:List Int)(g:List Int):Nat→Int→Int→(List Ar)→(List (List Int×Ar))→Option ((List Ar)×(List (List Int×Ar)))
 |0,_,_,_,_=>none
 |k+1,h,a,d,e=>cond (decide (a<(g.length:Int))) ((idx g a).bind fun f=>(idx j f).bind fun l=>(Fa i (⟨c.BA,c.BR,c.B8,c.B9,c.AT,c.C0,e⟩:Cr) (⟨f,max h l⟩:Hm)).bind fun b=>(idx d f).bind fun m=>(i64 (b.1.Bc+1)).bind fun _=>cond (b.1.Bc==(-1)) ((i64 (c.BA+1)).bind fun _=>(i64 (a+1)).bind fun _=>Dt i c j g k (c.BA+1) (a+1) (d.set f.toNat b.1) b.2) ((i64 (a+1)).bind fun _=>Dt i c j g k (b.1.Bc+1) (a+1) (d.set f.toNat b.1) b.2)) (some ((d,e)))
def C4(d:Nat)(f:Cr)(e:List (List Int))(g:List Int):Nat→Int→(List Ar)→(List (List Int×Ar))→Option ((List Ar)×(List (List Int×Ar)))
 |0,_,_,_=>none
 |i+1,a,c,b=>cond (decide (a<(e.length:Int))) ((idx e a).bind fun j=>(Dt d f g j d (0:Int) (0:Int) c b).bind fun h=>(i64 (a+1)).bind fun _=>C4 d f e g i (a+1) h.1 h.2) (some ((c,b)))
def CN(b:Nat)(a:Cr)(c:List (List Int))(d:List Int):Option ((List Ar)×(List (List Int×Ar))):=
 (JV (a.AT.length:Int) 24).bind fun _=>(C4 b a c d b (0:Int) (List.replicate (a.AT.length:Int).toNat (⟨0,0,false⟩:Ar)) a.known).bind fun z3=>some ((z3.1,z3.2))
end Go.Proofs.YtkljfdkmjdjpfaaGreat
end
section
set_option linter.unusedVariables false
set_option linter.unusedSimpArgs false
namespace Go.Proofs.YtkljfdkmjdjpfaaGreat
open Go.RowKit Go.WideShapes
def Dk(c:List (List Int)):Nat→(List Int)→Int→Option ((List Int))
 |0,_,_=>none
 |e+1,b,a=>cond (decide (a<(c.length:Int))) ((idx c a).bind fun d=>(FX (((b.length+d.length:Nat):Int)≤140737488355328/8)).bind fun _=>(i64 (a+1)).bind fun _=>Dk c e (b++d) (a+1)) (some (b))
def C9(b:Ao)(z2:(List Int)):Nat→Int→Option ((Bool)⊕(Unit))
 |0,_=>none
 |d+1,a=>cond (decide (a<(b.Ac.length:Int))) (cond (((CZ z2).length:Int) !=(b.Ac.length:Int)) (some (.inl false)) ((idx (CZ z2) a).bind fun c=>cond (c !=a) (some (.inl false)) ((i64 (a+1)).bind fun _=>C9 b z2 d (a+1)))) (some (.inr ()))
def DZ(c:Nat)(b:Ao)(d:List (List Int)):Option (Bool):=
 (Dk d c ([]:List Int) (0:Int)).bind fun z2=>(FX ((z2.length:Int)≤100000)).bind fun _=>(C9 b z2 c (0:Int)).bind fun z=>Sum.elim (fun a=>some (a)) (fun a=>cond ((d.length:Int)==b.Ah) (some (((CZ z2).length:Int)==(b.Ac.length:Int))) (some (false))) z
def FD(b:Nat)(a:Ao)(d:List (List Int))(c:AS):Option ((List Ar)×Int):=
 (Di b a).bind fun e=>cond (e !=0) (some ((([]:List Ar),e))) ((DZ b a d).bind fun h=>cond (!h) (some ((([]:List Ar),2))) ((E6 b a c).bind fun f=>cond (!f) (some ((([]:List Ar),2))) ((CN b (⟨a.Aj,a.Ah,a.An,a.Av,a.Ac,c.An,[]⟩:Cr) d c.Comes).bind fun g=>some ((g.1,0)))))
end Go.Proofs.YtkljfdkmjdjpfaaGreat
end
section
set_option linter.unusedVariables false
set_option linter.unusedSimpArgs false
namespace Go.Proofs.YtkljfdkmjdjpfaaGreat
open Go.RowKit Go.WideShapes
def Du(d:Nat)(e:Ao)(c:List Ar):Nat→Int→Int→Option (Int)
 |0,_,_=>none
 |f+1,b,a=>cond (decide (a<(c.length:Int))) ((idx c a).bind fun i=>(idx e.Ac a).bind fun g=>(D4 d g i).bind fun h=>cond (h) ((i64 (b+1)).bind fun _=>(i64 (a+1)).bind fun _=>Du d e c f (b+1) (a+1)) ((i64 (a+1)).bind fun _=>Du d e c f b (a+1))) (some (b))
def EB(a:Nat)(b:Ao)(c:List Ar):Option (Int):=
 (Du a b c a (0:Int) (0:Int)).bind fun z4=>some (z4)
def EE(d:Nat)(a:AS)(e:List Ar)(b:Ao)(c:Int)(f:AS):Option (Bool×Int×AS):=
 (EB d b e).bind fun r2=>cond (decide (c<r2)) ((FX (((0+a.Comes.length:Nat):Int)≤140737488355328/8)).bind fun _=>(FX (((0+a.An.length:Nat):Int)≤140737488355328/1)).bind fun _=>some ((decide (r2<(b.Ac.length:Int)),r2,a))) (some ((decide (c<(b.Ac.length:Int)),c,f)))
def Cy{j:Type}(h:j→(AX×Ar)→Option (Bool×j))(k:List Ar)(l:Ao):Nat→Int→Int→Int→Int→Int→j→Option (Int×Int×Int×Int×j)
 |0,_,_,_,_,_,_=>none
 |m+1,a,b,c,d,e,g=>cond (decide (a<(k.length:Int))) ((idx k a).bind fun o=>(idx l.Ac a).bind fun n=>(h g (n,o)).bind fun i=>cond (i.1) ((idx ([b,c,d,e]:List Int) a).bind fun f=>(i64 (f+1)).bind fun _=>(idx ([b,c,d,e]:List Int) a).bind fun p=>(i64 (a+1)).bind fun _=>Cy h k l m (a+1) (((⟨b,c,d,e⟩:BG).set a.toNat (f+1)).a0) (((⟨b,c,d,e⟩:BG).set a.toNat (f+1)).a1) (((⟨b,c,d,e⟩:BG).set a.toNat (f+1)).a2) (((⟨b,c,d,e⟩:BG).set a.toNat (f+1)).a3) i.2) ((i64 (a+1)).bind fun _=>Cy h k l m (a+1) b c d e i.2)) (some ((b,c,d,e,g)))
def CP{a:Type}(e:Nat)(c:a→(AX×Ar)→Option (Bool×a))(i:AS)(f:List Ar)(d:Int)(g:Ao)(b:BG)(h:a):Option (Bool×Int×BG×a):=
 (i64 (d+1)).bind fun _=>(Cy c f g e (0:Int) b.a0 b.a1 b.a2 b.a3 h).bind fun z4=>some ((true,d+1,(⟨z4.1,z4.2.1,z4.2.2.1,z4.2.2.2.1⟩:BG),z4.2.2.2.2))
end Go.Proofs.YtkljfdkmjdjpfaaGreat
end
section
set_option linter.unusedVariables false
set_option linter.unusedSimpArgs false
namespace Go.Proofs.YtkljfdkmjdjpfaaGreat
open Go.RowKit Go.WideShapes
def Dv{m:Type}(f:m→(AS×(List Ar))→Option (Bool×m))(n:Nat)(a:Ao)(o:List (List Int))(e:Option Cr)(d:m)(c:AS):Option (Bool×((Option Cr)×m×Bool)):=
 Option.elim e ((FX (((0+c.An.length:Nat):Int)≤140737488355328/1)).bind fun _=>(CN n (⟨a.Aj,a.Ah,a.An,a.Av,a.Ac,c.An,[]⟩:Cr) o c.Comes).bind fun g=>(f d (c,g.1)).bind fun h=>cond (!h.1) (some (false,(some (⟨a.Aj,a.Ah,a.An,a.Av,a.Ac,c.An,g.2⟩:Cr)),h.2,true)) (some (true,(some (⟨a.Aj,a.Ah,a.An,a.Av,a.Ac,c.An,g.2⟩:Cr)),h.2,false))) (fun b=>(El n b.C0 c.An).bind fun p=>cond (!p) ((FX (((0+c.An.length:Nat):Int)≤140737488355328/1)).bind fun _=>(CN n (⟨a.Aj,a.Ah,a.An,a.Av,a.Ac,c.An,[]⟩:Cr) o c.Comes).bind fun i=>(f d (c,i.1)).bind fun j=>cond (!j.1) (some (false,(some (⟨a.Aj,a.Ah,a.An,a.Av,a.Ac,c.An,i.2⟩:Cr)),j.2,true)) (some (true,(some (⟨a.Aj,a.Ah,a.An,a.Av,a.Ac,c.An,i.2⟩:Cr)),j.2,false))) ((CN n b o c.Comes).bind fun k=>(f d (c,k.1)).bind fun l=>cond (!l.1) (some (false,(some (⟨b.BA,b.BR,b.B8,b.B9,b.AT,b.C0,k.2⟩:Cr)),l.2,true)) (some (true,(some (⟨b.BA,b.BR,b.B8,b.B9,b.AT,b.C0,k.2⟩:Cr)),l.2,false))))
def Fb{a:Type}(c:Nat)(d:a→(AS×(List Ar))→Option (Bool×a))(e:Ao)(f:List (List Int))(g:a):Option (a):=
 (ES c (fun(st:(Option Cr)×a×Bool) (x:AS)=>cond st.2.2 none (Dv d c e f st.1 st.2.1 x)) e (none,g,false)).bind fun b=>cond (b.2.2) (some (b.2.1)) (some (b.2.1))
end Go.Proofs.YtkljfdkmjdjpfaaGreat
end
section
set_option linter.unusedVariables false
set_option linter.unusedSimpArgs false
namespace Go.Proofs.YtkljfdkmjdjpfaaGreat
open Go.RowKit Go.WideShapes
def Cs{a:Type}(c:Nat)(d:a→(AX×Ar)→Option (Bool×a))(e:Ao)(f:List (List Int))(g:a):Option (BG×Int×a):=
 (Fb c (fun(st:Int×BG×a) (x:AS×(List Ar))=>(CP c d x.1 x.2 st.1 e st.2.1 st.2.2).bind fun r=>some (r.1,(r.2.1,r.2.2.1,r.2.2.2))) e f (0,(⟨0,0,0,0⟩:BG),g)).bind fun b=>some ((b.2.1,b.1,b.2.2))
def Fc(a:Nat)(b:Ao)(d:List (List Int)):Option (Int×AS):=
 (Fb a (fun(st:Int×AS) (x:AS×(List Ar))=>(EE a x.1 x.2 b st.1 st.2).bind fun r=>some (r.1,(r.2.1,r.2.2))) b d ((-1),(⟨([]:List Int),([]:List Bool)⟩:AS))).bind fun c=>some ((c.1,c.2))
def ET(b:Nat)(c:Ao)(e:List (List Int))(f:Int):Option (Int×Int):=
 (Di b c).bind fun r2=>cond (r2 !=0) (some ((0,r2))) ((DZ b c e).bind fun h=>cond (!h) (some ((0,2))) ((Fx b c f).bind fun g=>cond (!g) (some ((0,2))) ((Cs b (fun(st:Unit) (x:AX×Ar)=>(C2 b x.1 x.2).bind fun r=>some (r,())) c e ()).bind fun a=>(idx ([a.1.a0,a.1.a1,a.1.a2,a.1.a3]:List Int) f).bind fun d=>cond (d==a.2.1) (some ((1,0))) (cond (d==0) (some ((2,0))) (some ((3,0)))))))
def F8(b:Nat)(c:Ao)(d:List (List Int)):Option (Int×AS×Int):=
 (Di b c).bind fun e=>cond (e !=0) (some ((0,(⟨([]:List Int),([]:List Bool)⟩:AS),e))) ((DZ b c d).bind fun f=>cond (!f) (some ((0,(⟨([]:List Int),([]:List Bool)⟩:AS),2))) ((Fc b c d).bind fun a=>some ((a.1,a.2,0))))
def EX(a:Nat)(b:Ao)(c:List (List Int))(d:Int):Option (Bool):=
 (F8 a b c).bind fun r2=>cond (r2.2.2==0) (some (decide (r2.1≤d))) (some (false))
def Fe(a:Nat)(b:Ao)(d:List (List Int))(e:AS)(f:Int):Option (Bool):=
 (FD a b d e).bind fun c=>cond (c.2==0) ((EB a b c.1).bind fun g=>some (decide (f≤g))) (some (false))
end Go.Proofs.YtkljfdkmjdjpfaaGreat
end
section
set_option linter.unusedVariables false
set_option linter.unusedSimpArgs false
namespace Go.Proofs.YtkljfdkmjdjpfaaGreat
open Go.RowKit Go.WideShapes
def EC(c:List (List Int)):Nat→Int→(List (List Int))→Option ((List (List Int)))
 |0,_,_=>none
 |e+1,a,b=>cond (decide (a<(c.length:Int))) ((idx b a).bind fun d=>(FX (((0+d.length:Nat):Int)≤140737488355328/8)).bind fun _=>(idx b a).bind fun f=>(i64 (a+1)).bind fun _=>EC c e (a+1) (b.set a.toNat d)) (some (b))
def E1(b:Nat)(a:List (List Int)):Option ((List (List Int))):=
 (FX (((0+a.length:Nat):Int)≤140737488355328/24)).bind fun _=>(EC a b (0:Int) a).bind fun z4=>some (z4)
end Go.Proofs.YtkljfdkmjdjpfaaGreat
end
section
set_option linter.unusedVariables false
set_option linter.unusedSimpArgs false
namespace Go.Proofs.YtkljfdkmjdjpfaaGreat
open Go.RowKit Go.WideShapes
def FT(b:Nat)(c:List (List Int))(d:Ao)(a:Int)(e:List (List Int)):Option (Bool×Int×(List (List Int))):=
 (Fc b d c).bind fun r1=>cond (decide (r1.1<a)) ((E1 b c).bind fun f=>some ((decide ((0:Int)<r1.1),r1.1,f))) (some ((decide ((0:Int)<a),a,e)))
def D5(c:Ao)(r1:BG×Int×Unit):Nat→Int→Int→Option (Int)
 |0,_,_=>none
 |d+1,b,a=>cond (decide (a<(c.Ac.length:Int))) ((idx ([r1.1.a0,r1.1.a1,r1.1.a2,r1.1.a3]:List Int) a).bind fun e=>cond (e==0) ((i64 (b+1)).bind fun _=>(i64 (a+1)).bind fun _=>D5 c r1 d (b+1) (a+1)) ((i64 (a+1)).bind fun _=>D5 c r1 d b (a+1))) (some (b))
def DX(c:Ao)(r1:BG×Int×Unit):Nat→Int→Int→Option (Int)
 |0,_,_=>none
 |d+1,b,a=>cond (decide (a<(c.Ac.length:Int))) ((idx ([r1.1.a0,r1.1.a1,r1.1.a2,r1.1.a3]:List Int) a).bind fun e=>cond (e==0) ((i64 (b+1)).bind fun _=>(i64 (a+1)).bind fun _=>DX c r1 d (b+1) (a+1)) ((i64 (a+1)).bind fun _=>DX c r1 d b (a+1))) (some (b))
def Ex(c:Nat)(e:List (List Int))(b:Ao)(a:Int)(d:BG)(f:List (List Int)):Option (Bool×Int×BG×(List (List Int))):=
 (Cs c (fun(st:Unit) (x:AX×Ar)=>(D4 c x.1 x.2).bind fun r=>some (r,())) b e ()).bind fun r1=>cond (decide ((0:Int)≤a)) (cond ([r1.1.a0,r1.1.a1,r1.1.a2,r1.1.a3]==[d.a0,d.a1,d.a2,d.a3]) (some ((true,a,d,f))) ((D5 b r1 c (0:Int) (0:Int)).bind fun z9=>cond (decide (a<z9)) ((E1 c e).bind fun g=>some ((decide (z9<(b.Ac.length:Int)),z9,r1.1,g))) (some ((decide (a<(b.Ac.length:Int)),a,r1.1,f))))) ((DX b r1 c (0:Int) (0:Int)).bind fun z22=>cond (decide (a<z22)) ((E1 c e).bind fun h=>some ((decide (z22<(b.Ac.length:Int)),z22,r1.1,h))) (some ((decide (a<(b.Ac.length:Int)),a,r1.1,f))))
end Go.Proofs.YtkljfdkmjdjpfaaGreat
end
section
set_option linter.unusedVariables false
set_option linter.unusedSimpArgs false
namespace Go.Proofs.YtkljfdkmjdjpfaaGreat
open Go.RowKit Go.WideShapes
def Cc{g:Type}(h:Int→Ao→(List (List Int))→g→Option (Bool×(List (List Int))×g))(i:Int)(j:Ao)(c:Int)(f:List Int):Nat→Int→(List (List Int))→g→Option ((Bool×(List (List Int))×g)⊕((List (List Int))×g))
 |0,_,_,_=>none
 |k+1,a,b,e=>cond (decide (a<((f.length:Int)+1))) ((FX (((0+f.length:Nat):Int)≤140737488355328/8)).bind fun _=>(FX (0≤a∧a≤(f.length:Int)∧((f.length:Int)+1)*8≤140737488355328)).bind fun _=>(idx b c).bind fun l=>(i64 (i+1)).bind fun _=>(h (i+1) j (b.set c.toNat (CK f a i)) e).bind fun d=>cond (!d.1) (some (.inl (false,d.2.1,d.2.2))) ((i64 (a+1)).bind fun _=>Cc h i j c f k (a+1) d.2.1 d.2.2)) (some (.inr (b,e)))
def B2{e:Type}(f:Int→Ao→(List (List Int))→e→Option (Bool×(List (List Int))×e))(h:Nat)(i:Int)(j:Ao)(k:List (List Int)):Nat→Int→(List (List Int))→e→Option ((Bool×(List (List Int))×e)⊕((List (List Int))×e))
 |0,_,_,_=>none
 |l+1,a,b,d=>cond (decide (a<(k.length:Int))) ((idx b a).bind fun g=>(i64 ((g.length:Int)+1)).bind fun _=>(Cc f i j a g h (0:Int) b d).bind fun z=>Sum.elim (fun c=>some (.inl (c.1,c.2.1,c.2.2))) (fun c=>(idx c.1 a).bind fun m=>(i64 (a+1)).bind fun _=>B2 f h i j k l (a+1) (c.1.set a.toNat g) c.2) z) (some (.inr (b,d)))
def Bs{b:Type}(e:Nat)(d:b→(List (List Int))→Option (Bool×b)):Nat→Int→Ao→(List (List Int))→b→Option (Bool×(List (List Int))×b)
 |0,_,_,_,_=>none
 |i+1,f,g,c,h=>cond (f==(g.Ac.length:Int)) ((d h c).bind fun r2=>some ((r2.1,c,r2.2))) ((B2 (Bs e d i) e f g c e (0:Int) c h).bind fun z=>Sum.elim (fun a=>some ((a.1,a.2.1,a.2.2))) (fun a=>some ((true,a.1,a.2))) z)
end Go.Proofs.YtkljfdkmjdjpfaaGreat
end
section
set_option linter.unusedVariables false
set_option linter.unusedSimpArgs false
namespace Go.Proofs.YtkljfdkmjdjpfaaGreat
open Go.RowKit Go.WideShapes
def EF{a:Type}(c:Nat)(d:a→(List (List Int))→Option (Bool×a))(b:Ao)(e:a):Option (a):=
 (JV b.Ah 24).bind fun _=>(Bs c d c 0 b (List.replicate b.Ah.toNat ([]:List Int)) e).bind fun f=>some (f.2.2)
end Go.Proofs.YtkljfdkmjdjpfaaGreat
end
section
set_option linter.unusedVariables false
set_option linter.unusedSimpArgs false
namespace Go.Proofs.YtkljfdkmjdjpfaaGreat
open Go.RowKit Go.WideShapes
def GF(c:Nat)(a:Ao):Option ((List (List Int))×Int×Int):=
 (Di c a).bind fun d=>cond (d !=0) (some ((([]:List (List Int)),0,d))) ((i64 ((a.Ac.length:Int)+1)).bind fun _=>(EF c (fun(st:Int×(List (List Int))) (x:(List (List Int)))=>(FT c x a st.1 st.2).bind fun r=>some (r.1,(r.2.1,r.2.2))) a ((a.Ac.length:Int)+1,([]:List (List Int)))).bind fun b=>some ((b.2,b.1,0)))
def GG(b:Nat)(c:Ao):Option ((List (List Int))×Int×Int):=
 (Di b c).bind fun d=>cond (d !=0) (some ((([]:List (List Int)),0,d))) ((EF b (fun(st:Int×BG×(List (List Int))) (x:(List (List Int)))=>(Ex b x c st.1 st.2.1 st.2.2).bind fun r=>some (r.1,(r.2.1,r.2.2.1,r.2.2.2))) c ((-1),(⟨0,0,0,0⟩:BG),([]:List (List Int)))).bind fun a=>some ((a.2.2,a.1,0)))
end Go.Proofs.YtkljfdkmjdjpfaaGreat
end
section
set_option linter.unusedVariables false
set_option linter.unusedSimpArgs false
namespace Go.Proofs.YtkljfdkmjdjpfaaGreat
open Go.RowKit Go.WideShapes
def DI(e:Nat)(c:Ao):Nat→(List Int)→Int→Option ((List Int))
 |0,_,_=>none
 |f+1,b,a=>cond (decide (a<(c.Ac.length:Int))) ((JV c.Ah 24).bind fun _=>(idx (List.replicate c.Ah.toNat ([]:List Int)) (0:Int)).bind fun _=>(IK (c.Ac.length:Int) a e (0:Int) ((List.replicate c.Ah.toNat ([]:List Int)).set 0 [a])).bind fun g=>(Cs e (fun(st:Unit) (x:AX×Ar)=>(C2 e x.1 x.2).bind fun r=>some (r,())) c g ()).bind fun d=>(idx ([d.1.a0,d.1.a1,d.1.a2,d.1.a3]:List Int) a).bind fun h=>cond (h==d.2.1) ((i64 (a+1)).bind fun _=>DI e c f b (a+1)) ((FX (((b.length+[a].length:Nat):Int)≤140737488355328/8)).bind fun _=>(i64 (a+1)).bind fun _=>DI e c f (b++[a]) (a+1))) (some (b))
def Ft(a:Nat)(b:Ao):Option ((List Int)×Int):=
 (Di a b).bind fun r2=>cond (r2 !=0) (some ((([]:List Int),r2))) ((DI a b a ([]:List Int) (0:Int)).bind fun z5=>some ((z5,0)))
end Go.Proofs.YtkljfdkmjdjpfaaGreat
end
section
set_option linter.unusedVariables false
set_option linter.unusedSimpArgs false
namespace Go.Proofs.YtkljfdkmjdjpfaaGreat
open Go.RowKit Go.WideShapes
def DN(g:Nat)(h:Ao):Nat→Int→Int→(List Int)→Option ((List Int))
 |0,_,_,_=>none
 |i+1,a,d,b=>cond (decide (d<(h.Ac.length:Int))) ((idx h.Ac d).bind fun c=>(D2 g (⟨c.Aq,c.AA⟩:Cv)).bind fun e=>(rem a e).bind fun _=>(i64 (c.Aq+(a%e))).bind fun _=>(FX (((b.length+[c.Aq+(a%e)].length:Nat):Int)≤140737488355328/8)).bind fun _=>(D2 g (⟨c.Aq,c.AA⟩:Cv)).bind fun f=>(quo a f).bind fun _=>(i64 (a/f)).bind fun _=>(i64 (d+1)).bind fun _=>DN g h i (a/f) (d+1) (b++[c.Aq+(a%e)])) (some (b))
def DD(d:Nat)(e:Ao)(f:Int):Nat→Int→(List Bool)→Option ((List Bool))
 |0,_,_=>none
 |g+1,a,b=>cond (decide (a≤e.Aj)) ((DW d f a).bind fun c=>(FX (((b.length+[c].length:Nat):Int)≤140737488355328/1)).bind fun _=>(i64 (a+1)).bind fun _=>DD d e f g (a+1) (b++[c])) (some (b))
def Fy(c:Nat)(d:Ao)(a:List Int)(b:Int):Option (AS):=
 (rem b (a.length:Int)).bind fun _=>(idx a (b%(a.length:Int))).bind fun e=>(quo b (a.length:Int)).bind fun _=>(i64 (b/(a.length:Int))).bind fun _=>(DN c d c (b/(a.length:Int)) (0:Int) ([]:List Int)).bind fun f=>(DD c d e c (0:Int) ([]:List Bool)).bind fun z23=>some ((⟨f,z23⟩:AS))
end Go.Proofs.YtkljfdkmjdjpfaaGreat
end
section
set_option linter.unusedVariables false
set_option linter.unusedSimpArgs false
namespace Go.Proofs.YtkljfdkmjdjpfaaGreat
open Go.RowKit Go.WideShapes
def Dl(c:List (List Int)):Nat→(List (List Int))→Int→Option ((List (List Int)))
 |0,_,_=>none
 |e+1,b,a=>cond (decide (a<(c.length:Int))) ((idx c a).bind fun d=>(FX (((([]:List Int).length+d.length:Nat):Int)≤140737488355328/8)).bind fun _=>(FX (((b.length+[([]:List Int)++d].length:Nat):Int)≤140737488355328/24)).bind fun _=>(i64 (a+1)).bind fun _=>Dl c e (b++[([]:List Int)++d]) (a+1)) (some (b))
def Em(a:Nat)(b:List (List Int)):Option ((List (List Int))):=
 (Dl b a ([]:List (List Int)) (0:Int)).bind fun z2=>some (z2)
def En(b:Nat)(a:AS):Option (AS):=
 (FX (((([]:List Int).length+a.Comes.length:Nat):Int)≤140737488355328/8)).bind fun _=>(FX (((([]:List Bool).length+a.An.length:Nat):Int)≤140737488355328/1)).bind fun _=>some ((⟨([]:List Int)++a.Comes,([]:List Bool)++a.An⟩:AS))
def Eo(a:Nat)(b:Ao):Option (Bool):=
 (Fk a b).bind fun r2=>cond (r2) ((E5 a b).bind fun c=>some (c==0)) (some (false))
def Fl(a:Nat)(b:Ao)(c:Int):Option (AS):=
 (DU a b).bind fun e=>(Me .i64 c).bind fun _=>(Dd a b).bind fun d=>(rem c d).bind fun _=>(Fy a b e (c%d)).bind fun f=>some (f)
end Go.Proofs.YtkljfdkmjdjpfaaGreat
end
section
set_option linter.unusedVariables false
set_option linter.unusedSimpArgs false
namespace Go.Proofs.YtkljfdkmjdjpfaaGreat
open Go.RowKit Go.WideShapes
def Dw(a:Nat):Option (Bool):=
 (Cx a 1).bind fun r1=>(Gb a 3).bind fun v=>(FD a r1 [[0,1]] v).bind fun h=>(Cx a 1).bind fun w=>(ET a w [[0,1]] 1).bind fun d=>(Cx a 1).bind fun i=>(ET a i [[1,0]] 0).bind fun e=>(Cx a 1).bind fun j=>(F8 a j [[1,0]]).bind fun b=>(Cx a 1).bind fun k=>(GF a k).bind fun c=>(Cx a 1).bind fun l=>(GG a l).bind fun f=>(Cx a 1).bind fun m=>(Ft a m).bind fun g=>cond (h.2==0) ((CY a 0 1 true).bind fun n=>(CY a 2 3 false).bind fun o=>(Gc a h.1 n o).bind fun p=>cond (p) (cond (d.2==0) (cond (d.1==3) (cond (e.2==0) (cond (e.1==2) (cond (b.2.2==0) (cond (b.1==2) ((Cx a 1).bind fun q=>(Fe a q [[1,0]] b.2.1 2).bind fun r=>cond (r) (cond (c.2.2==0) (cond (c.2.1==1) ((Cx a 1).bind fun s=>(EX a s c.1 1).bind fun t=>cond (t) (cond (f.2.2==0) (cond (f.2.1==1) (cond (g.2==0) ((Fj a g.1 [1]).bind fun u=>some (u)) (some (false))) (some (false))) (some (false))) (some (false))) (some (false))) (some (false))) (some (false))) (some (false))) (some (false))) (some (false))) (some (false))) (some (false))) (some (false))) (some (false))) (some (false))
end Go.Proofs.YtkljfdkmjdjpfaaGreat
end
section
namespace Go.Proofs.YtkljfdkmjdjpfaaGreat
theorem bd{α β:Type}{x:Option α}{a:α}{f:α→Option β}(h:x=some a):x.bind f=f a:=by rw[h];rfl
theorem BM{β:Type}{x:Int}{f:Int→Option β}(h0:-9223372036854775808≤x)(h1:x≤9223372036854775807):(i64 x).bind f=f x:=bd (S8 h0 h1)
theorem Dm{α β:Type}{xs:List α}{k:Nat}{f:α→Option β}(h:k<xs.length):(idx xs (k:Int)).bind f=f xs[k]:=bd (idx_eq h)
theorem FK{β:Type}{p:Prop}[Decidable p]{f:Unit→Option β}(h:p):(FX p).bind f=f ():=bd (if_pos h)
theorem M5{β:Type}{a b:Int}{f:Int→Option β}(h0:0≤a)(h1:1≤b):(rem a b).bind f=f (a%b):=bd (if_pos ⟨h0,h1⟩)
theorem Tj{β:Type}{a b:Int}{f:Int→Option β}(h0:0≤a)(h1:1≤b):(quo a b).bind f=f (a/b):=bd (if_pos ⟨h0,h1⟩)
theorem Oc{β:Type}{n:Int}{b:Nat}{f:Unit→Option β}(h0:0≤n)(h1:n*b≤140737488355328)(a:n≤140737488355328):(JV n b).bind f=f ():=bd (if_pos ⟨h0,h1,a⟩)
theorem ct{α:Type}{b:Bool}{x y:α}(h:b=true):cond b x y=x:=by rw[h];rfl
theorem cf{α:Type}{b:Bool}{x y:α}(h:b=false):cond b x y=y:=by rw[h];rfl
theorem nt{α:Type}{x y:α}:cond (!true) x y=y:=rfl
theorem nf{α:Type}{x y:α}:cond (!false) x y=x:=rfl
theorem dt{p:Prop}[Decidable p](h:p):decide p=true:=decide_eq_true h
theorem df{p:Prop}[Decidable p](h:¬p):decide p=false:=decide_eq_false h
theorem DJ(i:Nat):(i:Int)+1=((i+1:Nat):Int):=by omega
def FL(n a b:Int):Bool:=decide (a≤n)&&decide (n≤b)
theorem Fu{n a b:Int}:FL n a b=true↔a≤n∧n≤b:=by simp[FL]
theorem M6(K:Nat)(n a b:Int):DL K n a b=some (FL n a b):=by unfold DL FL;cases decide (a≤n)<;>rfl
theorem G8(K:Nat)(n a b:Int):D6 K n a b=some (FL n a b):=by unfold D6 FL;cases decide (a≤n)<;>rfl
def run {σ α:Type} (cb:σ→α→Option (Bool×σ)):List α→σ→Option (Bool×σ)
 |[],s=>some (true,s)
 |x::l,s=>(cb s x).bind fun r=>cond r.1 (run cb l r.2) (some (false,r.2))
theorem Ho{σ α:Type}(cb:σ→α→Option (Bool×σ))(a:List α):∀(b:List α) (s:σ),run cb (b++a) s=(run cb b s).bind fun r=>cond r.1 (run cb a r.2) (some (false,r.2))
 |[],s=>rfl
 |x::l,s=>by
  simp only[List.cons_append,run];cases cb s x with
  |none=>rfl
  |some r=>
   simp only[Option.bind_some];cases h:r.1 with
   |false=>simp
   |true=>simpa using Ho cb a l r.2
theorem run_map{σ α β:Type}(cb:σ→β→Option (Bool×σ))(f:α→β):∀(l:List α) (s:σ),run cb (l.map f) s=run (fun s x=>cb s (f x)) l s
 |[],s=>rfl
 |x::l,s=>by simp only[List.map_cons,run,run_map cb f l]
theorem O3{σ:Type}(K:Nat)(cb:σ→Bool→Option (Bool×σ))(p:List Bool)(a:p.length≤5000):∀(n m i:Nat) (s:σ),p.length=i+n→n<m→
  (CM (fun(st:σ) (x:Bool)=>(Eg K cb x st).bind fun r=>some (r.1,r.2)) p m (i:Int) s).bind (fun z=>Sum.elim (fun q=>some (decide ((0:Int)≤q.1),q.2)) (fun q=>some (false,q)) z)=(run cb (p.drop i) s).bind fun r=>some (!r.1,r.2):=by
 intro n
 induction n with
 |zero=>
  intro m i s h hm;cases m with
  |zero=>omega
  |succ m=>
   rw[CM.eq_2,cf (df (by omega)),List.drop_eq_nil_of_le (by omega)];rfl
 |succ n ih=>
  intro m i s h hm;cases m with
  |zero=>omega
  |succ m=>
   have hi:i<p.length:=by omega
   rw[CM.eq_2,ct (dt (by omega)),Dm hi,List.drop_eq_getElem_cons hi];simp only[run];have e:(Eg K cb p[i] s).bind (fun r=>some (r.1,r.2))=(cb s p[i]).bind fun r=>some (!r.1,r.2):=by
    unfold Eg;cases cb s p[i]<;>rfl
   rw[e];cases b:cb s p[i] with
   |none=>rfl
   |some r=>
    simp only[Option.bind_some];cases c:r.1 with
    |false=>
     show some (decide ((0:Int)≤(i:Int)),r.2)=some (!false,r.2);rw[dt (by omega)];rfl
    |true=>
     rw[nt,BM (by omega) (by omega),DJ];exact ih m (i+1) r.2 (by omega) (by omega)
theorem O4{σ:Type}{K:Nat}(cb:σ→Bool→Option (Bool×σ))(p:List Bool)(s:σ)(b:p.length≤5000)(hK:p.length<K):F2 K cb p s=run cb p s:=by
 unfold F2 Ew E4;have h:=O3 K cb p b p.length K 0 s (by omega) hK;rw[List.drop_zero,Int.natCast_zero] at h;have e:∀(z:(Int×σ)⊕σ),(Sum.elim (fun a=>some ((a.1,a.2))) (fun a=>some (((-1),a))) z:Option (Int×σ)).bind (fun r1=>some ((decide ((0:Int)≤r1.1),r1.2)))=Sum.elim (fun q=>some (decide ((0:Int)≤q.1),q.2)) (fun q=>some (false,q)) z:=by
  intro z;cases z<;>rfl
 refine Eq.trans (congrArg (fun z=>Option.bind z _) ((Option.bind_assoc _ _ _).trans ((congrArg (fun f=>Option.bind _ f) (funext e)).trans h))) ?_;cases run cb p s with
 |none=>rfl
 |some r=>show some (!(!r.1),r.2)=some r;rw[Bool.not_not]
theorem PF{σ:Type}(K:Nat)(cb:σ→AX→Option (Bool×σ))(p:List AX)(a:p.length≤5000):∀(n m i:Nat) (s:σ),p.length=i+n→n<m→
  (CV (fun(st:σ) (x:AX)=>(EA K cb x st).bind fun r=>some (r.1,r.2)) p m (i:Int) s).bind (fun z=>Sum.elim (fun q=>some (decide ((0:Int)≤q.1),q.2)) (fun q=>some (false,q)) z)=(run cb (p.drop i) s).bind fun r=>some (!r.1,r.2):=by
 intro n
 induction n with
 |zero=>
  intro m i s h hm;cases m with
  |zero=>omega
  |succ m=>
   rw[CV.eq_2,cf (df (by omega)),List.drop_eq_nil_of_le (by omega)];rfl
 |succ n ih=>
  intro m i s h hm;cases m with
  |zero=>omega
  |succ m=>
   have hi:i<p.length:=by omega
   rw[CV.eq_2,ct (dt (by omega)),Dm hi,List.drop_eq_getElem_cons hi];simp only[run];have e:(EA K cb p[i] s).bind (fun r=>some (r.1,r.2))=(cb s p[i]).bind fun r=>some (!r.1,r.2):=by
    unfold EA;cases cb s p[i]<;>rfl
   rw[e];cases b:cb s p[i] with
   |none=>rfl
   |some r=>
    simp only[Option.bind_some];cases c:r.1 with
    |false=>
     show some (decide ((0:Int)≤(i:Int)),r.2)=some (!false,r.2);rw[dt (by omega)];rfl
    |true=>
     rw[nt,BM (by omega) (by omega),DJ];exact ih m (i+1) r.2 (by omega) (by omega)
theorem PG{σ:Type}{K:Nat}(cb:σ→AX→Option (Bool×σ))(p:List AX)(s:σ)(b:p.length≤5000)(hK:p.length<K):Gk K cb p s=run cb p s:=by
 unfold Gk EH Fh;have h:=PF K cb p b p.length K 0 s (by omega) hK;rw[List.drop_zero,Int.natCast_zero] at h;have e:∀(z:(Int×σ)⊕σ),(Sum.elim (fun a=>some ((a.1,a.2))) (fun a=>some (((-1),a))) z:Option (Int×σ)).bind (fun r1=>some ((decide ((0:Int)≤r1.1),r1.2)))=Sum.elim (fun q=>some (decide ((0:Int)≤q.1),q.2)) (fun q=>some (false,q)) z:=by
  intro z;cases z<;>rfl
 refine Eq.trans (congrArg (fun z=>Option.bind z _) ((Option.bind_assoc _ _ _).trans ((congrArg (fun f=>Option.bind _ f) (funext e)).trans h))) ?_;cases run cb p s with
 |none=>rfl
 |some r=>show some (!(!r.1),r.2)=some r;rw[Bool.not_not]
def okW (W R:Int):List Bool→Int→Int→Bool
 |[],_,_=>true
 |false::l,s,_=>okW W R l s 0
 |true::l,s,r=>decide (s+1≤W)&&(decide (r+1≤R)&&okW W R l (s+1) (r+1))
theorem Jo(K:Nat)(y:Ao):∀(l:List Bool) (r s:Int),0≤r→0≤s→r+l.length≤5000→s+l.length≤5000→
  (run (fun(st:Int×Int) (x:Bool)=>(DC K x st.1 st.2 y).bind fun r=>some (r.1,(r.2.1,r.2.2))) l (r,s)).bind (fun c=>some (c.1))=some (okW y.An y.Av l s r)
 |[],r,s,_,_,_,_=>rfl
 |false::l,r,s,h1,b,h3,a=>by
  simp only[run,okW];unfold DC;simp only[Bool.not_false,cond_true,Option.bind_some];exact Jo K y l 0 s (by omega) b (by simp at h3;omega) (by simp at a;omega)
 |true::l,r,s,h1,b,h3,a=>by
  simp only[List.length_cons] at h3 a;simp only[run,okW];unfold DC;simp only[Bool.not_true,cond_false];rw[BM (by omega) (by omega),BM (by omega) (by omega)];cases d:decide (s+1≤y.An) with
  |false=>simp
  |true=>
   simp only[cond_true,Option.bind_some];cases e:decide (r+1≤y.Av) with
   |false=>simp
   |true=>
    simp only[cond_true,Bool.true_and];exact Jo K y l (r+1) (s+1) (by omega) (by omega) (by omega) (by omega)
theorem Mg{K:Nat}(y:Ao)(l:List Bool)(a:l.length≤4000)(hK:l.length<K):Ej K y l=some (okW y.An y.Av l 0 0):=by
 unfold Ej;rw[O4 _ l _ (by omega) hK];exact Jo K y l 0 0 (by omega) (by omega) (by omega) (by omega)
end Go.Proofs.YtkljfdkmjdjpfaaGreat
end
section
namespace Go.Proofs.YtkljfdkmjdjpfaaGreat
theorem Od(s x:Nat):E9 (s:Int) (x:Int)=((s/2^x:Nat):Int):=by
 unfold E9;rw[Int.toNat_natCast,Int.natCast_ediv,Int.natCast_pow];rfl
theorem RM(s x:Nat):E9 (s:Int) (x:Int)%2=((s/2^x%2:Nat):Int):=by rw[Od];simp
theorem PH(b d:Nat):(E9 (b:Int) (d:Int)%2==1)=b.testBit d:=by
 rw[RM,Nat.testBit_eq_decide_div_mod_eq];cases h:decide (b/2^d%2=1) with
 |true=>rw[of_decide_eq_true h];rfl
 |false=>
  have:=of_decide_eq_false h;simp only[beq_eq_false_iff_ne,ne_eq];omega
theorem PI(b d:Nat)(h:d<64):MW (b:Int) (d:Int)=some ():=if_pos ⟨by omega,by omega⟩
theorem Tk(b d:Nat):0≤E9 (b:Int) (d:Int):=by rw[Od];exact Int.natCast_nonneg _
def wl (n b:Nat):List Bool:=(List.range n).map b.testBit
theorem Fm(n b:Nat):(wl n b).length=n:=by simp[wl]
theorem Uu(b n:Nat)(a:List Bool)(h0:a.length=n)(d:n≤63):∀(k m i:Nat) (s:List Bool),n=i+k→k<m→s.length=n→
  CF (b:Int) a m (i:Int) s=some (s.take i++(List.range' i k).map b.testBit):=by
 intro k
 induction k with
 |zero=>
  intro m i s h hm c;cases m with
  |zero=>omega
  |succ m=>
   rw[CF.eq_2,cf (df (by omega)),List.take_of_length_le (by omega)];simp
 |succ k ih=>
  intro m i s h hm c;cases m with
  |zero=>omega
  |succ m=>
   have hi:i<s.length:=by omega
   rw[CF.eq_2,ct (dt (by omega)),bd (PI b i (by omega)),M5 (Tk b i) (by omega),Dm hi,BM (by omega) (by omega),DJ,PH,Int.toNat_natCast];rw[ih m (i+1) (s.set i (b.testBit i)) (by omega) (by omega) (by rw[List.length_set];exact c)]
   congr 1
   rw[List.range'_succ,List.map_cons,List.take_add_one,List.getElem?_set_self hi,List.take_set_of_le (Nat.le_refl _)];simp
theorem Uv(b n:Nat)(s:List Bool)(c:n≤63){K:Nat}(hK:n<K)(a:s.length=n):CF (b:Int) s K 0 s=some (wl n b):=by
 have:=Uu b n s a c n K 0 s (by omega) hK a;rw[Int.natCast_zero] at this;rw[this,wl,List.range_eq_range'];rfl
def GY (y:Ao) (l:List Bool):Bool:=okW y.An y.Av l 0 0
def days(y:Ao):Nat:=(y.Aj+1).toNat
def Bl(y:Ao):List (List Bool):=((List.range (2^days y)).map (wl (days y))).filter (GY y)
theorem Im:∀n:Nat,n≤10→2^n≤1024:=by decide
theorem O5{σ:Type}{K:Nat}(cb:σ→List Bool→Option (Bool×σ))(y:Ao)(hy:days y≤10)(hK:2000≤K):∀(k m i:Nat) (a:List Bool) (st:σ),2^days y=i+k→k<m→a.length=days y→
  CG cb K y m (i:Int) a st=(run cb (((List.range' i k).map (wl (days y))).filter (GY y)) st).bind fun r=>some (cond r.1 (.inr r.2) (.inl r.2)):=by
 intro k;have f:=Im _ hy;have b:G4 (1:Int) ((List.replicate (y.Aj+1).toNat false).length:Int)=((2^days y:Nat):Int):=by
  unfold G4;rw[Int.one_mul,Int.toNat_natCast,List.length_replicate,Int.natCast_pow];rfl
 induction k with
 |zero=>
  intro m i a st h hm c;cases m with
  |zero=>omega
  |succ m=>
   rw[CG.eq_2,b,cf (df (by omega))];rfl
 |succ k ih=>
  intro m i a st h hm c;cases m with
  |zero=>omega
  |succ m=>
   rw[CG.eq_2,b,ct (dt (by omega)),bd (Uv i (days y) a (by omega) (by omega) c),bd (Mg y (wl (days y) i) (by rw[Fm];omega) (by rw[Fm];omega))];rw[List.range'_succ,List.map_cons];show cond (GY y (wl (days y) i)) _ _=_;cases d:GY y (wl (days y) i) with
   |false=>
    rw[List.filter_cons_of_neg (by rw[d];decide),cf rfl,BM (by omega) (by omega),DJ];exact ih m (i+1) _ st (by omega) (by omega) (Fm _ _)
   |true=>
    rw[List.filter_cons_of_pos d,ct rfl];show _=(Option.bind _ _:Option (Bool×σ)).bind _;cases g:cb st (wl (days y) i) with
    |none=>rfl
    |some r=>
     cases e:r.1 with
     |false=>
      show(cond (!r.1) (some (Sum.inl r.2)) _:Option (σ⊕σ))=(cond r.1 _ (some (false,r.2)):Option (Bool×σ)).bind _;rw[e];rfl
     |true=>
      show cond (!r.1) _ ((i64 ((i:Int)+1)).bind _)=(cond r.1 (run cb _ r.2) _:Option (Bool×σ)).bind _;rw[e,nt,BM (by omega) (by omega),DJ];exact ih m (i+1) _ r.2 (by omega) (by omega) (Fm _ _)
theorem Ll{σ:Type}{K:Nat}(cb:σ→List Bool→Option (Bool×σ))(y:Ao)(h0:0≤y.Aj)(h9:y.Aj≤9)(hK:2000≤K)(st:σ):
  Dh K cb y st=(run cb (Bl y) st).bind fun r=>some r.2:=by
 have a:days y≤10:=by unfold days;omega
 have c:=Im _ a;unfold Dh;rw[BM (by omega) (by omega),Oc (by omega) (by omega) (by omega)];have b:LJ (1:Int) ((List.replicate (y.Aj+1).toNat false).length:Int)=some ():=by
  rw[List.length_replicate];refine if_pos ⟨by omega,by omega,?_,?_⟩
  ·have:(0:Int)≤1*2^((days y:Nat):Int).toNat:=by rw[Int.one_mul];exact Int.le_of_lt (Int.pow_pos (by omega))
   exact Int.le_trans (by omega) this
  ·rw[Int.one_mul,Int.toNat_natCast];have:((2^days y:Nat):Int)≤1024:=by omega
   rw[Int.natCast_pow] at this;exact Int.le_trans this (by omega)
 rw[bd b];have:=O5 (K:=K) cb y a hK (2^days y) K 0 (List.replicate (y.Aj+1).toNat false) st (by omega) (by omega) (by rw[List.length_replicate];rfl);rw[Int.natCast_zero] at this;rw[this,Bl,List.range_eq_range',Option.bind_assoc]
 congr 1;funext r
 cases r.1<;>rfl
end Go.Proofs.YtkljfdkmjdjpfaaGreat
end
section
namespace Go.Proofs.YtkljfdkmjdjpfaaGreat
def F3(y:Ao)(l:AX):Bool:=decide (0≤l.Aq)&&(decide (l.Aq≤l.AA)&&(decide (l.AA≤y.Aj)&&(FL l.AI 1 5&&(FL l.B3 1 5&&FL l.Ci 0 y.Aj))))
def BS(l:AX):Int:=l.AA-l.Aq+1
def EI:List AX→Int
 |[]=>1
 |l::r=>BS l*EI r
def F4 (y:Ao):Int:=((Bl y).length:Int)*EI y.Ac
def check(y:Ao):Int:=
 if 9<y.Aj∨2<y.Ah∨4<(y.Ac.length:Int) then 3
 else if y.Aj<0∨y.Ah<1∨FL y.An 0 (y.Aj+1)=false∨FL y.Av 0 (y.Aj+1)=false∨y.Ac.all (F3 y)=false then 1
 else if 1000<F4 y then 3 else 0
theorem GN{y:Ao}{l:AX}:F3 y l=true↔0≤l.Aq∧l.Aq≤l.AA∧l.AA≤y.Aj∧(1≤l.AI∧l.AI≤5)∧(1≤l.B3∧l.B3≤5)∧0≤l.Ci∧l.Ci≤y.Aj:=by
 unfold F3;simp only[Bool.and_eq_true,decide_eq_true_eq,Fu]
theorem Uw(K:Nat)(y:Ao)(l:AX):EP K y l=some (F3 y l):=by
 unfold EP F3 GJ GA;rw[G8,G8,G8];cases decide ((0:Int)≤l.Aq)<;>cases decide (l.Aq≤l.AA)<;>cases decide (l.AA≤y.Aj)<;>cases FL l.AI 1 5<;>cases FL l.B3 1 5<;>rfl
theorem Tl{K:Nat}(hK:2<K)(a b:Int):Gl K [a,b]=some (min a b):=by
 obtain⟨k,rfl⟩:∃k,K=k+3:=⟨K-3,by omega⟩;unfold Gl Gw;rw[cf (df (by simp)),show(0:Int)=((0:Nat):Int) from rfl,Dm (by simp),show(1:Int)=((1:Nat):Int) from rfl,Ek.eq_2,ct (dt (by simp)),Dm (by simp),BM (by omega) (by omega),Ek.eq_2,cf (df (by simp))];rfl
theorem PJ(K:Nat)(l:AX)(h0:0≤l.Aq)(h1:l.Aq≤l.AA)(a:l.AA≤9):EW K (⟨l.Aq,l.AA⟩:Cv)=some (BS l):=by
 unfold EW;show(i64 (l.AA-l.Aq)).bind _=_;rw[BM (by omega) (by omega)];show(i64 (l.AA-l.Aq+1)).bind _=_;rw[BM (by omega) (by omega)];rfl
theorem PK(K:Nat)(l:AX)(h0:0≤l.Aq)(h1:l.Aq≤l.AA)(a:l.AA≤9):D2 K (⟨l.Aq,l.AA⟩:Cv)=some (BS l):=by
 unfold D2;show(i64 (l.AA-l.Aq)).bind _=_;rw[BM (by omega) (by omega)];show(i64 (l.AA-l.Aq+1)).bind _=_;rw[BM (by omega) (by omega)];rfl
def IL(c:Int):Int→List AX→Int
 |n,[]=>n
 |n,l::r=>IL c (min (n*BS l) c) r
def sized(l:AX):Prop:=1≤BS l∧BS l≤10
theorem KV{y:Ao}{l:AX}(h9:y.Aj≤9)(h:F3 y l=true):sized l:=by
 obtain⟨h1,a,h3,_⟩:=GN.1 h;unfold sized BS;omega
theorem J1:∀{ls:List AX},(∀l∈ls,sized l)→1≤EI ls
 |[],_=>Int.le_refl _
 |l::r,h=>by
  have h1:=(h l (List.mem_cons_self ..)).1;have a:=J1 (ls:=r) fun x b=>h x (List.mem_cons_of_mem _ b);have:=Int.mul_le_mul h1 a (by omega) (by omega);unfold EI;omega
theorem LN{c:Int}(d:1000<c):∀{ls:List AX} (n:Int),0≤n→(∀l∈ls,sized l)→(1000<IL c n ls↔1000<n*EI ls)
 |[],n,_,_=>by simp[IL,EI]
 |l::r,n,e,h=>by
  have f:=h l (List.mem_cons_self ..);have a:∀x∈r,sized x:=fun x g=>h x (List.mem_cons_of_mem _ g);have b:=J1 a;have h0:0≤n*BS l:=Int.mul_nonneg e (by have:=f.1;omega);unfold IL EI;rw[LN d _ (by omega) a,←Int.mul_assoc];rcases Int.le_total (n*BS l) c with h1|h1
  ·rw[Int.min_eq_left h1]
  ·rw[Int.min_eq_right h1];have i:c*1≤c*EI r:=Int.mul_le_mul_of_nonneg_left b (by omega);have h3:(n*BS l)*1≤n*BS l*EI r:=Int.mul_le_mul_of_nonneg_left b h0;constructor<;>intro _<;>omega
theorem Oe{c:Int}(b:1000<c):∀{ls:List AX} (n:Int),0≤n→(∀l∈ls,sized l)→n*EI ls≤1000→IL c n ls=n*EI ls
 |[],n,_,_,_=>by simp[IL,EI]
 |l::r,n,d,h,hle=>by
  have e:=h l (List.mem_cons_self ..);have a:∀x∈r,sized x:=fun x f=>h x (List.mem_cons_of_mem _ f);have g:=J1 a;have h0:0≤n*BS l:=Int.mul_nonneg d (by have:=e.1;omega);rw[EI,←Int.mul_assoc] at hle;rw[IL,EI,←Int.mul_assoc];have h3:(n*BS l)*1≤n*BS l*EI r:=Int.mul_le_mul_of_nonneg_left g h0;rw[Int.min_eq_left (by omega),Oe b _ h0 a hle]
theorem RN(y:Ao)(g:y.Ac.length≤4)(a:∀l∈y.Ac,sized l∧0≤l.Aq∧l.AA≤9){K:Nat}(hK:2000≤K):∀(k m i:Nat) (n:Int),y.Ac.length=i+k→k<m→0≤n→n≤3000→
  DM K y m (i:Int) n=some (IL 1001 n (y.Ac.drop i)):=by
 intro k
 induction k with
 |zero=>
  intro m i n h hm h0 h1;cases m with
  |zero=>omega
  |succ m=>rw[DM.eq_2,cf (df (by omega)),List.drop_eq_nil_of_le (by omega)];rfl
 |succ k ih=>
  intro m i n h hm h0 h1;cases m with
  |zero=>omega
  |succ m=>
   have hi:i<y.Ac.length:=by omega
   obtain⟨⟨s1,s2⟩,b,c⟩:=a y.Ac[i] (List.getElem_mem hi);have d:1≤BS y.Ac[i]∧BS y.Ac[i]≤10:=⟨s1,s2⟩;have e:0≤n*BS y.Ac[i]:=Int.mul_nonneg h0 (by omega);have f:n*BS y.Ac[i]≤3000*10:=Int.mul_le_mul h1 s2 (by omega) (by omega);rw[DM.eq_2,ct (dt (by omega)),Dm hi,bd (PJ K _ b (by unfold BS at s1;omega) c),BM (by omega) (by omega),bd (Tl (by omega) _ _),BM (by omega) (by omega),DJ];rw[ih m (i+1) _ (by omega) (by omega) (by omega) (by omega),List.drop_eq_getElem_cons hi];rfl
theorem Tm(y:Ao)(g:y.Ac.length≤4)(a:∀l∈y.Ac,sized l∧0≤l.Aq∧l.AA≤9){K:Nat}:∀(k m i:Nat) (n:Int),y.Ac.length=i+k→k<m→0≤n→n≤3000→
  Dz K y m n (i:Int)=some (IL 3000 n (y.Ac.drop i)):=by
 intro k
 induction k with
 |zero=>
  intro m i n h hm h0 h1;cases m with
  |zero=>omega
  |succ m=>rw[Dz.eq_2,cf (df (by omega)),List.drop_eq_nil_of_le (by omega)];rfl
 |succ k ih=>
  intro m i n h hm h0 h1;cases m with
  |zero=>omega
  |succ m=>
   have hi:i<y.Ac.length:=by omega
   obtain⟨⟨s1,s2⟩,b,c⟩:=a y.Ac[i] (List.getElem_mem hi);have d:1≤BS y.Ac[i]∧BS y.Ac[i]≤10:=⟨s1,s2⟩;have e:0≤n*BS y.Ac[i]:=Int.mul_nonneg h0 (by omega);have f:n*BS y.Ac[i]≤3000*10:=Int.mul_le_mul h1 s2 (by omega) (by omega);rw[Dz.eq_2,ct (dt (by omega)),Dm hi,bd (PK K _ b (by unfold BS at s1;omega) c),BM (by omega) (by omega),BM (by omega) (by omega),DJ,Int.min_comm];rw[ih m (i+1) _ (by omega) (by omega) (by omega) (by omega),List.drop_eq_getElem_cons hi];rfl
theorem Mh{α:Type}:∀(l:List α) (n:Int),0≤n→n+l.length≤100000→run (fun(st:Int) (_:α)=>(i64 (st+1)).bind fun _=>some (true,st+1)) l n=some (true,n+l.length)
 |[],n,_,_=>by simp[run]
 |x::l,n,h0,h1=>by
  simp only[List.length_cons] at h1⊢;rw[run,BM (by omega) (by omega)];show run _ l (n+1)=_;rw[Mh l (n+1) (by omega) (by omega)]
  congr 2;omega
theorem J2(y:Ao)(h:days y≤10):(Bl y).length≤1024:=by
 have h1:=Im _ h;have:(Bl y).length≤((List.range (2^days y)).map (wl (days y))).length:=List.length_filter_le ..;simp at this;omega
theorem Mi{K:Nat}(y:Ao):∀(l:List AX),run (fun(st:Unit) (x:AX)=>(EP K y x).bind fun r=>some (r,())) l ()=some (l.all (F3 y),())
 |[]=>rfl
 |x::l=>by
  rw[run,Uw];show cond (F3 y x) (run _ l ()) (some (false,()))=_;rw[Mi y l,List.all_cons];cases F3 y x<;>rfl
theorem H4{K:Nat}(hK:2000≤K)(y:Ao):Di K y=some (check y):=by
 unfold Di check
 by_cases h1:9<y.Aj
 ·rw[ct (dt h1),if_pos (.inl h1)]
 rw[cf (df h1)]
 by_cases g:2<y.Ah
 ·rw[ct (dt g),if_pos (.inr (.inl g))]
 rw[cf (df g)]
 by_cases h3:4<(y.Ac.length:Int)
 ·rw[ct (dt h3),if_pos (.inr (.inr h3))]
 rw[cf (df h3),if_neg (by omega)]
 by_cases b:y.Aj<0
 ·rw[ct (dt b),if_pos (.inl b)]
 rw[cf (df b)]
 by_cases d:y.Ah<1
 ·rw[ct (dt d),if_pos (.inr (.inl d))]
 rw[cf (df d),BM (by omega) (by omega),bd (G8 ..)];cases p:FL y.An 0 (y.Aj+1) with
 |false=>rw[nf,if_pos (.inr (.inr (.inl rfl)))]
 |true=>
  rw[nt,BM (by omega) (by omega),bd (G8 ..)];cases q:FL y.Av 0 (y.Aj+1) with
  |false=>rw[nf,if_pos (.inr (.inr (.inr (.inl rfl))))]
  |true=>
   rw[nt,PG _ _ _ (by omega) (by omega),bd (Mi y y.Ac)];cases m:y.Ac.all (F3 y) with
   |false=>rw[nf,if_pos (.inr (.inr (.inr (.inr rfl))))]
   |true=>
    rw[nt,if_neg (by simp[b,d])];have n:days y≤10:=by unfold days;omega
    have hw:=J2 y n;have j:∀l∈y.Ac,sized l∧0≤l.Aq∧l.AA≤9:=fun l i=>by
     have k:=List.all_eq_true.1 m l i;have:=GN.1 k;exact⟨KV (by omega) k,this.1,by omega⟩
    have o:Dh K (fun(st:Int) (x:List Bool)=>ER st x) y (0:Int)=some ((Bl y).length:Int):=by
     rw[Ll _ y (by omega) (by omega) hK];show(run (fun(st:Int) (_:List Bool)=>(i64 (st+1)).bind fun _=>some (true,st+1)) (Bl y) 0).bind _=_;rw[Mh _ 0 (by omega) (by omega)];simp
    have a:=RN y (by omega) j hK y.Ac.length K 0 ((Bl y).length:Int) (by omega) (by omega) (by omega) (by omega);rw[Int.natCast_zero,List.drop_zero] at a;rw[bd o,bd a];have f:=LN (c:=1001) (by omega) ((Bl y).length:Int) (by omega) fun l i=>(j l i).1;unfold F4
    by_cases e:1000<((Bl y).length:Int)*EI y.Ac
    ·rw[ct (dt (f.2 e)),if_pos e]
    ·rw[cf (df fun h=>e (f.1 h)),if_neg e]
end Go.Proofs.YtkljfdkmjdjpfaaGreat
end
section
namespace Go.Proofs.YtkljfdkmjdjpfaaGreat
def Ep:List AX→List (List Int)
 |[]=>[[]]
 |l::r=>(List.range (BS l).toNat).flatMap fun(n:Nat)=>(Ep r).map fun c=>(l.Aq+(n:Int))::c
def Ca(y:Ao):List AS:=(Bl y).flatMap fun w=>(Ep y.Ac).map fun c=>⟨c,w⟩
section
variable{σ:Type}{K:Nat}(cb:σ→AS→Option (Bool×σ))(y:Ao)(w:List Bool)
def Tr (k i:Nat):Prop:=∀(c:List Int) (st:σ),c.length=y.Ac.length→
 (BN K cb k (i:Int) c w y st).map (fun z=>(z.1,z.2.2))=run (fun s d=>cb s ⟨c.take i++d,w⟩) (Ep (y.Ac.drop i)) st∧
 ∀z,BN K cb k (i:Int) c w y st=some z→z.2.1.length=y.Ac.length∧z.2.1.take i=c.take i
def QI{α β:Type}:(Bool×α×β)⊕(α×β)→Bool×β
 |.inl x=>(false,x.2.2)
 |.inr x=>(true,x.2)
def Tn{α β:Type}:(Bool×α×β)⊕(α×β)→α
 |.inl x=>x.2.1
 |.inr x=>x.1
theorem QJ(k i:Nat)(hi:i<y.Ac.length)(aJ:y.Ac.length≤4)(aB:∀l∈y.Ac,sized l∧0≤l.Aq∧l.AA≤9)(ih:Tr (K:=K) cb y w k (i+1)):
  ∀(n m j:Nat) (c:List Int) (st:σ),(BS y.Ac[i]).toNat=j+n→n<m→c.length=y.Ac.length→
  (B1 (BN K cb k) (i:Int) w y (BS y.Ac[i]) m (j:Int) c st).map QI=run (fun s d=>cb s ⟨c.take i++d,w⟩) ((List.range' j n).flatMap fun(q:Nat)=>(Ep (y.Ac.drop (i+1))).map fun d=>(y.Ac[i].Aq+(q:Int))::d) st∧
  ∀z,B1 (BN K cb k) (i:Int) w y (BS y.Ac[i]) m (j:Int) c st=some z→(Tn z).length=y.Ac.length∧(Tn z).take i=c.take i∧(∀x,z=.inl x→x.1=false):=by
 obtain⟨⟨s1,s2⟩,aK,aL⟩:=aB y.Ac[i] (List.getElem_mem hi);have aH:1≤BS y.Ac[i]∧BS y.Ac[i]≤10:=⟨s1,s2⟩;intro n
 induction n with
 |zero=>
  intro m j c st h hm o;cases m with
  |zero=>omega
  |succ m=>
   rw[B1.eq_2,cf (df (by omega))];exact⟨rfl,fun z b=>by cases b;exact⟨o,rfl,fun x p=>by cases p⟩⟩
 |succ n u=>
  intro m j c st h hm o;cases m with
  |zero=>omega
  |succ m=>
   have f:i<c.length:=by omega
   have aI:y.Ac[i].Aq≤9:=by unfold BS at s1;omega
   rw[B1.eq_2,ct (dt (by omega)),Dm hi,BM (by omega) (by omega),Dm f,BM (by omega) (by omega),DJ i,Int.toNat_natCast];have v:(c.set i (y.Ac[i].Aq+(j:Int))).length=y.Ac.length:=by rw[List.length_set];exact o
   have g:(c.set i (y.Ac[i].Aq+(j:Int))).take (i+1)=c.take i++[y.Ac[i].Aq+(j:Int)]:=by
    rw[List.take_add_one,List.getElem?_set_self f,List.take_set_of_le (Nat.le_refl _)];rfl
   obtain⟨t,aC⟩:=ih _ st v;rw[g] at t;rw[List.range'_succ,List.flatMap_cons,Ho,run_map];have aD:run (fun s d=>cb s ⟨c.take i++[y.Ac[i].Aq+(j:Int)]++d,w⟩) (Ep (y.Ac.drop (i+1))) st=run (fun s d=>cb s ⟨c.take i++(y.Ac[i].Aq+(j:Int))::d,w⟩) (Ep (y.Ac.drop (i+1))) st:=by
    congr 1;funext s d;rw[List.append_assoc];rfl
   rw[aD] at t;rw[←t];cases aE:BN K cb k ((i+1:Nat):Int) (c.set i (y.Ac[i].Aq+(j:Int))) w y st with
   |none=>exact⟨rfl,fun z b=>by cases b⟩
   |some r=>
    obtain⟨h1,aF⟩:=aC r aE;have h3:r.2.1.take i=c.take i:=by
     have:=congrArg (List.take i) aF;rw[List.take_take,Nat.min_eq_left (by omega),g,List.take_append_of_le_length (by rw[List.length_take];omega),List.take_take,Nat.min_self] at this;exact this
    obtain⟨aG,rc,e⟩:=r;cases aG with
    |false=>
     refine⟨rfl,fun z b=>?_⟩;have aA:some (Sum.inl (false,rc,e))=some z:=b;cases aA;exact⟨h1,h3,fun x p=>by cases p;rfl⟩
    |true=>
     have key:(Option.bind (some (true,rc,e)) fun a=>cond (!a.1) (some (Sum.inl (false,a.2.1,a.2.2))) ((i64 ((j:Int)+1)).bind fun _=>B1 (BN K cb k) (i:Int) w y (BS y.Ac[i]) m ((j:Int)+1) a.2.1 a.2.2))=B1 (BN K cb k) (i:Int) w y (BS y.Ac[i]) m ((j+1:Nat):Int) rc e:=by
      rw[Option.bind_some,nt,BM (by omega) (by omega),DJ j]
     have:=u m (j+1) rc e (by omega) (by omega) h1;rw[h3] at this;rw[key];exact this
theorem O6(p:y.Ac.length≤4)(g:∀l∈y.Ac,sized l∧0≤l.Aq∧l.AA≤9)(hK:2000≤K):∀(n k i:Nat),y.Ac.length=i+n→n<k→Tr (K:=K) cb y w k i:=by
 intro n
 induction n with
 |zero=>
  intro k i h q c st f;cases k with
  |zero=>omega
  |succ k=>
   rw[BN.eq_2,ct (by rw[f,h];simp),List.drop_eq_nil_of_le (by omega)];have ht:c.take i=c:=List.take_of_length_le (by omega);rw[ht];simp only[Ep,run,List.append_nil];cases cb st ⟨c,w⟩ with
   |none=>exact⟨rfl,fun z a=>by cases a⟩
   |some r=>
    obtain⟨b,s⟩:=r;refine⟨by cases b<;>rfl,fun z a=>?_⟩;have e:some (b,c,s)=some z:=a;cases e;exact⟨f,ht⟩
 |succ n ih=>
  intro k i h q c st f;cases k with
  |zero=>omega
  |succ k=>
   have hi:i<y.Ac.length:=by omega
   obtain⟨⟨s1,s2⟩,t,u⟩:=g y.Ac[i] (List.getElem_mem hi);rw[BN.eq_2,cf (by rw[f];simp;omega),Dm hi,bd (PJ K _ t (by unfold BS at s1;omega) u)];obtain⟨j,m⟩:=QJ cb y w k i hi p g (ih k (i+1) (by omega) (by omega)) (BS y.Ac[i]).toNat K 0 c st (by omega) (by omega) f;rw[Int.natCast_zero] at j m;rw[List.drop_eq_getElem_cons hi,Ep,List.range_eq_range',←j];cases v:B1 (BN K cb k) (i:Int) w y (BS y.Ac[i]) K 0 c st with
   |none=>exact⟨rfl,fun z a=>by cases a⟩
   |some r=>
    obtain⟨h1,o,h3⟩:=m r v;cases r with
    |inl x=>
     obtain⟨b,d,s⟩:=x;obtain rfl:=h3 _ rfl;refine⟨rfl,fun z a=>?_⟩;have e:some (false,d,s)=some z:=a;cases e;exact⟨h1,o⟩
    |inr x=>
     obtain⟨d,s⟩:=x;refine⟨rfl,fun z a=>?_⟩;have e:some (true,d,s)=some z:=a;cases e;exact⟨h1,o⟩
end
theorem Mj{σ:Type}{K:Nat}(cb:σ→AS→Option (Bool×σ))(y:Ao)(e:y.Ac.length≤4)(f:∀l∈y.Ac,sized l∧0≤l.Aq∧l.AA≤9)(hK:2000≤K):∀(ws:List (List Bool)) (c:List Int) (st:σ),c.length=y.Ac.length→
  (run (fun(st:(List Int)×σ×Bool) (x:(List Bool))=>cond st.2.2 none (C7 cb K y st.1 st.2.1 x)) ws (c,st,false)).bind (fun a=>cond (a.2.2.2) (some (a.2.2.1)) (some (a.2.2.1)))=
  (run cb (ws.flatMap fun w=>(Ep y.Ac).map fun c=>(⟨c,w⟩:AS)) st).bind fun r=>some r.2
 |[],c,st,_=>rfl
 |w::ws,c,st,i=>by
  obtain⟨g,h⟩:=O6 cb y w e f hK y.Ac.length K 0 (by omega) (by omega) c st i;rw[Int.natCast_zero,List.drop_zero,List.take_zero] at g;rw[Int.natCast_zero] at h;rw[List.flatMap_cons,Ho,run_map];have j:run (fun s d=>cb s ⟨[]++d,w⟩) (Ep y.Ac) st=run (fun s d=>cb s (⟨d,w⟩:AS)) (Ep y.Ac) st:=rfl;rw[←j,←g,run];show(Option.bind (C7 cb K y c st w) _:Option _).bind _=_;unfold C7;cases k:BN K cb K 0 c w y st with
  |none=>rfl
  |some r=>
   obtain⟨h1,m⟩:=h r k;obtain⟨b,d,s⟩:=r;cases b with
   |false=>rfl
   |true=>
    show(run _ ws (d,s,false)).bind _=(run cb _ s).bind _;exact Mj cb y e f hK ws d s h1
theorem QK{σ:Type}{K:Nat}(cb:σ→AS→Option (Bool×σ))(y:Ao)(h0:0≤y.Aj)(h9:y.Aj≤9)(a:y.Ac.length≤4)(b:∀l∈y.Ac,sized l∧0≤l.Aq∧l.AA≤9)(hK:2000≤K)(st:σ):
  ES K cb y st=(run cb (Ca y) st).bind fun r=>some r.2:=by
 unfold ES;rw[Oc (by omega) (by omega) (by omega),Ll _ y h0 h9 hK,Option.bind_assoc];exact Mj cb y a b hK (Bl y) (List.replicate (y.Ac.length:Int).toNat (0:Int)) st (by rw[List.length_replicate];omega)
end Go.Proofs.YtkljfdkmjdjpfaaGreat
end
section
namespace Go.Proofs.YtkljfdkmjdjpfaaGreat
def Hq:AX:=⟨0,0,0,0,0⟩
def EU(y:Ao)(i:Int):AX:=y.Ac.getD i.toNat Hq
def DQ(c:List Int)(i:Int):Int:=c.getD i.toNat 0
def Gm (l:AX) (d0:Int):List Bool→Int→Int→Int→Ar
 |[],_,_,_=>⟨d0,-1,false⟩
 |true::ws,d,DY,run=>cond (DY==l.AI) ⟨d0,d,DY==l.AI⟩ (cond (run+1==l.B3) ⟨d0,d,DY==l.AI⟩ (Gm l d0 ws (d+1) DY (run+1)))
 |false::ws,d,DY,run=>cond (DY+1==l.AI) ⟨d0,d,DY+1==l.AI⟩ (cond ((0:Int)==l.B3) ⟨d0,d,DY+1==l.AI⟩ (Gm l d0 ws (d+1) (DY+1) 0))
def Dx(y:Ao)(w:List Bool)(l:AX)(d:Int):Ar:=if y.Aj<d then ⟨-1,-1,false⟩ else Gm l d (w.drop d.toNat) d 0 0
def wk(y:Ao)(w:List Bool)(m:List (List Int×Ar)):Cr:=⟨y.Aj,y.Ah,y.An,y.Av,y.Ac,w,m⟩
theorem Ux(y:Ao)(w:List Bool)(mm:List (List Int×Ar))(p:Hm)(l:AX)(h9:y.Aj≤9)(hw:(w.length:Int)=y.Aj+1)(b0 f:Int)(g:Bool):∀(k m d:Nat) (DY r:Int),y.Aj+1=d+k→k<m→0≤DY→DY≤d→0≤r→r≤d→
  (DH (wk y w mm) p l m DY r (d:Int) b0 f g).bind (fun z=>Sum.elim (fun a=>some ((⟨a.1,a.2.1,a.2.2⟩:Ar))) (fun a=>some ((⟨p.day,(-1),false⟩:Ar))) z)=some (Gm l p.day (w.drop d) (d:Int) DY r):=by
 intro k
 induction k with
 |zero=>
  intro m d DY r h hm h0 h1 i h3;cases m with
  |zero=>omega
  |succ m=>
   rw[DH.eq_2,cf (df (by show¬(d:Int)≤y.Aj;omega)),List.drop_eq_nil_of_le (by omega)];rfl
 |succ k ih=>
  intro m d DY r h hm h0 h1 i h3;cases m with
  |zero=>omega
  |succ m=>
   have b:d<w.length:=by omega
   have c:d<(wk y w mm).C0.length:=b;rw[DH.eq_2,ct (dt (by show(d:Int)≤y.Aj;omega)),Dm c,List.drop_eq_getElem_cons b];have e:(wk y w mm).C0[d]=w[d]:=rfl;rw[e];cases o:w[d] with
   |true=>
    rw[ct rfl,BM (by omega) (by omega),Gm];cases j:(DY==l.AI) with
    |true=>rw[ct rfl,ct rfl];rfl
    |false=>
     rw[cf rfl,cf rfl];cases n:(r+1==l.B3) with
     |true=>rw[ct rfl,ct rfl];rfl
     |false=>
      rw[cf rfl,cf rfl,BM (by omega) (by omega),DJ];exact ih m (d+1) DY (r+1) (by omega) (by omega) h0 (by omega) (by omega) (by omega)
   |false=>
    rw[cf rfl,BM (by omega) (by omega),Gm];cases j:(DY+1==l.AI) with
    |true=>rw[ct rfl,ct rfl];rfl
    |false=>
     rw[cf rfl,cf rfl];cases n:((0:Int)==l.B3) with
     |true=>rw[ct rfl,ct rfl];rfl
     |false=>
      rw[cf rfl,cf rfl,BM (by omega) (by omega),DJ];exact ih m (d+1) (DY+1) 0 (by omega) (by omega) (by omega) (by omega) (by omega) (by omega)
theorem Uy{K:Nat}(y:Ao)(w:List Bool)(mm:List (List Int×Ar))(i d:Int)(h9:y.Aj≤9)(hw:(w.length:Int)=y.Aj+1)(a:0≤i)(hi:i<(y.Ac.length:Int))(c:0≤d)(hK:2000≤K):
  Fs K (wk y w mm) ⟨i,d⟩=some (Dx y w (EU y i) d):=by
 unfold Fs Dx;show cond (decide (y.Aj<d)) _ ((idx y.Ac i).bind _)=_
 by_cases h:y.Aj<d
 ·rw[ct (dt h),if_pos h]
 rw[cf (df h),if_neg h];obtain⟨i,rfl⟩:=Int.eq_ofNat_of_zero_le a;obtain⟨d,rfl⟩:=Int.eq_ofNat_of_zero_le c;have b:i<y.Ac.length:=by omega
 rw[Dm b];have e:y.Ac[i]=EU y (i:Int):=by
  show y.Ac[i]=y.Ac.getD ((i:Int)).toNat Hq;rw[Int.toNat_natCast,List.getD_eq_getElem?_getD,List.getElem?_eq_getElem (by omega)];rfl
 rw[e,Int.toNat_natCast];exact Ux y w mm ⟨(i:Int),(d:Int)⟩ _ h9 hw 0 0 false (y.Aj+1-d).toNat K d 0 0 (by omega) (by omega) (by omega) (by omega) (by omega) (by omega)
def Gn (y:Ao) (w:List Bool) (m:List (List Int×Ar)):Prop:=∀(i d:Int) (s:Ar),Bz m [i,d]=some s→s=Dx y w (EU y i) d
theorem M7(y:Ao)(w:List Bool):Gn y w []:=fun i d s h=>by cases h
theorem To{K:Nat}(y:Ao)(w:List Bool)(mm:List (List Int×Ar))(i d:Int)(h9:y.Aj≤9)(hw:(w.length:Int)=y.Aj+1)(e:0≤i)(hi:i<(y.Ac.length:Int))(j:0≤d)(hK:2000≤K)(hm:Gn y w mm):
  ∃c,Fa K (wk y w mm) ⟨i,d⟩=some (Dx y w (EU y i) d,c)∧Gn y w c:=by
 unfold Fa;show∃c,cond (!(Bz mm [i,d]).isSome) ((Fs K (wk y w mm) ⟨i,d⟩).bind _) _=_∧_;cases f:Bz mm [i,d] with
 |none=>
  rw[bd (Uy y w mm i d h9 hw e hi j hK)];refine⟨_,rfl,fun i2 d2 s h=>?_⟩;have a:Bz (Hj mm [i,d] (Dx y w (EU y i) d)) [i2,d2]=some s:=h;rw[NV] at a;split at a
  ·rename_i he
   have b:=List.cons.inj he;have g:=List.cons.inj b.2;rw[b.1,g.1];exact(Option.some.inj a).symm
  ·exact hm i2 d2 s a
 |some s=>
  refine⟨mm,?_,hm⟩;show some ((Bz mm [i,d]).getD ⟨0,0,false⟩,mm)=_;rw[f,hm i d s f];rfl
def Gd (y:Ao) (w:List Bool) (c:List Int):List Int→Int→List Ar→List Ar
 |[],_,out=>out
 |i::r,free,out=>
  let s:=Dx y w (EU y i) (max free (DQ c i))
  Gd y w c r (cond (s.Bc==-1) (y.Aj+1) (s.Bc+1)) (out.set i.toNat s)
def Ge(y:Ao)(w:List Bool)(c:List Int):List (List Int)→List Ar→List Ar
 |[],out=>out
 |l::r,out=>Ge y w c r (Gd y w c l 0 out)
def Jp:Ar:=⟨0,0,false⟩
def Gf(y:Ao)(w:List Bool)(order:List (List Int))(c:List Int):List Ar:=Ge y w c order (List.replicate y.Ac.length Jp)
theorem Hr(y:Ao)(w:List Bool)(c:List Int):∀(l:List Int) (free:Int) (out:List Ar),(Gd y w c l free out).length=out.length
 |[],_,_=>rfl
 |i::r,free,out=>by rw[Gd,Hr y w c r];simp
theorem J4(y:Ao)(w:List Bool)(c:List Int):∀(l:List (List Int)) (out:List Ar),(Ge y w c l out).length=out.length
 |[],_=>rfl
 |i::r,out=>by rw[Ge,J4 y w c r,Hr]
theorem KW(l:AX)(d0:Int):∀(ws:List Bool) (d DY r:Int),0≤d→(Gm l d0 ws d DY r).Bc=-1∨(d≤(Gm l d0 ws d DY r).Bc∧(Gm l d0 ws d DY r).Bc<d+ws.length)
 |[],d,DY,r,_=>.inl rfl
 |true::ws,d,DY,r,h=>by
  rw[Gm];cases (DY==l.AI) with
  |true=>right;simp;omega
  |false=>
   cases (r+1==l.B3) with
   |true=>right;simp;omega
   |false=>
    rcases KW l d0 ws (d+1) DY (r+1) (by omega) with h1|h1
    ·exact .inl h1
    ·right;simp only[List.length_cons,cond_false];omega
 |false::ws,d,DY,r,h=>by
  rw[Gm];cases (DY+1==l.AI) with
  |true=>right;simp;omega
  |false=>
   cases ((0:Int)==l.B3) with
   |true=>right;simp;omega
   |false=>
    rcases KW l d0 ws (d+1) (DY+1) 0 (by omega) with h1|h1
    ·exact .inl h1
    ·right;simp only[List.length_cons,cond_false];omega
theorem PL(y:Ao)(w:List Bool)(l:AX)(d:Int)(a:0≤d)(hw:(w.length:Int)=y.Aj+1):(Dx y w l d).Bc=-1∨(d≤(Dx y w l d).Bc∧(Dx y w l d).Bc≤y.Aj):=by
 unfold Dx
 by_cases h:y.Aj<d
 ·rw[if_pos h];exact .inl rfl
 ·rw[if_neg h];rcases KW l d (w.drop d.toNat) d 0 0 a with h1|h1
  ·exact .inl h1
  ·right;rw[List.length_drop] at h1;omega
theorem RO{K:Nat}(y:Ao)(w:List Bool)(a:List (List Int×Ar))(c l:List Int)(h0:0≤y.Aj)(h9:y.Aj≤9)(hw:(w.length:Int)=y.Aj+1)(hK:2000≤K)(x:∀i∈l,0≤i∧i<(y.Ac.length:Int))(aE:c.length=y.Ac.length)(aC:l.length≤1000):
  ∀(k m j:Nat) (free:Int) (out:List Ar) (mm:List (List Int×Ar)),l.length=j+k→k<m→0≤free→out.length=y.Ac.length→Gn y w mm→
  ∃b,Dt K (wk y w a) c l m free (j:Int) out mm=some (Gd y w c (l.drop j) free out,b)∧Gn y w b:=by
 intro k
 induction k with
 |zero=>
  intro m j free out mm h hm z f g;cases m with
  |zero=>omega
  |succ m=>rw[Dt.eq_2,cf (df (by omega)),List.drop_eq_nil_of_le (by omega)];exact⟨mm,rfl,g⟩
 |succ k ih=>
  intro m j free out mm h hm z f g;cases m with
  |zero=>omega
  |succ m=>
   have n:j<l.length:=by omega
   obtain⟨d,p⟩:=x l[j] (List.getElem_mem n);obtain⟨i,hi⟩:=Int.eq_ofNat_of_zero_le d;have e:i<c.length:=by omega
   have q:i<out.length:=by omega
   have r:c[i]=DQ c l[j]:=by
    rw[hi];unfold DQ;rw[Int.toNat_natCast,List.getD_eq_getElem?_getD,List.getElem?_eq_getElem e];rfl
   rw[Dt.eq_2,ct (dt (by omega)),Dm n,List.drop_eq_getElem_cons n,Gd];have s:idx c l[j]=some (DQ c l[j]):=by rw[←r];rw[hi];exact idx_eq e
   rw[bd s];obtain⟨b,aA,t⟩:=To (K:=K) y w mm l[j] (max free (DQ c l[j])) h9 hw d p (by omega) hK g;have u:Fa K (⟨(wk y w a).BA,(wk y w a).BR,(wk y w a).B8,(wk y w a).B9,(wk y w a).AT,(wk y w a).C0,mm⟩:Cr) (⟨l[j],max free (DQ c l[j])⟩:Hm)=some (Dx y w (EU y l[j]) (max free (DQ c l[j])),b):=aA;have o:idx out l[j]=some out[i]:=by rw[hi];exact idx_eq q
   have aB:=PL y w (EU y l[j]) (max free (DQ c l[j])) (by omega) hw;have aD:-1≤(Dx y w (EU y l[j]) (max free (DQ c l[j]))).Bc∧(Dx y w (EU y l[j]) (max free (DQ c l[j]))).Bc≤9:=by omega
   rw[bd u,bd o];show∃v,(i64 ((Dx y w (EU y l[j]) (max free (DQ c l[j]))).Bc+1)).bind _=_∧_;rw[BM (by omega) (by omega)];show∃v,cond ((Dx y w (EU y l[j]) (max free (DQ c l[j]))).Bc==-1) ((i64 (y.Aj+1)).bind _) _=_∧_;cases aF:((Dx y w (EU y l[j]) (max free (DQ c l[j]))).Bc==-1) with
   |true=>
    rw[ct rfl,ct rfl,BM (by omega) (by omega),BM (by omega) (by omega),DJ];exact ih m (j+1) (y.Aj+1) _ b (by omega) (by omega) (by omega) (by rw[List.length_set];exact f) t
   |false=>
    rw[cf rfl,cf rfl,BM (by omega) (by omega),DJ];exact ih m (j+1) ((Dx y w (EU y l[j]) (max free (DQ c l[j]))).Bc+1) _ b (by omega) (by omega) (by omega) (by rw[List.length_set];exact f) t
theorem RP{K:Nat}(y:Ao)(w:List Bool)(b:List (List Int×Ar))(c:List Int)(order:List (List Int))(h0:0≤y.Aj)(h9:y.Aj≤9)(hw:(w.length:Int)=y.Aj+1)(hK:2000≤K)(p:∀l∈order,l.length≤1000∧∀i∈l,0≤i∧i<(y.Ac.length:Int))(q:c.length=y.Ac.length)(s:order.length≤1000):
  ∀(k m j:Nat) (out:List Ar) (mm:List (List Int×Ar)),order.length=j+k→k<m→out.length=y.Ac.length→Gn y w mm→
  ∃a,C4 K (wk y w b) order c m (j:Int) out mm=some (Ge y w c (order.drop j) out,a)∧Gn y w a:=by
 intro k
 induction k with
 |zero=>
  intro m j out mm h hm d e;cases m with
  |zero=>omega
  |succ m=>rw[C4.eq_2,cf (df (by omega)),List.drop_eq_nil_of_le (by omega)];exact⟨mm,rfl,e⟩
 |succ k ih=>
  intro m j out mm h hm d e;cases m with
  |zero=>omega
  |succ m=>
   have f:j<order.length:=by omega
   obtain⟨g,n⟩:=p order[j] (List.getElem_mem f);obtain⟨a,o,r⟩:=RO (K:=K) y w b c order[j] h0 h9 hw hK n q g order[j].length K 0 0 out mm (by omega) (by omega) (by omega) d e;rw[Int.natCast_zero,List.drop_zero] at o;rw[C4.eq_2,ct (dt (by omega)),Dm f,List.drop_eq_getElem_cons f,Ge,bd o,BM (by omega) (by omega),DJ];exact ih m (j+1) _ a (by omega) (by omega) (by rw[Hr];exact d) r
theorem PN{K:Nat}(y:Ao)(w:List Bool)(mm:List (List Int×Ar))(c:List Int)(order:List (List Int))(h0:0≤y.Aj)(h9:y.Aj≤9)(k:y.Ac.length≤4)(hw:(w.length:Int)=y.Aj+1)(hK:2000≤K)(e:∀l∈order,l.length≤1000∧∀i∈l,0≤i∧i<(y.Ac.length:Int))(f:c.length=y.Ac.length)(b:order.length≤1000)(g:Gn y w mm):
  ∃a,CN K (wk y w mm) order c=some (Gf y w order c,a)∧Gn y w a:=by
 unfold CN;show∃a,(JV (y.Ac.length:Int) 24).bind _=_∧_;rw[Oc (by omega) (by omega) (by omega)];obtain⟨a,d,h⟩:=RP (K:=K) y w mm c order h0 h9 hw hK e f b order.length K 0 (List.replicate y.Ac.length Jp) mm (by omega) (by omega) (by rw[List.length_replicate]) g;rw[Int.natCast_zero,List.drop_zero] at d;have j:C4 K (wk y w mm) order c K (0:Int) (List.replicate ((wk y w mm).AT.length:Int).toNat (⟨0,0,false⟩:Ar)) (wk y w mm).known=some (Ge y w c order (List.replicate y.Ac.length Jp),a):=by
  show C4 K (wk y w mm) order c K (0:Int) (List.replicate (y.Ac.length:Int).toNat Jp) mm=_;rw[Int.toNat_natCast];exact d
 exact⟨a,bd j,h⟩
end Go.Proofs.YtkljfdkmjdjpfaaGreat
end
section
namespace Go.Proofs.YtkljfdkmjdjpfaaGreat
def iota(n:Nat):List Int:=(List.range n).map fun(i:Nat)=>(i:Int)
theorem G1(n:Nat):(iota n).length=n:=by simp[iota]
theorem M8(n i:Nat)(h:i<n):(iota n)[i]?=some (i:Int):=by simp[iota,h]
def Dn(y:Ao)(o:List (List Int)):Bool:=((o.length:Int)==y.Ah)&&(CZ o.flatten==iota y.Ac.length)
theorem Tp(o:List (List Int))(c:o.flatten.length≤100000):∀(k m i:Nat) (acc:List Int),o.length=i+k→k<m→o.length≤100000→acc++(o.drop i).flatten=o.flatten→
  Dk o m acc (i:Int)=some o.flatten:=by
 intro k
 induction k with
 |zero=>
  intro m i acc h hm b a;cases m with
  |zero=>omega
  |succ m=>
   rw[Dk.eq_2,cf (df (by omega))];rw[List.drop_eq_nil_of_le (by omega)] at a;rw[←a];simp
 |succ k ih=>
  intro m i acc h hm b a;cases m with
  |zero=>omega
  |succ m=>
   have hi:i<o.length:=by omega
   rw[List.drop_eq_getElem_cons hi,List.flatten_cons,←List.append_assoc] at a;have hlen:acc.length+o[i].length≤100000:=by
    have:=congrArg List.length a;rw[List.length_append,List.length_append] at this;omega
   rw[Dk.eq_2,ct (dt (by omega)),Dm hi,FK (by omega),BM (by omega) (by omega),DJ];exact ih m (i+1) (acc++o[i]) (by omega) (by omega) b a
theorem QL(y:Ao)(z:List Int)(l:y.Ac.length≤4):∀(k m i:Nat),y.Ac.length=i+k→k<m→(∀j,j<i→(CZ z).length=y.Ac.length∧(CZ z)[j]?=some (j:Int))→
  C9 y z m (i:Int)=some (cond ((CZ z==iota y.Ac.length)||decide (y.Ac.length=0)) (.inr ()) (.inl false)):=by
 intro k
 induction k with
 |zero=>
  intro m i h hm a;cases m with
  |zero=>omega
  |succ m=>
   rw[C9.eq_2,cf (df (by omega))];have:((CZ z==iota y.Ac.length)||decide (y.Ac.length=0))=true:=by
    rw[Bool.or_eq_true];rcases Nat.eq_zero_or_pos i with h0|h0
    ·right;exact dt (by omega)
    ·left;rw[beq_iff_eq];have d:=(a 0 h0).1;apply List.ext_getElem?;intro j
     by_cases f:j<y.Ac.length
     ·rw[(a j (by omega)).2,M8 _ _ f]
     ·rw[List.getElem?_eq_none (by omega),List.getElem?_eq_none (by rw[G1];omega)]
   rw[this];rfl
 |succ k ih=>
  intro m i h hm a;cases m with
  |zero=>omega
  |succ m=>
   rw[C9.eq_2,ct (dt (by omega))];have c:decide (y.Ac.length=0)=false:=df (by omega)
   by_cases d:(CZ z).length=y.Ac.length
   ·rw[cf (by rw[d];simp)];have hi:i<(CZ z).length:=by omega
    rw[Dm hi]
    by_cases b:(CZ z)[i]=(i:Int)
    ·rw[b,cf (by simp),BM (by omega) (by omega),DJ];refine ih m (i+1) (by omega) (by omega) fun j f=>?_
     by_cases g:j=i
     ·subst g;exact⟨d,by rw[List.getElem?_eq_getElem hi,b]⟩
     ·exact a j (by omega)
    ·rw[ct (by simpa using b)];have:((CZ z==iota y.Ac.length)||decide (y.Ac.length=0))=false:=by
      rw[c,Bool.or_false,beq_eq_false_iff_ne];intro e;have:(CZ z)[i]?=(iota y.Ac.length)[i]?:=by rw[e]
      rw[List.getElem?_eq_getElem hi,M8 _ _ (by omega)] at this;exact b (Option.some.inj this)
     rw[this];rfl
   ·rw[ct (by simp;omega)];have:((CZ z==iota y.Ac.length)||decide (y.Ac.length=0))=false:=by
     rw[c,Bool.or_false,beq_eq_false_iff_ne];intro e;have:=congrArg List.length e;rw[G1] at this;omega
    rw[this];rfl
theorem J5{K:Nat}(y:Ao)(o:List (List Int))(f:y.Ac.length≤4)(hK:2000≤K)(i:o.length≤1000)(k:o.flatten.length≤1000):DZ K y o=some (Dn y o):=by
 unfold DZ;have c:=Tp o (by omega) o.length K 0 [] (by omega) (by omega) (by omega) (by simp);have d:=QL y o.flatten f y.Ac.length K 0 (by omega) (by omega) fun j g=>absurd g (by omega);rw[Int.natCast_zero] at c d;rw[bd c,FK (by omega),bd d];unfold Dn
 by_cases b:y.Ac.length=0
 ·rw[show((CZ o.flatten==iota y.Ac.length)||decide (y.Ac.length=0))=true by rw[Bool.or_eq_true];exact .inr (dt b)];show cond ((o.length:Int)==y.Ah) (some (((CZ o.flatten).length:Int)==(y.Ac.length:Int))) (some false)=_;have h:(((CZ o.flatten).length:Int)==(y.Ac.length:Int))=(CZ o.flatten==iota y.Ac.length):=by
   rw[b];cases e:CZ o.flatten with
   |nil=>rfl
   |cons a l=>
    have h1:(((a::l).length:Int)==((0:Nat):Int))=false:=by simp;omega
    rw[h1];rfl
  rw[h];cases ((o.length:Int)==y.Ah)<;>rfl
 ·rw[show decide (y.Ac.length=0)=false from df b,Bool.or_false];cases e:(CZ o.flatten==iota y.Ac.length) with
  |false=>show some false=_;rw[Bool.and_false]
  |true=>
   show cond ((o.length:Int)==y.Ah) (some (((CZ o.flatten).length:Int)==(y.Ac.length:Int))) (some false)=_;rw[eq_of_beq e,G1];cases ((o.length:Int)==y.Ah)<;>simp
theorem E2{y:Ao}{o:List (List Int)}:Dn y o=true↔(o.length:Int)=y.Ah∧o.flatten.Perm (iota y.Ac.length):=by
 unfold Dn;rw[Bool.and_eq_true,beq_iff_eq,beq_iff_eq];refine and_congr_right fun _=>⟨fun h=>?_,fun h=>?_⟩
 ·rw[←h];exact(List.mergeSort_perm _ _).symm
 ·have h1:(CZ o.flatten).Pairwise (fun a b:Int=>a≤b):=by
   have:=List.pairwise_mergeSort (le:=fun x y:Int=>decide (x≤y)) (fun a b c h1 d=>by simp at*;omega) (fun a b=>by simp;omega) o.flatten;exact this.imp fun h=>by simpa using h
  have d:(iota y.Ac.length).Pairwise (fun a b:Int=>a≤b):=by
   unfold iota;rw[List.pairwise_map];exact List.pairwise_lt_range.imp fun h=>by omega
  exact List.Perm.eq_of_pairwise (le:=fun a b:Int=>a≤b) (fun a b _ _ h e=>by omega) h1 d ((List.mergeSort_perm _ _).trans h)
theorem M9{n:Nat}{i:Int}:i∈iota n↔0≤i∧i<n:=by
 unfold iota;rw[List.mem_map];constructor
 ·rintro⟨k,a,rfl⟩;rw[List.mem_range] at a;omega
 ·rintro⟨h0,h1⟩;exact⟨i.toNat,by rw[List.mem_range];omega,by omega⟩
theorem LO{y:Ao}{o:List (List Int)}(h:Dn y o=true):∀l∈o,l.length≤y.Ac.length∧∀i∈l,0≤i∧i<(y.Ac.length:Int):=by
 intro l a;have b:=(E2.1 h).2;constructor
 ·have h1:=b.length_eq;rw[G1] at h1;have:=(List.sublist_flatten_of_mem a).length_le;omega
 ·intro i hi;exact M9.1 (b.mem_iff.1 (List.mem_flatten.2 ⟨l,a,hi⟩))
def Dq:List AX→List Int→Bool
 |[],[]=>true
 |l::ls,c::cs=>FL c l.Aq l.AA&&Dq ls cs
 |_,_=>false
def Eh(y:Ao)(t:AS):Bool:=decide ((t.An.length:Int)=y.Aj+1)&&(GY y t.An&&Dq y.Ac t.Comes)
theorem Gx:∀{ls:List AX} {cs:List Int},Dq ls cs=true→cs.length=ls.length
 |[],[],_=>rfl
 |_::ls,_::cs,h=>by
  rw[Dq,Bool.and_eq_true] at h;rw[List.length_cons,List.length_cons,Gx h.2]
 |[],_::_,h=>by cases h
 |_::_,[],h=>by cases h
theorem PO(K:Nat)(y:Ao)(t:AS)(b:y.Ac.length≤4)(c:t.Comes.length=y.Ac.length):∀(k m i:Nat),y.Ac.length=i+k→k<m→
  C8 K y t m (i:Int)=some (cond (Dq (y.Ac.drop i) (t.Comes.drop i)) (.inr ()) (.inl false)):=by
 intro k
 induction k with
 |zero=>
  intro m i h hm;cases m with
  |zero=>omega
  |succ m=>rw[C8.eq_2,cf (df (by omega)),List.drop_eq_nil_of_le (by omega),List.drop_eq_nil_of_le (by omega)];rfl
 |succ k ih=>
  intro m i h hm;cases m with
  |zero=>omega
  |succ m=>
   have hi:i<y.Ac.length:=by omega
   have a:i<t.Comes.length:=by omega
   rw[C8.eq_2,ct (dt (by omega)),Dm hi,Dm a,bd (G8 ..),List.drop_eq_getElem_cons hi,List.drop_eq_getElem_cons a,Dq];cases d:FL t.Comes[i] y.Ac[i].Aq y.Ac[i].AA with
   |false=>rw[nf];rfl
   |true=>rw[nt,BM (by omega) (by omega),DJ,Bool.true_and];exact ih m (i+1) (by omega) (by omega)
theorem PQ{K:Nat}(y:Ao)(t:AS)(h0:0≤y.Aj)(h9:y.Aj≤9)(b:y.Ac.length≤4)(hK:2000≤K):E6 K y t=some (Eh y t):=by
 unfold E6 Eh
 by_cases a:t.Comes.length=y.Ac.length
 ·rw[cf (by rw[a];simp),BM (by omega) (by omega)]
  by_cases hw:(t.An.length:Int)=y.Aj+1
  ·rw[cf (by rw[hw];simp),bd (Mg y t.An (by omega) (by omega)),dt hw,Bool.true_and];show cond (!(GY y t.An)) _ _=_;cases GY y t.An with
   |false=>rw[nf];rfl
   |true=>
    have:=PO K y t b a y.Ac.length K 0 (by omega) (by omega);rw[Int.natCast_zero,List.drop_zero,List.drop_zero] at this;rw[nt,bd this,Bool.true_and];cases Dq y.Ac t.Comes<;>rfl
  ·rw[ct (by simpa using hw),df hw];rfl
 ·rw[ct (by simp;omega)];cases c:Dq y.Ac t.Comes with
  |false=>rw[Bool.and_false,Bool.and_false]
  |true=>exact absurd (Gx c) a
theorem Gy{c:List Int}:∀{ls:List AX},c∈Ep ls↔Dq ls c=true
 |[]=>by
  cases c with
  |nil=>simp[Ep,Dq]
  |cons a l=>simp[Ep,Dq]
 |l::r=>by
  rw[Ep,List.mem_flatMap];constructor
  ·rintro⟨n,b,e⟩;obtain⟨d,f,rfl⟩:=List.mem_map.1 e;rw[Dq,Bool.and_eq_true];rw[List.mem_range] at b;unfold BS at b;exact⟨Fu.2 (by omega),Gy.1 f⟩
  ·intro h;cases c with
   |nil=>simp[Dq] at h
   |cons a d=>
    rw[Dq,Bool.and_eq_true] at h;have h1:=Fu.1 h.1;refine⟨(a-l.Aq).toNat,?_,List.mem_map.2 ⟨d,Gy.2 h.2,?_⟩⟩
    ·rw[List.mem_range];unfold BS;omega
    ·congr 1;omega
def bitsOf:List Bool→Nat
 |[]=>0
 |b::l=>(cond b 1 0)+2*bitsOf l
theorem KK:∀(l:List Bool) (d:Nat),(bitsOf l).testBit d=l.getD d false
 |[],d=>by simp[bitsOf]
 |b::l,0=>by rw[bitsOf,Nat.testBit_zero];cases b<;>simp<;>omega
 |b::l,d+1=>by
  rw[Nat.testBit_succ,bitsOf];have:((cond b 1 0)+2*bitsOf l)/2=bitsOf l:=by cases b<;>simp<;>omega
  rw[this,KK l d];rfl
theorem Mk:∀(l:List Bool),bitsOf l<2^l.length
 |[]=>by simp[bitsOf]
 |b::l=>by
  have:=Mk l;rw[bitsOf,List.length_cons,Nat.pow_succ];cases b<;>simp<;>omega
theorem PR(l:List Bool):wl l.length (bitsOf l)=l:=by
 apply List.ext_getElem?;intro i;unfold wl;rw[List.getElem?_map]
 by_cases h:i<l.length
 ·rw[List.getElem?_range h,List.getElem?_eq_getElem h];show some ((bitsOf l).testBit i)=_;rw[KK,List.getD_eq_getElem?_getD,List.getElem?_eq_getElem h];rfl
 ·rw[List.getElem?_eq_none (by simp;omega),List.getElem?_eq_none (by omega)];rfl
theorem HN{y:Ao}{w:List Bool}:w∈Bl y↔w.length=days y∧GY y w=true:=by
 unfold Bl;rw[List.mem_filter,List.mem_map];constructor
 ·rintro⟨⟨b,_,rfl⟩,h⟩;exact⟨Fm _ _,h⟩
 ·rintro⟨h1,a⟩;exact⟨⟨bitsOf w,by rw[List.mem_range,←h1];exact Mk w,by rw[←h1];exact PR w⟩,a⟩
theorem G2{y:Ao}(h0:0≤y.Aj){t:AS}:t∈Ca y↔Eh y t=true:=by
 unfold Ca Eh;rw[List.mem_flatMap,Bool.and_eq_true,Bool.and_eq_true,decide_eq_true_eq];constructor
 ·rintro⟨w,hw,ht⟩;obtain⟨c,b,rfl⟩:=List.mem_map.1 ht;obtain⟨h1,a⟩:=HN.1 hw;unfold days at h1;exact⟨by show(w.length:Int)=_;omega,a,Gy.1 b⟩
 ·rintro⟨h1,a,h3⟩;exact⟨t.An,HN.2 ⟨by unfold days;omega,a⟩,List.mem_map.2 ⟨t.Comes,Gy.2 h3,rfl⟩⟩
theorem Uz(a b:List Bool)(g:a.length≤1000)(f:a.length=b.length):∀(k m i:Nat),a.length=i+k→k<m→Dj a b m (i:Int)=some (cond (a.drop i==b.drop i) (.inr ()) (.inl false)):=by
 intro k
 induction k with
 |zero=>
  intro m i h hm;cases m with
  |zero=>omega
  |succ m=>rw[Dj.eq_2,cf (df (by omega)),List.drop_eq_nil_of_le (by omega),List.drop_eq_nil_of_le (by omega)];rfl
 |succ k ih=>
  intro m i h hm;cases m with
  |zero=>omega
  |succ m=>
   have h1:i<a.length:=by omega
   have c:i<b.length:=by omega
   rw[Dj.eq_2,ct (dt (by omega)),Dm h1,Dm c,List.drop_eq_getElem_cons h1,List.drop_eq_getElem_cons c];cases d:(a[i] !=b[i]) with
   |true=>
    rw[ct rfl];have:(a[i]::a.drop (i+1)==b[i]::b.drop (i+1))=false:=by
     rw[List.cons_beq_cons];have:(a[i]==b[i])=false:=by simpa[bne] using d
     rw[this,Bool.false_and]
    rw[this];rfl
   |false=>
    have e:a[i]=b[i]:=by simpa[bne] using d
    rw[cf rfl,BM (by omega) (by omega),DJ,ih m (i+1) (by omega) (by omega),List.cons_beq_cons,e,beq_self_eq_true,Bool.true_and]
theorem UA{K:Nat}(a b:List Bool)(c:a.length≤1000)(hK:2000≤K):El K a b=some (a==b):=by
 unfold El
 by_cases h:a.length=b.length
 ·have:=Uz a b c h a.length K 0 (by omega) (by omega);rw[Int.natCast_zero,List.drop_zero,List.drop_zero] at this;rw[cf (by rw[h];simp),bd this];cases (a==b)<;>rfl
 ·rw[ct (by simp;omega)];have:(a==b)=false:=by
   rw[beq_eq_false_iff_ne];intro e;exact h (by rw[e])
  rw[this]
structure Fg(y:Ao):Prop where
 h0:0≤y.Aj
 h9:y.Aj≤9
 r1:1≤y.Ah
 r2:y.Ah≤2
 n4:y.Ac.length≤4
 w0:0≤y.An
 w1:y.An≤y.Aj+1
 u0:0≤y.Av
 u1:y.Av≤y.Aj+1
 KX:∀l∈y.Ac,F3 y l=true
 many:F4 y≤1000
theorem Fo{y:Ao}(h:check y=0):Fg y:=by
 unfold check at h;split at h
 ·cases h
 ·rename_i h1
  split at h
  ·cases h
  ·rename_i b
   split at h
   ·cases h
   ·rename_i h3
    rw[not_or,not_or] at h1;rw[not_or,not_or,not_or,not_or] at b;have hw:FL y.An 0 (y.Aj+1)=true:=by cases a:FL y.An 0 (y.Aj+1) with|true=>rfl|false=>exact absurd a b.2.2.1
    have c:FL y.Av 0 (y.Aj+1)=true:=by cases a:FL y.Av 0 (y.Aj+1) with|true=>rfl|false=>exact absurd a b.2.2.2.1
    have d:y.Ac.all (F3 y)=true:=by cases a:y.Ac.all (F3 y) with|true=>rfl|false=>exact absurd a b.2.2.2.2
    rw[Fu] at hw c;exact⟨by omega,by omega,by omega,by omega,by omega,hw.1,hw.2,c.1,c.2,List.all_eq_true.1 d,by omega⟩
theorem Fg.sz{y:Ao}(h:Fg y):∀l∈y.Ac,sized l∧0≤l.Aq∧l.AA≤9:=fun l b=>by
 have a:=h.KX l b;have:=GN.1 a;have:=h.h9;exact⟨KV h.h9 a,by omega,by omega⟩
def UB(y:Ao):Option Cr→Prop
 |none=>True
 |some x=>∃w m,x=wk y w m∧(w.length:Int)=y.Aj+1∧Gn y w m
theorem PS{σ:Type}{K:Nat}(cb:σ→AS×List Ar→Option (Bool×σ))(y:Ao)(hy:Fg y)(o:List (List Int))(u:Dn y o=true)(hK:2000≤K):∀(d:List AS) (g:Option Cr) (s:σ),(∀t∈d,Eh y t=true)→UB y g→
  (run (fun(st:(Option Cr)×σ×Bool) (x:AS)=>cond st.2.2 none (Dv cb K y o st.1 st.2.1 x)) d (g,s,false)).bind (fun f=>cond f.2.2.2 (some f.2.2.1) (some f.2.2.1))=(run (fun s t=>cb s (t,Gf y t.An o t.Comes)) d s).bind fun r=>some r.2
 |[],g,s,_,_=>rfl
 |t::d,g,s,ht,aF=>by
  have h:=ht t (List.mem_cons_self ..);have z:∀x∈d,Eh y x=true:=fun x aG=>ht x (List.mem_cons_of_mem _ aG);unfold Eh at h;rw[Bool.and_eq_true,Bool.and_eq_true,decide_eq_true_eq] at h;obtain⟨hw,_,aH⟩:=h;have aA:=Gx aH;have p:=LO u;have aB:o.length≤1000:=by have:=(E2.1 u).1;have:=hy.r2;omega
  have v:∀l∈o,l.length≤1000∧∀i∈l,0≤i∧i<(y.Ac.length:Int):=fun l aC=>⟨by have:=(p l aC).1;have:=hy.n4;omega,(p l aC).2⟩;rw[run,run];show(Option.bind (Dv cb K y o g s t) _:Option _).bind _=_
  
  have key:∀(m:List (List Int×Ar)),Gn y t.An m→∃c,Gn y t.An c∧CN K (wk y t.An m) o t.Comes=some (Gf y t.An o t.Comes,c):=fun m hm=>by
   obtain⟨c,h1,aI⟩:=PN (K:=K) y t.An m t.Comes o hy.h0 hy.h9 hy.n4 hw hK v aA aB hm;exact⟨c,aI,h1⟩
  have fin:∀(c:List (List Int×Ar)),Gn y t.An c→
    (Option.bind ((cb s (t,Gf y t.An o t.Comes)).bind fun a=>cond (!a.1) (some (false,(some (wk y t.An c)),a.2,true)) (some (true,(some (wk y t.An c)),a.2,false))) fun r=>cond r.1 (run (fun(st:(Option Cr)×σ×Bool) (x:AS)=>cond st.2.2 none (Dv cb K y o st.1 st.2.1 x)) d r.2) (some (false,r.2))).bind (fun f=>cond f.2.2.2 (some f.2.2.1) (some f.2.2.1))=
    (Option.bind (cb s (t,Gf y t.An o t.Comes)) fun r=>cond r.1 (run (fun s t=>cb s (t,Gf y t.An o t.Comes)) d r.2) (some (false,r.2))).bind fun r=>some r.2:=fun c j=>by
   cases cb s (t,Gf y t.An o t.Comes) with
   |none=>rfl
   |some r=>
    obtain⟨b,s2⟩:=r;cases b with
    |false=>rfl
    |true=>exact PS cb y hy o u hK d (some (wk y t.An c)) s2 z ⟨t.An,c,rfl,hw,j⟩
  unfold Dv;obtain⟨k,q,aJ⟩:=key [] (M7 _ _);have aM:=hy.h9;have e:(FX (((0+t.An.length:Nat):Int)≤140737488355328/1)).bind (fun _=>(CN K (⟨y.Aj,y.Ah,y.An,y.Av,y.Ac,t.An,[]⟩:Cr) o t.Comes).bind fun n=>(cb s (t,n.1)).bind fun a=>cond (!a.1) (some (false,(some (⟨y.Aj,y.Ah,y.An,y.Av,y.Ac,t.An,n.2⟩:Cr)),a.2,true)) (some (true,(some (⟨y.Aj,y.Ah,y.An,y.Av,y.Ac,t.An,n.2⟩:Cr)),a.2,false)))=
    (cb s (t,Gf y t.An o t.Comes)).bind fun a=>cond (!a.1) (some (false,(some (wk y t.An k)),a.2,true)) (some (true,(some (wk y t.An k)),a.2,false)):=by
   have aD:CN K (⟨y.Aj,y.Ah,y.An,y.Av,y.Ac,t.An,[]⟩:Cr) o t.Comes=some (Gf y t.An o t.Comes,k):=aJ;rw[FK (by omega),bd aD];rfl
  cases g with
  |none=>
   show(Option.bind ((FX _).bind _) _:Option _).bind _=_;rw[e];exact fin k q
  |some x=>
   obtain⟨w,m,rfl,aN,aE⟩:=aF;show(Option.bind ((El K w t.An).bind _) _:Option _).bind _=_;rw[bd (UA w t.An (by omega) hK)];cases aK:(w==t.An) with
   |false=>
    rw[nf,e];exact fin k q
   |true=>
    obtain rfl:=eq_of_beq aK;obtain⟨c,j,aL⟩:=key m aE;rw[nt,bd aL];exact fin c j
theorem PT{σ:Type}{K:Nat}(cb:σ→AS×List Ar→Option (Bool×σ))(y:Ao)(hy:Fg y)(o:List (List Int))(a:Dn y o=true)(hK:2000≤K)(s:σ):
  Fb K cb y o s=(run (fun s t=>cb s (t,Gf y t.An o t.Comes)) (Ca y) s).bind fun r=>some r.2:=by
 unfold Fb;rw[QK _ y hy.h0 hy.h9 hy.n4 hy.sz hK,Option.bind_assoc];exact PS cb y hy o a hK (Ca y) none s (fun t ht=>(G2 hy.h0).1 ht) trivial
end Go.Proofs.YtkljfdkmjdjpfaaGreat
end
section
namespace Go.Proofs.YtkljfdkmjdjpfaaGreat
def Gp(l:AX)(s:Ar):Bool:=s.AI&&decide (s.Bc≤l.Ci)
theorem LP(K:Nat)(l:AX)(s:Ar):C2 K l s=some (Gp l s):=by unfold C2 Gp;cases s.AI<;>rfl
theorem Of(K:Nat)(l:AX)(s:Ar):D4 K l s=some (!Gp l s):=by unfold D4;rw[bd (LP ..)]
def GZ (p:AX→Ar→Bool):List AX→List Ar→Nat
 |l::ls,s::ss=>(cond (p l s) 1 0)+GZ p ls ss
 |_,_=>0
def DF(l:AX)(s:Ar):Bool:= !Gp l s
def DS(y:Ao)(ss:List Ar):Nat:=GZ DF y.Ac ss
theorem LQ(p:AX→Ar→Bool):∀(ls:List AX) (ss:List Ar),GZ p ls ss≤ls.length
 |l::ls,s::ss=>by
  have:=LQ p ls ss;rw[GZ,List.length_cons];cases p l s<;>simp<;>omega
 |[],_=>by simp[GZ]
 |_::_,[]=>by simp[GZ]
theorem Tq{K:Nat}(y:Ao)(ss:List Ar)(c:y.Ac.length≤4)(d:ss.length=y.Ac.length):∀(k m i:Nat) (a:Int),ss.length=i+k→k<m→0≤a→a≤i→
  Du K y ss m a (i:Int)=some (a+(GZ DF (y.Ac.drop i) (ss.drop i):Nat)):=by
 intro k
 induction k with
 |zero=>
  intro m i a h hm h0 h1;cases m with
  |zero=>omega
  |succ m=>
   rw[Du.eq_2,cf (df (by omega)),List.drop_eq_nil_of_le («as»:=y.Ac) (by omega),GZ]
   ·simp
   ·intro _ _ _ _ h;cases h
 |succ k ih=>
  intro m i a h hm h0 h1;cases m with
  |zero=>omega
  |succ m=>
   have hi:i<ss.length:=by omega
   have b:i<y.Ac.length:=by omega
   rw[Du.eq_2,ct (dt (by omega)),Dm hi,Dm b,bd (Of ..),List.drop_eq_getElem_cons hi,List.drop_eq_getElem_cons b,GZ];show cond (DF y.Ac[i] ss[i]) _ _=_;cases e:DF y.Ac[i] ss[i] with
   |true=>
    rw[ct rfl,BM (by omega) (by omega),BM (by omega) (by omega),DJ,ih m (i+1) (a+1) (by omega) (by omega) (by omega) (by omega)]
    congr 1
    show a+1+_=a+((1+GZ DF _ _:Nat):Int);omega
   |false=>
    rw[cf rfl,BM (by omega) (by omega),DJ,ih m (i+1) a (by omega) (by omega) (by omega) (by omega)]
    congr 1
    show a+_=a+((0+GZ DF _ _:Nat):Int);omega
theorem PU{K:Nat}(y:Ao)(ss:List Ar)(a:y.Ac.length≤4)(b:ss.length=y.Ac.length)(hK:2000≤K):EB K y ss=some (DS y ss:Int):=by
 unfold EB;have:=Tq (K:=K) y ss a b ss.length K 0 0 (by omega) (by omega) (by omega) (by omega);rw[Int.natCast_zero,List.drop_zero,List.drop_zero] at this;rw[bd this];simp[DS]
theorem GO(y:Ao)(w:List Bool)(o:List (List Int))(c:List Int):(Gf y w o c).length=y.Ac.length:=by unfold Gf;rw[J4,List.length_replicate]
def BO (y:Ao) (o:List (List Int)) (t:AS):List Ar:=Gf y t.An o t.Comes
theorem PV{K:Nat}(y:Ao)(o:List (List Int))(t:AS)(hK:2000≤K)(c:o.length≤1000)(f:o.flatten.length≤1000):
  FD K y o t=some (if check y≠0 then ([],check y) else if Dn y o=false∨Eh y t=false then ([],2) else (BO y o t,0)):=by
 unfold FD;rw[bd (H4 hK y)]
 by_cases h:check y=0
 ·rw[h,cf (by decide),if_neg (by simp)];have hy:=Fo h;rw[bd (J5 y o hy.n4 hK c f)];cases g:Dn y o with
  |false=>rw[nf,if_pos (.inl rfl)]
  |true=>
   rw[nt,bd (PQ y t hy.h0 hy.h9 hy.n4 hK)];cases ht:Eh y t with
   |false=>rw[nf,if_pos (.inr rfl)]
   |true=>
    rw[nt,if_neg (by simp)];have a:=ht;unfold Eh at a;rw[Bool.and_eq_true,Bool.and_eq_true,decide_eq_true_eq] at a;have b:=LO g;obtain⟨i,e,_⟩:=PN (K:=K) y t.An [] t.Comes o hy.h0 hy.h9 hy.n4 a.1 hK (fun l d=>⟨by have:=(b l d).1;have:=hy.n4;omega,(b l d).2⟩) (Gx a.2.2) c (M7 _ _);have j:CN K (⟨y.Aj,y.Ah,y.An,y.Av,y.Ac,t.An,[]⟩:Cr) o t.Comes=some (Gf y t.An o t.Comes,i):=e;rw[bd j];rfl
 ·rw[ct (by simpa using h),if_pos h]
def HX (y:Ao) (o:List (List Int)):List AS→Int×AS→Int×AS
 |[],s=>s
 |t::a,s=>
  let s2:=if s.1<(DS y (BO y o t):Int) then ((DS y (BO y o t):Int),t) else s
  cond (decide (s2.1<(y.Ac.length:Int))) (HX y o a s2) s2
def CX(y:Ao)(o:List (List Int)):Int×AS:=HX y o (Ca y) (-1,⟨[],[]⟩)
theorem Na{K:Nat}(y:Ao)(hy:Fg y)(o:List (List Int))(hK:2000≤K):∀(a:List AS) (s:Int×AS),(∀t∈a,Eh y t=true)→
  (run (fun(st:Int×AS) t=>(EE K t (BO y o t) y st.1 st.2).bind fun r=>some (r.1,(r.2.1,r.2.2))) a s).bind (fun r=>some r.2)=some (HX y o a s)
 |[],s,_=>rfl
 |t::a,s,ht=>by
  have b:=ht t (List.mem_cons_self ..);unfold Eh at b;rw[Bool.and_eq_true,Bool.and_eq_true,decide_eq_true_eq] at b;have d:=Gx b.2.2;have e:=hy.n4;have h9:=hy.h9;rw[run,HX];unfold EE;rw[bd (PU y (BO y o t) hy.n4 (GO ..) hK)]
  by_cases h:s.1<(DS y (BO y o t):Int)
  ·rw[ct (dt h),FK (by omega),FK (by omega),if_pos h];show(cond (decide ((DS y (BO y o t):Int)<(y.Ac.length:Int))) _ _:Option (Bool×Int×AS)).bind _=some (cond (decide ((DS y (BO y o t):Int)<(y.Ac.length:Int))) _ _);cases decide ((DS y (BO y o t):Int)<(y.Ac.length:Int)) with
   |false=>rfl
   |true=>exact Na y hy o hK a _ fun x c=>ht x (List.mem_cons_of_mem _ c)
  ·rw[cf (df h),if_neg h];show(cond (decide (s.1<(y.Ac.length:Int))) _ _:Option (Bool×Int×AS)).bind _=some (cond (decide (s.1<(y.Ac.length:Int))) _ _);cases decide (s.1<(y.Ac.length:Int)) with
   |false=>rfl
   |true=>exact Na y hy o hK a s fun x c=>ht x (List.mem_cons_of_mem _ c)
theorem PW{K:Nat}(y:Ao)(hy:Fg y)(o:List (List Int))(a:Dn y o=true)(hK:2000≤K):Fc K y o=some (CX y o):=by
 unfold Fc;rw[PT _ y hy o a hK];have:=Na y hy o hK (Ca y) (-1,⟨[],[]⟩) fun t ht=>(G2 hy.h0).1 ht;exact Eq.trans (bd this) rfl
theorem PX{K:Nat}(y:Ao)(o:List (List Int))(hK:2000≤K)(a:o.length≤1000)(b:o.flatten.length≤1000):
  F8 K y o=some (if check y≠0 then (0,⟨[],[]⟩,check y) else if Dn y o=false then (0,⟨[],[]⟩,2) else ((CX y o).1,(CX y o).2,0)):=by
 unfold F8;rw[bd (H4 hK y)]
 by_cases h:check y=0
 ·rw[h,cf (by decide),if_neg (by simp)];have hy:=Fo h;rw[bd (J5 y o hy.n4 hK a b)];cases c:Dn y o with
  |false=>rw[nf,if_pos rfl]
  |true=>rw[nt,if_neg (by simp),bd (PW y hy o c hK)]
 ·rw[ct (by simpa using h),if_pos h]
theorem Nb{K:Nat}(y:Ao)(o:List (List Int))(n:Int)(hK:2000≤K)(a:o.length≤1000)(b:o.flatten.length≤1000):
  EX K y o n=some (decide (check y=0)&&(Dn y o&&decide ((CX y o).1≤n))):=by
 unfold EX;rw[bd (PX y o hK a b)]
 by_cases h:check y=0
 ·rw[if_neg (by simp[h]),dt h];cases c:Dn y o with
  |false=>rw[if_pos rfl];rfl
  |true=>rw[if_neg (by simp)];rfl
 ·rw[if_pos h,df h,cf (by simpa using h)];rfl
theorem NX{K:Nat}(y:Ao)(o:List (List Int))(t:AS)(n:Int)(hK:2000≤K)(a:o.length≤1000)(b:o.flatten.length≤1000):
  Fe K y o t n=some (decide (check y=0)&&(Dn y o&&(Eh y t&&decide (n≤(DS y (BO y o t):Int))))):=by
 unfold Fe;rw[bd (PV y o t hK a b)]
 by_cases h:check y=0
 ·rw[if_neg (by simp[h]),dt h];cases c:Dn y o with
  |false=>rw[if_pos (.inl rfl)];rfl
  |true=>
   cases ht:Eh y t with
   |false=>rw[if_pos (.inr rfl)];rfl
   |true=>
    rw[if_neg (by simp)];show(EB K y (BO y o t)).bind _=_;rw[bd (PU y (BO y o t) (Fo h).n4 (GO ..) hK)];rfl
 ·rw[if_pos h,df h,cf (by simpa using h)];rfl
def G0(p:AX→Ar→Bool):List AX→List Ar→List Int→List Int
 |l::ls,s::ss,a::as=>(cond (p l s) (a+1) a)::G0 p ls ss as
 |_,_,as=>as
theorem Rs(x:BG)(k:Nat)(v:Int)(h:k<4):(x.set k v).l=x.l.set k v:=by
 match k,h with
 |0,_=>rfl
 |1,_=>rfl
 |2,_=>rfl
 |3,_=>rfl
theorem KY(p:AX→Ar→Bool)(ss:List Ar)(as:List Int):G0 p [] ss as=as:=by cases as<;>rfl
theorem RQ{K:Nat}(p:AX→Ar→Bool)(y:Ao)(ss:List Ar)(q:y.Ac.length≤4)(r:ss.length=y.Ac.length):∀(k m i:Nat) (a:BG),ss.length=i+k→k<m→(∀x∈a.l.drop i,0≤x∧x≤100000)→
  ∃b:BG,Cy (fun(st:Unit) (x:AX×Ar)=>some (p x.1 x.2,())) ss y m (i:Int) a.a0 a.a1 a.a2 a.a3 ()=some (b.a0,b.a1,b.a2,b.a3,())∧b.l=a.l.take i++G0 p (y.Ac.drop i) (ss.drop i) (a.l.drop i):=by
 intro k
 induction k with
 |zero=>
  intro m i a h hm e;cases m with
  |zero=>omega
  |succ m=>
   rw[Cy.eq_2,cf (df (by omega)),List.drop_eq_nil_of_le («as»:=y.Ac) (by omega),KY];exact⟨a,rfl,(List.take_append_drop ..).symm⟩
 |succ k ih=>
  intro m i a h hm e;cases m with
  |zero=>omega
  |succ m=>
   have hi:i<ss.length:=by omega
   have f:i<y.Ac.length:=by omega
   have c:i<a.l.length:=by show i<4;omega
   rw[Cy.eq_2,ct (dt (by omega)),Dm hi,Dm f,Option.bind_some,List.drop_eq_getElem_cons hi,List.drop_eq_getElem_cons f,List.drop_eq_getElem_cons c,G0];cases s:p y.Ac[i] ss[i] with
   |true=>
    have t:=e a.l[i] (by rw[List.drop_eq_getElem_cons c];exact List.mem_cons_self ..);have g:idx [a.a0,a.a1,a.a2,a.a3] (i:Int)=some a.l[i]:=idx_eq c;rw[ct rfl,bd g,BM (by omega) (by omega),bd g,BM (by omega) (by omega),DJ,Int.toNat_natCast];obtain⟨b,j,n⟩:=ih m (i+1) (a.set i (a.l[i]+1)) (by omega) (by omega) (fun x d=>by
     rw[Rs _ _ _ (by omega),List.drop_set_of_lt (by omega)] at d;exact e x (by rw[List.drop_eq_getElem_cons c];exact List.mem_cons_of_mem _ d))
    refine⟨b,j,?_⟩;rw[n,Rs _ _ _ (by omega),List.take_add_one,List.getElem?_set_self c,List.take_set_of_le (Nat.le_refl _),List.drop_set_of_lt (by omega)];simp
   |false=>
    rw[cf rfl,BM (by omega) (by omega),DJ];obtain⟨b,j,n⟩:=ih m (i+1) a (by omega) (by omega) fun x d=>e x (by rw[List.drop_eq_getElem_cons c];exact List.mem_cons_of_mem _ d);refine⟨b,j,?_⟩;have o:a.l.take (i+1)=a.l.take i++[a.l[i]]:=by rw[List.take_add_one,List.getElem?_eq_getElem c];rfl
    rw[n,o,List.append_assoc];rfl
theorem QM{K:Nat}(p:AX→Ar→Bool)(y:Ao)(t:AS)(ss:List Ar)(e:y.Ac.length≤4)(f:ss.length=y.Ac.length)(hK:2000≤K)(n:Int)(a:BG)(h:0≤n∧n≤100000)(g:∀x∈a.l,0≤x∧x≤100000):
  ∃b:BG,CP K (fun(st:Unit) (x:AX×Ar)=>some (p x.1 x.2,())) t ss n y a ()=some (true,n+1,b,())∧b.l=G0 p y.Ac ss a.l:=by
 unfold CP;obtain⟨b,c,d⟩:=RQ (K:=K) p y ss e f ss.length K 0 a (by omega) (by omega) (by rw[List.drop_zero];exact g);rw[Int.natCast_zero] at c;rw[List.take_zero,List.drop_zero,List.drop_zero,List.drop_zero,List.nil_append] at d;rw[BM (by omega) (by omega),bd c];exact⟨b,rfl,d⟩
theorem Og(p:AX→Ar→Bool)(B:Int):∀(ls:List AX) (ss:List Ar) (as:List Int),(∀x∈as,0≤x∧x≤B)→∀x∈G0 p ls ss as,0≤x∧x≤B+1
 |l::ls,s::ss,a::as,h,x,b=>by
  rw[G0] at b;rcases List.mem_cons.1 b with rfl|b
  ·have:=h a (List.mem_cons_self ..);cases p l s<;>simp<;>omega
  ·exact Og p B ls ss as (fun z c=>h z (List.mem_cons_of_mem _ c)) x b
 |[],_,as,h,x,b=>by
  rw[KY] at b;have:=h x b;omega
 |l::ls,[],as,h,x,b=>by
  have e:G0 p (l::ls) [] as=as:=by cases as<;>rfl
  rw[e] at b;have:=h x b;omega
 |l::ls,s::ss,[],h,x,b=>by
  have e:G0 p (l::ls) (s::ss) []=[]:=rfl;rw[e] at b;cases b
def LR (p:AX→Ar→Bool) (y:Ao) (o:List (List Int)):List AS→List Int→List Int
 |[],a=>a
 |t::b,a=>LR p y o b (G0 p y.Ac (BO y o t) a)
theorem Nc{K:Nat}(p:AX→Ar→Bool)(y:Ao)(hy:Fg y)(o:List (List Int))(hK:2000≤K):∀(c:List AS) (n:Int) (a:BG) (B:Int),0≤n→n+c.length≤100000→B+c.length≤100000→(∀x∈a.l,0≤x∧x≤B)→
  ∃b:BG,run (fun(st:Int×BG×Unit) t=>(CP K (fun(st:Unit) (x:AX×Ar)=>some (p x.1 x.2,())) t (BO y o t) st.1 y st.2.1 st.2.2).bind fun r=>some (r.1,(r.2.1,r.2.2.1,r.2.2.2))) c (n,a,())=some (true,n+c.length,b,())∧b.l=LR p y o c a.l
 |[],n,a,B,_,_,_,_=>⟨a,by simp[run],rfl⟩
 |t::c,n,a,B,h0,h1,f,d=>by
  rw[List.length_cons] at h1 f;obtain⟨b,g,e⟩:=QM (K:=K) p y t (BO y o t) hy.n4 (GO ..) hK n a (by omega) (fun x h=>by have:=d x h;omega);obtain⟨i,j,k⟩:=Nc p y hy o hK c (n+1) b (B+1) (by omega) (by omega) (by omega) (by rw[e];exact Og p B _ _ _ d);refine⟨i,?_,by rw[k,e];rfl⟩;rw[run];show Option.bind ((CP K _ t (BO y o t) n y a ()).bind _) _=_;rw[bd g];show run _ c (n+1,b,())=_;rw[j,List.length_cons]
  congr 3;omega
theorem IW(y:Ao)(hy:Fg y):((Ca y).length:Int)=F4 y:=by
 have a:∀ls:List AX,(∀l∈ls,sized l)→((Ep ls).length:Int)=EI ls:=by
  intro ls
  induction ls with
  |nil=>intro _;rfl
  |cons l r ih=>
   intro h;have h1:=(h l (List.mem_cons_self ..)).1;rw[Ep,EI,List.length_flatMap,←ih fun x b=>h x (List.mem_cons_of_mem _ b)];have:((List.range (BS l).toNat).map fun(n:Nat)=>((Ep r).map fun c=>(l.Aq+(n:Int))::c).length)=List.replicate (BS l).toNat (Ep r).length:=by
    apply List.ext_getElem
    ·simp
    ·intro i h1 d;simp
   rw[this,List.sum_replicate_nat,Int.natCast_mul]
   congr 1;omega
 unfold Ca F4;rw[List.length_flatMap,←a y.Ac fun l e=>(hy.sz l e).1];have:((Bl y).map fun w=>((Ep y.Ac).map fun c=>(⟨c,w⟩:AS)).length)=List.replicate (Bl y).length (Ep y.Ac).length:=by
  apply List.ext_getElem
  ·simp
  ·intro i h1 d;simp
 rw[this,List.sum_replicate_nat,Int.natCast_mul]
def Da (p:AX→Ar→Bool) (y:Ao) (o:List (List Int)):List Int:=LR p y o (Ca y) [0,0,0,0]
theorem LS{K:Nat}(p:AX→Ar→Bool)(y:Ao)(hy:Fg y)(o:List (List Int))(a:Dn y o=true)(hK:2000≤K):
  ∃b:BG,Cs K (fun(st:Unit) (x:AX×Ar)=>some (p x.1 x.2,())) y o ()=some (b,((Ca y).length:Int),())∧b.l=Da p y o:=by
 unfold Cs;rw[PT _ y hy o a hK];have f:=IW y hy;have:=hy.many;obtain⟨b,c,d⟩:=Nc (K:=K) p y hy o hK (Ca y) 0 ⟨0,0,0,0⟩ 0 (by omega) (by omega) (by omega) (by intro x e;simp[BG.l] at e;omega);refine⟨b,?_,d⟩;refine Eq.trans (congrArg (fun z=>Option.bind (Option.bind z _) _) c) ?_;rw[Int.zero_add];rfl
end Go.Proofs.YtkljfdkmjdjpfaaGreat
end
section
namespace Go.Proofs.YtkljfdkmjdjpfaaGreat
def Dr(y:Ao)(i:Nat):AX:=y.Ac.getD i Hq
def IC(y:Ao)(o:List (List Int))(t:AS)(i:Nat):Ar:=(BO y o t).getD i Jp
def J6 (y:Ao) (o:List (List Int)) (i:Nat) (t:AS):Bool:=Gp (Dr y i) (IC y o t i)
theorem Nd(p:AX→Ar→Bool):∀(ls:List AX) (ss:List Ar) (as:List Int) (i:Nat),i<ls.length→i<ss.length→i<as.length→
  (G0 p ls ss as).getD i 0=as.getD i 0+(cond (p (ls.getD i Hq) (ss.getD i Jp)) 1 0)
 |l::ls,s::ss,a::as,0,_,_,_=>by
  rw[G0];show cond (p l s) (a+1) a=a+cond (p l s) 1 0;cases p l s<;>simp
 |l::ls,s::ss,a::as,i+1,h1,b,h3=>by
  rw[G0];exact Nd p ls ss as i (by simpa using h1) (by simpa using b) (by simpa using h3)
theorem KL(p:AX→Ar→Bool):∀(ls:List AX) (ss:List Ar) (as:List Int),(G0 p ls ss as).length=as.length
 |l::ls,s::ss,a::as=>by rw[G0,List.length_cons,KL p ls ss as,List.length_cons]
 |[],ss,as=>by rw[KY]
 |l::ls,[],as=>by
  have e:G0 p (l::ls) [] as=as:=by cases as<;>rfl
  rw[e]
 |l::ls,s::ss,[]=>rfl
theorem Nf(p:AX→Ar→Bool)(y:Ao)(o:List (List Int))(i:Nat)(hi:i<y.Ac.length):∀(a:List AS) (as:List Int),i<as.length→
  (LR p y o a as).getD i 0=as.getD i 0+(a.countP (fun t=>p (Dr y i) (IC y o t i)):Nat)
 |[],as,_=>by simp[LR]
 |t::a,as,h=>by
  rw[LR,Nf p y o i hi a _ (by rw[KL];exact h),Nd p _ _ _ i hi (by rw[BO,GO];exact hi) h,List.countP_cons];unfold Dr IC;cases p (y.Ac.getD i Hq) ((BO y o t).getD i Jp)<;>simp<;>omega
theorem Lm(p:AX→Ar→Bool)(y:Ao)(hy:Fg y)(o:List (List Int))(i:Nat)(hi:i<y.Ac.length):(Da p y o).getD i 0=((Ca y).countP (fun t=>p (Dr y i) (IC y o t i)):Nat):=by
 unfold Da;have a:=hy.n4;rw[Nf p y o i hi _ _ (by show i<4;omega)];have:([0,0,0,0]:List Int).getD i 0=0:=by
  match i,(show i<4 by omega) with
  |0,_=>rfl
  |1,_=>rfl
  |2,_=>rfl
  |3,_=>rfl
 rw[this,Int.zero_add]
theorem My(b:BG)(i:Nat)(h:i<4):idx [b.a0,b.a1,b.a2,b.a3] (i:Int)=some (b.l.getD i 0):=by
 have:i<[b.a0,b.a1,b.a2,b.a3].length:=h;rw[idx_eq this];show some b.l[i]=_;rw[List.getD_eq_getElem?_getD,List.getElem?_eq_getElem (show i<b.l.length from h)];rfl
def verdict (y:Ao) (o:List (List Int)) (i:Nat):Int:=cond ((Ca y).all (J6 y o i)) 1 (cond ((Ca y).all fun t=> !J6 y o i t) 2 3)
theorem Ml{α:Type}(p:α→Bool)(l:List α):((((l.countP p:Nat):Int)==(l.length:Int)))=l.all p:=by
 rw[Bool.eq_iff_iff,beq_iff_eq,List.all_eq_true,Int.ofNat_inj,List.countP_eq_length]
theorem O7{α:Type}(p:α→Bool)(l:List α):((((l.countP p:Nat):Int)==0))=l.all fun t=> !p t:=by
 rw[Bool.eq_iff_iff,beq_iff_eq,List.all_eq_true,show(0:Int)=((0:Nat):Int) from rfl,Int.ofNat_inj,List.countP_eq_zero];simp
theorem RR{K:Nat}(y:Ao)(o:List (List Int))(n:Int)(hK:2000≤K)(d:o.length≤1000)(e:o.flatten.length≤1000):
  ET K y o n=some (if check y≠0 then (0,check y) else if Dn y o=false∨FL n 0 ((y.Ac.length:Int)-1)=false then (0,2) else (verdict y o n.toNat,0)):=by
 unfold ET;rw[bd (H4 hK y)]
 by_cases h:check y=0
 ·rw[h,cf (by decide),if_neg (by simp)];have hy:=Fo h;have l:=hy.n4;rw[bd (J5 y o hy.n4 hK d e)];cases f:Dn y o with
  |false=>rw[nf,if_pos (.inl rfl)]
  |true=>
   have g:Fx K y n=some (FL n 0 ((y.Ac.length:Int)-1)):=by
    unfold Fx;rw[BM (by omega) (by omega),bd (G8 ..)]
   rw[nt,bd g];cases a:FL n 0 ((y.Ac.length:Int)-1) with
   |false=>rw[nf,if_pos (.inr rfl)]
   |true=>
    rw[nt,if_neg (by simp)];rw[Fu] at a;obtain⟨i,rfl⟩:=Int.eq_ofNat_of_zero_le a.1;have hi:i<y.Ac.length:=by omega
    obtain⟨b,j,k⟩:=LS (K:=K) Gp y hy o f hK;have c:Cs K (fun(st:Unit) (x:AX×Ar)=>(C2 K x.1 x.2).bind fun r=>some (r,())) y o ()=some (b,((Ca y).length:Int),()):=by
     rw[←j];congr 1;funext st x;rw[bd (LP ..)]
    rw[bd c,bd (My b i (by omega)),k,Lm Gp y hy o i hi,Int.toNat_natCast];unfold verdict;show cond ((((Ca y).countP (J6 y o i):Nat):Int)==((Ca y).length:Int)) _ (cond ((((Ca y).countP (J6 y o i):Nat):Int)==0) _ _)=_;rw[Ml,O7];cases (Ca y).all (J6 y o i)<;>cases (Ca y).all (fun t=> !J6 y o i t)<;>rfl
 ·rw[ct (by simpa using h),if_pos h]
theorem Jq(y:Ao)(o:List (List Int)):∀(a:List AS) (s:Int×AS),s.1<(y.Ac.length:Int)∨a=[]→
  (∀t∈a,(DS y (BO y o t):Int)≤(HX y o a s).1)∧s.1≤(HX y o a s).1∧((HX y o a s)=s∨∃t∈a,(HX y o a s)=((DS y (BO y o t):Int),t))
 |[],s,_=>⟨fun t ht=>(by cases ht),Int.le_refl _,.inl rfl⟩
 |t::a,s,h=>by
  have e:s.1<(y.Ac.length:Int):=by
   rcases h with h|h
   ·exact h
   ·cases h
  have hle:∀x,(DS y (BO y o x):Int)≤(y.Ac.length:Int):=fun x=>by
   have:=LQ DF y.Ac (BO y o x);unfold DS;omega
  rw[HX]
  by_cases f:s.1<(DS y (BO y o t):Int)
  ·rw[if_pos f];show(∀x∈t::a,_≤(cond (decide ((DS y (BO y o t):Int)<(y.Ac.length:Int))) _ _:Int×AS).1)∧_
   by_cases d:(DS y (BO y o t):Int)<(y.Ac.length:Int)
   ·rw[ct (dt d)];obtain⟨h1,c,h3⟩:=Jq y o a ((DS y (BO y o t):Int),t) (.inl d);refine⟨fun x b=>?_,by have g:(DS y (BO y o t):Int)≤_:=c;omega,.inr ?_⟩
    ·rcases List.mem_cons.1 b with rfl|b
     ·exact c
     ·exact h1 x b
    ·rcases h3 with h3|⟨x,b,h3⟩
     ·exact⟨t,List.mem_cons_self ..,h3⟩
     ·exact⟨x,List.mem_cons_of_mem _ b,h3⟩
   ·rw[cf (df d)];exact⟨fun x _=>Int.le_trans (hle x) (by show(y.Ac.length:Int)≤(DS y (BO y o t):Int);omega),by show s.1≤(DS y (BO y o t):Int);omega,.inr ⟨t,List.mem_cons_self ..,rfl⟩⟩
  ·rw[if_neg f];show(∀x∈t::a,_≤(cond (decide (s.1<(y.Ac.length:Int))) _ _:Int×AS).1)∧_;rw[ct (dt e)];obtain⟨h1,c,h3⟩:=Jq y o a s (.inl e);refine⟨fun x b=>?_,c,?_⟩
   ·rcases List.mem_cons.1 b with rfl|b
    ·omega
    ·exact h1 x b
   ·rcases h3 with h3|⟨x,b,h3⟩
    ·exact .inl h3
    ·exact .inr ⟨x,List.mem_cons_of_mem _ b,h3⟩
theorem Ln{y:Ao}(hy:Fg y):Ca y≠[]:=by
 have h1:wl (days y) 0∈Bl y:=by
  refine HN.2 ⟨Fm _ _,?_⟩;have key:∀(l:List Bool) (s r:Int),(∀b∈l,b=false)→okW y.An y.Av l s r=true:=by
   intro l
   induction l with
   |nil=>intros;rfl
   |cons b l ih=>
    intro s r h;have a:=h b (List.mem_cons_self ..);subst a;rw[okW];exact ih s 0 fun x c=>h x (List.mem_cons_of_mem _ c)
  refine key _ 0 0 fun b a=>?_;unfold wl at a;obtain⟨d,_,rfl⟩:=List.mem_map.1 a;exact Nat.zero_testBit d
 have f:Dq y.Ac (y.Ac.map (·.Aq))=true:=by
  have key:∀ls:List AX,(∀l∈ls,sized l)→Dq ls (ls.map (·.Aq))=true:=by
   intro ls
   induction ls with
   |nil=>intro _;rfl
   |cons l r ih=>
    intro h;have:=(h l (List.mem_cons_self ..)).1;rw[List.map_cons,Dq,Bool.and_eq_true];exact⟨Fu.2 (by unfold BS at this;omega),ih fun x c=>h x (List.mem_cons_of_mem _ c)⟩
  exact key _ fun l g=>(hy.sz l g).1
 intro e;have:(⟨y.Ac.map (·.Aq),wl (days y) 0⟩:AS)∈Ca y:=by
  unfold Ca;exact List.mem_flatMap.2 ⟨_,h1,List.mem_map.2 ⟨_,Gy.2 f,rfl⟩⟩
 rw[e] at this;cases this
theorem HY {y:Ao} (hy:Fg y) (o:List (List Int)):(∀t,Eh y t=true→(DS y (BO y o t):Int)≤(CX y o).1)∧Eh y (CX y o).2=true∧(CX y o).1=(DS y (BO y o (CX y o).2):Int):=by
 obtain⟨h1,a,h3⟩:=Jq y o (Ca y) (-1,⟨[],[]⟩) (.inl (by show(-1:Int)<_;omega));refine⟨fun t ht=>h1 t ((G2 hy.h0).2 ht),?_⟩;rcases h3 with h3|⟨t,ht,h3⟩
 ·exfalso;obtain⟨t,ht⟩:=List.exists_mem_of_ne_nil _ (Ln hy);have:=h1 t ht;rw[h3] at this;have b:(DS y (BO y o t):Int)≤-1:=this;omega
 ·unfold CX;rw[h3];exact⟨(G2 hy.h0).1 ht,rfl⟩
end Go.Proofs.YtkljfdkmjdjpfaaGreat
end
section
namespace Go.Proofs.YtkljfdkmjdjpfaaGreat
def Ec:Nat→Nat→List (List Int)→List (List (List Int))
 |0,_,o=>[o]
 |k+1,i,o=>(List.range o.length).flatMap fun r=>(List.range ((o.getD r []).length+1)).flatMap fun(a:Nat)=>Ec k (i+1) (o.set r (CK (o.getD r []) (a:Int) (i:Int)))
def Gq(y:Ao):List (List (List Int)):=Ec y.Ac.length 0 (List.replicate y.Ah.toNat [])
section
variable{σ:Type}{K:Nat}(cb:σ→List (List Int)→Option (Bool×σ))(y:Ao)
def Or(n k i:Nat):Prop:=∀(o:List (List Int)) (st:σ),(∀l∈o,l.length≤i)→o.length≤1000→
 (Bs K cb k (i:Int) y o st).map (fun z=>(z.1,z.2.2))=run cb (Ec n i o) st∧
 ∀z,Bs K cb k (i:Int) y o st=some z→z.1=true→z.2.1=o
theorem Ng{l:List (List Int)}{r:Nat}(h:r<l.length):l.set r (l.getD r [])=l:=by
 rw[List.getD_eq_getElem?_getD,List.getElem?_eq_getElem h];exact List.set_getElem_self h
theorem PY(n k i r:Nat)(hi:i≤10)(o:List (List Int))(s:r<o.length)(u:o.length≤1000)(hlen:∀l∈o,l.length≤i)(ih:Or (K:=K) cb y n k (i+1)):
  ∀(c m a:Nat) (q:List (List Int)) (st:σ),(o.getD r []).length+1=a+c→c<m→q.length=o.length→q.set r (o.getD r [])=o→
  (Cc (Bs K cb k) (i:Int) y (r:Int) (o.getD r []) m (a:Int) q st).map QI=run cb ((List.range' a c).flatMap fun(a:Nat)=>Ec n (i+1) (o.set r (CK (o.getD r []) (a:Int) (i:Int)))) st∧
  ∀z,Cc (Bs K cb k) (i:Int) y (r:Int) (o.getD r []) m (a:Int) q st=some z→(∀x,z=.inl x→x.1=false)∧(∀x,z=.inr x→x.1.length=o.length∧x.1.set r (o.getD r [])=o):=by
 have aG:(o.getD r []).length≤i:=by
  rw[List.getD_eq_getElem?_getD,List.getElem?_eq_getElem s];exact hlen _ (List.getElem_mem s)
 intro c
 induction c with
 |zero=>
  intro m a q st h hm v f;cases m with
  |zero=>omega
  |succ m=>
   rw[Cc.eq_2,cf (df (by omega))];exact⟨rfl,fun z g=>by cases g;exact⟨fun x e=>(by cases e),fun x e=>by cases e;exact⟨v,f⟩⟩⟩
 |succ c w=>
  intro m a q st h hm v f;cases m with
  |zero=>omega
  |succ m=>
   have aA:r<q.length:=by omega
   have t:q.set r (CK (o.getD r []) (a:Int) (i:Int))=o.set r (CK (o.getD r []) (a:Int) (i:Int)):=by
    have h:(q.set r (o.getD r [])).set r (CK (o.getD r []) (a:Int) (i:Int))=o.set r (CK (o.getD r []) (a:Int) (i:Int)):=by rw[f]
    rw[List.set_set] at h;exact h
   rw[Cc.eq_2,ct (dt (by omega)),FK (by omega),FK (by omega),Dm aA,BM (by omega) (by omega),DJ i,Int.toNat_natCast,t];obtain⟨aC,aD⟩:=ih (o.set r (CK (o.getD r []) (a:Int) (i:Int))) st (fun l aE=>by
    rcases List.mem_or_eq_of_mem_set aE with h1|h1
    ·have:=hlen l h1;omega
    ·rw[h1,KJ];omega) (by rw[List.length_set];exact u)
   rw[List.range'_succ,List.flatMap_cons,Ho,←aC];cases aF:Bs K cb k ((i+1:Nat):Int) y (o.set r (CK (o.getD r []) (a:Int) (i:Int))) st with
   |none=>exact⟨rfl,fun z g=>by cases g⟩
   |some z0=>
    obtain⟨b,j,s2⟩:=z0;cases b with
    |false=>
     refine⟨rfl,fun z g=>?_⟩;have aB:some (Sum.inl (false,j,s2))=some z:=g;cases aB;exact⟨fun x e=>by cases e;rfl,fun x e=>by cases e⟩
    |true=>
     have p:j=o.set r (CK (o.getD r []) (a:Int) (i:Int)):=aD _ aF rfl;have key:(Option.bind (some (true,j,s2)) fun d=>cond (!d.1) (some (Sum.inl (false,d.2.1,d.2.2))) ((i64 ((a:Int)+1)).bind fun _=>Cc (Bs K cb k) (i:Int) y (r:Int) (o.getD r []) m ((a:Int)+1) d.2.1 d.2.2))=Cc (Bs K cb k) (i:Int) y (r:Int) (o.getD r []) m ((a+1:Nat):Int) j s2:=by
      rw[Option.bind_some,nt,BM (by omega) (by omega),DJ a]
     rw[key];exact w m (a+1) j s2 (by omega) (by omega) (by rw[p,List.length_set]) (by rw[p,List.set_set];exact Ng s)
theorem PZ(n k i:Nat)(hi:i≤10)(hK:2000≤K)(o:List (List Int))(p:o.length≤1000)(hlen:∀l∈o,l.length≤i)(ih:Or (K:=K) cb y n k (i+1)):
  ∀(c m r:Nat) (st:σ),o.length=r+c→c<m→
  (B2 (Bs K cb k) K (i:Int) y o m (r:Int) o st).map QI=run cb ((List.range' r c).flatMap fun r=>(List.range ((o.getD r []).length+1)).flatMap fun(a:Nat)=>Ec n (i+1) (o.set r (CK (o.getD r []) (a:Int) (i:Int)))) st∧
  ∀z,B2 (Bs K cb k) K (i:Int) y o m (r:Int) o st=some z→(∀x,z=.inl x→x.1=false)∧(∀x,z=.inr x→x.1=o):=by
 intro c
 induction c with
 |zero=>
  intro m r st h hm;cases m with
  |zero=>omega
  |succ m=>
   rw[B2.eq_2,cf (df (by omega))];exact⟨rfl,fun z j=>by cases j;exact⟨fun x f=>(by cases f),fun x f=>by cases f;rfl⟩⟩
 |succ c q=>
  intro m r st h hm;cases m with
  |zero=>omega
  |succ m=>
   have g:r<o.length:=by omega
   have aD:(o.getD r []).length≤i:=by
    rw[List.getD_eq_getElem?_getD,List.getElem?_eq_getElem g];exact hlen _ (List.getElem_mem g)
   have s:o[r]=o.getD r []:=by rw[List.getD_eq_getElem?_getD,List.getElem?_eq_getElem g];rfl
   rw[B2.eq_2,ct (dt (by omega)),Dm g,s,BM (by omega) (by omega)];obtain⟨t,u⟩:=PY cb y n k i r hi o g p hlen ih ((o.getD r []).length+1) K 0 o st (by omega) (by omega) rfl (Ng g);rw[Int.natCast_zero] at t u;rw[List.range'_succ,List.flatMap_cons,Ho,List.range_eq_range',←t];cases aA:Cc (Bs K cb k) (i:Int) y (r:Int) (o.getD r []) K 0 o st with
   |none=>exact⟨rfl,fun z j=>by cases j⟩
   |some z0=>
    obtain⟨h1,aB⟩:=u _ aA;cases z0 with
    |inl x=>
     obtain⟨b,e,s2⟩:=x;obtain rfl:b=false:=h1 _ rfl;refine⟨rfl,fun z j=>?_⟩;have v:some (Sum.inl (false,e,s2))=some z:=j;cases v;exact⟨fun x f=>by cases f;rfl,fun x f=>by cases f⟩
    |inr x=>
     obtain⟨e,s2⟩:=x;obtain⟨h3,aC⟩:=aB _ rfl;have aE:e.length=o.length:=h3;have w:e.set r (o.getD r [])=o:=aC;have key:(Option.bind (some (Sum.inr (e,s2):(Bool×List (List Int)×σ)⊕(List (List Int)×σ))) fun z=>Sum.elim (fun d=>some (Sum.inl (d.1,d.2.1,d.2.2))) (fun d=>(idx d.1 (r:Int)).bind fun _=>(i64 ((r:Int)+1)).bind fun _=>B2 (Bs K cb k) K (i:Int) y o m ((r:Int)+1) (d.1.set (r:Int).toNat (o.getD r [])) d.2) z)=B2 (Bs K cb k) K (i:Int) y o m ((r+1:Nat):Int) o s2:=by
      rw[Option.bind_some];show(idx e (r:Int)).bind _=_;rw[Dm (show r<e.length by omega),BM (by omega) (by omega),DJ r];show B2 _ K _ y o m _ (e.set (r:Int).toNat (o.getD r [])) s2=_;rw[Int.toNat_natCast,w]
     rw[key];exact q m (r+1) s2 (by omega) (by omega)
theorem P0(p:y.Ac.length≤4)(hK:2000≤K):∀(n k i:Nat),y.Ac.length=i+n→n<k→Or (K:=K) cb y n k i:=by
 intro n
 induction n with
 |zero=>
  intro k i h j o st hlen e;cases k with
  |zero=>omega
  |succ k=>
   rw[Bs.eq_2,ct (by rw[h];simp)];rw[Ec,run];cases cb st o with
   |none=>exact⟨rfl,fun z a=>by cases a⟩
   |some r=>
    obtain⟨b,s⟩:=r;refine⟨by cases b<;>rfl,fun z a _=>?_⟩;have c:some (b,o,s)=some z:=a;cases c;rfl
 |succ n ih=>
  intro k i h j o st hlen e;cases k with
  |zero=>omega
  |succ k=>
   rw[Bs.eq_2,cf (by simp;omega)];obtain⟨f,g⟩:=PZ cb y n k i (by omega) hK o e hlen (ih k (i+1) (by omega) (by omega)) o.length K 0 st (by omega) (by omega);rw[Int.natCast_zero] at f g;rw[Ec,List.range_eq_range',←f];cases l:B2 (Bs K cb k) K (i:Int) y o K 0 o st with
   |none=>exact⟨rfl,fun z a=>by cases a⟩
   |some z0=>
    obtain⟨h1,m⟩:=g _ l;cases z0 with
    |inl x=>
     obtain⟨b,d,s2⟩:=x;obtain rfl:b=false:=h1 _ rfl;refine⟨rfl,fun z a ht=>?_⟩;have c:some (false,d,s2)=some z:=a;cases c;cases ht
    |inr x=>
     obtain⟨d,s2⟩:=x;obtain rfl:d=o:=m _ rfl;refine⟨rfl,fun z a ht=>?_⟩;have c:some (true,d,s2)=some z:=a;cases c;rfl
end
theorem Nh{σ:Type}{K:Nat}(cb:σ→List (List Int)→Option (Bool×σ))(y:Ao)(hy:Fg y)(hK:2000≤K)(st:σ):EF K cb y st=(run cb (Gq y) st).bind fun r=>some r.2:=by
 unfold EF;have:=hy.r1;have:=hy.r2;rw[Oc (by omega) (by omega) (by omega)];obtain⟨a,_⟩:=P0 cb y hy.n4 hK y.Ac.length K 0 (by omega) (by have:=hy.n4;omega) (List.replicate y.Ah.toNat []) st (fun l b=>by rw[(List.mem_replicate.1 b).2];exact Nat.le_refl _) (by rw[List.length_replicate];omega);rw[Int.natCast_zero] at a;unfold Gq;rw[←a];cases Bs K cb K 0 y (List.replicate y.Ah.toNat []) st with
 |none=>rfl
 |some z=>rfl
end Go.Proofs.YtkljfdkmjdjpfaaGreat
end
section
namespace Go.Proofs.YtkljfdkmjdjpfaaGreat
theorem P1(l:List Int)(a i:Int):(CK l a i).Perm (i::l):=by
 unfold CK;refine List.perm_middle.trans (List.Perm.cons _ ?_);rw[List.take_append_drop]
theorem Io(v:Int):∀(o:List (List Int)) (r:Nat) (a:Int),r<o.length→(o.set r (CK (o.getD r []) a v)).flatten.Perm (v::o.flatten)
 |l::o,0,a,_=>by
  show(CK l a v++o.flatten).Perm (v::(l++o.flatten));exact(P1 l a v).append_right _
 |l::o,r+1,a,h=>by
  show(l++(o.set r (CK (o.getD r []) a v)).flatten).Perm (v::(l++o.flatten));exact((Io v o r a (by simpa using h)).append_left l).trans List.perm_middle
theorem J7(n:Nat):iota (n+1)=iota n++[(n:Int)]:=by simp[iota,List.range_succ]
theorem Lp:∀(k i:Nat) (c o:List (List Int)),c.flatten.Perm (iota i)→o∈Ec k i c→o.length=c.length∧o.flatten.Perm (iota (i+k))
 |0,i,c,o,h,b=>by
  rw[Ec,List.mem_singleton] at b;subst b;exact⟨rfl,h⟩
 |k+1,i,c,o,h,b=>by
  rw[Ec,List.mem_flatMap] at b;obtain⟨r,d,b⟩:=b;obtain⟨a,_,b⟩:=List.mem_flatMap.1 b;rw[List.mem_range] at d;obtain⟨h1,e⟩:=Lp k (i+1) _ o (by
   rw[J7];exact((Io (i:Int) c r (a:Int) d).trans (h.cons _)).trans (List.perm_append_singleton _ _).symm) b
  rw[List.length_set] at h1;exact⟨h1,by rw[show i+(k+1)=i+1+k by omega];exact e⟩
theorem HZ{y:Ao}(hy:Fg y){o:List (List Int)}(h:o∈Gq y):Dn y o=true:=by
 have:=Lp _ 0 _ o (by
  have:(List.replicate y.Ah.toNat ([]:List Int)).flatten=[]:=by simp
  rw[this];exact List.Perm.refl _) h
 rw[List.length_replicate,Nat.zero_add] at this;refine E2.2 ⟨?_,this.2⟩;have:=hy.r1;omega
theorem J8:∀(k i:Nat) (c o:List (List Int)) (r a:Nat),o∈Ec k i c→r<o.length→a≤(o.getD r []).length→o.set r (CK (o.getD r []) (a:Int) ((i+k:Nat):Int))∈Ec (k+1) i c
 |0,i,c,o,r,a,b,d,e=>by
  rw[Ec,List.mem_singleton] at b;subst b;rw[Ec,List.mem_flatMap];refine⟨r,List.mem_range.2 d,List.mem_flatMap.2 ⟨a,List.mem_range.2 (by omega),?_⟩⟩;rw[Ec,List.mem_singleton];rfl
 |k+1,i,c,o,r,a,b,d,e=>by
  rw[Ec,List.mem_flatMap] at b;obtain⟨r1,f,b⟩:=b;obtain⟨a1,g,b⟩:=List.mem_flatMap.1 b;rw[Ec,List.mem_flatMap];refine⟨r1,f,List.mem_flatMap.2 ⟨a1,g,?_⟩⟩;have:=J8 k (i+1) _ o r a b d e;rw[show i+1+k=i+(k+1) by omega] at this;exact this
theorem Lq (v:Int):∀(o:List (List Int)),v∈o.flatten→∃(o':List (List Int)) (r a:Nat),r<o'.length∧a≤(o'.getD r []).length∧o=o'.set r (CK (o'.getD r []) (a:Int) v)∧o.flatten.Perm (v::o'.flatten)∧o'.length=o.length
 |[],h=>by cases h
 |l::o,h=>by
  by_cases b:v∈l
  ·obtain⟨s,t,rfl⟩:=List.append_of_mem b;refine⟨(s++t)::o,0,s.length,by simp,by simp,?_,?_,by simp⟩
   ·show _=CK (s++t) (s.length:Int) v::o;unfold CK;rw[Int.toNat_natCast,List.take_left,List.drop_left]
   ·show((s++v::t)++o.flatten).Perm (v::((s++t)++o.flatten));exact(List.perm_middle (a:=v) (l₁:=s) (l₂:=t)).append_right _
  ·have c:v∈o.flatten:=by
    rw[List.flatten_cons,List.mem_append] at h;exact h.resolve_left b
   obtain⟨o',r,a,h1,d,h3,e,f⟩:=Lq v o c;refine⟨l::o',r+1,a,by simpa using h1,d,?_,?_,by simp[f]⟩
   ·show l::o=l::o'.set r (CK (o'.getD r []) (a:Int) v);rw[←h3]
   ·show(l++o.flatten).Perm (v::(l++o'.flatten));exact(e.append_left l).trans List.perm_middle
theorem KM(Lw:Nat):∀(n:Nat) (o:List (List Int)),o.length=Lw→o.flatten.Perm (iota n)→o∈Ec n 0 (List.replicate Lw [])
 |0,o,c,b=>by
  rw[Ec,List.mem_singleton];have he:o.flatten=[]:=b.eq_nil;rw[List.flatten_eq_nil_iff] at he;exact List.eq_replicate_iff.2 ⟨c,he⟩
 |n+1,o,c,b=>by
  have e:(n:Int)∈o.flatten:=b.mem_iff.2 (by rw[J7];simp);obtain⟨o',r,a,h1,f,h3,g,i⟩:=Lq (n:Int) o e;have d:o'.flatten.Perm (iota n):=by
   have h:(iota (n+1)).Perm ((n:Int)::iota n):=by rw[J7];exact List.perm_append_singleton _ _
   exact(List.perm_cons _).1 ((g.symm.trans b).trans h)
  have:=J8 n 0 _ o' r a (KM Lw n o' (by omega) d) h1 f;rw[Nat.zero_add] at this;rw[h3];exact this
theorem KN{y:Ao}(hy:Fg y){o:List (List Int)}:o∈Gq y↔Dn y o=true:=by
 refine⟨HZ hy,fun h=>?_⟩;have a:=E2.1 h;exact KM _ _ o (by omega) a.2
theorem O8{y:Ao}(hy:Fg y):Gq y≠[]:=by
 have:((iota y.Ac.length)::List.replicate (y.Ah.toNat-1) [])∈Gq y:=by
  refine(KN hy).2 (E2.2 ⟨?_,?_⟩)
  ·have:=hy.r1;simp;omega
  ·simp
 intro e;rw[e] at this;cases this
theorem QN(p:List (List Int))(c:p.length≤1000)(a:∀l∈p,l.length≤1000):∀(k m i:Nat),p.length=i+k→k<m→EC p m (i:Int) p=some p:=by
 intro k
 induction k with
 |zero=>
  intro m i h hm;cases m with
  |zero=>omega
  |succ m=>rw[EC.eq_2,cf (df (by omega))]
 |succ k ih=>
  intro m i h hm;cases m with
  |zero=>omega
  |succ m=>
   have hi:i<p.length:=by omega
   have b:=a p[i] (List.getElem_mem hi);rw[EC.eq_2,ct (dt (by omega)),Dm hi,FK (by omega),Dm hi,BM (by omega) (by omega),DJ,Int.toNat_natCast,List.set_getElem_self hi];exact ih m (i+1) (by omega) (by omega)
theorem Ni{K:Nat}(p:List (List Int))(a:p.length≤1000)(b:∀l∈p,l.length≤1000)(hK:2000≤K):E1 K p=some p:=by
 unfold E1;have:=QN p a b p.length K 0 (by omega) (by omega);rw[Int.natCast_zero] at this;rw[FK (by omega),bd this]
theorem J9{y:Ao}(hy:Fg y){o:List (List Int)}(h:Dn y o=true):o.length≤1000∧(∀l∈o,l.length≤1000)∧o.flatten.length≤1000:=by
 have h1:=E2.1 h;have a:=LO h;have:=hy.r2;have:=hy.n4;have h3:=h1.2.length_eq;rw[G1] at h3;exact⟨by omega,fun l b=>by have:=(a l b).1;omega,by omega⟩
def HG(y:Ao):List (List (List Int))→Int×List (List Int)→Int×List (List Int)
 |[],s=>s
 |o::os,s=>
  let s2:=if (CX y o).1<s.1 then ((CX y o).1,o) else s
  cond (decide (0<s2.1)) (HG y os s2) s2
def HH(y:Ao):Int×List (List Int):=HG y (Gq y) ((y.Ac.length:Int)+1,[])
theorem Nj{K:Nat}(y:Ao)(hy:Fg y)(hK:2000≤K):∀(os:List (List (List Int))) (s:Int×List (List Int)),(∀o∈os,Dn y o=true)→
  (run (fun(st:Int×(List (List Int))) (x:(List (List Int)))=>(FT K x y st.1 st.2).bind fun r=>some (r.1,(r.2.1,r.2.2))) os s).bind (fun r=>some r.2)=some (HG y os s)
 |[],s,_=>rfl
 |o::os,s,h=>by
  have c:=h o (List.mem_cons_self ..);obtain⟨d,e,_⟩:=J9 hy c;rw[run,HG];unfold FT;rw[bd (PW y hy o c hK)]
  by_cases a:(CX y o).1<s.1
  ·rw[ct (dt a),bd (Ni o d e hK),if_pos a];show(cond (decide (0<(CX y o).1)) _ _:Option (Bool×Int×List (List Int))).bind _=some (cond (decide (0<(CX y o).1)) _ _);cases decide (0<(CX y o).1) with
   |false=>rfl
   |true=>exact Nj y hy hK os _ fun x b=>h x (List.mem_cons_of_mem _ b)
  ·rw[cf (df a),if_neg a];show(cond (decide (0<s.1)) _ _:Option (Bool×Int×List (List Int))).bind _=some (cond (decide (0<s.1)) _ _);cases decide (0<s.1) with
   |false=>rfl
   |true=>exact Nj y hy hK os s fun x b=>h x (List.mem_cons_of_mem _ b)
theorem Ts{K:Nat}(y:Ao)(hK:2000≤K):GF K y=some (if check y≠0 then ([],0,check y) else ((HH y).2,(HH y).1,0)):=by
 unfold GF;rw[bd (H4 hK y)]
 by_cases h:check y=0
 ·rw[h,cf (by decide),if_neg (by simp)];have hy:=Fo h;have b:=hy.n4;rw[BM (by omega) (by omega),Nh _ y hy hK];exact Eq.trans (bd (Nj y hy hK (Gq y) _ fun o a=>HZ hy a)) rfl
 ·rw[ct (by simpa using h),if_pos h]
theorem Nk{y:Ao}(hy:Fg y)(o:List (List Int)):0≤(CX y o).1∧(CX y o).1≤(y.Ac.length:Int):=by
 obtain⟨_,_,e⟩:=HY hy o;have:=LQ DF y.Ac (BO y o (CX y o).2);rw[e];unfold DS;omega
theorem Jr(y:Ao)(hy:Fg y):∀(os:List (List (List Int))) (s:Int×List (List Int)),0<s.1∨os=[]→
  (∀o∈os,(HG y os s).1≤(CX y o).1)∧(HG y os s).1≤s.1∧((HG y os s)=s∨∃o∈os,(HG y os s)=((CX y o).1,o))
 |[],s,_=>⟨fun o f=>(by cases f),Int.le_refl _,.inl rfl⟩
 |o::os,s,h=>by
  have d:0<s.1:=by
   rcases h with h|h
   ·exact h
   ·cases h
  rw[HG]
  by_cases e:(CX y o).1<s.1
  ·rw[if_pos e];show(∀x∈o::os,(cond (decide (0<(CX y o).1)) _ _:Int×List (List Int)).1≤_)∧_
   by_cases c:0<(CX y o).1
   ·rw[ct (dt c)];obtain⟨h1,b,h3⟩:=Jr y hy os ((CX y o).1,o) (.inl c);have g:(HG y os ((CX y o).1,o)).1≤(CX y o).1:=b;refine⟨fun x a=>?_,by omega,.inr ?_⟩
    ·rcases List.mem_cons.1 a with rfl|a
     ·exact b
     ·exact h1 x a
    ·rcases h3 with h3|⟨x,a,h3⟩
     ·exact⟨o,List.mem_cons_self ..,h3⟩
     ·exact⟨x,List.mem_cons_of_mem _ a,h3⟩
   ·rw[cf (df c)];refine⟨fun x _=>?_,by show(CX y o).1≤s.1;omega,.inr ⟨o,List.mem_cons_self ..,rfl⟩⟩;have:=(Nk hy x).1;show(CX y o).1≤_;omega
  ·rw[if_neg e];show(∀x∈o::os,(cond (decide (0<s.1)) _ _:Int×List (List Int)).1≤_)∧_;rw[ct (dt d)];obtain⟨h1,b,h3⟩:=Jr y hy os s (.inl d);refine⟨fun x a=>?_,b,?_⟩
   ·rcases List.mem_cons.1 a with rfl|a
    ·omega
    ·exact h1 x a
   ·rcases h3 with h3|⟨x,a,h3⟩
    ·exact .inl h3
    ·exact .inr ⟨x,List.mem_cons_of_mem _ a,h3⟩
theorem O9 {y:Ao} (hy:Fg y):(∀o,Dn y o=true→(HH y).1≤(CX y o).1)∧Dn y (HH y).2=true∧(HH y).1=(CX y (HH y).2).1:=by
 obtain⟨h1,b,h3⟩:=Jr y hy (Gq y) ((y.Ac.length:Int)+1,[]) (.inl (by show(0:Int)<_+1;omega));refine⟨fun o a=>h1 o ((KN hy).2 a),?_⟩;rcases h3 with h3|⟨o,a,h3⟩
 ·exfalso;obtain⟨o,a⟩:=List.exists_mem_of_ne_nil _ (O8 hy);have:=h1 o a;rw[h3] at this;have c:(y.Ac.length:Int)+1≤(CX y o).1:=this;have:=(Nk hy o).2;omega
 ·unfold HH;rw[h3];exact⟨HZ hy a,rfl⟩
end Go.Proofs.YtkljfdkmjdjpfaaGreat
end
section
namespace Go.Proofs.YtkljfdkmjdjpfaaGreat
def GP(y:Ao)(yes:List Int):Nat:=(List.range y.Ac.length).countP fun i=>yes.getD i 0==0
theorem RS(y:Ao)(r:BG×Int×Unit)(b:y.Ac.length≤4):∀(k m i:Nat) (a:Int),y.Ac.length=i+k→k<m→0≤a→a≤i→
  D5 y r m a (i:Int)=some (a+((List.range' i k).countP (fun i=>r.1.l.getD i 0==0):Nat)):=by
 intro k
 induction k with
 |zero=>
  intro m i a h hm h0 h1;cases m with
  |zero=>omega
  |succ m=>rw[D5.eq_2,cf (df (by omega))];simp
 |succ k ih=>
  intro m i a h hm h0 h1;cases m with
  |zero=>omega
  |succ m=>
   rw[D5.eq_2,ct (dt (by omega)),bd (My r.1 i (by omega)),List.range'_succ,List.countP_cons];cases c:(r.1.l.getD i 0==0) with
   |true=>
    rw[ct rfl,BM (by omega) (by omega),BM (by omega) (by omega),DJ,ih m (i+1) (a+1) (by omega) (by omega) (by omega) (by omega)]
    congr 1;simp;omega
   |false=>
    rw[cf rfl,BM (by omega) (by omega),DJ,ih m (i+1) a (by omega) (by omega) (by omega) (by omega)]
    congr 1
theorem QO(y:Ao)(r:BG×Int×Unit)(b:y.Ac.length≤4):∀(k m i:Nat) (a:Int),y.Ac.length=i+k→k<m→0≤a→a≤i→
  DX y r m a (i:Int)=some (a+((List.range' i k).countP (fun i=>r.1.l.getD i 0==0):Nat)):=by
 intro k
 induction k with
 |zero=>
  intro m i a h hm h0 h1;cases m with
  |zero=>omega
  |succ m=>rw[DX.eq_2,cf (df (by omega))];simp
 |succ k ih=>
  intro m i a h hm h0 h1;cases m with
  |zero=>omega
  |succ m=>
   rw[DX.eq_2,ct (dt (by omega)),bd (My r.1 i (by omega)),List.range'_succ,List.countP_cons];cases c:(r.1.l.getD i 0==0) with
   |true=>
    rw[ct rfl,BM (by omega) (by omega),BM (by omega) (by omega),DJ,ih m (i+1) (a+1) (by omega) (by omega) (by omega) (by omega)]
    congr 1;simp;omega
   |false=>
    rw[cf rfl,BM (by omega) (by omega),DJ,ih m (i+1) a (by omega) (by omega) (by omega) (by omega)]
    congr 1
def HI(y:Ao):List (List (List Int))→Int×List Int×List (List Int)→Int×List Int×List (List Int)
  |[],s=>s
  |o::os,s=>
    cond (decide (0≤s.1)&&(Da DF y o==s.2.1)) (HI y os s)
      (let s2:=if s.1<(GP y (Da DF y o):Int) then ((GP y (Da DF y o):Int),Da DF y o,o) else (s.1,Da DF y o,s.2.2)
       cond (decide (s2.1<(y.Ac.length:Int))) (HI y os s2) s2)
def Lr(y:Ao):Int×List Int×List (List Int):=HI y (Gq y) (-1,[0,0,0,0],[])
theorem Nl{K:Nat}(y:Ao)(hy:Fg y)(hK:2000≤K):∀(os:List (List (List Int))) (n:Int) (a:BG) (q:List (List Int)),(∀o∈os,Dn y o=true)→
    ∃(b:Bool) (a2:BG),run (fun(st:Int×BG×(List (List Int))) (x:(List (List Int)))=>(Ex K x y st.1 st.2.1 st.2.2).bind fun r=>some (r.1,(r.2.1,r.2.2.1,r.2.2.2))) os (n,a,q)=some (b,(HI y os (n,a.l,q)).1,a2,(HI y os (n,a.l,q)).2.2)
  |[],n,a,q,_=>⟨true,a,rfl⟩
  |o::os,n,a,q,h=>by
    have p:=h o (List.mem_cons_self ..);have m:∀x∈os,Dn y x=true:=fun x aB=>h x (List.mem_cons_of_mem _ aB);obtain⟨aC,aD,_⟩:=J9 hy p;have s:=hy.n4;obtain⟨b,aE,j⟩:=LS (K:=K) DF y hy o p hK;have t:Cs K (fun(st:Unit) (x:AX×Ar)=>(D4 K x.1 x.2).bind fun r=>some (r,())) y o ()=some (b,((Ca y).length:Int),()):=by
      rw[←aE];congr 1;funext st x;rw[bd (Of ..)];rfl
    have h9:=RS y (b,((Ca y).length:Int),()) s y.Ac.length K 0 0 (by omega) (by omega) (by omega) (by omega);have e:=QO y (b,((Ca y).length:Int),()) s y.Ac.length K 0 0 (by omega) (by omega) (by omega) (by omega);rw[Int.natCast_zero,Int.zero_add] at h9 e;have u:((List.range' 0 y.Ac.length).countP (fun i=>(b,((Ca y).length:Int),()).1.l.getD i 0==0))=GP y (Da DF y o):=by
      rw[←List.range_eq_range',←j];rfl
    rw[u] at h9 e;have c:∀(l:Int×BG×List (List Int)) (z:Int×List Int×List (List Int)),(l.1,l.2.1.l,l.2.2)=z→
        ∃(d:Bool) (a2:BG),cond (decide (l.1<(y.Ac.length:Int))) (run (fun(st:Int×BG×(List (List Int))) (x:(List (List Int)))=>(Ex K x y st.1 st.2.1 st.2.2).bind fun r=>some (r.1,(r.2.1,r.2.2.1,r.2.2.2))) os l) (some (false,l))=some (d,(cond (decide (z.1<(y.Ac.length:Int))) (HI y os z) z).1,a2,(cond (decide (z.1<(y.Ac.length:Int))) (HI y os z) z).2.2):=by
      rintro⟨f,v,aF⟩ z rfl;show∃(d:Bool) (a2:BG),cond (decide (f<(y.Ac.length:Int))) _ _=some (d,(cond (decide (f<(y.Ac.length:Int))) _ _:Int×List Int×List (List Int)).1,a2,(cond (decide (f<(y.Ac.length:Int))) _ _:Int×List Int×List (List Int)).2.2);cases decide (f<(y.Ac.length:Int)) with
      |false=>exact⟨false,v,rfl⟩
      |true=>exact Nl y hy hK os f v aF m
    have main:∀z9:Int,z9=(GP y (Da DF y o):Int)→∃(d:Bool) (a2:BG),
        (((cond (decide (n<z9)) ((E1 K o).bind fun w=>some ((decide (z9<(y.Ac.length:Int)),z9,b,w))) (some ((decide (n<(y.Ac.length:Int)),n,b,q))):Option (Bool×Int×BG×List (List Int))).bind fun r=>some (r.1,(r.2.1,r.2.2.1,r.2.2.2))).bind fun r=>cond r.1 (run (fun(st:Int×BG×(List (List Int))) (x:(List (List Int)))=>(Ex K x y st.1 st.2.1 st.2.2).bind fun r=>some (r.1,(r.2.1,r.2.2.1,r.2.2.2))) os r.2) (some (false,r.2)))=
        some (d,(let s2:=if n<(GP y (Da DF y o):Int) then ((GP y (Da DF y o):Int),Da DF y o,o) else (n,Da DF y o,q)
       cond (decide (s2.1<(y.Ac.length:Int))) (HI y os s2) s2).1,a2,(let s2:=if n<(GP y (Da DF y o):Int) then ((GP y (Da DF y o):Int),Da DF y o,o) else (n,Da DF y o,q)
       cond (decide (s2.1<(y.Ac.length:Int))) (HI y os s2) s2).2.2):=by
      rintro z9 rfl
      by_cases g:n<(GP y (Da DF y o):Int)
      · rw[ct (dt g),bd (Ni o aC aD hK)];simp only[if_pos g];exact c ((GP y (Da DF y o):Int),b,o) ((GP y (Da DF y o):Int),Da DF y o,o) (by show(_,b.l,o)=_;rw[j])
      · rw[cf (df g)];simp only[if_neg g];exact c (n,b,q) (n,Da DF y o,q) (by show(_,b.l,q)=_;rw[j])
    rw[run,HI];show∃(d:Bool) (a2:BG),Option.bind ((Ex K o y n a q).bind _) _=_;unfold Ex;rw[bd t]
    by_cases k:0≤n
    · rw[ct (dt k),dt k,Bool.true_and];have aA:([b.a0,b.a1,b.a2,b.a3]==[a.a0,a.a1,a.a2,a.a3])=(Da DF y o==a.l):=by rw[←j];rfl
      rw[aA];cases g:(Da DF y o==a.l) with
      |true=>
        rw[ct rfl,ct rfl];exact Nl y hy hK os n a q m
      |false=>
        rw[cf rfl,cf rfl,bd h9];exact main _ rfl
    · rw[cf (df k),df k,Bool.false_and,cf rfl,bd e];exact main _ rfl
theorem Tt{K:Nat}(y:Ao)(hK:2000≤K):GG K y=some (if check y≠0 then ([],0,check y) else ((Lr y).2.2,(Lr y).1,0)):=by
 unfold GG;rw[bd (H4 hK y)]
 by_cases h:check y=0
 ·rw[h,cf (by decide),if_neg (by simp)];have hy:=Fo h;rw[Nh _ y hy hK];obtain⟨b,a2,e⟩:=Nl (K:=K) y hy hK (Gq y) (-1) ⟨0,0,0,0⟩ [] fun o a=>HZ hy a;exact Eq.trans (congrArg (fun z=>Option.bind (Option.bind z _) _) e) rfl
 ·rw[ct (by simpa using h),if_pos h]
end Go.Proofs.YtkljfdkmjdjpfaaGreat
end
section
namespace Go.Proofs.YtkljfdkmjdjpfaaGreat
def GW(n i k:Nat):List Int:=((List.range' k (n-k)).filter fun j=>j !=i).map fun j:Nat=>(j:Int)
def Gr (y:Ao) (i:Nat):List (List Int):=((i:Int)::GW y.Ac.length i 0)::List.replicate (y.Ah.toNat-1) []
theorem Tu{α:Type}(x:α)(r:List α):idx (x::r) (0:Int)=some x:=idx_eq (xs:=x::r) (k:=0) (by simp)
theorem UC(n i:Nat)(f:n≤4):∀(d m k:Nat) (x:List Int) (r:List (List Int)),n=k+d→d<m→x.length≤1+k→
  IK (n:Int) (i:Int) m (k:Int) (x::r)=some ((x++GW n i k)::r):=by
 intro d
 induction d with
 |zero=>
  intro m k x r h hm e;cases m with
  |zero=>omega
  |succ m=>
   rw[IK,cf (df (by omega))];unfold GW;rw[show n-k=0 by omega];simp
 |succ d ih=>
  intro m k x r h hm e;cases m with
  |zero=>omega
  |succ m=>
   have b:idx (x::r) (0:Int)=some x:=Tu x r;have c:GW n i k=cond (k !=i) ((k:Int)::GW n i (k+1)) (GW n i (k+1)):=by
    unfold GW;rw[show n-k=(n-(k+1))+1 by omega,List.range'_succ,List.filter_cons];cases g:(k !=i) with
    |true=>rfl
    |false=>rfl
   rw[IK,ct (dt (by omega))]
   by_cases a:k=i
   ·have:((k:Int) !=(i:Int))=false:=by rw[a];exact bne_self_eq_false ..
    rw[this,cf rfl,BM (by omega) (by omega),DJ,ih m (k+1) x r (by omega) (by omega) (by omega),c,show(k !=i)=false by rw[a];exact bne_self_eq_false ..];rfl
   ·have:((k:Int) !=(i:Int))=true:=by rw[bne_iff_ne];omega
    rw[this,ct rfl,bd b,FK (by simp;omega),bd b,BM (by omega) (by omega),DJ];show IK _ _ m _ ((x++[(k:Int)])::r)=_;rw[ih m (k+1) (x++[(k:Int)]) r (by omega) (by omega) (by simp;omega),c,show(k !=i)=true by rw[bne_iff_ne];exact a];simp
theorem P2{y:Ao}(hy:Fg y){i:Nat}(hi:i<y.Ac.length):Dn y (Gr y i)=true:=by
 have h1:=hy.r1;rw[E2];refine⟨by unfold Gr;simp;omega,?_⟩;have e:(Gr y i).flatten=(i:Int)::GW y.Ac.length i 0:=by
  unfold Gr;rw[List.flatten_cons];have:(List.replicate (y.Ah.toNat-1) ([]:List Int)).flatten=[]:=by
   simp
  rw[this,List.append_nil]
 rw[e];unfold GW iota;rw[←List.range_eq_range',Nat.sub_zero];have:((i:Int)::((List.range y.Ac.length).filter fun j=>j !=i).map fun j:Nat=>(j:Int))=(i::((List.range y.Ac.length).filter fun j=>j !=i)).map fun j:Nat=>(j:Int):=rfl;rw[this];refine List.Perm.map _ ?_;have hm:i∈List.range y.Ac.length:=List.mem_range.2 hi;have a:=List.perm_cons_erase hm;rw[List.Nodup.erase_eq_filter List.nodup_range] at a;exact a.symm
def F5(y:Ao)(k d:Nat):List Int:=((List.range' k d).filter fun i=> !(Ca y).all (J6 y (Gr y i) i)).map fun i:Nat=>(i:Int)
theorem Pb{K:Nat}(y:Ao)(hy:Fg y)(hK:2000≤K):∀(d m i:Nat) (a:List Int),y.Ac.length=i+d→d<m→a.length≤i→
  DI K y m a (i:Int)=some (a++F5 y i d):=by
 have f:=hy.n4;have q:=hy.r1;have s:=hy.r2;intro d
 induction d with
 |zero=>
  intro m i a h hm g;cases m with
  |zero=>omega
  |succ m=>rw[DI.eq_2,cf (df (by omega))];simp[F5]
 |succ d ih=>
  intro m i a h hm g;cases m with
  |zero=>omega
  |succ m=>
   have hi:i<y.Ac.length:=by omega
   have j:=P2 hy hi;obtain⟨b,k,n⟩:=LS (K:=K) Gp y hy (Gr y i) j hK;have c:Cs K (fun(st:Unit) (x:AX×Ar)=>(C2 K x.1 x.2).bind fun r=>some (r,())) y (Gr y i) ()=some (b,((Ca y).length:Int),()):=by
    rw[←k];congr 1;funext st x;rw[bd (LP ..)]
   have er:List.replicate y.Ah.toNat ([]:List Int)=[]::List.replicate (y.Ah.toNat-1) []:=by
    rw[←List.replicate_succ];congr 1;omega
   have e:=UC y.Ac.length i f y.Ac.length K 0 [(i:Int)] (List.replicate (y.Ah.toNat-1) []) (by omega) (by omega) (by simp);rw[DI.eq_2,ct (dt (by omega)),Oc (by omega) (by omega) (by omega),er];rw[bd (show idx (([]:List Int)::List.replicate (y.Ah.toNat-1) []) (0:Int)=some [] from Tu _ _)];rw[Int.natCast_zero] at e;show(IK _ _ K (0:Int) ([(i:Int)]::List.replicate (y.Ah.toNat-1) [])).bind _=_;rw[bd e];show(Cs K _ y (Gr y i) ()).bind _=_;rw[bd c,bd (My b i (by omega))];have o:((b.l.getD i 0)==((Ca y).length:Int))=(Ca y).all (J6 y (Gr y i) i):=by
    rw[n,Lm Gp y hy (Gr y i) i hi,Ml];rfl
   show cond ((b.l.getD i 0)==((Ca y).length:Int)) _ _=_;rw[o];have p:F5 y i (d+1)=cond ((Ca y).all (J6 y (Gr y i) i)) (F5 y (i+1) d) ((i:Int)::F5 y (i+1) d):=by
    unfold F5;rw[List.range'_succ,List.filter_cons];cases (Ca y).all (J6 y (Gr y i) i)<;>rfl
   rw[p];cases (Ca y).all (J6 y (Gr y i) i) with
   |true=>
    rw[ct rfl,BM (by omega) (by omega),DJ,ih m (i+1) a (by omega) (by omega) (by omega)];rfl
   |false=>
    rw[cf rfl,FK (by simp;omega),BM (by omega) (by omega),DJ,ih m (i+1) (a++[(i:Int)]) (by omega) (by omega) (by simp;omega)];simp
theorem Pc{K:Nat}(y:Ao)(hK:2000≤K):Ft K y=some (if check y≠0 then ([],check y) else (F5 y 0 y.Ac.length,0)):=by
 unfold Ft;rw[bd (H4 hK y)]
 by_cases h:check y=0
 ·rw[h,if_neg (by simp)];have e:=Pb (K:=K) y (Fo h) hK y.Ac.length K 0 [] (by omega) (by have:=(Fo h).n4;omega) (by simp);rw[Int.natCast_zero] at e;show cond false _ _=_;rw[cf rfl,bd e,List.nil_append]
 ·rw[ct (by simpa using h),if_pos h]
end Go.Proofs.YtkljfdkmjdjpfaaGreat
end
