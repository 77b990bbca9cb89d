import Derived.Test.YtkljfdkmjdjpfaaGreatBB1
import Derived.WalkKit
import Derived.KernelRfl
import Derived.WalkSpells
import Derived.WalkLawsBesides
import Derived.Maps.AppendAt
import Derived.OrdersIn
import Derived.RangeFuncIn
import Derived.RangeFuncLeaves
import Derived.RangeFuncRecord
import Derived.RangeFuncSeq
import Derived.Scope
import Derived.DeepKeys3
import Derived.Laws.CopyRow
import Derived.Laws.OwnMore
import Derived.Laws.MakeOwn
import Derived.Laws.IdiomCopy
/-
  The contracts of the functions of the program and of the reference, and the logic that they are proved in: the base that several claims of this seat share.
-/
set_option linter.all false
section
namespace Go.Proofs.YtkljfdkmjdjpfaaGreat
open Go.RowKit Go.WideShapes
theorem V1{f:Operand→Value}{i0 i1 i2 i3 i4:Nat}{a x1 x2 b c:Operand}{v0 v1 v2 v3 v4:Value}(h0:f a=v0)(h1:f x1=v1)(d:f x2=v2)(h3:f b=v3)(e:f c=v4): #[(i0,a),(i1,x1),(i2,x2),(i3,b),(i4,c)].map (fun(i,x)=>(i,f x))= #[(i0,v0),(i1,v1),(i2,v2),(i3,v3),(i4,v4)]:=by simp[h0,h1,d,h3,e]
section
variable{F F' F0:Nat→Prop}{B:List (Option Nat)}{w0 w w' w1 w2:World}{Z Z':Nat→Prop}{L L' M C:List (Option Nat)}{D:Nat→Prop}
theorem BP(a:List Nat)(h:Gw L a M):∀x∈M,x∈L:=h.sub
theorem AJ(a:List Nat)(h:Gw L a M)(b:∀k,F' k→F k):∀k,FU F' M k→F k∨some k∈L:=TH h.sub b
theorem CT(h:∀k,F0 k→F k):∀k,FU F0 C k→F k∨some k∈C:=fun k a=>a.imp (h k) id
theorem Gg{k:Nat}{o:Obj}{r:Option Nat}(h:w.heap[k]?=some o)(g:w.grownBy w' r)(a:some k≠r):w'.heap[k]?=some o:=(g.block k (Array.getElem?_eq_some_iff.1 h).1 a).trans h
theorem E6{k:Nat}{o:Obj}(h:w.heap[k]?=some o)(g:Bg D w w')(a:¬D k):w'.heap[k]?=some o:=(g.block k (Array.getElem?_eq_some_iff.1 h).1 a).trans h
theorem Cp.BB{α:Type}{ev:α→Value}{r n:Nat}{a:List (List Int×α)}(h:Cp ev w r n a)(g:Bg D w w')(b:¬D r):Cp ev w' r n a:=h.of (g.block r h.lt b)
theorem Cp.F2{α:Type}{ev:α→Value}{r n:Nat}{a:List (List Int×α)}(h:Cp ev w r n a)(e:w'.heap[r]?=w.heap[r]?):Cp ev w' r n a:=h.of e
theorem Bk.F2{b:Nat}{t:TypeId}{cs:Array Value}(h:Bk w b t cs)(e:w'.heap[b]?=w.heap[b]?):Bk w' b t cs:=e.trans h
theorem Hp.zz(h:Hp F B w0 L w)(a c:List Nat)(d:Gw L a M)(e:Gw L c C)(f:∀k,F' k→F k∨some k∈C):∀b,ZZ F B Z w0.heap.size L b→¬F' b∧some b∉M:=h.zc d.sub fun k g=>(f k g).imp id (e.sub _)
theorem Hp.mz(h:Hp F B w0 L w)(a b:List Nat)(c:Gw L a M)(d:Gw L b C)(e:∀k,F' k→F k∨some k∈C):Mv w (ZZ F B Z w0.heap.size L) w (ZC F' M):=RZ (h.zz a b c d e)
theorem OB{i:Nat}{a b:List Nat}(h:((a++b).all fun j=> !Nat.beq i j)=true):(a.all fun j=> !Nat.beq i j)=true∧(b.all fun j=> !Nat.beq i j)=true:=by
 rw[List.all_append,Bool.and_eq_true] at h;exact h
theorem Hp.bz(h:Hp F B w0 L w)(i:Nat){b:Nat}(hi:L[i]?=some (some b))(a c:List Nat)(e:Gw L a M)(f:Gw L c C)(g:∀k,F' k→F k∨some k∈C)(d:((a++c).all fun j=> !Nat.beq i j)=true):ZC F' M b:=by
 have h1:=h.Bz (F':=F) i hi a (OB d).1 e (fun _ h=>h);have l:=h.Bz (F':=F) i hi c (OB d).2 f (fun _ h=>h);exact⟨fun m=>l ((g b m).imp id id),fun hm=>h1 (.inr hm)⟩
theorem Hp.rz{α:Type}{e:D4 α}{t:TypeId}{n0:Nat}{A:Option Addr}{c:Nat}{xs:List α}(h:Hp F B w0 L w)(i:Nat)(hi:L[i]?=some (ob A))(a b:List Nat)(d:Gw L a M)(f:Gw L b C)(g:∀k,F' k→F k∨some k∈C)(l:((a++b).all fun j=> !Nat.beq i j)=true)
  (m:AG e t n0 w (ZZ F B Z w0.heap.size L) A c xs):Sl e w (ZC F' M) A c xs:=
 (m.up (h.mz a b d f g)).sl fun k n _=>h.bz i (by rw[hi,n]) a b d f g l
theorem Bj{Z:Nat→Prop}(w:World):Mv w Z w (ZZ FN [] Z w.heap.size L):=Bc (fun _ _=>⟨id,by simp⟩) w
theorem Jj(h:Mv w Z w' Z):Mv w Z w' (ZZ FN [] Z w.heap.size M):=⟨h.size,fun b a c=>⟨.inl ⟨c,a,id,by simp⟩,(h.stay b a c).2⟩⟩
theorem KW{n:Nat}:Mv w (ZZ FN [] Z n M) w (ZZ FN [] Z n [none]):=G4 fun b a _=>a.imp id fun⟨h1,_⟩=>⟨h1,by simp⟩
theorem Lr{n:Nat}{o:Option Nat}(h:o∈M:=by simp):Mv w (ZZ FN [] Z n M) w (ZZ FN [] Z n [o]):=G4 fun b a _=>a.imp id fun⟨h1,c⟩=>⟨h1,fun hm=>by
 rw[List.mem_singleton] at hm;exact c (by rw[hm];exact h)⟩
theorem Ko(g:Bg D w w')(h:∀b,Z b→¬D b):Mv w Z w' Z:=⟨g.size,fun b a c=>⟨a,g.block b c (h b a)⟩⟩
theorem JJ{b:Nat}{o:Option Nat}(h:¬FU FN C b∧some b≠o):¬FU FN C b:=h.1
theorem P1{b:Nat}{o:Option Nat}(h:¬FU F C b∧some b≠o):¬FU F (C++[o]) b:=by
 rintro(h1|h1)
 ·exact h.1 (.inl h1)
 ·rcases List.mem_append.1 h1 with a|a
  ·exact h.1 (.inr a)
  ·exact h.2 (by simpa using a)
theorem EH{b:Nat}{o:Option Nat}(h:¬FU F C b)(k:some b≠o):¬F b∧some b∉C++[o]:=
 ⟨fun h1=>h (.inl h1),fun h1=>by
  rcases List.mem_append.1 h1 with a|a
  ·exact h (.inr a)
  ·exact k (by simpa using a)⟩
theorem Bg.lf{o:Option Nat}(g:Bg (FU F (C++[o])) w w'):Bg (FU (FU F C) [o]) w w':=g.mono fun k h=>by
 rcases h with h|h
 ·exact .inl (.inl h)
 ·rcases List.mem_append.1 h with a|a
  ·exact .inl (.inr a)
  ·exact .inr a
theorem Bg.P2{o:Option Nat}(g:Bg (FU F C) w w'):Bg (FU (FU F C) [o]) w w':=g.mono fun _ h=>.inl h
theorem Bg.cl{M1 M2:List (Option Nat)}(g:Bg (FU (FU F M1) M2) w w'):Bg (FU F (M1++M2)) w w':=g.fl
theorem Hp.IW(h:Hp F B w0 L w)(b:List Nat)(c:Gw L b C)(d:∀k,F0 k→F k):∀k,FU F0 C k→k<w.heap.size:=fun k a=>by
 rcases a with a|a
 ·exact Nat.lt_of_lt_of_le (h.ff k (d k a)) h.sz
 ·exact(h.lo k (c.sub _ a)).1
theorem Hp.R4(h:Hp F B w0 L w)(i:Nat){k:Nat}(hi:L[i]?=some (some k))(a:List Nat)(b:(a.all fun j=> !Nat.beq i j)=true)(c:Gw L a C):k<w.heap.size∧¬FU F C k:=
 ⟨(h.lo k (List.mem_of_getElem? hi)).1,h.Bz (F':=F) i hi a b c fun _ h=>h⟩
theorem Hp.C5{x c:Option Nat}(h:Hp F B w0 L w)(i:Nat)(hi:L[i]?=some x)(a:List Nat)(e:(a.all fun j=> !Nat.beq i j)=true)(f:Gw L a M)(g:∀y∈B,y=c∨y∈M):∀k,x=some k→(c=some k∨w0.heap.size≤k)∧k<w.heap.size:=fun k d=>by
 have h1:=h.lo k (List.mem_of_getElem? (by rw[hi,d]));refine⟨?_,h1.1⟩;rcases Nat.lt_or_ge k w0.heap.size with b|b
 ·left;rcases g _ (h1.2.2 b) with h3|h3
  ·exact h3.symm
  ·exact absurd (.inr h3) (h.Bz (F':=F) i (by rw[hi,d]) a e f fun _ h=>h)
 ·exact .inr b
theorem BM.snoc{o:Option Nat}(h:BM F C w)(g:∀k,o=some k→k<w.heap.size∧¬FU F C k):BM F (C++[o]) w:=by
 refine⟨fun k p=>?_,fun i j x l hi e=>?_,h.ff⟩
 ·rcases List.mem_append.1 p with h1|h1
  ·exact h.lt k h1
  ·have c:=g k (by rw[List.mem_singleton] at h1;exact h1.symm);exact⟨c.1,fun q=>c.2 (.inl q)⟩
 ·have key:∀(a b:Nat),a<C.length→¬b<C.length→(C++[o])[a]?=some (some x)→(C++[o])[b]?=some (some x)→False:=fun a b r s h1 c=>by
   rw[List.getElem?_append_left r] at h1;rw[List.getElem?_append_right (by omega)] at c;have m:b-C.length=0:=by
    rcases Nat.eq_zero_or_pos (b-C.length) with h|h
    ·exact h
    ·rw[List.getElem?_eq_none (by simp;omega)] at c;cases c
   rw[m] at c;have n:o=some x:=by simpa using c
   exact(g x n).2 (.inr (List.mem_of_getElem? h1))
  by_cases f:i<C.length
  ·by_cases d:j<C.length
   ·rw[List.getElem?_append_left f] at hi;rw[List.getElem?_append_left d] at e;exact h.ap i j x l hi e
   ·exact key i j f d hi e
  ·by_cases d:j<C.length
   ·exact key j i d f e hi
   ·have t:(C++[o]).length=C.length+1:=by simp
    have h1:=(List.getElem?_eq_some_iff.1 hi).1;have c:=(List.getElem?_eq_some_iff.1 e).1;omega
theorem BM.keep{o o':Option Nat}(h:BM F C w)(d:w.heap.size≤w1.heap.size)(a:∀k,o=some k→k<w1.heap.size∧¬FU F C k)(hy:∀k,o'=some k→(o=some k∨w1.heap.size≤k)∧k<w2.heap.size):∀k,o'=some k→k<w2.heap.size∧¬FU F C k:=fun k b=>by
 obtain⟨h1,c⟩:=hy k b;refine⟨c,?_⟩;rcases h1 with h1|h1
 ·exact(a k h1).2
 ·rintro(h3|h3)
  ·have:=h.ff k h3;omega
  ·have:=(h.lt k h3).1;omega
def Vo(L:List (Option Nat))(n:Nat):List (Option Nat)→Prop
 |[]=>True
 |x::M=>((∃j:Nat,L[j]?=some x)∨∀k,x=some k→some k∈L∨n≤k)∧Vo L n M
theorem Cv{n:Nat}:∀{M:List (Option Nat)},Vo L n M→∀k,some k∈M→some k∈L∨n≤k
 |[],_,_,h=>by cases h
 |x::M,h,k,a=>by
  rcases List.mem_cons.1 a with e|a
  ·rcases h.1 with⟨j,b⟩|h1
   ·left;rw[e];exact List.mem_of_getElem? b
   ·exact h1 k e.symm
  ·exact Cv h.2 k a
theorem DJ{y:Option Nat}(i:Nat)(h:y∈M):∀x∈L.set i y,x∈L∨x∈M:=fun x a=>by
 rcases List.mem_or_eq_of_mem_set a with h1|e
 ·exact .inl h1
 ·exact .inr (by rw[e];exact h)
theorem IA{o:Option Nat}:∀b,ZC F [o] b→¬F b∧some b≠o:=fun _ h=>⟨h.1,fun e=>h.2 (by rw[e];exact List.mem_singleton_self _)⟩
end
theorem OC{F:Nat→Prop}{B L:List (Option Nat)}{n:Nat}{Z Z':Nat→Prop}(h:∀b,Z b→Z' b):∀b,ZZ F B Z n L b→ZZ F B Z' n L b:=fun b a=>a.imp (fun⟨h1,c,h3⟩=>⟨h1,h b c,h3⟩) id
def IX{α:Type}(e:D4 α)(w:World)(Z:Nat→Prop)(A:Option Addr)(c:Nat)(xs:List α):Prop:=
 xs.length≤c∧(A=none→c=0)∧∃Be,R2 e w Z Be xs∧Rz w ZA A Be.flatten
section
variable{α:Type}{e:D4 α}{t:TypeId}{n0:Nat}{w w':World}{Z Z':Nat→Prop}{A:Option Addr}{c:Nat}{xs:List α}
theorem IX.ext(h:IX e w Z A c xs)(g:Ext w w')(hm:Mv w Z w' Z'):IX e w' Z' A c xs:=⟨h.1,h.2.1,h.2.2.imp fun _ h=>⟨h.1.mv hm,h.2.mv (Ah g)⟩⟩
theorem AG.n(h:AG e t n0 w Z A c xs):IX e w Z A c xs:=by
 have a:=h.all;obtain⟨Be,h3,b⟩:=h;refine⟨a.1,a.2.1,Be,h3,?_⟩;have d:=b.rd;exact Np d fun _ _ _=>trivial
theorem Sl.n(h:Sl e w Z A c xs):IX e w Z A c xs:=⟨h.1,h.2.1,h.2.2.imp fun _ h=>⟨h.1,h.2.mv Kj⟩⟩
theorem Sl.HC(a:∀w Z w' Z' cs x,e.R w Z cs x→e.R w' Z' cs x)(h:Sl e w Z A c xs):IX e w Z' A c xs:=⟨h.1,h.2.1,h.2.2.imp fun _ h=>⟨h.1.free a,h.2.mv Kj⟩⟩
theorem AG.HC(a:∀w Z w' Z' cs x,e.R w Z cs x→e.R w' Z' cs x)(h:AG e t n0 w Z A c xs):IX e w Z' A c xs:=h.all.HC a
end
section
variable{P:Program}{a:Act}{w:World}{dst:Option Tmp}{ty:TypeId}{pos:String}{B6:Array Edge}{g:Option (Nat×Bool)}
theorem Gh{α:Type}{e:D4 α}{s x:Operand}{t j:TypeId}{z:Value}{sz bytes:Nat}(ht:P.underlying t=some (.slice j))(hi:(P.info? j).map (fun i=>(i.zero,i.size,i.bytes))=some (some z,sz,bytes))(l:z.cells.size=sz)(m:e.sz=sz)(h0:0<sz)
  {n0:Nat}{Z:Nat→Prop}{A B:Option Addr}{c d n:Nat}{xs ys:List α}(u:a.eval s=.slice A n c)(y:xs.length=n)(aA:a.eval x=.slice B ys.length d)(h:AG e j n0 w Z A c xs)(hy:IX e w Z B d ys)
  (o:xs.length+ys.length≤maxLen)(b:(xs.length+ys.length)*bytes≤140737488355328)(f:n0≤w.heap.size):
  BI P ⟨dst,.call {callee:=.builtin .append,args:= #[s,x],argTypes:= #[t,t]},ty,pos,B6,g⟩ a w (fun v w'=>∃r aB,v=.slice r (xs++ys).length aB∧w.grownBy w' (ob A)∧(∀k,ob r=some k→(ob A=some k∨w.heap.size≤k)∧k<w'.heap.size)∧
   ∃Be p,R2 e w Z Be xs∧R2 e w Z p ys∧DW w' n0 j e.sz r (xs++ys).length aB (Be++p).flatten):=by
 by_cases q:ys=[]
 ·refine TL ht hi l m h0 u y aA h ?_ o b f;subst q;exact⟨hy.1,hy.2.1,[],trivial,.inl rfl⟩
 ·obtain⟨_,_,Be,h1,aC⟩:=hy;exact Kk ht hi l m h0 u y aA h ⟨Be,h1,aC⟩ o b f q
end
section
variable{α:Type}{e:D4 α}{t:TypeId}{n0:Nat}{w w':World}{Z Z':Nat→Prop}{A:Option Addr}{c:Nat}{xs:List α}
theorem AG.Po(a:∀w Z w' Z' cs x,e.R w Z cs x→e.R w' Z' cs x)(h:AG e t n0 w Z A c xs):AG e t n0 w Z' A c xs:=by
 obtain⟨Be,h1,b⟩:=h;exact⟨Be,h1.free a,b⟩
theorem AG.Pp(h:AG e t n0 w Z A c xs):A=none→c=0:=h.all.2.1
theorem AG.keep(h:AG e t n0 w Z A c xs)(hm:Mv w Z w' Z')(d:∀k,ob A=some k→w'.heap[k]?=w.heap[k]?):AG e t n0 w' Z' A c xs:=by
 obtain⟨Be,h1,a⟩:=h;refine⟨Be,h1.mv hm,a.1,a.2.imp id ?_⟩;rintro⟨b,cap,cur,f,h3,g,i⟩;cases f;exact⟨b,_,cur,rfl,h3,(d b rfl).trans g,i⟩
end
def CL{α:Type}(xs:List α)(l h:Int):List α:=(xs.take h.toNat).drop l.toNat
def NA(n:Nat)(l h:Int):Option Unit:=if 0≤l∧l≤h∧h≤(n:Int) then some () else none
theorem MK{α:Type}{n:Nat}{l h:Int}{f:Unit→Option α}{r:α}(a:(NA n l h).bind f=some r):(0≤l∧l≤h∧h≤(n:Int))∧f ()=some r:=by
 unfold NA at a;split at a
 ·exact⟨by assumption,a⟩
 ·cases a
def SB(a:Act)(o:Option Operand)(v d:Int):Prop:=(o=none∧v=d)∨∃x k,o=some x∧a.eval x=.int k v
theorem TM{a:Act}{d:Int}:SB a none d d:=.inl ⟨rfl,rfl⟩
theorem TN{a:Act}{x:Operand}{k:IntKind}{v d:Int}(h:a.eval x=.int k v):SB a (some x) v d:=.inr ⟨x,k,rfl,h⟩
theorem JK{P:Program}(w:World)(k:IntKind)(i:Int)(y:Nat)(code:BoundsCode)(h0:0≤i)(h1:i≤(y:Int)):(Instr.sliceBound (.int k i) y code).run P w=.ok i.toNat w:=by
 simp[Instr.sliceBound,asIntOf,h0,h1]
section
variable{P:Program}{a:Act}{w:World}{dst:Option Tmp}{ty:TypeId}{pos:String}{B6:Array Edge}{g:Option (Nat×Bool)}
theorem P3{α:Type}{e:D4 α}{Z:Nat→Prop}{xs:List α}{t v:TypeId}{sz:Nat}{x:Operand}{A:Option Addr}{c:Nat}{lo hi:Option Operand}{l h:Int}(ht:P.underlying t=some (.slice v))(aI:(P.info? v).map (·.size)=some sz)(z:e.sz=sz)
  (aJ:a.eval x=.slice A xs.length c)(i:SB a lo l 0)(aA:SB a hi h xs.length)(aK:Sl e w Z A c xs)(aL:0≤l∧l≤h∧h≤(xs.length:Int)):
  BI P ⟨dst,.slice t x lo hi none,ty,pos,B6,g⟩ a w (fun u w'=>(∃aB aC,u=.slice aB (CL xs l h).length aC∧Sl e w Z aB aC (CL xs l h))∧w'=w):=by
 subst z;obtain⟨aR,m,Be,n,h3⟩:=aK;obtain⟨aS,aT,aU⟩:=aL;have hlen:(CL xs l h).length=h.toNat-l.toNat:=by
  unfold CL;rw[List.length_drop,List.length_take];omega
 have p:(Instr.sliceAt t (.slice A xs.length c) (lo.map a.eval) (hi.map a.eval) none).run P w=.ok (.slice (if c=l.toNat then A else A.map (·.add (l.toNat*e.sz))) (h.toNat-l.toNat) (c-l.toNat)) w:=by
  have aM:(Instr.sliceBounds true xs.length c (lo.map a.eval) (hi.map a.eval) none).run P w=.ok (l.toNat,h.toNat,c) w:=by
   unfold Instr.sliceBounds;rcases aA with⟨rfl,rfl⟩|⟨y,k,rfl,hy⟩
   ·rcases i with⟨rfl,rfl⟩|⟨aN,k',rfl,d⟩
    ·simp
    ·simp[d,JK w k' l xs.length _ (by omega) (by omega)]
   ·have aD:=fun code=>JK (P:=P) w k h c code (by omega) (by omega);rcases i with⟨rfl,rfl⟩|⟨aN,k',rfl,d⟩
    ·simp[hy,aD]
    ·simp[hy,d,aD,JK w k' l h.toNat _ (by omega) (by omega)]
  simp[Instr.sliceAt,Instr.slice,underlying,program,Sem.run,ht,aM,Ip aI]
 refine(Sf aJ rfl rfl p).mono ?_;rintro u w' ⟨rfl,rfl⟩;refine⟨⟨_,_,by rw[hlen],?_⟩,rfl⟩;have q:=(n.take h.toNat).drop l.toNat;have aE:((Be.take h.toNat).drop l.toNat).flatten=[]∨(0<e.sz∧l.toNat<h.toNat):=by
  rcases Nat.eq_zero_or_pos e.sz with h0|h0
  ·left;exact List.eq_nil_of_length_eq_zero (by rw[q.Iw,h0,Nat.mul_zero])
  ·rcases Nat.lt_or_ge l.toNat h.toNat with r|r
   ·exact .inr ⟨h0,r⟩
   ·left;exact List.eq_nil_of_length_eq_zero (by rw[q.Iw,List.length_drop,List.length_take,show min h.toNat xs.length-l.toNat=0 by omega,Nat.zero_mul])
 refine⟨by rw[hlen];omega,fun s=>?_,_,q,?_⟩
 ·split at s
  ·have:=m s;omega
  ·have:=m (by simpa using s);omega
 ·rcases aE with h0|⟨h0,r⟩
  ·exact .inl h0
  ·rcases h3 with aO|⟨b,o,rfl,aP,aF,f⟩
   ·left;have aG:=n.Iw;rw[aO] at aG;simp only[List.length_nil] at aG;have aV:0<xs.length*e.sz:=Nat.mul_pos (by omega) h0;omega
   ·right;have aH:¬c=l.toNat:=by omega
    refine⟨b,o+l.toNat*e.sz,by simp[aH,Fp],aP,aF,fun j u hu=>?_⟩;rw[Nat.add_assoc];refine f _ _ ?_;rw[←(n.take h.toNat).RY h0,List.getElem?_drop] at hu;have aQ:Be.flatten=(Be.take h.toNat).flatten++(Be.drop h.toNat).flatten:=by rw[←List.flatten_append,List.take_append_drop]
    rw[aQ,List.getElem?_append_left (List.getElem?_eq_some_iff.1 hu).1];exact hu
end
def Kp(n:Int)(b:Nat):Option Unit:=if 0≤n∧n*b≤140737488355328∧n≤140737488355328 then some () else none
theorem Hj{α:Type}{n:Int}{b:Nat}{f:Unit→Option α}{r:α}(h:(Kp n b).bind f=some r):(0≤n∧n*b≤140737488355328∧n≤140737488355328)∧f ()=some r:=by
 unfold Kp at h;split at h
 ·exact⟨by assumption,h⟩
 ·cases h
theorem Kq(z:Array Value):∀m:Nat,(madeCells z (m*z.size)).toList=(List.replicate m z.toList).flatten
 |0=>by simp[madeCells]
 |m+1=>by
  have ih:=Kq z m;have e:∀k,(madeCells z k).toList=(List.range k).map (z[· %z.size]!):=fun k=>by simp[madeCells]
  rw[e] at ih⊢;rw[Nat.add_mul,Nat.one_mul,List.range_add,List.map_append,ih,List.replicate_succ',List.flatten_append]
  congr 1
  simp only[List.map_map,List.flatten_cons,List.flatten_nil,List.append_nil];refine List.ext_getElem (by simp) fun i h1 a=>?_;simp only[List.getElem_map,List.getElem_range,Function.comp];have hi:i<z.size:=by simpa using a
  rw[Nat.add_comm,Nat.add_mul_mod_self_right,Nat.mod_eq_of_lt hi];simp[hi]
theorem R2.Vp{α:Type}{e:D4 α}{w:World}{Z:Nat→Prop}{c:List Value}{x:α}(h:e.R w Z c x):∀m:Nat,R2 e w Z (List.replicate m c) (List.replicate m x)
 |0=>trivial
 |m+1=>⟨h,R2.Vp h m⟩
section
variable{P:Program}{a:Act}{w:World}{dst:Option Tmp}{ty:TypeId}{pos:String}{B6:Array Edge}{g:Option (Nat×Bool)}
theorem HR{α:Type}{e:D4 α}{z:α}{zc:List Value}{n0:Nat}{t j:TypeId}{d:Value}{sz bytes:Nat}{n:Int}{x y:Operand}{m o:IntKind}{b':Nat}(ht:P.underlying t=some (.slice j))(hi:(P.info? j).map (fun i=>(i.zero,i.size,i.bytes))=some (some d,sz,bytes))
  (p:d.cells.toList=zc)(c:e.sz=sz)(aB:a.eval x=.int m n)(hy:a.eval y=.int o n)(hm:0≤n∧n*b'≤140737488355328∧n≤140737488355328)(q:∀w Z,e.R w Z zc z)(aC:n0≤w.heap.size)(aF:bytes≤b'):
  BI P ⟨dst,.makeSlice t x y,ty,pos,B6,g⟩ a w (fun u w'=>∃b,u=.slice (some ⟨b,0,none⟩) (List.replicate n.toNat z).length n.toNat∧w.heap.size≤b∧b<w'.heap.size∧Ext w w'∧∀Z,AG e j n0 w' Z (some ⟨b,0,none⟩) n.toNat (List.replicate n.toNat z)):=by
 subst p;subst c;cases f:P.info? j with
 |none=>simp[f] at hi
 |some i=>
  rw[f] at hi;simp only[Option.map_some,Option.some.injEq,Prod.mk.injEq] at hi;obtain⟨h1,r,h3⟩:=hi;obtain⟨s,aG,aH⟩:=hm;have v:d.cells.toList.length=e.sz:=e.len (q w ZA);have c:d.cells.size=e.sz:=by simpa using v
  have aA:(i.bytes:Int)*n≤281474976710656:=by
   rw[h3];have aD:(bytes:Int)*n≤(b':Int)*n:=Int.mul_le_mul_of_nonneg_right (by omega) s;rw[Int.mul_comm (b':Int)] at aD;omega
  have aE:=run_make (P:=P) w t j i d ht f h1 m o n n s (Int.le_refl _) aA (by omega);refine(IP (S:=Instr.makeSlice t (a.eval x) (a.eval y)) rfl (by rw[aB,hy];exact aE)).mono fun u w' h=>?_;obtain⟨rfl,rfl⟩:=h;have l:=H8 w j (madeCells d.cells (n.toNat*i.size));refine⟨w.heap.size,by rw[List.length_replicate],Nat.le_refl _,by rw[l.sz];exact Nat.lt_succ_self _,l.gr,fun Z=>⟨_,R2.Vp (q _ Z) n.toNat,?_⟩⟩;rw[List.length_replicate];have k:(List.replicate n.toNat d.cells.toList).flatten.length=n.toNat*e.sz:=by rw[←Kq,←c];simp[size_madeCells]
  refine⟨k,.inr ⟨w.heap.size,n.toNat,_,rfl,aC,l.bk,Nat.le_refl _,by simp only[maxLen];omega,by rw[size_madeCells,r],?_⟩⟩;rw[r,←c,Kq,List.take_of_length_le (by rw[k,c];exact Nat.le_refl _)]
end
def Kr:Int⊕Bool→Value
 |.inl n=>.int .i64 n
 |.inr b=>.bool b
def LQ(l:List (Int⊕Bool)):Value:=.agg (l.map Kr).toArray
def Le:Int⊕Bool→Bool
 |.inl _=>true
 |.inr _=>false
def HD:List (Int⊕Bool)→List (Int⊕Bool)→Bool
 |[],[]=>true
 |.inl a::l,.inl b::m=>a==b&&HD l m
 |.inr a::l,.inr b::m=>a==b&&HD l m
 |_,_=>false
def Rg(P:Program)(t:TypeId)(a:List Bool):Prop:=∀(w:World) (x y:List (Int⊕Bool)),x.map Le=a→y.map Le=a→(Op.equal t (LQ x) (LQ y)).run P w=.ok (HD x y) w
def Me(a b:TypeId):Nat→List Field→List Bool→Bool
 |_,[],[]=>true
 |i,f::c,k::d=>f.name !="_"&&Nat.beq f.type (cond k a b)&&Nat.beq f.offset i&&Me a b (i+1) c d
 |_,_,_=>false
section
variable{P:Program}{w:World}
theorem JL{e:TypeId}(he:One P e){cs:Array Value}{i:Nat}{v:Value}(h:cs[i]?=some v):(part e cs i).run P w=.ok v w:=by
 simp only[part,Sem.run_bind,I5 he,Result.andThen_ok,h];rfl
theorem ML{j l:TypeId}(h1:One P j)(u1:P.underlying j=some (.int .i64))(t:One P l)(u:P.underlying l=some .bool)(d:Nat):∀(o:List Field) (b:List Bool) (x y a c:List (Int⊕Bool)),a.length=c.length→Me j l a.length o b=true→x.map Le=b→y.map Le=b→
  (Op.eqFields (d+1) ((a++x).map Kr).toArray ((c++y).map Kr).toArray o).run P w=.ok (HD x y) w
 |[],[],[],[],_,_,_,_,_,_=>by simp[Op.eqFields,HD]
 |[],_::_,_,_,_,_,_,h,_,_=>by simp[Me] at h
 |_::_,[],_,_,_,_,_,h,_,_=>by simp[Me] at h
 |[],[],_::_,_,_,_,_,_,h,_=>by simp at h
 |[],[],_,_::_,_,_,_,_,_,h=>by simp at h
 |_::_,_::_,[],_,_,_,_,_,h,_=>by simp at h
 |_::_,_::_,_,[],_,_,_,_,_,h=>by simp at h
 |f::o,k::b,e::x,g::y,a,c,v,z,p,hy=>by
  simp only[Me,Bool.and_eq_true] at z;obtain⟨⟨⟨r,ht⟩,s⟩,aC⟩:=z;have r:f.name≠"_":=by simpa using r
  have ht:=Nat.eq_of_beq_eq_true ht;have s:=Nat.eq_of_beq_eq_true s;simp only[List.map_cons,List.cons.injEq] at p hy;have ih:=ML h1 u1 t u d o b x y (a++[e]) (c++[g]) (by simp[v]) (by simpa using aC) p.2 hy.2;rw[List.append_assoc,List.append_assoc] at ih;simp only[List.singleton_append] at ih;have aA:((a++e::x).map Kr).toArray[f.offset]?=some (Kr e):=by rw[s];simp
  have aB:((c++g::y).map Kr).toArray[f.offset]?=some (Kr g):=by rw[s,v];simp
  cases k with
  |true=>
   cases e with
   |inr _=>simp[Le] at p
   |inl m=>
    cases g with
    |inr _=>simp[Le] at hy
    |inl n=>
     have ht:f.type=j:=ht;have i:One P f.type:=by rw[ht];exact h1
     have q:=run_equalIn_int (P:=P) w d f.type .i64 .i64 m n (by rw[ht];exact u1);simp only[Op.eqFields,r,ne_eq,not_false_eq_true,if_true,Sem.run_bind,JL i aA,JL i aB,Kr,q,Result.andThen_ok,HD];cases aD:(m==n)
     ·simp
     ·simpa using ih
  |false=>
   cases e with
   |inl _=>simp[Le] at p
   |inr m=>
    cases g with
    |inl _=>simp[Le] at hy
    |inr n=>
     have ht:f.type=l:=ht;have i:One P f.type:=by rw[ht];exact t
     have q:=run_equalIn_bool (P:=P) w d f.type m n (by rw[ht];exact u);simp only[Op.eqFields,r,ne_eq,not_false_eq_true,if_true,Sem.run_bind,JL i aA,JL i aB,Kr,q,Result.andThen_ok,HD];cases aD:(m==n)
     ·simp
     ·simpa using ih
theorem Oo{K c d:Nat}{a:Array Field}{e:List Bool}(hK:P.underlying K=some (.struct a))(f:P.stoodInHeld K=false)(g:Me c d 0 a.toList e=true)(h1:One P c)(u1:P.underlying c=some (.int .i64))(i:One P d)(j:P.underlying d=some .bool):Rg P K e:=by
 intro w x y l hy;have b:P.fieldsOf K=a:=by simp[Program.fieldsOf,hK]
 have h:=run_equalIn_struct (P:=P) w 9999 K (x.map Kr).toArray (y.map Kr).toArray (by rw[b];exact hK) f;have k:=ML (P:=P) (w:=w) h1 u1 i j 9998 a.toList e x y [] [] rfl g l hy;simp only[List.nil_append] at k;rw[b,k] at h;exact h
end
section
variable{P:Program}{a:Act}{w:World}{dst:Option Tmp}{ty:TypeId}{pos:String}{B6:Array Edge}{g:Option (Nat×Bool)}
theorem Pq{x y:Operand}{v1 v2:Value}{x1 x2:List (Int⊕Bool)}{b:List Bool}{t d:TypeId}(e:Rg P t b)(c:P.eqGuardType P.depth t=false)(f:a.eval x=v1)(hy:a.eval y=v2)(h1:v1=LQ x1)(h:v2=LQ x2)(i:x1.map Le=b)(j:x2.map Le=b):
  BI P ⟨dst,.binOp .eql t x y d,ty,pos,B6,g⟩ a w (fun u w'=>u=.bool (HD x1 x2)∧w'=w):=by
 refine Pe f hy ?_;subst h1;subst h;have h3:=e w x1 x2 i j;have k:(eqGuard .eql t x y (LQ x1) (LQ x2)).run P w=.ok () w:=by
  simp[eqGuard,LQ,program,Sem.run,c]
 simp only[Sem.run_bind,k,Result.andThen_ok];show(do pure (Value.bool (←Op.equal t (LQ x1) (LQ x2))):Sem Value).run P w=_;simp only[Sem.run_bind,h3,Result.andThen_ok,Sem.run_pure]
theorem R5{x y:Operand}{p q:Option Addr}{t u:TypeId}{b:Bool}(c:a.eval x=.pointer p)(hy:a.eval y=.pointer q)(d:(Op.equal t (.pointer p) (.pointer q)).run P w=.ok b w):BI P ⟨dst,.binOp .eql t x y u,ty,pos,B6,g⟩ a w (fun v w'=>v=.bool b∧w'=w):=
 Cq (by simp[execOp,c,hy,binOp,d,eqGuard])
theorem NB {α:Type} {e:D4 α} {aA t:TypeId} {x y:Operand} {b o k p c:Nat} {v:Value} {n0:Nat} {Z:Nat→Prop} {A:Option Addr} {xs:List α} {z z':α} {l:List Value} {n:Nat}
  (aB:AG e aA n0 w Z A c xs) (aD:xs[k]?=some z) (aM:A=some ⟨b,o,none⟩) (aN:p=o+k*e.sz) (aO:a.eval x=.pointer (some ⟨b,p,none⟩)) (hy:a.eval y=v) (aP:(P.info? t).map (·.size)=some n) (aQ:v.cells.toList=l) (aR:l.length=n)
  (h1:∀u∈l,u.oneCell'=true) (aE:e.R w Z l z'):
  BI P ⟨dst,.store t x y,ty,pos,B6,g⟩ a w (fun _ w'=>w.grownBy w' (ob A)∧∃Be,R2 e w Z Be (xs.set k z')∧DW w' n0 aA e.sz A (xs.set k z').length c Be.flatten):=by
 obtain⟨Be,f,aS⟩:=aB;obtain⟨a2,aW,aF,aX⟩:=f.get aD;have aY:=e.len aF;have aG:=e.len aE;subst aM;subst aN;have aH:k<xs.length:=(List.getElem?_eq_some_iff.1 aD).1;have hlen:=f.len;have h:=f.lens;rcases aS.2 with⟨aI,h0⟩|⟨a3,cap,cur,aI,aJ,aT,q,aK,aC,i⟩
 ·omega
 ·cases aI;have aZ:k*e.sz+e.sz≤xs.length*e.sz:=by
   have:(k+1)*e.sz≤xs.length*e.sz:=Nat.mul_le_mul_right _ aH;rw[Nat.add_mul,Nat.one_mul] at this;exact this
  have a0:xs.length*e.sz≤c*e.sz:=Nat.mul_le_mul_right _ q;have aL:Bk w b aA cur:=aT;refine(Bd (Cf:=setCells cur (0+k*e.sz) l) aO hy aP aL aQ aR (by omega) h1 rfl).mono ?_;rintro _ w' ⟨s1,s2,aU⟩;have d:=f.set aE k;refine⟨aU,_,d,by rw[d.Iw],.inr ⟨b,c,setCells cur (0+k*e.sz) l,rfl,aJ,s2,by rw[List.length_set];exact q,aK,by rw[EF 0];exact aC,?_⟩⟩;rw[List.length_set];rcases Nat.eq_zero_or_pos e.sz with h0|h0
  ·have aV:(Be.set k l).flatten=[]:=List.eq_nil_of_length_eq_zero (by rw[d.Iw,h0,Nat.mul_zero]);rw[aV,h0,Nat.mul_zero,List.take_zero]
  ·refine List.ext_getElem? fun j=>?_;rw[Nx aG h0 k Be j h (by omega),List.getElem?_take,Array.getElem?_toList,GD _ _ _ _ (by omega)];have r:∀j:Nat,Be.flatten[j]?=if j<xs.length*e.sz then cur[j]? else none:=fun j=>by
    rw[←i,List.getElem?_take,Array.getElem?_toList]
   by_cases m:j<xs.length*e.sz
   ·rw[if_pos m]
    by_cases s:k*e.sz≤j∧j<k*e.sz+e.sz
    ·rw[if_pos (by omega),if_pos s,show j-(0+k*e.sz)=j-k*e.sz by omega]
    ·rw[if_neg (by omega),if_neg s,r,if_pos m]
   ·rw[if_neg m,if_neg (by omega),r,if_neg m]
theorem Gi{α:Type}{e:D4 α}{f t:TypeId}{x y:Operand}{b o k p c:Nat}{v:Value}{n0:Nat}{Z:Nat→Prop}{A:Option Addr}{xs:List α}{z z':α}{l:List Value}{n:Nat}
  (d:AG e f n0 w Z A c xs)(i:xs[k]?=some z)(j:A=some ⟨b,o,none⟩)(m:p=o+k)(q:a.eval x=.pointer (some ⟨b,p,none⟩))(hy:a.eval y=v)(r:(P.info? t).map (·.size)=some n)(s:v.cells.toList=l)(aA:l.length=n)
  (h1:∀u∈l,u.oneCell'=true)(aB:e.R w Z l z')(h:e.sz=1:=by rfl):
  BI P ⟨dst,.store t x y,ty,pos,B6,g⟩ a w (fun _ w'=>w.grownBy w' (ob A)∧∃Be,R2 e w Z Be (xs.set k z')∧DW w' n0 f e.sz A (xs.set k z').length c Be.flatten):=
 NB d i j (by rw[h,Nat.mul_one];exact m) q hy r s aA h1 aB
end
theorem Ks{l:List Int}{i:Nat}{x:Int}(h:l[i]?=some x):(l.map fun n=>Value.int .i64 n)[i]?=some (.int .i64 x):=by rw[List.getElem?_map,h];rfl
theorem AG.UW {α:Type} {e:D4 α} {t:TypeId} {n0:Nat} {w:World} {Z:Nat→Prop} {A:Option Addr} {c k:Nat} {xs:List α} {x:α} (h:AG e t n0 w Z A c xs) (h0:0<e.sz) (f:xs[k]?=some x):
  ∃b o cs,A=some ⟨b,o,none⟩∧e.R w Z cs x∧Rz w ZA (some ⟨b,o+k*e.sz,none⟩) cs:=by
 obtain⟨Be,h1,g⟩:=h;have p:Sl e w ZA A c xs:=AG.all (t:=t) (n0:=n0) (Z:=Z) ⟨Be,h1,g⟩;obtain⟨b,o,Cf,i,s,z⟩:=p.elem h0 f;obtain⟨l,v,a,m⟩:=h1.get f;refine⟨b,o,l,i,a,?_⟩;have hlen:l.length=e.sz:=e.len a;have q:=g.rd;rcases q.2 with h3|⟨b',o',d,_,n,r⟩
 ·have:=h1.Iw;rw[h3] at this;have y:k<xs.length:=(List.getElem?_eq_some_iff.1 f).1;have aA:0<xs.length*e.sz:=Nat.mul_pos (by omega) h0;simp at this;omega
 ·rw[i] at d;cases d;refine .inr ⟨b,_,rfl,trivial,n,fun j u hu=>?_⟩;rw[Nat.add_assoc];refine r _ _ ?_;rw[←m,List.getElem?_take] at hu;split at hu
  ·simpa using hu
  ·cases hu
theorem AG.GV{α:Type}{e:D4 α}{t:TypeId}{n0:Nat}{w:World}{Z:Nat→Prop}{A:Option Addr}{c k:Nat}{xs:List α}{x:α}(h:AG e t n0 w Z A c xs)(h1:e.sz=1)(d:xs[k]?=some x):
  ∃b o cs,A=some ⟨b,o,none⟩∧e.R w Z cs x∧Rz w ZA (some ⟨b,o+k,none⟩) cs:=by
 obtain⟨b,o,cs,f,h3,a⟩:=h.UW (by omega) d;rw[h1,Nat.mul_one] at a;exact⟨b,o,cs,f,h3,a⟩
def TC(w:World)(D:Nat→Prop)(M:World→Prop):Nat→World→Prop
 |0,w'=>Ext w w'
 |_+1,w'=>Bg D w w'∧M w'
section
variable{w w' Bf:World}{D:Nat→Prop}{M:World→Prop}{ph:Nat}
theorem F3(h:TC w D M ph w'):Bg D w w':=by
 cases ph with
 |zero=>exact Gb h
 |succ=>exact h.1
theorem BG(h:TC w D M ph w')(a:ph=0):Ext w w':=by subst a;exact h
theorem HE(c:∀a b,M a→Ext a b→M b)(h:TC w D M ph w')(g:Ext w' Bf):TC w D M ph Bf:=by
 cases ph with
 |zero=>exact Ext.trans h g
 |succ=>exact⟨(show Bg D w w' from h.1).trans (Gb g),c _ _ h.2 g⟩
theorem Ib(h:TC w D M ph w')(a:ph=0)(g:Bg D w' Bf)(b:M Bf):TC w D M (ph+1) Bf:=by
 subst a;exact⟨(Gb h).trans g,b⟩
theorem Ij{r:Option Nat}(g:w.grownBy w' r):Bg (FU FN [r]) w w':=Iy g fun k e=>.inr (by rw[e];exact List.mem_singleton_self _)
end
section
variable{F F':Nat→Prop}{B:List (Option Nat)}{w0 w w':World}{L M:List (Option Nat)}
theorem Hp.Pr{Z:Nat→Prop}{a:Nat}(h:Hp F B w0 L w)(c:w.heap.size≤a):Mv w' (ZZ FN [] FN a []) w' (ZZ F B Z w0.heap.size L):=G4 fun b d _=>by
 rcases d with⟨_,e,_⟩|⟨h1,_⟩
 ·exact e.elim
 ·refine .inr ⟨Nat.le_trans h.sz (Nat.le_trans c h1),fun hm=>?_⟩;have:=(h.lo b hm).1;omega
theorem Hp.R6{α:Type}{e:D4 α}{t:TypeId}{A:Option Addr}{c:Nat}{xs:List α}{Z Z':Nat→Prop}(h:Hp F B w0 L w)(b:∀w Z w' Z' cs x,e.R w Z cs x→e.R w' Z' cs x)(a:AG e t w.heap.size w' Z' A c xs):AG e t w0.heap.size w' Z A c xs:=
 AG.Po b (a.base (n1:=w0.heap.size) fun k d=>Nat.le_trans h.sz (a.ge k d))
theorem Hp.LR{α:Type}{e:D4 α}{t:TypeId}{A:Option Addr}{c:Nat}{xs:List α}{Z a:Nat→Prop}(h:Hp F B w0 L w)(b:∀w Z w' Z' cs x,e.R w Z cs x→e.R w' Z' cs x)(d:AG e t w.heap.size w' a A c xs):Sl e w' (ZZ F B Z w0.heap.size L) A c xs:=
 (AG.Po b d).sl fun k _ h0=>h.kn h0
theorem Hp.Mf (h:Hp F B w0 L w) (f:Hp F B w0 L w') {b:Nat} (p:w.heap.size≤b) (l:b<w'.heap.size):Hp F B w0 (some b::L) w':=by
 refine⟨f.ch,fun k a=>?_,?_,h.ff⟩
 ·rcases List.mem_cons.1 a with e|a
  ·cases e;exact⟨l,fun m=>absurd (h.ff _ m) (by have:=h.sz;omega),fun n=>absurd n (by have:=h.sz;omega)⟩
  ·exact f.lo k a
 ·have key:∀(j:Nat) (x:Nat),L[j]?=some (some x)→x≠b:=fun j x o e=>by
   have:=(h.lo x (List.mem_of_getElem? o)).1;omega
  intro i j x g hi c;cases i with
  |zero=>
   cases j with
   |zero=>exact g rfl
   |succ j=>
    have d:b=x:=by simpa using hi
    exact key j x (by simpa using c) d.symm
  |succ i=>
   cases j with
   |zero=>
    have d:b=x:=by simpa using c
    exact key i x (by simpa using hi) d.symm
   |succ j=>exact h.ap i j x (by omega) (by simpa using hi) (by simpa using c)
theorem FY{Z:Nat→Prop}{n0:Nat}{b:Nat}(hm:Mv w (ZZ F B Z n0 L) w' (ZZ F B Z n0 L))(g:w.heap.size≤b):Mv w (ZZ F B Z n0 L) w' (ZZ F B Z n0 (some b::L)):=
 ⟨hm.size,fun k c d=>⟨(hm.stay k c d).1.imp id fun⟨h1,f⟩=>⟨h1,fun a=>by
  rcases List.mem_cons.1 a with e|a
  ·cases e;omega
  ·exact f a⟩,(hm.stay k c d).2⟩⟩
end
def Ps (w:World) (R:World→Value→World→Prop):J1 Ext:=
 ⟨fun v a=>∃w1 w2,Ext w w1∧R w1 v w2∧Ext w2 a,fun _ _ _ ⟨w1,w2,h1,b,h3⟩ g=>⟨w1,w2,h1,b,Ext.trans h3 g⟩⟩
def IY(w:World)(R:World→Value→World→Prop)(a:World):Prop:=∃v w1 w2,Ext w w1∧R w1 v w2∧Ext w2 a
theorem Hv{w:World}{R:World→Value→World→Prop}:∀a b,IY w R a→Ext a b→IY w R b:=fun _ _ ⟨v,w1,w2,h1,c,h3⟩ g=>⟨v,w1,w2,h1,c,Ext.trans h3 g⟩
def LS(_:World):Prop:=True
theorem Ku:∀a b,LS a→Ext a b→LS b:=fun _ _ _ _=>trivial
def Hk(n:Nat)(w:World):List Nat→Prop
 |[]=>True
 |b::l=>n≤b∧b<w.heap.size∧(l.all fun x=> !Nat.beq b x)=true∧Hk n w l
section
variable{F F':Nat→Prop}{B:List (Option Nat)}{w0 w w':World}{L M:List (Option Nat)}{Z:Nat→Prop}
theorem Hk.mem{n:Nat}:∀{l:List Nat},Hk n w l→∀b∈l,n≤b∧b<w.heap.size
 |[],_,_,h=>by cases h
 |x::l,h,b,a=>by
  rcases List.mem_cons.1 a with rfl|a
  ·exact⟨h.1,h.2.1⟩
  ·exact Hk.mem h.2.2.2 b a
theorem Hk.grow{n a:Nat}(b:a≤n)(c:w.heap.size≤w'.heap.size):∀{l:List Nat},Hk n w l→Hk a w' l
 |[],_=>trivial
 |_::_,h=>⟨Nat.le_trans b h.1,Nat.lt_of_lt_of_le h.2.1 c,h.2.2.1,Hk.grow b c h.2.2.2⟩
theorem Hp.NC(h:Hp F B w0 L w):∀{l:List Nat},Hp F B w0 L w'→Hk w.heap.size w' l→Hp F B w0 (l.map some++L) w'
 |[],c,_=>c
 |b::l,c,a=>by
  have d:=Hp.NC h c a.2.2.2;refine⟨d.ch,fun k f=>?_,?_,h.ff⟩
  ·rcases List.mem_cons.1 f with e|f
   ·cases e;exact⟨a.2.1,fun p=>absurd (h.ff _ p) (by have:=h.sz;have:=a.1;omega),fun n=>absurd n (by have:=h.sz;have:=a.1;omega)⟩
   ·exact d.lo k f
  ·have key:∀(j:Nat) (x:Nat),(l.map some++L)[j]?=some (some x)→x≠b:=fun j x q e=>by
    subst e;have hm:=List.mem_of_getElem? q;rcases List.mem_append.1 hm with hm|hm
    ·obtain⟨y,hy,e⟩:=List.mem_map.1 hm;cases e;have:=List.all_eq_true.1 a.2.2.1 x hy;rw[Nat.beq_refl] at this;cases this
    ·have:=(h.lo x hm).1;have:=a.1;omega
   intro i j x o hi g;cases i with
   |zero=>
    cases j with
    |zero=>exact o rfl
    |succ j=>
     have m:b=x:=by simpa using hi
     exact key j x (by simpa using g) m.symm
   |succ i=>
    cases j with
    |zero=>
     have m:b=x:=by simpa using g
     exact key i x (by simpa using hi) m.symm
    |succ j=>exact d.ap i j x (by omega) (by simpa using hi) (by simpa using g)
theorem Hp.Mg(h:Hp F B w0 L w)(g:Ext w w'){l:List Nat}(a:Hk w.heap.size w' l):Hp F B w0 (l.map some++L) w':=h.NC (h.ext g) a
theorem E7{n0:Nat}{l:List Nat}(hm:Mv w (ZZ F B Z n0 L) w' (ZZ F B Z n0 L))(d:Hk w.heap.size w' l):Mv w (ZZ F B Z n0 L) w' (ZZ F B Z n0 (l.map some++L)):=
 ⟨hm.size,fun k c b=>⟨(hm.stay k c b).1.imp id fun⟨h1,f⟩=>⟨h1,fun a=>by
  rcases List.mem_append.1 a with a|a
  ·obtain⟨y,hy,e⟩:=List.mem_map.1 a;cases e;have:=(d.mem k hy).1;omega
  ·exact f a⟩,(hm.stay k c b).2⟩⟩
theorem Pt{b c:Nat}(f:w.heap.size≤b)(a:b<w'.heap.size)(g:w.heap.size≤c)(d:c<w'.heap.size)(e:b≠c):Hk w.heap.size w' [b,c]:=
 ⟨f,a,by
  have:Nat.beq b c=false:=by
   cases h:Nat.beq b c with
   |false=>rfl
   |true=>exact absurd (Nat.eq_of_beq_eq_true h) e
  simp[this],g,d,rfl,trivial⟩
theorem Hp.Rh (h:Hp F B w0 L w):∀(l:List Nat) (c:List Nat),Gw L c (l.map some)→Jh c=true→(∀b∈l,w0.heap.size≤b)→Hk w0.heap.size w l
 |[],_,_,_,_=>trivial
 |b::l,[],a,_,_=>a.elim
 |b::l,j::c,a,e,d=>by
  simp only[Jh,Bool.and_eq_true] at e;refine⟨d b (List.mem_cons_self ..),(h.lo b (List.mem_of_getElem? a.1)).1,?_,h.Rh l c a.2 e.2 fun x f=>d x (List.mem_cons_of_mem _ f)⟩;rw[List.all_eq_true];intro x f;cases i:Nat.beq b x with
  |false=>rfl
  |true=>
   have g:=Nat.eq_of_beq_eq_true i;subst g;have h1:=h.Bz (F':=FN) j a.1 c e.1 a.2 (fun _ h=>h.elim);exact absurd (.inr (List.mem_map.2 ⟨b,f,rfl⟩)) h1
end
section
variable{P:Program}{N:Nat}{Q:Exit→Act→World→Prop}{a:Act}{l:Env}{w:World}
def Mh(a:Act):Act:={a with defers:=[]}
theorem Kw(a:Act):∀l:Env,BV (Mh a) l=Mh (BV a l)
 |[]=>rfl
 |(d,v)::l=>by simp only[BV,Kw a l];rfl
theorem LU{D:Nat}{fn:Func}{R:Value→World→Prop}(c:w.heap[D]?=some (.deferred (some [])))(h:∀w',GN D w w'→LV X0 N (bodyPost P fn (fun e w'=>∃v,e=.returned v∧R v w')) .ret (Mh a) l w'):
  LV (X1 D) N (PM P fn R) .ret a l w:=fun s=>by
 have d:St X0 N (Mh a) l:=⟨s.sz,rfl,s.lt⟩;obtain⟨_,v,b,f⟩:=h _ (GO w D (.deferred none)) d;show LeavesInM Fence.wide 0 P fn _ _ (BV a l).defers .returning w;rw[Du,show a.defers=mark D from s.df];refine⟨by simp,.inl ⟨D,_,rfl,run_takeDeferred c,?_⟩⟩;rw[Kw] at b;exact⟨v,b,f⟩
theorem OD{D:Nat}{fn:Func}{R:Value→World→Prop}(c:w.heap[D]?=some (.deferred (some [])))(h:∀w',GN D w w'→LV X0 N (bodyPost P fn (fun e w'=>∃v,e=.returned v∧R v w')) .normal (Mh a) l w'):
  LV (X1 D) N (PM P fn R) .normal a l w:=fun s=>by
 have d:St X0 N (Mh a) l:=⟨s.sz,rfl,s.lt⟩;obtain⟨_,v,b,f⟩:=h _ (GO w D (.deferred none)) d;show LeavesInM Fence.wide 0 P fn _ _ (BV a l).defers .returning w;rw[Du,show a.defers=mark D from s.df];refine⟨by simp,.inl ⟨D,_,rfl,run_takeDeferred c,?_⟩⟩;rw[Kw] at b;exact⟨v,b,f⟩
end
theorem OE{α:Type}{b:Bool}{x:Option α}{r:α}(h:cond b none x=some r):b=false∧x=some r:=by
 cases b with
 |true=>cases h
 |false=>exact⟨rfl,h⟩
def Db(xs:List Int):List Int:=xs.mergeSort fun x y=>decide (x≤y)
theorem IB(xs:List Int):(Db xs).length=xs.length:=List.length_mergeSort _
theorem P4{w:World}{Z:Nat→Prop}:∀{Be:List (List Value)} {xs:List Int},R2 (Az .i64) w Z Be xs→Be.flatten=Cn xs
 |[],[],_=>rfl
 |c::Be,x::xs,h=>by
  have h1:c=[.int .i64 x]:=h.1;rw[List.flatten_cons,P4 h.2,h1];rfl
 |[],_::_,h=>h.elim
 |_::_,[],h=>h.elim
theorem P5{w:World}{Z:Nat→Prop}:∀xs:List Int,R2 (Az .i64) w Z (xs.map fun x=>[.int .i64 x]) xs
 |[]=>trivial
 |_::xs=>⟨rfl,P5 xs⟩
theorem Ri(xs:List Int):(xs.map fun x=>[Value.int .i64 x]).flatten=Cn xs:=by
 induction xs with
 |nil=>rfl
 |cons x xs ih=>rw[List.map_cons,List.flatten_cons,ih];rfl
theorem Pu{t:TypeId}{n0:Nat}{w:World}{Z:Nat→Prop}{A:Option Addr}{c:Nat}{xs:List Int}(h:AG (Az .i64) t n0 w Z A c xs):DW w n0 t 1 A xs.length c (Cn xs):=by
 obtain⟨Be,h1,a⟩:=h;rw[←P4 h1];exact a
theorem KX{t:TypeId}{n0:Nat}{w:World}{Z:Nat→Prop}{A:Option Addr}{c:Nat}{xs:List Int}(h:DW w n0 t 1 A xs.length c (Cn xs)):AG (Az .i64) t n0 w Z A c xs:=
 ⟨_,P5 xs,by rw[Ri];exact h⟩
theorem UX{α β:Type}{x:Option β}{f:α→Option β}{r:β}(h:Option.elim none x f=some r):x=some r:=h
theorem UY{α β:Type}{a:α}{x:Option β}{f:α→Option β}{r:β}(h:Option.elim (some a) x f=some r):f a=some r:=h
theorem JM{F:Nat→Prop}{b:Nat}{L:List (Option Nat)}(h:¬F b∧some b∉L):¬F b∧some b∉L++[none]:=⟨h.1,fun hm=>by
 rcases List.mem_append.1 hm with h1|h1
 ·exact h.2 h1
 ·simp at h1⟩
theorem Bg.OF{F:Nat→Prop}{C:List (Option Nat)}{o:Option Nat}{w w':World}(g:Bg (FU F (C++[o]++[none])) w w'):Bg (FU (FU F C) [o]) w w':=g.mono fun k h=>by
 rcases h with h|h
 ·exact .inl (.inl h)
 ·rcases List.mem_append.1 h with a|a
  ·rcases List.mem_append.1 a with h3|h3
   ·exact .inl (.inr h3)
   ·exact .inr h3
  ·simp at a
theorem Sl.R7{α β:Type}{e:D4 α}{ev:β→Value}{F:Nat→Prop}{B L:List (Option Nat)}{Z:Nat→Prop}{n0 r n:Nat}{w:World}{i:List (List Int×β)}{A:Option Addr}{c:Nat}{xs:List α}
  (j:∀w Z w' Z' cs x,e.R w Z cs x→e.R w' Z' cs x)(hm:Cp ev w r n i)(h:Sl e w (ZZ F B Z n0 L) A c xs):Sl e w (ZZ F B Z n0 (some r::L)) A c xs:=by
 obtain⟨h1,k,Be,h3,d⟩:=h;refine⟨h1,k,Be,h3.free j,?_⟩;rcases d with d|⟨b,o,m,p,q,f⟩
 ·exact .inl d
 ·cases g:Be.flatten with
  |nil=>exact .inl rfl
  |cons u l=>
   rw[g] at f;refine .inr ⟨b,o,m,p.imp id fun⟨s,t⟩=>⟨s,fun a=>?_⟩,q,f⟩;rcases List.mem_cons.1 a with e|a
   ·cases e;obtain⟨es,y,v,_⟩:=hm;have:=f 0 u rfl;unfold World.cell? at this;simp[v] at this
   ·exact t a
section
variable{P:Program}{N:Nat}{a:Act}{l:Env}{w:World}
theorem Hl{fn:Func}{r1 r2 m:ResultVar}{v v' I3:Value}{R:Value→World→Prop}(g:fn.results= #[r1,r2,m])(h1:Nt P a l w r1 v)(p:Nt P a l w r2 v')(h3:Nt P a l w m I3)(h:R (.tuple #[v,v',I3]) w):
  LV X0 N (bodyPost P fn (fun e w'=>∃v,e=.returned v∧R v w')) .ret a l w:=fun s=>by
 refine bodyPost_ret (v:=.tuple #[v,v',I3]) ?_ (by rw[Du,s.df]) ⟨_,rfl,h⟩;cases r1 with
 |tmp t0=>
  have d:(BV a l).tmps.getD t0 undef=v:=ee s h1;simp only[Array.getD_eq_getD_getElem?] at d;cases r2 with
  |tmp t1=>
   have c:(BV a l).tmps.getD t1 undef=v':=ee s p;simp only[Array.getD_eq_getD_getElem?] at c;cases m with
   |tmp t2=>
    have b:(BV a l).tmps.getD t2 undef=I3:=ee s h3;simp only[Array.getD_eq_getD_getElem?] at b;simp[results,g,d,c,b]
   |cell i t2=>
    obtain⟨f,j,k⟩:=h3;have b:(BV a l).tmps.getD i undef=.pointer (some f):=ee s j;simp only[Array.getD_eq_getD_getElem?] at b;simp[results,g,d,c,b,asAddr,k]
  |cell r t1=>
   obtain⟨n,t,o⟩:=p;have c:(BV a l).tmps.getD r undef=.pointer (some n):=ee s t;simp only[Array.getD_eq_getD_getElem?] at c;cases m with
   |tmp t2=>
    have b:(BV a l).tmps.getD t2 undef=I3:=ee s h3;simp only[Array.getD_eq_getD_getElem?] at b;simp[results,g,d,c,asAddr,o,b]
   |cell i t2=>
    obtain⟨f,j,k⟩:=h3;have b:(BV a l).tmps.getD i undef=.pointer (some f):=ee s j;simp only[Array.getD_eq_getD_getElem?] at b;simp[results,g,d,c,asAddr,o,b,asAddr,k]
 |cell x t0=>
  obtain⟨u,y,q⟩:=h1;have d:(BV a l).tmps.getD x undef=.pointer (some u):=ee s y;simp only[Array.getD_eq_getD_getElem?] at d;cases r2 with
  |tmp t1=>
   have c:(BV a l).tmps.getD t1 undef=v':=ee s p;simp only[Array.getD_eq_getD_getElem?] at c;cases m with
   |tmp t2=>
    have b:(BV a l).tmps.getD t2 undef=I3:=ee s h3;simp only[Array.getD_eq_getD_getElem?] at b;simp[results,g,d,asAddr,q,c,b]
   |cell i t2=>
    obtain⟨f,j,k⟩:=h3;have b:(BV a l).tmps.getD i undef=.pointer (some f):=ee s j;simp only[Array.getD_eq_getD_getElem?] at b;simp[results,g,d,asAddr,q,c,b,asAddr,k]
  |cell r t1=>
   obtain⟨n,t,o⟩:=p;have c:(BV a l).tmps.getD r undef=.pointer (some n):=ee s t;simp only[Array.getD_eq_getD_getElem?] at c;cases m with
   |tmp t2=>
    have b:(BV a l).tmps.getD t2 undef=I3:=ee s h3;simp only[Array.getD_eq_getD_getElem?] at b;simp[results,g,d,asAddr,q,c,asAddr,o,b]
   |cell i t2=>
    obtain⟨f,j,k⟩:=h3;have b:(BV a l).tmps.getD i undef=.pointer (some f):=ee s j;simp only[Array.getD_eq_getD_getElem?] at b;simp[results,g,d,asAddr,q,c,asAddr,o,b,asAddr,k]
end
theorem TO{w w':World}{Z Z' Q:Nat→Prop}(h:Mv w Z w' Z'):Mv w (fun b=>Z b∧Q b) w' (fun b=>Z' b∧Q b):=⟨h.size,fun b a c=>⟨⟨(h.stay b a.1 c).1,a.2⟩,(h.stay b a.1 c).2⟩⟩
def eF(n:Nat):D4 (Bool×List Int):=
 ⟨1,fun w Z cs x=>∃A c,cs=[.slice A x.2.length c]∧Sl (Az .i64) w (fun b=>Z b∧(x.1=true→n≤b)) A c x.2,fun⟨_,_,h,_⟩=>by rw[h];rfl,fun⟨_,_,h,_⟩=>by rw[h];simp[Value.oneCell'],
  fun⟨A,c,h1,a⟩ g=>⟨A,c,h1,a.mv (TO g)⟩⟩
theorem TP{n:Nat}{w:World}{Z:Nat→Prop}:∀{Be:List (List Value)} {xs:List (List Int)},R2 (BA (Az .i64)) w Z Be xs→R2 (eF n) w Z Be (xs.map fun x=>(false,x))
 |[],[],_=>trivial
 |_::_,_::_,⟨⟨A,c,h1,a⟩,h⟩=>⟨⟨A,c,h1,a.mv (G4 fun _ b _=>⟨b,fun e=>by cases e⟩)⟩,TP h⟩
 |[],_::_,h=>h.elim
 |_::_,[],h=>h.elim
theorem TQ{n:Nat}{w:World}{Z:Nat→Prop}:∀{Be:List (List Value)} {xs:List (Bool×List Int)},(∀y∈xs,y.1=true)→R2 (eF n) w Z Be xs→R2 (BA (Az .i64)) w (fun b=>n≤b) Be (xs.map Prod.snd)
 |[],[],_,_=>trivial
 |_::_,x::_,ht,⟨⟨A,c,h1,a⟩,h⟩=>⟨⟨A,c,h1,a.mv (G4 fun _ d _=>d.2 (ht x (List.mem_cons_self ..)))⟩,TQ (fun y hy=>ht y (List.mem_cons_of_mem _ hy)) h⟩
 |[],_::_,_,h=>h.elim
 |_::_,[],_,h=>h.elim
theorem UZ{t n0 n:Nat}{w:World}{Z:Nat→Prop}{A:Option Addr}{c:Nat}{xs:List (List Int)}(h:AG (BA (Az .i64)) t n0 w Z A c xs):AG (eF n) t n0 w Z A c (xs.map fun x=>(false,x)):=by
 obtain⟨Be,h1,a⟩:=h;exact⟨Be,TP h1,by rw[List.length_map];exact a⟩
theorem U0{t n0 n:Nat}{w:World}{Z:Nat→Prop}{A:Option Addr}{c:Nat}{xs:List (Bool×List Int)}(ht:∀y∈xs,y.1=true)(h:AG (eF n) t n0 w Z A c xs):AG (BA (Az .i64)) t n0 w (fun b=>n≤b) A c (xs.map Prod.snd):=by
 obtain⟨Be,h1,a⟩:=h;exact⟨Be,TQ ht h1,by rw[List.length_map];exact a⟩
theorem TR{a:List (Bool×List Int)}{k:Nat}{x:List Int}(h:(a.map Prod.snd)[k]?=some x):∃b,a[k]?=some (b,x):=by
 rw[List.getElem?_map] at h;cases c:a[k]? with
 |none=>rw[c] at h;cases h
 |some y=>rw[c] at h;cases h;exact⟨y.1,rfl⟩
end Go.Proofs.YtkljfdkmjdjpfaaGreat
end
section
namespace Go.Proofs.YtkljfdkmjdjpfaaGreat
open Go.RowKit
theorem G0{b:Nat}{t:TypeId}:∀(l:List Value) (o:Nat) {w:World} {cs:Array Value},Bk w b t cs→Bk (w.setCells b o l) b t (setCells cs o l)∧w.grownBy (w.setCells b o l) (some b)
 |[],o,w,cs,h=>⟨h,World.grownBy.refl w _⟩
 |v::l,o,w,cs,h=>by
  have c:Bk (w.setCell ⟨b,o,none⟩ v) b t (cs.setIfInBounds o v):=by
   unfold Bk at h⊢;simp[World.setCell,Array.getElem?_modify,h]
  have g1:GN b w (w.setCell ⟨b,o,none⟩ v):=⟨rfl,rfl,rfl,by simp,fun k _ a=>Below.heap_setCell w ⟨b,o,none⟩ v k (by simpa using a)⟩;have ih:=G0 l (o+1) c;exact⟨ih.1,World.grownBy.trans g1 ih.2⟩
def CP (xs:List Int) (i:Int) (x:Int):List Int:=xs.take i.toNat++x::xs.drop i.toNat
theorem Lf(xs:List Int)(i:Int)(x:Int):(CP xs i x).length=xs.length+1:=by
 unfold CP;simp;omega
theorem Rj{w w':World}{b:Nat}{o:Obj}(a:b=w.heap.size)(g:World.grownBy (w.alloc o) w' (some b)):Ext w w':=
 ⟨g.os,g.tape,g.output,by have:=g.size;simp at this;omega,fun k c _=>by
  have h1:=g.block k (by simp;omega) (by rw[a];intro e;cases e;omega);rw[h1];exact(World.grownBy_alloc w o none).block k c (by simp)⟩
theorem Ic{w:World}{base t g c:Nat}{cur:Array Value}{l:List Value}(a:base≤g)(d:Bk w g t cur)(e:l.length≤c)(f:c≤maxLen)(i:cur.size=c)(h:∀j,j<l.length→cur[j]?=l[j]?):DW w base t 1 (some ⟨g,0,none⟩) l.length c l:=by
 refine⟨by simp,.inr ⟨g,c,cur,rfl,a,d,e,f,by simp[i],?_⟩⟩;rw[Nat.mul_one];apply List.ext_getElem?;intro j;rw[List.getElem?_take];split
 ·rename_i b
  rw[←h j b];simp
 ·rename_i b
  rw[List.getElem?_eq_none (by omega)]
theorem TS{b:Bool}(h:b=true→False):b=false:=by cases b<;>simp_all
theorem I7{b:Bool}(h:b=false)(k:b=true):False:=by rw[h] at k;cases k
section
variable{F F':Nat→Prop}{B:List (Option Nat)}{w0 w w' Bf:World}{Z:Nat→Prop}{L M:List (Option Nat)}
theorem IC(h:Ext w w'){r:Option Nat}(g:w'.grownBy Bf r)(b:∀k,r=some k→w.heap.size≤k):Ext w Bf:=
 ⟨g.os.trans h.os,g.tape.trans h.tape,g.output.trans h.output,Nat.le_trans h.size g.size,fun k a _=>(g.block k (Nat.lt_of_lt_of_le a h.size) (fun e=>by have:=b k e.symm;omega)).trans (h.block k a (by simp))⟩
theorem ID{D:Nat→Prop}(h:Bg D w w'){r:Option Nat}(g:w'.grownBy Bf r)(c:∀k,r=some k→D k∨w.heap.size≤k):Bg D w Bf:=
 ⟨g.os.trans h.os,g.tape.trans h.tape,g.output.trans h.output,Nat.le_trans h.size g.size,fun k a b=>(g.block k (Nat.lt_of_lt_of_le a h.size) (fun e=>by
  rcases c k e.symm with h1|h1
  ·exact b h1
  ·omega)).trans (h.block k a b)⟩
theorem Gc{x y:Option Nat}{n:Nat}(a:∀k,x=some k→n≤k)(b:n≤w'.heap.size)(hy:∀k,y=some k→(x=some k∨w'.heap.size≤k)∧k<Bf.heap.size):∀k,y=some k→n≤k:=fun k c=>
 (hy k c).1.elim (a k) (fun h=>Nat.le_trans b h)
theorem Rk{x y a:Option Nat}{n:Nat}(b:∀k,x=some k→a=some k∨n≤k)(c:n≤w'.heap.size)(hy:∀k,y=some k→(x=some k∨w'.heap.size≤k)∧k<Bf.heap.size):∀k,y=some k→a=some k∨n≤k:=fun k d=>
 (hy k d).1.elim (b k) (fun h=>.inr (Nat.le_trans c h))
theorem Jk{b:Nat}{t:TypeId}{cs:Array Value}(nb:I4 w' Bf b t cs):∀k,ob (some ⟨b,0,none⟩)=some k→((none:Option Nat)=some k∨w'.heap.size≤k)∧k<Bf.heap.size:=fun k e=>by
 cases e;exact⟨.inr (Nat.le_of_eq nb.Et.symm),nb.bk.lt⟩
theorem TU{α:Type}{e:D4 α}{t:TypeId}{A:Option Addr}{c:Nat}{xs:List α}{Z:Nat→Prop}(h:AG e t w'.heap.size Bf Z A c xs):∀k,ob A=some k→((none:Option Nat)=some k∨w'.heap.size≤k)∧k<Bf.heap.size:=fun k e=>⟨.inr (h.ge k e),h.J2 k e⟩
end
def eT:D4 (Bool×(Option Addr×Nat)×List Int):=
 ⟨1,fun w Z cs x=>∃A c,cs=[.slice A x.2.2.length c]∧(x.1=true→A=x.2.1.1∧c=x.2.1.2)∧(x.1=false→Sl (Az .i64) w Z A c x.2.2),fun⟨_,_,h,_⟩=>by rw[h];rfl,fun⟨_,_,h,_⟩=>by rw[h];simp[Value.oneCell'],
  fun⟨A,c,h1,a,h3⟩ g=>⟨A,c,h1,a,fun e=>(h3 e).mv g⟩⟩
theorem TV{w:World}{Z:Nat→Prop}:∀{Be:List (List Value)} {xs:List (List Int)},R2 (BA (Az .i64)) w Z Be xs→R2 eT w Z Be (xs.map fun x=>(false,(none,0),x))
 |[],[],_=>trivial
 |_::_,_::_,⟨⟨A,c,h1,a⟩,h⟩=>⟨⟨A,c,h1,fun e=>(by cases e),fun _=>a⟩,TV h⟩
 |[],_::_,h=>h.elim
 |_::_,[],h=>h.elim
theorem TW{w:World}{Z:Nat→Prop}:∀{Be:List (List Value)} {xs:List (Bool×(Option Addr×Nat)×List Int)},(∀y∈xs,y.1=true→Sl (Az .i64) w Z y.2.1.1 y.2.1.2 y.2.2)→R2 eT w Z Be xs→R2 (BA (Az .i64)) w Z Be (xs.map fun y=>y.2.2)
  |[],[],_,_=>trivial
  |_::_,x::_,ht,⟨⟨A,c,h1,b,h3⟩,h⟩=>⟨by
      cases a:x.1 with
      |true=>
        obtain⟨rfl,rfl⟩:=b a;exact⟨_,_,h1,ht x (List.mem_cons_self ..) a⟩
      |false=>exact⟨A,c,h1,h3 a⟩,TW (fun y hy=>ht y (List.mem_cons_of_mem _ hy)) h⟩
  |[],_::_,_,h=>h.elim
  |_::_,[],_,h=>h.elim
theorem U1{t n0:Nat}{w:World}{Z:Nat→Prop}{A:Option Addr}{c:Nat}{xs:List (List Int)}(h:AG (BA (Az .i64)) t n0 w Z A c xs):AG eT t n0 w Z A c (xs.map fun x=>(false,(none,0),x)):=by
 obtain⟨Be,h1,a⟩:=h;exact⟨Be,TV h1,by rw[List.length_map];exact a⟩
theorem U2{t n0:Nat}{w:World}{Z:Nat→Prop}{A:Option Addr}{c:Nat}{xs:List (Bool×(Option Addr×Nat)×List Int)}(ht:∀y∈xs,y.1=true→Sl (Az .i64) w Z y.2.1.1 y.2.1.2 y.2.2)(h:AG eT t n0 w Z A c xs):AG (BA (Az .i64)) t n0 w Z A c (xs.map fun y=>y.2.2):=by
 obtain⟨Be,h1,a⟩:=h;exact⟨Be,TW ht h1,by rw[List.length_map];exact a⟩
def I8 (N i:Int):Nat→Int→List (List Int)→Option (List (List Int))
  |0,_,_=>none
  |a+1,k,s=>cond (decide (k<N)) (cond (k !=i) ((idx s (0:Int)).bind fun x=>(F8 (((x.length+([k]:List Int).length:Nat):Int)≤140737488355328/8)).bind fun _=>(idx s (0:Int)).bind fun _=>(i64 (k+1)).bind fun _=>I8 N i a (k+1) (s.set 0 (x++[k])))
      ((i64 (k+1)).bind fun _=>I8 N i a (k+1) s)) (some s)
theorem qz{X:Ctx}{N:Nat}{a:Act}{l:Env}(st:St X N a l):(BV a l).tmps.size=N:=(H0 _ _).trans st.sz
theorem qd{X:Ctx}{N:Nat}{a:Act}{l:Env}(st:St X N a l):(BV a l).defers=X.ds:=(Du _ _).trans st.df
theorem sp{X:Ctx}{N:Nat}{a:Act}{l:Env}(st:St X N a l)(k:Nat){v:Value}(h:lk (sl a k) l k=v):sl (BV a l) k=v:=(HO st k).trans h
theorem Hp.nb{F:Nat→Prop}{B L:List (Option Nat)}{w0 w w':World}{b:Nat}{t:TypeId}{cs:Array Value}(h:Hp F B w0 L w)(n:I4 w w' b t cs):Hp F B w0 (some b::L) w':=h.new n.gr (Nat.le_of_eq n.Et.symm) (Nat.lt_of_lt_of_eq (Nat.lt_succ_self _) n.sz.symm)
theorem Hp.BK{F:Nat→Prop}{B L:List (Option Nat)}{w0 w w':World}{b:Nat}{t:TypeId}{cs:Array Value}(h:Hp F B w0 L w)(n:I4 w w' b t cs):w0.heap.size≤b:=by rw[n.Et];exact h.sz
theorem Ay{F:Nat→Prop}{B L:List (Option Nat)}{Z:Nat→Prop}{w w':World}{n0 b:Nat}{t:TypeId}{cs:Array Value}(n:I4 w w' b t cs):Mv w (ZZ F B Z n0 L) w' (ZZ F B Z n0 (some b::L)):=Ec n.gr (Nat.le_of_eq n.Et.symm)
theorem X2{b c:Sort _}{p:b→c→Prop}{C:Prop}(h:∃a x1,p a x1)(k:∀a x1,p a x1→C):C:=h.elim fun a h=>h.elim fun x1 h=>k a x1 h
theorem X4{c d e f:Sort _}{p:c→d→e→f→Prop}{C:Prop}(h:∃a x1 x2 b,p a x1 x2 b)(k:∀a x1 x2 b,p a x1 x2 b→C):C:=h.elim fun a h=>h.elim fun x1 h=>h.elim fun x2 h=>h.elim fun b h=>k a x1 x2 b h
theorem Y2{a0 a1 r C:Prop}(h:a0∧a1∧r)(k:a0→a1→r→C):C:=h.elim fun a h=>h.elim fun x1 h=>k a x1 h
theorem Y4{a0 a1 a2 a3 r C:Prop}(h:a0∧a1∧a2∧a3∧r)(k:a0→a1→a2→a3→r→C):C:=h.elim fun a h=>h.elim fun x1 h=>h.elim fun x2 h=>h.elim fun b h=>k a x1 x2 b h
theorem Y8{a0 a1 a2 a3 a4 a5 a b r C:Prop}(h:a0∧a1∧a2∧a3∧a4∧a5∧a∧b∧r)(k:a0→a1→a2→a3→a4→a5→a→b→r→C):C:=h.elim fun c h=>h.elim fun x1 h=>h.elim fun x2 h=>h.elim fun d h=>h.elim fun e h=>h.elim fun f h=>h.elim fun g h=>h.elim fun i h=>k c x1 x2 d e f g i h
end Go.Proofs.YtkljfdkmjdjpfaaGreat
end
section
set_option linter.unusedVariables false
set_option linter.unusedSimpArgs false
namespace Go.Proofs.YtkljfdkmjdjpfaaGreat
open Go.RowKit Go.WideShapes
structure CE where
 Lo:Int
 Hi:Int
structure As where
 On:Int
 Bh:Int
 AP:Bool
structure A3 where
 Ar:Int
 AE:Int
 AP:Int
 Ce:Int
 BZ:Int
structure Ap where
 Ak:Int
 Ai:Int
 Ao:Int
 Aw:Int
 Ad:List A3
structure AX where
 Comes:List Int
 Ao:List Bool
structure Cy where
 BF:Int
 BX:Int
 Cj:Int
 Ck:Int
 AY:List A3
 Dc:List Bool
 known:List (List Int×As)
structure HG where
 Cr:Int
 day:Int
structure BN where
 a0:Int
 a1:Int
 a2:Int
 a3:Int
def BN.set(x:BN)(k:Nat)(v:Int):BN:=⟨if k=0 then v else x.a0,if k=1 then v else x.a1,if k=2 then v else x.a2,if k=3 then v else x.a3⟩
def BN.l(x:BN):List Int:=[x.a0,x.a1,x.a2,x.a3]
theorem BN.VF(x:BN)(k:Nat)(v:Int)(h:k<4): #[.int .i64 (x.set k v).a0,.int .i64 (x.set k v).a1,.int .i64 (x.set k v).a2,.int .i64 (x.set k v).a3]=setCells #[.int .i64 x.a0,.int .i64 x.a1,.int .i64 x.a2,.int .i64 x.a3] k [.int .i64 v]:=by
 match k,h with
 |0,_=>rfl
 |1,_=>rfl
 |2,_=>rfl
 |3,_=>rfl
 |k+4,h=>omega
def BS:D4 As:=⟨3,fun _ _ cs x=>cs=[.int .i64 x.On,.int .i64 x.Bh,.bool x.AP],fun h=>by rw[h];rfl,fun h=>by rw[h];simp[Value.oneCell'],fun h _=>h⟩
def AM:D4 A3:=⟨5,fun _ _ cs x=>cs=[.int .i64 x.Ar,.int .i64 x.AE,.int .i64 x.AP,.int .i64 x.Ce,.int .i64 x.BZ],fun h=>by rw[h];rfl,fun h=>by rw[h];simp[Value.oneCell'],fun h _=>h⟩
def GG:D4 Ap:=⟨5,fun w Z cs x=>∃a b,cs=[.int .i64 x.Ak,.int .i64 x.Ai,.int .i64 x.Ao,.int .i64 x.Aw,.slice a x.Ad.length b]∧Sl AM w Z a b x.Ad,fun⟨_,_,h,_⟩=>by rw[h];rfl,fun⟨_,_,h,_⟩=>by rw[h];simp[Value.oneCell'],fun⟨a,b,h,c⟩ g=>⟨a,b,h,c.mv g⟩⟩
def Ea:D4 AX:=⟨2,fun w Z cs x=>∃a b c d,cs=[.slice a x.Comes.length b,.slice c x.Ao.length d]∧Sl (Az .i64) w Z a b x.Comes∧Sl Br w Z c d x.Ao,fun⟨_,_,_,_,h,_⟩=>by rw[h];rfl,fun⟨_,_,_,_,h,_⟩=>by rw[h];simp[Value.oneCell'],fun⟨a,b,c,d,h,h0,h1⟩ g=>⟨a,b,c,d,h,h0.mv g,h1.mv g⟩⟩
def OG:D4 CE:=⟨2,fun _ _ cs x=>cs=[.int .i64 x.Lo,.int .i64 x.Hi],fun h=>by rw[h];rfl,fun h=>by rw[h];simp[Value.oneCell'],fun h _=>h⟩
def U3:D4 BN:=⟨4,fun _ _ cs x=>cs=[.int .i64 x.a0,.int .i64 x.a1,.int .i64 x.a2,.int .i64 x.a3],fun h=>by rw[h];rfl,fun h=>by rw[h];simp[Value.oneCell'],fun h _=>h⟩
def LW(w:World)(Z:Nat→Prop)(q:Nat)(o:Option Nat):Option Cy→Prop
 |none=>Bk w q 162 #[.pointer none]∧o=none
 |some x=>∃(b r:Nat) (a:Option Addr) (c:Nat) (d:Option Addr) (e:Nat),Bk w q 162 #[pt b 0]∧Rz w Z (some ⟨b,0,none⟩) [I x.BF,I x.BX,I x.Cj,I x.Ck,.slice a x.AY.length c,.slice d x.Dc.length e,.map (some r)]∧Sl AM w Z a c x.AY∧Sl Br w Z d e x.Dc∧Cp (fun x:As=>.agg #[I x.On,I x.Bh,.bool x.AP]) w r 2 x.known∧o=some r
theorem LW.keep{w w':World}{Z Z':Nat→Prop}{q:Nat}{o:Option Nat}:∀{x:Option Cy},LW w Z q o x→Mv w Z w' Z'→w'.heap[q]?=w.heap[q]?→(∀k,o=some k→w'.heap[k]?=w.heap[k]?)→LW w' Z' q o x
 |none,h,_,a,_=>⟨h.1.F2 a,h.2⟩
 |some x,⟨b,r,e,f,g,i,j,l,h0,h1,hm,d⟩,c,a,m=>⟨b,r,e,f,g,i,j.F2 a,l.mv c,h0.mv c,h1.mv c,hm.F2 (m r d),d⟩
end Go.Proofs.YtkljfdkmjdjpfaaGreat
end
section
set_option linter.unusedVariables false
set_option linter.unusedSimpArgs false
namespace Go.Proofs.YtkljfdkmjdjpfaaGreat
open Go.RowKit Go.WideShapes
def Ej(d:Nat)(a:Int)(b:Int)(c:Int):Option (Bool):=
 cond (decide (b≤a)) (some (decide (a≤c))) (some (false))
def Fc(b:Nat)(a:CE):Option (Int):=
 (i64 (a.Hi-a.Lo)).bind fun _=>(i64 ((a.Hi-a.Lo)+1)).bind fun _=>some ((a.Hi-a.Lo)+1)
def G5(c:Nat)(a:CE)(b:Int):Option (Bool):=
 cond (decide ((0:Int)≤a.Lo)) (cond (decide (a.Lo≤a.Hi)) (some (decide (a.Hi≤b))) (some (false))) (some (false))
def GW(a:Nat)(b:Int):Option (Bool):=
 (Ej a b 1 5).bind fun r1=>some (r1)
def CZ(d:Nat)(a:Int)(b:Int)(c:Int):Option (Bool):=
 cond (decide (b≤a)) (some (decide (a≤c))) (some (false))
def Ed(b:Nat)(a:CE):Option (Int):=
 (i64 (a.Hi-a.Lo)).bind fun _=>(i64 ((a.Hi-a.Lo)+1)).bind fun _=>some ((a.Hi-a.Lo)+1)
def DI(c:Nat)(b:Int)(a:Int):Option (Bool):=
 (J4 .u64 a).bind fun _=>(Nv b a).bind fun _=>(rem (Fs b a) (2:Int)).bind fun _=>some (((Fs b a)%2)==1)
def ER(d:Nat)(a:Int)(b:Int)(c:Bool):Option (As):=
 some ((⟨a,b,c⟩:As))
def FL(b:Nat)(a:Ap)(c:Int):Option (Bool):=
 (i64 ((a.Ad.length:Int)-1)).bind fun _=>(Ej b c 0 ((a.Ad.length:Int)-1)).bind fun d=>some (d)
def Df(c:Nat)(b:A3)(a:As):Option (Bool):=
 cond (a.AP) (some (decide (a.Bh≤b.BZ))) (some (false))
def Ee(a:Nat)(b:A3)(c:As):Option (Bool):=
 (Df a b c).bind fun d=>some (!d)
end Go.Proofs.YtkljfdkmjdjpfaaGreat
end
section
set_option linter.unusedVariables false
set_option linter.unusedSimpArgs false
namespace Go.Proofs.YtkljfdkmjdjpfaaGreat
open Go.RowKit Go.WideShapes
def Cu(e:Nat)(c:Ap)(f:Int)(b:Int):Nat→Bool→Int→Option (Bool)
 |0,_,_=>none
 |g+1,d,a=>(i64 (b+c.Aw)).bind fun _=>cond (decide (a≤(b+c.Aw))) (cond (d) (cond (decide (a≤c.Ak)) ((DI e f a).bind fun h=>(i64 (a+1)).bind fun _=>Cu e c f b g h (a+1)) ((i64 (a+1)).bind fun _=>Cu e c f b g false (a+1))) ((i64 (a+1)).bind fun _=>Cu e c f b g false (a+1))) (some (d))
def Cs(e:Nat)(d:Ap)(f:Int)(b:Int):Nat→Bool→Int→Option (Bool)
 |0,_,_=>none
 |g+1,c,a=>(i64 (b+d.Aw)).bind fun _=>cond (decide (a≤(b+d.Aw))) (cond (c) (cond (decide (a≤d.Ak)) ((DI e f a).bind fun h=>(i64 (a+1)).bind fun _=>Cs e d f b g h (a+1)) ((i64 (a+1)).bind fun _=>Cs e d f b g false (a+1))) ((i64 (a+1)).bind fun _=>Cs e d f b g false (a+1))) (some (c))
def CG(c:Nat)(d:Ap)(e:Int):Nat→Int→Int→Option ((Bool)⊕(Int))
 |0,_,_=>none
 |f+1,b,a=>cond (decide (a≤d.Ak)) ((DI c e a).bind fun g=>cond (g) ((i64 (b+1)).bind fun _=>(Cu c d e a c true a).bind fun h=>cond (h) (some (.inl false)) ((i64 (a+1)).bind fun _=>CG c d e f (b+1) (a+1))) ((Cs c d e a c true a).bind fun z20=>cond (z20) (some (.inl false)) ((i64 (a+1)).bind fun _=>CG c d e f b (a+1)))) (some (.inr b))
def Ep(b:Nat)(c:Ap)(d:Int):Option (Bool):=
 (CG b c d b (0:Int) (0:Int)).bind fun z=>Sum.elim (fun a=>some (a)) (fun a=>some (decide (a≤c.Ao))) z
def CM(d:Nat)(c:Ap):Nat→(List Int)→Int→Option ((List Int))
 |0,_,_=>none
 |e+1,b,a=>(i64 (c.Ak+1)).bind fun _=>(J4 .u64 (c.Ak+1)).bind fun _=>(JG (1:Int) (c.Ak+1)).bind fun _=>cond (decide (a<(FQ (1:Int) (c.Ak+1)))) ((Ep d c a).bind fun f=>cond (f) ((F8 (((b.length+[a].length:Nat):Int)≤140737488355328/8)).bind fun _=>(i64 (a+1)).bind fun _=>CM d c e (b++[a]) (a+1)) ((i64 (a+1)).bind fun _=>CM d c e b (a+1))) (some (b))
def D1(a:Nat)(b:Ap):Option ((List Int)):=
 (CM a b a ([]:List Int) (0:Int)).bind fun z2=>some (z2)
def DK(d:Nat)(c:Ap):Nat→Int→Int→Option (Int)
 |0,_,_=>none
 |g+1,b,a=>cond (decide (a<(c.Ad.length:Int))) ((idx c.Ad a).bind fun e=>(Ed d (⟨e.Ar,e.AE⟩:CE)).bind fun f=>(i64 (b*f)).bind fun _=>(i64 (a+1)).bind fun _=>DK d c g (min (3000:Int) (b*f)) (a+1)) (some (b))
def Dr(a:Nat)(b:Ap):Option (Int):=
 (D1 a b).bind fun r2=>(DK a b a (r2.length:Int) (0:Int)).bind fun z4=>some (z4)
def Dk(d:Nat)(c:Ap):Nat→Int→Option ((Int)⊕(Unit))
 |0,_=>none
 |h+1,a=>cond (decide (a<(c.Ad.length:Int))) ((idx c.Ad a).bind fun b=>cond (decide (b.Ar<0)) (some (.inl (1:Int))) (cond (decide (b.AE<b.Ar)) (some (.inl (1:Int))) (cond (decide (c.Ak<b.AE)) (some (.inl (1:Int))) ((CZ d b.AP 1 5).bind fun e=>cond (!e) (some (.inl (1:Int))) ((CZ d b.Ce 1 5).bind fun f=>cond (!f) (some (.inl (1:Int))) ((CZ d b.BZ 0 c.Ak).bind fun g=>cond (!g) (some (.inl (1:Int))) ((i64 (a+1)).bind fun _=>Dk d c h (a+1)))))))) (some (.inr ()))
def Ex(b:Nat)(a:Ap):Option (Int):=
 cond (decide ((9:Int)<a.Ak)) (some (3)) (cond (decide ((2:Int)<a.Ai)) (some (3)) (cond (decide ((4:Int)<(a.Ad.length:Int))) (some (3)) (cond (decide (a.Ak<0)) (some (1)) (cond (decide (a.Ai<1)) (some (1)) ((i64 (a.Ak+1)).bind fun _=>(CZ b a.Ao 0 (a.Ak+1)).bind fun f=>cond (!f) (some (1)) ((i64 (a.Ak+1)).bind fun _=>(CZ b a.Aw 0 (a.Ak+1)).bind fun d=>cond (!d) (some (1)) ((Dk b a b (0:Int)).bind fun z=>Sum.elim (fun c=>some (c)) (fun c=>(Dr b a).bind fun e=>cond (decide ((1000:Int)<e)) (some (3)) (some (0))) z)))))))
def E8(b:Nat)(c:Ap)(a:A3):Option (Bool):=
 (G5 b (⟨a.Ar,a.AE⟩:CE) c.Ak).bind fun e=>cond (e) ((GW b a.AP).bind fun f=>cond (f) ((GW b a.Ce).bind fun g=>cond (g) ((Ej b a.BZ 0 c.Ak).bind fun d=>some (d)) (some (false))) (some (false))) (some (false))
def DL(b:List Int)(c:List Int):Nat→Int→Option ((Bool)⊕(Unit))
 |0,_=>none
 |d+1,a=>cond (decide (a<(b.length:Int))) ((idx b a).bind fun e=>(idx c a).bind fun f=>cond (e !=f) (some (.inl false)) ((i64 (a+1)).bind fun _=>DL b c d (a+1))) (some (.inr ()))
def FC(d:Nat)(b:List Int)(c:List Int):Option (Bool):=
 cond ((b.length:Int) !=(c.length:Int)) (some (false)) ((DL b c d (0:Int)).bind fun z=>Sum.elim (fun a=>some (a)) (fun a=>some (true)) z)
def CH(b:Nat)(a:Int):Option (Ap):=
 some ((⟨5,1,a,1,[(⟨0,0,2,2,2⟩:A3),(⟨1,1,2,1,5⟩:A3)]⟩:Ap))
def Gy(b:Nat)(a:Int):Option (AX):=
 (Kp (6:Int) 1).bind fun _=>(idx (List.replicate (6:Int).toNat false) a).bind fun c=>some ((⟨[0,1],(List.replicate (6:Int).toNat false).set a.toNat true⟩:AX))
def Gz(f:Nat)(a:List As)(b:As)(c:As):Option (Bool):=
 cond ((a.length:Int)==2) ((idx a (0:Int)).bind fun d=>cond (HD [.inl d.On,.inl d.Bh,.inr d.AP] [.inl b.On,.inl b.Bh,.inr b.AP]) ((idx a (1:Int)).bind fun e=>some (HD [.inl e.On,.inl e.Bh,.inr e.AP] [.inl c.On,.inl c.Bh,.inr c.AP])) (some (false))) (some (false))
def GP(b:Nat)(a:CE):Option (CE):=
 some (a)
def DM(f:Nat)(e:Ap):Nat→Int→(List A3)→Option ((List A3))
 |0,_,_=>none
 |g+1,b,a=>cond (decide (b<(e.Ad.length:Int))) ((idx e.Ad b).bind fun c=>(GP f (⟨c.Ar,c.AE⟩:CE)).bind fun d=>(F8 (((a.length+[(⟨d.Lo,d.Hi,c.AP,c.Ce,c.BZ⟩:A3)].length:Nat):Int)≤140737488355328/40)).bind fun _=>(i64 (b+1)).bind fun _=>DM f e g (b+1) (a++[(⟨d.Lo,d.Hi,c.AP,c.Ce,c.BZ⟩:A3)])) (some (a))
def CU(b:Nat)(a:Ap):Option (Ap):=
 (DM b a b (0:Int) ([]:List A3)).bind fun z5=>some ((⟨a.Ak,a.Ai,a.Ao,a.Aw,z5⟩:Ap))
def Fk(a:Nat)(b:Ap):Option (Int):=
 (Ex a b).bind fun r2=>some (r2)
def FD(b:Nat)(a:Ap):Option (Bool):=
 cond (decide ((a.Ad.length:Int)≤6)) ((Ex b a).bind fun c=>cond (c !=0) (some (true)) ((Dr b a).bind fun d=>some (decide (d≤60)))) (some (false))
end Go.Proofs.YtkljfdkmjdjpfaaGreat
end
section
set_option linter.unusedVariables false
set_option linter.unusedSimpArgs false
namespace Go.Proofs.YtkljfdkmjdjpfaaGreat
open Go.RowKit Go.WideShapes
def EM{a:Type}(e:Nat)(b:a→A3→Option (Bool×a))(c:A3)(d:a):Option (Bool×a):=
 (b d c).bind fun r2=>some ((!r2.1,r2.2))
def C8{c:Type}(d:c→A3→Option (Bool×c))(e:List A3):Nat→Int→c→Option ((Int×c)⊕(c))
 |0,_,_=>none
 |g+1,a,b=>cond (decide (a<(e.length:Int))) ((idx e a).bind fun h=>(d b h).bind fun f=>cond (f.1) (some (.inl (a,f.2))) ((i64 (a+1)).bind fun _=>C8 d e g (a+1) f.2)) (some (.inr b))
def FA{b:Type}(d:Nat)(c:b→A3→Option (Bool×b))(e:List A3)(f:b):Option (Int×b):=
 (C8 c e d (0:Int) f).bind fun z=>Sum.elim (fun a=>some ((a.1,a.2))) (fun a=>some (((-1),a))) z
def E0{a:Type}(c:Nat)(b:a→A3→Option (Bool×a))(d:List A3)(e:a):Option (Bool×a):=
 (FA c b d e).bind fun r1=>some ((decide ((0:Int)≤r1.1),r1.2))
def GH{a:Type}(b:Nat)(c:a→A3→Option (Bool×a))(d:List A3)(e:a):Option (Bool×a):=
 (E0 b (fun(st:a) (x:A3)=>(EM b c x st).bind fun r=>some (r.1,r.2)) d e).bind fun r2=>some ((!r2.1,r2.2))
def Ew{a:Type}(e:Nat)(b:a→Bool→Option (Bool×a))(c:Bool)(d:a):Option (Bool×a):=
 (b d c).bind fun r1=>some ((!r1.1,r1.2))
def C0{c:Type}(d:c→Bool→Option (Bool×c))(e:List Bool):Nat→Int→c→Option ((Int×c)⊕(c))
 |0,_,_=>none
 |g+1,a,b=>cond (decide (a<(e.length:Int))) ((idx e a).bind fun h=>(d b h).bind fun f=>cond (f.1) (some (.inl (a,f.2))) ((i64 (a+1)).bind fun _=>C0 d e g (a+1) f.2)) (some (.inr b))
def Fj{b:Type}(d:Nat)(c:b→Bool→Option (Bool×b))(e:List Bool)(f:b):Option (Int×b):=
 (C0 c e d (0:Int) f).bind fun z=>Sum.elim (fun a=>some ((a.1,a.2))) (fun a=>some (((-1),a))) z
def EI{a:Type}(c:Nat)(b:a→Bool→Option (Bool×a))(d:List Bool)(e:a):Option (Bool×a):=
 (Fj c b d e).bind fun r1=>some ((decide ((0:Int)≤r1.1),r1.2))
def Gj{a:Type}(b:Nat)(c:a→Bool→Option (Bool×a))(d:List Bool)(e:a):Option (Bool×a):=
 (EI b (fun(st:a) (x:Bool)=>(Ew b c x st).bind fun r=>some (r.1,r.2)) d e).bind fun r2=>some ((!r2.1,r2.2))
def DN(e:Nat)(d:Bool)(b:Int)(a:Int)(c:Ap):Option (Bool×Int×Int):=
 cond (!d) (some ((true,0,a))) ((i64 (a+1)).bind fun _=>(i64 (b+1)).bind fun _=>cond (decide ((a+1)≤c.Ao)) (some ((decide ((b+1)≤c.Aw),b+1,a+1))) (some ((false,b+1,a+1))))
def Ey(a:Nat)(b:Ap)(c:List Bool):Option (Bool):=
 (Gj a (fun(st:Int×Int) (x:Bool)=>(DN a x st.1 st.2 b).bind fun r=>some (r.1,(r.2.1,r.2.2))) c (0,0)).bind fun d=>some (d.1)
end Go.Proofs.YtkljfdkmjdjpfaaGreat
end
section
set_option linter.unusedVariables false
set_option linter.unusedSimpArgs false
namespace Go.Proofs.YtkljfdkmjdjpfaaGreat
open Go.RowKit Go.WideShapes
def Ez(c:List Int):Nat→Int→Int→Option (Int)
 |0,_,_=>none
 |d+1,b,a=>cond (decide (a<(c.length:Int))) ((idx c a).bind fun e=>(i64 (a+1)).bind fun _=>Ez c d (min b e) (a+1)) (some (b))
def GQ(b:Nat)(a:List Int):Option (Int):=
 cond (decide ((a.length:Int)<1)) (none) ((idx a (0:Int)).bind fun x2=>(Ez a b x2 (1:Int)).bind fun z3=>some (z3))
def GI(a:Nat)(b:List Int):Option (Int):=
 (GQ a b).bind fun r1=>some (r1)
def CN(b:Int)(d:List Bool):Nat→Int→(List Bool)→Option ((List Bool))
 |0,_,_=>none
 |e+1,a,c=>cond (decide (a<(d.length:Int))) ((Nv b a).bind fun _=>(rem (Fs b a) (2:Int)).bind fun _=>(idx c a).bind fun f=>(i64 (a+1)).bind fun _=>CN b d e (a+1) (c.set a.toNat (((Fs b a)%2)==1))) (some (c))
def CO{c:Type}(d:c→(List Bool)→Option (Bool×c))(g:Nat)(h:Ap):Nat→Int→(List Bool)→c→Option ((c)⊕(c))
 |0,_,_,_=>none
 |j+1,a,e,b=>cond (decide (a<(FQ (1:Int) ((List.replicate (h.Ak+1).toNat false).length:Int)))) ((CN a e g (0:Int) e).bind fun i=>(Ey g h i).bind fun k=>cond (k) ((d b i).bind fun f=>cond (!f.1) (some (.inl f.2)) ((i64 (a+1)).bind fun _=>CO d g h j (a+1) i f.2)) ((i64 (a+1)).bind fun _=>CO d g h j (a+1) i b)) (some (.inr b))
def Dv{c:Type}(d:Nat)(e:c→(List Bool)→Option (Bool×c))(a:Ap)(f:c):Option (c):=
 (i64 (a.Ak+1)).bind fun _=>(Kp (a.Ak+1) 1).bind fun _=>(JG (1:Int) ((List.replicate (a.Ak+1).toNat false).length:Int)).bind fun _=>(CO e d a d (0:Int) (List.replicate (a.Ak+1).toNat false) f).bind fun z=>Sum.elim (fun b=>some (b)) (fun b=>some (b)) z
end Go.Proofs.YtkljfdkmjdjpfaaGreat
end
section
set_option linter.unusedVariables false
set_option linter.unusedSimpArgs false
namespace Go.Proofs.YtkljfdkmjdjpfaaGreat
open Go.RowKit Go.WideShapes
def E9(a:Int)(b:(List Bool)):Option (Bool×Int):=
 (i64 (a+1)).bind fun _=>some (true,a+1)
def DX(e:Nat)(f:Ap):Nat→Int→Int→Option (Int)
 |0,_,_=>none
 |h+1,b,a=>cond (decide (b<(f.Ad.length:Int))) ((idx f.Ad b).bind fun c=>(Fc e (⟨c.Ar,c.AE⟩:CE)).bind fun d=>(i64 (a*d)).bind fun _=>(GI e [a*d,1001]).bind fun g=>(i64 (b+1)).bind fun _=>DX e f h (b+1) g) (some (a))
def Dw(b:Nat)(a:Ap):Option (Int):=
 cond (decide ((9:Int)<a.Ak)) (some (3)) (cond (decide ((2:Int)<a.Ai)) (some (3)) (cond (decide ((4:Int)<(a.Ad.length:Int))) (some (3)) (cond (decide (a.Ak<0)) (some (1)) (cond (decide (a.Ai<1)) (some (1)) ((i64 (a.Ak+1)).bind fun _=>(Ej b a.Ao 0 (a.Ak+1)).bind fun g=>cond (!g) (some (1)) ((i64 (a.Ak+1)).bind fun _=>(Ej b a.Aw 0 (a.Ak+1)).bind fun c=>cond (!c) (some (1)) ((GH b (fun(st:Unit) (x:A3)=>(E8 b a x).bind fun r=>some (r,())) a.Ad ()).bind fun d=>cond (!d.1) (some (1)) ((Dv b (fun(st:Int) (x:(List Bool))=>E9 st x) a (0:Int)).bind fun e=>(DX b a b (0:Int) e).bind fun f=>cond (decide ((1000:Int)<f)) (some (3)) (some (0))))))))))
end Go.Proofs.YtkljfdkmjdjpfaaGreat
end
section
set_option linter.unusedVariables false
set_option linter.unusedSimpArgs false
namespace Go.Proofs.YtkljfdkmjdjpfaaGreat
open Go.RowKit Go.WideShapes
def B7{f:Type}(g:Int→(List Int)→(List Bool)→Ap→f→Option (Bool×(List Int)×f))(e:Int)(j:List Bool)(i:Ap)(k:Int):Nat→Int→(List Int)→f→Option ((Bool×(List Int)×f)⊕((List Int)×f))
 |0,_,_,_=>none
 |l+1,a,b,d=>cond (decide (a<k)) ((idx i.Ad e).bind fun h=>(i64 (h.Ar+a)).bind fun _=>(idx b e).bind fun m=>(i64 (e+1)).bind fun _=>(g (e+1) (b.set e.toNat (h.Ar+a)) j i d).bind fun c=>cond (!c.1) (some (.inl (false,c.2.1,c.2.2))) ((i64 (a+1)).bind fun _=>B7 g e j i k l (a+1) c.2.1 c.2.2)) (some (.inr (b,d)))
def BR{b:Type}(e:Nat)(d:b→AX→Option (Bool×b)):Nat→Int→(List Int)→(List Bool)→Ap→b→Option (Bool×(List Int)×b)
 |0,_,_,_,_,_=>none
 |k+1,f,c,g,h,i=>cond (f==(c.length:Int)) ((d i (⟨c,g⟩:AX)).bind fun r2=>some ((r2.1,c,r2.2))) ((idx h.Ad f).bind fun j=>(Fc e (⟨j.Ar,j.AE⟩:CE)).bind fun l=>(B7 (BR e d k) f g h l e (0:Int) c i).bind fun z=>Sum.elim (fun a=>some ((a.1,a.2.1,a.2.2))) (fun a=>some ((true,a.1,a.2))) z)
end Go.Proofs.YtkljfdkmjdjpfaaGreat
end
section
set_option linter.unusedVariables false
set_option linter.unusedSimpArgs false
namespace Go.Proofs.YtkljfdkmjdjpfaaGreat
open Go.RowKit Go.WideShapes
def Dl{c:Type}(e:c→AX→Option (Bool×c))(f:Nat)(g:Ap)(b:List Int)(d:c)(h:(List Bool)):Option (Bool×((List Int)×c×Bool)):=
 (BR f e f 0 b h g d).bind fun a=>cond (!a.1) (some (false,a.2.1,a.2.2,true)) (some (true,a.2.1,a.2.2,false))
def Fa{a:Type}(d:Nat)(e:a→AX→Option (Bool×a))(b:Ap)(f:a):Option (a):=
 (Kp (b.Ad.length:Int) 8).bind fun _=>(Dv d (fun(st:(List Int)×a×Bool) (x:(List Bool))=>cond st.2.2 none (Dl e d b st.1 st.2.1 x)) b (List.replicate (b.Ad.length:Int).toNat (0:Int),f,false)).bind fun c=>cond (c.2.2) (some (c.2.1)) (some (c.2.1))
end Go.Proofs.YtkljfdkmjdjpfaaGreat
end
section
set_option linter.unusedVariables false
set_option linter.unusedSimpArgs false
namespace Go.Proofs.YtkljfdkmjdjpfaaGreat
open Go.RowKit Go.WideShapes
def Dx(b:List Bool)(c:List Bool):Nat→Int→Option ((Bool)⊕(Unit))
 |0,_=>none
 |d+1,a=>cond (decide (a<(b.length:Int))) ((idx b a).bind fun e=>(idx c a).bind fun f=>cond (e !=f) (some (.inl false)) ((i64 (a+1)).bind fun _=>Dx b c d (a+1))) (some (.inr ()))
def EA(d:Nat)(b:List Bool)(c:List Bool):Option (Bool):=
 cond ((b.length:Int) !=(c.length:Int)) (some (false)) ((Dx b c d (0:Int)).bind fun z=>Sum.elim (fun a=>some (a)) (fun a=>some (true)) z)
def Dm(d:Nat)(c:Ap)(e:AX):Nat→Int→Option ((Bool)⊕(Unit))
 |0,_=>none
 |h+1,a=>cond (decide (a<(c.Ad.length:Int))) ((idx c.Ad a).bind fun b=>(idx e.Comes a).bind fun f=>(Ej d f b.Ar b.AE).bind fun g=>cond (!g) (some (.inl false)) ((i64 (a+1)).bind fun _=>Dm d c e h (a+1))) (some (.inr ()))
def Fl(d:Nat)(a:Ap)(c:AX):Option (Bool):=
 cond ((c.Comes.length:Int) !=(a.Ad.length:Int)) (some (false)) ((i64 (a.Ak+1)).bind fun _=>cond ((c.Ao.length:Int) !=(a.Ak+1)) (some (false)) ((Ey d a c.Ao).bind fun e=>cond (!e) (some (false)) ((Dm d a c d (0:Int)).bind fun z=>Sum.elim (fun b=>some (b)) (fun b=>some (true)) z)))
def DU(i:Cy)(h:HG)(f:A3):Nat→Int→Int→Int→Int→Int→Bool→Option ((Int×Int×Bool)⊕(Int×Int×Bool))
 |0,_,_,_,_,_,_=>none
 |j+1,b,g,a,c,d,e=>cond (decide (a≤i.BF)) ((idx i.Dc a).bind fun k=>cond (k) ((i64 (g+1)).bind fun _=>cond (b==f.AP) (some (.inl (h.day,a,b==f.AP))) (cond ((g+1)==f.Ce) (some (.inl (h.day,a,b==f.AP))) ((i64 (a+1)).bind fun _=>DU i h f j b (g+1) (a+1) c d e))) ((i64 (b+1)).bind fun _=>cond ((b+1)==f.AP) (some (.inl (h.day,a,(b+1)==f.AP))) (cond ((0:Int)==f.Ce) (some (.inl (h.day,a,(b+1)==f.AP))) ((i64 (a+1)).bind fun _=>DU i h f j (b+1) (0:Int) (a+1) c d e)))) (some (.inr (c,d,e)))
def FI(d:Nat)(c:Cy)(b:HG):Option (As):=
 cond (decide (c.BF<b.day)) (some ((⟨(-1),(-1),false⟩:As))) ((idx c.AY b.Cr).bind fun e=>(DU c b e d (0:Int) (0:Int) b.day (0:Int) (0:Int) false).bind fun z=>Sum.elim (fun a=>some ((⟨a.1,a.2.1,a.2.2⟩:As))) (fun a=>some ((⟨b.day,(-1),false⟩:As))) z)
def Ft(d:Nat)(b:Cy)(a:HG):Option (As×(List (List Int×As))):=
 cond (!((BE b.known [a.Cr,a.day]).isSome)) ((FI d b a).bind fun c=>some ((c,HB b.known [a.Cr,a.day] c))) (some ((((BE b.known [a.Cr,a.day]).getD (⟨0,0,false⟩:As)),b.known)))
def DD(i:Nat)(c:Cy)(j:List Int)(g:List Int):Nat→Int→Int→(List As)→(List (List Int×As))→Option ((List As)×(List (List Int×As)))
 |0,_,_,_,_=>none
 |k+1,h,a,d,e=>cond (decide (a<(g.length:Int))) ((idx g a).bind fun f=>(idx j f).bind fun l=>(Ft i (⟨c.BF,c.BX,c.Cj,c.Ck,c.AY,c.Dc,e⟩:Cy) (⟨f,max h l⟩:HG)).bind fun b=>(idx d f).bind fun m=>(i64 (b.1.Bh+1)).bind fun _=>cond (b.1.Bh==(-1)) ((i64 (c.BF+1)).bind fun _=>(i64 (a+1)).bind fun _=>DD i c j g k (c.BF+1) (a+1) (d.set f.toNat b.1) b.2) ((i64 (a+1)).bind fun _=>DD i c j g k (b.1.Bh+1) (a+1) (d.set f.toNat b.1) b.2)) (some ((d,e)))
def Di(d:Nat)(f:Cy)(e:List (List Int))(g:List Int):Nat→Int→(List As)→(List (List Int×As))→Option ((List As)×(List (List Int×As)))
 |0,_,_,_=>none
 |i+1,a,c,b=>cond (decide (a<(e.length:Int))) ((idx e a).bind fun j=>(DD d f g j d (0:Int) (0:Int) c b).bind fun h=>(i64 (a+1)).bind fun _=>Di d f e g i (a+1) h.1 h.2) (some ((c,b)))
def C1(b:Nat)(a:Cy)(c:List (List Int))(d:List Int):Option ((List As)×(List (List Int×As))):=
 (Kp (a.AY.length:Int) 24).bind fun _=>(Di b a c d b (0:Int) (List.replicate (a.AY.length:Int).toNat (⟨0,0,false⟩:As)) a.known).bind fun z3=>some ((z3.1,z3.2))
end Go.Proofs.YtkljfdkmjdjpfaaGreat
end
section
set_option linter.unusedVariables false
set_option linter.unusedSimpArgs false
namespace Go.Proofs.YtkljfdkmjdjpfaaGreat
open Go.RowKit Go.WideShapes
def Dy(c:List (List Int)):Nat→(List Int)→Int→Option ((List Int))
 |0,_,_=>none
 |e+1,b,a=>cond (decide (a<(c.length:Int))) ((idx c a).bind fun d=>(F8 (((b.length+d.length:Nat):Int)≤140737488355328/8)).bind fun _=>(i64 (a+1)).bind fun _=>Dy c e (b++d) (a+1)) (some (b))
def Dn(b:Ap)(z2:(List Int)):Nat→Int→Option ((Bool)⊕(Unit))
 |0,_=>none
 |d+1,a=>cond (decide (a<(b.Ad.length:Int))) (cond (((Db z2).length:Int) !=(b.Ad.length:Int)) (some (.inl false)) ((idx (Db z2) a).bind fun c=>cond (c !=a) (some (.inl false)) ((i64 (a+1)).bind fun _=>Dn b z2 d (a+1)))) (some (.inr ()))
def D6(c:Nat)(b:Ap)(d:List (List Int)):Option (Bool):=
 (Dy d c ([]:List Int) (0:Int)).bind fun z2=>(F8 ((z2.length:Int)≤100000)).bind fun _=>(Dn b z2 c (0:Int)).bind fun z=>Sum.elim (fun a=>some (a)) (fun a=>cond ((d.length:Int)==b.Ai) (some (((Db z2).length:Int)==(b.Ad.length:Int))) (some (false))) z
def E4(b:Nat)(a:Ap)(d:List (List Int))(c:AX):Option ((List As)×Int):=
 (Dw b a).bind fun e=>cond (e !=0) (some ((([]:List As),e))) ((D6 b a d).bind fun h=>cond (!h) (some ((([]:List As),2))) ((Fl b a c).bind fun f=>cond (!f) (some ((([]:List As),2))) ((C1 b (⟨a.Ak,a.Ai,a.Ao,a.Aw,a.Ad,c.Ao,[]⟩:Cy) d c.Comes).bind fun g=>some ((g.1,0)))))
end Go.Proofs.YtkljfdkmjdjpfaaGreat
end
section
set_option linter.unusedVariables false
set_option linter.unusedSimpArgs false
namespace Go.Proofs.YtkljfdkmjdjpfaaGreat
open Go.RowKit Go.WideShapes
def DE(d:Nat)(e:Ap)(c:List As):Nat→Int→Int→Option (Int)
 |0,_,_=>none
 |f+1,b,a=>cond (decide (a<(c.length:Int))) ((idx c a).bind fun i=>(idx e.Ad a).bind fun g=>(Ee d g i).bind fun h=>cond (h) ((i64 (b+1)).bind fun _=>(i64 (a+1)).bind fun _=>DE d e c f (b+1) (a+1)) ((i64 (a+1)).bind fun _=>DE d e c f b (a+1))) (some (b))
def EN(a:Nat)(b:Ap)(c:List As):Option (Int):=
 (DE a b c a (0:Int) (0:Int)).bind fun z4=>some (z4)
def ES(d:Nat)(a:AX)(e:List As)(b:Ap)(c:Int)(f:AX):Option (Bool×Int×AX):=
 (EN d b e).bind fun r2=>cond (decide (c<r2)) ((F8 (((0+a.Comes.length:Nat):Int)≤140737488355328/8)).bind fun _=>(F8 (((0+a.Ao.length:Nat):Int)≤140737488355328/1)).bind fun _=>some ((decide (r2<(b.Ad.length:Int)),r2,a))) (some ((decide (c<(b.Ad.length:Int)),c,f)))
def CI{j:Type}(h:j→(A3×As)→Option (Bool×j))(k:List As)(l:Ap):Nat→Int→Int→Int→Int→Int→j→Option (Int×Int×Int×Int×j)
 |0,_,_,_,_,_,_=>none
 |m+1,a,b,c,d,e,g=>cond (decide (a<(k.length:Int))) ((idx k a).bind fun o=>(idx l.Ad a).bind fun n=>(h g (n,o)).bind fun i=>cond (i.1) ((idx ([b,c,d,e]:List Int) a).bind fun f=>(i64 (f+1)).bind fun _=>(idx ([b,c,d,e]:List Int) a).bind fun p=>(i64 (a+1)).bind fun _=>CI h k l m (a+1) (((⟨b,c,d,e⟩:BN).set a.toNat (f+1)).a0) (((⟨b,c,d,e⟩:BN).set a.toNat (f+1)).a1) (((⟨b,c,d,e⟩:BN).set a.toNat (f+1)).a2) (((⟨b,c,d,e⟩:BN).set a.toNat (f+1)).a3) i.2) ((i64 (a+1)).bind fun _=>CI h k l m (a+1) b c d e i.2)) (some ((b,c,d,e,g)))
def C4{a:Type}(e:Nat)(c:a→(A3×As)→Option (Bool×a))(i:AX)(f:List As)(d:Int)(g:Ap)(b:BN)(h:a):Option (Bool×Int×BN×a):=
 (i64 (d+1)).bind fun _=>(CI c f g e (0:Int) b.a0 b.a1 b.a2 b.a3 h).bind fun z4=>some ((true,d+1,(⟨z4.1,z4.2.1,z4.2.2.1,z4.2.2.2.1⟩:BN),z4.2.2.2.2))
end Go.Proofs.YtkljfdkmjdjpfaaGreat
end
section
set_option linter.unusedVariables false
set_option linter.unusedSimpArgs false
namespace Go.Proofs.YtkljfdkmjdjpfaaGreat
open Go.RowKit Go.WideShapes
def DF{m:Type}(f:m→(AX×(List As))→Option (Bool×m))(n:Nat)(a:Ap)(o:List (List Int))(e:Option Cy)(d:m)(c:AX):Option (Bool×((Option Cy)×m×Bool)):=
 Option.elim e ((F8 (((0+c.Ao.length:Nat):Int)≤140737488355328/1)).bind fun _=>(C1 n (⟨a.Ak,a.Ai,a.Ao,a.Aw,a.Ad,c.Ao,[]⟩:Cy) o c.Comes).bind fun g=>(f d (c,g.1)).bind fun h=>cond (!h.1) (some (false,(some (⟨a.Ak,a.Ai,a.Ao,a.Aw,a.Ad,c.Ao,g.2⟩:Cy)),h.2,true)) (some (true,(some (⟨a.Ak,a.Ai,a.Ao,a.Aw,a.Ad,c.Ao,g.2⟩:Cy)),h.2,false))) (fun b=>(EA n b.Dc c.Ao).bind fun p=>cond (!p) ((F8 (((0+c.Ao.length:Nat):Int)≤140737488355328/1)).bind fun _=>(C1 n (⟨a.Ak,a.Ai,a.Ao,a.Aw,a.Ad,c.Ao,[]⟩:Cy) o c.Comes).bind fun i=>(f d (c,i.1)).bind fun j=>cond (!j.1) (some (false,(some (⟨a.Ak,a.Ai,a.Ao,a.Aw,a.Ad,c.Ao,i.2⟩:Cy)),j.2,true)) (some (true,(some (⟨a.Ak,a.Ai,a.Ao,a.Aw,a.Ad,c.Ao,i.2⟩:Cy)),j.2,false))) ((C1 n b o c.Comes).bind fun k=>(f d (c,k.1)).bind fun l=>cond (!l.1) (some (false,(some (⟨b.BF,b.BX,b.Cj,b.Ck,b.AY,b.Dc,k.2⟩:Cy)),l.2,true)) (some (true,(some (⟨b.BF,b.BX,b.Cj,b.Ck,b.AY,b.Dc,k.2⟩:Cy)),l.2,false))))
def Fu{a:Type}(c:Nat)(d:a→(AX×(List As))→Option (Bool×a))(e:Ap)(f:List (List Int))(g:a):Option (a):=
 (Fa c (fun(st:(Option Cy)×a×Bool) (x:AX)=>cond st.2.2 none (DF d c e f st.1 st.2.1 x)) e (none,g,false)).bind fun b=>cond (b.2.2) (some (b.2.1)) (some (b.2.1))
end Go.Proofs.YtkljfdkmjdjpfaaGreat
end
section
set_option linter.unusedVariables false
set_option linter.unusedSimpArgs false
namespace Go.Proofs.YtkljfdkmjdjpfaaGreat
open Go.RowKit Go.WideShapes
def Cz{a:Type}(c:Nat)(d:a→(A3×As)→Option (Bool×a))(e:Ap)(f:List (List Int))(g:a):Option (BN×Int×a):=
 (Fu c (fun(st:Int×BN×a) (x:AX×(List As))=>(C4 c d x.1 x.2 st.1 e st.2.1 st.2.2).bind fun r=>some (r.1,(r.2.1,r.2.2.1,r.2.2.2))) e f (0,(⟨0,0,0,0⟩:BN),g)).bind fun b=>some ((b.2.1,b.1,b.2.2))
def Fv(a:Nat)(b:Ap)(d:List (List Int)):Option (Int×AX):=
 (Fu a (fun(st:Int×AX) (x:AX×(List As))=>(ES a x.1 x.2 b st.1 st.2).bind fun r=>some (r.1,(r.2.1,r.2.2))) b d ((-1),(⟨([]:List Int),([]:List Bool)⟩:AX))).bind fun c=>some ((c.1,c.2))
def EC(b:Nat)(c:Ap)(e:List (List Int))(f:Int):Option (Int×Int):=
 (Dw b c).bind fun r2=>cond (r2 !=0) (some ((0,r2))) ((D6 b c e).bind fun h=>cond (!h) (some ((0,2))) ((FL b c f).bind fun g=>cond (!g) (some ((0,2))) ((Cz b (fun(st:Unit) (x:A3×As)=>(Df b x.1 x.2).bind fun r=>some (r,())) c e ()).bind fun a=>(idx ([a.1.a0,a.1.a1,a.1.a2,a.1.a3]:List Int) f).bind fun d=>cond (d==a.2.1) (some ((1,0))) (cond (d==0) (some ((2,0))) (some ((3,0)))))))
def Gt(b:Nat)(c:Ap)(d:List (List Int)):Option (Int×AX×Int):=
 (Dw b c).bind fun e=>cond (e !=0) (some ((0,(⟨([]:List Int),([]:List Bool)⟩:AX),e))) ((D6 b c d).bind fun f=>cond (!f) (some ((0,(⟨([]:List Int),([]:List Bool)⟩:AX),2))) ((Fv b c d).bind fun a=>some ((a.1,a.2,0))))
def Fe(a:Nat)(b:Ap)(c:List (List Int))(d:Int):Option (Bool):=
 (Gt a b c).bind fun r2=>cond (r2.2.2==0) (some (decide (r2.1≤d))) (some (false))
def Fw(a:Nat)(b:Ap)(d:List (List Int))(e:AX)(f:Int):Option (Bool):=
 (E4 a b d e).bind fun c=>cond (c.2==0) ((EN a b c.1).bind fun g=>some (decide (f≤g))) (some (false))
end Go.Proofs.YtkljfdkmjdjpfaaGreat
end
section
set_option linter.unusedVariables false
set_option linter.unusedSimpArgs false
namespace Go.Proofs.YtkljfdkmjdjpfaaGreat
open Go.RowKit Go.WideShapes
def EO(c:List (List Int)):Nat→Int→(List (List Int))→Option ((List (List Int)))
 |0,_,_=>none
 |e+1,a,b=>cond (decide (a<(c.length:Int))) ((idx b a).bind fun d=>(F8 (((0+d.length:Nat):Int)≤140737488355328/8)).bind fun _=>(idx b a).bind fun f=>(i64 (a+1)).bind fun _=>EO c e (a+1) (b.set a.toNat d)) (some (b))
def Fg(b:Nat)(a:List (List Int)):Option ((List (List Int))):=
 (F8 (((0+a.length:Nat):Int)≤140737488355328/24)).bind fun _=>(EO a b (0:Int) a).bind fun z4=>some (z4)
end Go.Proofs.YtkljfdkmjdjpfaaGreat
end
section
set_option linter.unusedVariables false
set_option linter.unusedSimpArgs false
namespace Go.Proofs.YtkljfdkmjdjpfaaGreat
open Go.RowKit Go.WideShapes
def Gd(b:Nat)(c:List (List Int))(d:Ap)(a:Int)(e:List (List Int)):Option (Bool×Int×(List (List Int))):=
 (Fv b d c).bind fun r1=>cond (decide (r1.1<a)) ((Fg b c).bind fun f=>some ((decide ((0:Int)<r1.1),r1.1,f))) (some ((decide ((0:Int)<a),a,e)))
def Ef(c:Ap)(r1:BN×Int×Unit):Nat→Int→Int→Option (Int)
 |0,_,_=>none
 |d+1,b,a=>cond (decide (a<(c.Ad.length:Int))) ((idx ([r1.1.a0,r1.1.a1,r1.1.a2,r1.1.a3]:List Int) a).bind fun e=>cond (e==0) ((i64 (b+1)).bind fun _=>(i64 (a+1)).bind fun _=>Ef c r1 d (b+1) (a+1)) ((i64 (a+1)).bind fun _=>Ef c r1 d b (a+1))) (some (b))
def D5(c:Ap)(r1:BN×Int×Unit):Nat→Int→Int→Option (Int)
 |0,_,_=>none
 |d+1,b,a=>cond (decide (a<(c.Ad.length:Int))) ((idx ([r1.1.a0,r1.1.a1,r1.1.a2,r1.1.a3]:List Int) a).bind fun e=>cond (e==0) ((i64 (b+1)).bind fun _=>(i64 (a+1)).bind fun _=>D5 c r1 d (b+1) (a+1)) ((i64 (a+1)).bind fun _=>D5 c r1 d b (a+1))) (some (b))
def EJ(c:Nat)(e:List (List Int))(b:Ap)(a:Int)(d:BN)(f:List (List Int)):Option (Bool×Int×BN×(List (List Int))):=
 (Cz c (fun(st:Unit) (x:A3×As)=>(Ee c x.1 x.2).bind fun r=>some (r,())) b e ()).bind fun r1=>cond (decide ((0:Int)≤a)) (cond ([r1.1.a0,r1.1.a1,r1.1.a2,r1.1.a3]==[d.a0,d.a1,d.a2,d.a3]) (some ((true,a,d,f))) ((Ef b r1 c (0:Int) (0:Int)).bind fun z9=>cond (decide (a<z9)) ((Fg c e).bind fun g=>some ((decide (z9<(b.Ad.length:Int)),z9,r1.1,g))) (some ((decide (a<(b.Ad.length:Int)),a,r1.1,f))))) ((D5 b r1 c (0:Int) (0:Int)).bind fun z22=>cond (decide (a<z22)) ((Fg c e).bind fun h=>some ((decide (z22<(b.Ad.length:Int)),z22,r1.1,h))) (some ((decide (a<(b.Ad.length:Int)),a,r1.1,f))))
end Go.Proofs.YtkljfdkmjdjpfaaGreat
end
section
set_option linter.unusedVariables false
set_option linter.unusedSimpArgs false
namespace Go.Proofs.YtkljfdkmjdjpfaaGreat
open Go.RowKit Go.WideShapes
def Cm{g:Type}(h:Int→Ap→(List (List Int))→g→Option (Bool×(List (List Int))×g))(i:Int)(j:Ap)(c:Int)(f:List Int):Nat→Int→(List (List Int))→g→Option ((Bool×(List (List Int))×g)⊕((List (List Int))×g))
 |0,_,_,_=>none
 |k+1,a,b,e=>cond (decide (a<((f.length:Int)+1))) ((F8 (((0+f.length:Nat):Int)≤140737488355328/8)).bind fun _=>(F8 (0≤a∧a≤(f.length:Int)∧((f.length:Int)+1)*8≤140737488355328)).bind fun _=>(idx b c).bind fun l=>(i64 (i+1)).bind fun _=>(h (i+1) j (b.set c.toNat (CP f a i)) e).bind fun d=>cond (!d.1) (some (.inl (false,d.2.1,d.2.2))) ((i64 (a+1)).bind fun _=>Cm h i j c f k (a+1) d.2.1 d.2.2)) (some (.inr (b,e)))
def B9{e:Type}(f:Int→Ap→(List (List Int))→e→Option (Bool×(List (List Int))×e))(h:Nat)(i:Int)(j:Ap)(k:List (List Int)):Nat→Int→(List (List Int))→e→Option ((Bool×(List (List Int))×e)⊕((List (List Int))×e))
 |0,_,_,_=>none
 |l+1,a,b,d=>cond (decide (a<(k.length:Int))) ((idx b a).bind fun g=>(i64 ((g.length:Int)+1)).bind fun _=>(Cm f i j a g h (0:Int) b d).bind fun z=>Sum.elim (fun c=>some (.inl (c.1,c.2.1,c.2.2))) (fun c=>(idx c.1 a).bind fun m=>(i64 (a+1)).bind fun _=>B9 f h i j k l (a+1) (c.1.set a.toNat g) c.2) z) (some (.inr (b,d)))
def By{b:Type}(e:Nat)(d:b→(List (List Int))→Option (Bool×b)):Nat→Int→Ap→(List (List Int))→b→Option (Bool×(List (List Int))×b)
 |0,_,_,_,_=>none
 |i+1,f,g,c,h=>cond (f==(g.Ad.length:Int)) ((d h c).bind fun r2=>some ((r2.1,c,r2.2))) ((B9 (By e d i) e f g c e (0:Int) c h).bind fun z=>Sum.elim (fun a=>some ((a.1,a.2.1,a.2.2))) (fun a=>some ((true,a.1,a.2))) z)
end Go.Proofs.YtkljfdkmjdjpfaaGreat
end
section
set_option linter.unusedVariables false
set_option linter.unusedSimpArgs false
namespace Go.Proofs.YtkljfdkmjdjpfaaGreat
open Go.RowKit Go.WideShapes
def ET{a:Type}(c:Nat)(d:a→(List (List Int))→Option (Bool×a))(b:Ap)(e:a):Option (a):=
 (Kp b.Ai 24).bind fun _=>(By c d c 0 b (List.replicate b.Ai.toNat ([]:List Int)) e).bind fun f=>some (f.2.2)
end Go.Proofs.YtkljfdkmjdjpfaaGreat
end
section
set_option linter.unusedVariables false
set_option linter.unusedSimpArgs false
namespace Go.Proofs.YtkljfdkmjdjpfaaGreat
open Go.RowKit Go.WideShapes
def Gu(c:Nat)(a:Ap):Option ((List (List Int))×Int×Int):=
 (Dw c a).bind fun d=>cond (d !=0) (some ((([]:List (List Int)),0,d))) ((i64 ((a.Ad.length:Int)+1)).bind fun _=>(ET c (fun(st:Int×(List (List Int))) (x:(List (List Int)))=>(Gd c x a st.1 st.2).bind fun r=>some (r.1,(r.2.1,r.2.2))) a ((a.Ad.length:Int)+1,([]:List (List Int)))).bind fun b=>some ((b.2,b.1,0)))
def Gv(b:Nat)(c:Ap):Option ((List (List Int))×Int×Int):=
 (Dw b c).bind fun d=>cond (d !=0) (some ((([]:List (List Int)),0,d))) ((ET b (fun(st:Int×BN×(List (List Int))) (x:(List (List Int)))=>(EJ b x c st.1 st.2.1 st.2.2).bind fun r=>some (r.1,(r.2.1,r.2.2.1,r.2.2.2))) c ((-1),(⟨0,0,0,0⟩:BN),([]:List (List Int)))).bind fun a=>some ((a.2.2,a.1,0)))
end Go.Proofs.YtkljfdkmjdjpfaaGreat
end
section
set_option linter.unusedVariables false
set_option linter.unusedSimpArgs false
namespace Go.Proofs.YtkljfdkmjdjpfaaGreat
open Go.RowKit Go.WideShapes
def DV(e:Nat)(c:Ap):Nat→(List Int)→Int→Option ((List Int))
 |0,_,_=>none
 |f+1,b,a=>cond (decide (a<(c.Ad.length:Int))) ((Kp c.Ai 24).bind fun _=>(idx (List.replicate c.Ai.toNat ([]:List Int)) (0:Int)).bind fun _=>(I8 (c.Ad.length:Int) a e (0:Int) ((List.replicate c.Ai.toNat ([]:List Int)).set 0 [a])).bind fun g=>(Cz e (fun(st:Unit) (x:A3×As)=>(Df e x.1 x.2).bind fun r=>some (r,())) c g ()).bind fun d=>(idx ([d.1.a0,d.1.a1,d.1.a2,d.1.a3]:List Int) a).bind fun h=>cond (h==d.2.1) ((i64 (a+1)).bind fun _=>DV e c f b (a+1)) ((F8 (((b.length+[a].length:Nat):Int)≤140737488355328/8)).bind fun _=>(i64 (a+1)).bind fun _=>DV e c f (b++[a]) (a+1))) (some (b))
def FJ(a:Nat)(b:Ap):Option ((List Int)×Int):=
 (Dw a b).bind fun r2=>cond (r2 !=0) (some ((([]:List Int),r2))) ((DV a b a ([]:List Int) (0:Int)).bind fun z5=>some ((z5,0)))
end Go.Proofs.YtkljfdkmjdjpfaaGreat
end
section
set_option linter.unusedVariables false
set_option linter.unusedSimpArgs false
namespace Go.Proofs.YtkljfdkmjdjpfaaGreat
open Go.RowKit Go.WideShapes
def DY(g:Nat)(h:Ap):Nat→Int→Int→(List Int)→Option ((List Int))
 |0,_,_,_=>none
 |i+1,a,d,b=>cond (decide (d<(h.Ad.length:Int))) ((idx h.Ad d).bind fun c=>(Ed g (⟨c.Ar,c.AE⟩:CE)).bind fun e=>(rem a e).bind fun _=>(i64 (c.Ar+(a%e))).bind fun _=>(F8 (((b.length+[c.Ar+(a%e)].length:Nat):Int)≤140737488355328/8)).bind fun _=>(Ed g (⟨c.Ar,c.AE⟩:CE)).bind fun f=>(quo a f).bind fun _=>(i64 (a/f)).bind fun _=>(i64 (d+1)).bind fun _=>DY g h i (a/f) (d+1) (b++[c.Ar+(a%e)])) (some (b))
def DO(d:Nat)(e:Ap)(f:Int):Nat→Int→(List Bool)→Option ((List Bool))
 |0,_,_=>none
 |g+1,a,b=>cond (decide (a≤e.Ak)) ((DI d f a).bind fun c=>(F8 (((b.length+[c].length:Nat):Int)≤140737488355328/1)).bind fun _=>(i64 (a+1)).bind fun _=>DO d e f g (a+1) (b++[c])) (some (b))
def FM(c:Nat)(d:Ap)(a:List Int)(b:Int):Option (AX):=
 (rem b (a.length:Int)).bind fun _=>(idx a (b%(a.length:Int))).bind fun e=>(quo b (a.length:Int)).bind fun _=>(i64 (b/(a.length:Int))).bind fun _=>(DY c d c (b/(a.length:Int)) (0:Int) ([]:List Int)).bind fun f=>(DO c d e c (0:Int) ([]:List Bool)).bind fun z23=>some ((⟨f,z23⟩:AX))
def Dg(e:Nat)(f:Ap)(g:List (List Int))(c:Int):Nat→Int→Int→Option ((Bool)⊕(Int))
 |0,_,_=>none
 |j+1,a,b=>(idx g c).bind fun k=>cond (decide (b<(k.length:Int))) ((idx g c).bind fun l=>(idx l b).bind fun d=>(i64 ((f.Ad.length:Int)-1)).bind fun _=>(CZ e d 0 ((f.Ad.length:Int)-1)).bind fun h=>cond (!h) (some (.inl false)) ((DI e a d).bind fun i=>cond (i) (some (.inl false)) ((J4 .u64 d).bind fun _=>(JG (1:Int) d).bind fun _=>(Pn a (FQ (1:Int) d)).bind fun _=>(i64 (b+1)).bind fun _=>Dg e f g c j (OA a (FQ (1:Int) d)) (b+1)))) (some (.inr a))
def Dh(d:Nat)(f:Ap)(e:List (List Int)):Nat→Int→Int→Option ((Bool)⊕(Int))
 |0,_,_=>none
 |g+1,b,a=>cond (decide (a<(e.length:Int))) ((Dg d f e a d b (0:Int)).bind fun z=>Sum.elim (fun c=>some (.inl c)) (fun c=>(i64 (a+1)).bind fun _=>Dh d f e g c (a+1)) z) (some (.inr b))
def DP(c:Nat)(a:Ap)(d:List (List Int)):Option (Bool):=
 cond ((d.length:Int) !=a.Ai) (some (false)) ((Dh c a d c (0:Int) (0:Int)).bind fun z=>Sum.elim (fun b=>some (b)) (fun b=>(J4 .u64 (a.Ad.length:Int)).bind fun _=>(JG (1:Int) (a.Ad.length:Int)).bind fun _=>(i64 ((FQ (1:Int) (a.Ad.length:Int))-1)).bind fun _=>some (b==((FQ (1:Int) (a.Ad.length:Int))-1))) z)
end Go.Proofs.YtkljfdkmjdjpfaaGreat
end
section
set_option linter.unusedVariables false
set_option linter.unusedSimpArgs false
namespace Go.Proofs.YtkljfdkmjdjpfaaGreat
open Go.RowKit Go.WideShapes
def Dz(c:List (List Int)):Nat→(List (List Int))→Int→Option ((List (List Int)))
 |0,_,_=>none
 |e+1,b,a=>cond (decide (a<(c.length:Int))) ((idx c a).bind fun d=>(F8 (((([]:List Int).length+d.length:Nat):Int)≤140737488355328/8)).bind fun _=>(F8 (((b.length+[([]:List Int)++d].length:Nat):Int)≤140737488355328/24)).bind fun _=>(i64 (a+1)).bind fun _=>Dz c e (b++[([]:List Int)++d]) (a+1)) (some (b))
def Dj(a:Nat)(b:List (List Int)):Option ((List (List Int))):=
 (Dz b a ([]:List (List Int)) (0:Int)).bind fun z2=>some (z2)
def DG(b:Nat)(a:AX):Option (AX):=
 (F8 (((([]:List Int).length+a.Comes.length:Nat):Int)≤140737488355328/8)).bind fun _=>(F8 (((([]:List Bool).length+a.Ao.length:Nat):Int)≤140737488355328/1)).bind fun _=>some ((⟨([]:List Int)++a.Comes,([]:List Bool)++a.Ao⟩:AX))
def Fm(a:Nat)(b:Ap):Option (Bool):=
 (FD a b).bind fun r2=>cond (r2) ((Fk a b).bind fun c=>some (c==0)) (some (false))
def FE(d:Nat)(a:List Int)(b:Int):Option (Int):=
 cond ((a.length:Int)==0) (some (0)) ((rem b (a.length:Int)).bind fun _=>(idx a (b%(a.length:Int))).bind fun c=>(J4 .i64 c).bind fun _=>some (c))
def DA(h:Nat)(f:Ap)(i:List Int):Nat→Int→(List (List Int))→Option ((List (List Int)))
 |0,_,_=>none
 |j+1,c,d=>cond (decide (c<(f.Ad.length:Int))) ((FE h i c).bind fun a=>(rem a f.Ai).bind fun _=>(quo a (4:Int)).bind fun _=>(i64 (a/4)).bind fun _=>(idx d (a%f.Ai)).bind fun b=>(i64 ((b.length:Int)+1)).bind fun _=>(rem (a/4) ((b.length:Int)+1)).bind fun _=>(idx d (a%f.Ai)).bind fun g=>(NA g.length (0:Int) ((a/4)%((b.length:Int)+1))).bind fun _=>(F8 (((([]:List Int).length+(CL g (0:Int) ((a/4)%((b.length:Int)+1))).length:Nat):Int)≤140737488355328/8)).bind fun _=>(F8 ((((([]:List Int)++(CL g (0:Int) ((a/4)%((b.length:Int)+1)))).length+[c].length:Nat):Int)≤140737488355328/8)).bind fun _=>(idx d (a%f.Ai)).bind fun e=>(NA e.length ((a/4)%((b.length:Int)+1)) (e.length:Int)).bind fun _=>(F8 (((((([]:List Int)++(CL g (0:Int) ((a/4)%((b.length:Int)+1))))++[c]).length+(CL e ((a/4)%((b.length:Int)+1)) (e.length:Int)).length:Nat):Int)≤140737488355328/8)).bind fun _=>(idx d (a%f.Ai)).bind fun k=>(i64 (c+1)).bind fun _=>DA h f i j (c+1) (d.set (a%f.Ai).toNat (((([]:List Int)++(CL g (0:Int) ((a/4)%((b.length:Int)+1))))++[c])++(CL e ((a/4)%((b.length:Int)+1)) (e.length:Int))))) (some (d))
def Fo(b:Nat)(a:Ap)(c:List Int):Option ((List (List Int))):=
 (Kp a.Ai 24).bind fun _=>(DA b a c b (0:Int) (List.replicate a.Ai.toNat ([]:List Int))).bind fun z4=>some (z4)
def FF(a:Nat)(b:Ap)(c:Int):Option (AX):=
 (D1 a b).bind fun e=>(J4 .i64 c).bind fun _=>(Dr a b).bind fun d=>(rem c d).bind fun _=>(FM a b e (c%d)).bind fun f=>some (f)
def CX(d:Ap)(c:List As):Nat→Int→Int→Option (Int)
 |0,_,_=>none
 |e+1,b,a=>cond (decide (a<(c.length:Int))) (cond (decide (a<(d.Ad.length:Int))) ((idx c a).bind fun h=>cond (!h.AP) ((i64 (b+1)).bind fun _=>(i64 (a+1)).bind fun _=>CX d c e (b+1) (a+1)) ((idx c a).bind fun f=>(idx d.Ad a).bind fun g=>cond (decide (g.BZ<f.Bh)) ((i64 (b+1)).bind fun _=>(i64 (a+1)).bind fun _=>CX d c e (b+1) (a+1)) ((i64 (a+1)).bind fun _=>CX d c e b (a+1)))) (some (b))) (some (b))
def EU(c:Nat)(a:Ap)(b:List As):Option (Int×Bool):=
 (CX a b c (0:Int) (0:Int)).bind fun z2=>some ((z2,(b.length:Int)==(a.Ad.length:Int)))
end Go.Proofs.YtkljfdkmjdjpfaaGreat
end
section
set_option linter.unusedVariables false
set_option linter.unusedSimpArgs false
namespace Go.Proofs.YtkljfdkmjdjpfaaGreat
open Go.RowKit Go.WideShapes
def EB(a:Nat):Option (Bool):=
 (CH a 1).bind fun r1=>(Gy a 3).bind fun v=>(E4 a r1 [[0,1]] v).bind fun h=>(CH a 1).bind fun w=>(EC a w [[0,1]] 1).bind fun d=>(CH a 1).bind fun i=>(EC a i [[1,0]] 0).bind fun e=>(CH a 1).bind fun j=>(Gt a j [[1,0]]).bind fun b=>(CH a 1).bind fun k=>(Gu a k).bind fun c=>(CH a 1).bind fun l=>(Gv a l).bind fun f=>(CH a 1).bind fun m=>(FJ a m).bind fun g=>cond (h.2==0) ((ER a 0 1 true).bind fun n=>(ER a 2 3 false).bind fun o=>(Gz a h.1 n o).bind fun p=>cond (p) (cond (d.2==0) (cond (d.1==3) (cond (e.2==0) (cond (e.1==2) (cond (b.2.2==0) (cond (b.1==2) ((CH a 1).bind fun q=>(Fw a q [[1,0]] b.2.1 2).bind fun r=>cond (r) (cond (c.2.2==0) (cond (c.2.1==1) ((CH a 1).bind fun s=>(Fe a s c.1 1).bind fun t=>cond (t) (cond (f.2.2==0) (cond (f.2.1==1) (cond (g.2==0) ((FC a g.1 [1]).bind fun u=>some (u)) (some (false))) (some (false))) (some (false))) (some (false))) (some (false))) (some (false))) (some (false))) (some (false))) (some (false))) (some (false))) (some (false))) (some (false))) (some (false))) (some (false))) (some (false))
end Go.Proofs.YtkljfdkmjdjpfaaGreat
end
section
namespace Go.Proofs.YtkljfdkmjdjpfaaGreat
theorem bd{α β:Type}{x:Option α}{a:α}{f:α→Option β}(h:x=some a):x.bind f=f a:=by rw[h];rfl
theorem BD{β:Type}{x:Int}{f:Int→Option β}(h0:-9223372036854775808≤x)(h1:x≤9223372036854775807):(i64 x).bind f=f x:=bd (TK h0 h1)
theorem C2{α β:Type}{xs:List α}{k:Nat}{f:α→Option β}(h:k<xs.length):(idx xs (k:Int)).bind f=f xs[k]:=bd (idx_eq h)
theorem FR{β:Type}{p:Prop}[Decidable p]{f:Unit→Option β}(h:p):(F8 p).bind f=f ():=bd (if_pos h)
theorem Kx{β:Type}{a b:Int}{f:Int→Option β}(h0:0≤a)(h1:1≤b):(rem a b).bind f=f (a%b):=bd (if_pos ⟨h0,h1⟩)
theorem Rl{β:Type}{a b:Int}{f:Int→Option β}(h0:0≤a)(h1:1≤b):(quo a b).bind f=f (a/b):=bd (if_pos ⟨h0,h1⟩)
theorem OH{β:Type}{n:Int}{b:Nat}{f:Unit→Option β}(h0:0≤n)(h1:n*b≤140737488355328)(a:n≤140737488355328):(Kp n b).bind f=f ():=bd (if_pos ⟨h0,h1,a⟩)
theorem ct{α:Type}{b:Bool}{x y:α}(h:b=true):cond b x y=x:=by rw[h];rfl
theorem cf{α:Type}{b:Bool}{x y:α}(h:b=false):cond b x y=y:=by rw[h];rfl
theorem nt{α:Type}{x y:α}:cond (!true) x y=y:=rfl
theorem nf{α:Type}{x y:α}:cond (!false) x y=x:=rfl
theorem dt{p:Prop}[Decidable p](h:p):decide p=true:=decide_eq_true h
theorem df{p:Prop}[Decidable p](h:¬p):decide p=false:=decide_eq_false h
theorem Dt(i:Nat):(i:Int)+1=((i+1:Nat):Int):=by omega
def Fy(n a b:Int):Bool:=decide (a≤n)&&decide (n≤b)
theorem EV{n a b:Int}:Fy n a b=true↔a≤n∧n≤b:=by simp[Fy]
theorem Ky(K:Nat)(n a b:Int):CZ K n a b=some (Fy n a b):=by unfold CZ Fy;cases decide (a≤n)<;>rfl
theorem Hm(K:Nat)(n a b:Int):Ej K n a b=some (Fy n a b):=by unfold Ej Fy;cases decide (a≤n)<;>rfl
def run {σ α:Type} (cb:σ→α→Option (Bool×σ)):List α→σ→Option (Bool×σ)
 |[],s=>some (true,s)
 |x::l,s=>(cb s x).bind fun r=>cond r.1 (run cb l r.2) (some (false,r.2))
theorem HH{σ α:Type}(cb:σ→α→Option (Bool×σ))(a:List α):∀(b:List α) (s:σ),run cb (b++a) s=(run cb b s).bind fun r=>cond r.1 (run cb a r.2) (some (false,r.2))
 |[],s=>rfl
 |x::l,s=>by
  simp only[List.cons_append,run];cases cb s x with
  |none=>rfl
  |some r=>
   simp only[Option.bind_some];cases h:r.1 with
   |false=>simp
   |true=>simpa using HH cb a l r.2
theorem run_map{σ α β:Type}(cb:σ→β→Option (Bool×σ))(f:α→β):∀(l:List α) (s:σ),run cb (l.map f) s=run (fun s x=>cb s (f x)) l s
 |[],s=>rfl
 |x::l,s=>by simp only[List.map_cons,run,run_map cb f l]
theorem Pv{σ:Type}(K:Nat)(cb:σ→Bool→Option (Bool×σ))(p:List Bool)(a:p.length≤5000):∀(n m i:Nat) (s:σ),p.length=i+n→n<m→
  (C0 (fun(st:σ) (x:Bool)=>(Ew K cb x st).bind fun r=>some (r.1,r.2)) p m (i:Int) s).bind (fun z=>Sum.elim (fun q=>some (decide ((0:Int)≤q.1),q.2)) (fun q=>some (false,q)) z)=(run cb (p.drop i) s).bind fun r=>some (!r.1,r.2):=by
 intro n
 induction n with
 |zero=>
  intro m i s h hm;cases m with
  |zero=>omega
  |succ m=>
   rw[C0.eq_2,cf (df (by omega)),List.drop_eq_nil_of_le (by omega)];rfl
 |succ n ih=>
  intro m i s h hm;cases m with
  |zero=>omega
  |succ m=>
   have hi:i<p.length:=by omega
   rw[C0.eq_2,ct (dt (by omega)),C2 hi,List.drop_eq_getElem_cons hi];simp only[run];have e:(Ew K cb p[i] s).bind (fun r=>some (r.1,r.2))=(cb s p[i]).bind fun r=>some (!r.1,r.2):=by
    unfold Ew;cases cb s p[i]<;>rfl
   rw[e];cases b:cb s p[i] with
   |none=>rfl
   |some r=>
    simp only[Option.bind_some];cases c:r.1 with
    |false=>
     show some (decide ((0:Int)≤(i:Int)),r.2)=some (!false,r.2);rw[dt (by omega)];rfl
    |true=>
     rw[nt,BD (by omega) (by omega),Dt];exact ih m (i+1) r.2 (by omega) (by omega)
theorem Pw{σ:Type}{K:Nat}(cb:σ→Bool→Option (Bool×σ))(p:List Bool)(s:σ)(b:p.length≤5000)(hK:p.length<K):Gj K cb p s=run cb p s:=by
 unfold Gj EI Fj;have h:=Pv K cb p b p.length K 0 s (by omega) hK;rw[List.drop_zero,Int.natCast_zero] at h;have e:∀(z:(Int×σ)⊕σ),(Sum.elim (fun a=>some ((a.1,a.2))) (fun a=>some (((-1),a))) z:Option (Int×σ)).bind (fun r1=>some ((decide ((0:Int)≤r1.1),r1.2)))=Sum.elim (fun q=>some (decide ((0:Int)≤q.1),q.2)) (fun q=>some (false,q)) z:=by
  intro z;cases z<;>rfl
 refine Eq.trans (congrArg (fun z=>Option.bind z _) ((Option.bind_assoc _ _ _).trans ((congrArg (fun f=>Option.bind _ f) (funext e)).trans h))) ?_;cases run cb p s with
 |none=>rfl
 |some r=>show some (!(!r.1),r.2)=some r;rw[Bool.not_not]
theorem P6{σ:Type}(K:Nat)(cb:σ→A3→Option (Bool×σ))(p:List A3)(a:p.length≤5000):∀(n m i:Nat) (s:σ),p.length=i+n→n<m→
  (C8 (fun(st:σ) (x:A3)=>(EM K cb x st).bind fun r=>some (r.1,r.2)) p m (i:Int) s).bind (fun z=>Sum.elim (fun q=>some (decide ((0:Int)≤q.1),q.2)) (fun q=>some (false,q)) z)=(run cb (p.drop i) s).bind fun r=>some (!r.1,r.2):=by
 intro n
 induction n with
 |zero=>
  intro m i s h hm;cases m with
  |zero=>omega
  |succ m=>
   rw[C8.eq_2,cf (df (by omega)),List.drop_eq_nil_of_le (by omega)];rfl
 |succ n ih=>
  intro m i s h hm;cases m with
  |zero=>omega
  |succ m=>
   have hi:i<p.length:=by omega
   rw[C8.eq_2,ct (dt (by omega)),C2 hi,List.drop_eq_getElem_cons hi];simp only[run];have e:(EM K cb p[i] s).bind (fun r=>some (r.1,r.2))=(cb s p[i]).bind fun r=>some (!r.1,r.2):=by
    unfold EM;cases cb s p[i]<;>rfl
   rw[e];cases b:cb s p[i] with
   |none=>rfl
   |some r=>
    simp only[Option.bind_some];cases c:r.1 with
    |false=>
     show some (decide ((0:Int)≤(i:Int)),r.2)=some (!false,r.2);rw[dt (by omega)];rfl
    |true=>
     rw[nt,BD (by omega) (by omega),Dt];exact ih m (i+1) r.2 (by omega) (by omega)
theorem P7{σ:Type}{K:Nat}(cb:σ→A3→Option (Bool×σ))(p:List A3)(s:σ)(b:p.length≤5000)(hK:p.length<K):GH K cb p s=run cb p s:=by
 unfold GH E0 FA;have h:=P6 K cb p b p.length K 0 s (by omega) hK;rw[List.drop_zero,Int.natCast_zero] at h;have e:∀(z:(Int×σ)⊕σ),(Sum.elim (fun a=>some ((a.1,a.2))) (fun a=>some (((-1),a))) z:Option (Int×σ)).bind (fun r1=>some ((decide ((0:Int)≤r1.1),r1.2)))=Sum.elim (fun q=>some (decide ((0:Int)≤q.1),q.2)) (fun q=>some (false,q)) z:=by
  intro z;cases z<;>rfl
 refine Eq.trans (congrArg (fun z=>Option.bind z _) ((Option.bind_assoc _ _ _).trans ((congrArg (fun f=>Option.bind _ f) (funext e)).trans h))) ?_;cases run cb p s with
 |none=>rfl
 |some r=>show some (!(!r.1),r.2)=some r;rw[Bool.not_not]
def okW (W R:Int):List Bool→Int→Int→Bool
 |[],_,_=>true
 |false::l,s,_=>okW W R l s 0
 |true::l,s,r=>decide (s+1≤W)&&(decide (r+1≤R)&&okW W R l (s+1) (r+1))
theorem JN(K:Nat)(y:Ap):∀(l:List Bool) (r s:Int),0≤r→0≤s→r+l.length≤5000→s+l.length≤5000→
  (run (fun(st:Int×Int) (x:Bool)=>(DN K x st.1 st.2 y).bind fun r=>some (r.1,(r.2.1,r.2.2))) l (r,s)).bind (fun c=>some (c.1))=some (okW y.Ao y.Aw l s r)
 |[],r,s,_,_,_,_=>rfl
 |false::l,r,s,h1,b,h3,a=>by
  simp only[run,okW];unfold DN;simp only[Bool.not_false,cond_true,Option.bind_some];exact JN K y l 0 s (by omega) b (by simp at h3;omega) (by simp at a;omega)
 |true::l,r,s,h1,b,h3,a=>by
  simp only[List.length_cons] at h3 a;simp only[run,okW];unfold DN;simp only[Bool.not_true,cond_false];rw[BD (by omega) (by omega),BD (by omega) (by omega)];cases d:decide (s+1≤y.Ao) with
  |false=>simp
  |true=>
   simp only[cond_true,Option.bind_some];cases e:decide (r+1≤y.Aw) with
   |false=>simp
   |true=>
    simp only[cond_true,Bool.true_and];exact JN K y l (r+1) (s+1) (by omega) (by omega) (by omega) (by omega)
theorem MM{K:Nat}(y:Ap)(l:List Bool)(a:l.length≤4000)(hK:l.length<K):Ey K y l=some (okW y.Ao y.Aw l 0 0):=by
 unfold Ey;rw[Pw _ l _ (by omega) hK];exact JN K y l 0 0 (by omega) (by omega) (by omega) (by omega)
end Go.Proofs.YtkljfdkmjdjpfaaGreat
end
section
namespace Go.Proofs.YtkljfdkmjdjpfaaGreat
theorem OI(s x:Nat):Fs (s:Int) (x:Int)=((s/2^x:Nat):Int):=by
 unfold Fs;rw[Int.toNat_natCast,Int.natCast_ediv,Int.natCast_pow];rfl
theorem Sq(s x:Nat):Fs (s:Int) (x:Int)%2=((s/2^x%2:Nat):Int):=by rw[OI];simp
theorem P8(b d:Nat):(Fs (b:Int) (d:Int)%2==1)=b.testBit d:=by
 rw[Sq,Nat.testBit_eq_decide_div_mod_eq];cases h:decide (b/2^d%2=1) with
 |true=>rw[of_decide_eq_true h];rfl
 |false=>
  have:=of_decide_eq_false h;simp only[beq_eq_false_iff_ne,ne_eq];omega
theorem P9(b d:Nat)(h:d<64):Nv (b:Int) (d:Int)=some ():=if_pos ⟨by omega,by omega⟩
theorem TX(b d:Nat):0≤Fs (b:Int) (d:Int):=by rw[OI];exact Int.natCast_nonneg _
def wl (n b:Nat):List Bool:=(List.range n).map b.testBit
theorem FG(n b:Nat):(wl n b).length=n:=by simp[wl]
theorem U4(b n:Nat)(a:List Bool)(h0:a.length=n)(d:n≤63):∀(k m i:Nat) (s:List Bool),n=i+k→k<m→s.length=n→
  CN (b:Int) a m (i:Int) s=some (s.take i++(List.range' i k).map b.testBit):=by
 intro k
 induction k with
 |zero=>
  intro m i s h hm c;cases m with
  |zero=>omega
  |succ m=>
   rw[CN.eq_2,cf (df (by omega)),List.take_of_length_le (by omega)];simp
 |succ k ih=>
  intro m i s h hm c;cases m with
  |zero=>omega
  |succ m=>
   have hi:i<s.length:=by omega
   rw[CN.eq_2,ct (dt (by omega)),bd (P9 b i (by omega)),Kx (TX b i) (by omega),C2 hi,BD (by omega) (by omega),Dt,P8,Int.toNat_natCast];rw[ih m (i+1) (s.set i (b.testBit i)) (by omega) (by omega) (by rw[List.length_set];exact c)]
   congr 1
   rw[List.range'_succ,List.map_cons,List.take_add_one,List.getElem?_set_self hi,List.take_set_of_le (Nat.le_refl _)];simp
theorem U5(b n:Nat)(s:List Bool)(c:n≤63){K:Nat}(hK:n<K)(a:s.length=n):CN (b:Int) s K 0 s=some (wl n b):=by
 have:=U4 b n s a c n K 0 s (by omega) hK a;rw[Int.natCast_zero] at this;rw[this,wl,List.range_eq_range'];rfl
def Hn (y:Ap) (l:List Bool):Bool:=okW y.Ao y.Aw l 0 0
def days(y:Ap):Nat:=(y.Ak+1).toNat
def Bp(y:Ap):List (List Bool):=((List.range (2^days y)).map (wl (days y))).filter (Hn y)
theorem IE:∀n:Nat,n≤10→2^n≤1024:=by decide
theorem Px{σ:Type}{K:Nat}(cb:σ→List Bool→Option (Bool×σ))(y:Ap)(hy:days y≤10)(hK:2000≤K):∀(k m i:Nat) (a:List Bool) (st:σ),2^days y=i+k→k<m→a.length=days y→
  CO cb K y m (i:Int) a st=(run cb (((List.range' i k).map (wl (days y))).filter (Hn y)) st).bind fun r=>some (cond r.1 (.inr r.2) (.inl r.2)):=by
 intro k;have f:=IE _ hy;have b:FQ (1:Int) ((List.replicate (y.Ak+1).toNat false).length:Int)=((2^days y:Nat):Int):=by
  unfold FQ;rw[Int.one_mul,Int.toNat_natCast,List.length_replicate,Int.natCast_pow];rfl
 induction k with
 |zero=>
  intro m i a st h hm c;cases m with
  |zero=>omega
  |succ m=>
   rw[CO.eq_2,b,cf (df (by omega))];rfl
 |succ k ih=>
  intro m i a st h hm c;cases m with
  |zero=>omega
  |succ m=>
   rw[CO.eq_2,b,ct (dt (by omega)),bd (U5 i (days y) a (by omega) (by omega) c),bd (MM y (wl (days y) i) (by rw[FG];omega) (by rw[FG];omega))];rw[List.range'_succ,List.map_cons];show cond (Hn y (wl (days y) i)) _ _=_;cases d:Hn y (wl (days y) i) with
   |false=>
    rw[List.filter_cons_of_neg (by rw[d];decide),cf rfl,BD (by omega) (by omega),Dt];exact ih m (i+1) _ st (by omega) (by omega) (FG _ _)
   |true=>
    rw[List.filter_cons_of_pos d,ct rfl];show _=(Option.bind _ _:Option (Bool×σ)).bind _;cases g:cb st (wl (days y) i) with
    |none=>rfl
    |some r=>
     cases e:r.1 with
     |false=>
      show(cond (!r.1) (some (Sum.inl r.2)) _:Option (σ⊕σ))=(cond r.1 _ (some (false,r.2)):Option (Bool×σ)).bind _;rw[e];rfl
     |true=>
      show cond (!r.1) _ ((i64 ((i:Int)+1)).bind _)=(cond r.1 (run cb _ r.2) _:Option (Bool×σ)).bind _;rw[e,nt,BD (by omega) (by omega),Dt];exact ih m (i+1) _ r.2 (by omega) (by omega) (FG _ _)
theorem LX{σ:Type}{K:Nat}(cb:σ→List Bool→Option (Bool×σ))(y:Ap)(h0:0≤y.Ak)(h9:y.Ak≤9)(hK:2000≤K)(st:σ):
  Dv K cb y st=(run cb (Bp y) st).bind fun r=>some r.2:=by
 have a:days y≤10:=by unfold days;omega
 have c:=IE _ a;unfold Dv;rw[BD (by omega) (by omega),OH (by omega) (by omega) (by omega)];have b:JG (1:Int) ((List.replicate (y.Ak+1).toNat false).length:Int)=some ():=by
  rw[List.length_replicate];refine if_pos ⟨by omega,by omega,?_,?_⟩
  ·have:(0:Int)≤1*2^((days y:Nat):Int).toNat:=by rw[Int.one_mul];exact Int.le_of_lt (Int.pow_pos (by omega))
   exact Int.le_trans (by omega) this
  ·rw[Int.one_mul,Int.toNat_natCast];have:((2^days y:Nat):Int)≤1024:=by omega
   rw[Int.natCast_pow] at this;exact Int.le_trans this (by omega)
 rw[bd b];have:=Px (K:=K) cb y a hK (2^days y) K 0 (List.replicate (y.Ak+1).toNat false) st (by omega) (by omega) (by rw[List.length_replicate];rfl);rw[Int.natCast_zero] at this;rw[this,Bp,List.range_eq_range',Option.bind_assoc]
 congr 1;funext r
 cases r.1<;>rfl
end Go.Proofs.YtkljfdkmjdjpfaaGreat
end
section
namespace Go.Proofs.YtkljfdkmjdjpfaaGreat
def Gk(y:Ap)(l:A3):Bool:=decide (0≤l.Ar)&&(decide (l.Ar≤l.AE)&&(decide (l.AE≤y.Ak)&&(Fy l.AP 1 5&&(Fy l.Ce 1 5&&Fy l.BZ 0 y.Ak))))
def B0(l:A3):Int:=l.AE-l.Ar+1
def E1:List A3→Int
 |[]=>1
 |l::r=>B0 l*E1 r
def Gl (y:Ap):Int:=((Bp y).length:Int)*E1 y.Ad
def check(y:Ap):Int:=
 if 9<y.Ak∨2<y.Ai∨4<(y.Ad.length:Int) then 3
 else if y.Ak<0∨y.Ai<1∨Fy y.Ao 0 (y.Ak+1)=false∨Fy y.Aw 0 (y.Ak+1)=false∨y.Ad.all (Gk y)=false then 1
 else if 1000<Gl y then 3 else 0
theorem IZ{y:Ap}{l:A3}:Gk y l=true↔0≤l.Ar∧l.Ar≤l.AE∧l.AE≤y.Ak∧(1≤l.AP∧l.AP≤5)∧(1≤l.Ce∧l.Ce≤5)∧0≤l.BZ∧l.BZ≤y.Ak:=by
 unfold Gk;simp only[Bool.and_eq_true,decide_eq_true_eq,EV]
theorem U6(K:Nat)(y:Ap)(l:A3):E8 K y l=some (Gk y l):=by
 unfold E8 Gk G5 GW;rw[Hm,Hm,Hm];cases decide ((0:Int)≤l.Ar)<;>cases decide (l.Ar≤l.AE)<;>cases decide (l.AE≤y.Ak)<;>cases Fy l.AP 1 5<;>cases Fy l.Ce 1 5<;>rfl
theorem TY{K:Nat}(hK:2<K)(a b:Int):GI K [a,b]=some (min a b):=by
 obtain⟨k,rfl⟩:∃k,K=k+3:=⟨K-3,by omega⟩;unfold GI GQ;rw[cf (df (by simp)),show(0:Int)=((0:Nat):Int) from rfl,C2 (by simp),show(1:Int)=((1:Nat):Int) from rfl,Ez.eq_2,ct (dt (by simp)),C2 (by simp),BD (by omega) (by omega),Ez.eq_2,cf (df (by simp))];rfl
theorem Qa(K:Nat)(l:A3)(h0:0≤l.Ar)(h1:l.Ar≤l.AE)(a:l.AE≤9):Fc K (⟨l.Ar,l.AE⟩:CE)=some (B0 l):=by
 unfold Fc;show(i64 (l.AE-l.Ar)).bind _=_;rw[BD (by omega) (by omega)];show(i64 (l.AE-l.Ar+1)).bind _=_;rw[BD (by omega) (by omega)];rfl
theorem Qb(K:Nat)(l:A3)(h0:0≤l.Ar)(h1:l.Ar≤l.AE)(a:l.AE≤9):Ed K (⟨l.Ar,l.AE⟩:CE)=some (B0 l):=by
 unfold Ed;show(i64 (l.AE-l.Ar)).bind _=_;rw[BD (by omega) (by omega)];show(i64 (l.AE-l.Ar+1)).bind _=_;rw[BD (by omega) (by omega)];rfl
def I9(c:Int):Int→List A3→Int
 |n,[]=>n
 |n,l::r=>I9 c (min (n*B0 l) c) r
def sized(l:A3):Prop:=1≤B0 l∧B0 l≤10
theorem Ls{y:Ap}{l:A3}(h9:y.Ak≤9)(h:Gk y l=true):sized l:=by
 obtain⟨h1,a,h3,_⟩:=IZ.1 h;unfold sized B0;omega
theorem Kz:∀{ls:List A3},(∀l∈ls,sized l)→1≤E1 ls
 |[],_=>Int.le_refl _
 |l::r,h=>by
  have h1:=(h l (List.mem_cons_self ..)).1;have a:=Kz (ls:=r) fun x b=>h x (List.mem_cons_of_mem _ b);have:=Int.mul_le_mul h1 a (by omega) (by omega);unfold E1;omega
theorem Mi{c:Int}(d:1000<c):∀{ls:List A3} (n:Int),0≤n→(∀l∈ls,sized l)→(1000<I9 c n ls↔1000<n*E1 ls)
 |[],n,_,_=>by simp[I9,E1]
 |l::r,n,e,h=>by
  have f:=h l (List.mem_cons_self ..);have a:∀x∈r,sized x:=fun x g=>h x (List.mem_cons_of_mem _ g);have b:=Kz a;have h0:0≤n*B0 l:=Int.mul_nonneg e (by have:=f.1;omega);unfold I9 E1;rw[Mi d _ (by omega) a,←Int.mul_assoc];rcases Int.le_total (n*B0 l) c with h1|h1
  ·rw[Int.min_eq_left h1]
  ·rw[Int.min_eq_right h1];have i:c*1≤c*E1 r:=Int.mul_le_mul_of_nonneg_left b (by omega);have h3:(n*B0 l)*1≤n*B0 l*E1 r:=Int.mul_le_mul_of_nonneg_left b h0;constructor<;>intro _<;>omega
theorem OJ{c:Int}(b:1000<c):∀{ls:List A3} (n:Int),0≤n→(∀l∈ls,sized l)→n*E1 ls≤1000→I9 c n ls=n*E1 ls
 |[],n,_,_,_=>by simp[I9,E1]
 |l::r,n,d,h,hle=>by
  have e:=h l (List.mem_cons_self ..);have a:∀x∈r,sized x:=fun x f=>h x (List.mem_cons_of_mem _ f);have g:=Kz a;have h0:0≤n*B0 l:=Int.mul_nonneg d (by have:=e.1;omega);rw[E1,←Int.mul_assoc] at hle;rw[I9,E1,←Int.mul_assoc];have h3:(n*B0 l)*1≤n*B0 l*E1 r:=Int.mul_le_mul_of_nonneg_left g h0;rw[Int.min_eq_left (by omega),OJ b _ h0 a hle]
theorem Sr(y:Ap)(g:y.Ad.length≤4)(a:∀l∈y.Ad,sized l∧0≤l.Ar∧l.AE≤9){K:Nat}(hK:2000≤K):∀(k m i:Nat) (n:Int),y.Ad.length=i+k→k<m→0≤n→n≤3000→
  DX K y m (i:Int) n=some (I9 1001 n (y.Ad.drop i)):=by
 intro k
 induction k with
 |zero=>
  intro m i n h hm h0 h1;cases m with
  |zero=>omega
  |succ m=>rw[DX.eq_2,cf (df (by omega)),List.drop_eq_nil_of_le (by omega)];rfl
 |succ k ih=>
  intro m i n h hm h0 h1;cases m with
  |zero=>omega
  |succ m=>
   have hi:i<y.Ad.length:=by omega
   obtain⟨⟨s1,s2⟩,b,c⟩:=a y.Ad[i] (List.getElem_mem hi);have d:1≤B0 y.Ad[i]∧B0 y.Ad[i]≤10:=⟨s1,s2⟩;have e:0≤n*B0 y.Ad[i]:=Int.mul_nonneg h0 (by omega);have f:n*B0 y.Ad[i]≤3000*10:=Int.mul_le_mul h1 s2 (by omega) (by omega);rw[DX.eq_2,ct (dt (by omega)),C2 hi,bd (Qa K _ b (by unfold B0 at s1;omega) c),BD (by omega) (by omega),bd (TY (by omega) _ _),BD (by omega) (by omega),Dt];rw[ih m (i+1) _ (by omega) (by omega) (by omega) (by omega),List.drop_eq_getElem_cons hi];rfl
theorem TZ(y:Ap)(g:y.Ad.length≤4)(a:∀l∈y.Ad,sized l∧0≤l.Ar∧l.AE≤9){K:Nat}:∀(k m i:Nat) (n:Int),y.Ad.length=i+k→k<m→0≤n→n≤3000→
  DK K y m n (i:Int)=some (I9 3000 n (y.Ad.drop i)):=by
 intro k
 induction k with
 |zero=>
  intro m i n h hm h0 h1;cases m with
  |zero=>omega
  |succ m=>rw[DK.eq_2,cf (df (by omega)),List.drop_eq_nil_of_le (by omega)];rfl
 |succ k ih=>
  intro m i n h hm h0 h1;cases m with
  |zero=>omega
  |succ m=>
   have hi:i<y.Ad.length:=by omega
   obtain⟨⟨s1,s2⟩,b,c⟩:=a y.Ad[i] (List.getElem_mem hi);have d:1≤B0 y.Ad[i]∧B0 y.Ad[i]≤10:=⟨s1,s2⟩;have e:0≤n*B0 y.Ad[i]:=Int.mul_nonneg h0 (by omega);have f:n*B0 y.Ad[i]≤3000*10:=Int.mul_le_mul h1 s2 (by omega) (by omega);rw[DK.eq_2,ct (dt (by omega)),C2 hi,bd (Qb K _ b (by unfold B0 at s1;omega) c),BD (by omega) (by omega),BD (by omega) (by omega),Dt,Int.min_comm];rw[ih m (i+1) _ (by omega) (by omega) (by omega) (by omega),List.drop_eq_getElem_cons hi];rfl
theorem MN{α:Type}:∀(l:List α) (n:Int),0≤n→n+l.length≤100000→run (fun(st:Int) (_:α)=>(i64 (st+1)).bind fun _=>some (true,st+1)) l n=some (true,n+l.length)
 |[],n,_,_=>by simp[run]
 |x::l,n,h0,h1=>by
  simp only[List.length_cons] at h1⊢;rw[run,BD (by omega) (by omega)];show run _ l (n+1)=_;rw[MN l (n+1) (by omega) (by omega)]
  congr 2;omega
theorem KA(y:Ap)(h:days y≤10):(Bp y).length≤1024:=by
 have h1:=IE _ h;have:(Bp y).length≤((List.range (2^days y)).map (wl (days y))).length:=List.length_filter_le ..;simp at this;omega
theorem MO{K:Nat}(y:Ap):∀(l:List A3),run (fun(st:Unit) (x:A3)=>(E8 K y x).bind fun r=>some (r,())) l ()=some (l.all (Gk y),())
 |[]=>rfl
 |x::l=>by
  rw[run,U6];show cond (Gk y x) (run _ l ()) (some (false,()))=_;rw[MO y l,List.all_cons];cases Gk y x<;>rfl
theorem Ik{K:Nat}(hK:2000≤K)(y:Ap):Dw K y=some (check y):=by
 unfold Dw check
 by_cases h1:9<y.Ak
 ·rw[ct (dt h1),if_pos (.inl h1)]
 rw[cf (df h1)]
 by_cases g:2<y.Ai
 ·rw[ct (dt g),if_pos (.inr (.inl g))]
 rw[cf (df g)]
 by_cases h3:4<(y.Ad.length:Int)
 ·rw[ct (dt h3),if_pos (.inr (.inr h3))]
 rw[cf (df h3),if_neg (by omega)]
 by_cases b:y.Ak<0
 ·rw[ct (dt b),if_pos (.inl b)]
 rw[cf (df b)]
 by_cases d:y.Ai<1
 ·rw[ct (dt d),if_pos (.inr (.inl d))]
 rw[cf (df d),BD (by omega) (by omega),bd (Hm ..)];cases p:Fy y.Ao 0 (y.Ak+1) with
 |false=>rw[nf,if_pos (.inr (.inr (.inl rfl)))]
 |true=>
  rw[nt,BD (by omega) (by omega),bd (Hm ..)];cases q:Fy y.Aw 0 (y.Ak+1) with
  |false=>rw[nf,if_pos (.inr (.inr (.inr (.inl rfl))))]
  |true=>
   rw[nt,P7 _ _ _ (by omega) (by omega),bd (MO y y.Ad)];cases m:y.Ad.all (Gk y) with
   |false=>rw[nf,if_pos (.inr (.inr (.inr (.inr rfl))))]
   |true=>
    rw[nt,if_neg (by simp[b,d])];have n:days y≤10:=by unfold days;omega
    have hw:=KA y n;have j:∀l∈y.Ad,sized l∧0≤l.Ar∧l.AE≤9:=fun l i=>by
     have k:=List.all_eq_true.1 m l i;have:=IZ.1 k;exact⟨Ls (by omega) k,this.1,by omega⟩
    have o:Dv K (fun(st:Int) (x:List Bool)=>E9 st x) y (0:Int)=some ((Bp y).length:Int):=by
     rw[LX _ y (by omega) (by omega) hK];show(run (fun(st:Int) (_:List Bool)=>(i64 (st+1)).bind fun _=>some (true,st+1)) (Bp y) 0).bind _=_;rw[MN _ 0 (by omega) (by omega)];simp
    have a:=Sr y (by omega) j hK y.Ad.length K 0 ((Bp y).length:Int) (by omega) (by omega) (by omega) (by omega);rw[Int.natCast_zero,List.drop_zero] at a;rw[bd o,bd a];have f:=Mi (c:=1001) (by omega) ((Bp y).length:Int) (by omega) fun l i=>(j l i).1;unfold Gl
    by_cases e:1000<((Bp y).length:Int)*E1 y.Ad
    ·rw[ct (dt (f.2 e)),if_pos e]
    ·rw[cf (df fun h=>e (f.1 h)),if_neg e]
end Go.Proofs.YtkljfdkmjdjpfaaGreat
end
section
namespace Go.Proofs.YtkljfdkmjdjpfaaGreat
def ED:List A3→List (List Int)
 |[]=>[[]]
 |l::r=>(List.range (B0 l).toNat).flatMap fun(n:Nat)=>(ED r).map fun c=>(l.Ar+(n:Int))::c
def BT(y:Ap):List AX:=(Bp y).flatMap fun w=>(ED y.Ad).map fun c=>⟨c,w⟩
section
variable{σ:Type}{K:Nat}(cb:σ→AX→Option (Bool×σ))(y:Ap)(w:List Bool)
def Tr (k i:Nat):Prop:=∀(c:List Int) (st:σ),c.length=y.Ad.length→
 (BR K cb k (i:Int) c w y st).map (fun z=>(z.1,z.2.2))=run (fun s d=>cb s ⟨c.take i++d,w⟩) (ED (y.Ad.drop i)) st∧
 ∀z,BR K cb k (i:Int) c w y st=some z→z.2.1.length=y.Ad.length∧z.2.1.take i=c.take i
def Rm{α β:Type}:(Bool×α×β)⊕(α×β)→Bool×β
 |.inl x=>(false,x.2.2)
 |.inr x=>(true,x.2)
def T0{α β:Type}:(Bool×α×β)⊕(α×β)→α
 |.inl x=>x.2.1
 |.inr x=>x.1
theorem Rn(k i:Nat)(hi:i<y.Ad.length)(aJ:y.Ad.length≤4)(aB:∀l∈y.Ad,sized l∧0≤l.Ar∧l.AE≤9)(ih:Tr (K:=K) cb y w k (i+1)):
  ∀(n m j:Nat) (c:List Int) (st:σ),(B0 y.Ad[i]).toNat=j+n→n<m→c.length=y.Ad.length→
  (B7 (BR K cb k) (i:Int) w y (B0 y.Ad[i]) m (j:Int) c st).map Rm=run (fun s d=>cb s ⟨c.take i++d,w⟩) ((List.range' j n).flatMap fun(q:Nat)=>(ED (y.Ad.drop (i+1))).map fun d=>(y.Ad[i].Ar+(q:Int))::d) st∧
  ∀z,B7 (BR K cb k) (i:Int) w y (B0 y.Ad[i]) m (j:Int) c st=some z→(T0 z).length=y.Ad.length∧(T0 z).take i=c.take i∧(∀x,z=.inl x→x.1=false):=by
 obtain⟨⟨s1,s2⟩,aK,aL⟩:=aB y.Ad[i] (List.getElem_mem hi);have aH:1≤B0 y.Ad[i]∧B0 y.Ad[i]≤10:=⟨s1,s2⟩;intro n
 induction n with
 |zero=>
  intro m j c st h hm o;cases m with
  |zero=>omega
  |succ m=>
   rw[B7.eq_2,cf (df (by omega))];exact⟨rfl,fun z b=>by cases b;exact⟨o,rfl,fun x p=>by cases p⟩⟩
 |succ n u=>
  intro m j c st h hm o;cases m with
  |zero=>omega
  |succ m=>
   have f:i<c.length:=by omega
   have aI:y.Ad[i].Ar≤9:=by unfold B0 at s1;omega
   rw[B7.eq_2,ct (dt (by omega)),C2 hi,BD (by omega) (by omega),C2 f,BD (by omega) (by omega),Dt i,Int.toNat_natCast];have v:(c.set i (y.Ad[i].Ar+(j:Int))).length=y.Ad.length:=by rw[List.length_set];exact o
   have g:(c.set i (y.Ad[i].Ar+(j:Int))).take (i+1)=c.take i++[y.Ad[i].Ar+(j:Int)]:=by
    rw[List.take_add_one,List.getElem?_set_self f,List.take_set_of_le (Nat.le_refl _)];rfl
   obtain⟨t,aC⟩:=ih _ st v;rw[g] at t;rw[List.range'_succ,List.flatMap_cons,HH,run_map];have aD:run (fun s d=>cb s ⟨c.take i++[y.Ad[i].Ar+(j:Int)]++d,w⟩) (ED (y.Ad.drop (i+1))) st=run (fun s d=>cb s ⟨c.take i++(y.Ad[i].Ar+(j:Int))::d,w⟩) (ED (y.Ad.drop (i+1))) st:=by
    congr 1;funext s d;rw[List.append_assoc];rfl
   rw[aD] at t;rw[←t];cases aE:BR K cb k ((i+1:Nat):Int) (c.set i (y.Ad[i].Ar+(j:Int))) w y st with
   |none=>exact⟨rfl,fun z b=>by cases b⟩
   |some r=>
    obtain⟨h1,aF⟩:=aC r aE;have h3:r.2.1.take i=c.take i:=by
     have:=congrArg (List.take i) aF;rw[List.take_take,Nat.min_eq_left (by omega),g,List.take_append_of_le_length (by rw[List.length_take];omega),List.take_take,Nat.min_self] at this;exact this
    obtain⟨aG,rc,e⟩:=r;cases aG with
    |false=>
     refine⟨rfl,fun z b=>?_⟩;have aA:some (Sum.inl (false,rc,e))=some z:=b;cases aA;exact⟨h1,h3,fun x p=>by cases p;rfl⟩
    |true=>
     have key:(Option.bind (some (true,rc,e)) fun a=>cond (!a.1) (some (Sum.inl (false,a.2.1,a.2.2))) ((i64 ((j:Int)+1)).bind fun _=>B7 (BR K cb k) (i:Int) w y (B0 y.Ad[i]) m ((j:Int)+1) a.2.1 a.2.2))=B7 (BR K cb k) (i:Int) w y (B0 y.Ad[i]) m ((j+1:Nat):Int) rc e:=by
      rw[Option.bind_some,nt,BD (by omega) (by omega),Dt j]
     have:=u m (j+1) rc e (by omega) (by omega) h1;rw[h3] at this;rw[key];exact this
theorem Py(p:y.Ad.length≤4)(g:∀l∈y.Ad,sized l∧0≤l.Ar∧l.AE≤9)(hK:2000≤K):∀(n k i:Nat),y.Ad.length=i+n→n<k→Tr (K:=K) cb y w k i:=by
 intro n
 induction n with
 |zero=>
  intro k i h q c st f;cases k with
  |zero=>omega
  |succ k=>
   rw[BR.eq_2,ct (by rw[f,h];simp),List.drop_eq_nil_of_le (by omega)];have ht:c.take i=c:=List.take_of_length_le (by omega);rw[ht];simp only[ED,run,List.append_nil];cases cb st ⟨c,w⟩ with
   |none=>exact⟨rfl,fun z a=>by cases a⟩
   |some r=>
    obtain⟨b,s⟩:=r;refine⟨by cases b<;>rfl,fun z a=>?_⟩;have e:some (b,c,s)=some z:=a;cases e;exact⟨f,ht⟩
 |succ n ih=>
  intro k i h q c st f;cases k with
  |zero=>omega
  |succ k=>
   have hi:i<y.Ad.length:=by omega
   obtain⟨⟨s1,s2⟩,t,u⟩:=g y.Ad[i] (List.getElem_mem hi);rw[BR.eq_2,cf (by rw[f];simp;omega),C2 hi,bd (Qa K _ t (by unfold B0 at s1;omega) u)];obtain⟨j,m⟩:=Rn cb y w k i hi p g (ih k (i+1) (by omega) (by omega)) (B0 y.Ad[i]).toNat K 0 c st (by omega) (by omega) f;rw[Int.natCast_zero] at j m;rw[List.drop_eq_getElem_cons hi,ED,List.range_eq_range',←j];cases v:B7 (BR K cb k) (i:Int) w y (B0 y.Ad[i]) K 0 c st with
   |none=>exact⟨rfl,fun z a=>by cases a⟩
   |some r=>
    obtain⟨h1,o,h3⟩:=m r v;cases r with
    |inl x=>
     obtain⟨b,d,s⟩:=x;obtain rfl:=h3 _ rfl;refine⟨rfl,fun z a=>?_⟩;have e:some (false,d,s)=some z:=a;cases e;exact⟨h1,o⟩
    |inr x=>
     obtain⟨d,s⟩:=x;refine⟨rfl,fun z a=>?_⟩;have e:some (true,d,s)=some z:=a;cases e;exact⟨h1,o⟩
end
theorem MP{σ:Type}{K:Nat}(cb:σ→AX→Option (Bool×σ))(y:Ap)(e:y.Ad.length≤4)(f:∀l∈y.Ad,sized l∧0≤l.Ar∧l.AE≤9)(hK:2000≤K):∀(ws:List (List Bool)) (c:List Int) (st:σ),c.length=y.Ad.length→
  (run (fun(st:(List Int)×σ×Bool) (x:(List Bool))=>cond st.2.2 none (Dl cb K y st.1 st.2.1 x)) ws (c,st,false)).bind (fun a=>cond (a.2.2.2) (some (a.2.2.1)) (some (a.2.2.1)))=
  (run cb (ws.flatMap fun w=>(ED y.Ad).map fun c=>(⟨c,w⟩:AX)) st).bind fun r=>some r.2
 |[],c,st,_=>rfl
 |w::ws,c,st,i=>by
  obtain⟨g,h⟩:=Py cb y w e f hK y.Ad.length K 0 (by omega) (by omega) c st i;rw[Int.natCast_zero,List.drop_zero,List.take_zero] at g;rw[Int.natCast_zero] at h;rw[List.flatMap_cons,HH,run_map];have j:run (fun s d=>cb s ⟨[]++d,w⟩) (ED y.Ad) st=run (fun s d=>cb s (⟨d,w⟩:AX)) (ED y.Ad) st:=rfl;rw[←j,←g,run];show(Option.bind (Dl cb K y c st w) _:Option _).bind _=_;unfold Dl;cases k:BR K cb K 0 c w y st with
  |none=>rfl
  |some r=>
   obtain⟨h1,m⟩:=h r k;obtain⟨b,d,s⟩:=r;cases b with
   |false=>rfl
   |true=>
    show(run _ ws (d,s,false)).bind _=(run cb _ s).bind _;exact MP cb y e f hK ws d s h1
theorem Ro{σ:Type}{K:Nat}(cb:σ→AX→Option (Bool×σ))(y:Ap)(h0:0≤y.Ak)(h9:y.Ak≤9)(a:y.Ad.length≤4)(b:∀l∈y.Ad,sized l∧0≤l.Ar∧l.AE≤9)(hK:2000≤K)(st:σ):
  Fa K cb y st=(run cb (BT y) st).bind fun r=>some r.2:=by
 unfold Fa;rw[OH (by omega) (by omega) (by omega),LX _ y h0 h9 hK,Option.bind_assoc];exact MP cb y a b hK (Bp y) (List.replicate (y.Ad.length:Int).toNat (0:Int)) st (by rw[List.length_replicate];omega)
end Go.Proofs.YtkljfdkmjdjpfaaGreat
end
section
namespace Go.Proofs.YtkljfdkmjdjpfaaGreat
def Ho:A3:=⟨0,0,0,0,0⟩
def Gm(y:Ap)(i:Int):A3:=y.Ad.getD i.toNat Ho
def F4(c:List Int)(i:Int):Int:=c.getD i.toNat 0
def G8 (l:A3) (d0:Int):List Bool→Int→Int→Int→As
 |[],_,_,_=>⟨d0,-1,false⟩
 |true::ws,d,Fh,run=>cond (Fh==l.AP) ⟨d0,d,Fh==l.AP⟩ (cond (run+1==l.Ce) ⟨d0,d,Fh==l.AP⟩ (G8 l d0 ws (d+1) Fh (run+1)))
 |false::ws,d,Fh,run=>cond (Fh+1==l.AP) ⟨d0,d,Fh+1==l.AP⟩ (cond ((0:Int)==l.Ce) ⟨d0,d,Fh+1==l.AP⟩ (G8 l d0 ws (d+1) (Fh+1) 0))
def Fb(y:Ap)(w:List Bool)(l:A3)(d:Int):As:=if y.Ak<d then ⟨-1,-1,false⟩ else G8 l d (w.drop d.toNat) d 0 0
def wk(y:Ap)(w:List Bool)(m:List (List Int×As)):Cy:=⟨y.Ak,y.Ai,y.Ao,y.Aw,y.Ad,w,m⟩
theorem U7(y:Ap)(w:List Bool)(mm:List (List Int×As))(p:HG)(l:A3)(h9:y.Ak≤9)(hw:(w.length:Int)=y.Ak+1)(b0 f:Int)(g:Bool):∀(k m d:Nat) (Fh r:Int),y.Ak+1=d+k→k<m→0≤Fh→Fh≤d→0≤r→r≤d→
  (DU (wk y w mm) p l m Fh r (d:Int) b0 f g).bind (fun z=>Sum.elim (fun a=>some ((⟨a.1,a.2.1,a.2.2⟩:As))) (fun a=>some ((⟨p.day,(-1),false⟩:As))) z)=some (G8 l p.day (w.drop d) (d:Int) Fh r):=by
 intro k
 induction k with
 |zero=>
  intro m d Fh r h hm h0 h1 i h3;cases m with
  |zero=>omega
  |succ m=>
   rw[DU.eq_2,cf (df (by show¬(d:Int)≤y.Ak;omega)),List.drop_eq_nil_of_le (by omega)];rfl
 |succ k ih=>
  intro m d Fh r h hm h0 h1 i h3;cases m with
  |zero=>omega
  |succ m=>
   have b:d<w.length:=by omega
   have c:d<(wk y w mm).Dc.length:=b;rw[DU.eq_2,ct (dt (by show(d:Int)≤y.Ak;omega)),C2 c,List.drop_eq_getElem_cons b];have e:(wk y w mm).Dc[d]=w[d]:=rfl;rw[e];cases o:w[d] with
   |true=>
    rw[ct rfl,BD (by omega) (by omega),G8];cases j:(Fh==l.AP) with
    |true=>rw[ct rfl,ct rfl];rfl
    |false=>
     rw[cf rfl,cf rfl];cases n:(r+1==l.Ce) with
     |true=>rw[ct rfl,ct rfl];rfl
     |false=>
      rw[cf rfl,cf rfl,BD (by omega) (by omega),Dt];exact ih m (d+1) Fh (r+1) (by omega) (by omega) h0 (by omega) (by omega) (by omega)
   |false=>
    rw[cf rfl,BD (by omega) (by omega),G8];cases j:(Fh+1==l.AP) with
    |true=>rw[ct rfl,ct rfl];rfl
    |false=>
     rw[cf rfl,cf rfl];cases n:((0:Int)==l.Ce) with
     |true=>rw[ct rfl,ct rfl];rfl
     |false=>
      rw[cf rfl,cf rfl,BD (by omega) (by omega),Dt];exact ih m (d+1) (Fh+1) 0 (by omega) (by omega) (by omega) (by omega) (by omega) (by omega)
theorem U8{K:Nat}(y:Ap)(w:List Bool)(mm:List (List Int×As))(i d:Int)(h9:y.Ak≤9)(hw:(w.length:Int)=y.Ak+1)(a:0≤i)(hi:i<(y.Ad.length:Int))(c:0≤d)(hK:2000≤K):
  FI K (wk y w mm) ⟨i,d⟩=some (Fb y w (Gm y i) d):=by
 unfold FI Fb;show cond (decide (y.Ak<d)) _ ((idx y.Ad i).bind _)=_
 by_cases h:y.Ak<d
 ·rw[ct (dt h),if_pos h]
 rw[cf (df h),if_neg h];obtain⟨i,rfl⟩:=Int.eq_ofNat_of_zero_le a;obtain⟨d,rfl⟩:=Int.eq_ofNat_of_zero_le c;have b:i<y.Ad.length:=by omega
 rw[C2 b];have e:y.Ad[i]=Gm y (i:Int):=by
  show y.Ad[i]=y.Ad.getD ((i:Int)).toNat Ho;rw[Int.toNat_natCast,List.getD_eq_getElem?_getD,List.getElem?_eq_getElem (by omega)];rfl
 rw[e,Int.toNat_natCast];exact U7 y w mm ⟨(i:Int),(d:Int)⟩ _ h9 hw 0 0 false (y.Ak+1-d).toNat K d 0 0 (by omega) (by omega) (by omega) (by omega) (by omega) (by omega)
def GJ (y:Ap) (w:List Bool) (m:List (List Int×As)):Prop:=∀(i d:Int) (s:As),BE m [i,d]=some s→s=Fb y w (Gm y i) d
theorem ND(y:Ap)(w:List Bool):GJ y w []:=fun i d s h=>by cases h
theorem T1{K:Nat}(y:Ap)(w:List Bool)(mm:List (List Int×As))(i d:Int)(h9:y.Ak≤9)(hw:(w.length:Int)=y.Ak+1)(e:0≤i)(hi:i<(y.Ad.length:Int))(j:0≤d)(hK:2000≤K)(hm:GJ y w mm):
  ∃c,Ft K (wk y w mm) ⟨i,d⟩=some (Fb y w (Gm y i) d,c)∧GJ y w c:=by
 unfold Ft;show∃c,cond (!(BE mm [i,d]).isSome) ((FI K (wk y w mm) ⟨i,d⟩).bind _) _=_∧_;cases f:BE mm [i,d] with
 |none=>
  rw[bd (U8 y w mm i d h9 hw e hi j hK)];refine⟨_,rfl,fun i2 d2 s h=>?_⟩;have a:BE (HB mm [i,d] (Fb y w (Gm y i) d)) [i2,d2]=some s:=h;rw[Om] at a;split at a
  ·rename_i he
   have b:=List.cons.inj he;have g:=List.cons.inj b.2;rw[b.1,g.1];exact(Option.some.inj a).symm
  ·exact hm i2 d2 s a
 |some s=>
  refine⟨mm,?_,hm⟩;show some ((BE mm [i,d]).getD ⟨0,0,false⟩,mm)=_;rw[f,hm i d s f];rfl
def HI (y:Ap) (w:List Bool) (c:List Int):List Int→Int→List As→List As
 |[],_,out=>out
 |i::r,free,out=>
  let s:=Fb y w (Gm y i) (max free (F4 c i))
  HI y w c r (cond (s.Bh==-1) (y.Ak+1) (s.Bh+1)) (out.set i.toNat s)
def HJ(y:Ap)(w:List Bool)(c:List Int):List (List Int)→List As→List As
 |[],out=>out
 |l::r,out=>HJ y w c r (HI y w c l 0 out)
def HW:As:=⟨0,0,false⟩
def GR(y:Ap)(w:List Bool)(order:List (List Int))(c:List Int):List As:=HJ y w c order (List.replicate y.Ad.length HW)
theorem IF(y:Ap)(w:List Bool)(c:List Int):∀(l:List Int) (free:Int) (out:List As),(HI y w c l free out).length=out.length
 |[],_,_=>rfl
 |i::r,free,out=>by rw[HI,IF y w c r];simp
theorem KB(y:Ap)(w:List Bool)(c:List Int):∀(l:List (List Int)) (out:List As),(HJ y w c l out).length=out.length
 |[],_=>rfl
 |i::r,out=>by rw[HJ,KB y w c r,IF]
theorem Lt(l:A3)(d0:Int):∀(ws:List Bool) (d Fh r:Int),0≤d→(G8 l d0 ws d Fh r).Bh=-1∨(d≤(G8 l d0 ws d Fh r).Bh∧(G8 l d0 ws d Fh r).Bh<d+ws.length)
 |[],d,Fh,r,_=>.inl rfl
 |true::ws,d,Fh,r,h=>by
  rw[G8];cases (Fh==l.AP) with
  |true=>right;simp;omega
  |false=>
   cases (r+1==l.Ce) with
   |true=>right;simp;omega
   |false=>
    rcases Lt l d0 ws (d+1) Fh (r+1) (by omega) with h1|h1
    ·exact .inl h1
    ·right;simp only[List.length_cons,cond_false];omega
 |false::ws,d,Fh,r,h=>by
  rw[G8];cases (Fh+1==l.AP) with
  |true=>right;simp;omega
  |false=>
   cases ((0:Int)==l.Ce) with
   |true=>right;simp;omega
   |false=>
    rcases Lt l d0 ws (d+1) (Fh+1) 0 (by omega) with h1|h1
    ·exact .inl h1
    ·right;simp only[List.length_cons,cond_false];omega
theorem Qc(y:Ap)(w:List Bool)(l:A3)(d:Int)(a:0≤d)(hw:(w.length:Int)=y.Ak+1):(Fb y w l d).Bh=-1∨(d≤(Fb y w l d).Bh∧(Fb y w l d).Bh≤y.Ak):=by
 unfold Fb
 by_cases h:y.Ak<d
 ·rw[if_pos h];exact .inl rfl
 ·rw[if_neg h];rcases Lt l d (w.drop d.toNat) d 0 0 a with h1|h1
  ·exact .inl h1
  ·right;rw[List.length_drop] at h1;omega
theorem Ss{K:Nat}(y:Ap)(w:List Bool)(a:List (List Int×As))(c l:List Int)(h0:0≤y.Ak)(h9:y.Ak≤9)(hw:(w.length:Int)=y.Ak+1)(hK:2000≤K)(x:∀i∈l,0≤i∧i<(y.Ad.length:Int))(aE:c.length=y.Ad.length)(aC:l.length≤1000):
  ∀(k m j:Nat) (free:Int) (out:List As) (mm:List (List Int×As)),l.length=j+k→k<m→0≤free→out.length=y.Ad.length→GJ y w mm→
  ∃b,DD K (wk y w a) c l m free (j:Int) out mm=some (HI y w c (l.drop j) free out,b)∧GJ y w b:=by
 intro k
 induction k with
 |zero=>
  intro m j free out mm h hm z f g;cases m with
  |zero=>omega
  |succ m=>rw[DD.eq_2,cf (df (by omega)),List.drop_eq_nil_of_le (by omega)];exact⟨mm,rfl,g⟩
 |succ k ih=>
  intro m j free out mm h hm z f g;cases m with
  |zero=>omega
  |succ m=>
   have n:j<l.length:=by omega
   obtain⟨d,p⟩:=x l[j] (List.getElem_mem n);obtain⟨i,hi⟩:=Int.eq_ofNat_of_zero_le d;have e:i<c.length:=by omega
   have q:i<out.length:=by omega
   have r:c[i]=F4 c l[j]:=by
    rw[hi];unfold F4;rw[Int.toNat_natCast,List.getD_eq_getElem?_getD,List.getElem?_eq_getElem e];rfl
   rw[DD.eq_2,ct (dt (by omega)),C2 n,List.drop_eq_getElem_cons n,HI];have s:idx c l[j]=some (F4 c l[j]):=by rw[←r];rw[hi];exact idx_eq e
   rw[bd s];obtain⟨b,aA,t⟩:=T1 (K:=K) y w mm l[j] (max free (F4 c l[j])) h9 hw d p (by omega) hK g;have u:Ft K (⟨(wk y w a).BF,(wk y w a).BX,(wk y w a).Cj,(wk y w a).Ck,(wk y w a).AY,(wk y w a).Dc,mm⟩:Cy) (⟨l[j],max free (F4 c l[j])⟩:HG)=some (Fb y w (Gm y l[j]) (max free (F4 c l[j])),b):=aA;have o:idx out l[j]=some out[i]:=by rw[hi];exact idx_eq q
   have aB:=Qc y w (Gm y l[j]) (max free (F4 c l[j])) (by omega) hw;have aD:-1≤(Fb y w (Gm y l[j]) (max free (F4 c l[j]))).Bh∧(Fb y w (Gm y l[j]) (max free (F4 c l[j]))).Bh≤9:=by omega
   rw[bd u,bd o];show∃v,(i64 ((Fb y w (Gm y l[j]) (max free (F4 c l[j]))).Bh+1)).bind _=_∧_;rw[BD (by omega) (by omega)];show∃v,cond ((Fb y w (Gm y l[j]) (max free (F4 c l[j]))).Bh==-1) ((i64 (y.Ak+1)).bind _) _=_∧_;cases aF:((Fb y w (Gm y l[j]) (max free (F4 c l[j]))).Bh==-1) with
   |true=>
    rw[ct rfl,ct rfl,BD (by omega) (by omega),BD (by omega) (by omega),Dt];exact ih m (j+1) (y.Ak+1) _ b (by omega) (by omega) (by omega) (by rw[List.length_set];exact f) t
   |false=>
    rw[cf rfl,cf rfl,BD (by omega) (by omega),Dt];exact ih m (j+1) ((Fb y w (Gm y l[j]) (max free (F4 c l[j]))).Bh+1) _ b (by omega) (by omega) (by omega) (by rw[List.length_set];exact f) t
theorem Su{K:Nat}(y:Ap)(w:List Bool)(b:List (List Int×As))(c:List Int)(order:List (List Int))(h0:0≤y.Ak)(h9:y.Ak≤9)(hw:(w.length:Int)=y.Ak+1)(hK:2000≤K)(p:∀l∈order,l.length≤1000∧∀i∈l,0≤i∧i<(y.Ad.length:Int))(q:c.length=y.Ad.length)(s:order.length≤1000):
  ∀(k m j:Nat) (out:List As) (mm:List (List Int×As)),order.length=j+k→k<m→out.length=y.Ad.length→GJ y w mm→
  ∃a,Di K (wk y w b) order c m (j:Int) out mm=some (HJ y w c (order.drop j) out,a)∧GJ y w a:=by
 intro k
 induction k with
 |zero=>
  intro m j out mm h hm d e;cases m with
  |zero=>omega
  |succ m=>rw[Di.eq_2,cf (df (by omega)),List.drop_eq_nil_of_le (by omega)];exact⟨mm,rfl,e⟩
 |succ k ih=>
  intro m j out mm h hm d e;cases m with
  |zero=>omega
  |succ m=>
   have f:j<order.length:=by omega
   obtain⟨g,n⟩:=p order[j] (List.getElem_mem f);obtain⟨a,o,r⟩:=Ss (K:=K) y w b c order[j] h0 h9 hw hK n q g order[j].length K 0 0 out mm (by omega) (by omega) (by omega) d e;rw[Int.natCast_zero,List.drop_zero] at o;rw[Di.eq_2,ct (dt (by omega)),C2 f,List.drop_eq_getElem_cons f,HJ,bd o,BD (by omega) (by omega),Dt];exact ih m (j+1) _ a (by omega) (by omega) (by rw[IF];exact d) r
theorem Qd{K:Nat}(y:Ap)(w:List Bool)(mm:List (List Int×As))(c:List Int)(order:List (List Int))(h0:0≤y.Ak)(h9:y.Ak≤9)(k:y.Ad.length≤4)(hw:(w.length:Int)=y.Ak+1)(hK:2000≤K)(e:∀l∈order,l.length≤1000∧∀i∈l,0≤i∧i<(y.Ad.length:Int))(f:c.length=y.Ad.length)(b:order.length≤1000)(g:GJ y w mm):
  ∃a,C1 K (wk y w mm) order c=some (GR y w order c,a)∧GJ y w a:=by
 unfold C1;show∃a,(Kp (y.Ad.length:Int) 24).bind _=_∧_;rw[OH (by omega) (by omega) (by omega)];obtain⟨a,d,h⟩:=Su (K:=K) y w mm c order h0 h9 hw hK e f b order.length K 0 (List.replicate y.Ad.length HW) mm (by omega) (by omega) (by rw[List.length_replicate]) g;rw[Int.natCast_zero,List.drop_zero] at d;have j:Di K (wk y w mm) order c K (0:Int) (List.replicate ((wk y w mm).AY.length:Int).toNat (⟨0,0,false⟩:As)) (wk y w mm).known=some (HJ y w c order (List.replicate y.Ad.length HW),a):=by
  show Di K (wk y w mm) order c K (0:Int) (List.replicate (y.Ad.length:Int).toNat HW) mm=_;rw[Int.toNat_natCast];exact d
 exact⟨a,bd j,h⟩
end Go.Proofs.YtkljfdkmjdjpfaaGreat
end
section
namespace Go.Proofs.YtkljfdkmjdjpfaaGreat
def iota(n:Nat):List Int:=(List.range n).map fun(i:Nat)=>(i:Int)
theorem G1(n:Nat):(iota n).length=n:=by simp[iota]
theorem NF(n i:Nat)(h:i<n):(iota n)[i]?=some (i:Int):=by simp[iota,h]
def Da(y:Ap)(o:List (List Int)):Bool:=((o.length:Int)==y.Ai)&&(Db o.flatten==iota y.Ad.length)
theorem T3(o:List (List Int))(c:o.flatten.length≤100000):∀(k m i:Nat) (acc:List Int),o.length=i+k→k<m→o.length≤100000→acc++(o.drop i).flatten=o.flatten→
  Dy o m acc (i:Int)=some o.flatten:=by
 intro k
 induction k with
 |zero=>
  intro m i acc h hm b a;cases m with
  |zero=>omega
  |succ m=>
   rw[Dy.eq_2,cf (df (by omega))];rw[List.drop_eq_nil_of_le (by omega)] at a;rw[←a];simp
 |succ k ih=>
  intro m i acc h hm b a;cases m with
  |zero=>omega
  |succ m=>
   have hi:i<o.length:=by omega
   rw[List.drop_eq_getElem_cons hi,List.flatten_cons,←List.append_assoc] at a;have hlen:acc.length+o[i].length≤100000:=by
    have:=congrArg List.length a;rw[List.length_append,List.length_append] at this;omega
   rw[Dy.eq_2,ct (dt (by omega)),C2 hi,FR (by omega),BD (by omega) (by omega),Dt];exact ih m (i+1) (acc++o[i]) (by omega) (by omega) b a
theorem Rp(y:Ap)(z:List Int)(l:y.Ad.length≤4):∀(k m i:Nat),y.Ad.length=i+k→k<m→(∀j,j<i→(Db z).length=y.Ad.length∧(Db z)[j]?=some (j:Int))→
  Dn y z m (i:Int)=some (cond ((Db z==iota y.Ad.length)||decide (y.Ad.length=0)) (.inr ()) (.inl false)):=by
 intro k
 induction k with
 |zero=>
  intro m i h hm a;cases m with
  |zero=>omega
  |succ m=>
   rw[Dn.eq_2,cf (df (by omega))];have:((Db z==iota y.Ad.length)||decide (y.Ad.length=0))=true:=by
    rw[Bool.or_eq_true];rcases Nat.eq_zero_or_pos i with h0|h0
    ·right;exact dt (by omega)
    ·left;rw[beq_iff_eq];have d:=(a 0 h0).1;apply List.ext_getElem?;intro j
     by_cases f:j<y.Ad.length
     ·rw[(a j (by omega)).2,NF _ _ f]
     ·rw[List.getElem?_eq_none (by omega),List.getElem?_eq_none (by rw[G1];omega)]
   rw[this];rfl
 |succ k ih=>
  intro m i h hm a;cases m with
  |zero=>omega
  |succ m=>
   rw[Dn.eq_2,ct (dt (by omega))];have c:decide (y.Ad.length=0)=false:=df (by omega)
   by_cases d:(Db z).length=y.Ad.length
   ·rw[cf (by rw[d];simp)];have hi:i<(Db z).length:=by omega
    rw[C2 hi]
    by_cases b:(Db z)[i]=(i:Int)
    ·rw[b,cf (by simp),BD (by omega) (by omega),Dt];refine ih m (i+1) (by omega) (by omega) fun j f=>?_
     by_cases g:j=i
     ·subst g;exact⟨d,by rw[List.getElem?_eq_getElem hi,b]⟩
     ·exact a j (by omega)
    ·rw[ct (by simpa using b)];have:((Db z==iota y.Ad.length)||decide (y.Ad.length=0))=false:=by
      rw[c,Bool.or_false,beq_eq_false_iff_ne];intro e;have:(Db z)[i]?=(iota y.Ad.length)[i]?:=by rw[e]
      rw[List.getElem?_eq_getElem hi,NF _ _ (by omega)] at this;exact b (Option.some.inj this)
     rw[this];rfl
   ·rw[ct (by simp;omega)];have:((Db z==iota y.Ad.length)||decide (y.Ad.length=0))=false:=by
     rw[c,Bool.or_false,beq_eq_false_iff_ne];intro e;have:=congrArg List.length e;rw[G1] at this;omega
    rw[this];rfl
theorem KC{K:Nat}(y:Ap)(o:List (List Int))(f:y.Ad.length≤4)(hK:2000≤K)(i:o.length≤1000)(k:o.flatten.length≤1000):D6 K y o=some (Da y o):=by
 unfold D6;have c:=T3 o (by omega) o.length K 0 [] (by omega) (by omega) (by omega) (by simp);have d:=Rp y o.flatten f y.Ad.length K 0 (by omega) (by omega) fun j g=>absurd g (by omega);rw[Int.natCast_zero] at c d;rw[bd c,FR (by omega),bd d];unfold Da
 by_cases b:y.Ad.length=0
 ·rw[show((Db o.flatten==iota y.Ad.length)||decide (y.Ad.length=0))=true by rw[Bool.or_eq_true];exact .inr (dt b)];show cond ((o.length:Int)==y.Ai) (some (((Db o.flatten).length:Int)==(y.Ad.length:Int))) (some false)=_;have h:(((Db o.flatten).length:Int)==(y.Ad.length:Int))=(Db o.flatten==iota y.Ad.length):=by
   rw[b];cases e:Db o.flatten with
   |nil=>rfl
   |cons a l=>
    have h1:(((a::l).length:Int)==((0:Nat):Int))=false:=by simp;omega
    rw[h1];rfl
  rw[h];cases ((o.length:Int)==y.Ai)<;>rfl
 ·rw[show decide (y.Ad.length=0)=false from df b,Bool.or_false];cases e:(Db o.flatten==iota y.Ad.length) with
  |false=>show some false=_;rw[Bool.and_false]
  |true=>
   show cond ((o.length:Int)==y.Ai) (some (((Db o.flatten).length:Int)==(y.Ad.length:Int))) (some false)=_;rw[eq_of_beq e,G1];cases ((o.length:Int)==y.Ai)<;>simp
theorem EW{y:Ap}{o:List (List Int)}:Da y o=true↔(o.length:Int)=y.Ai∧o.flatten.Perm (iota y.Ad.length):=by
 unfold Da;rw[Bool.and_eq_true,beq_iff_eq,beq_iff_eq];refine and_congr_right fun _=>⟨fun h=>?_,fun h=>?_⟩
 ·rw[←h];exact(List.mergeSort_perm _ _).symm
 ·have h1:(Db o.flatten).Pairwise (fun a b:Int=>a≤b):=by
   have:=List.pairwise_mergeSort (le:=fun x y:Int=>decide (x≤y)) (fun a b c h1 d=>by simp at*;omega) (fun a b=>by simp;omega) o.flatten;exact this.imp fun h=>by simpa using h
  have d:(iota y.Ad.length).Pairwise (fun a b:Int=>a≤b):=by
   unfold iota;rw[List.pairwise_map];exact List.pairwise_lt_range.imp fun h=>by omega
  exact List.Perm.eq_of_pairwise (le:=fun a b:Int=>a≤b) (fun a b _ _ h e=>by omega) h1 d ((List.mergeSort_perm _ _).trans h)
theorem JO{n:Nat}{i:Int}:i∈iota n↔0≤i∧i<n:=by
 unfold iota;rw[List.mem_map];constructor
 ·rintro⟨k,a,rfl⟩;rw[List.mem_range] at a;omega
 ·rintro⟨h0,h1⟩;exact⟨i.toNat,by rw[List.mem_range];omega,by omega⟩
theorem Mj{y:Ap}{o:List (List Int)}(h:Da y o=true):∀l∈o,l.length≤y.Ad.length∧∀i∈l,0≤i∧i<(y.Ad.length:Int):=by
 intro l a;have b:=(EW.1 h).2;constructor
 ·have h1:=b.length_eq;rw[G1] at h1;have:=(List.sublist_flatten_of_mem a).length_le;omega
 ·intro i hi;exact JO.1 (b.mem_iff.1 (List.mem_flatten.2 ⟨l,a,hi⟩))
def D0:List A3→List Int→Bool
 |[],[]=>true
 |l::ls,c::cs=>Fy c l.Ar l.AE&&D0 ls cs
 |_,_=>false
def EE(y:Ap)(t:AX):Bool:=decide ((t.Ao.length:Int)=y.Ak+1)&&(Hn y t.Ao&&D0 y.Ad t.Comes)
theorem Hc:∀{ls:List A3} {cs:List Int},D0 ls cs=true→cs.length=ls.length
 |[],[],_=>rfl
 |_::ls,_::cs,h=>by
  rw[D0,Bool.and_eq_true] at h;rw[List.length_cons,List.length_cons,Hc h.2]
 |[],_::_,h=>by cases h
 |_::_,[],h=>by cases h
theorem Qe(K:Nat)(y:Ap)(t:AX)(b:y.Ad.length≤4)(c:t.Comes.length=y.Ad.length):∀(k m i:Nat),y.Ad.length=i+k→k<m→
  Dm K y t m (i:Int)=some (cond (D0 (y.Ad.drop i) (t.Comes.drop i)) (.inr ()) (.inl false)):=by
 intro k
 induction k with
 |zero=>
  intro m i h hm;cases m with
  |zero=>omega
  |succ m=>rw[Dm.eq_2,cf (df (by omega)),List.drop_eq_nil_of_le (by omega),List.drop_eq_nil_of_le (by omega)];rfl
 |succ k ih=>
  intro m i h hm;cases m with
  |zero=>omega
  |succ m=>
   have hi:i<y.Ad.length:=by omega
   have a:i<t.Comes.length:=by omega
   rw[Dm.eq_2,ct (dt (by omega)),C2 hi,C2 a,bd (Hm ..),List.drop_eq_getElem_cons hi,List.drop_eq_getElem_cons a,D0];cases d:Fy t.Comes[i] y.Ad[i].Ar y.Ad[i].AE with
   |false=>rw[nf];rfl
   |true=>rw[nt,BD (by omega) (by omega),Dt,Bool.true_and];exact ih m (i+1) (by omega) (by omega)
theorem Qf{K:Nat}(y:Ap)(t:AX)(h0:0≤y.Ak)(h9:y.Ak≤9)(b:y.Ad.length≤4)(hK:2000≤K):Fl K y t=some (EE y t):=by
 unfold Fl EE
 by_cases a:t.Comes.length=y.Ad.length
 ·rw[cf (by rw[a];simp),BD (by omega) (by omega)]
  by_cases hw:(t.Ao.length:Int)=y.Ak+1
  ·rw[cf (by rw[hw];simp),bd (MM y t.Ao (by omega) (by omega)),dt hw,Bool.true_and];show cond (!(Hn y t.Ao)) _ _=_;cases Hn y t.Ao with
   |false=>rw[nf];rfl
   |true=>
    have:=Qe K y t b a y.Ad.length K 0 (by omega) (by omega);rw[Int.natCast_zero,List.drop_zero,List.drop_zero] at this;rw[nt,bd this,Bool.true_and];cases D0 y.Ad t.Comes<;>rfl
  ·rw[ct (by simpa using hw),df hw];rfl
 ·rw[ct (by simp;omega)];cases c:D0 y.Ad t.Comes with
  |false=>rw[Bool.and_false,Bool.and_false]
  |true=>exact absurd (Hc c) a
theorem GS{c:List Int}:∀{ls:List A3},c∈ED ls↔D0 ls c=true
 |[]=>by
  cases c with
  |nil=>simp[ED,D0]
  |cons a l=>simp[ED,D0]
 |l::r=>by
  rw[ED,List.mem_flatMap];constructor
  ·rintro⟨n,b,e⟩;obtain⟨d,f,rfl⟩:=List.mem_map.1 e;rw[D0,Bool.and_eq_true];rw[List.mem_range] at b;unfold B0 at b;exact⟨EV.2 (by omega),GS.1 f⟩
  ·intro h;cases c with
   |nil=>simp[D0] at h
   |cons a d=>
    rw[D0,Bool.and_eq_true] at h;have h1:=EV.1 h.1;refine⟨(a-l.Ar).toNat,?_,List.mem_map.2 ⟨d,GS.2 h.2,?_⟩⟩
    ·rw[List.mem_range];unfold B0;omega
    ·congr 1;omega
def bitsOf:List Bool→Nat
 |[]=>0
 |b::l=>(cond b 1 0)+2*bitsOf l
theorem Lg:∀(l:List Bool) (d:Nat),(bitsOf l).testBit d=l.getD d false
 |[],d=>by simp[bitsOf]
 |b::l,0=>by rw[bitsOf,Nat.testBit_zero];cases b<;>simp<;>omega
 |b::l,d+1=>by
  rw[Nat.testBit_succ,bitsOf];have:((cond b 1 0)+2*bitsOf l)/2=bitsOf l:=by cases b<;>simp<;>omega
  rw[this,Lg l d];rfl
theorem MQ:∀(l:List Bool),bitsOf l<2^l.length
 |[]=>by simp[bitsOf]
 |b::l=>by
  have:=MQ l;rw[bitsOf,List.length_cons,Nat.pow_succ];cases b<;>simp<;>omega
theorem Qg(l:List Bool):wl l.length (bitsOf l)=l:=by
 apply List.ext_getElem?;intro i;unfold wl;rw[List.getElem?_map]
 by_cases h:i<l.length
 ·rw[List.getElem?_range h,List.getElem?_eq_getElem h];show some ((bitsOf l).testBit i)=_;rw[Lg,List.getD_eq_getElem?_getD,List.getElem?_eq_getElem h];rfl
 ·rw[List.getElem?_eq_none (by simp;omega),List.getElem?_eq_none (by omega)];rfl
theorem H5{y:Ap}{w:List Bool}:w∈Bp y↔w.length=days y∧Hn y w=true:=by
 unfold Bp;rw[List.mem_filter,List.mem_map];constructor
 ·rintro⟨⟨b,_,rfl⟩,h⟩;exact⟨FG _ _,h⟩
 ·rintro⟨h1,a⟩;exact⟨⟨bitsOf w,by rw[List.mem_range,←h1];exact MQ w,by rw[←h1];exact Qg w⟩,a⟩
theorem FB{y:Ap}(h0:0≤y.Ak){t:AX}:t∈BT y↔EE y t=true:=by
 unfold BT EE;rw[List.mem_flatMap,Bool.and_eq_true,Bool.and_eq_true,decide_eq_true_eq];constructor
 ·rintro⟨w,hw,ht⟩;obtain⟨c,b,rfl⟩:=List.mem_map.1 ht;obtain⟨h1,a⟩:=H5.1 hw;unfold days at h1;exact⟨by show(w.length:Int)=_;omega,a,GS.1 b⟩
 ·rintro⟨h1,a,h3⟩;exact⟨t.Ao,H5.2 ⟨by unfold days;omega,a⟩,List.mem_map.2 ⟨t.Comes,GS.2 h3,rfl⟩⟩
theorem U9(a b:List Bool)(g:a.length≤1000)(f:a.length=b.length):∀(k m i:Nat),a.length=i+k→k<m→Dx a b m (i:Int)=some (cond (a.drop i==b.drop i) (.inr ()) (.inl false)):=by
 intro k
 induction k with
 |zero=>
  intro m i h hm;cases m with
  |zero=>omega
  |succ m=>rw[Dx.eq_2,cf (df (by omega)),List.drop_eq_nil_of_le (by omega),List.drop_eq_nil_of_le (by omega)];rfl
 |succ k ih=>
  intro m i h hm;cases m with
  |zero=>omega
  |succ m=>
   have h1:i<a.length:=by omega
   have c:i<b.length:=by omega
   rw[Dx.eq_2,ct (dt (by omega)),C2 h1,C2 c,List.drop_eq_getElem_cons h1,List.drop_eq_getElem_cons c];cases d:(a[i] !=b[i]) with
   |true=>
    rw[ct rfl];have:(a[i]::a.drop (i+1)==b[i]::b.drop (i+1))=false:=by
     rw[List.cons_beq_cons];have:(a[i]==b[i])=false:=by simpa[bne] using d
     rw[this,Bool.false_and]
    rw[this];rfl
   |false=>
    have e:a[i]=b[i]:=by simpa[bne] using d
    rw[cf rfl,BD (by omega) (by omega),Dt,ih m (i+1) (by omega) (by omega),List.cons_beq_cons,e,beq_self_eq_true,Bool.true_and]
theorem Va{K:Nat}(a b:List Bool)(c:a.length≤1000)(hK:2000≤K):EA K a b=some (a==b):=by
 unfold EA
 by_cases h:a.length=b.length
 ·have:=U9 a b c h a.length K 0 (by omega) (by omega);rw[Int.natCast_zero,List.drop_zero,List.drop_zero] at this;rw[cf (by rw[h];simp),bd this];cases (a==b)<;>rfl
 ·rw[ct (by simp;omega)];have:(a==b)=false:=by
   rw[beq_eq_false_iff_ne];intro e;exact h (by rw[e])
  rw[this]
structure Er(y:Ap):Prop where
 h0:0≤y.Ak
 h9:y.Ak≤9
 r1:1≤y.Ai
 r2:y.Ai≤2
 n4:y.Ad.length≤4
 w0:0≤y.Ao
 w1:y.Ao≤y.Ak+1
 u0:0≤y.Aw
 u1:y.Aw≤y.Ak+1
 Pz:∀l∈y.Ad,Gk y l=true
 many:Gl y≤1000
theorem FH{y:Ap}(h:check y=0):Er y:=by
 unfold check at h;split at h
 ·cases h
 ·rename_i h1
  split at h
  ·cases h
  ·rename_i b
   split at h
   ·cases h
   ·rename_i h3
    rw[not_or,not_or] at h1;rw[not_or,not_or,not_or,not_or] at b;have hw:Fy y.Ao 0 (y.Ak+1)=true:=by cases a:Fy y.Ao 0 (y.Ak+1) with|true=>rfl|false=>exact absurd a b.2.2.1
    have c:Fy y.Aw 0 (y.Ak+1)=true:=by cases a:Fy y.Aw 0 (y.Ak+1) with|true=>rfl|false=>exact absurd a b.2.2.2.1
    have d:y.Ad.all (Gk y)=true:=by cases a:y.Ad.all (Gk y) with|true=>rfl|false=>exact absurd a b.2.2.2.2
    rw[EV] at hw c;exact⟨by omega,by omega,by omega,by omega,by omega,hw.1,hw.2,c.1,c.2,List.all_eq_true.1 d,by omega⟩
theorem Er.sz{y:Ap}(h:Er y):∀l∈y.Ad,sized l∧0≤l.Ar∧l.AE≤9:=fun l b=>by
 have a:=h.Pz l b;have:=IZ.1 a;have:=h.h9;exact⟨Ls h.h9 a,by omega,by omega⟩
def Vb(y:Ap):Option Cy→Prop
 |none=>True
 |some x=>∃w m,x=wk y w m∧(w.length:Int)=y.Ak+1∧GJ y w m
theorem Qh{σ:Type}{K:Nat}(cb:σ→AX×List As→Option (Bool×σ))(y:Ap)(hy:Er y)(o:List (List Int))(u:Da y o=true)(hK:2000≤K):∀(d:List AX) (g:Option Cy) (s:σ),(∀t∈d,EE y t=true)→Vb y g→
  (run (fun(st:(Option Cy)×σ×Bool) (x:AX)=>cond st.2.2 none (DF cb K y o st.1 st.2.1 x)) d (g,s,false)).bind (fun f=>cond f.2.2.2 (some f.2.2.1) (some f.2.2.1))=(run (fun s t=>cb s (t,GR y t.Ao o t.Comes)) d s).bind fun r=>some r.2
 |[],g,s,_,_=>rfl
 |t::d,g,s,ht,aF=>by
  have h:=ht t (List.mem_cons_self ..);have z:∀x∈d,EE y x=true:=fun x aG=>ht x (List.mem_cons_of_mem _ aG);unfold EE at h;rw[Bool.and_eq_true,Bool.and_eq_true,decide_eq_true_eq] at h;obtain⟨hw,_,aH⟩:=h;have aA:=Hc aH;have p:=Mj u;have aB:o.length≤1000:=by have:=(EW.1 u).1;have:=hy.r2;omega
  have v:∀l∈o,l.length≤1000∧∀i∈l,0≤i∧i<(y.Ad.length:Int):=fun l aC=>⟨by have:=(p l aC).1;have:=hy.n4;omega,(p l aC).2⟩;rw[run,run];show(Option.bind (DF cb K y o g s t) _:Option _).bind _=_
  
  have key:∀(m:List (List Int×As)),GJ y t.Ao m→∃c,GJ y t.Ao c∧C1 K (wk y t.Ao m) o t.Comes=some (GR y t.Ao o t.Comes,c):=fun m hm=>by
   obtain⟨c,h1,aI⟩:=Qd (K:=K) y t.Ao m t.Comes o hy.h0 hy.h9 hy.n4 hw hK v aA aB hm;exact⟨c,aI,h1⟩
  have fin:∀(c:List (List Int×As)),GJ y t.Ao c→
    (Option.bind ((cb s (t,GR y t.Ao o t.Comes)).bind fun a=>cond (!a.1) (some (false,(some (wk y t.Ao c)),a.2,true)) (some (true,(some (wk y t.Ao c)),a.2,false))) fun r=>cond r.1 (run (fun(st:(Option Cy)×σ×Bool) (x:AX)=>cond st.2.2 none (DF cb K y o st.1 st.2.1 x)) d r.2) (some (false,r.2))).bind (fun f=>cond f.2.2.2 (some f.2.2.1) (some f.2.2.1))=
    (Option.bind (cb s (t,GR y t.Ao o t.Comes)) fun r=>cond r.1 (run (fun s t=>cb s (t,GR y t.Ao o t.Comes)) d r.2) (some (false,r.2))).bind fun r=>some r.2:=fun c j=>by
   cases cb s (t,GR y t.Ao o t.Comes) with
   |none=>rfl
   |some r=>
    obtain⟨b,s2⟩:=r;cases b with
    |false=>rfl
    |true=>exact Qh cb y hy o u hK d (some (wk y t.Ao c)) s2 z ⟨t.Ao,c,rfl,hw,j⟩
  unfold DF;obtain⟨k,q,aJ⟩:=key [] (ND _ _);have aM:=hy.h9;have e:(F8 (((0+t.Ao.length:Nat):Int)≤140737488355328/1)).bind (fun _=>(C1 K (⟨y.Ak,y.Ai,y.Ao,y.Aw,y.Ad,t.Ao,[]⟩:Cy) o t.Comes).bind fun n=>(cb s (t,n.1)).bind fun a=>cond (!a.1) (some (false,(some (⟨y.Ak,y.Ai,y.Ao,y.Aw,y.Ad,t.Ao,n.2⟩:Cy)),a.2,true)) (some (true,(some (⟨y.Ak,y.Ai,y.Ao,y.Aw,y.Ad,t.Ao,n.2⟩:Cy)),a.2,false)))=
    (cb s (t,GR y t.Ao o t.Comes)).bind fun a=>cond (!a.1) (some (false,(some (wk y t.Ao k)),a.2,true)) (some (true,(some (wk y t.Ao k)),a.2,false)):=by
   have aD:C1 K (⟨y.Ak,y.Ai,y.Ao,y.Aw,y.Ad,t.Ao,[]⟩:Cy) o t.Comes=some (GR y t.Ao o t.Comes,k):=aJ;rw[FR (by omega),bd aD];rfl
  cases g with
  |none=>
   show(Option.bind ((F8 _).bind _) _:Option _).bind _=_;rw[e];exact fin k q
  |some x=>
   obtain⟨w,m,rfl,aN,aE⟩:=aF;show(Option.bind ((EA K w t.Ao).bind _) _:Option _).bind _=_;rw[bd (Va w t.Ao (by omega) hK)];cases aK:(w==t.Ao) with
   |false=>
    rw[nf,e];exact fin k q
   |true=>
    obtain rfl:=eq_of_beq aK;obtain⟨c,j,aL⟩:=key m aE;rw[nt,bd aL];exact fin c j
theorem Qi{σ:Type}{K:Nat}(cb:σ→AX×List As→Option (Bool×σ))(y:Ap)(hy:Er y)(o:List (List Int))(a:Da y o=true)(hK:2000≤K)(s:σ):
  Fu K cb y o s=(run (fun s t=>cb s (t,GR y t.Ao o t.Comes)) (BT y) s).bind fun r=>some r.2:=by
 unfold Fu;rw[Ro _ y hy.h0 hy.h9 hy.n4 hy.sz hK,Option.bind_assoc];exact Qh cb y hy o a hK (BT y) none s (fun t ht=>(FB hy.h0).1 ht) trivial
end Go.Proofs.YtkljfdkmjdjpfaaGreat
end
section
namespace Go.Proofs.YtkljfdkmjdjpfaaGreat
def Eg(l:A3)(s:As):Bool:=s.AP&&decide (s.Bh≤l.BZ)
theorem Mk(K:Nat)(l:A3)(s:As):Df K l s=some (Eg l s):=by unfold Df Eg;cases s.AP<;>rfl
theorem OK(K:Nat)(l:A3)(s:As):Ee K l s=some (!Eg l s):=by unfold Ee;rw[bd (Mk ..)]
def FT (p:A3→As→Bool):List A3→List As→Nat
 |l::ls,s::ss=>(cond (p l s) 1 0)+FT p ls ss
 |_,_=>0
def B8(l:A3)(s:As):Bool:= !Eg l s
def Dd(y:Ap)(ss:List As):Nat:=FT B8 y.Ad ss
theorem Ml(p:A3→As→Bool):∀(ls:List A3) (ss:List As),FT p ls ss≤ls.length
 |l::ls,s::ss=>by
  have:=Ml p ls ss;rw[FT,List.length_cons];cases p l s<;>simp<;>omega
 |[],_=>by simp[FT]
 |_::_,[]=>by simp[FT]
theorem T4{K:Nat}(y:Ap)(ss:List As)(c:y.Ad.length≤4)(d:ss.length=y.Ad.length):∀(k m i:Nat) (a:Int),ss.length=i+k→k<m→0≤a→a≤i→
  DE K y ss m a (i:Int)=some (a+(FT B8 (y.Ad.drop i) (ss.drop i):Nat)):=by
 intro k
 induction k with
 |zero=>
  intro m i a h hm h0 h1;cases m with
  |zero=>omega
  |succ m=>
   rw[DE.eq_2,cf (df (by omega)),List.drop_eq_nil_of_le («as»:=y.Ad) (by omega),FT]
   ·simp
   ·intro _ _ _ _ h;cases h
 |succ k ih=>
  intro m i a h hm h0 h1;cases m with
  |zero=>omega
  |succ m=>
   have hi:i<ss.length:=by omega
   have b:i<y.Ad.length:=by omega
   rw[DE.eq_2,ct (dt (by omega)),C2 hi,C2 b,bd (OK ..),List.drop_eq_getElem_cons hi,List.drop_eq_getElem_cons b,FT];show cond (B8 y.Ad[i] ss[i]) _ _=_;cases e:B8 y.Ad[i] ss[i] with
   |true=>
    rw[ct rfl,BD (by omega) (by omega),BD (by omega) (by omega),Dt,ih m (i+1) (a+1) (by omega) (by omega) (by omega) (by omega)]
    congr 1
    show a+1+_=a+((1+FT B8 _ _:Nat):Int);omega
   |false=>
    rw[cf rfl,BD (by omega) (by omega),Dt,ih m (i+1) a (by omega) (by omega) (by omega) (by omega)]
    congr 1
    show a+_=a+((0+FT B8 _ _:Nat):Int);omega
theorem Qj{K:Nat}(y:Ap)(ss:List As)(a:y.Ad.length≤4)(b:ss.length=y.Ad.length)(hK:2000≤K):EN K y ss=some (Dd y ss:Int):=by
 unfold EN;have:=T4 (K:=K) y ss a b ss.length K 0 0 (by omega) (by omega) (by omega) (by omega);rw[Int.natCast_zero,List.drop_zero,List.drop_zero] at this;rw[bd this];simp[Dd]
theorem GK(y:Ap)(w:List Bool)(o:List (List Int))(c:List Int):(GR y w o c).length=y.Ad.length:=by unfold GR;rw[KB,List.length_replicate]
def B1 (y:Ap) (o:List (List Int)) (t:AX):List As:=GR y t.Ao o t.Comes
theorem Qk{K:Nat}(y:Ap)(o:List (List Int))(t:AX)(hK:2000≤K)(c:o.length≤1000)(f:o.flatten.length≤1000):
  E4 K y o t=some (if check y≠0 then ([],check y) else if Da y o=false∨EE y t=false then ([],2) else (B1 y o t,0)):=by
 unfold E4;rw[bd (Ik hK y)]
 by_cases h:check y=0
 ·rw[h,cf (by decide),if_neg (by simp)];have hy:=FH h;rw[bd (KC y o hy.n4 hK c f)];cases g:Da y o with
  |false=>rw[nf,if_pos (.inl rfl)]
  |true=>
   rw[nt,bd (Qf y t hy.h0 hy.h9 hy.n4 hK)];cases ht:EE y t with
   |false=>rw[nf,if_pos (.inr rfl)]
   |true=>
    rw[nt,if_neg (by simp)];have a:=ht;unfold EE at a;rw[Bool.and_eq_true,Bool.and_eq_true,decide_eq_true_eq] at a;have b:=Mj g;obtain⟨i,e,_⟩:=Qd (K:=K) y t.Ao [] t.Comes o hy.h0 hy.h9 hy.n4 a.1 hK (fun l d=>⟨by have:=(b l d).1;have:=hy.n4;omega,(b l d).2⟩) (Hc a.2.2) c (ND _ _);have j:C1 K (⟨y.Ak,y.Ai,y.Ao,y.Aw,y.Ad,t.Ao,[]⟩:Cy) o t.Comes=some (GR y t.Ao o t.Comes,i):=e;rw[bd j];rfl
 ·rw[ct (by simpa using h),if_pos h]
def Ie (y:Ap) (o:List (List Int)):List AX→Int×AX→Int×AX
 |[],s=>s
 |t::a,s=>
  let s2:=if s.1<(Dd y (B1 y o t):Int) then ((Dd y (B1 y o t):Int),t) else s
  cond (decide (s2.1<(y.Ad.length:Int))) (Ie y o a s2) s2
def C9(y:Ap)(o:List (List Int)):Int×AX:=Ie y o (BT y) (-1,⟨[],[]⟩)
theorem NG{K:Nat}(y:Ap)(hy:Er y)(o:List (List Int))(hK:2000≤K):∀(a:List AX) (s:Int×AX),(∀t∈a,EE y t=true)→
  (run (fun(st:Int×AX) t=>(ES K t (B1 y o t) y st.1 st.2).bind fun r=>some (r.1,(r.2.1,r.2.2))) a s).bind (fun r=>some r.2)=some (Ie y o a s)
 |[],s,_=>rfl
 |t::a,s,ht=>by
  have b:=ht t (List.mem_cons_self ..);unfold EE at b;rw[Bool.and_eq_true,Bool.and_eq_true,decide_eq_true_eq] at b;have d:=Hc b.2.2;have e:=hy.n4;have h9:=hy.h9;rw[run,Ie];unfold ES;rw[bd (Qj y (B1 y o t) hy.n4 (GK ..) hK)]
  by_cases h:s.1<(Dd y (B1 y o t):Int)
  ·rw[ct (dt h),FR (by omega),FR (by omega),if_pos h];show(cond (decide ((Dd y (B1 y o t):Int)<(y.Ad.length:Int))) _ _:Option (Bool×Int×AX)).bind _=some (cond (decide ((Dd y (B1 y o t):Int)<(y.Ad.length:Int))) _ _);cases decide ((Dd y (B1 y o t):Int)<(y.Ad.length:Int)) with
   |false=>rfl
   |true=>exact NG y hy o hK a _ fun x c=>ht x (List.mem_cons_of_mem _ c)
  ·rw[cf (df h),if_neg h];show(cond (decide (s.1<(y.Ad.length:Int))) _ _:Option (Bool×Int×AX)).bind _=some (cond (decide (s.1<(y.Ad.length:Int))) _ _);cases decide (s.1<(y.Ad.length:Int)) with
   |false=>rfl
   |true=>exact NG y hy o hK a s fun x c=>ht x (List.mem_cons_of_mem _ c)
theorem Ql{K:Nat}(y:Ap)(hy:Er y)(o:List (List Int))(a:Da y o=true)(hK:2000≤K):Fv K y o=some (C9 y o):=by
 unfold Fv;rw[Qi _ y hy o a hK];have:=NG y hy o hK (BT y) (-1,⟨[],[]⟩) fun t ht=>(FB hy.h0).1 ht;exact Eq.trans (bd this) rfl
theorem Qm{K:Nat}(y:Ap)(o:List (List Int))(hK:2000≤K)(a:o.length≤1000)(b:o.flatten.length≤1000):
  Gt K y o=some (if check y≠0 then (0,⟨[],[]⟩,check y) else if Da y o=false then (0,⟨[],[]⟩,2) else ((C9 y o).1,(C9 y o).2,0)):=by
 unfold Gt;rw[bd (Ik hK y)]
 by_cases h:check y=0
 ·rw[h,cf (by decide),if_neg (by simp)];have hy:=FH h;rw[bd (KC y o hy.n4 hK a b)];cases c:Da y o with
  |false=>rw[nf,if_pos rfl]
  |true=>rw[nt,if_neg (by simp),bd (Ql y hy o c hK)]
 ·rw[ct (by simpa using h),if_pos h]
theorem NH{K:Nat}(y:Ap)(o:List (List Int))(n:Int)(hK:2000≤K)(a:o.length≤1000)(b:o.flatten.length≤1000):
  Fe K y o n=some (decide (check y=0)&&(Da y o&&decide ((C9 y o).1≤n))):=by
 unfold Fe;rw[bd (Qm y o hK a b)]
 by_cases h:check y=0
 ·rw[if_neg (by simp[h]),dt h];cases c:Da y o with
  |false=>rw[if_pos rfl];rfl
  |true=>rw[if_neg (by simp)];rfl
 ·rw[if_pos h,df h,cf (by simpa using h)];rfl
theorem Oq{K:Nat}(y:Ap)(o:List (List Int))(t:AX)(n:Int)(hK:2000≤K)(a:o.length≤1000)(b:o.flatten.length≤1000):
  Fw K y o t n=some (decide (check y=0)&&(Da y o&&(EE y t&&decide (n≤(Dd y (B1 y o t):Int))))):=by
 unfold Fw;rw[bd (Qk y o t hK a b)]
 by_cases h:check y=0
 ·rw[if_neg (by simp[h]),dt h];cases c:Da y o with
  |false=>rw[if_pos (.inl rfl)];rfl
  |true=>
   cases ht:EE y t with
   |false=>rw[if_pos (.inr rfl)];rfl
   |true=>
    rw[if_neg (by simp)];show(EN K y (B1 y o t)).bind _=_;rw[bd (Qj y (B1 y o t) (FH h).n4 (GK ..) hK)];rfl
 ·rw[if_pos h,df h,cf (by simpa using h)];rfl
def Hg(p:A3→As→Bool):List A3→List As→List Int→List Int
 |l::ls,s::ss,a::as=>(cond (p l s) (a+1) a)::Hg p ls ss as
 |_,_,as=>as
theorem R8(x:BN)(k:Nat)(v:Int)(h:k<4):(x.set k v).l=x.l.set k v:=by
 match k,h with
 |0,_=>rfl
 |1,_=>rfl
 |2,_=>rfl
 |3,_=>rfl
theorem Lu(p:A3→As→Bool)(ss:List As)(as:List Int):Hg p [] ss as=as:=by cases as<;>rfl
theorem Sv{K:Nat}(p:A3→As→Bool)(y:Ap)(ss:List As)(q:y.Ad.length≤4)(r:ss.length=y.Ad.length):∀(k m i:Nat) (a:BN),ss.length=i+k→k<m→(∀x∈a.l.drop i,0≤x∧x≤100000)→
  ∃b:BN,CI (fun(st:Unit) (x:A3×As)=>some (p x.1 x.2,())) ss y m (i:Int) a.a0 a.a1 a.a2 a.a3 ()=some (b.a0,b.a1,b.a2,b.a3,())∧b.l=a.l.take i++Hg p (y.Ad.drop i) (ss.drop i) (a.l.drop i):=by
 intro k
 induction k with
 |zero=>
  intro m i a h hm e;cases m with
  |zero=>omega
  |succ m=>
   rw[CI.eq_2,cf (df (by omega)),List.drop_eq_nil_of_le («as»:=y.Ad) (by omega),Lu];exact⟨a,rfl,(List.take_append_drop ..).symm⟩
 |succ k ih=>
  intro m i a h hm e;cases m with
  |zero=>omega
  |succ m=>
   have hi:i<ss.length:=by omega
   have f:i<y.Ad.length:=by omega
   have c:i<a.l.length:=by show i<4;omega
   rw[CI.eq_2,ct (dt (by omega)),C2 hi,C2 f,Option.bind_some,List.drop_eq_getElem_cons hi,List.drop_eq_getElem_cons f,List.drop_eq_getElem_cons c,Hg];cases s:p y.Ad[i] ss[i] with
   |true=>
    have t:=e a.l[i] (by rw[List.drop_eq_getElem_cons c];exact List.mem_cons_self ..);have g:idx [a.a0,a.a1,a.a2,a.a3] (i:Int)=some a.l[i]:=idx_eq c;rw[ct rfl,bd g,BD (by omega) (by omega),bd g,BD (by omega) (by omega),Dt,Int.toNat_natCast];obtain⟨b,j,n⟩:=ih m (i+1) (a.set i (a.l[i]+1)) (by omega) (by omega) (fun x d=>by
     rw[R8 _ _ _ (by omega),List.drop_set_of_lt (by omega)] at d;exact e x (by rw[List.drop_eq_getElem_cons c];exact List.mem_cons_of_mem _ d))
    refine⟨b,j,?_⟩;rw[n,R8 _ _ _ (by omega),List.take_add_one,List.getElem?_set_self c,List.take_set_of_le (Nat.le_refl _),List.drop_set_of_lt (by omega)];simp
   |false=>
    rw[cf rfl,BD (by omega) (by omega),Dt];obtain⟨b,j,n⟩:=ih m (i+1) a (by omega) (by omega) fun x d=>e x (by rw[List.drop_eq_getElem_cons c];exact List.mem_cons_of_mem _ d);refine⟨b,j,?_⟩;have o:a.l.take (i+1)=a.l.take i++[a.l[i]]:=by rw[List.take_add_one,List.getElem?_eq_getElem c];rfl
    rw[n,o,List.append_assoc];rfl
theorem Rq{K:Nat}(p:A3→As→Bool)(y:Ap)(t:AX)(ss:List As)(e:y.Ad.length≤4)(f:ss.length=y.Ad.length)(hK:2000≤K)(n:Int)(a:BN)(h:0≤n∧n≤100000)(g:∀x∈a.l,0≤x∧x≤100000):
  ∃b:BN,C4 K (fun(st:Unit) (x:A3×As)=>some (p x.1 x.2,())) t ss n y a ()=some (true,n+1,b,())∧b.l=Hg p y.Ad ss a.l:=by
 unfold C4;obtain⟨b,c,d⟩:=Sv (K:=K) p y ss e f ss.length K 0 a (by omega) (by omega) (by rw[List.drop_zero];exact g);rw[Int.natCast_zero] at c;rw[List.take_zero,List.drop_zero,List.drop_zero,List.drop_zero,List.nil_append] at d;rw[BD (by omega) (by omega),bd c];exact⟨b,rfl,d⟩
theorem OL(p:A3→As→Bool)(B:Int):∀(ls:List A3) (ss:List As) (as:List Int),(∀x∈as,0≤x∧x≤B)→∀x∈Hg p ls ss as,0≤x∧x≤B+1
 |l::ls,s::ss,a::as,h,x,b=>by
  rw[Hg] at b;rcases List.mem_cons.1 b with rfl|b
  ·have:=h a (List.mem_cons_self ..);cases p l s<;>simp<;>omega
  ·exact OL p B ls ss as (fun z c=>h z (List.mem_cons_of_mem _ c)) x b
 |[],_,as,h,x,b=>by
  rw[Lu] at b;have:=h x b;omega
 |l::ls,[],as,h,x,b=>by
  have e:Hg p (l::ls) [] as=as:=by cases as<;>rfl
  rw[e] at b;have:=h x b;omega
 |l::ls,s::ss,[],h,x,b=>by
  have e:Hg p (l::ls) (s::ss) []=[]:=rfl;rw[e] at b;cases b
def Mm (p:A3→As→Bool) (y:Ap) (o:List (List Int)):List AX→List Int→List Int
 |[],a=>a
 |t::b,a=>Mm p y o b (Hg p y.Ad (B1 y o t) a)
theorem NI{K:Nat}(p:A3→As→Bool)(y:Ap)(hy:Er y)(o:List (List Int))(hK:2000≤K):∀(c:List AX) (n:Int) (a:BN) (B:Int),0≤n→n+c.length≤100000→B+c.length≤100000→(∀x∈a.l,0≤x∧x≤B)→
  ∃b:BN,run (fun(st:Int×BN×Unit) t=>(C4 K (fun(st:Unit) (x:A3×As)=>some (p x.1 x.2,())) t (B1 y o t) st.1 y st.2.1 st.2.2).bind fun r=>some (r.1,(r.2.1,r.2.2.1,r.2.2.2))) c (n,a,())=some (true,n+c.length,b,())∧b.l=Mm p y o c a.l
 |[],n,a,B,_,_,_,_=>⟨a,by simp[run],rfl⟩
 |t::c,n,a,B,h0,h1,f,d=>by
  rw[List.length_cons] at h1 f;obtain⟨b,g,e⟩:=Rq (K:=K) p y t (B1 y o t) hy.n4 (GK ..) hK n a (by omega) (fun x h=>by have:=d x h;omega);obtain⟨i,j,k⟩:=NI p y hy o hK c (n+1) b (B+1) (by omega) (by omega) (by omega) (by rw[e];exact OL p B _ _ _ d);refine⟨i,?_,by rw[k,e];rfl⟩;rw[run];show Option.bind ((C4 K _ t (B1 y o t) n y a ()).bind _) _=_;rw[bd g];show run _ c (n+1,b,())=_;rw[j,List.length_cons]
  congr 3;omega
theorem Jl(y:Ap)(hy:Er y):((BT y).length:Int)=Gl y:=by
 have a:∀ls:List A3,(∀l∈ls,sized l)→((ED ls).length:Int)=E1 ls:=by
  intro ls
  induction ls with
  |nil=>intro _;rfl
  |cons l r ih=>
   intro h;have h1:=(h l (List.mem_cons_self ..)).1;rw[ED,E1,List.length_flatMap,←ih fun x b=>h x (List.mem_cons_of_mem _ b)];have:((List.range (B0 l).toNat).map fun(n:Nat)=>((ED r).map fun c=>(l.Ar+(n:Int))::c).length)=List.replicate (B0 l).toNat (ED r).length:=by
    apply List.ext_getElem
    ·simp
    ·intro i h1 d;simp
   rw[this,List.sum_replicate_nat,Int.natCast_mul]
   congr 1;omega
 unfold BT Gl;rw[List.length_flatMap,←a y.Ad fun l e=>(hy.sz l e).1];have:((Bp y).map fun w=>((ED y.Ad).map fun c=>(⟨c,w⟩:AX)).length)=List.replicate (Bp y).length (ED y.Ad).length:=by
  apply List.ext_getElem
  ·simp
  ·intro i h1 d;simp
 rw[this,List.sum_replicate_nat,Int.natCast_mul]
def Co (p:A3→As→Bool) (y:Ap) (o:List (List Int)):List Int:=Mm p y o (BT y) [0,0,0,0]
theorem Mn{K:Nat}(p:A3→As→Bool)(y:Ap)(hy:Er y)(o:List (List Int))(a:Da y o=true)(hK:2000≤K):
  ∃b:BN,Cz K (fun(st:Unit) (x:A3×As)=>some (p x.1 x.2,())) y o ()=some (b,((BT y).length:Int),())∧b.l=Co p y o:=by
 unfold Cz;rw[Qi _ y hy o a hK];have f:=Jl y hy;have:=hy.many;obtain⟨b,c,d⟩:=NI (K:=K) p y hy o hK (BT y) 0 ⟨0,0,0,0⟩ 0 (by omega) (by omega) (by omega) (by intro x e;simp[BN.l] at e;omega);refine⟨b,?_,d⟩;refine Eq.trans (congrArg (fun z=>Option.bind (Option.bind z _) _) c) ?_;rw[Int.zero_add];rfl
end Go.Proofs.YtkljfdkmjdjpfaaGreat
end
section
namespace Go.Proofs.YtkljfdkmjdjpfaaGreat
def Fx(y:Ap)(i:Nat):A3:=y.Ad.getD i Ho
def JP(y:Ap)(o:List (List Int))(t:AX)(i:Nat):As:=(B1 y o t).getD i HW
def F5 (y:Ap) (o:List (List Int)) (i:Nat) (t:AX):Bool:=Eg (Fx y i) (JP y o t i)
theorem NJ(p:A3→As→Bool):∀(ls:List A3) (ss:List As) (as:List Int) (i:Nat),i<ls.length→i<ss.length→i<as.length→
  (Hg p ls ss as).getD i 0=as.getD i 0+(cond (p (ls.getD i Ho) (ss.getD i HW)) 1 0)
 |l::ls,s::ss,a::as,0,_,_,_=>by
  rw[Hg];show cond (p l s) (a+1) a=a+cond (p l s) 1 0;cases p l s<;>simp
 |l::ls,s::ss,a::as,i+1,h1,b,h3=>by
  rw[Hg];exact NJ p ls ss as i (by simpa using h1) (by simpa using b) (by simpa using h3)
theorem Lh(p:A3→As→Bool):∀(ls:List A3) (ss:List As) (as:List Int),(Hg p ls ss as).length=as.length
 |l::ls,s::ss,a::as=>by rw[Hg,List.length_cons,Lh p ls ss as,List.length_cons]
 |[],ss,as=>by rw[Lu]
 |l::ls,[],as=>by
  have e:Hg p (l::ls) [] as=as:=by cases as<;>rfl
  rw[e]
 |l::ls,s::ss,[]=>rfl
theorem NK(p:A3→As→Bool)(y:Ap)(o:List (List Int))(i:Nat)(hi:i<y.Ad.length):∀(a:List AX) (as:List Int),i<as.length→
  (Mm p y o a as).getD i 0=as.getD i 0+(a.countP (fun t=>p (Fx y i) (JP y o t i)):Nat)
 |[],as,_=>by simp[Mm]
 |t::a,as,h=>by
  rw[Mm,NK p y o i hi a _ (by rw[Lh];exact h),NJ p _ _ _ i hi (by rw[B1,GK];exact hi) h,List.countP_cons];unfold Fx JP;cases p (y.Ad.getD i Ho) ((B1 y o t).getD i HW)<;>simp<;>omega
theorem JQ(p:A3→As→Bool)(y:Ap)(hy:Er y)(o:List (List Int))(i:Nat)(hi:i<y.Ad.length):(Co p y o).getD i 0=((BT y).countP (fun t=>p (Fx y i) (JP y o t i)):Nat):=by
 unfold Co;have a:=hy.n4;rw[NK p y o i hi _ _ (by show i<4;omega)];have:([0,0,0,0]:List Int).getD i 0=0:=by
  match i,(show i<4 by omega) with
  |0,_=>rfl
  |1,_=>rfl
  |2,_=>rfl
  |3,_=>rfl
 rw[this,Int.zero_add]
theorem M8(b:BN)(i:Nat)(h:i<4):idx [b.a0,b.a1,b.a2,b.a3] (i:Int)=some (b.l.getD i 0):=by
 have:i<[b.a0,b.a1,b.a2,b.a3].length:=h;rw[idx_eq this];show some b.l[i]=_;rw[List.getD_eq_getElem?_getD,List.getElem?_eq_getElem (show i<b.l.length from h)];rfl
def verdict (y:Ap) (o:List (List Int)) (i:Nat):Int:=cond ((BT y).all (F5 y o i)) 1 (cond ((BT y).all fun t=> !F5 y o i t) 2 3)
theorem MR{α:Type}(p:α→Bool)(l:List α):((((l.countP p:Nat):Int)==(l.length:Int)))=l.all p:=by
 rw[Bool.eq_iff_iff,beq_iff_eq,List.all_eq_true,Int.ofNat_inj,List.countP_eq_length]
theorem LY{α:Type}(p:α→Bool)(l:List α):((((l.countP p:Nat):Int)==0))=l.all fun t=> !p t:=by
 rw[Bool.eq_iff_iff,beq_iff_eq,List.all_eq_true,show(0:Int)=((0:Nat):Int) from rfl,Int.ofNat_inj,List.countP_eq_zero];simp
theorem Sw{K:Nat}(y:Ap)(o:List (List Int))(n:Int)(hK:2000≤K)(d:o.length≤1000)(e:o.flatten.length≤1000):
  EC K y o n=some (if check y≠0 then (0,check y) else if Da y o=false∨Fy n 0 ((y.Ad.length:Int)-1)=false then (0,2) else (verdict y o n.toNat,0)):=by
 unfold EC;rw[bd (Ik hK y)]
 by_cases h:check y=0
 ·rw[h,cf (by decide),if_neg (by simp)];have hy:=FH h;have l:=hy.n4;rw[bd (KC y o hy.n4 hK d e)];cases f:Da y o with
  |false=>rw[nf,if_pos (.inl rfl)]
  |true=>
   have g:FL K y n=some (Fy n 0 ((y.Ad.length:Int)-1)):=by
    unfold FL;rw[BD (by omega) (by omega),bd (Hm ..)]
   rw[nt,bd g];cases a:Fy n 0 ((y.Ad.length:Int)-1) with
   |false=>rw[nf,if_pos (.inr rfl)]
   |true=>
    rw[nt,if_neg (by simp)];rw[EV] at a;obtain⟨i,rfl⟩:=Int.eq_ofNat_of_zero_le a.1;have hi:i<y.Ad.length:=by omega
    obtain⟨b,j,k⟩:=Mn (K:=K) Eg y hy o f hK;have c:Cz K (fun(st:Unit) (x:A3×As)=>(Df K x.1 x.2).bind fun r=>some (r,())) y o ()=some (b,((BT y).length:Int),()):=by
     rw[←j];congr 1;funext st x;rw[bd (Mk ..)]
    rw[bd c,bd (M8 b i (by omega)),k,JQ Eg y hy o i hi,Int.toNat_natCast];unfold verdict;show cond ((((BT y).countP (F5 y o i):Nat):Int)==((BT y).length:Int)) _ (cond ((((BT y).countP (F5 y o i):Nat):Int)==0) _ _)=_;rw[MR,LY];cases (BT y).all (F5 y o i)<;>cases (BT y).all (fun t=> !F5 y o i t)<;>rfl
 ·rw[ct (by simpa using h),if_pos h]
theorem JR(y:Ap)(o:List (List Int)):∀(a:List AX) (s:Int×AX),s.1<(y.Ad.length:Int)∨a=[]→
  (∀t∈a,(Dd y (B1 y o t):Int)≤(Ie y o a s).1)∧s.1≤(Ie y o a s).1∧((Ie y o a s)=s∨∃t∈a,(Ie y o a s)=((Dd y (B1 y o t):Int),t))
 |[],s,_=>⟨fun t ht=>(by cases ht),Int.le_refl _,.inl rfl⟩
 |t::a,s,h=>by
  have e:s.1<(y.Ad.length:Int):=by
   rcases h with h|h
   ·exact h
   ·cases h
  have hle:∀x,(Dd y (B1 y o x):Int)≤(y.Ad.length:Int):=fun x=>by
   have:=Ml B8 y.Ad (B1 y o x);unfold Dd;omega
  rw[Ie]
  by_cases f:s.1<(Dd y (B1 y o t):Int)
  ·rw[if_pos f];show(∀x∈t::a,_≤(cond (decide ((Dd y (B1 y o t):Int)<(y.Ad.length:Int))) _ _:Int×AX).1)∧_
   by_cases d:(Dd y (B1 y o t):Int)<(y.Ad.length:Int)
   ·rw[ct (dt d)];obtain⟨h1,c,h3⟩:=JR y o a ((Dd y (B1 y o t):Int),t) (.inl d);refine⟨fun x b=>?_,by have g:(Dd y (B1 y o t):Int)≤_:=c;omega,.inr ?_⟩
    ·rcases List.mem_cons.1 b with rfl|b
     ·exact c
     ·exact h1 x b
    ·rcases h3 with h3|⟨x,b,h3⟩
     ·exact⟨t,List.mem_cons_self ..,h3⟩
     ·exact⟨x,List.mem_cons_of_mem _ b,h3⟩
   ·rw[cf (df d)];exact⟨fun x _=>Int.le_trans (hle x) (by show(y.Ad.length:Int)≤(Dd y (B1 y o t):Int);omega),by show s.1≤(Dd y (B1 y o t):Int);omega,.inr ⟨t,List.mem_cons_self ..,rfl⟩⟩
  ·rw[if_neg f];show(∀x∈t::a,_≤(cond (decide (s.1<(y.Ad.length:Int))) _ _:Int×AX).1)∧_;rw[ct (dt e)];obtain⟨h1,c,h3⟩:=JR y o a s (.inl e);refine⟨fun x b=>?_,c,?_⟩
   ·rcases List.mem_cons.1 b with rfl|b
    ·omega
    ·exact h1 x b
   ·rcases h3 with h3|⟨x,b,h3⟩
    ·exact .inl h3
    ·exact .inr ⟨x,List.mem_cons_of_mem _ b,h3⟩
theorem LZ{y:Ap}(hy:Er y):BT y≠[]:=by
 have h1:wl (days y) 0∈Bp y:=by
  refine H5.2 ⟨FG _ _,?_⟩;have key:∀(l:List Bool) (s r:Int),(∀b∈l,b=false)→okW y.Ao y.Aw l s r=true:=by
   intro l
   induction l with
   |nil=>intros;rfl
   |cons b l ih=>
    intro s r h;have a:=h b (List.mem_cons_self ..);subst a;rw[okW];exact ih s 0 fun x c=>h x (List.mem_cons_of_mem _ c)
  refine key _ 0 0 fun b a=>?_;unfold wl at a;obtain⟨d,_,rfl⟩:=List.mem_map.1 a;exact Nat.zero_testBit d
 have f:D0 y.Ad (y.Ad.map (·.Ar))=true:=by
  have key:∀ls:List A3,(∀l∈ls,sized l)→D0 ls (ls.map (·.Ar))=true:=by
   intro ls
   induction ls with
   |nil=>intro _;rfl
   |cons l r ih=>
    intro h;have:=(h l (List.mem_cons_self ..)).1;rw[List.map_cons,D0,Bool.and_eq_true];exact⟨EV.2 (by unfold B0 at this;omega),ih fun x c=>h x (List.mem_cons_of_mem _ c)⟩
  exact key _ fun l g=>(hy.sz l g).1
 intro e;have:(⟨y.Ad.map (·.Ar),wl (days y) 0⟩:AX)∈BT y:=by
  unfold BT;exact List.mem_flatMap.2 ⟨_,h1,List.mem_map.2 ⟨_,GS.2 f,rfl⟩⟩
 rw[e] at this;cases this
theorem Hd {y:Ap} (hy:Er y) (o:List (List Int)):(∀t,EE y t=true→(Dd y (B1 y o t):Int)≤(C9 y o).1)∧EE y (C9 y o).2=true∧(C9 y o).1=(Dd y (B1 y o (C9 y o).2):Int):=by
 obtain⟨h1,a,h3⟩:=JR y o (BT y) (-1,⟨[],[]⟩) (.inl (by show(-1:Int)<_;omega));refine⟨fun t ht=>h1 t ((FB hy.h0).2 ht),?_⟩;rcases h3 with h3|⟨t,ht,h3⟩
 ·exfalso;obtain⟨t,ht⟩:=List.exists_mem_of_ne_nil _ (LZ hy);have:=h1 t ht;rw[h3] at this;have b:(Dd y (B1 y o t):Int)≤-1:=this;omega
 ·unfold C9;rw[h3];exact⟨(FB hy.h0).1 ht,rfl⟩
end Go.Proofs.YtkljfdkmjdjpfaaGreat
end
section
namespace Go.Proofs.YtkljfdkmjdjpfaaGreat
def En:Nat→Nat→List (List Int)→List (List (List Int))
 |0,_,o=>[o]
 |k+1,i,o=>(List.range o.length).flatMap fun r=>(List.range ((o.getD r []).length+1)).flatMap fun(a:Nat)=>En k (i+1) (o.set r (CP (o.getD r []) (a:Int) (i:Int)))
def Ge(y:Ap):List (List (List Int)):=En y.Ad.length 0 (List.replicate y.Ai.toNat [])
section
variable{σ:Type}{K:Nat}(cb:σ→List (List Int)→Option (Bool×σ))(y:Ap)
def Or(n k i:Nat):Prop:=∀(o:List (List Int)) (st:σ),(∀l∈o,l.length≤i)→o.length≤1000→
 (By K cb k (i:Int) y o st).map (fun z=>(z.1,z.2.2))=run cb (En n i o) st∧
 ∀z,By K cb k (i:Int) y o st=some z→z.1=true→z.2.1=o
theorem NL{l:List (List Int)}{r:Nat}(h:r<l.length):l.set r (l.getD r [])=l:=by
 rw[List.getD_eq_getElem?_getD,List.getElem?_eq_getElem h];exact List.set_getElem_self h
theorem Qn(n k i r:Nat)(hi:i≤10)(o:List (List Int))(s:r<o.length)(u:o.length≤1000)(hlen:∀l∈o,l.length≤i)(ih:Or (K:=K) cb y n k (i+1)):
  ∀(c m a:Nat) (q:List (List Int)) (st:σ),(o.getD r []).length+1=a+c→c<m→q.length=o.length→q.set r (o.getD r [])=o→
  (Cm (By K cb k) (i:Int) y (r:Int) (o.getD r []) m (a:Int) q st).map Rm=run cb ((List.range' a c).flatMap fun(a:Nat)=>En n (i+1) (o.set r (CP (o.getD r []) (a:Int) (i:Int)))) st∧
  ∀z,Cm (By K cb k) (i:Int) y (r:Int) (o.getD r []) m (a:Int) q st=some z→(∀x,z=.inl x→x.1=false)∧(∀x,z=.inr x→x.1.length=o.length∧x.1.set r (o.getD r [])=o):=by
 have aG:(o.getD r []).length≤i:=by
  rw[List.getD_eq_getElem?_getD,List.getElem?_eq_getElem s];exact hlen _ (List.getElem_mem s)
 intro c
 induction c with
 |zero=>
  intro m a q st h hm v f;cases m with
  |zero=>omega
  |succ m=>
   rw[Cm.eq_2,cf (df (by omega))];exact⟨rfl,fun z g=>by cases g;exact⟨fun x e=>(by cases e),fun x e=>by cases e;exact⟨v,f⟩⟩⟩
 |succ c w=>
  intro m a q st h hm v f;cases m with
  |zero=>omega
  |succ m=>
   have aA:r<q.length:=by omega
   have t:q.set r (CP (o.getD r []) (a:Int) (i:Int))=o.set r (CP (o.getD r []) (a:Int) (i:Int)):=by
    have h:(q.set r (o.getD r [])).set r (CP (o.getD r []) (a:Int) (i:Int))=o.set r (CP (o.getD r []) (a:Int) (i:Int)):=by rw[f]
    rw[List.set_set] at h;exact h
   rw[Cm.eq_2,ct (dt (by omega)),FR (by omega),FR (by omega),C2 aA,BD (by omega) (by omega),Dt i,Int.toNat_natCast,t];obtain⟨aC,aD⟩:=ih (o.set r (CP (o.getD r []) (a:Int) (i:Int))) st (fun l aE=>by
    rcases List.mem_or_eq_of_mem_set aE with h1|h1
    ·have:=hlen l h1;omega
    ·rw[h1,Lf];omega) (by rw[List.length_set];exact u)
   rw[List.range'_succ,List.flatMap_cons,HH,←aC];cases aF:By K cb k ((i+1:Nat):Int) y (o.set r (CP (o.getD r []) (a:Int) (i:Int))) st with
   |none=>exact⟨rfl,fun z g=>by cases g⟩
   |some z0=>
    obtain⟨b,j,s2⟩:=z0;cases b with
    |false=>
     refine⟨rfl,fun z g=>?_⟩;have aB:some (Sum.inl (false,j,s2))=some z:=g;cases aB;exact⟨fun x e=>by cases e;rfl,fun x e=>by cases e⟩
    |true=>
     have p:j=o.set r (CP (o.getD r []) (a:Int) (i:Int)):=aD _ aF rfl;have key:(Option.bind (some (true,j,s2)) fun d=>cond (!d.1) (some (Sum.inl (false,d.2.1,d.2.2))) ((i64 ((a:Int)+1)).bind fun _=>Cm (By K cb k) (i:Int) y (r:Int) (o.getD r []) m ((a:Int)+1) d.2.1 d.2.2))=Cm (By K cb k) (i:Int) y (r:Int) (o.getD r []) m ((a+1:Nat):Int) j s2:=by
      rw[Option.bind_some,nt,BD (by omega) (by omega),Dt a]
     rw[key];exact w m (a+1) j s2 (by omega) (by omega) (by rw[p,List.length_set]) (by rw[p,List.set_set];exact NL s)
theorem Qo(n k i:Nat)(hi:i≤10)(hK:2000≤K)(o:List (List Int))(p:o.length≤1000)(hlen:∀l∈o,l.length≤i)(ih:Or (K:=K) cb y n k (i+1)):
  ∀(c m r:Nat) (st:σ),o.length=r+c→c<m→
  (B9 (By K cb k) K (i:Int) y o m (r:Int) o st).map Rm=run cb ((List.range' r c).flatMap fun r=>(List.range ((o.getD r []).length+1)).flatMap fun(a:Nat)=>En n (i+1) (o.set r (CP (o.getD r []) (a:Int) (i:Int)))) st∧
  ∀z,B9 (By K cb k) K (i:Int) y o m (r:Int) o st=some z→(∀x,z=.inl x→x.1=false)∧(∀x,z=.inr x→x.1=o):=by
 intro c
 induction c with
 |zero=>
  intro m r st h hm;cases m with
  |zero=>omega
  |succ m=>
   rw[B9.eq_2,cf (df (by omega))];exact⟨rfl,fun z j=>by cases j;exact⟨fun x f=>(by cases f),fun x f=>by cases f;rfl⟩⟩
 |succ c q=>
  intro m r st h hm;cases m with
  |zero=>omega
  |succ m=>
   have g:r<o.length:=by omega
   have aD:(o.getD r []).length≤i:=by
    rw[List.getD_eq_getElem?_getD,List.getElem?_eq_getElem g];exact hlen _ (List.getElem_mem g)
   have s:o[r]=o.getD r []:=by rw[List.getD_eq_getElem?_getD,List.getElem?_eq_getElem g];rfl
   rw[B9.eq_2,ct (dt (by omega)),C2 g,s,BD (by omega) (by omega)];obtain⟨t,u⟩:=Qn cb y n k i r hi o g p hlen ih ((o.getD r []).length+1) K 0 o st (by omega) (by omega) rfl (NL g);rw[Int.natCast_zero] at t u;rw[List.range'_succ,List.flatMap_cons,HH,List.range_eq_range',←t];cases aA:Cm (By K cb k) (i:Int) y (r:Int) (o.getD r []) K 0 o st with
   |none=>exact⟨rfl,fun z j=>by cases j⟩
   |some z0=>
    obtain⟨h1,aB⟩:=u _ aA;cases z0 with
    |inl x=>
     obtain⟨b,e,s2⟩:=x;obtain rfl:b=false:=h1 _ rfl;refine⟨rfl,fun z j=>?_⟩;have v:some (Sum.inl (false,e,s2))=some z:=j;cases v;exact⟨fun x f=>by cases f;rfl,fun x f=>by cases f⟩
    |inr x=>
     obtain⟨e,s2⟩:=x;obtain⟨h3,aC⟩:=aB _ rfl;have aE:e.length=o.length:=h3;have w:e.set r (o.getD r [])=o:=aC;have key:(Option.bind (some (Sum.inr (e,s2):(Bool×List (List Int)×σ)⊕(List (List Int)×σ))) fun z=>Sum.elim (fun d=>some (Sum.inl (d.1,d.2.1,d.2.2))) (fun d=>(idx d.1 (r:Int)).bind fun _=>(i64 ((r:Int)+1)).bind fun _=>B9 (By K cb k) K (i:Int) y o m ((r:Int)+1) (d.1.set (r:Int).toNat (o.getD r [])) d.2) z)=B9 (By K cb k) K (i:Int) y o m ((r+1:Nat):Int) o s2:=by
      rw[Option.bind_some];show(idx e (r:Int)).bind _=_;rw[C2 (show r<e.length by omega),BD (by omega) (by omega),Dt r];show B9 _ K _ y o m _ (e.set (r:Int).toNat (o.getD r [])) s2=_;rw[Int.toNat_natCast,w]
     rw[key];exact q m (r+1) s2 (by omega) (by omega)
theorem Qp(p:y.Ad.length≤4)(hK:2000≤K):∀(n k i:Nat),y.Ad.length=i+n→n<k→Or (K:=K) cb y n k i:=by
 intro n
 induction n with
 |zero=>
  intro k i h j o st hlen e;cases k with
  |zero=>omega
  |succ k=>
   rw[By.eq_2,ct (by rw[h];simp)];rw[En,run];cases cb st o with
   |none=>exact⟨rfl,fun z a=>by cases a⟩
   |some r=>
    obtain⟨b,s⟩:=r;refine⟨by cases b<;>rfl,fun z a _=>?_⟩;have c:some (b,o,s)=some z:=a;cases c;rfl
 |succ n ih=>
  intro k i h j o st hlen e;cases k with
  |zero=>omega
  |succ k=>
   rw[By.eq_2,cf (by simp;omega)];obtain⟨f,g⟩:=Qo cb y n k i (by omega) hK o e hlen (ih k (i+1) (by omega) (by omega)) o.length K 0 st (by omega) (by omega);rw[Int.natCast_zero] at f g;rw[En,List.range_eq_range',←f];cases l:B9 (By K cb k) K (i:Int) y o K 0 o st with
   |none=>exact⟨rfl,fun z a=>by cases a⟩
   |some z0=>
    obtain⟨h1,m⟩:=g _ l;cases z0 with
    |inl x=>
     obtain⟨b,d,s2⟩:=x;obtain rfl:b=false:=h1 _ rfl;refine⟨rfl,fun z a ht=>?_⟩;have c:some (false,d,s2)=some z:=a;cases c;cases ht
    |inr x=>
     obtain⟨d,s2⟩:=x;obtain rfl:d=o:=m _ rfl;refine⟨rfl,fun z a ht=>?_⟩;have c:some (true,d,s2)=some z:=a;cases c;rfl
end
theorem NM{σ:Type}{K:Nat}(cb:σ→List (List Int)→Option (Bool×σ))(y:Ap)(hy:Er y)(hK:2000≤K)(st:σ):ET K cb y st=(run cb (Ge y) st).bind fun r=>some r.2:=by
 unfold ET;have:=hy.r1;have:=hy.r2;rw[OH (by omega) (by omega) (by omega)];obtain⟨a,_⟩:=Qp cb y hy.n4 hK y.Ad.length K 0 (by omega) (by have:=hy.n4;omega) (List.replicate y.Ai.toNat []) st (fun l b=>by rw[(List.mem_replicate.1 b).2];exact Nat.le_refl _) (by rw[List.length_replicate];omega);rw[Int.natCast_zero] at a;unfold Ge;rw[←a];cases By K cb K 0 y (List.replicate y.Ai.toNat []) st with
 |none=>rfl
 |some z=>rfl
end Go.Proofs.YtkljfdkmjdjpfaaGreat
end
section
namespace Go.Proofs.YtkljfdkmjdjpfaaGreat
theorem Qq(l:List Int)(a i:Int):(CP l a i).Perm (i::l):=by
 unfold CP;refine List.perm_middle.trans (List.Perm.cons _ ?_);rw[List.take_append_drop]
theorem Hq(v:Int):∀(o:List (List Int)) (r:Nat) (a:Int),r<o.length→(o.set r (CP (o.getD r []) a v)).flatten.Perm (v::o.flatten)
 |l::o,0,a,_=>by
  show(CP l a v++o.flatten).Perm (v::(l++o.flatten));exact(Qq l a v).append_right _
 |l::o,r+1,a,h=>by
  show(l++(o.set r (CP (o.getD r []) a v)).flatten).Perm (v::(l++o.flatten));exact((Hq v o r a (by simpa using h)).append_left l).trans List.perm_middle
theorem I0(n:Nat):iota (n+1)=iota n++[(n:Int)]:=by simp[iota,List.range_succ]
theorem L0:∀(k i:Nat) (c o:List (List Int)),c.flatten.Perm (iota i)→o∈En k i c→o.length=c.length∧o.flatten.Perm (iota (i+k))
 |0,i,c,o,h,b=>by
  rw[En,List.mem_singleton] at b;subst b;exact⟨rfl,h⟩
 |k+1,i,c,o,h,b=>by
  rw[En,List.mem_flatMap] at b;obtain⟨r,d,b⟩:=b;obtain⟨a,_,b⟩:=List.mem_flatMap.1 b;rw[List.mem_range] at d;obtain⟨h1,e⟩:=L0 k (i+1) _ o (by
   rw[I0];exact((Hq (i:Int) c r (a:Int) d).trans (h.cons _)).trans (List.perm_append_singleton _ _).symm) b
  rw[List.length_set] at h1;exact⟨h1,by rw[show i+(k+1)=i+1+k by omega];exact e⟩
theorem HK{y:Ap}(hy:Er y){o:List (List Int)}(h:o∈Ge y):Da y o=true:=by
 have:=L0 _ 0 _ o (by
  have:(List.replicate y.Ai.toNat ([]:List Int)).flatten=[]:=by simp
  rw[this];exact List.Perm.refl _) h
 rw[List.length_replicate,Nat.zero_add] at this;refine EW.2 ⟨?_,this.2⟩;have:=hy.r1;omega
theorem KD:∀(k i:Nat) (c o:List (List Int)) (r a:Nat),o∈En k i c→r<o.length→a≤(o.getD r []).length→o.set r (CP (o.getD r []) (a:Int) ((i+k:Nat):Int))∈En (k+1) i c
 |0,i,c,o,r,a,b,d,e=>by
  rw[En,List.mem_singleton] at b;subst b;rw[En,List.mem_flatMap];refine⟨r,List.mem_range.2 d,List.mem_flatMap.2 ⟨a,List.mem_range.2 (by omega),?_⟩⟩;rw[En,List.mem_singleton];rfl
 |k+1,i,c,o,r,a,b,d,e=>by
  rw[En,List.mem_flatMap] at b;obtain⟨r1,f,b⟩:=b;obtain⟨a1,g,b⟩:=List.mem_flatMap.1 b;rw[En,List.mem_flatMap];refine⟨r1,f,List.mem_flatMap.2 ⟨a1,g,?_⟩⟩;have:=KD k (i+1) _ o r a b d e;rw[show i+1+k=i+(k+1) by omega] at this;exact this
theorem L1 (v:Int):∀(o:List (List Int)),v∈o.flatten→∃(o':List (List Int)) (r a:Nat),r<o'.length∧a≤(o'.getD r []).length∧o=o'.set r (CP (o'.getD r []) (a:Int) v)∧o.flatten.Perm (v::o'.flatten)∧o'.length=o.length
 |[],h=>by cases h
 |l::o,h=>by
  by_cases b:v∈l
  ·obtain⟨s,t,rfl⟩:=List.append_of_mem b;refine⟨(s++t)::o,0,s.length,by simp,by simp,?_,?_,by simp⟩
   ·show _=CP (s++t) (s.length:Int) v::o;unfold CP;rw[Int.toNat_natCast,List.take_left,List.drop_left]
   ·show((s++v::t)++o.flatten).Perm (v::((s++t)++o.flatten));exact(List.perm_middle (a:=v) (l₁:=s) (l₂:=t)).append_right _
  ·have c:v∈o.flatten:=by
    rw[List.flatten_cons,List.mem_append] at h;exact h.resolve_left b
   obtain⟨o',r,a,h1,d,h3,e,f⟩:=L1 v o c;refine⟨l::o',r+1,a,by simpa using h1,d,?_,?_,by simp[f]⟩
   ·show l::o=l::o'.set r (CP (o'.getD r []) (a:Int) v);rw[←h3]
   ·show(l++o.flatten).Perm (v::(l++o'.flatten));exact(e.append_left l).trans List.perm_middle
theorem Li(K0:Nat):∀(n:Nat) (o:List (List Int)),o.length=K0→o.flatten.Perm (iota n)→o∈En n 0 (List.replicate K0 [])
 |0,o,c,b=>by
  rw[En,List.mem_singleton];have he:o.flatten=[]:=b.eq_nil;rw[List.flatten_eq_nil_iff] at he;exact List.eq_replicate_iff.2 ⟨c,he⟩
 |n+1,o,c,b=>by
  have e:(n:Int)∈o.flatten:=b.mem_iff.2 (by rw[I0];simp);obtain⟨o',r,a,h1,f,h3,g,i⟩:=L1 (n:Int) o e;have d:o'.flatten.Perm (iota n):=by
   have h:(iota (n+1)).Perm ((n:Int)::iota n):=by rw[I0];exact List.perm_append_singleton _ _
   exact(List.perm_cons _).1 ((g.symm.trans b).trans h)
  have:=KD n 0 _ o' r a (Li K0 n o' (by omega) d) h1 f;rw[Nat.zero_add] at this;rw[h3];exact this
theorem Ja{y:Ap}(hy:Er y){o:List (List Int)}:o∈Ge y↔Da y o=true:=by
 refine⟨HK hy,fun h=>?_⟩;have a:=EW.1 h;exact Li _ _ o (by omega) a.2
theorem L2{y:Ap}(hy:Er y):Ge y≠[]:=by
 have:((iota y.Ad.length)::List.replicate (y.Ai.toNat-1) [])∈Ge y:=by
  refine(Ja hy).2 (EW.2 ⟨?_,?_⟩)
  ·have:=hy.r1;simp;omega
  ·simp
 intro e;rw[e] at this;cases this
theorem Rr(p:List (List Int))(c:p.length≤1000)(a:∀l∈p,l.length≤1000):∀(k m i:Nat),p.length=i+k→k<m→EO p m (i:Int) p=some p:=by
 intro k
 induction k with
 |zero=>
  intro m i h hm;cases m with
  |zero=>omega
  |succ m=>rw[EO.eq_2,cf (df (by omega))]
 |succ k ih=>
  intro m i h hm;cases m with
  |zero=>omega
  |succ m=>
   have hi:i<p.length:=by omega
   have b:=a p[i] (List.getElem_mem hi);rw[EO.eq_2,ct (dt (by omega)),C2 hi,FR (by omega),C2 hi,BD (by omega) (by omega),Dt,Int.toNat_natCast,List.set_getElem_self hi];exact ih m (i+1) (by omega) (by omega)
theorem NN{K:Nat}(p:List (List Int))(a:p.length≤1000)(b:∀l∈p,l.length≤1000)(hK:2000≤K):Fg K p=some p:=by
 unfold Fg;have:=Rr p a b p.length K 0 (by omega) (by omega);rw[Int.natCast_zero] at this;rw[FR (by omega),bd this]
theorem KE{y:Ap}(hy:Er y){o:List (List Int)}(h:Da y o=true):o.length≤1000∧(∀l∈o,l.length≤1000)∧o.flatten.length≤1000:=by
 have h1:=EW.1 h;have a:=Mj h;have:=hy.r2;have:=hy.n4;have h3:=h1.2.length_eq;rw[G1] at h3;exact⟨by omega,fun l b=>by have:=(a l b).1;omega,by omega⟩
def HX(y:Ap):List (List (List Int))→Int×List (List Int)→Int×List (List Int)
 |[],s=>s
 |o::os,s=>
  let s2:=if (C9 y o).1<s.1 then ((C9 y o).1,o) else s
  cond (decide (0<s2.1)) (HX y os s2) s2
def F7(y:Ap):Int×List (List Int):=HX y (Ge y) ((y.Ad.length:Int)+1,[])
theorem NO{K:Nat}(y:Ap)(hy:Er y)(hK:2000≤K):∀(os:List (List (List Int))) (s:Int×List (List Int)),(∀o∈os,Da y o=true)→
  (run (fun(st:Int×(List (List Int))) (x:(List (List Int)))=>(Gd K x y st.1 st.2).bind fun r=>some (r.1,(r.2.1,r.2.2))) os s).bind (fun r=>some r.2)=some (HX y os s)
 |[],s,_=>rfl
 |o::os,s,h=>by
  have c:=h o (List.mem_cons_self ..);obtain⟨d,e,_⟩:=KE hy c;rw[run,HX];unfold Gd;rw[bd (Ql y hy o c hK)]
  by_cases a:(C9 y o).1<s.1
  ·rw[ct (dt a),bd (NN o d e hK),if_pos a];show(cond (decide (0<(C9 y o).1)) _ _:Option (Bool×Int×List (List Int))).bind _=some (cond (decide (0<(C9 y o).1)) _ _);cases decide (0<(C9 y o).1) with
   |false=>rfl
   |true=>exact NO y hy hK os _ fun x b=>h x (List.mem_cons_of_mem _ b)
  ·rw[cf (df a),if_neg a];show(cond (decide (0<s.1)) _ _:Option (Bool×Int×List (List Int))).bind _=some (cond (decide (0<s.1)) _ _);cases decide (0<s.1) with
   |false=>rfl
   |true=>exact NO y hy hK os s fun x b=>h x (List.mem_cons_of_mem _ b)
theorem T5{K:Nat}(y:Ap)(hK:2000≤K):Gu K y=some (if check y≠0 then ([],0,check y) else ((F7 y).2,(F7 y).1,0)):=by
 unfold Gu;rw[bd (Ik hK y)]
 by_cases h:check y=0
 ·rw[h,cf (by decide),if_neg (by simp)];have hy:=FH h;have b:=hy.n4;rw[BD (by omega) (by omega),NM _ y hy hK];exact Eq.trans (bd (NO y hy hK (Ge y) _ fun o a=>HK hy a)) rfl
 ·rw[ct (by simpa using h),if_pos h]
theorem Lv{y:Ap}(hy:Er y)(o:List (List Int)):0≤(C9 y o).1∧(C9 y o).1≤(y.Ad.length:Int):=by
 obtain⟨_,_,e⟩:=Hd hy o;have:=Ml B8 y.Ad (B1 y o (C9 y o).2);rw[e];unfold Dd;omega
theorem JS(y:Ap)(hy:Er y):∀(os:List (List (List Int))) (s:Int×List (List Int)),0<s.1∨os=[]→
  (∀o∈os,(HX y os s).1≤(C9 y o).1)∧(HX y os s).1≤s.1∧((HX y os s)=s∨∃o∈os,(HX y os s)=((C9 y o).1,o))
 |[],s,_=>⟨fun o f=>(by cases f),Int.le_refl _,.inl rfl⟩
 |o::os,s,h=>by
  have d:0<s.1:=by
   rcases h with h|h
   ·exact h
   ·cases h
  rw[HX]
  by_cases e:(C9 y o).1<s.1
  ·rw[if_pos e];show(∀x∈o::os,(cond (decide (0<(C9 y o).1)) _ _:Int×List (List Int)).1≤_)∧_
   by_cases c:0<(C9 y o).1
   ·rw[ct (dt c)];obtain⟨h1,b,h3⟩:=JS y hy os ((C9 y o).1,o) (.inl c);have g:(HX y os ((C9 y o).1,o)).1≤(C9 y o).1:=b;refine⟨fun x a=>?_,by omega,.inr ?_⟩
    ·rcases List.mem_cons.1 a with rfl|a
     ·exact b
     ·exact h1 x a
    ·rcases h3 with h3|⟨x,a,h3⟩
     ·exact⟨o,List.mem_cons_self ..,h3⟩
     ·exact⟨x,List.mem_cons_of_mem _ a,h3⟩
   ·rw[cf (df c)];refine⟨fun x _=>?_,by show(C9 y o).1≤s.1;omega,.inr ⟨o,List.mem_cons_self ..,rfl⟩⟩;have:=(Lv hy x).1;show(C9 y o).1≤_;omega
  ·rw[if_neg e];show(∀x∈o::os,(cond (decide (0<s.1)) _ _:Int×List (List Int)).1≤_)∧_;rw[ct (dt d)];obtain⟨h1,b,h3⟩:=JS y hy os s (.inl d);refine⟨fun x a=>?_,b,?_⟩
   ·rcases List.mem_cons.1 a with rfl|a
    ·omega
    ·exact h1 x a
   ·rcases h3 with h3|⟨x,a,h3⟩
    ·exact .inl h3
    ·exact .inr ⟨x,List.mem_cons_of_mem _ a,h3⟩
theorem JT {y:Ap} (hy:Er y):(∀o,Da y o=true→(F7 y).1≤(C9 y o).1)∧Da y (F7 y).2=true∧(F7 y).1=(C9 y (F7 y).2).1:=by
 obtain⟨h1,b,h3⟩:=JS y hy (Ge y) ((y.Ad.length:Int)+1,[]) (.inl (by show(0:Int)<_+1;omega));refine⟨fun o a=>h1 o ((Ja hy).2 a),?_⟩;rcases h3 with h3|⟨o,a,h3⟩
 ·exfalso;obtain⟨o,a⟩:=List.exists_mem_of_ne_nil _ (L2 hy);have:=h1 o a;rw[h3] at this;have c:(y.Ad.length:Int)+1≤(C9 y o).1:=this;have:=(Lv hy o).2;omega
 ·unfold F7;rw[h3];exact⟨HK hy a,rfl⟩
end Go.Proofs.YtkljfdkmjdjpfaaGreat
end
section
namespace Go.Proofs.YtkljfdkmjdjpfaaGreat
def Eh(y:Ap)(yes:List Int):Nat:=(List.range y.Ad.length).countP fun i=>yes.getD i 0==0
def Gn (y:Ap) (o:List (List Int)):Nat:=(List.range y.Ad.length).countP fun i=>(BT y).all (F5 y o i)
theorem Qr{y:Ap}(hy:Er y)(o:List (List Int)):Eh y (Co B8 y o)=Gn y o:=by
 unfold Eh Gn;refine List.countP_congr fun i hi=>?_;rw[List.mem_range] at hi;rw[JQ B8 y hy o i hi,LY];have:((BT y).all fun t=> !B8 (Fx y i) (JP y o t i))=(BT y).all (F5 y o i):=by
  congr 1;funext t;unfold B8 F5;rw[Bool.not_not]
 rw[this]
theorem Rs(y:Ap)(o:List (List Int)):Gn y o≤y.Ad.length:=by
 unfold Gn;have:=List.countP_le_length (p:=fun i=>(BT y).all (F5 y o i)) (l:=List.range y.Ad.length);simpa using this
theorem Sx(y:Ap)(r:BN×Int×Unit)(b:y.Ad.length≤4):∀(k m i:Nat) (a:Int),y.Ad.length=i+k→k<m→0≤a→a≤i→
  Ef y r m a (i:Int)=some (a+((List.range' i k).countP (fun i=>r.1.l.getD i 0==0):Nat)):=by
 intro k
 induction k with
 |zero=>
  intro m i a h hm h0 h1;cases m with
  |zero=>omega
  |succ m=>rw[Ef.eq_2,cf (df (by omega))];simp
 |succ k ih=>
  intro m i a h hm h0 h1;cases m with
  |zero=>omega
  |succ m=>
   rw[Ef.eq_2,ct (dt (by omega)),bd (M8 r.1 i (by omega)),List.range'_succ,List.countP_cons];cases c:(r.1.l.getD i 0==0) with
   |true=>
    rw[ct rfl,BD (by omega) (by omega),BD (by omega) (by omega),Dt,ih m (i+1) (a+1) (by omega) (by omega) (by omega) (by omega)]
    congr 1;simp;omega
   |false=>
    rw[cf rfl,BD (by omega) (by omega),Dt,ih m (i+1) a (by omega) (by omega) (by omega) (by omega)]
    congr 1
theorem Rt(y:Ap)(r:BN×Int×Unit)(b:y.Ad.length≤4):∀(k m i:Nat) (a:Int),y.Ad.length=i+k→k<m→0≤a→a≤i→
  D5 y r m a (i:Int)=some (a+((List.range' i k).countP (fun i=>r.1.l.getD i 0==0):Nat)):=by
 intro k
 induction k with
 |zero=>
  intro m i a h hm h0 h1;cases m with
  |zero=>omega
  |succ m=>rw[D5.eq_2,cf (df (by omega))];simp
 |succ k ih=>
  intro m i a h hm h0 h1;cases m with
  |zero=>omega
  |succ m=>
   rw[D5.eq_2,ct (dt (by omega)),bd (M8 r.1 i (by omega)),List.range'_succ,List.countP_cons];cases c:(r.1.l.getD i 0==0) with
   |true=>
    rw[ct rfl,BD (by omega) (by omega),BD (by omega) (by omega),Dt,ih m (i+1) (a+1) (by omega) (by omega) (by omega) (by omega)]
    congr 1;simp;omega
   |false=>
    rw[cf rfl,BD (by omega) (by omega),Dt,ih m (i+1) a (by omega) (by omega) (by omega) (by omega)]
    congr 1
def Gp(y:Ap):List (List (List Int))→Int×List Int×List (List Int)→Int×List Int×List (List Int)
  |[],s=>s
  |o::os,s=>
    cond (decide (0≤s.1)&&(Co B8 y o==s.2.1)) (Gp y os s)
      (let s2:=if s.1<(Eh y (Co B8 y o):Int) then ((Eh y (Co B8 y o):Int),Co B8 y o,o) else (s.1,Co B8 y o,s.2.2)
       cond (decide (s2.1<(y.Ad.length:Int))) (Gp y os s2) s2)
def E2(y:Ap):Int×List Int×List (List Int):=Gp y (Ge y) (-1,[0,0,0,0],[])
theorem NP{K:Nat}(y:Ap)(hy:Er y)(hK:2000≤K):∀(os:List (List (List Int))) (n:Int) (a:BN) (q:List (List Int)),(∀o∈os,Da y o=true)→
    ∃(b:Bool) (a2:BN),run (fun(st:Int×BN×(List (List Int))) (x:(List (List Int)))=>(EJ K x y st.1 st.2.1 st.2.2).bind fun r=>some (r.1,(r.2.1,r.2.2.1,r.2.2.2))) os (n,a,q)=some (b,(Gp y os (n,a.l,q)).1,a2,(Gp y os (n,a.l,q)).2.2)
  |[],n,a,q,_=>⟨true,a,rfl⟩
  |o::os,n,a,q,h=>by
    have p:=h o (List.mem_cons_self ..);have m:∀x∈os,Da y x=true:=fun x aB=>h x (List.mem_cons_of_mem _ aB);obtain⟨aC,aD,_⟩:=KE hy p;have s:=hy.n4;obtain⟨b,aE,j⟩:=Mn (K:=K) B8 y hy o p hK;have t:Cz K (fun(st:Unit) (x:A3×As)=>(Ee K x.1 x.2).bind fun r=>some (r,())) y o ()=some (b,((BT y).length:Int),()):=by
      rw[←aE];congr 1;funext st x;rw[bd (OK ..)];rfl
    have h9:=Sx y (b,((BT y).length:Int),()) s y.Ad.length K 0 0 (by omega) (by omega) (by omega) (by omega);have e:=Rt y (b,((BT y).length:Int),()) s y.Ad.length K 0 0 (by omega) (by omega) (by omega) (by omega);rw[Int.natCast_zero,Int.zero_add] at h9 e;have u:((List.range' 0 y.Ad.length).countP (fun i=>(b,((BT y).length:Int),()).1.l.getD i 0==0))=Eh y (Co B8 y o):=by
      rw[←List.range_eq_range',←j];rfl
    rw[u] at h9 e;have c:∀(l:Int×BN×List (List Int)) (z:Int×List Int×List (List Int)),(l.1,l.2.1.l,l.2.2)=z→
        ∃(d:Bool) (a2:BN),cond (decide (l.1<(y.Ad.length:Int))) (run (fun(st:Int×BN×(List (List Int))) (x:(List (List Int)))=>(EJ K x y st.1 st.2.1 st.2.2).bind fun r=>some (r.1,(r.2.1,r.2.2.1,r.2.2.2))) os l) (some (false,l))=some (d,(cond (decide (z.1<(y.Ad.length:Int))) (Gp y os z) z).1,a2,(cond (decide (z.1<(y.Ad.length:Int))) (Gp y os z) z).2.2):=by
      rintro⟨f,v,aF⟩ z rfl;show∃(d:Bool) (a2:BN),cond (decide (f<(y.Ad.length:Int))) _ _=some (d,(cond (decide (f<(y.Ad.length:Int))) _ _:Int×List Int×List (List Int)).1,a2,(cond (decide (f<(y.Ad.length:Int))) _ _:Int×List Int×List (List Int)).2.2);cases decide (f<(y.Ad.length:Int)) with
      |false=>exact⟨false,v,rfl⟩
      |true=>exact NP y hy hK os f v aF m
    have main:∀z9:Int,z9=(Eh y (Co B8 y o):Int)→∃(d:Bool) (a2:BN),
        (((cond (decide (n<z9)) ((Fg K o).bind fun w=>some ((decide (z9<(y.Ad.length:Int)),z9,b,w))) (some ((decide (n<(y.Ad.length:Int)),n,b,q))):Option (Bool×Int×BN×List (List Int))).bind fun r=>some (r.1,(r.2.1,r.2.2.1,r.2.2.2))).bind fun r=>cond r.1 (run (fun(st:Int×BN×(List (List Int))) (x:(List (List Int)))=>(EJ K x y st.1 st.2.1 st.2.2).bind fun r=>some (r.1,(r.2.1,r.2.2.1,r.2.2.2))) os r.2) (some (false,r.2)))=
        some (d,(let s2:=if n<(Eh y (Co B8 y o):Int) then ((Eh y (Co B8 y o):Int),Co B8 y o,o) else (n,Co B8 y o,q)
       cond (decide (s2.1<(y.Ad.length:Int))) (Gp y os s2) s2).1,a2,(let s2:=if n<(Eh y (Co B8 y o):Int) then ((Eh y (Co B8 y o):Int),Co B8 y o,o) else (n,Co B8 y o,q)
       cond (decide (s2.1<(y.Ad.length:Int))) (Gp y os s2) s2).2.2):=by
      rintro z9 rfl
      by_cases g:n<(Eh y (Co B8 y o):Int)
      · rw[ct (dt g),bd (NN o aC aD hK)];simp only[if_pos g];exact c ((Eh y (Co B8 y o):Int),b,o) ((Eh y (Co B8 y o):Int),Co B8 y o,o) (by show(_,b.l,o)=_;rw[j])
      · rw[cf (df g)];simp only[if_neg g];exact c (n,b,q) (n,Co B8 y o,q) (by show(_,b.l,q)=_;rw[j])
    rw[run,Gp];show∃(d:Bool) (a2:BN),Option.bind ((EJ K o y n a q).bind _) _=_;unfold EJ;rw[bd t]
    by_cases k:0≤n
    · rw[ct (dt k),dt k,Bool.true_and];have aA:([b.a0,b.a1,b.a2,b.a3]==[a.a0,a.a1,a.a2,a.a3])=(Co B8 y o==a.l):=by rw[←j];rfl
      rw[aA];cases g:(Co B8 y o==a.l) with
      |true=>
        rw[ct rfl,ct rfl];exact NP y hy hK os n a q m
      |false=>
        rw[cf rfl,cf rfl,bd h9];exact main _ rfl
    · rw[cf (df k),df k,Bool.false_and,cf rfl,bd e];exact main _ rfl
theorem T6{K:Nat}(y:Ap)(hK:2000≤K):Gv K y=some (if check y≠0 then ([],0,check y) else ((E2 y).2.2,(E2 y).1,0)):=by
 unfold Gv;rw[bd (Ik hK y)]
 by_cases h:check y=0
 ·rw[h,cf (by decide),if_neg (by simp)];have hy:=FH h;rw[NM _ y hy hK];obtain⟨b,a2,e⟩:=NP (K:=K) y hy hK (Ge y) (-1) ⟨0,0,0,0⟩ [] fun o a=>HK hy a;exact Eq.trans (congrArg (fun z=>Option.bind (Option.bind z _) _) e) rfl
 ·rw[ct (by simpa using h),if_pos h]
theorem If(y:Ap)(hy:Er y):∀(os:List (List (List Int))) (s:Int×List Int×List (List Int)),s.1<(y.Ad.length:Int)∨0≤s.1→(0≤s.1→(Eh y s.2.1:Int)≤s.1)→s.1≤(y.Ad.length:Int)→
  (∀o∈os,(Gn y o:Int)≤(Gp y os s).1)∧s.1≤(Gp y os s).1∧(((Gp y os s).1=s.1∧(Gp y os s).2.2=s.2.2)∨∃o∈os,(Gp y os s).1=(Gn y o:Int)∧(Gp y os s).2.2=o)
 |[],s,_,_,_=>⟨fun o i=>(by cases i),Int.le_refl _,.inl ⟨rfl,rfl⟩⟩
 |o::os,s,h,hi,hle=>by
  have hlen:∀x,(Gn y x:Int)≤(y.Ad.length:Int):=fun x=>by have:=Rs y x;omega
  have b:=Qr hy o;rw[Gp]
  by_cases e:(decide (0≤s.1)&&(Co B8 y o==s.2.1))=true
  ·rw[ct e];rw[Bool.and_eq_true,decide_eq_true_eq] at e;obtain⟨h1,c,h3⟩:=If y hy os s h hi hle;refine⟨fun x a=>?_,c,?_⟩
   ·rcases List.mem_cons.1 a with rfl|a
    ·have:=hi e.1;rw[←eq_of_beq e.2,b] at this;omega
    ·exact h1 x a
   ·rcases h3 with h3|⟨x,a,h3⟩
    ·exact .inl h3
    ·exact .inr ⟨x,List.mem_cons_of_mem _ a,h3⟩
  ·rw[cf (by simpa using e)]
   by_cases f:s.1<(Eh y (Co B8 y o):Int)
   ·simp only[if_pos f]
    by_cases d:(Eh y (Co B8 y o):Int)<(y.Ad.length:Int)
    ·rw[ct (dt d)];obtain⟨h1,c,h3⟩:=If y hy os ((Eh y (Co B8 y o):Int),Co B8 y o,o) (.inl d) (fun _=>Int.le_refl _) (by show(Eh y (Co B8 y o):Int)≤_;omega);have g:(Eh y (Co B8 y o):Int)≤_:=c;refine⟨fun x a=>?_,by omega,.inr ?_⟩
     ·rcases List.mem_cons.1 a with rfl|a
      ·rw[←b];exact c
      ·exact h1 x a
     ·rcases h3 with⟨h3,j⟩|⟨x,a,h3⟩
      ·exact⟨o,List.mem_cons_self ..,by rw[h3,←b],j⟩
      ·exact⟨x,List.mem_cons_of_mem _ a,h3⟩
    ·rw[cf (df d)];refine⟨fun x _=>?_,by show s.1≤(Eh y (Co B8 y o):Int);omega,.inr ⟨o,List.mem_cons_self ..,by show(Eh y (Co B8 y o):Int)=_;rw[b],rfl⟩⟩;have:=hlen x;show _≤(Eh y (Co B8 y o):Int);omega
   ·simp only[if_neg f];have h0:0≤s.1:=by omega
    by_cases d:s.1<(y.Ad.length:Int)
    ·rw[ct (dt d)];obtain⟨h1,c,h3⟩:=If y hy os (s.1,Co B8 y o,s.2.2) (.inl d) (fun _=>by show(Eh y (Co B8 y o):Int)≤s.1;omega) hle;have g:s.1≤_:=c;refine⟨fun x a=>?_,c,?_⟩
     ·rcases List.mem_cons.1 a with rfl|a
      ·rw[←b];omega
      ·exact h1 x a
     ·rcases h3 with h3|⟨x,a,h3⟩
      ·exact .inl h3
      ·exact .inr ⟨x,List.mem_cons_of_mem _ a,h3⟩
    ·rw[cf (df d)];refine⟨fun x _=>?_,Int.le_refl _,.inl ⟨rfl,rfl⟩⟩;have:=hlen x;show _≤s.1;omega
theorem Ig {y:Ap} (hy:Er y):(∀o,Da y o=true→(Gn y o:Int)≤(E2 y).1)∧Da y (E2 y).2.2=true∧(E2 y).1=(Gn y (E2 y).2.2:Int):=by
 obtain⟨h1,c,h3⟩:=If y hy (Ge y) (-1,[0,0,0,0],[]) (.inl (by show(-1:Int)<_;omega)) (fun h=>absurd (show(0:Int)≤-1 from h) (by decide)) (by show(-1:Int)≤_;omega);refine⟨fun o a=>h1 o ((Ja hy).2 a),?_⟩;rcases h3 with⟨h3,_⟩|⟨o,a,h3,b⟩
 ·exfalso;obtain⟨o,a⟩:=List.exists_mem_of_ne_nil _ (L2 hy);have:=h1 o a;rw[h3] at this;have d:(Gn y o:Int)≤-1:=this;omega
 ·unfold E2;rw[h3,b];exact⟨HK hy a,rfl⟩
end Go.Proofs.YtkljfdkmjdjpfaaGreat
end
section
namespace Go.Proofs.YtkljfdkmjdjpfaaGreat
def He(n i k:Nat):List Int:=((List.range' k (n-k)).filter fun j=>j !=i).map fun j:Nat=>(j:Int)
def GL (y:Ap) (i:Nat):List (List Int):=((i:Int)::He y.Ad.length i 0)::List.replicate (y.Ai.toNat-1) []
theorem T7{α:Type}(x:α)(r:List α):idx (x::r) (0:Int)=some x:=idx_eq (xs:=x::r) (k:=0) (by simp)
theorem Vc(n i:Nat)(f:n≤4):∀(d m k:Nat) (x:List Int) (r:List (List Int)),n=k+d→d<m→x.length≤1+k→
  I8 (n:Int) (i:Int) m (k:Int) (x::r)=some ((x++He n i k)::r):=by
 intro d
 induction d with
 |zero=>
  intro m k x r h hm e;cases m with
  |zero=>omega
  |succ m=>
   rw[I8,cf (df (by omega))];unfold He;rw[show n-k=0 by omega];simp
 |succ d ih=>
  intro m k x r h hm e;cases m with
  |zero=>omega
  |succ m=>
   have b:idx (x::r) (0:Int)=some x:=T7 x r;have c:He n i k=cond (k !=i) ((k:Int)::He n i (k+1)) (He n i (k+1)):=by
    unfold He;rw[show n-k=(n-(k+1))+1 by omega,List.range'_succ,List.filter_cons];cases g:(k !=i) with
    |true=>rfl
    |false=>rfl
   rw[I8,ct (dt (by omega))]
   by_cases a:k=i
   ·have:((k:Int) !=(i:Int))=false:=by rw[a];exact bne_self_eq_false ..
    rw[this,cf rfl,BD (by omega) (by omega),Dt,ih m (k+1) x r (by omega) (by omega) (by omega),c,show(k !=i)=false by rw[a];exact bne_self_eq_false ..];rfl
   ·have:((k:Int) !=(i:Int))=true:=by rw[bne_iff_ne];omega
    rw[this,ct rfl,bd b,FR (by simp;omega),bd b,BD (by omega) (by omega),Dt];show I8 _ _ m _ ((x++[(k:Int)])::r)=_;rw[ih m (k+1) (x++[(k:Int)]) r (by omega) (by omega) (by simp;omega),c,show(k !=i)=true by rw[bne_iff_ne];exact a];simp
theorem Qs{y:Ap}(hy:Er y){i:Nat}(hi:i<y.Ad.length):Da y (GL y i)=true:=by
 have h1:=hy.r1;rw[EW];refine⟨by unfold GL;simp;omega,?_⟩;have e:(GL y i).flatten=(i:Int)::He y.Ad.length i 0:=by
  unfold GL;rw[List.flatten_cons];have:(List.replicate (y.Ai.toNat-1) ([]:List Int)).flatten=[]:=by
   simp
  rw[this,List.append_nil]
 rw[e];unfold He iota;rw[←List.range_eq_range',Nat.sub_zero];have:((i:Int)::((List.range y.Ad.length).filter fun j=>j !=i).map fun j:Nat=>(j:Int))=(i::((List.range y.Ad.length).filter fun j=>j !=i)).map fun j:Nat=>(j:Int):=rfl;rw[this];refine List.Perm.map _ ?_;have hm:i∈List.range y.Ad.length:=List.mem_range.2 hi;have a:=List.perm_cons_erase hm;rw[List.Nodup.erase_eq_filter List.nodup_range] at a;exact a.symm
def Gq(y:Ap)(k d:Nat):List Int:=((List.range' k d).filter fun i=> !(BT y).all (F5 y (GL y i) i)).map fun i:Nat=>(i:Int)
theorem PA{K:Nat}(y:Ap)(hy:Er y)(hK:2000≤K):∀(d m i:Nat) (a:List Int),y.Ad.length=i+d→d<m→a.length≤i→
  DV K y m a (i:Int)=some (a++Gq y i d):=by
 have f:=hy.n4;have q:=hy.r1;have s:=hy.r2;intro d
 induction d with
 |zero=>
  intro m i a h hm g;cases m with
  |zero=>omega
  |succ m=>rw[DV.eq_2,cf (df (by omega))];simp[Gq]
 |succ d ih=>
  intro m i a h hm g;cases m with
  |zero=>omega
  |succ m=>
   have hi:i<y.Ad.length:=by omega
   have j:=Qs hy hi;obtain⟨b,k,n⟩:=Mn (K:=K) Eg y hy (GL y i) j hK;have c:Cz K (fun(st:Unit) (x:A3×As)=>(Df K x.1 x.2).bind fun r=>some (r,())) y (GL y i) ()=some (b,((BT y).length:Int),()):=by
    rw[←k];congr 1;funext st x;rw[bd (Mk ..)]
   have er:List.replicate y.Ai.toNat ([]:List Int)=[]::List.replicate (y.Ai.toNat-1) []:=by
    rw[←List.replicate_succ];congr 1;omega
   have e:=Vc y.Ad.length i f y.Ad.length K 0 [(i:Int)] (List.replicate (y.Ai.toNat-1) []) (by omega) (by omega) (by simp);rw[DV.eq_2,ct (dt (by omega)),OH (by omega) (by omega) (by omega),er];rw[bd (show idx (([]:List Int)::List.replicate (y.Ai.toNat-1) []) (0:Int)=some [] from T7 _ _)];rw[Int.natCast_zero] at e;show(I8 _ _ K (0:Int) ([(i:Int)]::List.replicate (y.Ai.toNat-1) [])).bind _=_;rw[bd e];show(Cz K _ y (GL y i) ()).bind _=_;rw[bd c,bd (M8 b i (by omega))];have o:((b.l.getD i 0)==((BT y).length:Int))=(BT y).all (F5 y (GL y i) i):=by
    rw[n,JQ Eg y hy (GL y i) i hi,MR];rfl
   show cond ((b.l.getD i 0)==((BT y).length:Int)) _ _=_;rw[o];have p:Gq y i (d+1)=cond ((BT y).all (F5 y (GL y i) i)) (Gq y (i+1) d) ((i:Int)::Gq y (i+1) d):=by
    unfold Gq;rw[List.range'_succ,List.filter_cons];cases (BT y).all (F5 y (GL y i) i)<;>rfl
   rw[p];cases (BT y).all (F5 y (GL y i) i) with
   |true=>
    rw[ct rfl,BD (by omega) (by omega),Dt,ih m (i+1) a (by omega) (by omega) (by omega)];rfl
   |false=>
    rw[cf rfl,FR (by simp;omega),BD (by omega) (by omega),Dt,ih m (i+1) (a++[(i:Int)]) (by omega) (by omega) (by simp;omega)];simp
theorem PB{K:Nat}(y:Ap)(hK:2000≤K):FJ K y=some (if check y≠0 then ([],check y) else (Gq y 0 y.Ad.length,0)):=by
 unfold FJ;rw[bd (Ik hK y)]
 by_cases h:check y=0
 ·rw[h,if_neg (by simp)];have e:=PA (K:=K) y (FH h) hK y.Ad.length K 0 [] (by omega) (by have:=(FH h).n4;omega) (by simp);rw[Int.natCast_zero] at e;show cond false _ _=_;rw[cf rfl,bd e,List.nil_append]
 ·rw[ct (by simpa using h),if_pos h]
end Go.Proofs.YtkljfdkmjdjpfaaGreat
end
