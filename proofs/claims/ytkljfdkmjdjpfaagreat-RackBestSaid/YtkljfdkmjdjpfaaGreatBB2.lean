import Derived.Test.YtkljfdkmjdjpfaaGreatBB1
import Derived.WalkKit
import Derived.KernelRfl
import Derived.WalkSpells
import Derived.WalkLawsBesides
import Derived.Maps.AppendAt
import Derived.OrdersIn
import Derived.RangeFuncIn
import Derived.RangeFuncLeaves
import Derived.RangeFuncRecord
import Derived.RangeFuncSeq
import Derived.Scope
import Derived.DeepKeys3
import Derived.Laws.CopyRow
import Derived.Laws.OwnMore
import Derived.Laws.MakeOwn
import Derived.Laws.IdiomCopy
/-
  The contracts of the functions of the program and of the reference, and the logic that they are proved in: the base that several claims of this seat share.
-/
set_option linter.all false
section
namespace Go.Proofs.YtkljfdkmjdjpfaaGreat
open Go.RowKit Go.WideShapes
theorem Xn{f:Operand→Value}{i0 i1 i2 i3 i4:Nat}{a x1 x2 b c:Operand}{v0 v1 v2 v3 v4:Value}(h0:f a=v0)(d:f x1=v1)(e:f x2=v2)(g:f b=v3)(h:f c=v4): #[(i0,a),(i1,x1),(i2,x2),(i3,b),(i4,c)].map (fun(i,x)=>(i,f x))= #[(i0,v0),(i1,v1),(i2,v2),(i3,v3),(i4,v4)]:=by simp[h0,d,e,g,h]
section
variable{F F' F0:Nat→Prop}{B:List (Option Nat)}{w0 w w' w1 w2:World}{Z Z':Nat→Prop}{L L' M C:List (Option Nat)}{D:Nat→Prop}
theorem BX(a:List Nat)(h:GS L a M):∀x∈M,x∈L:=h.sub
theorem AQ(a:List Nat)(h:GS L a M)(b:∀k,F' k→F k):∀k,FU F' M k→F k∨some k∈L:=U5 h.sub b
theorem C2(h:∀k,F0 k→F k):∀k,FU F0 C k→F k∨some k∈C:=fun k a=>a.imp (h k) id
theorem GF{k:Nat}{o:Obj}{r:Option Nat}(h:w.heap[k]?=some o)(g:w.grownBy w' r)(a:some k≠r):w'.heap[k]?=some o:=(g.block k (Array.getElem?_eq_some_iff.1 h).1 a).trans h
theorem Fs{k:Nat}{o:Obj}(h:w.heap[k]?=some o)(g:Bm D w w')(a:¬D k):w'.heap[k]?=some o:=(g.block k (Array.getElem?_eq_some_iff.1 h).1 a).trans h
theorem Cs.BF{α:Type}{ev:α→Value}{r n:Nat}{a:List (List Int×α)}(h:Cs ev w r n a)(g:Bm D w w')(b:¬D r):Cs ev w' r n a:=h.of (g.block r h.lt b)
theorem Cs.Gq{α:Type}{ev:α→Value}{r n:Nat}{a:List (List Int×α)}(h:Cs ev w r n a)(e:w'.heap[r]?=w.heap[r]?):Cs ev w' r n a:=h.of e
theorem Bk.Gq{b:Nat}{t:TypeId}{cs:Array Value}(h:Bk w b t cs)(e:w'.heap[b]?=w.heap[b]?):Bk w' b t cs:=e.trans h
theorem Hp.zz(h:Hp F B w0 L w)(a c:List Nat)(d:GS L a M)(e:GS L c C)(f:∀k,F' k→F k∨some k∈C):∀b,ZZ F B Z w0.heap.size L b→¬F' b∧some b∉M:=h.zc d.sub fun k g=>(f k g).imp id (e.sub _)
theorem Hp.mz(h:Hp F B w0 L w)(a b:List Nat)(c:GS L a M)(d:GS L b C)(e:∀k,F' k→F k∨some k∈C):Mv w (ZZ F B Z w0.heap.size L) w (ZC F' M):=Tt (h.zz a b c d e)
theorem PN{i:Nat}{a b:List Nat}(h:((a++b).all fun j=> !Nat.beq i j)=true):(a.all fun j=> !Nat.beq i j)=true∧(b.all fun j=> !Nat.beq i j)=true:=by
 rw[List.all_append,Bool.and_eq_true] at h;exact h
theorem Hp.bz(h:Hp F B w0 L w)(i:Nat){b:Nat}(hi:L[i]?=some (some b))(a c:List Nat)(e:GS L a M)(f:GS L c C)(g:∀k,F' k→F k∨some k∈C)(d:((a++c).all fun j=> !Nat.beq i j)=true):ZC F' M b:=by
 have l:=h.BC (F':=F) i hi a (PN d).1 e (fun _ h=>h);have m:=h.BC (F':=F) i hi c (PN d).2 f (fun _ h=>h);exact⟨fun n=>m ((g b n).imp id id),fun hm=>l (.inr hm)⟩
theorem Hp.rz{α:Type}{e:Ep α}{t:TypeId}{n0:Nat}{A:Option Addr}{c:Nat}{xs:List α}(h:Hp F B w0 L w)(i:Nat)(hi:L[i]?=some (ob A))(a b:List Nat)(d:GS L a M)(f:GS L b C)(g:∀k,F' k→F k∨some k∈C)(l:((a++b).all fun j=> !Nat.beq i j)=true)
  (m:AB e t n0 w (ZZ F B Z w0.heap.size L) A c xs):Sl e w (ZC F' M) A c xs:=
 (m.up (h.mz a b d f g)).sl fun k n _=>h.bz i (by rw[hi,n]) a b d f g l
theorem Bj{Z:Nat→Prop}(w:World):Mv w Z w (ZZ FN [] Z w.heap.size L):=Bf (fun _ _=>⟨id,by simp⟩) w
theorem JP(h:Mv w Z w' Z):Mv w Z w' (ZZ FN [] Z w.heap.size M):=⟨h.size,fun b a c=>⟨.inl ⟨c,a,id,by simp⟩,(h.stay b a c).2⟩⟩
theorem Ls{n:Nat}:Mv w (ZZ FN [] Z n M) w (ZZ FN [] Z n [none]):=Hr fun b a _=>a.imp id fun⟨c,_⟩=>⟨c,by simp⟩
theorem L1{n:Nat}{o:Option Nat}(h:o∈M:=by simp):Mv w (ZZ FN [] Z n M) w (ZZ FN [] Z n [o]):=Hr fun b a _=>a.imp id fun⟨c,d⟩=>⟨c,fun hm=>by
 rw[List.mem_singleton] at hm;exact d (by rw[hm];exact h)⟩
theorem K3(g:Bm D w w')(h:∀b,Z b→¬D b):Mv w Z w' Z:=⟨g.size,fun b a c=>⟨a,g.block b c (h b a)⟩⟩
theorem Ke{b:Nat}{o:Option Nat}(h:¬FU FN C b∧some b≠o):¬FU FN C b:=h.1
theorem Ra{b:Nat}{o:Option Nat}(h:¬FU F C b∧some b≠o):¬FU F (C++[o]) b:=by
 rintro(a|a)
 ·exact h.1 (.inl a)
 ·rcases List.mem_append.1 a with c|c
  ·exact h.1 (.inr c)
  ·exact h.2 (by simpa using c)
theorem EZ{b:Nat}{o:Option Nat}(h:¬FU F C b)(k:some b≠o):¬F b∧some b∉C++[o]:=
 ⟨fun a=>h (.inl a),fun a=>by
  rcases List.mem_append.1 a with c|c
  ·exact h (.inr c)
  ·exact k (by simpa using c)⟩
theorem Bm.lf{o:Option Nat}(g:Bm (FU F (C++[o])) w w'):Bm (FU (FU F C) [o]) w w':=g.mono fun k h=>by
 rcases h with h|h
 ·exact .inl (.inl h)
 ·rcases List.mem_append.1 h with a|a
  ·exact .inl (.inr a)
  ·exact .inr a
theorem Bm.Rb{o:Option Nat}(g:Bm (FU F C) w w'):Bm (FU (FU F C) [o]) w w':=g.mono fun _ h=>.inl h
theorem Bm.cl{M1 M2:List (Option Nat)}(g:Bm (FU (FU F M1) M2) w w'):Bm (FU F (M1++M2)) w w':=g.fl
theorem Hp.Jr(h:Hp F B w0 L w)(b:List Nat)(c:GS L b C)(d:∀k,F0 k→F k):∀k,FU F0 C k→k<w.heap.size:=fun k a=>by
 rcases a with a|a
 ·exact Nat.lt_of_lt_of_le (h.ff k (d k a)) h.sz
 ·exact(h.lo k (c.sub _ a)).1
theorem Hp.Tw(h:Hp F B w0 L w)(i:Nat){k:Nat}(hi:L[i]?=some (some k))(a:List Nat)(b:(a.all fun j=> !Nat.beq i j)=true)(c:GS L a C):k<w.heap.size∧¬FU F C k:=
 ⟨(h.lo k (List.mem_of_getElem? hi)).1,h.BC (F':=F) i hi a b c fun _ h=>h⟩
theorem Hp.Dd{x d:Option Nat}(h:Hp F B w0 L w)(i:Nat)(hi:L[i]?=some x)(a:List Nat)(g:(a.all fun j=> !Nat.beq i j)=true)(l:GS L a M)(m:∀y∈B,y=d∨y∈M):∀k,x=some k→(d=some k∨w0.heap.size≤k)∧k<w.heap.size:=fun k e=>by
 have f:=h.lo k (List.mem_of_getElem? (by rw[hi,e]));refine⟨?_,f.1⟩;rcases Nat.lt_or_ge k w0.heap.size with b|b
 ·left;rcases m _ (f.2.2 b) with c|c
  ·exact c.symm
  ·exact absurd (.inr c) (h.BC (F':=F) i (by rw[hi,e]) a g l fun _ h=>h)
 ·exact .inr b
theorem BQ.snoc{o:Option Nat}(h:BQ F C w)(l:∀k,o=some k→k<w.heap.size∧¬FU F C k):BQ F (C++[o]) w:=by
 refine⟨fun k q=>?_,fun i j x m hi f=>?_,h.ff⟩
 ·rcases List.mem_append.1 q with d|d
  ·exact h.lt k d
  ·have c:=l k (by rw[List.mem_singleton] at d;exact d.symm);exact⟨c.1,fun r=>c.2 (.inl r)⟩
 ·have key:∀(a b:Nat),a<C.length→¬b<C.length→(C++[o])[a]?=some (some x)→(C++[o])[b]?=some (some x)→False:=fun a b s t d c=>by
   rw[List.getElem?_append_left s] at d;rw[List.getElem?_append_right (by omega)] at c;have n:b-C.length=0:=by
    rcases Nat.eq_zero_or_pos (b-C.length) with h|h
    ·exact h
    ·rw[List.getElem?_eq_none (by simp;omega)] at c;cases c
   rw[n] at c;have p:o=some x:=by simpa using c
   exact(l x p).2 (.inr (List.mem_of_getElem? d))
  by_cases g:i<C.length
  ·by_cases e:j<C.length
   ·rw[List.getElem?_append_left g] at hi;rw[List.getElem?_append_left e] at f;exact h.ap i j x m hi f
   ·exact key i j g e hi f
  ·by_cases e:j<C.length
   ·exact key j i e g f hi
   ·have u:(C++[o]).length=C.length+1:=by simp
    have d:=(List.getElem?_eq_some_iff.1 hi).1;have c:=(List.getElem?_eq_some_iff.1 f).1;omega
theorem BQ.keep{o o':Option Nat}(h:BQ F C w)(g:w.heap.size≤w1.heap.size)(c:∀k,o=some k→k<w1.heap.size∧¬FU F C k)(d:∀k,o'=some k→(o=some k∨w1.heap.size≤k)∧k<w2.heap.size):∀k,o'=some k→k<w2.heap.size∧¬FU F C k:=fun k e=>by
 obtain⟨a,f⟩:=d k e;refine⟨f,?_⟩;rcases a with a|a
 ·exact(c k a).2
 ·rintro(b|b)
  ·have:=h.ff k b;omega
  ·have:=(h.lt k b).1;omega
def WK(L:List (Option Nat))(n:Nat):List (Option Nat)→Prop
 |[]=>True
 |x::M=>((∃j:Nat,L[j]?=some x)∨∀k,x=some k→some k∈L∨n≤k)∧WK L n M
theorem CA{n:Nat}:∀{M:List (Option Nat)},WK L n M→∀k,some k∈M→some k∈L∨n≤k
 |[],_,_,h=>by cases h
 |x::M,h,k,a=>by
  rcases List.mem_cons.1 a with e|a
  ·rcases h.1 with⟨j,b⟩|c
   ·left;rw[e];exact List.mem_of_getElem? b
   ·exact c k e.symm
  ·exact CA h.2 k a
theorem DZ{y:Option Nat}(i:Nat)(h:y∈M):∀x∈L.set i y,x∈L∨x∈M:=fun x a=>by
 rcases List.mem_or_eq_of_mem_set a with b|e
 ·exact .inl b
 ·exact .inr (by rw[e];exact h)
theorem I8{o:Option Nat}:∀b,ZC F [o] b→¬F b∧some b≠o:=fun _ h=>⟨h.1,fun e=>h.2 (by rw[e];exact List.mem_singleton_self _)⟩
end
theorem PO{F:Nat→Prop}{B L:List (Option Nat)}{n:Nat}{Z Z':Nat→Prop}(h:∀b,Z b→Z' b):∀b,ZZ F B Z n L b→ZZ F B Z' n L b:=fun b a=>a.imp (fun⟨c,d,e⟩=>⟨c,h b d,e⟩) id
def Js{α:Type}(e:Ep α)(w:World)(Z:Nat→Prop)(A:Option Addr)(c:Nat)(xs:List α):Prop:=
 xs.length≤c∧(A=none→c=0)∧∃Be,R2 e w Z Be xs∧Rz w ZA A Be.flatten
section
variable{α:Type}{e:Ep α}{t:TypeId}{n0:Nat}{w w':World}{Z Z':Nat→Prop}{A:Option Addr}{c:Nat}{xs:List α}
theorem Js.ext(h:Js e w Z A c xs)(g:Ext w w')(hm:Mv w Z w' Z'):Js e w' Z' A c xs:=⟨h.1,h.2.1,h.2.2.imp fun _ h=>⟨h.1.mv hm,h.2.mv (Ai g)⟩⟩
theorem AB.n(h:AB e t n0 w Z A c xs):Js e w Z A c xs:=by
 have a:=h.all;obtain⟨Be,b,d⟩:=h;refine⟨a.1,a.2.1,Be,b,?_⟩;have f:=d.rd;exact Ou f fun _ _ _=>trivial
theorem Sl.n(h:Sl e w Z A c xs):Js e w Z A c xs:=⟨h.1,h.2.1,h.2.2.imp fun _ h=>⟨h.1,h.2.mv K0⟩⟩
theorem Sl.H3(a:∀w Z w' Z' cs x,e.R w Z cs x→e.R w' Z' cs x)(h:Sl e w Z A c xs):Js e w Z' A c xs:=⟨h.1,h.2.1,h.2.2.imp fun _ h=>⟨h.1.free a,h.2.mv K0⟩⟩
theorem AB.H3(a:∀w Z w' Z' cs x,e.R w Z cs x→e.R w' Z' cs x)(h:AB e t n0 w Z A c xs):Js e w Z' A c xs:=h.all.H3 a
end
section
variable{P:Program}{a:Act}{w:World}{dst:Option Tmp}{ty:TypeId}{pos:String}{Cf:Array Edge}{g:Option (Nat×Bool)}
theorem Hd{α:Type}{e:Ep α}{s x:Operand}{t j:TypeId}{z:Value}{sz bytes:Nat}(y:P.underlying t=some (.slice j))(hi:(P.info? j).map (fun i=>(i.zero,i.size,i.bytes))=some (some z,sz,bytes))(l:z.cells.size=sz)(m:e.sz=sz)(h0:0<sz)
  {n0:Nat}{Z:Nat→Prop}{A B:Option Addr}{c d n:Nat}{xs ys:List α}(aA:a.eval s=.slice A n c)(aB:xs.length=n)(aC:a.eval x=.slice B ys.length d)(h:AB e j n0 w Z A c xs)(r:Js e w Z B d ys)
  (o:xs.length+ys.length≤maxLen)(b:(xs.length+ys.length)*bytes≤140737488355328)(f:n0≤w.heap.size):
  BO P ⟨dst,.call {callee:=.builtin .append,args:= #[s,x],argTypes:= #[t,t]},ty,pos,Cf,g⟩ a w (fun v w'=>∃u aD,v=.slice u (xs++ys).length aD∧w.grownBy w' (ob A)∧(∀k,ob u=some k→(ob A=some k∨w.heap.size≤k)∧k<w'.heap.size)∧
   ∃Be p,R2 e w Z Be xs∧R2 e w Z p ys∧Ec w' n0 j e.sz u (xs++ys).length aD (Be++p).flatten):=by
 by_cases q:ys=[]
 ·refine Va y hi l m h0 aA aB aC h ?_ o b f;subst q;exact⟨r.1,r.2.1,[],trivial,.inl rfl⟩
 ·obtain⟨_,_,Be,aE,aF⟩:=r;exact Ix y hi l m h0 aA aB aC h ⟨Be,aE,aF⟩ o b f q
end
section
variable{α:Type}{e:Ep α}{t:TypeId}{n0:Nat}{w w':World}{Z Z':Nat→Prop}{A:Option Addr}{c:Nat}{xs:List α}
theorem AB.Qz(a:∀w Z w' Z' cs x,e.R w Z cs x→e.R w' Z' cs x)(h:AB e t n0 w Z A c xs):AB e t n0 w Z' A c xs:=by
 obtain⟨Be,b,d⟩:=h;exact⟨Be,b.free a,d⟩
theorem AB.QA(h:AB e t n0 w Z A c xs):A=none→c=0:=h.all.2.1
theorem AB.keep(h:AB e t n0 w Z A c xs)(hm:Mv w Z w' Z')(d:∀k,ob A=some k→w'.heap[k]?=w.heap[k]?):AB e t n0 w' Z' A c xs:=by
 obtain⟨Be,f,a⟩:=h;refine⟨Be,f.mv hm,a.1,a.2.imp id ?_⟩;rintro⟨b,cap,cur,g,i,j,l⟩;cases g;exact⟨b,_,cur,rfl,i,(d b rfl).trans j,l⟩
end
def Cx{α:Type}(xs:List α)(l h:Int):List α:=(xs.take h.toNat).drop l.toNat
def OF(n:Nat)(l h:Int):Option Unit:=if 0≤l∧l≤h∧h≤(n:Int) then some () else none
theorem ND{α:Type}{n:Nat}{l h:Int}{f:Unit→Option α}{r:α}(a:(OF n l h).bind f=some r):(0≤l∧l≤h∧h≤(n:Int))∧f ()=some r:=by
 unfold OF at a;split at a
 ·exact⟨by assumption,a⟩
 ·cases a
def SB(a:Act)(o:Option Operand)(v d:Int):Prop:=(o=none∧v=d)∨∃x k,o=some x∧a.eval x=.int k v
theorem Vb{a:Act}{d:Int}:SB a none d d:=.inl ⟨rfl,rfl⟩
theorem Vc{a:Act}{x:Operand}{k:IntKind}{v d:Int}(h:a.eval x=.int k v):SB a (some x) v d:=.inr ⟨x,k,rfl,h⟩
theorem Kf{P:Program}(w:World)(k:IntKind)(i:Int)(y:Nat)(code:BoundsCode)(h0:0≤i)(a:i≤(y:Int)):(Instr.sliceBound (.int k i) y code).run P w=.ok i.toNat w:=by
 simp[Instr.sliceBound,asIntOf,h0,a]
section
variable{P:Program}{a:Act}{w:World}{dst:Option Tmp}{ty:TypeId}{pos:String}{Cf:Array Edge}{g:Option (Nat×Bool)}
theorem Rc{α:Type}{e:Ep α}{Z:Nat→Prop}{xs:List α}{t v:TypeId}{sz:Nat}{x:Operand}{A:Option Addr}{c:Nat}{lo hi:Option Operand}{l h:Int}(aJ:P.underlying t=some (.slice v))(aK:(P.info? v).map (·.size)=some sz)(z:e.sz=sz)
  (aL:a.eval x=.slice A xs.length c)(i:SB a lo l 0)(aA:SB a hi h xs.length)(aM:Sl e w Z A c xs)(aN:0≤l∧l≤h∧h≤(xs.length:Int)):
  BO P ⟨dst,.slice t x lo hi none,ty,pos,Cf,g⟩ a w (fun u w'=>(∃aB aC,u=.slice aB (Cx xs l h).length aC∧Sl e w Z aB aC (Cx xs l h))∧w'=w):=by
 subst z;obtain⟨aU,m,Be,n,aO⟩:=aM;obtain⟨aV,aW,aX⟩:=aN;have hlen:(Cx xs l h).length=h.toNat-l.toNat:=by
  unfold Cx;rw[List.length_drop,List.length_take];omega
 have p:(Instr.sliceAt t (.slice A xs.length c) (lo.map a.eval) (hi.map a.eval) none).run P w=.ok (.slice (if c=l.toNat then A else A.map (·.add (l.toNat*e.sz))) (h.toNat-l.toNat) (c-l.toNat)) w:=by
  have aP:(Instr.sliceBounds true xs.length c (lo.map a.eval) (hi.map a.eval) none).run P w=.ok (l.toNat,h.toNat,c) w:=by
   unfold Instr.sliceBounds;rcases aA with⟨rfl,rfl⟩|⟨y,k,rfl,aD⟩
   ·rcases i with⟨rfl,rfl⟩|⟨aQ,k',rfl,d⟩
    ·simp
    ·simp[d,Kf w k' l xs.length _ (by omega) (by omega)]
   ·have aE:=fun code=>Kf (P:=P) w k h c code (by omega) (by omega);rcases i with⟨rfl,rfl⟩|⟨aQ,k',rfl,d⟩
    ·simp[aD,aE]
    ·simp[aD,d,aE,Kf w k' l h.toNat _ (by omega) (by omega)]
  simp[Instr.sliceAt,Instr.slice,underlying,program,Sem.run,aJ,aP,IZ aK]
 refine(TI aL rfl rfl p).mono ?_;rintro u w' ⟨rfl,rfl⟩;refine⟨⟨_,_,by rw[hlen],?_⟩,rfl⟩;have q:=(n.take h.toNat).drop l.toNat;have aF:((Be.take h.toNat).drop l.toNat).flatten=[]∨(0<e.sz∧l.toNat<h.toNat):=by
  rcases Nat.eq_zero_or_pos e.sz with h0|h0
  ·left;exact List.eq_nil_of_length_eq_zero (by rw[q.Ik,h0,Nat.mul_zero])
  ·rcases Nat.lt_or_ge l.toNat h.toNat with r|r
   ·exact .inr ⟨h0,r⟩
   ·left;exact List.eq_nil_of_length_eq_zero (by rw[q.Ik,List.length_drop,List.length_take,show min h.toNat xs.length-l.toNat=0 by omega,Nat.zero_mul])
 refine⟨by rw[hlen];omega,fun s=>?_,_,q,?_⟩
 ·split at s
  ·have:=m s;omega
  ·have:=m (by simpa using s);omega
 ·rcases aF with h0|⟨h0,r⟩
  ·exact .inl h0
  ·rcases aO with aR|⟨b,o,rfl,aS,aG,f⟩
   ·left;have aH:=n.Ik;rw[aR] at aH;simp only[List.length_nil] at aH;have aY:0<xs.length*e.sz:=Nat.mul_pos (by omega) h0;omega
   ·right;have aI:¬c=l.toNat:=by omega
    refine⟨b,o+l.toNat*e.sz,by simp[aI,FO],aS,aG,fun j u hu=>?_⟩;rw[Nat.add_assoc];refine f _ _ ?_;rw[←(n.take h.toNat).Tq h0,List.getElem?_drop] at hu;have aT:Be.flatten=(Be.take h.toNat).flatten++(Be.drop h.toNat).flatten:=by rw[←List.flatten_append,List.take_append_drop]
    rw[aT,List.getElem?_append_left (List.getElem?_eq_some_iff.1 hu).1];exact hu
end
def JQ(n:Int)(b:Nat):Option Unit:=if 0≤n∧n*b≤140737488355328∧n≤140737488355328 then some () else none
theorem G8{α:Type}{n:Int}{b:Nat}{f:Unit→Option α}{r:α}(h:(JQ n b).bind f=some r):(0≤n∧n*b≤140737488355328∧n≤140737488355328)∧f ()=some r:=by
 unfold JQ at h;split at h
 ·exact⟨by assumption,h⟩
 ·cases h
theorem K4(z:Array Value):∀m:Nat,(madeCells z (m*z.size)).toList=(List.replicate m z.toList).flatten
 |0=>by simp[madeCells]
 |m+1=>by
  have ih:=K4 z m;have e:∀k,(madeCells z k).toList=(List.range k).map (z[· %z.size]!):=fun k=>by simp[madeCells]
  rw[e] at ih⊢;rw[Nat.add_mul,Nat.one_mul,List.range_add,List.map_append,ih,List.replicate_succ',List.flatten_append]
  congr 1
  simp only[List.map_map,List.flatten_cons,List.flatten_nil,List.append_nil];refine List.ext_getElem (by simp) fun i b a=>?_;simp only[List.getElem_map,List.getElem_range,Function.comp];have hi:i<z.size:=by simpa using a
  rw[Nat.add_comm,Nat.add_mul_mod_self_right,Nat.mod_eq_of_lt hi];simp[hi]
theorem R2.WM{α:Type}{e:Ep α}{w:World}{Z:Nat→Prop}{c:List Value}{x:α}(h:e.R w Z c x):∀m:Nat,R2 e w Z (List.replicate m c) (List.replicate m x)
 |0=>trivial
 |m+1=>⟨h,R2.WM h m⟩
section
variable{P:Program}{a:Act}{w:World}{dst:Option Tmp}{ty:TypeId}{pos:String}{Cf:Array Edge}{g:Option (Nat×Bool)}
theorem HD{α:Type}{e:Ep α}{z:α}{zc:List Value}{n0:Nat}{t j:TypeId}{d:Value}{sz bytes:Nat}{n:Int}{x y:Operand}{m o:IntKind}{b':Nat}(aB:P.underlying t=some (.slice j))(hi:(P.info? j).map (fun i=>(i.zero,i.size,i.bytes))=some (some d,sz,bytes))
  (p:d.cells.toList=zc)(c:e.sz=sz)(aC:a.eval x=.int m n)(aD:a.eval y=.int o n)(hm:0≤n∧n*b'≤140737488355328∧n≤140737488355328)(q:∀w Z,e.R w Z zc z)(aE:n0≤w.heap.size)(aJ:bytes≤b'):
  BO P ⟨dst,.makeSlice t x y,ty,pos,Cf,g⟩ a w (fun u w'=>∃b,u=.slice (some ⟨b,0,none⟩) (List.replicate n.toNat z).length n.toNat∧w.heap.size≤b∧b<w'.heap.size∧Ext w w'∧∀Z,AB e j n0 w' Z (some ⟨b,0,none⟩) n.toNat (List.replicate n.toNat z)):=by
 subst p;subst c;cases f:P.info? j with
 |none=>simp[f] at hi
 |some i=>
  rw[f] at hi;simp only[Option.map_some,Option.some.injEq,Prod.mk.injEq] at hi;obtain⟨aF,r,aG⟩:=hi;obtain⟨s,aK,aL⟩:=hm;have v:d.cells.toList.length=e.sz:=e.len (q w ZA);have c:d.cells.size=e.sz:=by simpa using v
  have aA:(i.bytes:Int)*n≤281474976710656:=by
   rw[aG];have aH:(bytes:Int)*n≤(b':Int)*n:=Int.mul_le_mul_of_nonneg_right (by omega) s;rw[Int.mul_comm (b':Int)] at aH;omega
  have aI:=run_make (P:=P) w t j i d aB f aF m o n n s (Int.le_refl _) aA (by omega);refine(Jn (S:=Instr.makeSlice t (a.eval x) (a.eval y)) rfl (by rw[aC,aD];exact aI)).mono fun u w' h=>?_;obtain⟨rfl,rfl⟩:=h;have l:=IF w j (madeCells d.cells (n.toNat*i.size));refine⟨w.heap.size,by rw[List.length_replicate],Nat.le_refl _,by rw[l.sz];exact Nat.lt_succ_self _,l.gr,fun Z=>⟨_,R2.WM (q _ Z) n.toNat,?_⟩⟩;rw[List.length_replicate];have k:(List.replicate n.toNat d.cells.toList).flatten.length=n.toNat*e.sz:=by rw[←K4,←c];simp[size_madeCells]
  refine⟨k,.inr ⟨w.heap.size,n.toNat,_,rfl,aE,l.bk,Nat.le_refl _,by simp only[maxLen];omega,by rw[size_madeCells,r],?_⟩⟩;rw[r,←c,K4,List.take_of_length_le (by rw[k,c];exact Nat.le_refl _)]
end
def K5:Int⊕Bool→Value
 |.inl n=>.int .i64 n
 |.inr b=>.bool b
def Mt(l:List (Int⊕Bool)):Value:=.agg (l.map K5).toArray
def LN:Int⊕Bool→Bool
 |.inl _=>true
 |.inr _=>false
def H4:List (Int⊕Bool)→List (Int⊕Bool)→Bool
 |[],[]=>true
 |.inl a::l,.inl b::m=>a==b&&H4 l m
 |.inr a::l,.inr b::m=>a==b&&H4 l m
 |_,_=>false
def Sy(P:Program)(t:TypeId)(a:List Bool):Prop:=∀(w:World) (x y:List (Int⊕Bool)),x.map LN=a→y.map LN=a→(Op.equal t (Mt x) (Mt y)).run P w=.ok (H4 x y) w
def MV(a b:TypeId):Nat→List Field→List Bool→Bool
 |_,[],[]=>true
 |i,f::c,k::d=>f.name !="_"&&Nat.beq f.type (cond k a b)&&Nat.beq f.offset i&&MV a b (i+1) c d
 |_,_,_=>false
section
variable{P:Program}{w:World}
theorem Kg{e:TypeId}(he:One P e){cs:Array Value}{i:Nat}{v:Value}(h:cs[i]?=some v):(part e cs i).run P w=.ok v w:=by
 simp only[part,Sem.run_bind,JB he,Result.andThen_ok,h];rfl
theorem NF{j l:TypeId}(u:One P j)(u1:P.underlying j=some (.int .i64))(v:One P l)(z:P.underlying l=some .bool)(d:Nat):∀(o:List Field) (c:List Bool) (x y b e:List (Int⊕Bool)),b.length=e.length→MV j l b.length o c=true→x.map LN=c→y.map LN=c→
  (Op.eqFields (d+1) ((b++x).map K5).toArray ((e++y).map K5).toArray o).run P w=.ok (H4 x y) w
 |[],[],[],[],_,_,_,_,_,_=>by simp[Op.eqFields,H4]
 |[],_::_,_,_,_,_,_,h,_,_=>by simp[MV] at h
 |_::_,[],_,_,_,_,_,h,_,_=>by simp[MV] at h
 |[],[],_::_,_,_,_,_,_,h,_=>by simp at h
 |[],[],_,_::_,_,_,_,_,_,h=>by simp at h
 |_::_,_::_,[],_,_,_,_,_,h,_=>by simp at h
 |_::_,_::_,_,[],_,_,_,_,_,h=>by simp at h
 |f::o,k::c,g::x,i::y,b,e,aA,aB,p,r=>by
  simp only[MV,Bool.and_eq_true] at aB;obtain⟨⟨⟨s,a⟩,t⟩,aE⟩:=aB;have s:f.name≠"_":=by simpa using s
  have a:=Nat.eq_of_beq_eq_true a;have t:=Nat.eq_of_beq_eq_true t;simp only[List.map_cons,List.cons.injEq] at p r;have ih:=NF u u1 v z d o c x y (b++[g]) (e++[i]) (by simp[aA]) (by simpa using aE) p.2 r.2;rw[List.append_assoc,List.append_assoc] at ih;simp only[List.singleton_append] at ih;have aC:((b++g::x).map K5).toArray[f.offset]?=some (K5 g):=by rw[t];simp
  have aD:((e++i::y).map K5).toArray[f.offset]?=some (K5 i):=by rw[t,aA];simp
  cases k with
  |true=>
   cases g with
   |inr _=>simp[LN] at p
   |inl m=>
    cases i with
    |inr _=>simp[LN] at r
    |inl n=>
     have a:f.type=j:=a;have o1:One P f.type:=by rw[a];exact u
     have q:=run_equalIn_int (P:=P) w d f.type .i64 .i64 m n (by rw[a];exact u1);simp only[Op.eqFields,s,ne_eq,not_false_eq_true,if_true,Sem.run_bind,Kg o1 aC,Kg o1 aD,K5,q,Result.andThen_ok,H4];cases aF:(m==n)
     ·simp
     ·simpa using ih
  |false=>
   cases g with
   |inl _=>simp[LN] at p
   |inr m=>
    cases i with
    |inl _=>simp[LN] at r
    |inr n=>
     have a:f.type=l:=a;have o1:One P f.type:=by rw[a];exact v
     have q:=run_equalIn_bool (P:=P) w d f.type m n (by rw[a];exact z);simp only[Op.eqFields,s,ne_eq,not_false_eq_true,if_true,Sem.run_bind,Kg o1 aC,Kg o1 aD,K5,q,Result.andThen_ok,H4];cases aF:(m==n)
     ·simp
     ·simpa using ih
theorem PB{K c d:Nat}{a:Array Field}{e:List Bool}(hK:P.underlying K=some (.struct a))(f:P.stoodInHeld K=false)(g:MV c d 0 a.toList e=true)(i:One P c)(u1:P.underlying c=some (.int .i64))(j:One P d)(l:P.underlying d=some .bool):Sy P K e:=by
 intro w x y m n;have b:P.fieldsOf K=a:=by simp[Program.fieldsOf,hK]
 have h:=run_equalIn_struct (P:=P) w 9999 K (x.map K5).toArray (y.map K5).toArray (by rw[b];exact hK) f;have k:=NF (P:=P) (w:=w) i u1 j l 9998 a.toList e x y [] [] rfl g m n;simp only[List.nil_append] at k;rw[b,k] at h;exact h
end
section
variable{P:Program}{a:Act}{w:World}{dst:Option Tmp}{ty:TypeId}{pos:String}{Cf:Array Edge}{g:Option (Nat×Bool)}
theorem QB{x y:Operand}{v1 v2:Value}{x1 x2:List (Int⊕Bool)}{b:List Bool}{t d:TypeId}(e:Sy P t b)(c:P.eqGuardType P.depth t=false)(f:a.eval x=v1)(h:a.eval y=v2)(i:v1=Mt x1)(j:v2=Mt x2)(k:x1.map LN=b)(l:x2.map LN=b):
  BO P ⟨dst,.binOp .eql t x y d,ty,pos,Cf,g⟩ a w (fun u w'=>u=.bool (H4 x1 x2)∧w'=w):=by
 refine Qq f h ?_;subst i;subst j;have m:=e w x1 x2 k l;have n:(eqGuard .eql t x y (Mt x1) (Mt x2)).run P w=.ok () w:=by
  simp[eqGuard,Mt,program,Sem.run,c]
 simp only[Sem.run_bind,n,Result.andThen_ok];show(do pure (Value.bool (←Op.equal t (Mt x1) (Mt x2))):Sem Value).run P w=_;simp only[Sem.run_bind,m,Result.andThen_ok,Sem.run_pure]
theorem Tx{x y:Operand}{p q:Option Addr}{t u:TypeId}{b:Bool}(c:a.eval x=.pointer p)(d:a.eval y=.pointer q)(e:(Op.equal t (.pointer p) (.pointer q)).run P w=.ok b w):BO P ⟨dst,.binOp .eql t x y u,ty,pos,Cf,g⟩ a w (fun v w'=>v=.bool b∧w'=w):=
 Ct (by simp[execOp,c,d,binOp,e,eqGuard])
theorem L2 {α:Type} {e:Ep α} {aA t:TypeId} {x y:Operand} {b o k p c:Nat} {v:Value} {n0:Nat} {Z:Nat→Prop} {A:Option Addr} {xs:List α} {z z':α} {l:List Value} {n:Nat}
  (aB:AB e aA n0 w Z A c xs) (aD:xs[k]?=some z) (aM:A=some ⟨b,o,none⟩) (aN:p=o+k*e.sz) (aO:a.eval x=.pointer (some ⟨b,p,none⟩)) (aP:a.eval y=v) (aQ:(P.info? t).map (·.size)=some n) (aR:v.cells.toList=l) (aS:l.length=n)
  (aT:∀u∈l,u.oneCell'=true) (aE:e.R w Z l z'):
  BO P ⟨dst,.store t x y,ty,pos,Cf,g⟩ a w (fun _ w'=>w.grownBy w' (ob A)∧∃Be,R2 e w Z Be (xs.set k z')∧Ec w' n0 aA e.sz A (xs.set k z').length c Be.flatten):=by
 obtain⟨Be,f,aU⟩:=aB;obtain⟨a4,aY,aF,aZ⟩:=f.get aD;have a0:=e.len aF;have aG:=e.len aE;subst aM;subst aN;have aH:k<xs.length:=(List.getElem?_eq_some_iff.1 aD).1;have hlen:=f.len;have h:=f.lens;rcases aU.2 with⟨aI,h0⟩|⟨a5,cap,cur,aI,aJ,aV,q,aK,aC,i⟩
 ·omega
 ·cases aI;have a2:k*e.sz+e.sz≤xs.length*e.sz:=by
   have:(k+1)*e.sz≤xs.length*e.sz:=Nat.mul_le_mul_right _ aH;rw[Nat.add_mul,Nat.one_mul] at this;exact this
  have a3:xs.length*e.sz≤c*e.sz:=Nat.mul_le_mul_right _ q;have aL:Bk w b aA cur:=aV;refine(Bl (B9:=setCells cur (0+k*e.sz) l) aO aP aQ aL aR aS (by omega) aT rfl).mono ?_;rintro _ w' ⟨s1,s2,aW⟩;have d:=f.set aE k;refine⟨aW,_,d,by rw[d.Ik],.inr ⟨b,c,setCells cur (0+k*e.sz) l,rfl,aJ,s2,by rw[List.length_set];exact q,aK,by rw[EH 0];exact aC,?_⟩⟩;rw[List.length_set];rcases Nat.eq_zero_or_pos e.sz with h0|h0
  ·have aX:(Be.set k l).flatten=[]:=List.eq_nil_of_length_eq_zero (by rw[d.Ik,h0,Nat.mul_zero]);rw[aX,h0,Nat.mul_zero,List.take_zero]
  ·refine List.ext_getElem? fun j=>?_;rw[L0 aG h0 k Be j h (by omega),List.getElem?_take,Array.getElem?_toList,F3 _ _ _ _ (by omega)];have r:∀j:Nat,Be.flatten[j]?=if j<xs.length*e.sz then cur[j]? else none:=fun j=>by
    rw[←i,List.getElem?_take,Array.getElem?_toList]
   by_cases m:j<xs.length*e.sz
   ·rw[if_pos m]
    by_cases s:k*e.sz≤j∧j<k*e.sz+e.sz
    ·rw[if_pos (by omega),if_pos s,show j-(0+k*e.sz)=j-k*e.sz by omega]
    ·rw[if_neg (by omega),if_neg s,r,if_pos m]
   ·rw[if_neg m,if_neg (by omega),r,if_neg m]
theorem Gk{α:Type}{e:Ep α}{f t:TypeId}{x y:Operand}{b o k p c:Nat}{v:Value}{n0:Nat}{Z:Nat→Prop}{A:Option Addr}{xs:List α}{z z':α}{l:List Value}{n:Nat}
  (d:AB e f n0 w Z A c xs)(i:xs[k]?=some z)(j:A=some ⟨b,o,none⟩)(m:p=o+k)(q:a.eval x=.pointer (some ⟨b,p,none⟩))(r:a.eval y=v)(s:(P.info? t).map (·.size)=some n)(aA:v.cells.toList=l)(aB:l.length=n)
  (aC:∀u∈l,u.oneCell'=true)(aD:e.R w Z l z')(h:e.sz=1:=by rfl):
  BO P ⟨dst,.store t x y,ty,pos,Cf,g⟩ a w (fun _ w'=>w.grownBy w' (ob A)∧∃Be,R2 e w Z Be (xs.set k z')∧Ec w' n0 f e.sz A (xs.set k z').length c Be.flatten):=
 L2 d i j (by rw[h,Nat.mul_one];exact m) q r s aA aB aC aD
end
theorem K6{l:List Int}{i:Nat}{x:Int}(h:l[i]?=some x):(l.map fun n=>Value.int .i64 n)[i]?=some (.int .i64 x):=by rw[List.getElem?_map,h];rfl
theorem AB.Wj {α:Type} {e:Ep α} {t:TypeId} {n0:Nat} {w:World} {Z:Nat→Prop} {A:Option Addr} {c k:Nat} {xs:List α} {x:α} (h:AB e t n0 w Z A c xs) (h0:0<e.sz) (f:xs[k]?=some x):
  ∃b o cs,A=some ⟨b,o,none⟩∧e.R w Z cs x∧Rz w ZA (some ⟨b,o+k*e.sz,none⟩) cs:=by
 obtain⟨Be,g,i⟩:=h;have q:Sl e w ZA A c xs:=AB.all (t:=t) (n0:=n0) (Z:=Z) ⟨Be,g,i⟩;obtain⟨b,o,B9,l,y,aB⟩:=q.elem h0 f;obtain⟨m,z,a,n⟩:=g.get f;refine⟨b,o,m,l,a,?_⟩;have hlen:m.length=e.sz:=e.len a;have r:=i.rd;rcases r.2 with s|⟨b',o',d,_,p,v⟩
 ·have:=g.Ik;rw[s] at this;have aA:k<xs.length:=(List.getElem?_eq_some_iff.1 f).1;have aC:0<xs.length*e.sz:=Nat.mul_pos (by omega) h0;simp at this;omega
 ·rw[l] at d;cases d;refine .inr ⟨b,_,rfl,trivial,p,fun j u hu=>?_⟩;rw[Nat.add_assoc];refine v _ _ ?_;rw[←n,List.getElem?_take] at hu;split at hu
  ·simpa using hu
  ·cases hu
theorem AB.H5{α:Type}{e:Ep α}{t:TypeId}{n0:Nat}{w:World}{Z:Nat→Prop}{A:Option Addr}{c k:Nat}{xs:List α}{x:α}(h:AB e t n0 w Z A c xs)(d:e.sz=1)(f:xs[k]?=some x):
  ∃b o cs,A=some ⟨b,o,none⟩∧e.R w Z cs x∧Rz w ZA (some ⟨b,o+k,none⟩) cs:=by
 obtain⟨b,o,cs,g,i,a⟩:=h.Wj (by omega) f;rw[d,Nat.mul_one] at a;exact⟨b,o,cs,g,i,a⟩
def TC(w:World)(D:Nat→Prop)(M:World→Prop):Nat→World→Prop
 |0,w'=>Ext w w'
 |_+1,w'=>Bm D w w'∧M w'
section
variable{w w' Bp:World}{D:Nat→Prop}{M:World→Prop}{ph:Nat}
theorem Gr(h:TC w D M ph w'):Bm D w w':=by
 cases ph with
 |zero=>exact GA h
 |succ=>exact h.1
theorem BK(h:TC w D M ph w')(a:ph=0):Ext w w':=by subst a;exact h
theorem H6(c:∀a b,M a→Ext a b→M b)(h:TC w D M ph w')(g:Ext w' Bp):TC w D M ph Bp:=by
 cases ph with
 |zero=>exact Ext.trans h g
 |succ=>exact⟨(show Bm D w w' from h.1).trans (GA g),c _ _ h.2 g⟩
theorem II(h:TC w D M ph w')(a:ph=0)(g:Bm D w' Bp)(b:M Bp):TC w D M (ph+1) Bp:=by
 subst a;exact⟨(GA h).trans g,b⟩
theorem IU{r:Option Nat}(g:w.grownBy w' r):Bm (FU FN [r]) w w':=I6 g fun k e=>.inr (by rw[e];exact List.mem_singleton_self _)
end
section
variable{F F':Nat→Prop}{B:List (Option Nat)}{w0 w w':World}{L M:List (Option Nat)}
theorem Hp.QC{Z:Nat→Prop}{a:Nat}(h:Hp F B w0 L w)(c:w.heap.size≤a):Mv w' (ZZ FN [] FN a []) w' (ZZ F B Z w0.heap.size L):=Hr fun b d _=>by
 rcases d with⟨_,e,_⟩|⟨f,_⟩
 ·exact e.elim
 ·refine .inr ⟨Nat.le_trans h.sz (Nat.le_trans c f),fun hm=>?_⟩;have:=(h.lo b hm).1;omega
theorem Hp.Ty{α:Type}{e:Ep α}{t:TypeId}{A:Option Addr}{c:Nat}{xs:List α}{Z Z':Nat→Prop}(h:Hp F B w0 L w)(b:∀w Z w' Z' cs x,e.R w Z cs x→e.R w' Z' cs x)(a:AB e t w.heap.size w' Z' A c xs):AB e t w0.heap.size w' Z A c xs:=
 AB.Qz b (a.base (n1:=w0.heap.size) fun k d=>Nat.le_trans h.sz (a.ge k d))
theorem Hp.Mu{α:Type}{e:Ep α}{t:TypeId}{A:Option Addr}{c:Nat}{xs:List α}{Z a:Nat→Prop}(h:Hp F B w0 L w)(b:∀w Z w' Z' cs x,e.R w Z cs x→e.R w' Z' cs x)(d:AB e t w.heap.size w' a A c xs):Sl e w' (ZZ F B Z w0.heap.size L) A c xs:=
 (AB.Qz b d).sl fun k _ h0=>h.kn h0
theorem Hp.MW (h:Hp F B w0 L w) (f:Hp F B w0 L w') {b:Nat} (p:w.heap.size≤b) (l:b<w'.heap.size):Hp F B w0 (some b::L) w':=by
 refine⟨f.ch,fun k a=>?_,?_,h.ff⟩
 ·rcases List.mem_cons.1 a with e|a
  ·cases e;exact⟨l,fun m=>absurd (h.ff _ m) (by have:=h.sz;omega),fun n=>absurd n (by have:=h.sz;omega)⟩
  ·exact f.lo k a
 ·have key:∀(j:Nat) (x:Nat),L[j]?=some (some x)→x≠b:=fun j x o e=>by
   have:=(h.lo x (List.mem_of_getElem? o)).1;omega
  intro i j x g hi c;cases i with
  |zero=>
   cases j with
   |zero=>exact g rfl
   |succ j=>
    have d:b=x:=by simpa using hi
    exact key j x (by simpa using c) d.symm
  |succ i=>
   cases j with
   |zero=>
    have d:b=x:=by simpa using c
    exact key i x (by simpa using hi) d.symm
   |succ j=>exact h.ap i j x (by omega) (by simpa using hi) (by simpa using c)
theorem Gl{Z:Nat→Prop}{n0:Nat}{b:Nat}(hm:Mv w (ZZ F B Z n0 L) w' (ZZ F B Z n0 L))(h:w.heap.size≤b):Mv w (ZZ F B Z n0 L) w' (ZZ F B Z n0 (some b::L)):=
 ⟨hm.size,fun k c d=>⟨(hm.stay k c d).1.imp id fun⟨f,g⟩=>⟨f,fun a=>by
  rcases List.mem_cons.1 a with e|a
  ·cases e;omega
  ·exact g a⟩,(hm.stay k c d).2⟩⟩
end
def QD (w:World) (R:World→Value→World→Prop):KJ Ext:=
 ⟨fun v a=>∃w1 w2,Ext w w1∧R w1 v w2∧Ext w2 a,fun _ _ _ ⟨w1,w2,b,c,d⟩ g=>⟨w1,w2,b,c,Ext.trans d g⟩⟩
def Jt(w:World)(R:World→Value→World→Prop)(a:World):Prop:=∃v w1 w2,Ext w w1∧R w1 v w2∧Ext w2 a
theorem HU{w:World}{R:World→Value→World→Prop}:∀a b,Jt w R a→Ext a b→Jt w R b:=fun _ _ ⟨v,w1,w2,c,d,e⟩ g=>⟨v,w1,w2,c,d,Ext.trans e g⟩
def Mw(_:World):Prop:=True
theorem K7:∀a b,Mw a→Ext a b→Mw b:=fun _ _ _ _=>trivial
def HM(n:Nat)(w:World):List Nat→Prop
 |[]=>True
 |b::l=>n≤b∧b<w.heap.size∧(l.all fun x=> !Nat.beq b x)=true∧HM n w l
section
variable{F F':Nat→Prop}{B:List (Option Nat)}{w0 w w':World}{L M:List (Option Nat)}{Z:Nat→Prop}
theorem HM.mem{n:Nat}:∀{l:List Nat},HM n w l→∀b∈l,n≤b∧b<w.heap.size
 |[],_,_,h=>by cases h
 |x::l,h,b,a=>by
  rcases List.mem_cons.1 a with rfl|a
  ·exact⟨h.1,h.2.1⟩
  ·exact HM.mem h.2.2.2 b a
theorem HM.grow{n a:Nat}(b:a≤n)(c:w.heap.size≤w'.heap.size):∀{l:List Nat},HM n w l→HM a w' l
 |[],_=>trivial
 |_::_,h=>⟨Nat.le_trans b h.1,Nat.lt_of_lt_of_le h.2.1 c,h.2.2.1,HM.grow b c h.2.2.2⟩
theorem Hp.OG(h:Hp F B w0 L w):∀{l:List Nat},Hp F B w0 L w'→HM w.heap.size w' l→Hp F B w0 (l.map some++L) w'
 |[],c,_=>c
 |b::l,c,a=>by
  have d:=Hp.OG h c a.2.2.2;refine⟨d.ch,fun k f=>?_,?_,h.ff⟩
  ·rcases List.mem_cons.1 f with e|f
   ·cases e;exact⟨a.2.1,fun p=>absurd (h.ff _ p) (by have:=h.sz;have:=a.1;omega),fun n=>absurd n (by have:=h.sz;have:=a.1;omega)⟩
   ·exact d.lo k f
  ·have key:∀(j:Nat) (x:Nat),(l.map some++L)[j]?=some (some x)→x≠b:=fun j x q e=>by
    subst e;have hm:=List.mem_of_getElem? q;rcases List.mem_append.1 hm with hm|hm
    ·obtain⟨y,r,e⟩:=List.mem_map.1 hm;cases e;have:=List.all_eq_true.1 a.2.2.1 x r;rw[Nat.beq_refl] at this;cases this
    ·have:=(h.lo x hm).1;have:=a.1;omega
   intro i j x o hi g;cases i with
   |zero=>
    cases j with
    |zero=>exact o rfl
    |succ j=>
     have m:b=x:=by simpa using hi
     exact key j x (by simpa using g) m.symm
   |succ i=>
    cases j with
    |zero=>
     have m:b=x:=by simpa using g
     exact key i x (by simpa using hi) m.symm
    |succ j=>exact d.ap i j x (by omega) (by simpa using hi) (by simpa using g)
theorem Hp.MX(h:Hp F B w0 L w)(g:Ext w w'){l:List Nat}(a:HM w.heap.size w' l):Hp F B w0 (l.map some++L) w':=h.OG (h.ext g) a
theorem Ft{n0:Nat}{l:List Nat}(hm:Mv w (ZZ F B Z n0 L) w' (ZZ F B Z n0 L))(d:HM w.heap.size w' l):Mv w (ZZ F B Z n0 L) w' (ZZ F B Z n0 (l.map some++L)):=
 ⟨hm.size,fun k c b=>⟨(hm.stay k c b).1.imp id fun⟨f,g⟩=>⟨f,fun a=>by
  rcases List.mem_append.1 a with a|a
  ·obtain⟨y,h,e⟩:=List.mem_map.1 a;cases e;have:=(d.mem k h).1;omega
  ·exact g a⟩,(hm.stay k c b).2⟩⟩
theorem QE{b c:Nat}(f:w.heap.size≤b)(a:b<w'.heap.size)(g:w.heap.size≤c)(d:c<w'.heap.size)(e:b≠c):HM w.heap.size w' [b,c]:=
 ⟨f,a,by
  have:Nat.beq b c=false:=by
   cases h:Nat.beq b c with
   |false=>rfl
   |true=>exact absurd (Nat.eq_of_beq_eq_true h) e
  simp[this],g,d,rfl,trivial⟩
theorem Hp.Sz (h:Hp F B w0 L w):∀(l:List Nat) (c:List Nat),GS L c (l.map some)→JO c=true→(∀b∈l,w0.heap.size≤b)→HM w0.heap.size w l
 |[],_,_,_,_=>trivial
 |b::l,[],a,_,_=>a.elim
 |b::l,j::c,a,e,d=>by
  simp only[JO,Bool.and_eq_true] at e;refine⟨d b (List.mem_cons_self ..),(h.lo b (List.mem_of_getElem? a.1)).1,?_,h.Sz l c a.2 e.2 fun x f=>d x (List.mem_cons_of_mem _ f)⟩;rw[List.all_eq_true];intro x f;cases i:Nat.beq b x with
  |false=>rfl
  |true=>
   have g:=Nat.eq_of_beq_eq_true i;subst g;have k:=h.BC (F':=FN) j a.1 c e.1 a.2 (fun _ h=>h.elim);exact absurd (.inr (List.mem_map.2 ⟨b,f,rfl⟩)) k
end
section
variable{P:Program}{N:Nat}{Q:Exit→Act→World→Prop}{a:Act}{l:Env}{w:World}
def MY(a:Act):Act:={a with defers:=[]}
theorem K8(a:Act):∀l:Env,BY (MY a) l=MY (BY a l)
 |[]=>rfl
 |(d,v)::l=>by simp only[BY,K8 a l];rfl
theorem Mx{D:Nat}{fn:Func}{R:Value→World→Prop}(c:w.heap[D]?=some (.deferred (some [])))(h:∀w',G6 D w w'→LV X0 N (bodyPost P fn (fun e w'=>∃v,e=.returned v∧R v w')) .ret (MY a) l w'):
  LV (X1 D) N (PM P fn R) .ret a l w:=fun s=>by
 have d:St X0 N (MY a) l:=⟨s.sz,rfl,s.lt⟩;obtain⟨_,v,b,f⟩:=h _ (G7 w D (.deferred none)) d;show LeavesInM Fence.wide 0 P fn _ _ (BY a l).defers .returning w;rw[Dz,show a.defers=mark D from s.df];refine⟨by simp,.inl ⟨D,_,rfl,run_takeDeferred c,?_⟩⟩;rw[K8] at b;exact⟨v,b,f⟩
theorem PQ{D:Nat}{fn:Func}{R:Value→World→Prop}(c:w.heap[D]?=some (.deferred (some [])))(h:∀w',G6 D w w'→LV X0 N (bodyPost P fn (fun e w'=>∃v,e=.returned v∧R v w')) .normal (MY a) l w'):
  LV (X1 D) N (PM P fn R) .normal a l w:=fun s=>by
 have d:St X0 N (MY a) l:=⟨s.sz,rfl,s.lt⟩;obtain⟨_,v,b,f⟩:=h _ (G7 w D (.deferred none)) d;show LeavesInM Fence.wide 0 P fn _ _ (BY a l).defers .returning w;rw[Dz,show a.defers=mark D from s.df];refine⟨by simp,.inl ⟨D,_,rfl,run_takeDeferred c,?_⟩⟩;rw[K8] at b;exact⟨v,b,f⟩
end
theorem PR{α:Type}{b:Bool}{x:Option α}{r:α}(h:cond b none x=some r):b=false∧x=some r:=by
 cases b with
 |true=>cases h
 |false=>exact⟨rfl,h⟩
def Dj(xs:List Int):List Int:=xs.mergeSort fun x y=>decide (x≤y)
theorem I9(xs:List Int):(Dj xs).length=xs.length:=List.length_mergeSort _
theorem Re{w:World}{Z:Nat→Prop}:∀{Be:List (List Value)} {xs:List Int},R2 (Aw .i64) w Z Be xs→Be.flatten=Cq xs
 |[],[],_=>rfl
 |c::Be,x::xs,h=>by
  have a:c=[.int .i64 x]:=h.1;rw[List.flatten_cons,Re h.2,a];rfl
 |[],_::_,h=>h.elim
 |_::_,[],h=>h.elim
theorem Rf{w:World}{Z:Nat→Prop}:∀xs:List Int,R2 (Aw .i64) w Z (xs.map fun x=>[.int .i64 x]) xs
 |[]=>trivial
 |_::xs=>⟨rfl,Rf xs⟩
theorem SA(xs:List Int):(xs.map fun x=>[Value.int .i64 x]).flatten=Cq xs:=by
 induction xs with
 |nil=>rfl
 |cons x xs ih=>rw[List.map_cons,List.flatten_cons,ih];rfl
theorem QF{t:TypeId}{n0:Nat}{w:World}{Z:Nat→Prop}{A:Option Addr}{c:Nat}{xs:List Int}(h:AB (Aw .i64) t n0 w Z A c xs):Ec w n0 t 1 A xs.length c (Cq xs):=by
 obtain⟨Be,a,b⟩:=h;rw[←Re a];exact b
theorem Lt{t:TypeId}{n0:Nat}{w:World}{Z:Nat→Prop}{A:Option Addr}{c:Nat}{xs:List Int}(h:Ec w n0 t 1 A xs.length c (Cq xs)):AB (Aw .i64) t n0 w Z A c xs:=
 ⟨_,Rf xs,by rw[SA];exact h⟩
theorem Wk{α β:Type}{x:Option β}{f:α→Option β}{r:β}(h:Option.elim none x f=some r):x=some r:=h
theorem Wl{α β:Type}{a:α}{x:Option β}{f:α→Option β}{r:β}(h:Option.elim (some a) x f=some r):f a=some r:=h
theorem Kh{F:Nat→Prop}{b:Nat}{L:List (Option Nat)}(h:¬F b∧some b∉L):¬F b∧some b∉L++[none]:=⟨h.1,fun hm=>by
 rcases List.mem_append.1 hm with a|a
 ·exact h.2 a
 ·simp at a⟩
theorem Bm.PS{F:Nat→Prop}{C:List (Option Nat)}{o:Option Nat}{w w':World}(g:Bm (FU F (C++[o]++[none])) w w'):Bm (FU (FU F C) [o]) w w':=g.mono fun k h=>by
 rcases h with h|h
 ·exact .inl (.inl h)
 ·rcases List.mem_append.1 h with a|a
  ·rcases List.mem_append.1 a with b|b
   ·exact .inl (.inr b)
   ·exact .inr b
  ·simp at a
theorem Sl.Tz{α β:Type}{e:Ep α}{ev:β→Value}{F:Nat→Prop}{B L:List (Option Nat)}{Z:Nat→Prop}{n0 r n:Nat}{w:World}{i:List (List Int×β)}{A:Option Addr}{c:Nat}{xs:List α}
  (j:∀w Z w' Z' cs x,e.R w Z cs x→e.R w' Z' cs x)(hm:Cs ev w r n i)(h:Sl e w (ZZ F B Z n0 L) A c xs):Sl e w (ZZ F B Z n0 (some r::L)) A c xs:=by
 obtain⟨k,m,Be,p,d⟩:=h;refine⟨k,m,Be,p.free j,?_⟩;rcases d with d|⟨b,o,q,s,t,f⟩
 ·exact .inl d
 ·cases g:Be.flatten with
  |nil=>exact .inl rfl
  |cons u l=>
   rw[g] at f;refine .inr ⟨b,o,q,s.imp id fun⟨v,y⟩=>⟨v,fun a=>?_⟩,t,f⟩;rcases List.mem_cons.1 a with e|a
   ·cases e;obtain⟨es,aA,z,_⟩:=hm;have:=f 0 u rfl;unfold World.cell? at this;simp[z] at this
   ·exact y a
section
variable{P:Program}{N:Nat}{a:Act}{l:Env}{w:World}
theorem HN{fn:Func}{r1 r2 n:ResultVar}{v v' Ih:Value}{R:Value→World→Prop}(g:fn.results= #[r1,r2,n])(x:Oz P a l w r1 v)(q:Oz P a l w r2 v')(i:Oz P a l w n Ih)(h:R (.tuple #[v,v',Ih]) w):
  LV X0 N (bodyPost P fn (fun e w'=>∃v,e=.returned v∧R v w')) .ret a l w:=fun s=>by
 refine bodyPost_ret (v:=.tuple #[v,v',Ih]) ?_ (by rw[Dz,s.df]) ⟨_,rfl,h⟩;cases r1 with
 |tmp t0=>
  have d:(BY a l).tmps.getD t0 undef=v:=ee s x;simp only[Array.getD_eq_getD_getElem?] at d;cases r2 with
  |tmp t1=>
   have c:(BY a l).tmps.getD t1 undef=v':=ee s q;simp only[Array.getD_eq_getD_getElem?] at c;cases n with
   |tmp t2=>
    have b:(BY a l).tmps.getD t2 undef=Ih:=ee s i;simp only[Array.getD_eq_getD_getElem?] at b;simp[results,g,d,c,b]
   |cell j t2=>
    obtain⟨f,k,m⟩:=i;have b:(BY a l).tmps.getD j undef=.pointer (some f):=ee s k;simp only[Array.getD_eq_getD_getElem?] at b;simp[results,g,d,c,b,asAddr,m]
  |cell t t1=>
   obtain⟨o,u,p⟩:=q;have c:(BY a l).tmps.getD t undef=.pointer (some o):=ee s u;simp only[Array.getD_eq_getD_getElem?] at c;cases n with
   |tmp t2=>
    have b:(BY a l).tmps.getD t2 undef=Ih:=ee s i;simp only[Array.getD_eq_getD_getElem?] at b;simp[results,g,d,c,asAddr,p,b]
   |cell j t2=>
    obtain⟨f,k,m⟩:=i;have b:(BY a l).tmps.getD j undef=.pointer (some f):=ee s k;simp only[Array.getD_eq_getD_getElem?] at b;simp[results,g,d,c,asAddr,p,b,asAddr,m]
 |cell z t0=>
  obtain⟨y,aA,r⟩:=x;have d:(BY a l).tmps.getD z undef=.pointer (some y):=ee s aA;simp only[Array.getD_eq_getD_getElem?] at d;cases r2 with
  |tmp t1=>
   have c:(BY a l).tmps.getD t1 undef=v':=ee s q;simp only[Array.getD_eq_getD_getElem?] at c;cases n with
   |tmp t2=>
    have b:(BY a l).tmps.getD t2 undef=Ih:=ee s i;simp only[Array.getD_eq_getD_getElem?] at b;simp[results,g,d,asAddr,r,c,b]
   |cell j t2=>
    obtain⟨f,k,m⟩:=i;have b:(BY a l).tmps.getD j undef=.pointer (some f):=ee s k;simp only[Array.getD_eq_getD_getElem?] at b;simp[results,g,d,asAddr,r,c,b,asAddr,m]
  |cell t t1=>
   obtain⟨o,u,p⟩:=q;have c:(BY a l).tmps.getD t undef=.pointer (some o):=ee s u;simp only[Array.getD_eq_getD_getElem?] at c;cases n with
   |tmp t2=>
    have b:(BY a l).tmps.getD t2 undef=Ih:=ee s i;simp only[Array.getD_eq_getD_getElem?] at b;simp[results,g,d,asAddr,r,c,asAddr,p,b]
   |cell j t2=>
    obtain⟨f,k,m⟩:=i;have b:(BY a l).tmps.getD j undef=.pointer (some f):=ee s k;simp only[Array.getD_eq_getD_getElem?] at b;simp[results,g,d,asAddr,r,c,asAddr,p,b,asAddr,m]
end
theorem Vd{w w':World}{Z Z' Q:Nat→Prop}(h:Mv w Z w' Z'):Mv w (fun b=>Z b∧Q b) w' (fun b=>Z' b∧Q b):=⟨h.size,fun b a c=>⟨⟨(h.stay b a.1 c).1,a.2⟩,(h.stay b a.1 c).2⟩⟩
def eF(n:Nat):Ep (Bool×List Int):=
 ⟨1,fun w Z cs x=>∃A c,cs=[.slice A x.2.length c]∧Sl (Aw .i64) w (fun b=>Z b∧(x.1=true→n≤b)) A c x.2,fun⟨_,_,h,_⟩=>by rw[h];rfl,fun⟨_,_,h,_⟩=>by rw[h];simp[Value.oneCell'],
  fun⟨A,c,a,d⟩ g=>⟨A,c,a,d.mv (Vd g)⟩⟩
theorem Ve{n:Nat}{w:World}{Z:Nat→Prop}:∀{Be:List (List Value)} {xs:List (List Int)},R2 (Bo (Aw .i64)) w Z Be xs→R2 (eF n) w Z Be (xs.map fun x=>(false,x))
 |[],[],_=>trivial
 |_::_,_::_,⟨⟨A,c,a,b⟩,h⟩=>⟨⟨A,c,a,b.mv (Hr fun _ d _=>⟨d,fun e=>by cases e⟩)⟩,Ve h⟩
 |[],_::_,h=>h.elim
 |_::_,[],h=>h.elim
theorem Vf{n:Nat}{w:World}{Z:Nat→Prop}:∀{Be:List (List Value)} {xs:List (Bool×List Int)},(∀y∈xs,y.1=true)→R2 (eF n) w Z Be xs→R2 (Bo (Aw .i64)) w (fun b=>n≤b) Be (xs.map Prod.snd)
 |[],[],_,_=>trivial
 |_::_,x::_,a,⟨⟨A,c,d,e⟩,h⟩=>⟨⟨A,c,d,e.mv (Hr fun _ f _=>f.2 (a x (List.mem_cons_self ..)))⟩,Vf (fun y g=>a y (List.mem_cons_of_mem _ g)) h⟩
 |[],_::_,_,h=>h.elim
 |_::_,[],_,h=>h.elim
theorem Wm{t n0 n:Nat}{w:World}{Z:Nat→Prop}{A:Option Addr}{c:Nat}{xs:List (List Int)}(h:AB (Bo (Aw .i64)) t n0 w Z A c xs):AB (eF n) t n0 w Z A c (xs.map fun x=>(false,x)):=by
 obtain⟨Be,a,b⟩:=h;exact⟨Be,Ve a,by rw[List.length_map];exact b⟩
theorem Wn{t n0 n:Nat}{w:World}{Z:Nat→Prop}{A:Option Addr}{c:Nat}{xs:List (Bool×List Int)}(a:∀y∈xs,y.1=true)(h:AB (eF n) t n0 w Z A c xs):AB (Bo (Aw .i64)) t n0 w (fun b=>n≤b) A c (xs.map Prod.snd):=by
 obtain⟨Be,d,e⟩:=h;exact⟨Be,Vf a d,by rw[List.length_map];exact e⟩
theorem Vg{a:List (Bool×List Int)}{k:Nat}{x:List Int}(h:(a.map Prod.snd)[k]?=some x):∃b,a[k]?=some (b,x):=by
 rw[List.getElem?_map] at h;cases c:a[k]? with
 |none=>rw[c] at h;cases h
 |some y=>rw[c] at h;cases h;exact⟨y.1,rfl⟩
end Go.Proofs.YtkljfdkmjdjpfaaGreat
end
section
namespace Go.Proofs.YtkljfdkmjdjpfaaGreat
open Go.RowKit
theorem Hl{b:Nat}{t:TypeId}:∀(l:List Value) (o:Nat) {w:World} {cs:Array Value},Bk w b t cs→Bk (w.setCells b o l) b t (setCells cs o l)∧w.grownBy (w.setCells b o l) (some b)
 |[],o,w,cs,h=>⟨h,World.grownBy.refl w _⟩
 |v::l,o,w,cs,h=>by
  have c:Bk (w.setCell ⟨b,o,none⟩ v) b t (cs.setIfInBounds o v):=by
   unfold Bk at h⊢;simp[World.setCell,Array.getElem?_modify,h]
  have g1:G6 b w (w.setCell ⟨b,o,none⟩ v):=⟨rfl,rfl,rfl,by simp,fun k _ a=>Below.heap_setCell w ⟨b,o,none⟩ v k (by simpa using a)⟩;have ih:=Hl l (o+1) c;exact⟨ih.1,World.grownBy.trans g1 ih.2⟩
def CM (xs:List Int) (i:Int) (x:Int):List Int:=xs.take i.toNat++x::xs.drop i.toNat
theorem JF(xs:List Int)(i:Int)(x:Int):(CM xs i x).length=xs.length+1:=by
 unfold CM;simp;omega
theorem SC{w w':World}{b:Nat}{o:Obj}(a:b=w.heap.size)(g:World.grownBy (w.alloc o) w' (some b)):Ext w w':=
 ⟨g.os,g.tape,g.output,by have:=g.size;simp at this;omega,fun k c _=>by
  have d:=g.block k (by simp;omega) (by rw[a];intro e;cases e;omega);rw[d];exact(World.grownBy_alloc w o none).block k c (by simp)⟩
theorem IJ{w:World}{base t g c:Nat}{cur:Array Value}{l:List Value}(a:base≤g)(d:Bk w g t cur)(e:l.length≤c)(f:c≤maxLen)(i:cur.size=c)(h:∀j,j<l.length→cur[j]?=l[j]?):Ec w base t 1 (some ⟨g,0,none⟩) l.length c l:=by
 refine⟨by simp,.inr ⟨g,c,cur,rfl,a,d,e,f,by simp[i],?_⟩⟩;rw[Nat.mul_one];apply List.ext_getElem?;intro j;rw[List.getElem?_take];split
 ·rename_i b
  rw[←h j b];simp
 ·rename_i b
  rw[List.getElem?_eq_none (by omega)]
theorem Vh{b:Bool}(h:b=true→False):b=false:=by cases b<;>simp_all
theorem Ki{b:Bool}(h:b=false)(k:b=true):False:=by rw[h] at k;cases k
section
variable{F F':Nat→Prop}{B:List (Option Nat)}{w0 w w' Bp:World}{Z:Nat→Prop}{L M:List (Option Nat)}
theorem Kj(h:Ext w w'){r:Option Nat}(g:w'.grownBy Bp r)(b:∀k,r=some k→w.heap.size≤k):Ext w Bp:=
 ⟨g.os.trans h.os,g.tape.trans h.tape,g.output.trans h.output,Nat.le_trans h.size g.size,fun k a _=>(g.block k (Nat.lt_of_lt_of_le a h.size) (fun e=>by have:=b k e.symm;omega)).trans (h.block k a (by simp))⟩
theorem Ja{D:Nat→Prop}(h:Bm D w w'){r:Option Nat}(g:w'.grownBy Bp r)(d:∀k,r=some k→D k∨w.heap.size≤k):Bm D w Bp:=
 ⟨g.os.trans h.os,g.tape.trans h.tape,g.output.trans h.output,Nat.le_trans h.size g.size,fun k a b=>(g.block k (Nat.lt_of_lt_of_le a h.size) (fun e=>by
  rcases d k e.symm with c|c
  ·exact b c
  ·omega)).trans (h.block k a b)⟩
theorem HE{x y:Option Nat}{n:Nat}(a:∀k,x=some k→n≤k)(b:n≤w'.heap.size)(c:∀k,y=some k→(x=some k∨w'.heap.size≤k)∧k<Bp.heap.size):∀k,y=some k→n≤k:=fun k d=>
 (c k d).1.elim (a k) (fun h=>Nat.le_trans b h)
theorem SD{x y a:Option Nat}{n:Nat}(b:∀k,x=some k→a=some k∨n≤k)(c:n≤w'.heap.size)(d:∀k,y=some k→(x=some k∨w'.heap.size≤k)∧k<Bp.heap.size):∀k,y=some k→a=some k∨n≤k:=fun k e=>
 (d k e).1.elim (b k) (fun h=>.inr (Nat.le_trans c h))
theorem My{b:Nat}{t:TypeId}{cs:Array Value}(nb:JA w' Bp b t cs):∀k,ob (some ⟨b,0,none⟩)=some k→((none:Option Nat)=some k∨w'.heap.size≤k)∧k<Bp.heap.size:=fun k e=>by
 cases e;exact⟨.inr (Nat.le_of_eq nb.E4.symm),nb.bk.lt⟩
theorem Vi{α:Type}{e:Ep α}{t:TypeId}{A:Option Addr}{c:Nat}{xs:List α}{Z:Nat→Prop}(h:AB e t w'.heap.size Bp Z A c xs):∀k,ob A=some k→((none:Option Nat)=some k∨w'.heap.size≤k)∧k<Bp.heap.size:=fun k e=>⟨.inr (h.ge k e),h.KK k e⟩
end
def eT:Ep (Bool×(Option Addr×Nat)×List Int):=
 ⟨1,fun w Z cs x=>∃A c,cs=[.slice A x.2.2.length c]∧(x.1=true→A=x.2.1.1∧c=x.2.1.2)∧(x.1=false→Sl (Aw .i64) w Z A c x.2.2),fun⟨_,_,h,_⟩=>by rw[h];rfl,fun⟨_,_,h,_⟩=>by rw[h];simp[Value.oneCell'],
  fun⟨A,c,a,b,d⟩ g=>⟨A,c,a,b,fun e=>(d e).mv g⟩⟩
theorem Vj{w:World}{Z:Nat→Prop}:∀{Be:List (List Value)} {xs:List (List Int)},R2 (Bo (Aw .i64)) w Z Be xs→R2 eT w Z Be (xs.map fun x=>(false,(none,0),x))
 |[],[],_=>trivial
 |_::_,_::_,⟨⟨A,c,a,b⟩,h⟩=>⟨⟨A,c,a,fun e=>(by cases e),fun _=>b⟩,Vj h⟩
 |[],_::_,h=>h.elim
 |_::_,[],h=>h.elim
theorem Vk{w:World}{Z:Nat→Prop}:∀{Be:List (List Value)} {xs:List (Bool×(Option Addr×Nat)×List Int)},(∀y∈xs,y.1=true→Sl (Aw .i64) w Z y.2.1.1 y.2.1.2 y.2.2)→R2 eT w Z Be xs→R2 (Bo (Aw .i64)) w Z Be (xs.map fun y=>y.2.2)
  |[],[],_,_=>trivial
  |_::_,x::_,b,⟨⟨A,c,d,e,f⟩,h⟩=>⟨by
      cases a:x.1 with
      |true=>
        obtain⟨rfl,rfl⟩:=e a;exact⟨_,_,d,b x (List.mem_cons_self ..) a⟩
      |false=>exact⟨A,c,d,f a⟩,Vk (fun y g=>b y (List.mem_cons_of_mem _ g)) h⟩
  |[],_::_,_,h=>h.elim
  |_::_,[],_,h=>h.elim
theorem Wo{t n0:Nat}{w:World}{Z:Nat→Prop}{A:Option Addr}{c:Nat}{xs:List (List Int)}(h:AB (Bo (Aw .i64)) t n0 w Z A c xs):AB eT t n0 w Z A c (xs.map fun x=>(false,(none,0),x)):=by
 obtain⟨Be,a,b⟩:=h;exact⟨Be,Vj a,by rw[List.length_map];exact b⟩
theorem Wp{t n0:Nat}{w:World}{Z:Nat→Prop}{A:Option Addr}{c:Nat}{xs:List (Bool×(Option Addr×Nat)×List Int)}(a:∀y∈xs,y.1=true→Sl (Aw .i64) w Z y.2.1.1 y.2.1.2 y.2.2)(h:AB eT t n0 w Z A c xs):AB (Bo (Aw .i64)) t n0 w Z A c (xs.map fun y=>y.2.2):=by
 obtain⟨Be,b,d⟩:=h;exact⟨Be,Vk a b,by rw[List.length_map];exact d⟩
def JG (N i:Int):Nat→Int→List (List Int)→Option (List (List Int))
  |0,_,_=>none
  |a+1,k,s=>cond (decide (k<N)) (cond (k !=i) ((idx s (0:Int)).bind fun x=>(Gi (((x.length+([k]:List Int).length:Nat):Int)≤140737488355328/8)).bind fun _=>(idx s (0:Int)).bind fun _=>(i64 (k+1)).bind fun _=>JG N i a (k+1) (s.set 0 (x++[k])))
      ((i64 (k+1)).bind fun _=>JG N i a (k+1) s)) (some s)
theorem qz{X:Ctx}{N:Nat}{a:Act}{l:Env}(st:St X N a l):(BY a l).tmps.size=N:=(Iv _ _).trans st.sz
theorem qd{X:Ctx}{N:Nat}{a:Act}{l:Env}(st:St X N a l):(BY a l).defers=X.ds:=(Dz _ _).trans st.df
theorem sp{X:Ctx}{N:Nat}{a:Act}{l:Env}(st:St X N a l)(k:Nat){v:Value}(h:lk (sl a k) l k=v):sl (BY a l) k=v:=(Ii st k).trans h
theorem Hp.nb{F:Nat→Prop}{B L:List (Option Nat)}{w0 w w':World}{b:Nat}{t:TypeId}{cs:Array Value}(h:Hp F B w0 L w)(n:JA w w' b t cs):Hp F B w0 (some b::L) w':=h.new n.gr (Nat.le_of_eq n.E4.symm) (Nat.lt_of_lt_of_eq (Nat.lt_succ_self _) n.sz.symm)
theorem Hp.BL{F:Nat→Prop}{B L:List (Option Nat)}{w0 w w':World}{b:Nat}{t:TypeId}{cs:Array Value}(h:Hp F B w0 L w)(n:JA w w' b t cs):w0.heap.size≤b:=by rw[n.E4];exact h.sz
theorem Az{F:Nat→Prop}{B L:List (Option Nat)}{Z:Nat→Prop}{w w':World}{n0 b:Nat}{t:TypeId}{cs:Array Value}(n:JA w w' b t cs):Mv w (ZZ F B Z n0 L) w' (ZZ F B Z n0 (some b::L)):=DL n.gr (Nat.le_of_eq n.E4.symm)
theorem X2{b c:Sort _}{p:b→c→Prop}{C:Prop}(h:∃a x1,p a x1)(k:∀a x1,p a x1→C):C:=h.elim fun a h=>h.elim fun x1 h=>k a x1 h
theorem X4{c d e f:Sort _}{p:c→d→e→f→Prop}{C:Prop}(h:∃a x1 x2 b,p a x1 x2 b)(k:∀a x1 x2 b,p a x1 x2 b→C):C:=h.elim fun a h=>h.elim fun x1 h=>h.elim fun x2 h=>h.elim fun b h=>k a x1 x2 b h
theorem Y2{a0 a1 r C:Prop}(h:a0∧a1∧r)(k:a0→a1→r→C):C:=h.elim fun a h=>h.elim fun x1 h=>k a x1 h
theorem Y4{a0 a1 a2 a3 r C:Prop}(h:a0∧a1∧a2∧a3∧r)(k:a0→a1→a2→a3→r→C):C:=h.elim fun a h=>h.elim fun x1 h=>h.elim fun x2 h=>h.elim fun b h=>k a x1 x2 b h
theorem Y8{a0 a1 a2 a3 a4 a5 a a7 r C:Prop}(h:a0∧a1∧a2∧a3∧a4∧a5∧a∧a7∧r)(k:a0→a1→a2→a3→a4→a5→a→a7→r→C):C:=h.elim fun b h=>h.elim fun x1 h=>h.elim fun x2 h=>h.elim fun c h=>h.elim fun d h=>h.elim fun e h=>h.elim fun f h=>h.elim fun g h=>k b x1 x2 c d e f g h
end Go.Proofs.YtkljfdkmjdjpfaaGreat
end
section
set_option linter.unusedVariables false
set_option linter.unusedSimpArgs false
namespace Go.Proofs.YtkljfdkmjdjpfaaGreat
open Go.RowKit Go.WideShapes
structure CN where
 Lo:Int
 Hi:Int
structure Ag where
 On:Int
 AG:Int
 Ar:Bool
structure A5 where
 As:Int
 AJ:Int
 Ar:Int
 BV:Int
 Ce:Int
structure Ao where
 Ak:Int
 Aj:Int
 Ap:Int
 Ax:Int
 Ac:List A5
structure AU where
 Comes:List Int
 Ap:List Bool
structure CD where
 BJ:Int
 B6:Int
 Cm:Int
 Cn:Int
 A6:List A5
 Dk:List Bool
 known:List (List Int×Ag)
structure H7 where
 Cu:Int
 day:Int
structure BS where
 a0:Int
 a1:Int
 a2:Int
 a3:Int
def BS.set(x:BS)(k:Nat)(v:Int):BS:=⟨if k=0 then v else x.a0,if k=1 then v else x.a1,if k=2 then v else x.a2,if k=3 then v else x.a3⟩
def BS.l(x:BS):List Int:=[x.a0,x.a1,x.a2,x.a3]
theorem BS.W5(x:BS)(k:Nat)(v:Int)(h:k<4): #[.int .i64 (x.set k v).a0,.int .i64 (x.set k v).a1,.int .i64 (x.set k v).a2,.int .i64 (x.set k v).a3]=setCells #[.int .i64 x.a0,.int .i64 x.a1,.int .i64 x.a2,.int .i64 x.a3] k [.int .i64 v]:=by
 match k,h with
 |0,_=>rfl
 |1,_=>rfl
 |2,_=>rfl
 |3,_=>rfl
 |k+4,h=>omega
def BA:Ep Ag:=⟨3,fun _ _ cs x=>cs=[.int .i64 x.On,.int .i64 x.AG,.bool x.Ar],fun h=>by rw[h];rfl,fun h=>by rw[h];simp[Value.oneCell'],fun h _=>h⟩
def AK:Ep A5:=⟨5,fun _ _ cs x=>cs=[.int .i64 x.As,.int .i64 x.AJ,.int .i64 x.Ar,.int .i64 x.BV,.int .i64 x.Ce],fun h=>by rw[h];rfl,fun h=>by rw[h];simp[Value.oneCell'],fun h _=>h⟩
def Jb:Ep Ao:=⟨5,fun w Z cs x=>∃a b,cs=[.int .i64 x.Ak,.int .i64 x.Aj,.int .i64 x.Ap,.int .i64 x.Ax,.slice a x.Ac.length b]∧Sl AK w Z a b x.Ac,fun⟨_,_,h,_⟩=>by rw[h];rfl,fun⟨_,_,h,_⟩=>by rw[h];simp[Value.oneCell'],fun⟨a,b,h,c⟩ g=>⟨a,b,h,c.mv g⟩⟩
def CH:Ep AU:=⟨2,fun w Z cs x=>∃a b c d,cs=[.slice a x.Comes.length b,.slice c x.Ap.length d]∧Sl (Aw .i64) w Z a b x.Comes∧Sl By w Z c d x.Ap,fun⟨_,_,_,_,h,_⟩=>by rw[h];rfl,fun⟨_,_,_,_,h,_⟩=>by rw[h];simp[Value.oneCell'],fun⟨a,b,c,d,h,h0,e⟩ g=>⟨a,b,c,d,h,h0.mv g,e.mv g⟩⟩
def PT:Ep CN:=⟨2,fun _ _ cs x=>cs=[.int .i64 x.Lo,.int .i64 x.Hi],fun h=>by rw[h];rfl,fun h=>by rw[h];simp[Value.oneCell'],fun h _=>h⟩
def Wq:Ep BS:=⟨4,fun _ _ cs x=>cs=[.int .i64 x.a0,.int .i64 x.a1,.int .i64 x.a2,.int .i64 x.a3],fun h=>by rw[h];rfl,fun h=>by rw[h];simp[Value.oneCell'],fun h _=>h⟩
def Mz(w:World)(Z:Nat→Prop)(q:Nat)(o:Option Nat):Option CD→Prop
 |none=>Bk w q 162 #[.pointer none]∧o=none
 |some x=>∃(b r:Nat) (a:Option Addr) (c:Nat) (d:Option Addr) (e:Nat),Bk w q 162 #[pt b 0]∧Rz w Z (some ⟨b,0,none⟩) [I x.BJ,I x.B6,I x.Cm,I x.Cn,.slice a x.A6.length c,.slice d x.Dk.length e,.map (some r)]∧Sl AK w Z a c x.A6∧Sl By w Z d e x.Dk∧Cs (fun x:Ag=>.agg #[I x.On,I x.AG,.bool x.Ar]) w r 2 x.known∧o=some r
theorem Mz.keep{w w':World}{Z Z':Nat→Prop}{q:Nat}{o:Option Nat}:∀{x:Option CD},Mz w Z q o x→Mv w Z w' Z'→w'.heap[q]?=w.heap[q]?→(∀k,o=some k→w'.heap[k]?=w.heap[k]?)→Mz w' Z' q o x
 |none,h,_,a,_=>⟨h.1.Gq a,h.2⟩
 |some x,⟨b,r,e,f,g,i,j,l,h0,m,hm,d⟩,c,a,n=>⟨b,r,e,f,g,i,j.Gq a,l.mv c,h0.mv c,m.mv c,hm.Gq (n r d),d⟩
end Go.Proofs.YtkljfdkmjdjpfaaGreat
end
section
set_option linter.unusedVariables false
set_option linter.unusedSimpArgs false
namespace Go.Proofs.YtkljfdkmjdjpfaaGreat
open Go.RowKit Go.WideShapes
def EI(d:Nat)(a:Int)(b:Int)(c:Int):Option (Bool):=
 cond (decide (b≤a)) (some (decide (a≤c))) (some (false))
def FA(b:Nat)(a:CN):Option (Int):=
 (i64 (a.Hi-a.Lo)).bind fun _=>(i64 ((a.Hi-a.Lo)+1)).bind fun _=>some ((a.Hi-a.Lo)+1)
def Hs(c:Nat)(a:CN)(b:Int):Option (Bool):=
 cond (decide ((0:Int)≤a.Lo)) (cond (decide (a.Lo≤a.Hi)) (some (decide (a.Hi≤b))) (some (false))) (some (false))
def He(a:Nat)(b:Int):Option (Bool):=
 (EI a b 1 5).bind fun r1=>some (r1)
def DO(d:Nat)(a:Int)(b:Int)(c:Int):Option (Bool):=
 cond (decide (b≤a)) (some (decide (a≤c))) (some (false))
def EB(b:Nat)(a:CN):Option (Int):=
 (i64 (a.Hi-a.Lo)).bind fun _=>(i64 ((a.Hi-a.Lo)+1)).bind fun _=>some ((a.Hi-a.Lo)+1)
def C0(c:Nat)(b:Int)(a:Int):Option (Bool):=
 (Mq .u64 a).bind fun _=>(OB b a).bind fun _=>(rem (FQ b a) (2:Int)).bind fun _=>some (((FQ b a)%2)==1)
def Fb(d:Nat)(a:Int)(b:Int)(c:Bool):Option (Ag):=
 some ((⟨a,b,c⟩:Ag))
def Gc(b:Nat)(a:Ao)(c:Int):Option (Bool):=
 (i64 ((a.Ac.length:Int)-1)).bind fun _=>(EI b c 0 ((a.Ac.length:Int)-1)).bind fun d=>some (d)
def Dm(c:Nat)(b:A5)(a:Ag):Option (Bool):=
 cond (a.Ar) (some (decide (a.AG≤b.Ce))) (some (false))
def EC(a:Nat)(b:A5)(c:Ag):Option (Bool):=
 (Dm a b c).bind fun d=>some (!d)
end Go.Proofs.YtkljfdkmjdjpfaaGreat
end
section
set_option linter.unusedVariables false
set_option linter.unusedSimpArgs false
namespace Go.Proofs.YtkljfdkmjdjpfaaGreat
open Go.RowKit Go.WideShapes
def Cy(e:Nat)(c:Ao)(f:Int)(b:Int):Nat→Bool→Int→Option (Bool)
 |0,_,_=>none
 |g+1,d,a=>(i64 (b+c.Ax)).bind fun _=>cond (decide (a≤(b+c.Ax))) (cond (d) (cond (decide (a≤c.Ak)) ((C0 e f a).bind fun h=>(i64 (a+1)).bind fun _=>Cy e c f b g h (a+1)) ((i64 (a+1)).bind fun _=>Cy e c f b g false (a+1))) ((i64 (a+1)).bind fun _=>Cy e c f b g false (a+1))) (some (d))
def Cv(e:Nat)(d:Ao)(f:Int)(b:Int):Nat→Bool→Int→Option (Bool)
 |0,_,_=>none
 |g+1,c,a=>(i64 (b+d.Ax)).bind fun _=>cond (decide (a≤(b+d.Ax))) (cond (c) (cond (decide (a≤d.Ak)) ((C0 e f a).bind fun h=>(i64 (a+1)).bind fun _=>Cv e d f b g h (a+1)) ((i64 (a+1)).bind fun _=>Cv e d f b g false (a+1))) ((i64 (a+1)).bind fun _=>Cv e d f b g false (a+1))) (some (c))
def CO(c:Nat)(d:Ao)(e:Int):Nat→Int→Int→Option ((Bool)⊕(Int))
 |0,_,_=>none
 |f+1,b,a=>cond (decide (a≤d.Ak)) ((C0 c e a).bind fun g=>cond (g) ((i64 (b+1)).bind fun _=>(Cy c d e a c true a).bind fun h=>cond (h) (some (.inl false)) ((i64 (a+1)).bind fun _=>CO c d e f (b+1) (a+1))) ((Cv c d e a c true a).bind fun z20=>cond (z20) (some (.inl false)) ((i64 (a+1)).bind fun _=>CO c d e f b (a+1)))) (some (.inr b))
def EN(b:Nat)(c:Ao)(d:Int):Option (Bool):=
 (CO b c d b (0:Int) (0:Int)).bind fun z=>Sum.elim (fun a=>some (a)) (fun a=>some (decide (a≤c.Ap))) z
def CU(d:Nat)(c:Ao):Nat→(List Int)→Int→Option ((List Int))
 |0,_,_=>none
 |e+1,b,a=>(i64 (c.Ak+1)).bind fun _=>(Mq .u64 (c.Ak+1)).bind fun _=>(JE (1:Int) (c.Ak+1)).bind fun _=>cond (decide (a<(FG (1:Int) (c.Ak+1)))) ((EN d c a).bind fun f=>cond (f) ((Gi (((b.length+[a].length:Nat):Int)≤140737488355328/8)).bind fun _=>(i64 (a+1)).bind fun _=>CU d c e (b++[a]) (a+1)) ((i64 (a+1)).bind fun _=>CU d c e b (a+1))) (some (b))
def Er(a:Nat)(b:Ao):Option ((List Int)):=
 (CU a b a ([]:List Int) (0:Int)).bind fun z2=>some (z2)
def D0(d:Nat)(c:Ao):Nat→Int→Int→Option (Int)
 |0,_,_=>none
 |g+1,b,a=>cond (decide (a<(c.Ac.length:Int))) ((idx c.Ac a).bind fun e=>(EB d (⟨e.As,e.AJ⟩:CN)).bind fun f=>(i64 (b*f)).bind fun _=>(i64 (a+1)).bind fun _=>D0 d c g (min (3000:Int) (b*f)) (a+1)) (some (b))
def DM(a:Nat)(b:Ao):Option (Int):=
 (Er a b).bind fun r2=>(D0 a b a (r2.length:Int) (0:Int)).bind fun z4=>some (z4)
def DA(d:Nat)(c:Ao):Nat→Int→Option ((Int)⊕(Unit))
 |0,_=>none
 |h+1,a=>cond (decide (a<(c.Ac.length:Int))) ((idx c.Ac a).bind fun b=>cond (decide (b.As<0)) (some (.inl (1:Int))) (cond (decide (b.AJ<b.As)) (some (.inl (1:Int))) (cond (decide (c.Ak<b.AJ)) (some (.inl (1:Int))) ((DO d b.Ar 1 5).bind fun e=>cond (!e) (some (.inl (1:Int))) ((DO d b.BV 1 5).bind fun f=>cond (!f) (some (.inl (1:Int))) ((DO d b.Ce 0 c.Ak).bind fun g=>cond (!g) (some (.inl (1:Int))) ((i64 (a+1)).bind fun _=>DA d c h (a+1)))))))) (some (.inr ()))
def ER(b:Nat)(a:Ao):Option (Int):=
 cond (decide ((9:Int)<a.Ak)) (some (3)) (cond (decide ((2:Int)<a.Aj)) (some (3)) (cond (decide ((4:Int)<(a.Ac.length:Int))) (some (3)) (cond (decide (a.Ak<0)) (some (1)) (cond (decide (a.Aj<1)) (some (1)) ((i64 (a.Ak+1)).bind fun _=>(DO b a.Ap 0 (a.Ak+1)).bind fun f=>cond (!f) (some (1)) ((i64 (a.Ak+1)).bind fun _=>(DO b a.Ax 0 (a.Ak+1)).bind fun d=>cond (!d) (some (1)) ((DA b a b (0:Int)).bind fun z=>Sum.elim (fun c=>some (c)) (fun c=>(DM b a).bind fun e=>cond (decide ((1000:Int)<e)) (some (3)) (some (0))) z)))))))
def Fu(b:Nat)(c:Ao)(a:A5):Option (Bool):=
 (Hs b (⟨a.As,a.AJ⟩:CN) c.Ak).bind fun e=>cond (e) ((He b a.Ar).bind fun f=>cond (f) ((He b a.BV).bind fun g=>cond (g) ((EI b a.Ce 0 c.Ak).bind fun d=>some (d)) (some (false))) (some (false))) (some (false))
def D1(b:List Int)(c:List Int):Nat→Int→Option ((Bool)⊕(Unit))
 |0,_=>none
 |d+1,a=>cond (decide (a<(b.length:Int))) ((idx b a).bind fun e=>(idx c a).bind fun f=>cond (e !=f) (some (.inl false)) ((i64 (a+1)).bind fun _=>D1 b c d (a+1))) (some (.inr ()))
def Fc(d:Nat)(b:List Int)(c:List Int):Option (Bool):=
 cond ((b.length:Int) !=(c.length:Int)) (some (false)) ((D1 b c d (0:Int)).bind fun z=>Sum.elim (fun a=>some (a)) (fun a=>some (true)) z)
def CP(b:Nat)(a:Int):Option (Ao):=
 some ((⟨5,1,a,1,[(⟨0,0,2,2,2⟩:A5),(⟨1,1,2,1,5⟩:A5)]⟩:Ao))
def GV(b:Nat)(a:Int):Option (AU):=
 (JQ (6:Int) 1).bind fun _=>(idx (List.replicate (6:Int).toNat false) a).bind fun c=>some ((⟨[0,1],(List.replicate (6:Int).toNat false).set a.toNat true⟩:AU))
def GW(f:Nat)(a:List Ag)(b:Ag)(c:Ag):Option (Bool):=
 cond ((a.length:Int)==2) ((idx a (0:Int)).bind fun d=>cond (H4 [.inl d.On,.inl d.AG,.inr d.Ar] [.inl b.On,.inl b.AG,.inr b.Ar]) ((idx a (1:Int)).bind fun e=>some (H4 [.inl e.On,.inl e.AG,.inr e.Ar] [.inl c.On,.inl c.AG,.inr c.Ar])) (some (false))) (some (false))
def G9(b:Nat)(a:CN):Option (CN):=
 some (a)
def D2(f:Nat)(e:Ao):Nat→Int→(List A5)→Option ((List A5))
 |0,_,_=>none
 |g+1,b,a=>cond (decide (b<(e.Ac.length:Int))) ((idx e.Ac b).bind fun c=>(G9 f (⟨c.As,c.AJ⟩:CN)).bind fun d=>(Gi (((a.length+[(⟨d.Lo,d.Hi,c.Ar,c.BV,c.Ce⟩:A5)].length:Nat):Int)≤140737488355328/40)).bind fun _=>(i64 (b+1)).bind fun _=>D2 f e g (b+1) (a++[(⟨d.Lo,d.Hi,c.Ar,c.BV,c.Ce⟩:A5)])) (some (a))
def ED(b:Nat)(a:Ao):Option (Ao):=
 (D2 b a b (0:Int) ([]:List A5)).bind fun z5=>some ((⟨a.Ak,a.Aj,a.Ap,a.Ax,z5⟩:Ao))
def FL(a:Nat)(b:Ao):Option (Int):=
 (ER a b).bind fun r2=>some (r2)
def F4(b:Nat)(a:Ao):Option (Bool):=
 cond (decide ((a.Ac.length:Int)≤6)) ((ER b a).bind fun c=>cond (c !=0) (some (true)) ((DM b a).bind fun d=>some (decide (d≤60)))) (some (false))
end Go.Proofs.YtkljfdkmjdjpfaaGreat
end
section
set_option linter.unusedVariables false
set_option linter.unusedSimpArgs false
namespace Go.Proofs.YtkljfdkmjdjpfaaGreat
open Go.RowKit Go.WideShapes
def E8{a:Type}(e:Nat)(b:a→A5→Option (Bool×a))(c:A5)(d:a):Option (Bool×a):=
 (b d c).bind fun r2=>some ((!r2.1,r2.2))
def Dg{c:Type}(d:c→A5→Option (Bool×c))(e:List A5):Nat→Int→c→Option ((Int×c)⊕(c))
 |0,_,_=>none
 |g+1,a,b=>cond (decide (a<(e.length:Int))) ((idx e a).bind fun h=>(d b h).bind fun f=>cond (f.1) (some (.inl (a,f.2))) ((i64 (a+1)).bind fun _=>Dg d e g (a+1) f.2)) (some (.inr b))
def F1{b:Type}(d:Nat)(c:b→A5→Option (Bool×b))(e:List A5)(f:b):Option (Int×b):=
 (Dg c e d (0:Int) f).bind fun z=>Sum.elim (fun a=>some ((a.1,a.2))) (fun a=>some (((-1),a))) z
def Fl{a:Type}(c:Nat)(b:a→A5→Option (Bool×a))(d:List A5)(e:a):Option (Bool×a):=
 (F1 c b d e).bind fun r1=>some ((decide ((0:Int)≤r1.1),r1.2))
def G1{a:Type}(b:Nat)(c:a→A5→Option (Bool×a))(d:List A5)(e:a):Option (Bool×a):=
 (Fl b (fun(st:a) (x:A5)=>(E8 b c x st).bind fun r=>some (r.1,r.2)) d e).bind fun r2=>some ((!r2.1,r2.2))
def EO{a:Type}(e:Nat)(b:a→Bool→Option (Bool×a))(c:Bool)(d:a):Option (Bool×a):=
 (b d c).bind fun r1=>some ((!r1.1,r1.2))
def C5{c:Type}(d:c→Bool→Option (Bool×c))(e:List Bool):Nat→Int→c→Option ((Int×c)⊕(c))
 |0,_,_=>none
 |g+1,a,b=>cond (decide (a<(e.length:Int))) ((idx e a).bind fun h=>(d b h).bind fun f=>cond (f.1) (some (.inl (a,f.2))) ((i64 (a+1)).bind fun _=>C5 d e g (a+1) f.2)) (some (.inr b))
def FI{b:Type}(d:Nat)(c:b→Bool→Option (Bool×b))(e:List Bool)(f:b):Option (Int×b):=
 (C5 c e d (0:Int) f).bind fun z=>Sum.elim (fun a=>some ((a.1,a.2))) (fun a=>some (((-1),a))) z
def E0{a:Type}(c:Nat)(b:a→Bool→Option (Bool×a))(d:List Bool)(e:a):Option (Bool×a):=
 (FI c b d e).bind fun r1=>some ((decide ((0:Int)≤r1.1),r1.2))
def GG{a:Type}(b:Nat)(c:a→Bool→Option (Bool×a))(d:List Bool)(e:a):Option (Bool×a):=
 (E0 b (fun(st:a) (x:Bool)=>(EO b c x st).bind fun r=>some (r.1,r.2)) d e).bind fun r2=>some ((!r2.1,r2.2))
def D4(e:Nat)(d:Bool)(b:Int)(a:Int)(c:Ao):Option (Bool×Int×Int):=
 cond (!d) (some ((true,0,a))) ((i64 (a+1)).bind fun _=>(i64 (b+1)).bind fun _=>cond (decide ((a+1)≤c.Ap)) (some ((decide ((b+1)≤c.Ax),b+1,a+1))) (some ((false,b+1,a+1))))
def ES(a:Nat)(b:Ao)(c:List Bool):Option (Bool):=
 (GG a (fun(st:Int×Int) (x:Bool)=>(D4 a x st.1 st.2 b).bind fun r=>some (r.1,(r.2.1,r.2.2))) c (0,0)).bind fun d=>some (d.1)
end Go.Proofs.YtkljfdkmjdjpfaaGreat
end
section
set_option linter.unusedVariables false
set_option linter.unusedSimpArgs false
namespace Go.Proofs.YtkljfdkmjdjpfaaGreat
open Go.RowKit Go.WideShapes
def ET(c:List Int):Nat→Int→Int→Option (Int)
 |0,_,_=>none
 |d+1,b,a=>cond (decide (a<(c.length:Int))) ((idx c a).bind fun e=>(i64 (a+1)).bind fun _=>ET c d (min b e) (a+1)) (some (b))
def Ha(b:Nat)(a:List Int):Option (Int):=
 cond (decide ((a.length:Int)<1)) (none) ((idx a (0:Int)).bind fun x2=>(ET a b x2 (1:Int)).bind fun z3=>some (z3))
def G2(a:Nat)(b:List Int):Option (Int):=
 (Ha a b).bind fun r1=>some (r1)
def CV(b:Int)(d:List Bool):Nat→Int→(List Bool)→Option ((List Bool))
 |0,_,_=>none
 |e+1,a,c=>cond (decide (a<(d.length:Int))) ((OB b a).bind fun _=>(rem (FQ b a) (2:Int)).bind fun _=>(idx c a).bind fun f=>(i64 (a+1)).bind fun _=>CV b d e (a+1) (c.set a.toNat (((FQ b a)%2)==1))) (some (c))
def CX{c:Type}(d:c→(List Bool)→Option (Bool×c))(g:Nat)(h:Ao):Nat→Int→(List Bool)→c→Option ((c)⊕(c))
 |0,_,_,_=>none
 |j+1,a,e,b=>cond (decide (a<(FG (1:Int) ((List.replicate (h.Ak+1).toNat false).length:Int)))) ((CV a e g (0:Int) e).bind fun i=>(ES g h i).bind fun k=>cond (k) ((d b i).bind fun f=>cond (!f.1) (some (.inl f.2)) ((i64 (a+1)).bind fun _=>CX d g h j (a+1) i f.2)) ((i64 (a+1)).bind fun _=>CX d g h j (a+1) i b)) (some (.inr b))
def DP{c:Type}(d:Nat)(e:c→(List Bool)→Option (Bool×c))(a:Ao)(f:c):Option (c):=
 (i64 (a.Ak+1)).bind fun _=>(JQ (a.Ak+1) 1).bind fun _=>(JE (1:Int) ((List.replicate (a.Ak+1).toNat false).length:Int)).bind fun _=>(CX e d a d (0:Int) (List.replicate (a.Ak+1).toNat false) f).bind fun z=>Sum.elim (fun b=>some (b)) (fun b=>some (b)) z
end Go.Proofs.YtkljfdkmjdjpfaaGreat
end
section
set_option linter.unusedVariables false
set_option linter.unusedSimpArgs false
namespace Go.Proofs.YtkljfdkmjdjpfaaGreat
open Go.RowKit Go.WideShapes
def Fv(a:Int)(b:(List Bool)):Option (Bool×Int):=
 (i64 (a+1)).bind fun _=>some (true,a+1)
def Ek(e:Nat)(f:Ao):Nat→Int→Int→Option (Int)
 |0,_,_=>none
 |h+1,b,a=>cond (decide (b<(f.Ac.length:Int))) ((idx f.Ac b).bind fun c=>(FA e (⟨c.As,c.AJ⟩:CN)).bind fun d=>(i64 (a*d)).bind fun _=>(G2 e [a*d,1001]).bind fun g=>(i64 (b+1)).bind fun _=>Ek e f h (b+1) g) (some (a))
def DQ(b:Nat)(a:Ao):Option (Int):=
 cond (decide ((9:Int)<a.Ak)) (some (3)) (cond (decide ((2:Int)<a.Aj)) (some (3)) (cond (decide ((4:Int)<(a.Ac.length:Int))) (some (3)) (cond (decide (a.Ak<0)) (some (1)) (cond (decide (a.Aj<1)) (some (1)) ((i64 (a.Ak+1)).bind fun _=>(EI b a.Ap 0 (a.Ak+1)).bind fun g=>cond (!g) (some (1)) ((i64 (a.Ak+1)).bind fun _=>(EI b a.Ax 0 (a.Ak+1)).bind fun c=>cond (!c) (some (1)) ((G1 b (fun(st:Unit) (x:A5)=>(Fu b a x).bind fun r=>some (r,())) a.Ac ()).bind fun d=>cond (!d.1) (some (1)) ((DP b (fun(st:Int) (x:(List Bool))=>Fv st x) a (0:Int)).bind fun e=>(Ek b a b (0:Int) e).bind fun f=>cond (decide ((1000:Int)<f)) (some (3)) (some (0))))))))))
end Go.Proofs.YtkljfdkmjdjpfaaGreat
end
section
set_option linter.unusedVariables false
set_option linter.unusedSimpArgs false
namespace Go.Proofs.YtkljfdkmjdjpfaaGreat
open Go.RowKit Go.WideShapes
def Cg{f:Type}(g:Int→(List Int)→(List Bool)→Ao→f→Option (Bool×(List Int)×f))(e:Int)(j:List Bool)(i:Ao)(k:Int):Nat→Int→(List Int)→f→Option ((Bool×(List Int)×f)⊕((List Int)×f))
 |0,_,_,_=>none
 |l+1,a,b,d=>cond (decide (a<k)) ((idx i.Ac e).bind fun h=>(i64 (h.As+a)).bind fun _=>(idx b e).bind fun m=>(i64 (e+1)).bind fun _=>(g (e+1) (b.set e.toNat (h.As+a)) j i d).bind fun c=>cond (!c.1) (some (.inl (false,c.2.1,c.2.2))) ((i64 (a+1)).bind fun _=>Cg g e j i k l (a+1) c.2.1 c.2.2)) (some (.inr (b,d)))
def BW{b:Type}(e:Nat)(d:b→AU→Option (Bool×b)):Nat→Int→(List Int)→(List Bool)→Ao→b→Option (Bool×(List Int)×b)
 |0,_,_,_,_,_=>none
 |k+1,f,c,g,h,i=>cond (f==(c.length:Int)) ((d i (⟨c,g⟩:AU)).bind fun r2=>some ((r2.1,c,r2.2))) ((idx h.Ac f).bind fun j=>(FA e (⟨j.As,j.AJ⟩:CN)).bind fun l=>(Cg (BW e d k) f g h l e (0:Int) c i).bind fun z=>Sum.elim (fun a=>some ((a.1,a.2.1,a.2.2))) (fun a=>some ((true,a.1,a.2))) z)
end Go.Proofs.YtkljfdkmjdjpfaaGreat
end
section
set_option linter.unusedVariables false
set_option linter.unusedSimpArgs false
namespace Go.Proofs.YtkljfdkmjdjpfaaGreat
open Go.RowKit Go.WideShapes
def DB{c:Type}(e:c→AU→Option (Bool×c))(f:Nat)(g:Ao)(b:List Int)(d:c)(h:(List Bool)):Option (Bool×((List Int)×c×Bool)):=
 (BW f e f 0 b h g d).bind fun a=>cond (!a.1) (some (false,a.2.1,a.2.2,true)) (some (true,a.2.1,a.2.2,false))
def Fw{a:Type}(d:Nat)(e:a→AU→Option (Bool×a))(b:Ao)(f:a):Option (a):=
 (JQ (b.Ac.length:Int) 8).bind fun _=>(DP d (fun(st:(List Int)×a×Bool) (x:(List Bool))=>cond st.2.2 none (DB e d b st.1 st.2.1 x)) b (List.replicate (b.Ac.length:Int).toNat (0:Int),f,false)).bind fun c=>cond (c.2.2) (some (c.2.1)) (some (c.2.1))
end Go.Proofs.YtkljfdkmjdjpfaaGreat
end
section
set_option linter.unusedVariables false
set_option linter.unusedSimpArgs false
namespace Go.Proofs.YtkljfdkmjdjpfaaGreat
open Go.RowKit Go.WideShapes
def DR(b:List Bool)(c:List Bool):Nat→Int→Option ((Bool)⊕(Unit))
 |0,_=>none
 |d+1,a=>cond (decide (a<(b.length:Int))) ((idx b a).bind fun e=>(idx c a).bind fun f=>cond (e !=f) (some (.inl false)) ((i64 (a+1)).bind fun _=>DR b c d (a+1))) (some (.inr ()))
def EU(d:Nat)(b:List Bool)(c:List Bool):Option (Bool):=
 cond ((b.length:Int) !=(c.length:Int)) (some (false)) ((DR b c d (0:Int)).bind fun z=>Sum.elim (fun a=>some (a)) (fun a=>some (true)) z)
def DC(d:Nat)(c:Ao)(e:AU):Nat→Int→Option ((Bool)⊕(Unit))
 |0,_=>none
 |h+1,a=>cond (decide (a<(c.Ac.length:Int))) ((idx c.Ac a).bind fun b=>(idx e.Comes a).bind fun f=>(EI d f b.As b.AJ).bind fun g=>cond (!g) (some (.inl false)) ((i64 (a+1)).bind fun _=>DC d c e h (a+1))) (some (.inr ()))
def FM(d:Nat)(a:Ao)(c:AU):Option (Bool):=
 cond ((c.Comes.length:Int) !=(a.Ac.length:Int)) (some (false)) ((i64 (a.Ak+1)).bind fun _=>cond ((c.Ap.length:Int) !=(a.Ak+1)) (some (false)) ((ES d a c.Ap).bind fun e=>cond (!e) (some (false)) ((DC d a c d (0:Int)).bind fun z=>Sum.elim (fun b=>some (b)) (fun b=>some (true)) z)))
def Ee(i:CD)(h:H7)(f:A5):Nat→Int→Int→Int→Int→Int→Bool→Option ((Int×Int×Bool)⊕(Int×Int×Bool))
 |0,_,_,_,_,_,_=>none
 |j+1,b,g,a,c,d,e=>cond (decide (a≤i.BJ)) ((idx i.Dk a).bind fun k=>cond (k) ((i64 (g+1)).bind fun _=>cond (b==f.Ar) (some (.inl (h.day,a,b==f.Ar))) (cond ((g+1)==f.BV) (some (.inl (h.day,a,b==f.Ar))) ((i64 (a+1)).bind fun _=>Ee i h f j b (g+1) (a+1) c d e))) ((i64 (b+1)).bind fun _=>cond ((b+1)==f.Ar) (some (.inl (h.day,a,(b+1)==f.Ar))) (cond ((0:Int)==f.BV) (some (.inl (h.day,a,(b+1)==f.Ar))) ((i64 (a+1)).bind fun _=>Ee i h f j (b+1) (0:Int) (a+1) c d e)))) (some (.inr (c,d,e)))
def F9(d:Nat)(c:CD)(b:H7):Option (Ag):=
 cond (decide (c.BJ<b.day)) (some ((⟨(-1),(-1),false⟩:Ag))) ((idx c.A6 b.Cu).bind fun e=>(Ee c b e d (0:Int) (0:Int) b.day (0:Int) (0:Int) false).bind fun z=>Sum.elim (fun a=>some ((⟨a.1,a.2.1,a.2.2⟩:Ag))) (fun a=>some ((⟨b.day,(-1),false⟩:Ag))) z)
def FT(d:Nat)(b:CD)(a:H7):Option (Ag×(List (List Int×Ag))):=
 cond (!((BH b.known [a.Cu,a.day]).isSome)) ((F9 d b a).bind fun c=>some ((c,H2 b.known [a.Cu,a.day] c))) (some ((((BH b.known [a.Cu,a.day]).getD (⟨0,0,false⟩:Ag)),b.known)))
def DW(i:Nat)(c:CD)(j:List Int)(g:List Int):Nat→Int→Int→(List Ag)→(List (List Int×Ag))→Option ((List Ag)×(List (List Int×Ag)))
 |0,_,_,_,_=>none
 |k+1,h,a,d,e=>cond (decide (a<(g.length:Int))) ((idx g a).bind fun f=>(idx j f).bind fun l=>(FT i (⟨c.BJ,c.B6,c.Cm,c.Cn,c.A6,c.Dk,e⟩:CD) (⟨f,max h l⟩:H7)).bind fun b=>(idx d f).bind fun m=>(i64 (b.1.AG+1)).bind fun _=>cond (b.1.AG==(-1)) ((i64 (c.BJ+1)).bind fun _=>(i64 (a+1)).bind fun _=>DW i c j g k (c.BJ+1) (a+1) (d.set f.toNat b.1) b.2) ((i64 (a+1)).bind fun _=>DW i c j g k (b.1.AG+1) (a+1) (d.set f.toNat b.1) b.2)) (some ((d,e)))
def Dt(d:Nat)(f:CD)(e:List (List Int))(g:List Int):Nat→Int→(List Ag)→(List (List Int×Ag))→Option ((List Ag)×(List (List Int×Ag)))
 |0,_,_,_=>none
 |i+1,a,c,b=>cond (decide (a<(e.length:Int))) ((idx e a).bind fun j=>(DW d f g j d (0:Int) (0:Int) c b).bind fun h=>(i64 (a+1)).bind fun _=>Dt d f e g i (a+1) h.1 h.2) (some ((c,b)))
def C6(b:Nat)(a:CD)(c:List (List Int))(d:List Int):Option ((List Ag)×(List (List Int×Ag))):=
 (JQ (a.A6.length:Int) 24).bind fun _=>(Dt b a c d b (0:Int) (List.replicate (a.A6.length:Int).toNat (⟨0,0,false⟩:Ag)) a.known).bind fun z3=>some ((z3.1,z3.2))
end Go.Proofs.YtkljfdkmjdjpfaaGreat
end
section
set_option linter.unusedVariables false
set_option linter.unusedSimpArgs false
namespace Go.Proofs.YtkljfdkmjdjpfaaGreat
open Go.RowKit Go.WideShapes
def DS(c:List (List Int)):Nat→(List Int)→Int→Option ((List Int))
 |0,_,_=>none
 |e+1,b,a=>cond (decide (a<(c.length:Int))) ((idx c a).bind fun d=>(Gi (((b.length+d.length:Nat):Int)≤140737488355328/8)).bind fun _=>(i64 (a+1)).bind fun _=>DS c e (b++d) (a+1)) (some (b))
def DD(b:Ao)(z2:(List Int)):Nat→Int→Option ((Bool)⊕(Unit))
 |0,_=>none
 |d+1,a=>cond (decide (a<(b.Ac.length:Int))) (cond (((Dj z2).length:Int) !=(b.Ac.length:Int)) (some (.inl false)) ((idx (Dj z2) a).bind fun c=>cond (c !=a) (some (.inl false)) ((i64 (a+1)).bind fun _=>DD b z2 d (a+1)))) (some (.inr ()))
def Ev(c:Nat)(b:Ao)(d:List (List Int)):Option (Bool):=
 (DS d c ([]:List Int) (0:Int)).bind fun z2=>(Gi ((z2.length:Int)≤100000)).bind fun _=>(DD b z2 c (0:Int)).bind fun z=>Sum.elim (fun a=>some (a)) (fun a=>cond ((d.length:Int)==b.Aj) (some (((Dj z2).length:Int)==(b.Ac.length:Int))) (some (false))) z
def GN(b:Nat)(a:Ao)(d:List (List Int))(c:AU):Option ((List Ag)×Int):=
 (DQ b a).bind fun e=>cond (e !=0) (some ((([]:List Ag),e))) ((Ev b a d).bind fun h=>cond (!h) (some ((([]:List Ag),2))) ((FM b a c).bind fun f=>cond (!f) (some ((([]:List Ag),2))) ((C6 b (⟨a.Ak,a.Aj,a.Ap,a.Ax,a.Ac,c.Ap,[]⟩:CD) d c.Comes).bind fun g=>some ((g.1,0)))))
end Go.Proofs.YtkljfdkmjdjpfaaGreat
end
section
set_option linter.unusedVariables false
set_option linter.unusedSimpArgs false
namespace Go.Proofs.YtkljfdkmjdjpfaaGreat
open Go.RowKit Go.WideShapes
def DX(d:Nat)(e:Ao)(c:List Ag):Nat→Int→Int→Option (Int)
 |0,_,_=>none
 |f+1,b,a=>cond (decide (a<(c.length:Int))) ((idx c a).bind fun i=>(idx e.Ac a).bind fun g=>(EC d g i).bind fun h=>cond (h) ((i64 (b+1)).bind fun _=>(i64 (a+1)).bind fun _=>DX d e c f (b+1) (a+1)) ((i64 (a+1)).bind fun _=>DX d e c f b (a+1))) (some (b))
def E9(a:Nat)(b:Ao)(c:List Ag):Option (Int):=
 (DX a b c a (0:Int) (0:Int)).bind fun z4=>some (z4)
def Fe(d:Nat)(a:AU)(e:List Ag)(b:Ao)(c:Int)(f:AU):Option (Bool×Int×AU):=
 (E9 d b e).bind fun r2=>cond (decide (c<r2)) ((Gi (((0+a.Comes.length:Nat):Int)≤140737488355328/8)).bind fun _=>(Gi (((0+a.Ap.length:Nat):Int)≤140737488355328/1)).bind fun _=>some ((decide (r2<(b.Ac.length:Int)),r2,a))) (some ((decide (c<(b.Ac.length:Int)),c,f)))
def CQ{j:Type}(h:j→(A5×Ag)→Option (Bool×j))(k:List Ag)(l:Ao):Nat→Int→Int→Int→Int→Int→j→Option (Int×Int×Int×Int×j)
 |0,_,_,_,_,_,_=>none
 |m+1,a,b,c,d,e,g=>cond (decide (a<(k.length:Int))) ((idx k a).bind fun o=>(idx l.Ac a).bind fun n=>(h g (n,o)).bind fun i=>cond (i.1) ((idx ([b,c,d,e]:List Int) a).bind fun f=>(i64 (f+1)).bind fun _=>(idx ([b,c,d,e]:List Int) a).bind fun p=>(i64 (a+1)).bind fun _=>CQ h k l m (a+1) (((⟨b,c,d,e⟩:BS).set a.toNat (f+1)).a0) (((⟨b,c,d,e⟩:BS).set a.toNat (f+1)).a1) (((⟨b,c,d,e⟩:BS).set a.toNat (f+1)).a2) (((⟨b,c,d,e⟩:BS).set a.toNat (f+1)).a3) i.2) ((i64 (a+1)).bind fun _=>CQ h k l m (a+1) b c d e i.2)) (some ((b,c,d,e,g)))
def C8{a:Type}(e:Nat)(c:a→(A5×Ag)→Option (Bool×a))(i:AU)(f:List Ag)(d:Int)(g:Ao)(b:BS)(h:a):Option (Bool×Int×BS×a):=
 (i64 (d+1)).bind fun _=>(CQ c f g e (0:Int) b.a0 b.a1 b.a2 b.a3 h).bind fun z4=>some ((true,d+1,(⟨z4.1,z4.2.1,z4.2.2.1,z4.2.2.2.1⟩:BS),z4.2.2.2.2))
end Go.Proofs.YtkljfdkmjdjpfaaGreat
end
section
set_option linter.unusedVariables false
set_option linter.unusedSimpArgs false
namespace Go.Proofs.YtkljfdkmjdjpfaaGreat
open Go.RowKit Go.WideShapes
def DY{m:Type}(f:m→(AU×(List Ag))→Option (Bool×m))(n:Nat)(a:Ao)(o:List (List Int))(e:Option CD)(d:m)(c:AU):Option (Bool×((Option CD)×m×Bool)):=
 Option.elim e ((Gi (((0+c.Ap.length:Nat):Int)≤140737488355328/1)).bind fun _=>(C6 n (⟨a.Ak,a.Aj,a.Ap,a.Ax,a.Ac,c.Ap,[]⟩:CD) o c.Comes).bind fun g=>(f d (c,g.1)).bind fun h=>cond (!h.1) (some (false,(some (⟨a.Ak,a.Aj,a.Ap,a.Ax,a.Ac,c.Ap,g.2⟩:CD)),h.2,true)) (some (true,(some (⟨a.Ak,a.Aj,a.Ap,a.Ax,a.Ac,c.Ap,g.2⟩:CD)),h.2,false))) (fun b=>(EU n b.Dk c.Ap).bind fun p=>cond (!p) ((Gi (((0+c.Ap.length:Nat):Int)≤140737488355328/1)).bind fun _=>(C6 n (⟨a.Ak,a.Aj,a.Ap,a.Ax,a.Ac,c.Ap,[]⟩:CD) o c.Comes).bind fun i=>(f d (c,i.1)).bind fun j=>cond (!j.1) (some (false,(some (⟨a.Ak,a.Aj,a.Ap,a.Ax,a.Ac,c.Ap,i.2⟩:CD)),j.2,true)) (some (true,(some (⟨a.Ak,a.Aj,a.Ap,a.Ax,a.Ac,c.Ap,i.2⟩:CD)),j.2,false))) ((C6 n b o c.Comes).bind fun k=>(f d (c,k.1)).bind fun l=>cond (!l.1) (some (false,(some (⟨b.BJ,b.B6,b.Cm,b.Cn,b.A6,b.Dk,k.2⟩:CD)),l.2,true)) (some (true,(some (⟨b.BJ,b.B6,b.Cm,b.Cn,b.A6,b.Dk,k.2⟩:CD)),l.2,false))))
def FV{a:Type}(c:Nat)(d:a→(AU×(List Ag))→Option (Bool×a))(e:Ao)(f:List (List Int))(g:a):Option (a):=
 (Fw c (fun(st:(Option CD)×a×Bool) (x:AU)=>cond st.2.2 none (DY d c e f st.1 st.2.1 x)) e (none,g,false)).bind fun b=>cond (b.2.2) (some (b.2.1)) (some (b.2.1))
end Go.Proofs.YtkljfdkmjdjpfaaGreat
end
section
set_option linter.unusedVariables false
set_option linter.unusedSimpArgs false
namespace Go.Proofs.YtkljfdkmjdjpfaaGreat
open Go.RowKit Go.WideShapes
def CE{a:Type}(c:Nat)(d:a→(A5×Ag)→Option (Bool×a))(e:Ao)(f:List (List Int))(g:a):Option (BS×Int×a):=
 (FV c (fun(st:Int×BS×a) (x:AU×(List Ag))=>(C8 c d x.1 x.2 st.1 e st.2.1 st.2.2).bind fun r=>some (r.1,(r.2.1,r.2.2.1,r.2.2.2))) e f (0,(⟨0,0,0,0⟩:BS),g)).bind fun b=>some ((b.2.1,b.1,b.2.2))
def FW(a:Nat)(b:Ao)(d:List (List Int)):Option (Int×AU):=
 (FV a (fun(st:Int×AU) (x:AU×(List Ag))=>(Fe a x.1 x.2 b st.1 st.2).bind fun r=>some (r.1,(r.2.1,r.2.2))) b d ((-1),(⟨([]:List Int),([]:List Bool)⟩:AU))).bind fun c=>some ((c.1,c.2))
def Fx(b:Nat)(c:Ao)(e:List (List Int))(f:Int):Option (Int×Int):=
 (DQ b c).bind fun r2=>cond (r2 !=0) (some ((0,r2))) ((Ev b c e).bind fun h=>cond (!h) (some ((0,2))) ((Gc b c f).bind fun g=>cond (!g) (some ((0,2))) ((CE b (fun(st:Unit) (x:A5×Ag)=>(Dm b x.1 x.2).bind fun r=>some (r,())) c e ()).bind fun a=>(idx ([a.1.a0,a.1.a1,a.1.a2,a.1.a3]:List Int) f).bind fun d=>cond (d==a.2.1) (some ((1,0))) (cond (d==0) (some ((2,0))) (some ((3,0)))))))
def GO(b:Nat)(c:Ao)(d:List (List Int)):Option (Int×AU×Int):=
 (DQ b c).bind fun e=>cond (e !=0) (some ((0,(⟨([]:List Int),([]:List Bool)⟩:AU),e))) ((Ev b c d).bind fun f=>cond (!f) (some ((0,(⟨([]:List Int),([]:List Bool)⟩:AU),2))) ((FW b c d).bind fun a=>some ((a.1,a.2,0))))
def FB(a:Nat)(b:Ao)(c:List (List Int))(d:Int):Option (Bool):=
 (GO a b c).bind fun r2=>cond (r2.2.2==0) (some (decide (r2.1≤d))) (some (false))
def FX(a:Nat)(b:Ao)(d:List (List Int))(e:AU)(f:Int):Option (Bool):=
 (GN a b d e).bind fun c=>cond (c.2==0) ((E9 a b c.1).bind fun g=>some (decide (f≤g))) (some (false))
end Go.Proofs.YtkljfdkmjdjpfaaGreat
end
section
set_option linter.unusedVariables false
set_option linter.unusedSimpArgs false
namespace Go.Proofs.YtkljfdkmjdjpfaaGreat
open Go.RowKit Go.WideShapes
def Fa(c:List (List Int)):Nat→Int→(List (List Int))→Option ((List (List Int)))
 |0,_,_=>none
 |e+1,a,b=>cond (decide (a<(c.length:Int))) ((idx b a).bind fun d=>(Gi (((0+d.length:Nat):Int)≤140737488355328/8)).bind fun _=>(idx b a).bind fun f=>(i64 (a+1)).bind fun _=>Fa c e (a+1) (b.set a.toNat d)) (some (b))
def FD(b:Nat)(a:List (List Int)):Option ((List (List Int))):=
 (Gi (((0+a.length:Nat):Int)≤140737488355328/24)).bind fun _=>(Fa a b (0:Int) a).bind fun z4=>some (z4)
end Go.Proofs.YtkljfdkmjdjpfaaGreat
end
section
set_option linter.unusedVariables false
set_option linter.unusedSimpArgs false
namespace Go.Proofs.YtkljfdkmjdjpfaaGreat
open Go.RowKit Go.WideShapes
def GB(b:Nat)(c:List (List Int))(d:Ao)(a:Int)(e:List (List Int)):Option (Bool×Int×(List (List Int))):=
 (FW b d c).bind fun r1=>cond (decide (r1.1<a)) ((FD b c).bind fun f=>some ((decide ((0:Int)<r1.1),r1.1,f))) (some ((decide ((0:Int)<a),a,e)))
def EE(c:Ao)(r1:BS×Int×Unit):Nat→Int→Int→Option (Int)
 |0,_,_=>none
 |d+1,b,a=>cond (decide (a<(c.Ac.length:Int))) ((idx ([r1.1.a0,r1.1.a1,r1.1.a2,r1.1.a3]:List Int) a).bind fun e=>cond (e==0) ((i64 (b+1)).bind fun _=>(i64 (a+1)).bind fun _=>EE c r1 d (b+1) (a+1)) ((i64 (a+1)).bind fun _=>EE c r1 d b (a+1))) (some (b))
def Eu(c:Ao)(r1:BS×Int×Unit):Nat→Int→Int→Option (Int)
 |0,_,_=>none
 |d+1,b,a=>cond (decide (a<(c.Ac.length:Int))) ((idx ([r1.1.a0,r1.1.a1,r1.1.a2,r1.1.a3]:List Int) a).bind fun e=>cond (e==0) ((i64 (b+1)).bind fun _=>(i64 (a+1)).bind fun _=>Eu c r1 d (b+1) (a+1)) ((i64 (a+1)).bind fun _=>Eu c r1 d b (a+1))) (some (b))
def E1(c:Nat)(e:List (List Int))(b:Ao)(a:Int)(d:BS)(f:List (List Int)):Option (Bool×Int×BS×(List (List Int))):=
 (CE c (fun(st:Unit) (x:A5×Ag)=>(EC c x.1 x.2).bind fun r=>some (r,())) b e ()).bind fun r1=>cond (decide ((0:Int)≤a)) (cond ([r1.1.a0,r1.1.a1,r1.1.a2,r1.1.a3]==[d.a0,d.a1,d.a2,d.a3]) (some ((true,a,d,f))) ((EE b r1 c (0:Int) (0:Int)).bind fun z9=>cond (decide (a<z9)) ((FD c e).bind fun g=>some ((decide (z9<(b.Ac.length:Int)),z9,r1.1,g))) (some ((decide (a<(b.Ac.length:Int)),a,r1.1,f))))) ((Eu b r1 c (0:Int) (0:Int)).bind fun z22=>cond (decide (a<z22)) ((FD c e).bind fun h=>some ((decide (z22<(b.Ac.length:Int)),z22,r1.1,h))) (some ((decide (a<(b.Ac.length:Int)),a,r1.1,f))))
end Go.Proofs.YtkljfdkmjdjpfaaGreat
end
section
set_option linter.unusedVariables false
set_option linter.unusedSimpArgs false
namespace Go.Proofs.YtkljfdkmjdjpfaaGreat
open Go.RowKit Go.WideShapes
def Cp{g:Type}(h:Int→Ao→(List (List Int))→g→Option (Bool×(List (List Int))×g))(i:Int)(j:Ao)(c:Int)(f:List Int):Nat→Int→(List (List Int))→g→Option ((Bool×(List (List Int))×g)⊕((List (List Int))×g))
 |0,_,_,_=>none
 |k+1,a,b,e=>cond (decide (a<((f.length:Int)+1))) ((Gi (((0+f.length:Nat):Int)≤140737488355328/8)).bind fun _=>(Gi (0≤a∧a≤(f.length:Int)∧((f.length:Int)+1)*8≤140737488355328)).bind fun _=>(idx b c).bind fun l=>(i64 (i+1)).bind fun _=>(h (i+1) j (b.set c.toNat (CM f a i)) e).bind fun d=>cond (!d.1) (some (.inl (false,d.2.1,d.2.2))) ((i64 (a+1)).bind fun _=>Cp h i j c f k (a+1) d.2.1 d.2.2)) (some (.inr (b,e)))
def Ch{e:Type}(f:Int→Ao→(List (List Int))→e→Option (Bool×(List (List Int))×e))(h:Nat)(i:Int)(j:Ao)(k:List (List Int)):Nat→Int→(List (List Int))→e→Option ((Bool×(List (List Int))×e)⊕((List (List Int))×e))
 |0,_,_,_=>none
 |l+1,a,b,d=>cond (decide (a<(k.length:Int))) ((idx b a).bind fun g=>(i64 ((g.length:Int)+1)).bind fun _=>(Cp f i j a g h (0:Int) b d).bind fun z=>Sum.elim (fun c=>some (.inl (c.1,c.2.1,c.2.2))) (fun c=>(idx c.1 a).bind fun m=>(i64 (a+1)).bind fun _=>Ch f h i j k l (a+1) (c.1.set a.toNat g) c.2) z) (some (.inr (b,d)))
def BB{b:Type}(e:Nat)(d:b→(List (List Int))→Option (Bool×b)):Nat→Int→Ao→(List (List Int))→b→Option (Bool×(List (List Int))×b)
 |0,_,_,_,_=>none
 |i+1,f,g,c,h=>cond (f==(g.Ac.length:Int)) ((d h c).bind fun r2=>some ((r2.1,c,r2.2))) ((Ch (BB e d i) e f g c e (0:Int) c h).bind fun z=>Sum.elim (fun a=>some ((a.1,a.2.1,a.2.2))) (fun a=>some ((true,a.1,a.2))) z)
end Go.Proofs.YtkljfdkmjdjpfaaGreat
end
section
set_option linter.unusedVariables false
set_option linter.unusedSimpArgs false
namespace Go.Proofs.YtkljfdkmjdjpfaaGreat
open Go.RowKit Go.WideShapes
def Ff{a:Type}(c:Nat)(d:a→(List (List Int))→Option (Bool×a))(b:Ao)(e:a):Option (a):=
 (JQ b.Aj 24).bind fun _=>(BB c d c 0 b (List.replicate b.Aj.toNat ([]:List Int)) e).bind fun f=>some (f.2.2)
end Go.Proofs.YtkljfdkmjdjpfaaGreat
end
section
set_option linter.unusedVariables false
set_option linter.unusedSimpArgs false
namespace Go.Proofs.YtkljfdkmjdjpfaaGreat
open Go.RowKit Go.WideShapes
def GP(c:Nat)(a:Ao):Option ((List (List Int))×Int×Int):=
 (DQ c a).bind fun d=>cond (d !=0) (some ((([]:List (List Int)),0,d))) ((i64 ((a.Ac.length:Int)+1)).bind fun _=>(Ff c (fun(st:Int×(List (List Int))) (x:(List (List Int)))=>(GB c x a st.1 st.2).bind fun r=>some (r.1,(r.2.1,r.2.2))) a ((a.Ac.length:Int)+1,([]:List (List Int)))).bind fun b=>some ((b.2,b.1,0)))
def GQ(b:Nat)(c:Ao):Option ((List (List Int))×Int×Int):=
 (DQ b c).bind fun d=>cond (d !=0) (some ((([]:List (List Int)),0,d))) ((Ff b (fun(st:Int×BS×(List (List Int))) (x:(List (List Int)))=>(E1 b x c st.1 st.2.1 st.2.2).bind fun r=>some (r.1,(r.2.1,r.2.2.1,r.2.2.2))) c ((-1),(⟨0,0,0,0⟩:BS),([]:List (List Int)))).bind fun a=>some ((a.2.2,a.1,0)))
end Go.Proofs.YtkljfdkmjdjpfaaGreat
end
section
set_option linter.unusedVariables false
set_option linter.unusedSimpArgs false
namespace Go.Proofs.YtkljfdkmjdjpfaaGreat
open Go.RowKit Go.WideShapes
def Ef(e:Nat)(c:Ao):Nat→(List Int)→Int→Option ((List Int))
 |0,_,_=>none
 |f+1,b,a=>cond (decide (a<(c.Ac.length:Int))) ((JQ c.Aj 24).bind fun _=>(idx (List.replicate c.Aj.toNat ([]:List Int)) (0:Int)).bind fun _=>(JG (c.Ac.length:Int) a e (0:Int) ((List.replicate c.Aj.toNat ([]:List Int)).set 0 [a])).bind fun g=>(CE e (fun(st:Unit) (x:A5×Ag)=>(Dm e x.1 x.2).bind fun r=>some (r,())) c g ()).bind fun d=>(idx ([d.1.a0,d.1.a1,d.1.a2,d.1.a3]:List Int) a).bind fun h=>cond (h==d.2.1) ((i64 (a+1)).bind fun _=>Ef e c f b (a+1)) ((Gi (((b.length+[a].length:Nat):Int)≤140737488355328/8)).bind fun _=>(i64 (a+1)).bind fun _=>Ef e c f (b++[a]) (a+1))) (some (b))
def Fy(a:Nat)(b:Ao):Option ((List Int)×Int):=
 (DQ a b).bind fun r2=>cond (r2 !=0) (some ((([]:List Int),r2))) ((Ef a b a ([]:List Int) (0:Int)).bind fun z5=>some ((z5,0)))
end Go.Proofs.YtkljfdkmjdjpfaaGreat
end
section
set_option linter.unusedVariables false
set_option linter.unusedSimpArgs false
namespace Go.Proofs.YtkljfdkmjdjpfaaGreat
open Go.RowKit Go.WideShapes
def El(g:Nat)(h:Ao):Nat→Int→Int→(List Int)→Option ((List Int))
 |0,_,_,_=>none
 |i+1,a,d,b=>cond (decide (d<(h.Ac.length:Int))) ((idx h.Ac d).bind fun c=>(EB g (⟨c.As,c.AJ⟩:CN)).bind fun e=>(rem a e).bind fun _=>(i64 (c.As+(a%e))).bind fun _=>(Gi (((b.length+[c.As+(a%e)].length:Nat):Int)≤140737488355328/8)).bind fun _=>(EB g (⟨c.As,c.AJ⟩:CN)).bind fun f=>(quo a f).bind fun _=>(i64 (a/f)).bind fun _=>(i64 (d+1)).bind fun _=>El g h i (a/f) (d+1) (b++[c.As+(a%e)])) (some (b))
def D5(d:Nat)(e:Ao)(f:Int):Nat→Int→(List Bool)→Option ((List Bool))
 |0,_,_=>none
 |g+1,a,b=>cond (decide (a≤e.Ak)) ((C0 d f a).bind fun c=>(Gi (((b.length+[c].length:Nat):Int)≤140737488355328/1)).bind fun _=>(i64 (a+1)).bind fun _=>D5 d e f g (a+1) (b++[c])) (some (b))
def Gd(c:Nat)(d:Ao)(a:List Int)(b:Int):Option (AU):=
 (rem b (a.length:Int)).bind fun _=>(idx a (b%(a.length:Int))).bind fun e=>(quo b (a.length:Int)).bind fun _=>(i64 (b/(a.length:Int))).bind fun _=>(El c d c (b/(a.length:Int)) (0:Int) ([]:List Int)).bind fun f=>(D5 c d e c (0:Int) ([]:List Bool)).bind fun z23=>some ((⟨f,z23⟩:AU))
def DE(c:Nat)(d:Ao)(r2:(List Int)):Nat→(List AU)→Int→Option ((List AU))
 |0,_,_=>none
 |f+1,b,a=>(DM c d).bind fun g=>cond (decide (a<g)) ((Gd c d r2 a).bind fun e=>(Gi (((b.length+[e].length:Nat):Int)≤140737488355328/48)).bind fun _=>(i64 (a+1)).bind fun _=>DE c d r2 f (b++[e]) (a+1)) (some (b))
def EM(a:Nat)(b:Ao):Option ((List AU)):=
 (Er a b).bind fun r2=>(DE a b r2 a ([]:List AU) (0:Int)).bind fun z4=>some (z4)
def Dn(e:Nat)(f:Ao)(g:List (List Int))(c:Int):Nat→Int→Int→Option ((Bool)⊕(Int))
 |0,_,_=>none
 |j+1,a,b=>(idx g c).bind fun k=>cond (decide (b<(k.length:Int))) ((idx g c).bind fun l=>(idx l b).bind fun d=>(i64 ((f.Ac.length:Int)-1)).bind fun _=>(DO e d 0 ((f.Ac.length:Int)-1)).bind fun h=>cond (!h) (some (.inl false)) ((C0 e a d).bind fun i=>cond (i) (some (.inl false)) ((Mq .u64 d).bind fun _=>(JE (1:Int) d).bind fun _=>(OC a (FG (1:Int) d)).bind fun _=>(i64 (b+1)).bind fun _=>Dn e f g c j (Mp a (FG (1:Int) d)) (b+1)))) (some (.inr a))
def Dp(d:Nat)(f:Ao)(e:List (List Int)):Nat→Int→Int→Option ((Bool)⊕(Int))
 |0,_,_=>none
 |g+1,b,a=>cond (decide (a<(e.length:Int))) ((Dn d f e a d b (0:Int)).bind fun z=>Sum.elim (fun c=>some (.inl c)) (fun c=>(i64 (a+1)).bind fun _=>Dp d f e g c (a+1)) z) (some (.inr b))
def Ex(c:Nat)(a:Ao)(d:List (List Int)):Option (Bool):=
 cond ((d.length:Int) !=a.Aj) (some (false)) ((Dp c a d c (0:Int) (0:Int)).bind fun z=>Sum.elim (fun b=>some (b)) (fun b=>(Mq .u64 (a.Ac.length:Int)).bind fun _=>(JE (1:Int) (a.Ac.length:Int)).bind fun _=>(i64 ((FG (1:Int) (a.Ac.length:Int))-1)).bind fun _=>some (b==((FG (1:Int) (a.Ac.length:Int))-1))) z)
def Dq(d:List (List (List Int)))(e:Int)(f:Int)(b:Int):Nat→(List (List (List Int)))→Int→Option ((List (List (List Int))))
 |0,_,_=>none
 |n+1,h,a=>(idx d f).bind fun j=>(idx j b).bind fun k=>cond (decide (a≤(k.length:Int))) ((idx d f).bind fun i=>(Gi (((([]:List (List Int)).length+i.length:Nat):Int)≤140737488355328/24)).bind fun _=>(idx d f).bind fun l=>(idx l b).bind fun g=>(OF g.length (0:Int) a).bind fun _=>(Gi (((([]:List Int).length+(Cx g (0:Int) a).length:Nat):Int)≤140737488355328/8)).bind fun _=>(Gi ((((([]:List Int)++(Cx g (0:Int) a)).length+[e].length:Nat):Int)≤140737488355328/8)).bind fun _=>(idx d f).bind fun m=>(idx m b).bind fun c=>(OF c.length a (c.length:Int)).bind fun _=>(Gi (((((([]:List Int)++(Cx g (0:Int) a))++[e]).length+(Cx c a (c.length:Int)).length:Nat):Int)≤140737488355328/8)).bind fun _=>(idx (([]:List (List Int))++i) b).bind fun o=>(Gi (((h.length+[(([]:List (List Int))++i).set b.toNat (((([]:List Int)++(Cx g (0:Int) a))++[e])++(Cx c a (c.length:Int)))].length:Nat):Int)≤140737488355328/24)).bind fun _=>(i64 (a+1)).bind fun _=>Dq d e f b n (h++[(([]:List (List Int))++i).set b.toNat (((([]:List Int)++(Cx g (0:Int) a))++[e])++(Cx c a (c.length:Int)))]) (a+1)) (some (h))
def Dr(f:Nat)(g:Ao)(c:List (List (List Int)))(d:Int)(e:Int):Nat→(List (List (List Int)))→Int→Option ((List (List (List Int))))
 |0,_,_=>none
 |h+1,b,a=>cond (decide (a<g.Aj)) ((Dq c d e a f b (0:Int)).bind fun z12=>(i64 (a+1)).bind fun _=>Dr f g c d e h z12 (a+1)) (some (b))
def C9(e:Nat)(f:Ao)(b:List (List (List Int)))(c:Int):Nat→(List (List (List Int)))→Int→Option ((List (List (List Int))))
 |0,_,_=>none
 |h+1,d,a=>cond (decide (a<(b.length:Int))) ((Dr e f b c a e d (0:Int)).bind fun g=>(i64 (a+1)).bind fun _=>C9 e f b c h g (a+1)) (some (d))
def DF(c:Nat)(d:Ao):Nat→(List (List (List Int)))→Int→Option ((List (List (List Int))))
 |0,_,_=>none
 |e+1,b,a=>cond (decide (a<(d.Ac.length:Int))) ((C9 c d b a c ([]:List (List (List Int))) (0:Int)).bind fun f=>(i64 (a+1)).bind fun _=>DF c d e f (a+1)) (some (b))
def Fz(b:Nat)(a:Ao):Option ((List (List (List Int)))):=
 (JQ a.Aj 24).bind fun _=>(DF b a b [List.replicate a.Aj.toNat ([]:List Int)] (0:Int)).bind fun z5=>some (z5)
def Du:Nat→Int→(List Ag)→Option ((List Ag))
 |0,_,_=>none
 |c+1,a,b=>cond (decide (a<(b.length:Int))) ((idx b a).bind fun d=>(i64 (a+1)).bind fun _=>Du c (a+1) (b.set a.toNat (⟨(-1),(-1),false⟩:Ag))) (some (b))
def Bt(i:Ao)(k:List (List Int))(l:AU)(f:Int):Nat→Int→Int→Int→Int→Int→(List Ag)→Option ((List Ag))
 |0,_,_,_,_,_,_=>none
 |m+1,d,c,h,j,a,b=>cond (decide (a≤i.Ak)) (cond (decide (c<0)) ((idx k f).bind fun aE=>cond (decide (d<(aE.length:Int))) ((idx k f).bind fun aF=>(idx aF d).bind fun aG=>(idx l.Comes aG).bind fun aH=>cond (decide (aH≤a)) ((idx k f).bind fun aI=>(idx aI d).bind fun e=>(idx b e).bind fun g=>(i64 (d+1)).bind fun _=>cond (decide (e<0)) ((i64 (a+1)).bind fun _=>Bt i k l f m (d+1) e (0:Int) (0:Int) (a+1) (b.set e.toNat (⟨a,g.AG,g.Ar⟩:Ag))) ((idx l.Ap a).bind fun aJ=>cond (aJ) ((idx i.Ac e).bind fun aK=>cond ((0:Int)==aK.Ar) ((idx (b.set e.toNat (⟨a,g.AG,g.Ar⟩:Ag)) e).bind fun p=>(idx ((b.set e.toNat (⟨a,g.AG,g.Ar⟩:Ag)).set e.toNat (⟨p.On,a,p.Ar⟩:Ag)) e).bind fun v=>(i64 (a+1)).bind fun _=>Bt i k l f m (d+1) (-1) (0:Int) ((0:Int)+(1:Int)) (a+1) (((b.set e.toNat (⟨a,g.AG,g.Ar⟩:Ag)).set e.toNat (⟨p.On,a,p.Ar⟩:Ag)).set e.toNat (⟨v.On,v.AG,true⟩:Ag))) ((idx i.Ac e).bind fun aL=>cond (((0:Int)+(1:Int))==aL.BV) ((idx (b.set e.toNat (⟨a,g.AG,g.Ar⟩:Ag)) e).bind fun w=>(i64 (a+1)).bind fun _=>Bt i k l f m (d+1) (-1) (0:Int) ((0:Int)+(1:Int)) (a+1) ((b.set e.toNat (⟨a,g.AG,g.Ar⟩:Ag)).set e.toNat (⟨w.On,a,w.Ar⟩:Ag))) ((i64 (a+1)).bind fun _=>Bt i k l f m (d+1) e (0:Int) ((0:Int)+(1:Int)) (a+1) (b.set e.toNat (⟨a,g.AG,g.Ar⟩:Ag))))) ((idx i.Ac e).bind fun aM=>cond (((0:Int)+(1:Int))==aM.Ar) ((idx (b.set e.toNat (⟨a,g.AG,g.Ar⟩:Ag)) e).bind fun q=>(idx ((b.set e.toNat (⟨a,g.AG,g.Ar⟩:Ag)).set e.toNat (⟨q.On,a,q.Ar⟩:Ag)) e).bind fun x=>(i64 (a+1)).bind fun _=>Bt i k l f m (d+1) (-1) ((0:Int)+(1:Int)) (0:Int) (a+1) (((b.set e.toNat (⟨a,g.AG,g.Ar⟩:Ag)).set e.toNat (⟨q.On,a,q.Ar⟩:Ag)).set e.toNat (⟨x.On,x.AG,true⟩:Ag))) ((idx i.Ac e).bind fun aN=>cond ((0:Int)==aN.BV) ((idx (b.set e.toNat (⟨a,g.AG,g.Ar⟩:Ag)) e).bind fun y=>(i64 (a+1)).bind fun _=>Bt i k l f m (d+1) (-1) ((0:Int)+(1:Int)) (0:Int) (a+1) ((b.set e.toNat (⟨a,g.AG,g.Ar⟩:Ag)).set e.toNat (⟨y.On,a,y.Ar⟩:Ag))) ((i64 (a+1)).bind fun _=>Bt i k l f m (d+1) e ((0:Int)+(1:Int)) (0:Int) (a+1) (b.set e.toNat (⟨a,g.AG,g.Ar⟩:Ag))))))) ((i64 (a+1)).bind fun _=>Bt i k l f m d c h j (a+1) b)) ((i64 (a+1)).bind fun _=>Bt i k l f m d c h j (a+1) b)) ((idx l.Ap a).bind fun z=>cond (z) ((i64 (j+1)).bind fun _=>(idx i.Ac c).bind fun aA=>cond (h==aA.Ar) ((idx b c).bind fun n=>(idx (b.set c.toNat (⟨n.On,a,n.Ar⟩:Ag)) c).bind fun r=>(i64 (a+1)).bind fun _=>Bt i k l f m d (-1) h (j+1) (a+1) ((b.set c.toNat (⟨n.On,a,n.Ar⟩:Ag)).set c.toNat (⟨r.On,r.AG,true⟩:Ag))) ((idx i.Ac c).bind fun aB=>cond ((j+1)==aB.BV) ((idx b c).bind fun s=>(i64 (a+1)).bind fun _=>Bt i k l f m d (-1) h (j+1) (a+1) (b.set c.toNat (⟨s.On,a,s.Ar⟩:Ag))) ((i64 (a+1)).bind fun _=>Bt i k l f m d c h (j+1) (a+1) b))) ((i64 (h+1)).bind fun _=>(idx i.Ac c).bind fun aC=>cond ((h+1)==aC.Ar) ((idx b c).bind fun o=>(idx (b.set c.toNat (⟨o.On,a,o.Ar⟩:Ag)) c).bind fun t=>(i64 (a+1)).bind fun _=>Bt i k l f m d (-1) (h+1) (0:Int) (a+1) ((b.set c.toNat (⟨o.On,a,o.Ar⟩:Ag)).set c.toNat (⟨t.On,t.AG,true⟩:Ag))) ((idx i.Ac c).bind fun aD=>cond ((0:Int)==aD.BV) ((idx b c).bind fun u=>(i64 (a+1)).bind fun _=>Bt i k l f m d (-1) (h+1) (0:Int) (a+1) (b.set c.toNat (⟨u.On,a,u.Ar⟩:Ag))) ((i64 (a+1)).bind fun _=>Bt i k l f m d c (h+1) (0:Int) (a+1) b))))) (some (b))
def DT(d:Nat)(e:Ao)(c:List (List Int))(f:AU):Nat→Int→(List Ag)→Option ((List Ag))
 |0,_,_=>none
 |h+1,a,b=>cond (decide (a<(c.length:Int))) ((Bt e c f a d (0:Int) (-1) (0:Int) (0:Int) (0:Int) b).bind fun g=>(i64 (a+1)).bind fun _=>DT d e c f h (a+1) g) (some (b))
def Fg(a:Nat)(b:Ao)(d:List (List Int))(e:AU):Option ((List Ag)):=
 (JQ (b.Ac.length:Int) 24).bind fun _=>(Du a (0:Int) (List.replicate (b.Ac.length:Int).toNat (⟨0,0,false⟩:Ag))).bind fun z5=>(DT a b d e a (0:Int) z5).bind fun c=>some (c)
def Ey(c:Nat)(b:A5)(a:Ag):Option (Bool):=
 cond (a.Ar) (some (decide (a.AG≤b.Ce))) (some (false))
def Dv(d:Nat)(e:Ao)(c:List Ag):Nat→Int→Int→Option (Int)
 |0,_,_=>none
 |f+1,b,a=>cond (decide (a<(c.length:Int))) ((idx e.Ac a).bind fun g=>(idx c a).bind fun h=>(Ey d g h).bind fun i=>cond (!i) ((i64 (b+1)).bind fun _=>(i64 (a+1)).bind fun _=>Dv d e c f (b+1) (a+1)) ((i64 (a+1)).bind fun _=>Dv d e c f b (a+1))) (some (b))
def F5(a:Nat)(b:Ao)(c:List Ag):Option (Int):=
 (Dv a b c a (0:Int) (0:Int)).bind fun z2=>some (z2)
def D6(c:Nat)(d:Ao)(e:List AU)(f:List (List Int)):Nat→Int→Int→Option (Int)
 |0,_,_=>none
 |g+1,b,a=>cond (decide (a<(e.length:Int))) ((idx e a).bind fun h=>(Fg c d f h).bind fun i=>(F5 c d i).bind fun j=>(i64 (a+1)).bind fun _=>D6 c d e f g (max b j) (a+1)) (some (b))
def Fh(a:Nat)(b:Ao)(c:List AU)(d:List (List Int)):Option (Int):=
 (D6 a b c d a (0:Int) (0:Int)).bind fun z2=>some (z2)
def Da(e:Nat)(f:Ao)(c:(List Ag)):Nat→Int→(List Int)→Option ((List Int))
 |0,_,_=>none
 |g+1,a,b=>cond (decide (a<(c.length:Int))) ((idx f.Ac a).bind fun h=>(idx c a).bind fun i=>(Ey e h i).bind fun j=>cond (j) ((idx b a).bind fun d=>(i64 (d+1)).bind fun _=>(idx b a).bind fun k=>(i64 (a+1)).bind fun _=>Da e f c g (a+1) (b.set a.toNat (d+1))) ((i64 (a+1)).bind fun _=>Da e f c g (a+1) b)) (some (b))
def DU(c:Nat)(d:Ao)(e:List AU)(f:List (List Int)):Nat→Int→(List Int)→Option ((List Int))
 |0,_,_=>none
 |h+1,a,b=>cond (decide (a<(e.length:Int))) ((idx e a).bind fun i=>(Fg c d f i).bind fun j=>(Da c d j c (0:Int) b).bind fun g=>(i64 (a+1)).bind fun _=>DU c d e f h (a+1) g) (some (b))
def EV(b:Nat)(a:Ao)(c:List AU)(d:List (List Int)):Option ((List Int)):=
 (JQ (a.Ac.length:Int) 8).bind fun _=>(DU b a c d b (0:Int) (List.replicate (a.Ac.length:Int).toNat (0:Int))).bind fun z4=>some (z4)
def Dw(e:(List AU))(d:(List Int)):Nat→Int→Int→Int→Option (Int×Int)
 |0,_,_,_=>none
 |f+1,c,b,a=>cond (decide (a<(d.length:Int))) ((idx d a).bind fun g=>cond (g==(e.length:Int)) ((i64 (b+1)).bind fun _=>(Mq .u64 a).bind fun _=>(JE (1:Int) a).bind fun _=>(OC c (FG (1:Int) a)).bind fun _=>(i64 (a+1)).bind fun _=>Dw e d f (Mp c (FG (1:Int) a)) (b+1) (a+1)) ((i64 (a+1)).bind fun _=>Dw e d f c b (a+1))) (some ((c,b)))
def Em(e:Nat)(i:Ao)(f:(List AU))(g:(List (List (List Int)))):Nat→Int→Int→Int→Int→Option (Int×Int×Int)
 |0,_,_,_,_=>none
 |m+1,b,c,d,a=>cond (decide (a<(g.length:Int))) ((idx g a).bind fun n=>(Fh e i f n).bind fun j=>(idx g a).bind fun k=>(EV e i f k).bind fun l=>(Dw f l e d (0:Int) (0:Int)).bind fun h=>(i64 (a+1)).bind fun _=>Em e i f g m (min b j) (max c h.2) h.1 (a+1)) (some ((b,c,d)))
def Ge(a:Nat)(b:Ao):Option (Int×Int×Int):=
 (EM a b).bind fun d=>(Fz a b).bind fun e=>(Em a b d e a (b.Ac.length:Int) (0:Int) (0:Int) (0:Int)).bind fun c=>some ((c.1,c.2.1,c.2.2))
end Go.Proofs.YtkljfdkmjdjpfaaGreat
end
section
set_option linter.unusedVariables false
set_option linter.unusedSimpArgs false
namespace Go.Proofs.YtkljfdkmjdjpfaaGreat
open Go.RowKit Go.WideShapes
def Ew(a:Nat):Option (Bool):=
 (CP a 1).bind fun r1=>(GV a 3).bind fun v=>(GN a r1 [[0,1]] v).bind fun h=>(CP a 1).bind fun w=>(Fx a w [[0,1]] 1).bind fun d=>(CP a 1).bind fun i=>(Fx a i [[1,0]] 0).bind fun e=>(CP a 1).bind fun j=>(GO a j [[1,0]]).bind fun b=>(CP a 1).bind fun k=>(GP a k).bind fun c=>(CP a 1).bind fun l=>(GQ a l).bind fun f=>(CP a 1).bind fun m=>(Fy a m).bind fun g=>cond (h.2==0) ((Fb a 0 1 true).bind fun n=>(Fb a 2 3 false).bind fun o=>(GW a h.1 n o).bind fun p=>cond (p) (cond (d.2==0) (cond (d.1==3) (cond (e.2==0) (cond (e.1==2) (cond (b.2.2==0) (cond (b.1==2) ((CP a 1).bind fun q=>(FX a q [[1,0]] b.2.1 2).bind fun r=>cond (r) (cond (c.2.2==0) (cond (c.2.1==1) ((CP a 1).bind fun s=>(FB a s c.1 1).bind fun t=>cond (t) (cond (f.2.2==0) (cond (f.2.1==1) (cond (g.2==0) ((Fc a g.1 [1]).bind fun u=>some (u)) (some (false))) (some (false))) (some (false))) (some (false))) (some (false))) (some (false))) (some (false))) (some (false))) (some (false))) (some (false))) (some (false))) (some (false))) (some (false))) (some (false))) (some (false))
end Go.Proofs.YtkljfdkmjdjpfaaGreat
end
section
namespace Go.Proofs.YtkljfdkmjdjpfaaGreat
theorem bd{α β:Type}{x:Option α}{a:α}{f:α→Option β}(h:x=some a):x.bind f=f a:=by rw[h];rfl
theorem Bv{β:Type}{x:Int}{f:Int→Option β}(h0:-9223372036854775808≤x)(a:x≤9223372036854775807):(i64 x).bind f=f x:=bd (U8 h0 a)
theorem BZ{α β:Type}{xs:List α}{k:Nat}{f:α→Option β}(h:k<xs.length):(idx xs (k:Int)).bind f=f xs[k]:=bd (idx_eq h)
theorem F6{β:Type}{p:Prop}[Decidable p]{f:Unit→Option β}(h:p):(Gi p).bind f=f ():=bd (if_pos h)
theorem QG{β:Type}{a b:Int}{f:Int→Option β}(h0:0≤a)(c:1≤b):(rem a b).bind f=f (a%b):=bd (if_pos ⟨h0,c⟩)
theorem Vl{β:Type}{a b:Int}{f:Int→Option β}(h0:0≤a)(c:1≤b):(quo a b).bind f=f (a/b):=bd (if_pos ⟨h0,c⟩)
theorem NG{β:Type}{n:Int}{b:Nat}{f:Unit→Option β}(h0:0≤n)(a:n*b≤140737488355328)(c:n≤140737488355328):(JQ n b).bind f=f ():=bd (if_pos ⟨h0,a,c⟩)
theorem ct{α:Type}{b:Bool}{x y:α}(h:b=true):cond b x y=x:=by rw[h];rfl
theorem cf{α:Type}{b:Bool}{x y:α}(h:b=false):cond b x y=y:=by rw[h];rfl
theorem nt{α:Type}{x y:α}:cond (!true) x y=y:=rfl
theorem nf{α:Type}{x y:α}:cond (!false) x y=x:=rfl
theorem dt{p:Prop}[Decidable p](h:p):decide p=true:=decide_eq_true h
theorem df{p:Prop}[Decidable p](h:¬p):decide p=false:=decide_eq_false h
theorem CJ(i:Nat):(i:Int)+1=((i+1:Nat):Int):=by omega
def FZ(n a b:Int):Bool:=decide (a≤n)&&decide (n≤b)
theorem Fi{n a b:Int}:FZ n a b=true↔a≤n∧n≤b:=by simp[FZ]
theorem MZ(K:Nat)(n a b:Int):DO K n a b=some (FZ n a b):=by unfold DO FZ;cases decide (a≤n)<;>rfl
theorem HO(K:Nat)(n a b:Int):EI K n a b=some (FZ n a b):=by unfold EI FZ;cases decide (a≤n)<;>rfl
def run {σ α:Type} (cb:σ→α→Option (Bool×σ)):List α→σ→Option (Bool×σ)
 |[],s=>some (true,s)
 |x::l,s=>(cb s x).bind fun r=>cond r.1 (run cb l r.2) (some (false,r.2))
theorem H8{σ α:Type}(cb:σ→α→Option (Bool×σ))(a:List α):∀(b:List α) (s:σ),run cb (b++a) s=(run cb b s).bind fun r=>cond r.1 (run cb a r.2) (some (false,r.2))
 |[],s=>rfl
 |x::l,s=>by
  simp only[List.cons_append,run];cases cb s x with
  |none=>rfl
  |some r=>
   simp only[Option.bind_some];cases h:r.1 with
   |false=>simp
   |true=>simpa using H8 cb a l r.2
theorem run_map{σ α β:Type}(cb:σ→β→Option (Bool×σ))(f:α→β):∀(l:List α) (s:σ),run cb (l.map f) s=run (fun s x=>cb s (f x)) l s
 |[],s=>rfl
 |x::l,s=>by simp only[List.map_cons,run,run_map cb f l]
theorem QH{σ:Type}(K:Nat)(cb:σ→Bool→Option (Bool×σ))(p:List Bool)(a:p.length≤5000):∀(n m i:Nat) (s:σ),p.length=i+n→n<m→
  (C5 (fun(st:σ) (x:Bool)=>(EO K cb x st).bind fun r=>some (r.1,r.2)) p m (i:Int) s).bind (fun z=>Sum.elim (fun q=>some (decide ((0:Int)≤q.1),q.2)) (fun q=>some (false,q)) z)=(run cb (p.drop i) s).bind fun r=>some (!r.1,r.2):=by
 intro n
 induction n with
 |zero=>
  intro m i s h hm;cases m with
  |zero=>omega
  |succ m=>
   rw[C5.eq_2,cf (df (by omega)),List.drop_eq_nil_of_le (by omega)];rfl
 |succ n ih=>
  intro m i s h hm;cases m with
  |zero=>omega
  |succ m=>
   have hi:i<p.length:=by omega
   rw[C5.eq_2,ct (dt (by omega)),BZ hi,List.drop_eq_getElem_cons hi];simp only[run];have e:(EO K cb p[i] s).bind (fun r=>some (r.1,r.2))=(cb s p[i]).bind fun r=>some (!r.1,r.2):=by
    unfold EO;cases cb s p[i]<;>rfl
   rw[e];cases b:cb s p[i] with
   |none=>rfl
   |some r=>
    simp only[Option.bind_some];cases c:r.1 with
    |false=>
     show some (decide ((0:Int)≤(i:Int)),r.2)=some (!false,r.2);rw[dt (by omega)];rfl
    |true=>
     rw[nt,Bv (by omega) (by omega),CJ];exact ih m (i+1) r.2 (by omega) (by omega)
theorem QI{σ:Type}{K:Nat}(cb:σ→Bool→Option (Bool×σ))(p:List Bool)(s:σ)(b:p.length≤5000)(hK:p.length<K):GG K cb p s=run cb p s:=by
 unfold GG E0 FI;have h:=QH K cb p b p.length K 0 s (by omega) hK;rw[List.drop_zero,Int.natCast_zero] at h;have e:∀(z:(Int×σ)⊕σ),(Sum.elim (fun a=>some ((a.1,a.2))) (fun a=>some (((-1),a))) z:Option (Int×σ)).bind (fun r1=>some ((decide ((0:Int)≤r1.1),r1.2)))=Sum.elim (fun q=>some (decide ((0:Int)≤q.1),q.2)) (fun q=>some (false,q)) z:=by
  intro z;cases z<;>rfl
 refine Eq.trans (congrArg (fun z=>Option.bind z _) ((Option.bind_assoc _ _ _).trans ((congrArg (fun f=>Option.bind _ f) (funext e)).trans h))) ?_;cases run cb p s with
 |none=>rfl
 |some r=>show some (!(!r.1),r.2)=some r;rw[Bool.not_not]
theorem Rg{σ:Type}(K:Nat)(cb:σ→A5→Option (Bool×σ))(p:List A5)(a:p.length≤5000):∀(n m i:Nat) (s:σ),p.length=i+n→n<m→
  (Dg (fun(st:σ) (x:A5)=>(E8 K cb x st).bind fun r=>some (r.1,r.2)) p m (i:Int) s).bind (fun z=>Sum.elim (fun q=>some (decide ((0:Int)≤q.1),q.2)) (fun q=>some (false,q)) z)=(run cb (p.drop i) s).bind fun r=>some (!r.1,r.2):=by
 intro n
 induction n with
 |zero=>
  intro m i s h hm;cases m with
  |zero=>omega
  |succ m=>
   rw[Dg.eq_2,cf (df (by omega)),List.drop_eq_nil_of_le (by omega)];rfl
 |succ n ih=>
  intro m i s h hm;cases m with
  |zero=>omega
  |succ m=>
   have hi:i<p.length:=by omega
   rw[Dg.eq_2,ct (dt (by omega)),BZ hi,List.drop_eq_getElem_cons hi];simp only[run];have e:(E8 K cb p[i] s).bind (fun r=>some (r.1,r.2))=(cb s p[i]).bind fun r=>some (!r.1,r.2):=by
    unfold E8;cases cb s p[i]<;>rfl
   rw[e];cases b:cb s p[i] with
   |none=>rfl
   |some r=>
    simp only[Option.bind_some];cases c:r.1 with
    |false=>
     show some (decide ((0:Int)≤(i:Int)),r.2)=some (!false,r.2);rw[dt (by omega)];rfl
    |true=>
     rw[nt,Bv (by omega) (by omega),CJ];exact ih m (i+1) r.2 (by omega) (by omega)
theorem Rh{σ:Type}{K:Nat}(cb:σ→A5→Option (Bool×σ))(p:List A5)(s:σ)(b:p.length≤5000)(hK:p.length<K):G1 K cb p s=run cb p s:=by
 unfold G1 Fl F1;have h:=Rg K cb p b p.length K 0 s (by omega) hK;rw[List.drop_zero,Int.natCast_zero] at h;have e:∀(z:(Int×σ)⊕σ),(Sum.elim (fun a=>some ((a.1,a.2))) (fun a=>some (((-1),a))) z:Option (Int×σ)).bind (fun r1=>some ((decide ((0:Int)≤r1.1),r1.2)))=Sum.elim (fun q=>some (decide ((0:Int)≤q.1),q.2)) (fun q=>some (false,q)) z:=by
  intro z;cases z<;>rfl
 refine Eq.trans (congrArg (fun z=>Option.bind z _) ((Option.bind_assoc _ _ _).trans ((congrArg (fun f=>Option.bind _ f) (funext e)).trans h))) ?_;cases run cb p s with
 |none=>rfl
 |some r=>show some (!(!r.1),r.2)=some r;rw[Bool.not_not]
def okW (W R:Int):List Bool→Int→Int→Bool
 |[],_,_=>true
 |false::l,s,_=>okW W R l s 0
 |true::l,s,r=>decide (s+1≤W)&&(decide (r+1≤R)&&okW W R l (s+1) (r+1))
theorem Kk(K:Nat)(y:Ao):∀(l:List Bool) (r s:Int),0≤r→0≤s→r+l.length≤5000→s+l.length≤5000→
  (run (fun(st:Int×Int) (x:Bool)=>(D4 K x st.1 st.2 y).bind fun r=>some (r.1,(r.2.1,r.2.2))) l (r,s)).bind (fun d=>some (d.1))=some (okW y.Ap y.Ax l s r)
 |[],r,s,_,_,_,_=>rfl
 |false::l,r,s,e,c,a,b=>by
  simp only[run,okW];unfold D4;simp only[Bool.not_false,cond_true,Option.bind_some];exact Kk K y l 0 s (by omega) c (by simp at a;omega) (by simp at b;omega)
 |true::l,r,s,e,c,a,b=>by
  simp only[List.length_cons] at a b;simp only[run,okW];unfold D4;simp only[Bool.not_true,cond_false];rw[Bv (by omega) (by omega),Bv (by omega) (by omega)];cases f:decide (s+1≤y.Ap) with
  |false=>simp
  |true=>
   simp only[cond_true,Option.bind_some];cases g:decide (r+1≤y.Ax) with
   |false=>simp
   |true=>
    simp only[cond_true,Bool.true_and];exact Kk K y l (r+1) (s+1) (by omega) (by omega) (by omega) (by omega)
theorem NH{K:Nat}(y:Ao)(l:List Bool)(a:l.length≤4000)(hK:l.length<K):ES K y l=some (okW y.Ap y.Ax l 0 0):=by
 unfold ES;rw[QI _ l _ (by omega) hK];exact Kk K y l 0 0 (by omega) (by omega) (by omega) (by omega)
end Go.Proofs.YtkljfdkmjdjpfaaGreat
end
section
namespace Go.Proofs.YtkljfdkmjdjpfaaGreat
theorem PU(s x:Nat):FQ (s:Int) (x:Int)=((s/2^x:Nat):Int):=by
 unfold FQ;rw[Int.toNat_natCast,Int.natCast_ediv,Int.natCast_pow];rfl
theorem TR(s x:Nat):FQ (s:Int) (x:Int)%2=((s/2^x%2:Nat):Int):=by rw[PU];simp
theorem Ri(b d:Nat):(FQ (b:Int) (d:Int)%2==1)=b.testBit d:=by
 rw[TR,Nat.testBit_eq_decide_div_mod_eq];cases h:decide (b/2^d%2=1) with
 |true=>rw[of_decide_eq_true h];rfl
 |false=>
  have:=of_decide_eq_false h;simp only[beq_eq_false_iff_ne,ne_eq];omega
theorem Rj(b d:Nat)(h:d<64):OB (b:Int) (d:Int)=some ():=if_pos ⟨by omega,by omega⟩
theorem Vm(b d:Nat):0≤FQ (b:Int) (d:Int):=by rw[PU];exact Int.natCast_nonneg _
def wl (n b:Nat):List Bool:=(List.range n).map b.testBit
theorem F7(n b:Nat):(wl n b).length=n:=by simp[wl]
theorem Wr(b n:Nat)(a:List Bool)(h0:a.length=n)(d:n≤63):∀(k m i:Nat) (s:List Bool),n=i+k→k<m→s.length=n→
  CV (b:Int) a m (i:Int) s=some (s.take i++(List.range' i k).map b.testBit):=by
 intro k
 induction k with
 |zero=>
  intro m i s h hm c;cases m with
  |zero=>omega
  |succ m=>
   rw[CV.eq_2,cf (df (by omega)),List.take_of_length_le (by omega)];simp
 |succ k ih=>
  intro m i s h hm c;cases m with
  |zero=>omega
  |succ m=>
   have hi:i<s.length:=by omega
   rw[CV.eq_2,ct (dt (by omega)),bd (Rj b i (by omega)),QG (Vm b i) (by omega),BZ hi,Bv (by omega) (by omega),CJ,Ri,Int.toNat_natCast];rw[ih m (i+1) (s.set i (b.testBit i)) (by omega) (by omega) (by rw[List.length_set];exact c)]
   congr 1
   rw[List.range'_succ,List.map_cons,List.take_add_one,List.getElem?_set_self hi,List.take_set_of_le (Nat.le_refl _)];simp
theorem Ws(b n:Nat)(s:List Bool)(c:n≤63){K:Nat}(hK:n<K)(a:s.length=n):CV (b:Int) s K 0 s=some (wl n b):=by
 have:=Wr b n s a c n K 0 s (by omega) hK a;rw[Int.natCast_zero] at this;rw[this,wl,List.range_eq_range'];rfl
def Hw (y:Ao) (l:List Bool):Bool:=okW y.Ap y.Ax l 0 0
def days(y:Ao):Nat:=(y.Ak+1).toNat
def Bu(y:Ao):List (List Bool):=((List.range (2^days y)).map (wl (days y))).filter (Hw y)
theorem Jc:∀n:Nat,n≤10→2^n≤1024:=by decide
theorem QJ{σ:Type}{K:Nat}(cb:σ→List Bool→Option (Bool×σ))(y:Ao)(f:days y≤10)(hK:2000≤K):∀(k m i:Nat) (a:List Bool) (st:σ),2^days y=i+k→k<m→a.length=days y→
  CX cb K y m (i:Int) a st=(run cb (((List.range' i k).map (wl (days y))).filter (Hw y)) st).bind fun r=>some (cond r.1 (.inr r.2) (.inl r.2)):=by
 intro k;have g:=Jc _ f;have b:FG (1:Int) ((List.replicate (y.Ak+1).toNat false).length:Int)=((2^days y:Nat):Int):=by
  unfold FG;rw[Int.one_mul,Int.toNat_natCast,List.length_replicate,Int.natCast_pow];rfl
 induction k with
 |zero=>
  intro m i a st h hm c;cases m with
  |zero=>omega
  |succ m=>
   rw[CX.eq_2,b,cf (df (by omega))];rfl
 |succ k ih=>
  intro m i a st h hm c;cases m with
  |zero=>omega
  |succ m=>
   rw[CX.eq_2,b,ct (dt (by omega)),bd (Ws i (days y) a (by omega) (by omega) c),bd (NH y (wl (days y) i) (by rw[F7];omega) (by rw[F7];omega))];rw[List.range'_succ,List.map_cons];show cond (Hw y (wl (days y) i)) _ _=_;cases d:Hw y (wl (days y) i) with
   |false=>
    rw[List.filter_cons_of_neg (by rw[d];decide),cf rfl,Bv (by omega) (by omega),CJ];exact ih m (i+1) _ st (by omega) (by omega) (F7 _ _)
   |true=>
    rw[List.filter_cons_of_pos d,ct rfl];show _=(Option.bind _ _:Option (Bool×σ)).bind _;cases j:cb st (wl (days y) i) with
    |none=>rfl
    |some r=>
     cases e:r.1 with
     |false=>
      show(cond (!r.1) (some (Sum.inl r.2)) _:Option (σ⊕σ))=(cond r.1 _ (some (false,r.2)):Option (Bool×σ)).bind _;rw[e];rfl
     |true=>
      show cond (!r.1) _ ((i64 ((i:Int)+1)).bind _)=(cond r.1 (run cb _ r.2) _:Option (Bool×σ)).bind _;rw[e,nt,Bv (by omega) (by omega),CJ];exact ih m (i+1) _ r.2 (by omega) (by omega) (F7 _ _)
theorem MA{σ:Type}{K:Nat}(cb:σ→List Bool→Option (Bool×σ))(y:Ao)(h0:0≤y.Ak)(h9:y.Ak≤9)(hK:2000≤K)(st:σ):
  DP K cb y st=(run cb (Bu y) st).bind fun r=>some r.2:=by
 have a:days y≤10:=by unfold days;omega
 have c:=Jc _ a;unfold DP;rw[Bv (by omega) (by omega),NG (by omega) (by omega) (by omega)];have b:JE (1:Int) ((List.replicate (y.Ak+1).toNat false).length:Int)=some ():=by
  rw[List.length_replicate];refine if_pos ⟨by omega,by omega,?_,?_⟩
  ·have:(0:Int)≤1*2^((days y:Nat):Int).toNat:=by rw[Int.one_mul];exact Int.le_of_lt (Int.pow_pos (by omega))
   exact Int.le_trans (by omega) this
  ·rw[Int.one_mul,Int.toNat_natCast];have:((2^days y:Nat):Int)≤1024:=by omega
   rw[Int.natCast_pow] at this;exact Int.le_trans this (by omega)
 rw[bd b];have:=QJ (K:=K) cb y a hK (2^days y) K 0 (List.replicate (y.Ak+1).toNat false) st (by omega) (by omega) (by rw[List.length_replicate];rfl);rw[Int.natCast_zero] at this;rw[this,Bu,List.range_eq_range',Option.bind_assoc]
 congr 1;funext r
 cases r.1<;>rfl
end Go.Proofs.YtkljfdkmjdjpfaaGreat
end
section
namespace Go.Proofs.YtkljfdkmjdjpfaaGreat
def GH(y:Ao)(l:A5):Bool:=decide (0≤l.As)&&(decide (l.As≤l.AJ)&&(decide (l.AJ≤y.Ak)&&(FZ l.Ar 1 5&&(FZ l.BV 1 5&&FZ l.Ce 0 y.Ak))))
def B8(l:A5):Int:=l.AJ-l.As+1
def Fm:List A5→Int
 |[]=>1
 |l::r=>B8 l*Fm r
def Gh (y:Ao):Int:=((Bu y).length:Int)*Fm y.Ac
def check(y:Ao):Int:=
 if 9<y.Ak∨2<y.Aj∨4<(y.Ac.length:Int) then 3
 else if y.Ak<0∨y.Aj<1∨FZ y.Ap 0 (y.Ak+1)=false∨FZ y.Ax 0 (y.Ak+1)=false∨y.Ac.all (GH y)=false then 1
 else if 1000<Gh y then 3 else 0
theorem Iz{y:Ao}{l:A5}:GH y l=true↔0≤l.As∧l.As≤l.AJ∧l.AJ≤y.Ak∧(1≤l.Ar∧l.Ar≤5)∧(1≤l.BV∧l.BV≤5)∧0≤l.Ce∧l.Ce≤y.Ak:=by
 unfold GH;simp only[Bool.and_eq_true,decide_eq_true_eq,Fi]
theorem Wt(K:Nat)(y:Ao)(l:A5):Fu K y l=some (GH y l):=by
 unfold Fu GH Hs He;rw[HO,HO,HO];cases decide ((0:Int)≤l.As)<;>cases decide (l.As≤l.AJ)<;>cases decide (l.AJ≤y.Ak)<;>cases FZ l.Ar 1 5<;>cases FZ l.BV 1 5<;>rfl
theorem Vn{K:Nat}(hK:2<K)(a b:Int):G2 K [a,b]=some (min a b):=by
 obtain⟨k,rfl⟩:∃k,K=k+3:=⟨K-3,by omega⟩;unfold G2 Ha;rw[cf (df (by simp)),show(0:Int)=((0:Nat):Int) from rfl,BZ (by simp),show(1:Int)=((1:Nat):Int) from rfl,ET.eq_2,ct (dt (by simp)),BZ (by simp),Bv (by omega) (by omega),ET.eq_2,cf (df (by simp))];rfl
theorem Rk(K:Nat)(l:A5)(h0:0≤l.As)(a:l.As≤l.AJ)(b:l.AJ≤9):FA K (⟨l.As,l.AJ⟩:CN)=some (B8 l):=by
 unfold FA;show(i64 (l.AJ-l.As)).bind _=_;rw[Bv (by omega) (by omega)];show(i64 (l.AJ-l.As+1)).bind _=_;rw[Bv (by omega) (by omega)];rfl
theorem Rl(K:Nat)(l:A5)(h0:0≤l.As)(a:l.As≤l.AJ)(b:l.AJ≤9):EB K (⟨l.As,l.AJ⟩:CN)=some (B8 l):=by
 unfold EB;show(i64 (l.AJ-l.As)).bind _=_;rw[Bv (by omega) (by omega)];show(i64 (l.AJ-l.As+1)).bind _=_;rw[Bv (by omega) (by omega)];rfl
def JH(c:Int):Int→List A5→Int
 |n,[]=>n
 |n,l::r=>JH c (min (n*B8 l) c) r
def sized(l:A5):Prop:=1≤B8 l∧B8 l≤10
theorem L3{y:Ao}{l:A5}(h9:y.Ak≤9)(h:GH y l=true):sized l:=by
 obtain⟨a,b,c,_⟩:=Iz.1 h;unfold sized B8;omega
theorem Ju:∀{ls:List A5},(∀l∈ls,sized l)→1≤Fm ls
 |[],_=>Int.le_refl _
 |l::r,h=>by
  have a:=(h l (List.mem_cons_self ..)).1;have b:=Ju (ls:=r) fun x c=>h x (List.mem_cons_of_mem _ c);have:=Int.mul_le_mul a b (by omega) (by omega);unfold Fm;omega
theorem M0{c:Int}(e:1000<c):∀{ls:List A5} (n:Int),0≤n→(∀l∈ls,sized l)→(1000<JH c n ls↔1000<n*Fm ls)
 |[],n,_,_=>by simp[JH,Fm]
 |l::r,n,f,h=>by
  have g:=h l (List.mem_cons_self ..);have b:∀x∈r,sized x:=fun x i=>h x (List.mem_cons_of_mem _ i);have d:=Ju b;have h0:0≤n*B8 l:=Int.mul_nonneg f (by have:=g.1;omega);unfold JH Fm;rw[M0 e _ (by omega) b,←Int.mul_assoc];rcases Int.le_total (n*B8 l) c with a|a
  ·rw[Int.min_eq_left a]
  ·rw[Int.min_eq_right a];have j:c*1≤c*Fm r:=Int.mul_le_mul_of_nonneg_left d (by omega);have k:(n*B8 l)*1≤n*B8 l*Fm r:=Int.mul_le_mul_of_nonneg_left d h0;constructor<;>intro _<;>omega
theorem PV{c:Int}(b:1000<c):∀{ls:List A5} (n:Int),0≤n→(∀l∈ls,sized l)→n*Fm ls≤1000→JH c n ls=n*Fm ls
 |[],n,_,_,_=>by simp[JH,Fm]
 |l::r,n,d,h,hle=>by
  have e:=h l (List.mem_cons_self ..);have a:∀x∈r,sized x:=fun x f=>h x (List.mem_cons_of_mem _ f);have g:=Ju a;have h0:0≤n*B8 l:=Int.mul_nonneg d (by have:=e.1;omega);rw[Fm,←Int.mul_assoc] at hle;rw[JH,Fm,←Int.mul_assoc];have i:(n*B8 l)*1≤n*B8 l*Fm r:=Int.mul_le_mul_of_nonneg_left g h0;rw[Int.min_eq_left (by omega),PV b _ h0 a hle]
theorem TS(y:Ao)(j:y.Ac.length≤4)(b:∀l∈y.Ac,sized l∧0≤l.As∧l.AJ≤9){K:Nat}(hK:2000≤K):∀(k m i:Nat) (n:Int),y.Ac.length=i+k→k<m→0≤n→n≤3000→
  Ek K y m (i:Int) n=some (JH 1001 n (y.Ac.drop i)):=by
 intro k
 induction k with
 |zero=>
  intro m i n h hm h0 a;cases m with
  |zero=>omega
  |succ m=>rw[Ek.eq_2,cf (df (by omega)),List.drop_eq_nil_of_le (by omega)];rfl
 |succ k ih=>
  intro m i n h hm h0 a;cases m with
  |zero=>omega
  |succ m=>
   have hi:i<y.Ac.length:=by omega
   obtain⟨⟨s1,s2⟩,c,d⟩:=b y.Ac[i] (List.getElem_mem hi);have e:1≤B8 y.Ac[i]∧B8 y.Ac[i]≤10:=⟨s1,s2⟩;have f:0≤n*B8 y.Ac[i]:=Int.mul_nonneg h0 (by omega);have g:n*B8 y.Ac[i]≤3000*10:=Int.mul_le_mul a s2 (by omega) (by omega);rw[Ek.eq_2,ct (dt (by omega)),BZ hi,bd (Rk K _ c (by unfold B8 at s1;omega) d),Bv (by omega) (by omega),bd (Vn (by omega) _ _),Bv (by omega) (by omega),CJ];rw[ih m (i+1) _ (by omega) (by omega) (by omega) (by omega),List.drop_eq_getElem_cons hi];rfl
theorem Vo(y:Ao)(j:y.Ac.length≤4)(b:∀l∈y.Ac,sized l∧0≤l.As∧l.AJ≤9){K:Nat}:∀(k m i:Nat) (n:Int),y.Ac.length=i+k→k<m→0≤n→n≤3000→
  D0 K y m n (i:Int)=some (JH 3000 n (y.Ac.drop i)):=by
 intro k
 induction k with
 |zero=>
  intro m i n h hm h0 a;cases m with
  |zero=>omega
  |succ m=>rw[D0.eq_2,cf (df (by omega)),List.drop_eq_nil_of_le (by omega)];rfl
 |succ k ih=>
  intro m i n h hm h0 a;cases m with
  |zero=>omega
  |succ m=>
   have hi:i<y.Ac.length:=by omega
   obtain⟨⟨s1,s2⟩,c,d⟩:=b y.Ac[i] (List.getElem_mem hi);have e:1≤B8 y.Ac[i]∧B8 y.Ac[i]≤10:=⟨s1,s2⟩;have f:0≤n*B8 y.Ac[i]:=Int.mul_nonneg h0 (by omega);have g:n*B8 y.Ac[i]≤3000*10:=Int.mul_le_mul a s2 (by omega) (by omega);rw[D0.eq_2,ct (dt (by omega)),BZ hi,bd (Rl K _ c (by unfold B8 at s1;omega) d),Bv (by omega) (by omega),Bv (by omega) (by omega),CJ,Int.min_comm];rw[ih m (i+1) _ (by omega) (by omega) (by omega) (by omega),List.drop_eq_getElem_cons hi];rfl
theorem NI{α:Type}:∀(l:List α) (n:Int),0≤n→n+l.length≤100000→run (fun(st:Int) (_:α)=>(i64 (st+1)).bind fun _=>some (true,st+1)) l n=some (true,n+l.length)
 |[],n,_,_=>by simp[run]
 |x::l,n,h0,a=>by
  simp only[List.length_cons] at a⊢;rw[run,Bv (by omega) (by omega)];show run _ l (n+1)=_;rw[NI l (n+1) (by omega) (by omega)]
  congr 2;omega
theorem K9(y:Ao)(h:days y≤10):(Bu y).length≤1024:=by
 have a:=Jc _ h;have:(Bu y).length≤((List.range (2^days y)).map (wl (days y))).length:=List.length_filter_le ..;simp at this;omega
theorem NJ{K:Nat}(y:Ao):∀(l:List A5),run (fun(st:Unit) (x:A5)=>(Fu K y x).bind fun r=>some (r,())) l ()=some (l.all (GH y),())
 |[]=>rfl
 |x::l=>by
  rw[run,Wt];show cond (GH y x) (run _ l ()) (some (false,()))=_;rw[NJ y l,List.all_cons];cases GH y x<;>rfl
theorem IV{K:Nat}(hK:2000≤K)(y:Ao):DQ K y=some (check y):=by
 unfold DQ check
 by_cases g:9<y.Ak
 ·rw[ct (dt g),if_pos (.inl g)]
 rw[cf (df g)]
 by_cases i:2<y.Aj
 ·rw[ct (dt i),if_pos (.inr (.inl i))]
 rw[cf (df i)]
 by_cases j:4<(y.Ac.length:Int)
 ·rw[ct (dt j),if_pos (.inr (.inr j))]
 rw[cf (df j),if_neg (by omega)]
 by_cases b:y.Ak<0
 ·rw[ct (dt b),if_pos (.inl b)]
 rw[cf (df b)]
 by_cases d:y.Aj<1
 ·rw[ct (dt d),if_pos (.inr (.inl d))]
 rw[cf (df d),Bv (by omega) (by omega),bd (HO ..)];cases r:FZ y.Ap 0 (y.Ak+1) with
 |false=>rw[nf,if_pos (.inr (.inr (.inl rfl)))]
 |true=>
  rw[nt,Bv (by omega) (by omega),bd (HO ..)];cases s:FZ y.Ax 0 (y.Ak+1) with
  |false=>rw[nf,if_pos (.inr (.inr (.inr (.inl rfl))))]
  |true=>
   rw[nt,Rh _ _ _ (by omega) (by omega),bd (NJ y y.Ac)];cases o:y.Ac.all (GH y) with
   |false=>rw[nf,if_pos (.inr (.inr (.inr (.inr rfl))))]
   |true=>
    rw[nt,if_neg (by simp[b,d])];have p:days y≤10:=by unfold days;omega
    have hw:=K9 y p;have m:∀l∈y.Ac,sized l∧0≤l.As∧l.AJ≤9:=fun l k=>by
     have n:=List.all_eq_true.1 o l k;have:=Iz.1 n;exact⟨L3 (by omega) n,this.1,by omega⟩
    have q:DP K (fun(st:Int) (x:List Bool)=>Fv st x) y (0:Int)=some ((Bu y).length:Int):=by
     rw[MA _ y (by omega) (by omega) hK];show(run (fun(st:Int) (_:List Bool)=>(i64 (st+1)).bind fun _=>some (true,st+1)) (Bu y) 0).bind _=_;rw[NI _ 0 (by omega) (by omega)];simp
    have a:=TS y (by omega) m hK y.Ac.length K 0 ((Bu y).length:Int) (by omega) (by omega) (by omega) (by omega);rw[Int.natCast_zero,List.drop_zero] at a;rw[bd q,bd a];have f:=M0 (c:=1001) (by omega) ((Bu y).length:Int) (by omega) fun l k=>(m l k).1;unfold Gh
    by_cases e:1000<((Bu y).length:Int)*Fm y.Ac
    ·rw[ct (dt (f.2 e)),if_pos e]
    ·rw[cf (df fun h=>e (f.1 h)),if_neg e]
end Go.Proofs.YtkljfdkmjdjpfaaGreat
end
section
namespace Go.Proofs.YtkljfdkmjdjpfaaGreat
def EW:List A5→List (List Int)
 |[]=>[[]]
 |l::r=>(List.range (B8 l).toNat).flatMap fun(n:Nat)=>(EW r).map fun c=>(l.As+(n:Int))::c
def BD(y:Ao):List AU:=(Bu y).flatMap fun w=>(EW y.Ac).map fun c=>⟨c,w⟩
section
variable{σ:Type}{K:Nat}(cb:σ→AU→Option (Bool×σ))(y:Ao)(w:List Bool)
def Tr (k i:Nat):Prop:=∀(c:List Int) (st:σ),c.length=y.Ac.length→
 (BW K cb k (i:Int) c w y st).map (fun z=>(z.1,z.2.2))=run (fun s d=>cb s ⟨c.take i++d,w⟩) (EW (y.Ac.drop i)) st∧
 ∀z,BW K cb k (i:Int) c w y st=some z→z.2.1.length=y.Ac.length∧z.2.1.take i=c.take i
def SE{α β:Type}:(Bool×α×β)⊕(α×β)→Bool×β
 |.inl x=>(false,x.2.2)
 |.inr x=>(true,x.2)
def Vp{α β:Type}:(Bool×α×β)⊕(α×β)→α
 |.inl x=>x.2.1
 |.inr x=>x.1
theorem SF(k i:Nat)(hi:i<y.Ac.length)(aL:y.Ac.length≤4)(aD:∀l∈y.Ac,sized l∧0≤l.As∧l.AJ≤9)(ih:Tr (K:=K) cb y w k (i+1)):
  ∀(n m j:Nat) (c:List Int) (st:σ),(B8 y.Ac[i]).toNat=j+n→n<m→c.length=y.Ac.length→
  (Cg (BW K cb k) (i:Int) w y (B8 y.Ac[i]) m (j:Int) c st).map SE=run (fun s d=>cb s ⟨c.take i++d,w⟩) ((List.range' j n).flatMap fun(q:Nat)=>(EW (y.Ac.drop (i+1))).map fun d=>(y.Ac[i].As+(q:Int))::d) st∧
  ∀z,Cg (BW K cb k) (i:Int) w y (B8 y.Ac[i]) m (j:Int) c st=some z→(Vp z).length=y.Ac.length∧(Vp z).take i=c.take i∧(∀x,z=.inl x→x.1=false):=by
 obtain⟨⟨s1,s2⟩,aM,aN⟩:=aD y.Ac[i] (List.getElem_mem hi);have aJ:1≤B8 y.Ac[i]∧B8 y.Ac[i]≤10:=⟨s1,s2⟩;intro n
 induction n with
 |zero=>
  intro m j c st h hm o;cases m with
  |zero=>omega
  |succ m=>
   rw[Cg.eq_2,cf (df (by omega))];exact⟨rfl,fun z b=>by cases b;exact⟨o,rfl,fun x p=>by cases p⟩⟩
 |succ n u=>
  intro m j c st h hm o;cases m with
  |zero=>omega
  |succ m=>
   have f:i<c.length:=by omega
   have aK:y.Ac[i].As≤9:=by unfold B8 at s1;omega
   rw[Cg.eq_2,ct (dt (by omega)),BZ hi,Bv (by omega) (by omega),BZ f,Bv (by omega) (by omega),CJ i,Int.toNat_natCast];have v:(c.set i (y.Ac[i].As+(j:Int))).length=y.Ac.length:=by rw[List.length_set];exact o
   have g:(c.set i (y.Ac[i].As+(j:Int))).take (i+1)=c.take i++[y.Ac[i].As+(j:Int)]:=by
    rw[List.take_add_one,List.getElem?_set_self f,List.take_set_of_le (Nat.le_refl _)];rfl
   obtain⟨t,aE⟩:=ih _ st v;rw[g] at t;rw[List.range'_succ,List.flatMap_cons,H8,run_map];have aF:run (fun s d=>cb s ⟨c.take i++[y.Ac[i].As+(j:Int)]++d,w⟩) (EW (y.Ac.drop (i+1))) st=run (fun s d=>cb s ⟨c.take i++(y.Ac[i].As+(j:Int))::d,w⟩) (EW (y.Ac.drop (i+1))) st:=by
    congr 1;funext s d;rw[List.append_assoc];rfl
   rw[aF] at t;rw[←t];cases aG:BW K cb k ((i+1:Nat):Int) (c.set i (y.Ac[i].As+(j:Int))) w y st with
   |none=>exact⟨rfl,fun z b=>by cases b⟩
   |some r=>
    obtain⟨aA,aH⟩:=aE r aG;have aB:r.2.1.take i=c.take i:=by
     have:=congrArg (List.take i) aH;rw[List.take_take,Nat.min_eq_left (by omega),g,List.take_append_of_le_length (by rw[List.length_take];omega),List.take_take,Nat.min_self] at this;exact this
    obtain⟨aI,rc,e⟩:=r;cases aI with
    |false=>
     refine⟨rfl,fun z b=>?_⟩;have aC:some (Sum.inl (false,rc,e))=some z:=b;cases aC;exact⟨aA,aB,fun x p=>by cases p;rfl⟩
    |true=>
     have key:(Option.bind (some (true,rc,e)) fun a=>cond (!a.1) (some (Sum.inl (false,a.2.1,a.2.2))) ((i64 ((j:Int)+1)).bind fun _=>Cg (BW K cb k) (i:Int) w y (B8 y.Ac[i]) m ((j:Int)+1) a.2.1 a.2.2))=Cg (BW K cb k) (i:Int) w y (B8 y.Ac[i]) m ((j+1:Nat):Int) rc e:=by
      rw[Option.bind_some,nt,Bv (by omega) (by omega),CJ j]
     have:=u m (j+1) rc e (by omega) (by omega) aA;rw[aB] at this;rw[key];exact this
theorem QK(t:y.Ac.length≤4)(g:∀l∈y.Ac,sized l∧0≤l.As∧l.AJ≤9)(hK:2000≤K):∀(n k i:Nat),y.Ac.length=i+n→n<k→Tr (K:=K) cb y w k i:=by
 intro n
 induction n with
 |zero=>
  intro k i h u c st f;cases k with
  |zero=>omega
  |succ k=>
   rw[BW.eq_2,ct (by rw[f,h];simp),List.drop_eq_nil_of_le (by omega)];have j:c.take i=c:=List.take_of_length_le (by omega);rw[j];simp only[EW,run,List.append_nil];cases cb st ⟨c,w⟩ with
   |none=>exact⟨rfl,fun z a=>by cases a⟩
   |some r=>
    obtain⟨b,s⟩:=r;refine⟨by cases b<;>rfl,fun z a=>?_⟩;have e:some (b,c,s)=some z:=a;cases e;exact⟨f,j⟩
 |succ n ih=>
  intro k i h u c st f;cases k with
  |zero=>omega
  |succ k=>
   have hi:i<y.Ac.length:=by omega
   obtain⟨⟨s1,s2⟩,v,aA⟩:=g y.Ac[i] (List.getElem_mem hi);rw[BW.eq_2,cf (by rw[f];simp;omega),BZ hi,bd (Rk K _ v (by unfold B8 at s1;omega) aA)];obtain⟨m,o⟩:=SF cb y w k i hi t g (ih k (i+1) (by omega) (by omega)) (B8 y.Ac[i]).toNat K 0 c st (by omega) (by omega) f;rw[Int.natCast_zero] at m o;rw[List.drop_eq_getElem_cons hi,EW,List.range_eq_range',←m];cases aB:Cg (BW K cb k) (i:Int) w y (B8 y.Ac[i]) K 0 c st with
   |none=>exact⟨rfl,fun z a=>by cases a⟩
   |some r=>
    obtain⟨p,q,aC⟩:=o r aB;cases r with
    |inl x=>
     obtain⟨b,d,s⟩:=x;obtain rfl:=aC _ rfl;refine⟨rfl,fun z a=>?_⟩;have e:some (false,d,s)=some z:=a;cases e;exact⟨p,q⟩
    |inr x=>
     obtain⟨d,s⟩:=x;refine⟨rfl,fun z a=>?_⟩;have e:some (true,d,s)=some z:=a;cases e;exact⟨p,q⟩
end
theorem NK{σ:Type}{K:Nat}(cb:σ→AU→Option (Bool×σ))(y:Ao)(e:y.Ac.length≤4)(f:∀l∈y.Ac,sized l∧0≤l.As∧l.AJ≤9)(hK:2000≤K):∀(ws:List (List Bool)) (c:List Int) (st:σ),c.length=y.Ac.length→
  (run (fun(st:(List Int)×σ×Bool) (x:(List Bool))=>cond st.2.2 none (DB cb K y st.1 st.2.1 x)) ws (c,st,false)).bind (fun a=>cond (a.2.2.2) (some (a.2.2.1)) (some (a.2.2.1)))=
  (run cb (ws.flatMap fun w=>(EW y.Ac).map fun c=>(⟨c,w⟩:AU)) st).bind fun r=>some r.2
 |[],c,st,_=>rfl
 |w::ws,c,st,i=>by
  obtain⟨g,h⟩:=QK cb y w e f hK y.Ac.length K 0 (by omega) (by omega) c st i;rw[Int.natCast_zero,List.drop_zero,List.take_zero] at g;rw[Int.natCast_zero] at h;rw[List.flatMap_cons,H8,run_map];have j:run (fun s d=>cb s ⟨[]++d,w⟩) (EW y.Ac) st=run (fun s d=>cb s (⟨d,w⟩:AU)) (EW y.Ac) st:=rfl;rw[←j,←g,run];show(Option.bind (DB cb K y c st w) _:Option _).bind _=_;unfold DB;cases k:BW K cb K 0 c w y st with
  |none=>rfl
  |some r=>
   obtain⟨m,n⟩:=h r k;obtain⟨b,d,s⟩:=r;cases b with
   |false=>rfl
   |true=>
    show(run _ ws (d,s,false)).bind _=(run cb _ s).bind _;exact NK cb y e f hK ws d s m
theorem SG{σ:Type}{K:Nat}(cb:σ→AU→Option (Bool×σ))(y:Ao)(h0:0≤y.Ak)(h9:y.Ak≤9)(a:y.Ac.length≤4)(b:∀l∈y.Ac,sized l∧0≤l.As∧l.AJ≤9)(hK:2000≤K)(st:σ):
  Fw K cb y st=(run cb (BD y) st).bind fun r=>some r.2:=by
 unfold Fw;rw[NG (by omega) (by omega) (by omega),MA _ y h0 h9 hK,Option.bind_assoc];exact NK cb y a b hK (Bu y) (List.replicate (y.Ac.length:Int).toNat (0:Int)) st (by rw[List.length_replicate];omega)
end Go.Proofs.YtkljfdkmjdjpfaaGreat
end
section
namespace Go.Proofs.YtkljfdkmjdjpfaaGreat
def H9:A5:=⟨0,0,0,0,0⟩
def Db(y:Ao)(i:Int):A5:=y.Ac.getD i.toNat H9
def Cj(c:List Int)(i:Int):Int:=c.getD i.toNat 0
def Dy (l:A5) (d0:Int):List Bool→Int→Int→Int→Ag
 |[],_,_,_=>⟨d0,-1,false⟩
 |true::ws,d,CF,run=>cond (CF==l.Ar) ⟨d0,d,CF==l.Ar⟩ (cond (run+1==l.BV) ⟨d0,d,CF==l.Ar⟩ (Dy l d0 ws (d+1) CF (run+1)))
 |false::ws,d,CF,run=>cond (CF+1==l.Ar) ⟨d0,d,CF+1==l.Ar⟩ (cond ((0:Int)==l.BV) ⟨d0,d,CF+1==l.Ar⟩ (Dy l d0 ws (d+1) (CF+1) 0))
def Co(y:Ao)(w:List Bool)(l:A5)(d:Int):Ag:=if y.Ak<d then ⟨-1,-1,false⟩ else Dy l d (w.drop d.toNat) d 0 0
def wk(y:Ao)(w:List Bool)(m:List (List Int×Ag)):CD:=⟨y.Ak,y.Aj,y.Ap,y.Ax,y.Ac,w,m⟩
theorem Wu(y:Ao)(w:List Bool)(mm:List (List Int×Ag))(p:H7)(l:A5)(h9:y.Ak≤9)(hw:(w.length:Int)=y.Ak+1)(b0 f:Int)(g:Bool):∀(k m d:Nat) (CF r:Int),y.Ak+1=d+k→k<m→0≤CF→CF≤d→0≤r→r≤d→
  (Ee (wk y w mm) p l m CF r (d:Int) b0 f g).bind (fun z=>Sum.elim (fun a=>some ((⟨a.1,a.2.1,a.2.2⟩:Ag))) (fun a=>some ((⟨p.day,(-1),false⟩:Ag))) z)=some (Dy l p.day (w.drop d) (d:Int) CF r):=by
 intro k
 induction k with
 |zero=>
  intro m d CF r h hm h0 i j n;cases m with
  |zero=>omega
  |succ m=>
   rw[Ee.eq_2,cf (df (by show¬(d:Int)≤y.Ak;omega)),List.drop_eq_nil_of_le (by omega)];rfl
 |succ k ih=>
  intro m d CF r h hm h0 i j n;cases m with
  |zero=>omega
  |succ m=>
   have b:d<w.length:=by omega
   have c:d<(wk y w mm).Dk.length:=b;rw[Ee.eq_2,ct (dt (by show(d:Int)≤y.Ak;omega)),BZ c,List.drop_eq_getElem_cons b];have e:(wk y w mm).Dk[d]=w[d]:=rfl;rw[e];cases s:w[d] with
   |true=>
    rw[ct rfl,Bv (by omega) (by omega),Dy];cases o:(CF==l.Ar) with
    |true=>rw[ct rfl,ct rfl];rfl
    |false=>
     rw[cf rfl,cf rfl];cases q:(r+1==l.BV) with
     |true=>rw[ct rfl,ct rfl];rfl
     |false=>
      rw[cf rfl,cf rfl,Bv (by omega) (by omega),CJ];exact ih m (d+1) CF (r+1) (by omega) (by omega) h0 (by omega) (by omega) (by omega)
   |false=>
    rw[cf rfl,Bv (by omega) (by omega),Dy];cases o:(CF+1==l.Ar) with
    |true=>rw[ct rfl,ct rfl];rfl
    |false=>
     rw[cf rfl,cf rfl];cases q:((0:Int)==l.BV) with
     |true=>rw[ct rfl,ct rfl];rfl
     |false=>
      rw[cf rfl,cf rfl,Bv (by omega) (by omega),CJ];exact ih m (d+1) (CF+1) 0 (by omega) (by omega) (by omega) (by omega) (by omega) (by omega)
theorem Wv{K:Nat}(y:Ao)(w:List Bool)(mm:List (List Int×Ag))(i d:Int)(h9:y.Ak≤9)(hw:(w.length:Int)=y.Ak+1)(a:0≤i)(hi:i<(y.Ac.length:Int))(c:0≤d)(hK:2000≤K):
  F9 K (wk y w mm) ⟨i,d⟩=some (Co y w (Db y i) d):=by
 unfold F9 Co;show cond (decide (y.Ak<d)) _ ((idx y.Ac i).bind _)=_
 by_cases h:y.Ak<d
 ·rw[ct (dt h),if_pos h]
 rw[cf (df h),if_neg h];obtain⟨i,rfl⟩:=Int.eq_ofNat_of_zero_le a;obtain⟨d,rfl⟩:=Int.eq_ofNat_of_zero_le c;have b:i<y.Ac.length:=by omega
 rw[BZ b];have e:y.Ac[i]=Db y (i:Int):=by
  show y.Ac[i]=y.Ac.getD ((i:Int)).toNat H9;rw[Int.toNat_natCast,List.getD_eq_getElem?_getD,List.getElem?_eq_getElem (by omega)];rfl
 rw[e,Int.toNat_natCast];exact Wu y w mm ⟨(i:Int),(d:Int)⟩ _ h9 hw 0 0 false (y.Ak+1-d).toNat K d 0 0 (by omega) (by omega) (by omega) (by omega) (by omega) (by omega)
def G3 (y:Ao) (w:List Bool) (m:List (List Int×Ag)):Prop:=∀(i d:Int) (s:Ag),BH m [i,d]=some s→s=Co y w (Db y i) d
theorem OH(y:Ao)(w:List Bool):G3 y w []:=fun i d s h=>by cases h
theorem Vq{K:Nat}(y:Ao)(w:List Bool)(mm:List (List Int×Ag))(i d:Int)(h9:y.Ak≤9)(hw:(w.length:Int)=y.Ak+1)(e:0≤i)(hi:i<(y.Ac.length:Int))(j:0≤d)(hK:2000≤K)(hm:G3 y w mm):
  ∃c,FT K (wk y w mm) ⟨i,d⟩=some (Co y w (Db y i) d,c)∧G3 y w c:=by
 unfold FT;show∃c,cond (!(BH mm [i,d]).isSome) ((F9 K (wk y w mm) ⟨i,d⟩).bind _) _=_∧_;cases f:BH mm [i,d] with
 |none=>
  rw[bd (Wv y w mm i d h9 hw e hi j hK)];refine⟨_,rfl,fun i2 d2 s h=>?_⟩;have a:BH (H2 mm [i,d] (Co y w (Db y i) d)) [i2,d2]=some s:=h;rw[PA] at a;split at a
  ·rename_i he
   have b:=List.cons.inj he;have g:=List.cons.inj b.2;rw[b.1,g.1];exact(Option.some.inj a).symm
  ·exact hm i2 d2 s a
 |some s=>
  refine⟨mm,?_,hm⟩;show some ((BH mm [i,d]).getD ⟨0,0,false⟩,mm)=_;rw[f,hm i d s f];rfl
def Eb (y:Ao) (w:List Bool) (c:List Int):List Int→Int→List Ag→List Ag
 |[],_,out=>out
 |i::r,free,out=>
  let s:=Co y w (Db y i) (max free (Cj c i))
  Eb y w c r (cond (s.AG==-1) (y.Ak+1) (s.AG+1)) (out.set i.toNat s)
def FJ(y:Ao)(w:List Bool)(c:List Int):List (List Int)→List Ag→List Ag
 |[],out=>out
 |l::r,out=>FJ y w c r (Eb y w c l 0 out)
def Jv:Ag:=⟨0,0,false⟩
def GI(y:Ao)(w:List Bool)(order:List (List Int))(c:List Int):List Ag:=FJ y w c order (List.replicate y.Ac.length Jv)
theorem Gs(y:Ao)(w:List Bool)(c:List Int):∀(l:List Int) (free:Int) (out:List Ag),(Eb y w c l free out).length=out.length
 |[],_,_=>rfl
 |i::r,free,out=>by rw[Eb,Gs y w c r];simp
theorem La(y:Ao)(w:List Bool)(c:List Int):∀(l:List (List Int)) (out:List Ag),(FJ y w c l out).length=out.length
 |[],_=>rfl
 |i::r,out=>by rw[FJ,La y w c r,Gs]
theorem Kl(l:A5)(d0:Int):∀(ws:List Bool) (d CF r:Int),0≤d→(Dy l d0 ws d CF r).AG=-1∨(d≤(Dy l d0 ws d CF r).AG∧(Dy l d0 ws d CF r).AG<d+ws.length)
 |[],d,CF,r,_=>.inl rfl
 |true::ws,d,CF,r,h=>by
  rw[Dy];cases (CF==l.Ar) with
  |true=>right;simp;omega
  |false=>
   cases (r+1==l.BV) with
   |true=>right;simp;omega
   |false=>
    rcases Kl l d0 ws (d+1) CF (r+1) (by omega) with a|a
    ·exact .inl a
    ·right;simp only[List.length_cons,cond_false];omega
 |false::ws,d,CF,r,h=>by
  rw[Dy];cases (CF+1==l.Ar) with
  |true=>right;simp;omega
  |false=>
   cases ((0:Int)==l.BV) with
   |true=>right;simp;omega
   |false=>
    rcases Kl l d0 ws (d+1) (CF+1) 0 (by omega) with a|a
    ·exact .inl a
    ·right;simp only[List.length_cons,cond_false];omega
theorem NL(y:Ao)(w:List Bool)(l:A5)(d:Int)(b:0≤d)(hw:(w.length:Int)=y.Ak+1):(Co y w l d).AG=-1∨(d≤(Co y w l d).AG∧(Co y w l d).AG≤y.Ak):=by
 unfold Co
 by_cases h:y.Ak<d
 ·rw[if_pos h];exact .inl rfl
 ·rw[if_neg h];rcases Kl l d (w.drop d.toNat) d 0 0 b with a|a
  ·exact .inl a
  ·right;rw[List.length_drop] at a;omega
theorem TU{K:Nat}(y:Ao)(w:List Bool)(a:List (List Int×Ag))(c l:List Int)(h0:0≤y.Ak)(h9:y.Ak≤9)(hw:(w.length:Int)=y.Ak+1)(hK:2000≤K)(x:∀i∈l,0≤i∧i<(y.Ac.length:Int))(aE:c.length=y.Ac.length)(aC:l.length≤1000):
  ∀(k m j:Nat) (free:Int) (out:List Ag) (mm:List (List Int×Ag)),l.length=j+k→k<m→0≤free→out.length=y.Ac.length→G3 y w mm→
  ∃b,DW K (wk y w a) c l m free (j:Int) out mm=some (Eb y w c (l.drop j) free out,b)∧G3 y w b:=by
 intro k
 induction k with
 |zero=>
  intro m j free out mm h hm z f g;cases m with
  |zero=>omega
  |succ m=>rw[DW.eq_2,cf (df (by omega)),List.drop_eq_nil_of_le (by omega)];exact⟨mm,rfl,g⟩
 |succ k ih=>
  intro m j free out mm h hm z f g;cases m with
  |zero=>omega
  |succ m=>
   have n:j<l.length:=by omega
   obtain⟨d,p⟩:=x l[j] (List.getElem_mem n);obtain⟨i,hi⟩:=Int.eq_ofNat_of_zero_le d;have e:i<c.length:=by omega
   have q:i<out.length:=by omega
   have r:c[i]=Cj c l[j]:=by
    rw[hi];unfold Cj;rw[Int.toNat_natCast,List.getD_eq_getElem?_getD,List.getElem?_eq_getElem e];rfl
   rw[DW.eq_2,ct (dt (by omega)),BZ n,List.drop_eq_getElem_cons n,Eb];have s:idx c l[j]=some (Cj c l[j]):=by rw[←r];rw[hi];exact idx_eq e
   rw[bd s];obtain⟨b,aA,t⟩:=Vq (K:=K) y w mm l[j] (max free (Cj c l[j])) h9 hw d p (by omega) hK g;have u:FT K (⟨(wk y w a).BJ,(wk y w a).B6,(wk y w a).Cm,(wk y w a).Cn,(wk y w a).A6,(wk y w a).Dk,mm⟩:CD) (⟨l[j],max free (Cj c l[j])⟩:H7)=some (Co y w (Db y l[j]) (max free (Cj c l[j])),b):=aA;have o:idx out l[j]=some out[i]:=by rw[hi];exact idx_eq q
   have aB:=NL y w (Db y l[j]) (max free (Cj c l[j])) (by omega) hw;have aD:-1≤(Co y w (Db y l[j]) (max free (Cj c l[j]))).AG∧(Co y w (Db y l[j]) (max free (Cj c l[j]))).AG≤9:=by omega
   rw[bd u,bd o];show∃v,(i64 ((Co y w (Db y l[j]) (max free (Cj c l[j]))).AG+1)).bind _=_∧_;rw[Bv (by omega) (by omega)];show∃v,cond ((Co y w (Db y l[j]) (max free (Cj c l[j]))).AG==-1) ((i64 (y.Ak+1)).bind _) _=_∧_;cases aF:((Co y w (Db y l[j]) (max free (Cj c l[j]))).AG==-1) with
   |true=>
    rw[ct rfl,ct rfl,Bv (by omega) (by omega),Bv (by omega) (by omega),CJ];exact ih m (j+1) (y.Ak+1) _ b (by omega) (by omega) (by omega) (by rw[List.length_set];exact f) t
   |false=>
    rw[cf rfl,cf rfl,Bv (by omega) (by omega),CJ];exact ih m (j+1) ((Co y w (Db y l[j]) (max free (Cj c l[j]))).AG+1) _ b (by omega) (by omega) (by omega) (by rw[List.length_set];exact f) t
theorem TV{K:Nat}(y:Ao)(w:List Bool)(b:List (List Int×Ag))(c:List Int)(order:List (List Int))(h0:0≤y.Ak)(h9:y.Ak≤9)(hw:(w.length:Int)=y.Ak+1)(hK:2000≤K)(p:∀l∈order,l.length≤1000∧∀i∈l,0≤i∧i<(y.Ac.length:Int))(q:c.length=y.Ac.length)(s:order.length≤1000):
  ∀(k m j:Nat) (out:List Ag) (mm:List (List Int×Ag)),order.length=j+k→k<m→out.length=y.Ac.length→G3 y w mm→
  ∃a,Dt K (wk y w b) order c m (j:Int) out mm=some (FJ y w c (order.drop j) out,a)∧G3 y w a:=by
 intro k
 induction k with
 |zero=>
  intro m j out mm h hm d e;cases m with
  |zero=>omega
  |succ m=>rw[Dt.eq_2,cf (df (by omega)),List.drop_eq_nil_of_le (by omega)];exact⟨mm,rfl,e⟩
 |succ k ih=>
  intro m j out mm h hm d e;cases m with
  |zero=>omega
  |succ m=>
   have f:j<order.length:=by omega
   obtain⟨g,n⟩:=p order[j] (List.getElem_mem f);obtain⟨a,o,r⟩:=TU (K:=K) y w b c order[j] h0 h9 hw hK n q g order[j].length K 0 0 out mm (by omega) (by omega) (by omega) d e;rw[Int.natCast_zero,List.drop_zero] at o;rw[Dt.eq_2,ct (dt (by omega)),BZ f,List.drop_eq_getElem_cons f,FJ,bd o,Bv (by omega) (by omega),CJ];exact ih m (j+1) _ a (by omega) (by omega) (by rw[Gs];exact d) r
theorem Rm{K:Nat}(y:Ao)(w:List Bool)(mm:List (List Int×Ag))(c:List Int)(order:List (List Int))(h0:0≤y.Ak)(h9:y.Ak≤9)(k:y.Ac.length≤4)(hw:(w.length:Int)=y.Ak+1)(hK:2000≤K)(e:∀l∈order,l.length≤1000∧∀i∈l,0≤i∧i<(y.Ac.length:Int))(f:c.length=y.Ac.length)(b:order.length≤1000)(g:G3 y w mm):
  ∃a,C6 K (wk y w mm) order c=some (GI y w order c,a)∧G3 y w a:=by
 unfold C6;show∃a,(JQ (y.Ac.length:Int) 24).bind _=_∧_;rw[NG (by omega) (by omega) (by omega)];obtain⟨a,d,h⟩:=TV (K:=K) y w mm c order h0 h9 hw hK e f b order.length K 0 (List.replicate y.Ac.length Jv) mm (by omega) (by omega) (by rw[List.length_replicate]) g;rw[Int.natCast_zero,List.drop_zero] at d;have j:Dt K (wk y w mm) order c K (0:Int) (List.replicate ((wk y w mm).A6.length:Int).toNat (⟨0,0,false⟩:Ag)) (wk y w mm).known=some (FJ y w c order (List.replicate y.Ac.length Jv),a):=by
  show Dt K (wk y w mm) order c K (0:Int) (List.replicate (y.Ac.length:Int).toNat Jv) mm=_;rw[Int.toNat_natCast];exact d
 exact⟨a,bd j,h⟩
end Go.Proofs.YtkljfdkmjdjpfaaGreat
end
section
namespace Go.Proofs.YtkljfdkmjdjpfaaGreat
def iota(n:Nat):List Int:=(List.range n).map fun(i:Nat)=>(i:Int)
theorem HL(n:Nat):(iota n).length=n:=by simp[iota]
theorem OI(n i:Nat)(h:i<n):(iota n)[i]?=some (i:Int):=by simp[iota,h]
def CS(y:Ao)(o:List (List Int)):Bool:=((o.length:Int)==y.Aj)&&(Dj o.flatten==iota y.Ac.length)
theorem Vr(o:List (List Int))(c:o.flatten.length≤100000):∀(k m i:Nat) (acc:List Int),o.length=i+k→k<m→o.length≤100000→acc++(o.drop i).flatten=o.flatten→
  DS o m acc (i:Int)=some o.flatten:=by
 intro k
 induction k with
 |zero=>
  intro m i acc h hm b a;cases m with
  |zero=>omega
  |succ m=>
   rw[DS.eq_2,cf (df (by omega))];rw[List.drop_eq_nil_of_le (by omega)] at a;rw[←a];simp
 |succ k ih=>
  intro m i acc h hm b a;cases m with
  |zero=>omega
  |succ m=>
   have hi:i<o.length:=by omega
   rw[List.drop_eq_getElem_cons hi,List.flatten_cons,←List.append_assoc] at a;have hlen:acc.length+o[i].length≤100000:=by
    have:=congrArg List.length a;rw[List.length_append,List.length_append] at this;omega
   rw[DS.eq_2,ct (dt (by omega)),BZ hi,F6 (by omega),Bv (by omega) (by omega),CJ];exact ih m (i+1) (acc++o[i]) (by omega) (by omega) b a
theorem SH(y:Ao)(z:List Int)(l:y.Ac.length≤4):∀(k m i:Nat),y.Ac.length=i+k→k<m→(∀j,j<i→(Dj z).length=y.Ac.length∧(Dj z)[j]?=some (j:Int))→
  DD y z m (i:Int)=some (cond ((Dj z==iota y.Ac.length)||decide (y.Ac.length=0)) (.inr ()) (.inl false)):=by
 intro k
 induction k with
 |zero=>
  intro m i h hm a;cases m with
  |zero=>omega
  |succ m=>
   rw[DD.eq_2,cf (df (by omega))];have:((Dj z==iota y.Ac.length)||decide (y.Ac.length=0))=true:=by
    rw[Bool.or_eq_true];rcases Nat.eq_zero_or_pos i with h0|h0
    ·right;exact dt (by omega)
    ·left;rw[beq_iff_eq];have d:=(a 0 h0).1;apply List.ext_getElem?;intro j
     by_cases f:j<y.Ac.length
     ·rw[(a j (by omega)).2,OI _ _ f]
     ·rw[List.getElem?_eq_none (by omega),List.getElem?_eq_none (by rw[HL];omega)]
   rw[this];rfl
 |succ k ih=>
  intro m i h hm a;cases m with
  |zero=>omega
  |succ m=>
   rw[DD.eq_2,ct (dt (by omega))];have c:decide (y.Ac.length=0)=false:=df (by omega)
   by_cases d:(Dj z).length=y.Ac.length
   ·rw[cf (by rw[d];simp)];have hi:i<(Dj z).length:=by omega
    rw[BZ hi]
    by_cases b:(Dj z)[i]=(i:Int)
    ·rw[b,cf (by simp),Bv (by omega) (by omega),CJ];refine ih m (i+1) (by omega) (by omega) fun j f=>?_
     by_cases g:j=i
     ·subst g;exact⟨d,by rw[List.getElem?_eq_getElem hi,b]⟩
     ·exact a j (by omega)
    ·rw[ct (by simpa using b)];have:((Dj z==iota y.Ac.length)||decide (y.Ac.length=0))=false:=by
      rw[c,Bool.or_false,beq_eq_false_iff_ne];intro e;have:(Dj z)[i]?=(iota y.Ac.length)[i]?:=by rw[e]
      rw[List.getElem?_eq_getElem hi,OI _ _ (by omega)] at this;exact b (Option.some.inj this)
     rw[this];rfl
   ·rw[ct (by simp;omega)];have:((Dj z==iota y.Ac.length)||decide (y.Ac.length=0))=false:=by
     rw[c,Bool.or_false,beq_eq_false_iff_ne];intro e;have:=congrArg List.length e;rw[HL] at this;omega
    rw[this];rfl
theorem Lb{K:Nat}(y:Ao)(o:List (List Int))(f:y.Ac.length≤4)(hK:2000≤K)(k:o.length≤1000)(m:o.flatten.length≤1000):Ev K y o=some (CS y o):=by
 unfold Ev;have c:=Vr o (by omega) o.length K 0 [] (by omega) (by omega) (by omega) (by simp);have d:=SH y o.flatten f y.Ac.length K 0 (by omega) (by omega) fun j g=>absurd g (by omega);rw[Int.natCast_zero] at c d;rw[bd c,F6 (by omega),bd d];unfold CS
 by_cases b:y.Ac.length=0
 ·rw[show((Dj o.flatten==iota y.Ac.length)||decide (y.Ac.length=0))=true by rw[Bool.or_eq_true];exact .inr (dt b)];show cond ((o.length:Int)==y.Aj) (some (((Dj o.flatten).length:Int)==(y.Ac.length:Int))) (some false)=_;have h:(((Dj o.flatten).length:Int)==(y.Ac.length:Int))=(Dj o.flatten==iota y.Ac.length):=by
   rw[b];cases e:Dj o.flatten with
   |nil=>rfl
   |cons a l=>
    have i:(((a::l).length:Int)==((0:Nat):Int))=false:=by simp;omega
    rw[i];rfl
  rw[h];cases ((o.length:Int)==y.Aj)<;>rfl
 ·rw[show decide (y.Ac.length=0)=false from df b,Bool.or_false];cases e:(Dj o.flatten==iota y.Ac.length) with
  |false=>show some false=_;rw[Bool.and_false]
  |true=>
   show cond ((o.length:Int)==y.Aj) (some (((Dj o.flatten).length:Int)==(y.Ac.length:Int))) (some false)=_;rw[eq_of_beq e,HL];cases ((o.length:Int)==y.Aj)<;>simp
theorem EF{y:Ao}{o:List (List Int)}:CS y o=true↔(o.length:Int)=y.Aj∧o.flatten.Perm (iota y.Ac.length):=by
 unfold CS;rw[Bool.and_eq_true,beq_iff_eq,beq_iff_eq];refine and_congr_right fun _=>⟨fun h=>?_,fun h=>?_⟩
 ·rw[←h];exact(List.mergeSort_perm _ _).symm
 ·have d:(Dj o.flatten).Pairwise (fun a b:Int=>a≤b):=by
   have:=List.pairwise_mergeSort (le:=fun x y:Int=>decide (x≤y)) (fun a b c d e=>by simp at*;omega) (fun a b=>by simp;omega) o.flatten;exact this.imp fun h=>by simpa using h
  have e:(iota y.Ac.length).Pairwise (fun a b:Int=>a≤b):=by
   unfold iota;rw[List.pairwise_map];exact List.pairwise_lt_range.imp fun h=>by omega
  exact List.Perm.eq_of_pairwise (le:=fun a b:Int=>a≤b) (fun a b _ _ h f=>by omega) d e ((List.mergeSort_perm _ _).trans h)
theorem HP{n:Nat}{i:Int}:i∈iota n↔0≤i∧i<n:=by
 unfold iota;rw[List.mem_map];constructor
 ·rintro⟨k,a,rfl⟩;rw[List.mem_range] at a;omega
 ·rintro⟨h0,b⟩;exact⟨i.toNat,by rw[List.mem_range];omega,by omega⟩
theorem M3{y:Ao}{o:List (List Int)}(h:CS y o=true):∀l∈o,l.length≤y.Ac.length∧∀i∈l,0≤i∧i<(y.Ac.length:Int):=by
 intro l a;have b:=(EF.1 h).2;constructor
 ·have c:=b.length_eq;rw[HL] at c;have:=(List.sublist_flatten_of_mem a).length_le;omega
 ·intro i hi;exact HP.1 (b.mem_iff.1 (List.mem_flatten.2 ⟨l,a,hi⟩))
def DV:List A5→List Int→Bool
 |[],[]=>true
 |l::ls,c::cs=>FZ c l.As l.AJ&&DV ls cs
 |_,_=>false
def En(y:Ao)(t:AU):Bool:=decide ((t.Ap.length:Int)=y.Ak+1)&&(Hw y t.Ap&&DV y.Ac t.Comes)
theorem HG:∀{ls:List A5} {cs:List Int},DV ls cs=true→cs.length=ls.length
 |[],[],_=>rfl
 |_::ls,_::cs,h=>by
  rw[DV,Bool.and_eq_true] at h;rw[List.length_cons,List.length_cons,HG h.2]
 |[],_::_,h=>by cases h
 |_::_,[],h=>by cases h
theorem Rn(K:Nat)(y:Ao)(t:AU)(b:y.Ac.length≤4)(c:t.Comes.length=y.Ac.length):∀(k m i:Nat),y.Ac.length=i+k→k<m→
  DC K y t m (i:Int)=some (cond (DV (y.Ac.drop i) (t.Comes.drop i)) (.inr ()) (.inl false)):=by
 intro k
 induction k with
 |zero=>
  intro m i h hm;cases m with
  |zero=>omega
  |succ m=>rw[DC.eq_2,cf (df (by omega)),List.drop_eq_nil_of_le (by omega),List.drop_eq_nil_of_le (by omega)];rfl
 |succ k ih=>
  intro m i h hm;cases m with
  |zero=>omega
  |succ m=>
   have hi:i<y.Ac.length:=by omega
   have a:i<t.Comes.length:=by omega
   rw[DC.eq_2,ct (dt (by omega)),BZ hi,BZ a,bd (HO ..),List.drop_eq_getElem_cons hi,List.drop_eq_getElem_cons a,DV];cases d:FZ t.Comes[i] y.Ac[i].As y.Ac[i].AJ with
   |false=>rw[nf];rfl
   |true=>rw[nt,Bv (by omega) (by omega),CJ,Bool.true_and];exact ih m (i+1) (by omega) (by omega)
theorem Ro{K:Nat}(y:Ao)(t:AU)(h0:0≤y.Ak)(h9:y.Ak≤9)(b:y.Ac.length≤4)(hK:2000≤K):FM K y t=some (En y t):=by
 unfold FM En
 by_cases a:t.Comes.length=y.Ac.length
 ·rw[cf (by rw[a];simp),Bv (by omega) (by omega)]
  by_cases hw:(t.Ap.length:Int)=y.Ak+1
  ·rw[cf (by rw[hw];simp),bd (NH y t.Ap (by omega) (by omega)),dt hw,Bool.true_and];show cond (!(Hw y t.Ap)) _ _=_;cases Hw y t.Ap with
   |false=>rw[nf];rfl
   |true=>
    have:=Rn K y t b a y.Ac.length K 0 (by omega) (by omega);rw[Int.natCast_zero,List.drop_zero,List.drop_zero] at this;rw[nt,bd this,Bool.true_and];cases DV y.Ac t.Comes<;>rfl
  ·rw[ct (by simpa using hw),df hw];rfl
 ·rw[ct (by simp;omega)];cases c:DV y.Ac t.Comes with
  |false=>rw[Bool.and_false,Bool.and_false]
  |true=>exact absurd (HG c) a
theorem Hb{c:List Int}:∀{ls:List A5},c∈EW ls↔DV ls c=true
 |[]=>by
  cases c with
  |nil=>simp[EW,DV]
  |cons a l=>simp[EW,DV]
 |l::r=>by
  rw[EW,List.mem_flatMap];constructor
  ·rintro⟨n,b,e⟩;obtain⟨d,f,rfl⟩:=List.mem_map.1 e;rw[DV,Bool.and_eq_true];rw[List.mem_range] at b;unfold B8 at b;exact⟨Fi.2 (by omega),Hb.1 f⟩
  ·intro h;cases c with
   |nil=>simp[DV] at h
   |cons a d=>
    rw[DV,Bool.and_eq_true] at h;have g:=Fi.1 h.1;refine⟨(a-l.As).toNat,?_,List.mem_map.2 ⟨d,Hb.2 h.2,?_⟩⟩
    ·rw[List.mem_range];unfold B8;omega
    ·congr 1;omega
def bitsOf:List Bool→Nat
 |[]=>0
 |b::l=>(cond b 1 0)+2*bitsOf l
theorem LO:∀(l:List Bool) (d:Nat),(bitsOf l).testBit d=l.getD d false
 |[],d=>by simp[bitsOf]
 |b::l,0=>by rw[bitsOf,Nat.testBit_zero];cases b<;>simp<;>omega
 |b::l,d+1=>by
  rw[Nat.testBit_succ,bitsOf];have:((cond b 1 0)+2*bitsOf l)/2=bitsOf l:=by cases b<;>simp<;>omega
  rw[this,LO l d];rfl
theorem NM:∀(l:List Bool),bitsOf l<2^l.length
 |[]=>by simp[bitsOf]
 |b::l=>by
  have:=NM l;rw[bitsOf,List.length_cons,Nat.pow_succ];cases b<;>simp<;>omega
theorem Rp(l:List Bool):wl l.length (bitsOf l)=l:=by
 apply List.ext_getElem?;intro i;unfold wl;rw[List.getElem?_map]
 by_cases h:i<l.length
 ·rw[List.getElem?_range h,List.getElem?_eq_getElem h];show some ((bitsOf l).testBit i)=_;rw[LO,List.getD_eq_getElem?_getD,List.getElem?_eq_getElem h];rfl
 ·rw[List.getElem?_eq_none (by simp;omega),List.getElem?_eq_none (by omega)];rfl
theorem IC{y:Ao}{w:List Bool}:w∈Bu y↔w.length=days y∧Hw y w=true:=by
 unfold Bu;rw[List.mem_filter,List.mem_map];constructor
 ·rintro⟨⟨b,_,rfl⟩,h⟩;exact⟨F7 _ _,h⟩
 ·rintro⟨a,c⟩;exact⟨⟨bitsOf w,by rw[List.mem_range,←a];exact NM w,by rw[←a];exact Rp w⟩,c⟩
theorem EJ{y:Ao}(h0:0≤y.Ak){t:AU}:t∈BD y↔En y t=true:=by
 unfold BD En;rw[List.mem_flatMap,Bool.and_eq_true,Bool.and_eq_true,decide_eq_true_eq];constructor
 ·rintro⟨w,hw,d⟩;obtain⟨c,e,rfl⟩:=List.mem_map.1 d;obtain⟨b,a⟩:=IC.1 hw;unfold days at b;exact⟨by show(w.length:Int)=_;omega,a,Hb.1 e⟩
 ·rintro⟨b,a,f⟩;exact⟨t.Ap,IC.2 ⟨by unfold days;omega,a⟩,List.mem_map.2 ⟨t.Comes,Hb.2 f,rfl⟩⟩
theorem Ww(a b:List Bool)(j:a.length≤1000)(g:a.length=b.length):∀(k m i:Nat),a.length=i+k→k<m→DR a b m (i:Int)=some (cond (a.drop i==b.drop i) (.inr ()) (.inl false)):=by
 intro k
 induction k with
 |zero=>
  intro m i h hm;cases m with
  |zero=>omega
  |succ m=>rw[DR.eq_2,cf (df (by omega)),List.drop_eq_nil_of_le (by omega),List.drop_eq_nil_of_le (by omega)];rfl
 |succ k ih=>
  intro m i h hm;cases m with
  |zero=>omega
  |succ m=>
   have c:i<a.length:=by omega
   have d:i<b.length:=by omega
   rw[DR.eq_2,ct (dt (by omega)),BZ c,BZ d,List.drop_eq_getElem_cons c,List.drop_eq_getElem_cons d];cases f:(a[i] !=b[i]) with
   |true=>
    rw[ct rfl];have:(a[i]::a.drop (i+1)==b[i]::b.drop (i+1))=false:=by
     rw[List.cons_beq_cons];have:(a[i]==b[i])=false:=by simpa[bne] using f
     rw[this,Bool.false_and]
    rw[this];rfl
   |false=>
    have e:a[i]=b[i]:=by simpa[bne] using f
    rw[cf rfl,Bv (by omega) (by omega),CJ,ih m (i+1) (by omega) (by omega),List.cons_beq_cons,e,beq_self_eq_true,Bool.true_and]
theorem Wx{K:Nat}(a b:List Bool)(c:a.length≤1000)(hK:2000≤K):EU K a b=some (a==b):=by
 unfold EU
 by_cases h:a.length=b.length
 ·have:=Ww a b c h a.length K 0 (by omega) (by omega);rw[Int.natCast_zero,List.drop_zero,List.drop_zero] at this;rw[cf (by rw[h];simp),bd this];cases (a==b)<;>rfl
 ·rw[ct (by simp;omega)];have:(a==b)=false:=by
   rw[beq_eq_false_iff_ne];intro e;exact h (by rw[e])
  rw[this]
structure DH(y:Ao):Prop where
 h0:0≤y.Ak
 h9:y.Ak≤9
 r1:1≤y.Aj
 r2:y.Aj≤2
 n4:y.Ac.length≤4
 w0:0≤y.Ap
 w1:y.Ap≤y.Ak+1
 u0:0≤y.Ax
 u1:y.Ax≤y.Ak+1
 M4:∀l∈y.Ac,GH y l=true
 many:Gh y≤1000
theorem Hf{y:Ao}(h:check y=0):DH y:=by
 unfold check at h;split at h
 ·cases h
 ·rename_i d
  split at h
  ·cases h
  ·rename_i b
   split at h
   ·cases h
   ·rename_i f
    rw[not_or,not_or] at d;rw[not_or,not_or,not_or,not_or] at b;have hw:FZ y.Ap 0 (y.Ak+1)=true:=by cases a:FZ y.Ap 0 (y.Ak+1) with|true=>rfl|false=>exact absurd a b.2.2.1
    have c:FZ y.Ax 0 (y.Ak+1)=true:=by cases a:FZ y.Ax 0 (y.Ak+1) with|true=>rfl|false=>exact absurd a b.2.2.2.1
    have e:y.Ac.all (GH y)=true:=by cases a:y.Ac.all (GH y) with|true=>rfl|false=>exact absurd a b.2.2.2.2
    rw[Fi] at hw c;exact⟨by omega,by omega,by omega,by omega,by omega,hw.1,hw.2,c.1,c.2,List.all_eq_true.1 e,by omega⟩
theorem DH.sz{y:Ao}(h:DH y):∀l∈y.Ac,sized l∧0≤l.As∧l.AJ≤9:=fun l b=>by
 have a:=h.M4 l b;have:=Iz.1 a;have:=h.h9;exact⟨L3 h.h9 a,by omega,by omega⟩
def Wy(y:Ao):Option CD→Prop
 |none=>True
 |some x=>∃w m,x=wk y w m∧(w.length:Int)=y.Ak+1∧G3 y w m
theorem Rq{σ:Type}{K:Nat}(cb:σ→AU×List Ag→Option (Bool×σ))(y:Ao)(f:DH y)(o:List (List Int))(v:CS y o=true)(hK:2000≤K):∀(d:List AU) (h:Option CD) (s:σ),(∀t∈d,En y t=true)→Wy y h→
  (run (fun(st:(Option CD)×σ×Bool) (x:AU)=>cond st.2.2 none (DY cb K y o st.1 st.2.1 x)) d (h,s,false)).bind (fun g=>cond g.2.2.2 (some g.2.2.1) (some g.2.2.1))=(run (fun s t=>cb s (t,GI y t.Ap o t.Comes)) d s).bind fun r=>some r.2
 |[],h,s,_,_=>rfl
 |t::d,h,s,aA,aH=>by
  have j:=aA t (List.mem_cons_self ..);have aB:∀x∈d,En y x=true:=fun x aI=>aA x (List.mem_cons_of_mem _ aI);unfold En at j;rw[Bool.and_eq_true,Bool.and_eq_true,decide_eq_true_eq] at j;obtain⟨hw,_,aJ⟩:=j;have aC:=HG aJ;have q:=M3 v;have aD:o.length≤1000:=by have:=(EF.1 v).1;have:=f.r2;omega
  have z:∀l∈o,l.length≤1000∧∀i∈l,0≤i∧i<(y.Ac.length:Int):=fun l aE=>⟨by have:=(q l aE).1;have:=f.n4;omega,(q l aE).2⟩;rw[run,run];show(Option.bind (DY cb K y o h s t) _:Option _).bind _=_
  
  have key:∀(m:List (List Int×Ag)),G3 y t.Ap m→∃c,G3 y t.Ap c∧C6 K (wk y t.Ap m) o t.Comes=some (GI y t.Ap o t.Comes,c):=fun m hm=>by
   obtain⟨c,aK,aL⟩:=Rm (K:=K) y t.Ap m t.Comes o f.h0 f.h9 f.n4 hw hK z aC aD hm;exact⟨c,aL,aK⟩
  have fin:∀(c:List (List Int×Ag)),G3 y t.Ap c→
    (Option.bind ((cb s (t,GI y t.Ap o t.Comes)).bind fun a=>cond (!a.1) (some (false,(some (wk y t.Ap c)),a.2,true)) (some (true,(some (wk y t.Ap c)),a.2,false))) fun r=>cond r.1 (run (fun(st:(Option CD)×σ×Bool) (x:AU)=>cond st.2.2 none (DY cb K y o st.1 st.2.1 x)) d r.2) (some (false,r.2))).bind (fun g=>cond g.2.2.2 (some g.2.2.1) (some g.2.2.1))=
    (Option.bind (cb s (t,GI y t.Ap o t.Comes)) fun r=>cond r.1 (run (fun s t=>cb s (t,GI y t.Ap o t.Comes)) d r.2) (some (false,r.2))).bind fun r=>some r.2:=fun c k=>by
   cases cb s (t,GI y t.Ap o t.Comes) with
   |none=>rfl
   |some r=>
    obtain⟨b,s2⟩:=r;cases b with
    |false=>rfl
    |true=>exact Rq cb y f o v hK d (some (wk y t.Ap c)) s2 aB ⟨t.Ap,c,rfl,hw,k⟩
  unfold DY;obtain⟨n,u,aM⟩:=key [] (OH _ _);have aP:=f.h9;have e:(Gi (((0+t.Ap.length:Nat):Int)≤140737488355328/1)).bind (fun _=>(C6 K (⟨y.Ak,y.Aj,y.Ap,y.Ax,y.Ac,t.Ap,[]⟩:CD) o t.Comes).bind fun p=>(cb s (t,p.1)).bind fun a=>cond (!a.1) (some (false,(some (⟨y.Ak,y.Aj,y.Ap,y.Ax,y.Ac,t.Ap,p.2⟩:CD)),a.2,true)) (some (true,(some (⟨y.Ak,y.Aj,y.Ap,y.Ax,y.Ac,t.Ap,p.2⟩:CD)),a.2,false)))=
    (cb s (t,GI y t.Ap o t.Comes)).bind fun a=>cond (!a.1) (some (false,(some (wk y t.Ap n)),a.2,true)) (some (true,(some (wk y t.Ap n)),a.2,false)):=by
   have aF:C6 K (⟨y.Ak,y.Aj,y.Ap,y.Ax,y.Ac,t.Ap,[]⟩:CD) o t.Comes=some (GI y t.Ap o t.Comes,n):=aM;rw[F6 (by omega),bd aF];rfl
  cases h with
  |none=>
   show(Option.bind ((Gi _).bind _) _:Option _).bind _=_;rw[e];exact fin n u
  |some x=>
   obtain⟨w,m,rfl,aQ,aG⟩:=aH;show(Option.bind ((EU K w t.Ap).bind _) _:Option _).bind _=_;rw[bd (Wx w t.Ap (by omega) hK)];cases aN:(w==t.Ap) with
   |false=>
    rw[nf,e];exact fin n u
   |true=>
    obtain rfl:=eq_of_beq aN;obtain⟨c,k,aO⟩:=key m aG;rw[nt,bd aO];exact fin c k
theorem Rr{σ:Type}{K:Nat}(cb:σ→AU×List Ag→Option (Bool×σ))(y:Ao)(a:DH y)(o:List (List Int))(b:CS y o=true)(hK:2000≤K)(s:σ):
  FV K cb y o s=(run (fun s t=>cb s (t,GI y t.Ap o t.Comes)) (BD y) s).bind fun r=>some r.2:=by
 unfold FV;rw[SG _ y a.h0 a.h9 a.n4 a.sz hK,Option.bind_assoc];exact Rq cb y a o b hK (BD y) none s (fun t c=>(EJ a.h0).1 c) trivial
end Go.Proofs.YtkljfdkmjdjpfaaGreat
end
section
namespace Go.Proofs.YtkljfdkmjdjpfaaGreat
def Di(l:A5)(s:Ag):Bool:=s.Ar&&decide (s.AG≤l.Ce)
theorem M5(K:Nat)(l:A5)(s:Ag):Dm K l s=some (Di l s):=by unfold Dm Di;cases s.Ar<;>rfl
theorem PW(K:Nat)(l:A5)(s:Ag):EC K l s=some (!Di l s):=by unfold EC;rw[bd (M5 ..)]
def GR (p:A5→Ag→Bool):List A5→List Ag→Nat
 |l::ls,s::ss=>(cond (p l s) 1 0)+GR p ls ss
 |_,_=>0
def Cw(l:A5)(s:Ag):Bool:= !Di l s
def Dh(y:Ao)(ss:List Ag):Nat:=GR Cw y.Ac ss
theorem M6(p:A5→Ag→Bool):∀(ls:List A5) (ss:List Ag),GR p ls ss≤ls.length
 |l::ls,s::ss=>by
  have:=M6 p ls ss;rw[GR,List.length_cons];cases p l s<;>simp<;>omega
 |[],_=>by simp[GR]
 |_::_,[]=>by simp[GR]
theorem Vs{K:Nat}(y:Ao)(ss:List Ag)(d:y.Ac.length≤4)(e:ss.length=y.Ac.length):∀(k m i:Nat) (a:Int),ss.length=i+k→k<m→0≤a→a≤i→
  DX K y ss m a (i:Int)=some (a+(GR Cw (y.Ac.drop i) (ss.drop i):Nat)):=by
 intro k
 induction k with
 |zero=>
  intro m i a h hm h0 c;cases m with
  |zero=>omega
  |succ m=>
   rw[DX.eq_2,cf (df (by omega)),List.drop_eq_nil_of_le («as»:=y.Ac) (by omega),GR]
   ·simp
   ·intro _ _ _ _ h;cases h
 |succ k ih=>
  intro m i a h hm h0 c;cases m with
  |zero=>omega
  |succ m=>
   have hi:i<ss.length:=by omega
   have b:i<y.Ac.length:=by omega
   rw[DX.eq_2,ct (dt (by omega)),BZ hi,BZ b,bd (PW ..),List.drop_eq_getElem_cons hi,List.drop_eq_getElem_cons b,GR];show cond (Cw y.Ac[i] ss[i]) _ _=_;cases f:Cw y.Ac[i] ss[i] with
   |true=>
    rw[ct rfl,Bv (by omega) (by omega),Bv (by omega) (by omega),CJ,ih m (i+1) (a+1) (by omega) (by omega) (by omega) (by omega)]
    congr 1
    show a+1+_=a+((1+GR Cw _ _:Nat):Int);omega
   |false=>
    rw[cf rfl,Bv (by omega) (by omega),CJ,ih m (i+1) a (by omega) (by omega) (by omega) (by omega)]
    congr 1
    show a+_=a+((0+GR Cw _ _:Nat):Int);omega
theorem Rs{K:Nat}(y:Ao)(ss:List Ag)(a:y.Ac.length≤4)(b:ss.length=y.Ac.length)(hK:2000≤K):E9 K y ss=some (Dh y ss:Int):=by
 unfold E9;have:=Vs (K:=K) y ss a b ss.length K 0 0 (by omega) (by omega) (by omega) (by omega);rw[Int.natCast_zero,List.drop_zero,List.drop_zero] at this;rw[bd this];simp[Dh]
theorem Gt(y:Ao)(w:List Bool)(o:List (List Int))(c:List Int):(GI y w o c).length=y.Ac.length:=by unfold GI;rw[La,List.length_replicate]
def B7 (y:Ao) (o:List (List Int)) (t:AU):List Ag:=GI y t.Ap o t.Comes
theorem Rt{K:Nat}(y:Ao)(o:List (List Int))(t:AU)(hK:2000≤K)(d:o.length≤1000)(g:o.flatten.length≤1000):
  GN K y o t=some (if check y≠0 then ([],check y) else if CS y o=false∨En y t=false then ([],2) else (B7 y o t,0)):=by
 unfold GN;rw[bd (IV hK y)]
 by_cases h:check y=0
 ·rw[h,cf (by decide),if_neg (by simp)];have a:=Hf h;rw[bd (Lb y o a.n4 hK d g)];cases i:CS y o with
  |false=>rw[nf,if_pos (.inl rfl)]
  |true=>
   rw[nt,bd (Ro y t a.h0 a.h9 a.n4 hK)];cases j:En y t with
   |false=>rw[nf,if_pos (.inr rfl)]
   |true=>
    rw[nt,if_neg (by simp)];have b:=j;unfold En at b;rw[Bool.and_eq_true,Bool.and_eq_true,decide_eq_true_eq] at b;have c:=M3 i;obtain⟨k,e,_⟩:=Rm (K:=K) y t.Ap [] t.Comes o a.h0 a.h9 a.n4 b.1 hK (fun l f=>⟨by have:=(c l f).1;have:=a.n4;omega,(c l f).2⟩) (HG b.2.2) d (OH _ _);have m:C6 K (⟨y.Ak,y.Aj,y.Ap,y.Ax,y.Ac,t.Ap,[]⟩:CD) o t.Comes=some (GI y t.Ap o t.Comes,k):=e;rw[bd m];rfl
 ·rw[ct (by simpa using h),if_pos h]
def IK (y:Ao) (o:List (List Int)):List AU→Int×AU→Int×AU
 |[],s=>s
 |t::a,s=>
  let s2:=if s.1<(Dh y (B7 y o t):Int) then ((Dh y (B7 y o t):Int),t) else s
  cond (decide (s2.1<(y.Ac.length:Int))) (IK y o a s2) s2
def Cz(y:Ao)(o:List (List Int)):Int×AU:=IK y o (BD y) (-1,⟨[],[]⟩)
theorem OJ{K:Nat}(y:Ao)(b:DH y)(o:List (List Int))(hK:2000≤K):∀(a:List AU) (s:Int×AU),(∀t∈a,En y t=true)→
  (run (fun(st:Int×AU) t=>(Fe K t (B7 y o t) y st.1 st.2).bind fun r=>some (r.1,(r.2.1,r.2.2))) a s).bind (fun r=>some r.2)=some (IK y o a s)
 |[],s,_=>rfl
 |t::a,s,d=>by
  have c:=d t (List.mem_cons_self ..);unfold En at c;rw[Bool.and_eq_true,Bool.and_eq_true,decide_eq_true_eq] at c;have f:=HG c.2.2;have g:=b.n4;have h9:=b.h9;rw[run,IK];unfold Fe;rw[bd (Rs y (B7 y o t) b.n4 (Gt ..) hK)]
  by_cases h:s.1<(Dh y (B7 y o t):Int)
  ·rw[ct (dt h),F6 (by omega),F6 (by omega),if_pos h];show(cond (decide ((Dh y (B7 y o t):Int)<(y.Ac.length:Int))) _ _:Option (Bool×Int×AU)).bind _=some (cond (decide ((Dh y (B7 y o t):Int)<(y.Ac.length:Int))) _ _);cases decide ((Dh y (B7 y o t):Int)<(y.Ac.length:Int)) with
   |false=>rfl
   |true=>exact OJ y b o hK a _ fun x e=>d x (List.mem_cons_of_mem _ e)
  ·rw[cf (df h),if_neg h];show(cond (decide (s.1<(y.Ac.length:Int))) _ _:Option (Bool×Int×AU)).bind _=some (cond (decide (s.1<(y.Ac.length:Int))) _ _);cases decide (s.1<(y.Ac.length:Int)) with
   |false=>rfl
   |true=>exact OJ y b o hK a s fun x e=>d x (List.mem_cons_of_mem _ e)
theorem Ru{K:Nat}(y:Ao)(a:DH y)(o:List (List Int))(b:CS y o=true)(hK:2000≤K):FW K y o=some (Cz y o):=by
 unfold FW;rw[Rr _ y a o b hK];have:=OJ y a o hK (BD y) (-1,⟨[],[]⟩) fun t c=>(EJ a.h0).1 c;exact Eq.trans (bd this) rfl
theorem Rv{K:Nat}(y:Ao)(o:List (List Int))(hK:2000≤K)(b:o.length≤1000)(c:o.flatten.length≤1000):
  GO K y o=some (if check y≠0 then (0,⟨[],[]⟩,check y) else if CS y o=false then (0,⟨[],[]⟩,2) else ((Cz y o).1,(Cz y o).2,0)):=by
 unfold GO;rw[bd (IV hK y)]
 by_cases h:check y=0
 ·rw[h,cf (by decide),if_neg (by simp)];have a:=Hf h;rw[bd (Lb y o a.n4 hK b c)];cases d:CS y o with
  |false=>rw[nf,if_pos rfl]
  |true=>rw[nt,if_neg (by simp),bd (Ru y a o d hK)]
 ·rw[ct (by simpa using h),if_pos h]
theorem OK{K:Nat}(y:Ao)(o:List (List Int))(n:Int)(hK:2000≤K)(a:o.length≤1000)(b:o.flatten.length≤1000):
  FB K y o n=some (decide (check y=0)&&(CS y o&&decide ((Cz y o).1≤n))):=by
 unfold FB;rw[bd (Rv y o hK a b)]
 by_cases h:check y=0
 ·rw[if_neg (by simp[h]),dt h];cases c:CS y o with
  |false=>rw[if_pos rfl];rfl
  |true=>rw[if_neg (by simp)];rfl
 ·rw[if_pos h,df h,cf (by simpa using h)];rfl
theorem PC{K:Nat}(y:Ao)(o:List (List Int))(t:AU)(n:Int)(hK:2000≤K)(a:o.length≤1000)(b:o.flatten.length≤1000):
  FX K y o t n=some (decide (check y=0)&&(CS y o&&(En y t&&decide (n≤(Dh y (B7 y o t):Int))))):=by
 unfold FX;rw[bd (Rt y o t hK a b)]
 by_cases h:check y=0
 ·rw[if_neg (by simp[h]),dt h];cases c:CS y o with
  |false=>rw[if_pos (.inl rfl)];rfl
  |true=>
   cases d:En y t with
   |false=>rw[if_pos (.inr rfl)];rfl
   |true=>
    rw[if_neg (by simp)];show(E9 K y (B7 y o t)).bind _=_;rw[bd (Rs y (B7 y o t) (Hf h).n4 (Gt ..) hK)];rfl
 ·rw[if_pos h,df h,cf (by simpa using h)];rfl
def Hn(p:A5→Ag→Bool):List A5→List Ag→List Int→List Int
 |l::ls,s::ss,a::as=>(cond (p l s) (a+1) a)::Hn p ls ss as
 |_,_,as=>as
theorem TA(x:BS)(k:Nat)(v:Int)(h:k<4):(x.set k v).l=x.l.set k v:=by
 match k,h with
 |0,_=>rfl
 |1,_=>rfl
 |2,_=>rfl
 |3,_=>rfl
theorem Km(p:A5→Ag→Bool)(ss:List Ag)(as:List Int):Hn p [] ss as=as:=by cases as<;>rfl
theorem TW{K:Nat}(p:A5→Ag→Bool)(y:Ao)(ss:List Ag)(q:y.Ac.length≤4)(r:ss.length=y.Ac.length):∀(k m i:Nat) (a:BS),ss.length=i+k→k<m→(∀x∈a.l.drop i,0≤x∧x≤100000)→
  ∃b:BS,CQ (fun(st:Unit) (x:A5×Ag)=>some (p x.1 x.2,())) ss y m (i:Int) a.a0 a.a1 a.a2 a.a3 ()=some (b.a0,b.a1,b.a2,b.a3,())∧b.l=a.l.take i++Hn p (y.Ac.drop i) (ss.drop i) (a.l.drop i):=by
 intro k
 induction k with
 |zero=>
  intro m i a h hm e;cases m with
  |zero=>omega
  |succ m=>
   rw[CQ.eq_2,cf (df (by omega)),List.drop_eq_nil_of_le («as»:=y.Ac) (by omega),Km];exact⟨a,rfl,(List.take_append_drop ..).symm⟩
 |succ k ih=>
  intro m i a h hm e;cases m with
  |zero=>omega
  |succ m=>
   have hi:i<ss.length:=by omega
   have f:i<y.Ac.length:=by omega
   have c:i<a.l.length:=by show i<4;omega
   rw[CQ.eq_2,ct (dt (by omega)),BZ hi,BZ f,Option.bind_some,List.drop_eq_getElem_cons hi,List.drop_eq_getElem_cons f,List.drop_eq_getElem_cons c,Hn];cases s:p y.Ac[i] ss[i] with
   |true=>
    have t:=e a.l[i] (by rw[List.drop_eq_getElem_cons c];exact List.mem_cons_self ..);have g:idx [a.a0,a.a1,a.a2,a.a3] (i:Int)=some a.l[i]:=idx_eq c;rw[ct rfl,bd g,Bv (by omega) (by omega),bd g,Bv (by omega) (by omega),CJ,Int.toNat_natCast];obtain⟨b,j,n⟩:=ih m (i+1) (a.set i (a.l[i]+1)) (by omega) (by omega) (fun x d=>by
     rw[TA _ _ _ (by omega),List.drop_set_of_lt (by omega)] at d;exact e x (by rw[List.drop_eq_getElem_cons c];exact List.mem_cons_of_mem _ d))
    refine⟨b,j,?_⟩;rw[n,TA _ _ _ (by omega),List.take_add_one,List.getElem?_set_self c,List.take_set_of_le (Nat.le_refl _),List.drop_set_of_lt (by omega)];simp
   |false=>
    rw[cf rfl,Bv (by omega) (by omega),CJ];obtain⟨b,j,n⟩:=ih m (i+1) a (by omega) (by omega) fun x d=>e x (by rw[List.drop_eq_getElem_cons c];exact List.mem_cons_of_mem _ d);refine⟨b,j,?_⟩;have o:a.l.take (i+1)=a.l.take i++[a.l[i]]:=by rw[List.take_add_one,List.getElem?_eq_getElem c];rfl
    rw[n,o,List.append_assoc];rfl
theorem SI{K:Nat}(p:A5→Ag→Bool)(y:Ao)(t:AU)(ss:List Ag)(e:y.Ac.length≤4)(f:ss.length=y.Ac.length)(hK:2000≤K)(n:Int)(a:BS)(h:0≤n∧n≤100000)(g:∀x∈a.l,0≤x∧x≤100000):
  ∃b:BS,C8 K (fun(st:Unit) (x:A5×Ag)=>some (p x.1 x.2,())) t ss n y a ()=some (true,n+1,b,())∧b.l=Hn p y.Ac ss a.l:=by
 unfold C8;obtain⟨b,c,d⟩:=TW (K:=K) p y ss e f ss.length K 0 a (by omega) (by omega) (by rw[List.drop_zero];exact g);rw[Int.natCast_zero] at c;rw[List.take_zero,List.drop_zero,List.drop_zero,List.drop_zero,List.nil_append] at d;rw[Bv (by omega) (by omega),bd c];exact⟨b,rfl,d⟩
theorem M7(p:A5→Ag→Bool)(B:Int):∀(ls:List A5) (ss:List Ag) (as:List Int),(∀x∈as,0≤x∧x≤B)→∀x∈Hn p ls ss as,0≤x∧x≤B+1
 |l::ls,s::ss,a::as,h,x,b=>by
  rw[Hn] at b;rcases List.mem_cons.1 b with rfl|b
  ·have:=h a (List.mem_cons_self ..);cases p l s<;>simp<;>omega
  ·exact M7 p B ls ss as (fun z c=>h z (List.mem_cons_of_mem _ c)) x b
 |[],_,as,h,x,b=>by
  rw[Km] at b;have:=h x b;omega
 |l::ls,[],as,h,x,b=>by
  have e:Hn p (l::ls) [] as=as:=by cases as<;>rfl
  rw[e] at b;have:=h x b;omega
 |l::ls,s::ss,[],h,x,b=>by
  have e:Hn p (l::ls) (s::ss) []=[]:=rfl;rw[e] at b;cases b
def Jd (p:A5→Ag→Bool) (y:Ao) (o:List (List Int)):List AU→List Int→List Int
 |[],a=>a
 |t::b,a=>Jd p y o b (Hn p y.Ac (B7 y o t) a)
theorem OL{K:Nat}(p:A5→Ag→Bool)(y:Ao)(d:DH y)(o:List (List Int))(hK:2000≤K):∀(c:List AU) (n:Int) (a:BS) (B:Int),0≤n→n+c.length≤100000→B+c.length≤100000→(∀x∈a.l,0≤x∧x≤B)→
  ∃b:BS,run (fun(st:Int×BS×Unit) t=>(C8 K (fun(st:Unit) (x:A5×Ag)=>some (p x.1 x.2,())) t (B7 y o t) st.1 y st.2.1 st.2.2).bind fun r=>some (r.1,(r.2.1,r.2.2.1,r.2.2.2))) c (n,a,())=some (true,n+c.length,b,())∧b.l=Jd p y o c a.l
 |[],n,a,B,_,_,_,_=>⟨a,by simp[run],rfl⟩
 |t::c,n,a,B,h0,g,h,e=>by
  rw[List.length_cons] at g h;obtain⟨b,i,f⟩:=SI (K:=K) p y t (B7 y o t) d.n4 (Gt ..) hK n a (by omega) (fun x j=>by have:=e x j;omega);obtain⟨k,m,q⟩:=OL p y d o hK c (n+1) b (B+1) (by omega) (by omega) (by omega) (by rw[f];exact M7 p B _ _ _ e);refine⟨k,?_,by rw[q,f];rfl⟩;rw[run];show Option.bind ((C8 K _ t (B7 y o t) n y a ()).bind _) _=_;rw[bd i];show run _ c (n+1,b,())=_;rw[m,List.length_cons]
  congr 3;omega
theorem M8(y:Ao)(b:DH y):((BD y).length:Int)=Gh y:=by
 have d:∀ls:List A5,(∀l∈ls,sized l)→((EW ls).length:Int)=Fm ls:=by
  intro ls
  induction ls with
  |nil=>intro _;rfl
  |cons l r ih=>
   intro h;have a:=(h l (List.mem_cons_self ..)).1;rw[EW,Fm,List.length_flatMap,←ih fun x e=>h x (List.mem_cons_of_mem _ e)];have:((List.range (B8 l).toNat).map fun(n:Nat)=>((EW r).map fun c=>(l.As+(n:Int))::c).length)=List.replicate (B8 l).toNat (EW r).length:=by
    apply List.ext_getElem
    ·simp
    ·intro i a f;simp
   rw[this,List.sum_replicate_nat,Int.natCast_mul]
   congr 1;omega
 unfold BD Gh;rw[List.length_flatMap,←d y.Ac fun l g=>(b.sz l g).1];have:((Bu y).map fun w=>((EW y.Ac).map fun c=>(⟨c,w⟩:AU)).length)=List.replicate (Bu y).length (EW y.Ac).length:=by
  apply List.ext_getElem
  ·simp
  ·intro i a f;simp
 rw[this,List.sum_replicate_nat,Int.natCast_mul]
def Cr (p:A5→Ag→Bool) (y:Ao) (o:List (List Int)):List Int:=Jd p y o (BD y) [0,0,0,0]
theorem M9{K:Nat}(p:A5→Ag→Bool)(y:Ao)(a:DH y)(o:List (List Int))(c:CS y o=true)(hK:2000≤K):
  ∃b:BS,CE K (fun(st:Unit) (x:A5×Ag)=>some (p x.1 x.2,())) y o ()=some (b,((BD y).length:Int),())∧b.l=Cr p y o:=by
 unfold CE;rw[Rr _ y a o c hK];have g:=M8 y a;have:=a.many;obtain⟨b,d,e⟩:=OL (K:=K) p y a o hK (BD y) 0 ⟨0,0,0,0⟩ 0 (by omega) (by omega) (by omega) (by intro x f;simp[BS.l] at f;omega);refine⟨b,?_,e⟩;refine Eq.trans (congrArg (fun z=>Option.bind (Option.bind z _) _) d) ?_;rw[Int.zero_add];rfl
end Go.Proofs.YtkljfdkmjdjpfaaGreat
end
section
namespace Go.Proofs.YtkljfdkmjdjpfaaGreat
def DG(y:Ao)(i:Nat):A5:=y.Ac.getD i H9
def Jw(y:Ao)(o:List (List Int))(t:AU)(i:Nat):Ag:=(B7 y o t).getD i Jv
def E3 (y:Ao) (o:List (List Int)) (i:Nat) (t:AU):Bool:=Di (DG y i) (Jw y o t i)
theorem OM(p:A5→Ag→Bool):∀(ls:List A5) (ss:List Ag) (as:List Int) (i:Nat),i<ls.length→i<ss.length→i<as.length→
  (Hn p ls ss as).getD i 0=as.getD i 0+(cond (p (ls.getD i H9) (ss.getD i Jv)) 1 0)
 |l::ls,s::ss,a::as,0,_,_,_=>by
  rw[Hn];show cond (p l s) (a+1) a=a+cond (p l s) 1 0;cases p l s<;>simp
 |l::ls,s::ss,a::as,i+1,b,c,d=>by
  rw[Hn];exact OM p ls ss as i (by simpa using b) (by simpa using c) (by simpa using d)
theorem Iq(p:A5→Ag→Bool):∀(ls:List A5) (ss:List Ag) (as:List Int),(Hn p ls ss as).length=as.length
 |l::ls,s::ss,a::as=>by rw[Hn,List.length_cons,Iq p ls ss as,List.length_cons]
 |[],ss,as=>by rw[Km]
 |l::ls,[],as=>by
  have e:Hn p (l::ls) [] as=as:=by cases as<;>rfl
  rw[e]
 |l::ls,s::ss,[]=>rfl
theorem L4(p:A5→Ag→Bool)(y:Ao)(o:List (List Int))(i:Nat)(hi:i<y.Ac.length):∀(a:List AU) (as:List Int),i<as.length→
  (Jd p y o a as).getD i 0=as.getD i 0+(a.countP (fun t=>p (DG y i) (Jw y o t i)):Nat)
 |[],as,_=>by simp[Jd]
 |t::a,as,h=>by
  rw[Jd,L4 p y o i hi a _ (by rw[Iq];exact h),OM p _ _ _ i hi (by rw[B7,Gt];exact hi) h,List.countP_cons];unfold DG Jw;cases p (y.Ac.getD i H9) ((B7 y o t).getD i Jv)<;>simp<;>omega
theorem Ko(p:A5→Ag→Bool)(y:Ao)(a:DH y)(o:List (List Int))(i:Nat)(hi:i<y.Ac.length):(Cr p y o).getD i 0=((BD y).countP (fun t=>p (DG y i) (Jw y o t i)):Nat):=by
 unfold Cr;have b:=a.n4;rw[L4 p y o i hi _ _ (by show i<4;omega)];have:([0,0,0,0]:List Int).getD i 0=0:=by
  match i,(show i<4 by omega) with
  |0,_=>rfl
  |1,_=>rfl
  |2,_=>rfl
  |3,_=>rfl
 rw[this,Int.zero_add]
theorem N8(b:BS)(i:Nat)(h:i<4):idx [b.a0,b.a1,b.a2,b.a3] (i:Int)=some (b.l.getD i 0):=by
 have:i<[b.a0,b.a1,b.a2,b.a3].length:=h;rw[idx_eq this];show some b.l[i]=_;rw[List.getD_eq_getElem?_getD,List.getElem?_eq_getElem (show i<b.l.length from h)];rfl
def verdict (y:Ao) (o:List (List Int)) (i:Nat):Int:=cond ((BD y).all (E3 y o i)) 1 (cond ((BD y).all fun t=> !E3 y o i t) 2 3)
theorem Lc{α:Type}(p:α→Bool)(l:List α):((((l.countP p:Nat):Int)==(l.length:Int)))=l.all p:=by
 rw[Bool.eq_iff_iff,beq_iff_eq,List.all_eq_true,Int.ofNat_inj,List.countP_eq_length]
theorem MB{α:Type}(p:α→Bool)(l:List α):((((l.countP p:Nat):Int)==0))=l.all fun t=> !p t:=by
 rw[Bool.eq_iff_iff,beq_iff_eq,List.all_eq_true,show(0:Int)=((0:Nat):Int) from rfl,Int.ofNat_inj,List.countP_eq_zero];simp
theorem TX{K:Nat}(y:Ao)(o:List (List Int))(n:Int)(hK:2000≤K)(e:o.length≤1000)(f:o.flatten.length≤1000):
  Fx K y o n=some (if check y≠0 then (0,check y) else if CS y o=false∨FZ n 0 ((y.Ac.length:Int)-1)=false then (0,2) else (verdict y o n.toNat,0)):=by
 unfold Fx;rw[bd (IV hK y)]
 by_cases h:check y=0
 ·rw[h,cf (by decide),if_neg (by simp)];have a:=Hf h;have m:=a.n4;rw[bd (Lb y o a.n4 hK e f)];cases g:CS y o with
  |false=>rw[nf,if_pos (.inl rfl)]
  |true=>
   have j:Gc K y n=some (FZ n 0 ((y.Ac.length:Int)-1)):=by
    unfold Gc;rw[Bv (by omega) (by omega),bd (HO ..)]
   rw[nt,bd j];cases c:FZ n 0 ((y.Ac.length:Int)-1) with
   |false=>rw[nf,if_pos (.inr rfl)]
   |true=>
    rw[nt,if_neg (by simp)];rw[Fi] at c;obtain⟨i,rfl⟩:=Int.eq_ofNat_of_zero_le c.1;have hi:i<y.Ac.length:=by omega
    obtain⟨b,k,l⟩:=M9 (K:=K) Di y a o g hK;have d:CE K (fun(st:Unit) (x:A5×Ag)=>(Dm K x.1 x.2).bind fun r=>some (r,())) y o ()=some (b,((BD y).length:Int),()):=by
     rw[←k];congr 1;funext st x;rw[bd (M5 ..)]
    rw[bd d,bd (N8 b i (by omega)),l,Ko Di y a o i hi,Int.toNat_natCast];unfold verdict;show cond ((((BD y).countP (E3 y o i):Nat):Int)==((BD y).length:Int)) _ (cond ((((BD y).countP (E3 y o i):Nat):Int)==0) _ _)=_;rw[Lc,MB];cases (BD y).all (E3 y o i)<;>cases (BD y).all (fun t=> !E3 y o i t)<;>rfl
 ·rw[ct (by simpa using h),if_pos h]
theorem Kp(y:Ao)(o:List (List Int)):∀(a:List AU) (s:Int×AU),s.1<(y.Ac.length:Int)∨a=[]→
  (∀t∈a,(Dh y (B7 y o t):Int)≤(IK y o a s).1)∧s.1≤(IK y o a s).1∧((IK y o a s)=s∨∃t∈a,(IK y o a s)=((Dh y (B7 y o t):Int),t))
 |[],s,_=>⟨fun t j=>(by cases j),Int.le_refl _,.inl rfl⟩
 |t::a,s,h=>by
  have g:s.1<(y.Ac.length:Int):=by
   rcases h with h|h
   ·exact h
   ·cases h
  have hle:∀x,(Dh y (B7 y o x):Int)≤(y.Ac.length:Int):=fun x=>by
   have:=M6 Cw y.Ac (B7 y o x);unfold Dh;omega
  rw[IK]
  by_cases i:s.1<(Dh y (B7 y o t):Int)
  ·rw[if_pos i];show(∀x∈t::a,_≤(cond (decide ((Dh y (B7 y o t):Int)<(y.Ac.length:Int))) _ _:Int×AU).1)∧_
   by_cases e:(Dh y (B7 y o t):Int)<(y.Ac.length:Int)
   ·rw[ct (dt e)];obtain⟨f,d,b⟩:=Kp y o a ((Dh y (B7 y o t):Int),t) (.inl e);refine⟨fun x c=>?_,by have k:(Dh y (B7 y o t):Int)≤_:=d;omega,.inr ?_⟩
    ·rcases List.mem_cons.1 c with rfl|c
     ·exact d
     ·exact f x c
    ·rcases b with b|⟨x,c,b⟩
     ·exact⟨t,List.mem_cons_self ..,b⟩
     ·exact⟨x,List.mem_cons_of_mem _ c,b⟩
   ·rw[cf (df e)];exact⟨fun x _=>Int.le_trans (hle x) (by show(y.Ac.length:Int)≤(Dh y (B7 y o t):Int);omega),by show s.1≤(Dh y (B7 y o t):Int);omega,.inr ⟨t,List.mem_cons_self ..,rfl⟩⟩
  ·rw[if_neg i];show(∀x∈t::a,_≤(cond (decide (s.1<(y.Ac.length:Int))) _ _:Int×AU).1)∧_;rw[ct (dt g)];obtain⟨f,d,b⟩:=Kp y o a s (.inl g);refine⟨fun x c=>?_,d,?_⟩
   ·rcases List.mem_cons.1 c with rfl|c
    ·omega
    ·exact f x c
   ·rcases b with b|⟨x,c,b⟩
    ·exact .inl b
    ·exact .inr ⟨x,List.mem_cons_of_mem _ c,b⟩
theorem MC{y:Ao}(f:DH y):BD y≠[]:=by
 have g:wl (days y) 0∈Bu y:=by
  refine IC.2 ⟨F7 _ _,?_⟩;have key:∀(l:List Bool) (s r:Int),(∀b∈l,b=false)→okW y.Ap y.Ax l s r=true:=by
   intro l
   induction l with
   |nil=>intros;rfl
   |cons b l ih=>
    intro s r h;have a:=h b (List.mem_cons_self ..);subst a;rw[okW];exact ih s 0 fun x c=>h x (List.mem_cons_of_mem _ c)
  refine key _ 0 0 fun b a=>?_;unfold wl at a;obtain⟨d,_,rfl⟩:=List.mem_map.1 a;exact Nat.zero_testBit d
 have i:DV y.Ac (y.Ac.map (·.As))=true:=by
  have key:∀ls:List A5,(∀l∈ls,sized l)→DV ls (ls.map (·.As))=true:=by
   intro ls
   induction ls with
   |nil=>intro _;rfl
   |cons l r ih=>
    intro h;have:=(h l (List.mem_cons_self ..)).1;rw[List.map_cons,DV,Bool.and_eq_true];exact⟨Fi.2 (by unfold B8 at this;omega),ih fun x c=>h x (List.mem_cons_of_mem _ c)⟩
  exact key _ fun l j=>(f.sz l j).1
 intro e;have:(⟨y.Ac.map (·.As),wl (days y) 0⟩:AU)∈BD y:=by
  unfold BD;exact List.mem_flatMap.2 ⟨_,g,List.mem_map.2 ⟨_,Hb.2 i,rfl⟩⟩
 rw[e] at this;cases this
theorem Ia {y:Ao} (c:DH y) (o:List (List Int)):(∀t,En y t=true→(Dh y (B7 y o t):Int)≤(Cz y o).1)∧En y (Cz y o).2=true∧(Cz y o).1=(Dh y (B7 y o (Cz y o).2):Int):=by
 obtain⟨d,e,a⟩:=Kp y o (BD y) (-1,⟨[],[]⟩) (.inl (by show(-1:Int)<_;omega));refine⟨fun t b=>d t ((EJ c.h0).2 b),?_⟩;rcases a with a|⟨t,b,a⟩
 ·exfalso;obtain⟨t,b⟩:=List.exists_mem_of_ne_nil _ (MC c);have:=d t b;rw[a] at this;have f:(Dh y (B7 y o t):Int)≤-1:=this;omega
 ·unfold Cz;rw[a];exact⟨(EJ c.h0).1 b,rfl⟩
theorem SJ{y:Ao}(d:DH y)(o:List (List Int))(n:Int)(f:∀t,En y t=true→(Dh y (B7 y o t):Int)≤n)(g:∃t,En y t=true∧(Dh y (B7 y o t):Int)=n):(Cz y o).1=n:=by
 obtain⟨a,b,c⟩:=Ia d o;obtain⟨t,h,e⟩:=g;have:=a t h;have:=f _ b;omega
end Go.Proofs.YtkljfdkmjdjpfaaGreat
end
section
namespace Go.Proofs.YtkljfdkmjdjpfaaGreat
def Es:Nat→Nat→List (List Int)→List (List (List Int))
 |0,_,o=>[o]
 |k+1,i,o=>(List.range o.length).flatMap fun r=>(List.range ((o.getD r []).length+1)).flatMap fun(a:Nat)=>Es k (i+1) (o.set r (CM (o.getD r []) (a:Int) (i:Int)))
def D9(y:Ao):List (List (List Int)):=Es y.Ac.length 0 (List.replicate y.Aj.toNat [])
section
variable{σ:Type}{K:Nat}(cb:σ→List (List Int)→Option (Bool×σ))(y:Ao)
def Or(n k i:Nat):Prop:=∀(o:List (List Int)) (st:σ),(∀l∈o,l.length≤i)→o.length≤1000→
 (BB K cb k (i:Int) y o st).map (fun z=>(z.1,z.2.2))=run cb (Es n i o) st∧
 ∀z,BB K cb k (i:Int) y o st=some z→z.1=true→z.2.1=o
theorem ON{l:List (List Int)}{r:Nat}(h:r<l.length):l.set r (l.getD r [])=l:=by
 rw[List.getD_eq_getElem?_getD,List.getElem?_eq_getElem h];exact List.set_getElem_self h
theorem Rw(n k i r:Nat)(hi:i≤10)(o:List (List Int))(s:r<o.length)(v:o.length≤1000)(hlen:∀l∈o,l.length≤i)(ih:Or (K:=K) cb y n k (i+1)):
  ∀(c m a:Nat) (q:List (List Int)) (st:σ),(o.getD r []).length+1=a+c→c<m→q.length=o.length→q.set r (o.getD r [])=o→
  (Cp (BB K cb k) (i:Int) y (r:Int) (o.getD r []) m (a:Int) q st).map SE=run cb ((List.range' a c).flatMap fun(a:Nat)=>Es n (i+1) (o.set r (CM (o.getD r []) (a:Int) (i:Int)))) st∧
  ∀z,Cp (BB K cb k) (i:Int) y (r:Int) (o.getD r []) m (a:Int) q st=some z→(∀x,z=.inl x→x.1=false)∧(∀x,z=.inr x→x.1.length=o.length∧x.1.set r (o.getD r [])=o):=by
 have aH:(o.getD r []).length≤i:=by
  rw[List.getD_eq_getElem?_getD,List.getElem?_eq_getElem s];exact hlen _ (List.getElem_mem s)
 intro c
 induction c with
 |zero=>
  intro m a q st h hm w f;cases m with
  |zero=>omega
  |succ m=>
   rw[Cp.eq_2,cf (df (by omega))];exact⟨rfl,fun z g=>by cases g;exact⟨fun x e=>(by cases e),fun x e=>by cases e;exact⟨w,f⟩⟩⟩
 |succ c aA=>
  intro m a q st h hm w f;cases m with
  |zero=>omega
  |succ m=>
   have aB:r<q.length:=by omega
   have t:q.set r (CM (o.getD r []) (a:Int) (i:Int))=o.set r (CM (o.getD r []) (a:Int) (i:Int)):=by
    have h:(q.set r (o.getD r [])).set r (CM (o.getD r []) (a:Int) (i:Int))=o.set r (CM (o.getD r []) (a:Int) (i:Int)):=by rw[f]
    rw[List.set_set] at h;exact h
   rw[Cp.eq_2,ct (dt (by omega)),F6 (by omega),F6 (by omega),BZ aB,Bv (by omega) (by omega),CJ i,Int.toNat_natCast,t];obtain⟨aD,aE⟩:=ih (o.set r (CM (o.getD r []) (a:Int) (i:Int))) st (fun l aF=>by
    rcases List.mem_or_eq_of_mem_set aF with u|u
    ·have:=hlen l u;omega
    ·rw[u,JF];omega) (by rw[List.length_set];exact v)
   rw[List.range'_succ,List.flatMap_cons,H8,←aD];cases aG:BB K cb k ((i+1:Nat):Int) y (o.set r (CM (o.getD r []) (a:Int) (i:Int))) st with
   |none=>exact⟨rfl,fun z g=>by cases g⟩
   |some z0=>
    obtain⟨b,j,s2⟩:=z0;cases b with
    |false=>
     refine⟨rfl,fun z g=>?_⟩;have aC:some (Sum.inl (false,j,s2))=some z:=g;cases aC;exact⟨fun x e=>by cases e;rfl,fun x e=>by cases e⟩
    |true=>
     have p:j=o.set r (CM (o.getD r []) (a:Int) (i:Int)):=aE _ aG rfl;have key:(Option.bind (some (true,j,s2)) fun d=>cond (!d.1) (some (Sum.inl (false,d.2.1,d.2.2))) ((i64 ((a:Int)+1)).bind fun _=>Cp (BB K cb k) (i:Int) y (r:Int) (o.getD r []) m ((a:Int)+1) d.2.1 d.2.2))=Cp (BB K cb k) (i:Int) y (r:Int) (o.getD r []) m ((a+1:Nat):Int) j s2:=by
      rw[Option.bind_some,nt,Bv (by omega) (by omega),CJ a]
     rw[key];exact aA m (a+1) j s2 (by omega) (by omega) (by rw[p,List.length_set]) (by rw[p,List.set_set];exact ON s)
theorem Rx(n k i:Nat)(hi:i≤10)(hK:2000≤K)(o:List (List Int))(p:o.length≤1000)(hlen:∀l∈o,l.length≤i)(ih:Or (K:=K) cb y n k (i+1)):
  ∀(c m r:Nat) (st:σ),o.length=r+c→c<m→
  (Ch (BB K cb k) K (i:Int) y o m (r:Int) o st).map SE=run cb ((List.range' r c).flatMap fun r=>(List.range ((o.getD r []).length+1)).flatMap fun(a:Nat)=>Es n (i+1) (o.set r (CM (o.getD r []) (a:Int) (i:Int)))) st∧
  ∀z,Ch (BB K cb k) K (i:Int) y o m (r:Int) o st=some z→(∀x,z=.inl x→x.1=false)∧(∀x,z=.inr x→x.1=o):=by
 intro c
 induction c with
 |zero=>
  intro m r st h hm;cases m with
  |zero=>omega
  |succ m=>
   rw[Ch.eq_2,cf (df (by omega))];exact⟨rfl,fun z j=>by cases j;exact⟨fun x f=>(by cases f),fun x f=>by cases f;rfl⟩⟩
 |succ c q=>
  intro m r st h hm;cases m with
  |zero=>omega
  |succ m=>
   have g:r<o.length:=by omega
   have aF:(o.getD r []).length≤i:=by
    rw[List.getD_eq_getElem?_getD,List.getElem?_eq_getElem g];exact hlen _ (List.getElem_mem g)
   have s:o[r]=o.getD r []:=by rw[List.getD_eq_getElem?_getD,List.getElem?_eq_getElem g];rfl
   rw[Ch.eq_2,ct (dt (by omega)),BZ g,s,Bv (by omega) (by omega)];obtain⟨t,u⟩:=Rw cb y n k i r hi o g p hlen ih ((o.getD r []).length+1) K 0 o st (by omega) (by omega) rfl (ON g);rw[Int.natCast_zero] at t u;rw[List.range'_succ,List.flatMap_cons,H8,List.range_eq_range',←t];cases aA:Cp (BB K cb k) (i:Int) y (r:Int) (o.getD r []) K 0 o st with
   |none=>exact⟨rfl,fun z j=>by cases j⟩
   |some z0=>
    obtain⟨aB,aC⟩:=u _ aA;cases z0 with
    |inl x=>
     obtain⟨b,e,s2⟩:=x;obtain rfl:b=false:=aB _ rfl;refine⟨rfl,fun z j=>?_⟩;have v:some (Sum.inl (false,e,s2))=some z:=j;cases v;exact⟨fun x f=>by cases f;rfl,fun x f=>by cases f⟩
    |inr x=>
     obtain⟨e,s2⟩:=x;obtain⟨aD,aE⟩:=aC _ rfl;have aG:e.length=o.length:=aD;have w:e.set r (o.getD r [])=o:=aE;have key:(Option.bind (some (Sum.inr (e,s2):(Bool×List (List Int)×σ)⊕(List (List Int)×σ))) fun z=>Sum.elim (fun d=>some (Sum.inl (d.1,d.2.1,d.2.2))) (fun d=>(idx d.1 (r:Int)).bind fun _=>(i64 ((r:Int)+1)).bind fun _=>Ch (BB K cb k) K (i:Int) y o m ((r:Int)+1) (d.1.set (r:Int).toNat (o.getD r [])) d.2) z)=Ch (BB K cb k) K (i:Int) y o m ((r+1:Nat):Int) o s2:=by
      rw[Option.bind_some];show(idx e (r:Int)).bind _=_;rw[BZ (show r<e.length by omega),Bv (by omega) (by omega),CJ r];show Ch _ K _ y o m _ (e.set (r:Int).toNat (o.getD r [])) s2=_;rw[Int.toNat_natCast,w]
     rw[key];exact q m (r+1) s2 (by omega) (by omega)
theorem Ry(t:y.Ac.length≤4)(hK:2000≤K):∀(n k i:Nat),y.Ac.length=i+n→n<k→Or (K:=K) cb y n k i:=by
 intro n
 induction n with
 |zero=>
  intro k i h l o st hlen e;cases k with
  |zero=>omega
  |succ k=>
   rw[BB.eq_2,ct (by rw[h];simp)];rw[Es,run];cases cb st o with
   |none=>exact⟨rfl,fun z a=>by cases a⟩
   |some r=>
    obtain⟨b,s⟩:=r;refine⟨by cases b<;>rfl,fun z a _=>?_⟩;have c:some (b,o,s)=some z:=a;cases c;rfl
 |succ n ih=>
  intro k i h l o st hlen e;cases k with
  |zero=>omega
  |succ k=>
   rw[BB.eq_2,cf (by simp;omega)];obtain⟨f,g⟩:=Rx cb y n k i (by omega) hK o e hlen (ih k (i+1) (by omega) (by omega)) o.length K 0 st (by omega) (by omega);rw[Int.natCast_zero] at f g;rw[Es,List.range_eq_range',←f];cases m:Ch (BB K cb k) K (i:Int) y o K 0 o st with
   |none=>exact⟨rfl,fun z a=>by cases a⟩
   |some z0=>
    obtain⟨p,q⟩:=g _ m;cases z0 with
    |inl x=>
     obtain⟨b,d,s2⟩:=x;obtain rfl:b=false:=p _ rfl;refine⟨rfl,fun z a j=>?_⟩;have c:some (false,d,s2)=some z:=a;cases c;cases j
    |inr x=>
     obtain⟨d,s2⟩:=x;obtain rfl:d=o:=q _ rfl;refine⟨rfl,fun z a j=>?_⟩;have c:some (true,d,s2)=some z:=a;cases c;rfl
end
theorem OO{σ:Type}{K:Nat}(cb:σ→List (List Int)→Option (Bool×σ))(y:Ao)(a:DH y)(hK:2000≤K)(st:σ):Ff K cb y st=(run cb (D9 y) st).bind fun r=>some r.2:=by
 unfold Ff;have:=a.r1;have:=a.r2;rw[NG (by omega) (by omega) (by omega)];obtain⟨b,_⟩:=Ry cb y a.n4 hK y.Ac.length K 0 (by omega) (by have:=a.n4;omega) (List.replicate y.Aj.toNat []) st (fun l c=>by rw[(List.mem_replicate.1 c).2];exact Nat.le_refl _) (by rw[List.length_replicate];omega);rw[Int.natCast_zero] at b;unfold D9;rw[←b];cases BB K cb K 0 y (List.replicate y.Aj.toNat []) st with
 |none=>rfl
 |some z=>rfl
end Go.Proofs.YtkljfdkmjdjpfaaGreat
end
section
namespace Go.Proofs.YtkljfdkmjdjpfaaGreat
theorem RA(l:List Int)(a i:Int):(CM l a i).Perm (i::l):=by
 unfold CM;refine List.perm_middle.trans (List.Perm.cons _ ?_);rw[List.take_append_drop]
theorem Je(v:Int):∀(o:List (List Int)) (r:Nat) (a:Int),r<o.length→(o.set r (CM (o.getD r []) a v)).flatten.Perm (v::o.flatten)
 |l::o,0,a,_=>by
  show(CM l a v++o.flatten).Perm (v::(l++o.flatten));exact(RA l a v).append_right _
 |l::o,r+1,a,h=>by
  show(l++(o.set r (CM (o.getD r []) a v)).flatten).Perm (v::(l++o.flatten));exact((Je v o r a (by simpa using h)).append_left l).trans List.perm_middle
theorem Ld(n:Nat):iota (n+1)=iota n++[(n:Int)]:=by simp[iota,List.range_succ]
theorem MD:∀(k i:Nat) (c o:List (List Int)),c.flatten.Perm (iota i)→o∈Es k i c→o.length=c.length∧o.flatten.Perm (iota (i+k))
 |0,i,c,o,h,b=>by
  rw[Es,List.mem_singleton] at b;subst b;exact⟨rfl,h⟩
 |k+1,i,c,o,h,b=>by
  rw[Es,List.mem_flatMap] at b;obtain⟨r,d,b⟩:=b;obtain⟨a,_,b⟩:=List.mem_flatMap.1 b;rw[List.mem_range] at d;obtain⟨e,f⟩:=MD k (i+1) _ o (by
   rw[Ld];exact((Je (i:Int) c r (a:Int) d).trans (h.cons _)).trans (List.perm_append_singleton _ _).symm) b
  rw[List.length_set] at e;exact⟨e,by rw[show i+(k+1)=i+1+k by omega];exact f⟩
theorem Ib{y:Ao}(a:DH y){o:List (List Int)}(h:o∈D9 y):CS y o=true:=by
 have:=MD _ 0 _ o (by
  have:(List.replicate y.Aj.toNat ([]:List Int)).flatten=[]:=by simp
  rw[this];exact List.Perm.refl _) h
 rw[List.length_replicate,Nat.zero_add] at this;refine EF.2 ⟨?_,this.2⟩;have:=a.r1;omega
theorem Le:∀(k i:Nat) (c o:List (List Int)) (r a:Nat),o∈Es k i c→r<o.length→a≤(o.getD r []).length→o.set r (CM (o.getD r []) (a:Int) ((i+k:Nat):Int))∈Es (k+1) i c
 |0,i,c,o,r,a,b,d,e=>by
  rw[Es,List.mem_singleton] at b;subst b;rw[Es,List.mem_flatMap];refine⟨r,List.mem_range.2 d,List.mem_flatMap.2 ⟨a,List.mem_range.2 (by omega),?_⟩⟩;rw[Es,List.mem_singleton];rfl
 |k+1,i,c,o,r,a,b,d,e=>by
  rw[Es,List.mem_flatMap] at b;obtain⟨r1,f,b⟩:=b;obtain⟨a1,g,b⟩:=List.mem_flatMap.1 b;rw[Es,List.mem_flatMap];refine⟨r1,f,List.mem_flatMap.2 ⟨a1,g,?_⟩⟩;have:=Le k (i+1) _ o r a b d e;rw[show i+1+k=i+(k+1) by omega] at this;exact this
theorem ME (v:Int):∀(o:List (List Int)),v∈o.flatten→∃(o':List (List Int)) (r a:Nat),r<o'.length∧a≤(o'.getD r []).length∧o=o'.set r (CM (o'.getD r []) (a:Int) v)∧o.flatten.Perm (v::o'.flatten)∧o'.length=o.length
 |[],h=>by cases h
 |l::o,h=>by
  by_cases b:v∈l
  ·obtain⟨s,t,rfl⟩:=List.append_of_mem b;refine⟨(s++t)::o,0,s.length,by simp,by simp,?_,?_,by simp⟩
   ·show _=CM (s++t) (s.length:Int) v::o;unfold CM;rw[Int.toNat_natCast,List.take_left,List.drop_left]
   ·show((s++v::t)++o.flatten).Perm (v::((s++t)++o.flatten));exact(List.perm_middle (a:=v) (l₁:=s) (l₂:=t)).append_right _
  ·have c:v∈o.flatten:=by
    rw[List.flatten_cons,List.mem_append] at h;exact h.resolve_left b
   obtain⟨o',r,a,d,e,f,g,i⟩:=ME v o c;refine⟨l::o',r+1,a,by simpa using d,e,?_,?_,by simp[i]⟩
   ·show l::o=l::o'.set r (CM (o'.getD r []) (a:Int) v);rw[←f]
   ·show(l++o.flatten).Perm (v::(l++o'.flatten));exact(g.append_left l).trans List.perm_middle
theorem LP(Ly:Nat):∀(n:Nat) (o:List (List Int)),o.length=Ly→o.flatten.Perm (iota n)→o∈Es n 0 (List.replicate Ly [])
 |0,o,c,b=>by
  rw[Es,List.mem_singleton];have he:o.flatten=[]:=b.eq_nil;rw[List.flatten_eq_nil_iff] at he;exact List.eq_replicate_iff.2 ⟨c,he⟩
 |n+1,o,c,b=>by
  have e:(n:Int)∈o.flatten:=b.mem_iff.2 (by rw[Ld];simp);obtain⟨o',r,a,f,g,h,i,k⟩:=ME (n:Int) o e;have d:o'.flatten.Perm (iota n):=by
   have j:(iota (n+1)).Perm ((n:Int)::iota n):=by rw[Ld];exact List.perm_append_singleton _ _
   exact(List.perm_cons _).1 ((i.symm.trans b).trans j)
  have:=Le n 0 _ o' r a (LP Ly n o' (by omega) d) f g;rw[Nat.zero_add] at this;rw[h];exact this
theorem Fp{y:Ao}(a:DH y){o:List (List Int)}:o∈D9 y↔CS y o=true:=by
 refine⟨Ib a,fun h=>?_⟩;have b:=EF.1 h;exact LP _ _ o (by omega) b.2
theorem MF{y:Ao}(a:DH y):D9 y≠[]:=by
 have:((iota y.Ac.length)::List.replicate (y.Aj.toNat-1) [])∈D9 y:=by
  refine(Fp a).2 (EF.2 ⟨?_,?_⟩)
  ·have:=a.r1;simp;omega
  ·simp
 intro e;rw[e] at this;cases this
theorem SK(p:List (List Int))(c:p.length≤1000)(a:∀l∈p,l.length≤1000):∀(k m i:Nat),p.length=i+k→k<m→Fa p m (i:Int) p=some p:=by
 intro k
 induction k with
 |zero=>
  intro m i h hm;cases m with
  |zero=>omega
  |succ m=>rw[Fa.eq_2,cf (df (by omega))]
 |succ k ih=>
  intro m i h hm;cases m with
  |zero=>omega
  |succ m=>
   have hi:i<p.length:=by omega
   have b:=a p[i] (List.getElem_mem hi);rw[Fa.eq_2,ct (dt (by omega)),BZ hi,F6 (by omega),BZ hi,Bv (by omega) (by omega),CJ,Int.toNat_natCast,List.set_getElem_self hi];exact ih m (i+1) (by omega) (by omega)
theorem OP{K:Nat}(p:List (List Int))(a:p.length≤1000)(b:∀l∈p,l.length≤1000)(hK:2000≤K):FD K p=some p:=by
 unfold FD;have:=SK p a b p.length K 0 (by omega) (by omega);rw[Int.natCast_zero] at this;rw[F6 (by omega),bd this]
theorem HV{y:Ao}(a:DH y){o:List (List Int)}(h:CS y o=true):o.length≤1000∧(∀l∈o,l.length≤1000)∧o.flatten.length≤1000:=by
 have b:=EF.1 h;have c:=M3 h;have:=a.r2;have:=a.n4;have d:=b.2.length_eq;rw[HL] at d;exact⟨by omega,fun l e=>by have:=(c l e).1;omega,by omega⟩
def Ir(y:Ao):List (List (List Int))→Int×List (List Int)→Int×List (List Int)
 |[],s=>s
 |o::os,s=>
  let s2:=if (Cz y o).1<s.1 then ((Cz y o).1,o) else s
  cond (decide (0<s2.1)) (Ir y os s2) s2
def Ht(y:Ao):Int×List (List Int):=Ir y (D9 y) ((y.Ac.length:Int)+1,[])
theorem OQ{K:Nat}(y:Ao)(a:DH y)(hK:2000≤K):∀(os:List (List (List Int))) (s:Int×List (List Int)),(∀o∈os,CS y o=true)→
  (run (fun(st:Int×(List (List Int))) (x:(List (List Int)))=>(GB K x y st.1 st.2).bind fun r=>some (r.1,(r.2.1,r.2.2))) os s).bind (fun r=>some r.2)=some (Ir y os s)
 |[],s,_=>rfl
 |o::os,s,h=>by
  have d:=h o (List.mem_cons_self ..);obtain⟨e,f,_⟩:=HV a d;rw[run,Ir];unfold GB;rw[bd (Ru y a o d hK)]
  by_cases b:(Cz y o).1<s.1
  ·rw[ct (dt b),bd (OP o e f hK),if_pos b];show(cond (decide (0<(Cz y o).1)) _ _:Option (Bool×Int×List (List Int))).bind _=some (cond (decide (0<(Cz y o).1)) _ _);cases decide (0<(Cz y o).1) with
   |false=>rfl
   |true=>exact OQ y a hK os _ fun x c=>h x (List.mem_cons_of_mem _ c)
  ·rw[cf (df b),if_neg b];show(cond (decide (0<s.1)) _ _:Option (Bool×Int×List (List Int))).bind _=some (cond (decide (0<s.1)) _ _);cases decide (0<s.1) with
   |false=>rfl
   |true=>exact OQ y a hK os s fun x c=>h x (List.mem_cons_of_mem _ c)
theorem RB{K:Nat}(y:Ao)(hK:2000≤K):GP K y=some (if check y≠0 then ([],0,check y) else ((Ht y).2,(Ht y).1,0)):=by
 unfold GP;rw[bd (IV hK y)]
 by_cases h:check y=0
 ·rw[h,cf (by decide),if_neg (by simp)];have a:=Hf h;have c:=a.n4;rw[Bv (by omega) (by omega),OO _ y a hK];exact Eq.trans (bd (OQ y a hK (D9 y) _ fun o b=>Ib a b)) rfl
 ·rw[ct (by simpa using h),if_pos h]
theorem L5{y:Ao}(a:DH y)(o:List (List Int)):0≤(Cz y o).1∧(Cz y o).1≤(y.Ac.length:Int):=by
 obtain⟨_,_,e⟩:=Ia a o;have:=M6 Cw y.Ac (B7 y o (Cz y o).2);rw[e];unfold Dh;omega
theorem Kq(y:Ao)(d:DH y):∀(os:List (List (List Int))) (s:Int×List (List Int)),0<s.1∨os=[]→
  (∀o∈os,(Ir y os s).1≤(Cz y o).1)∧(Ir y os s).1≤s.1∧((Ir y os s)=s∨∃o∈os,(Ir y os s)=((Cz y o).1,o))
 |[],s,_=>⟨fun o j=>(by cases j),Int.le_refl _,.inl rfl⟩
 |o::os,s,h=>by
  have g:0<s.1:=by
   rcases h with h|h
   ·exact h
   ·cases h
  rw[Ir]
  by_cases i:(Cz y o).1<s.1
  ·rw[if_pos i];show(∀x∈o::os,(cond (decide (0<(Cz y o).1)) _ _:Int×List (List Int)).1≤_)∧_
   by_cases e:0<(Cz y o).1
   ·rw[ct (dt e)];obtain⟨f,c,a⟩:=Kq y d os ((Cz y o).1,o) (.inl e);have k:(Ir y os ((Cz y o).1,o)).1≤(Cz y o).1:=c;refine⟨fun x b=>?_,by omega,.inr ?_⟩
    ·rcases List.mem_cons.1 b with rfl|b
     ·exact c
     ·exact f x b
    ·rcases a with a|⟨x,b,a⟩
     ·exact⟨o,List.mem_cons_self ..,a⟩
     ·exact⟨x,List.mem_cons_of_mem _ b,a⟩
   ·rw[cf (df e)];refine⟨fun x _=>?_,by show(Cz y o).1≤s.1;omega,.inr ⟨o,List.mem_cons_self ..,rfl⟩⟩;have:=(L5 d x).1;show(Cz y o).1≤_;omega
  ·rw[if_neg i];show(∀x∈o::os,(cond (decide (0<s.1)) _ _:Int×List (List Int)).1≤_)∧_;rw[ct (dt g)];obtain⟨f,c,a⟩:=Kq y d os s (.inl g);refine⟨fun x b=>?_,c,?_⟩
   ·rcases List.mem_cons.1 b with rfl|b
    ·omega
    ·exact f x b
   ·rcases a with a|⟨x,b,a⟩
    ·exact .inl a
    ·exact .inr ⟨x,List.mem_cons_of_mem _ b,a⟩
theorem Kr {y:Ao} (a:DH y):(∀o,CS y o=true→(Ht y).1≤(Cz y o).1)∧CS y (Ht y).2=true∧(Ht y).1=(Cz y (Ht y).2).1:=by
 obtain⟨d,e,b⟩:=Kq y a (D9 y) ((y.Ac.length:Int)+1,[]) (.inl (by show(0:Int)<_+1;omega));refine⟨fun o c=>d o ((Fp a).2 c),?_⟩;rcases b with b|⟨o,c,b⟩
 ·exfalso;obtain⟨o,c⟩:=List.exists_mem_of_ne_nil _ (MF a);have:=d o c;rw[b] at this;have f:(y.Ac.length:Int)+1≤(Cz y o).1:=this;have:=(L5 a o).2;omega
 ·unfold Ht;rw[b];exact⟨Ib a c,rfl⟩
end Go.Proofs.YtkljfdkmjdjpfaaGreat
end
