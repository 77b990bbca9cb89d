import Derived.Test.YtkljfdkmjdjpfaaGreatBB1
import Derived.WalkKit
import Derived.KernelRfl
import Derived.WalkSpells
import Derived.WalkLawsBesides
import Derived.Maps.AppendAt
import Derived.OrdersIn
import Derived.RangeFuncIn
import Derived.RangeFuncLeaves
import Derived.RangeFuncRecord
import Derived.RangeFuncSeq
import Derived.Scope
import Derived.DeepKeys3
import Derived.Laws.CopyRow
import Derived.Laws.OwnMore
import Derived.Laws.MakeOwn
import Derived.Laws.IdiomCopy
/-
  The contracts of the functions of the program and of the reference, and the logic that they are proved in: the base that several claims of this seat share.
-/
set_option linter.all false
section
namespace Go.Proofs.YtkljfdkmjdjpfaaGreat
open Go.RowKit Go.WideShapes
theorem Vy{f:Operand→Value}{i0 i1 i2 i3 i4:Nat}{a x1 x2 b c:Operand}{v0 v1 v2 v3 v4:Value}(h0:f a=v0)(d:f x1=v1)(e:f x2=v2)(g:f b=v3)(h:f c=v4): #[(i0,a),(i1,x1),(i2,x2),(i3,b),(i4,c)].map (fun(i,x)=>(i,f x))= #[(i0,v0),(i1,v1),(i2,v2),(i3,v3),(i4,v4)]:=by simp[h0,d,e,g,h]
section
variable{F F' F0:Nat→Prop}{B:List (Option Nat)}{w0 w w' w1 w2:World}{Z Z':Nat→Prop}{L L' M C:List (Option Nat)}{D:Nat→Prop}
theorem BT(a:List Nat)(h:Gs L a M):∀x∈M,x∈L:=h.sub
theorem AJ(a:List Nat)(h:Gs L a M)(b:∀k,F' k→F k):∀k,FU F' M k→F k∨some k∈L:=Tm h.sub b
theorem CT(h:∀k,F0 k→F k):∀k,FU F0 C k→F k∨some k∈C:=fun k a=>a.imp (h k) id
theorem Gi{k:Nat}{o:Obj}{r:Option Nat}(h:w.heap[k]?=some o)(g:w.grownBy w' r)(a:some k≠r):w'.heap[k]?=some o:=(g.block k (Array.getElem?_eq_some_iff.1 h).1 a).trans h
theorem EZ{k:Nat}{o:Obj}(h:w.heap[k]?=some o)(g:Bi D w w')(a:¬D k):w'.heap[k]?=some o:=(g.block k (Array.getElem?_eq_some_iff.1 h).1 a).trans h
theorem Ch.BC{α:Type}{ev:α→Value}{r n:Nat}{a:List (List Int×α)}(h:Ch ev w r n a)(g:Bi D w w')(b:¬D r):Ch ev w' r n a:=h.of (g.block r h.lt b)
theorem Ch.F5{α:Type}{ev:α→Value}{r n:Nat}{a:List (List Int×α)}(h:Ch ev w r n a)(e:w'.heap[r]?=w.heap[r]?):Ch ev w' r n a:=h.of e
theorem Bk.F5{b:Nat}{t:TypeId}{cs:Array Value}(h:Bk w b t cs)(e:w'.heap[b]?=w.heap[b]?):Bk w' b t cs:=e.trans h
theorem Hp.zz(h:Hp F B w0 L w)(a c:List Nat)(d:Gs L a M)(e:Gs L c C)(f:∀k,F' k→F k∨some k∈C):∀b,ZZ F B Z w0.heap.size L b→¬F' b∧some b∉M:=h.zc d.sub fun k g=>(f k g).imp id (e.sub _)
theorem Hp.mz(h:Hp F B w0 L w)(a b:List Nat)(c:Gs L a M)(d:Gs L b C)(e:∀k,F' k→F k∨some k∈C):Mv w (ZZ F B Z w0.heap.size L) w (ZC F' M):=RI (h.zz a b c d e)
theorem Ou{i:Nat}{a b:List Nat}(h:((a++b).all fun j=> !Nat.beq i j)=true):(a.all fun j=> !Nat.beq i j)=true∧(b.all fun j=> !Nat.beq i j)=true:=by
 rw[List.all_append,Bool.and_eq_true] at h;exact h
theorem Hp.bz(h:Hp F B w0 L w)(i:Nat){b:Nat}(hi:L[i]?=some (some b))(a c:List Nat)(e:Gs L a M)(f:Gs L c C)(g:∀k,F' k→F k∨some k∈C)(d:((a++c).all fun j=> !Nat.beq i j)=true):ZC F' M b:=by
 have l:=h.By (F':=F) i hi a (Ou d).1 e (fun _ h=>h);have m:=h.By (F':=F) i hi c (Ou d).2 f (fun _ h=>h);exact⟨fun n=>m ((g b n).imp id id),fun hm=>l (.inr hm)⟩
theorem Hp.rz{α:Type}{e:D0 α}{t:TypeId}{n0:Nat}{A:Option Addr}{c:Nat}{xs:List α}(h:Hp F B w0 L w)(i:Nat)(hi:L[i]?=some (ob A))(a b:List Nat)(d:Gs L a M)(f:Gs L b C)(g:∀k,F' k→F k∨some k∈C)(l:((a++b).all fun j=> !Nat.beq i j)=true)
  (m:AH e t n0 w (ZZ F B Z w0.heap.size L) A c xs):Sl e w (ZC F' M) A c xs:=
 (m.up (h.mz a b d f g)).sl fun k n _=>h.bz i (by rw[hi,n]) a b d f g l
theorem Bp{Z:Nat→Prop}(w:World):Mv w Z w (ZZ FN [] Z w.heap.size L):=Bd (fun _ _=>⟨id,by simp⟩) w
theorem Jd(h:Mv w Z w' Z):Mv w Z w' (ZZ FN [] Z w.heap.size M):=⟨h.size,fun b a c=>⟨.inl ⟨c,a,id,by simp⟩,(h.stay b a c).2⟩⟩
theorem KL{n:Nat}:Mv w (ZZ FN [] Z n M) w (ZZ FN [] Z n [none]):=G4 fun b a _=>a.imp id fun⟨c,_⟩=>⟨c,by simp⟩
theorem Lc{n:Nat}{o:Option Nat}(h:o∈M:=by simp):Mv w (ZZ FN [] Z n M) w (ZZ FN [] Z n [o]):=G4 fun b a _=>a.imp id fun⟨c,d⟩=>⟨c,fun hm=>by
 rw[List.mem_singleton] at hm;exact d (by rw[hm];exact h)⟩
theorem Ke(g:Bi D w w')(h:∀b,Z b→¬D b):Mv w Z w' Z:=⟨g.size,fun b a c=>⟨a,g.block b c (h b a)⟩⟩
theorem Jz{b:Nat}{o:Option Nat}(h:¬FU FN C b∧some b≠o):¬FU FN C b:=h.1
theorem PU{b:Nat}{o:Option Nat}(h:¬FU F C b∧some b≠o):¬FU F (C++[o]) b:=by
 rintro(a|a)
 ·exact h.1 (.inl a)
 ·rcases List.mem_append.1 a with c|c
  ·exact h.1 (.inr c)
  ·exact h.2 (by simpa using c)
theorem EH{b:Nat}{o:Option Nat}(h:¬FU F C b)(k:some b≠o):¬F b∧some b∉C++[o]:=
 ⟨fun a=>h (.inl a),fun a=>by
  rcases List.mem_append.1 a with c|c
  ·exact h (.inr c)
  ·exact k (by simpa using c)⟩
theorem Bi.lf{o:Option Nat}(g:Bi (FU F (C++[o])) w w'):Bi (FU (FU F C) [o]) w w':=g.mono fun k h=>by
 rcases h with h|h
 ·exact .inl (.inl h)
 ·rcases List.mem_append.1 h with a|a
  ·exact .inl (.inr a)
  ·exact .inr a
theorem Bi.PV{o:Option Nat}(g:Bi (FU F C) w w'):Bi (FU (FU F C) [o]) w w':=g.mono fun _ h=>.inl h
theorem Bi.cl{M1 M2:List (Option Nat)}(g:Bi (FU (FU F M1) M2) w w'):Bi (FU F (M1++M2)) w w':=g.fl
theorem Hp.IN(h:Hp F B w0 L w)(b:List Nat)(c:Gs L b C)(d:∀k,F0 k→F k):∀k,FU F0 C k→k<w.heap.size:=fun k a=>by
 rcases a with a|a
 ·exact Nat.lt_of_lt_of_le (h.ff k (d k a)) h.sz
 ·exact(h.lo k (c.sub _ a)).1
theorem Hp.RL(h:Hp F B w0 L w)(i:Nat){k:Nat}(hi:L[i]?=some (some k))(a:List Nat)(b:(a.all fun j=> !Nat.beq i j)=true)(c:Gs L a C):k<w.heap.size∧¬FU F C k:=
 ⟨(h.lo k (List.mem_of_getElem? hi)).1,h.By (F':=F) i hi a b c fun _ h=>h⟩
theorem Hp.C2{x d:Option Nat}(h:Hp F B w0 L w)(i:Nat)(hi:L[i]?=some x)(a:List Nat)(g:(a.all fun j=> !Nat.beq i j)=true)(l:Gs L a M)(m:∀y∈B,y=d∨y∈M):∀k,x=some k→(d=some k∨w0.heap.size≤k)∧k<w.heap.size:=fun k e=>by
 have f:=h.lo k (List.mem_of_getElem? (by rw[hi,e]));refine⟨?_,f.1⟩;rcases Nat.lt_or_ge k w0.heap.size with b|b
 ·left;rcases m _ (f.2.2 b) with c|c
  ·exact c.symm
  ·exact absurd (.inr c) (h.By (F':=F) i (by rw[hi,e]) a g l fun _ h=>h)
 ·exact .inr b
theorem BQ.snoc{o:Option Nat}(h:BQ F C w)(l:∀k,o=some k→k<w.heap.size∧¬FU F C k):BQ F (C++[o]) w:=by
 refine⟨fun k q=>?_,fun i j x m hi f=>?_,h.ff⟩
 ·rcases List.mem_append.1 q with d|d
  ·exact h.lt k d
  ·have c:=l k (by rw[List.mem_singleton] at d;exact d.symm);exact⟨c.1,fun r=>c.2 (.inl r)⟩
 ·have key:∀(a b:Nat),a<C.length→¬b<C.length→(C++[o])[a]?=some (some x)→(C++[o])[b]?=some (some x)→False:=fun a b s t d c=>by
   rw[List.getElem?_append_left s] at d;rw[List.getElem?_append_right (by omega)] at c;have n:b-C.length=0:=by
    rcases Nat.eq_zero_or_pos (b-C.length) with h|h
    ·exact h
    ·rw[List.getElem?_eq_none (by simp;omega)] at c;cases c
   rw[n] at c;have p:o=some x:=by simpa using c
   exact(l x p).2 (.inr (List.mem_of_getElem? d))
  by_cases g:i<C.length
  ·by_cases e:j<C.length
   ·rw[List.getElem?_append_left g] at hi;rw[List.getElem?_append_left e] at f;exact h.ap i j x m hi f
   ·exact key i j g e hi f
  ·by_cases e:j<C.length
   ·exact key j i e g f hi
   ·have u:(C++[o]).length=C.length+1:=by simp
    have d:=(List.getElem?_eq_some_iff.1 hi).1;have c:=(List.getElem?_eq_some_iff.1 f).1;omega
theorem BQ.keep{o o':Option Nat}(h:BQ F C w)(g:w.heap.size≤w1.heap.size)(c:∀k,o=some k→k<w1.heap.size∧¬FU F C k)(d:∀k,o'=some k→(o=some k∨w1.heap.size≤k)∧k<w2.heap.size):∀k,o'=some k→k<w2.heap.size∧¬FU F C k:=fun k e=>by
 obtain⟨a,f⟩:=d k e;refine⟨f,?_⟩;rcases a with a|a
 ·exact(c k a).2
 ·rintro(b|b)
  ·have:=h.ff k b;omega
  ·have:=(h.lt k b).1;omega
def UY(L:List (Option Nat))(n:Nat):List (Option Nat)→Prop
 |[]=>True
 |x::M=>((∃j:Nat,L[j]?=some x)∨∀k,x=some k→some k∈L∨n≤k)∧UY L n M
theorem Co{n:Nat}:∀{M:List (Option Nat)},UY L n M→∀k,some k∈M→some k∈L∨n≤k
 |[],_,_,h=>by cases h
 |x::M,h,k,a=>by
  rcases List.mem_cons.1 a with e|a
  ·rcases h.1 with⟨j,b⟩|c
   ·left;rw[e];exact List.mem_of_getElem? b
   ·exact c k e.symm
  ·exact Co h.2 k a
theorem DE{y:Option Nat}(i:Nat)(h:y∈M):∀x∈L.set i y,x∈L∨x∈M:=fun x a=>by
 rcases List.mem_or_eq_of_mem_set a with b|e
 ·exact .inl b
 ·exact .inr (by rw[e];exact h)
theorem Iy{o:Option Nat}:∀b,ZC F [o] b→¬F b∧some b≠o:=fun _ h=>⟨h.1,fun e=>h.2 (by rw[e];exact List.mem_singleton_self _)⟩
end
theorem Ov{F:Nat→Prop}{B L:List (Option Nat)}{n:Nat}{Z Z':Nat→Prop}(h:∀b,Z b→Z' b):∀b,ZZ F B Z n L b→ZZ F B Z' n L b:=fun b a=>a.imp (fun⟨c,d,e⟩=>⟨c,h b d,e⟩) id
def IP{α:Type}(e:D0 α)(w:World)(Z:Nat→Prop)(A:Option Addr)(c:Nat)(xs:List α):Prop:=
 xs.length≤c∧(A=none→c=0)∧∃Bc,R2 e w Z Bc xs∧Rz w ZA A Bc.flatten
section
variable{α:Type}{e:D0 α}{t:TypeId}{n0:Nat}{w w':World}{Z Z':Nat→Prop}{A:Option Addr}{c:Nat}{xs:List α}
theorem IP.ext(h:IP e w Z A c xs)(g:Ext w w')(hm:Mv w Z w' Z'):IP e w' Z' A c xs:=⟨h.1,h.2.1,h.2.2.imp fun _ h=>⟨h.1.mv hm,h.2.mv (Ag g)⟩⟩
theorem AH.n(h:AH e t n0 w Z A c xs):IP e w Z A c xs:=by
 have a:=h.all;obtain⟨Bc,b,d⟩:=h;refine⟨a.1,a.2.1,Bc,b,?_⟩;have f:=d.rd;exact Ng f fun _ _ _=>trivial
theorem Sl.n(h:Sl e w Z A c xs):IP e w Z A c xs:=⟨h.1,h.2.1,h.2.2.imp fun _ h=>⟨h.1,h.2.mv J8⟩⟩
theorem Sl.HX(a:∀w Z w' Z' cs x,e.R w Z cs x→e.R w' Z' cs x)(h:Sl e w Z A c xs):IP e w Z' A c xs:=⟨h.1,h.2.1,h.2.2.imp fun _ h=>⟨h.1.free a,h.2.mv J8⟩⟩
theorem AH.HX(a:∀w Z w' Z' cs x,e.R w Z cs x→e.R w' Z' cs x)(h:AH e t n0 w Z A c xs):IP e w Z' A c xs:=h.all.HX a
end
section
variable{P:Program}{a:Act}{w:World}{dst:Option Tmp}{ty:TypeId}{pos:String}{B0:Array Edge}{g:Option (Nat×Bool)}
theorem F6{α:Type}{e:D0 α}{s x:Operand}{t j:TypeId}{z:Value}{sz bytes:Nat}(y:P.underlying t=some (.slice j))(hi:(P.info? j).map (fun i=>(i.zero,i.size,i.bytes))=some (some z,sz,bytes))(l:z.cells.size=sz)(m:e.sz=sz)(h0:0<sz)
  {n0:Nat}{Z:Nat→Prop}{A B:Option Addr}{c d n:Nat}{xs ys:List α}(aA:a.eval s=.slice A n c)(aB:xs.length=n)(aC:a.eval x=.slice B ys.length d)(h:AH e j n0 w Z A c xs)(r:IP e w Z B d ys)
  (o:xs.length+ys.length≤maxLen)(b:(xs.length+ys.length)*bytes≤140737488355328)(f:n0≤w.heap.size):
  BJ P ⟨dst,.call {callee:=.builtin .append,args:= #[s,x],argTypes:= #[t,t]},ty,pos,B0,g⟩ a w (fun v w'=>∃u aD,v=.slice u (xs++ys).length aD∧w.grownBy w' (ob A)∧(∀k,ob u=some k→(ob A=some k∨w.heap.size≤k)∧k<w'.heap.size)∧
   ∃Bc p,R2 e w Z Bc xs∧R2 e w Z p ys∧DM w' n0 j e.sz u (xs++ys).length aD (Bc++p).flatten):=by
 by_cases q:ys=[]
 ·refine Ts y hi l m h0 aA aB aC h ?_ o b f;subst q;exact⟨r.1,r.2.1,[],trivial,.inl rfl⟩
 ·obtain⟨_,_,Bc,aE,aF⟩:=r;exact Ka y hi l m h0 aA aB aC h ⟨Bc,aE,aF⟩ o b f q
end
section
variable{α:Type}{e:D0 α}{t:TypeId}{n0:Nat}{w w':World}{Z Z':Nat→Prop}{A:Option Addr}{c:Nat}{xs:List α}
theorem AH.Pk(a:∀w Z w' Z' cs x,e.R w Z cs x→e.R w' Z' cs x)(h:AH e t n0 w Z A c xs):AH e t n0 w Z' A c xs:=by
 obtain⟨Bc,b,d⟩:=h;exact⟨Bc,b.free a,d⟩
theorem AH.Pm(h:AH e t n0 w Z A c xs):A=none→c=0:=h.all.2.1
theorem AH.keep(h:AH e t n0 w Z A c xs)(hm:Mv w Z w' Z')(d:∀k,ob A=some k→w'.heap[k]?=w.heap[k]?):AH e t n0 w' Z' A c xs:=by
 obtain⟨Bc,f,a⟩:=h;refine⟨Bc,f.mv hm,a.1,a.2.imp id ?_⟩;rintro⟨b,cap,cur,g,i,j,l⟩;cases g;exact⟨b,_,cur,rfl,i,(d b rfl).trans j,l⟩
end
def CN{α:Type}(xs:List α)(l h:Int):List α:=(xs.take h.toNat).drop l.toNat
def Nq(n:Nat)(l h:Int):Option Unit:=if 0≤l∧l≤h∧h≤(n:Int) then some () else none
theorem MD{α:Type}{n:Nat}{l h:Int}{f:Unit→Option α}{r:α}(a:(Nq n l h).bind f=some r):(0≤l∧l≤h∧h≤(n:Int))∧f ()=some r:=by
 unfold Nq at a;split at a
 ·exact⟨by assumption,a⟩
 ·cases a
def SB(a:Act)(o:Option Operand)(v d:Int):Prop:=(o=none∧v=d)∨∃x k,o=some x∧a.eval x=.int k v
theorem Tt{a:Act}{d:Int}:SB a none d d:=.inl ⟨rfl,rfl⟩
theorem Tu{a:Act}{x:Operand}{k:IntKind}{v d:Int}(h:a.eval x=.int k v):SB a (some x) v d:=.inr ⟨x,k,rfl,h⟩
theorem JA{P:Program}(w:World)(k:IntKind)(i:Int)(y:Nat)(code:BoundsCode)(h0:0≤i)(a:i≤(y:Int)):(Instr.sliceBound (.int k i) y code).run P w=.ok i.toNat w:=by
 simp[Instr.sliceBound,asIntOf,h0,a]
section
variable{P:Program}{a:Act}{w:World}{dst:Option Tmp}{ty:TypeId}{pos:String}{B0:Array Edge}{g:Option (Nat×Bool)}
theorem PW{α:Type}{e:D0 α}{Z:Nat→Prop}{xs:List α}{t v:TypeId}{sz:Nat}{x:Operand}{A:Option Addr}{c:Nat}{lo hi:Option Operand}{l h:Int}(aJ:P.underlying t=some (.slice v))(aK:(P.info? v).map (·.size)=some sz)(z:e.sz=sz)
  (aL:a.eval x=.slice A xs.length c)(i:SB a lo l 0)(aA:SB a hi h xs.length)(aM:Sl e w Z A c xs)(aN:0≤l∧l≤h∧h≤(xs.length:Int)):
  BJ P ⟨dst,.slice t x lo hi none,ty,pos,B0,g⟩ a w (fun u w'=>(∃aB aC,u=.slice aB (CN xs l h).length aC∧Sl e w Z aB aC (CN xs l h))∧w'=w):=by
 subst z;obtain⟨aU,m,Bc,n,aO⟩:=aM;obtain⟨aV,aW,aX⟩:=aN;have hlen:(CN xs l h).length=h.toNat-l.toNat:=by
  unfold CN;rw[List.length_drop,List.length_take];omega
 have p:(Instr.sliceAt t (.slice A xs.length c) (lo.map a.eval) (hi.map a.eval) none).run P w=.ok (.slice (if c=l.toNat then A else A.map (·.add (l.toNat*e.sz))) (h.toNat-l.toNat) (c-l.toNat)) w:=by
  have aP:(Instr.sliceBounds true xs.length c (lo.map a.eval) (hi.map a.eval) none).run P w=.ok (l.toNat,h.toNat,c) w:=by
   unfold Instr.sliceBounds;rcases aA with⟨rfl,rfl⟩|⟨y,k,rfl,aD⟩
   ·rcases i with⟨rfl,rfl⟩|⟨aQ,k',rfl,d⟩
    ·simp
    ·simp[d,JA w k' l xs.length _ (by omega) (by omega)]
   ·have aE:=fun code=>JA (P:=P) w k h c code (by omega) (by omega);rcases i with⟨rfl,rfl⟩|⟨aQ,k',rfl,d⟩
    ·simp[aD,aE]
    ·simp[aD,d,aE,JA w k' l h.toNat _ (by omega) (by omega)]
  simp[Instr.sliceAt,Instr.slice,underlying,program,Sem.run,aJ,aP,Iq aK]
 refine(RX aL rfl rfl p).mono ?_;rintro u w' ⟨rfl,rfl⟩;refine⟨⟨_,_,by rw[hlen],?_⟩,rfl⟩;have q:=(n.take h.toNat).drop l.toNat;have aF:((Bc.take h.toNat).drop l.toNat).flatten=[]∨(0<e.sz∧l.toNat<h.toNat):=by
  rcases Nat.eq_zero_or_pos e.sz with h0|h0
  ·left;exact List.eq_nil_of_length_eq_zero (by rw[q.HQ,h0,Nat.mul_zero])
  ·rcases Nat.lt_or_ge l.toNat h.toNat with r|r
   ·exact .inr ⟨h0,r⟩
   ·left;exact List.eq_nil_of_length_eq_zero (by rw[q.HQ,List.length_drop,List.length_take,show min h.toNat xs.length-l.toNat=0 by omega,Nat.zero_mul])
 refine⟨by rw[hlen];omega,fun s=>?_,_,q,?_⟩
 ·split at s
  ·have:=m s;omega
  ·have:=m (by simpa using s);omega
 ·rcases aF with h0|⟨h0,r⟩
  ·exact .inl h0
  ·rcases aO with aR|⟨b,o,rfl,aS,aG,f⟩
   ·left;have aH:=n.HQ;rw[aR] at aH;simp only[List.length_nil] at aH;have aY:0<xs.length*e.sz:=Nat.mul_pos (by omega) h0;omega
   ·right;have aI:¬c=l.toNat:=by omega
    refine⟨b,o+l.toNat*e.sz,by simp[aI,Fm],aS,aG,fun j u hu=>?_⟩;rw[Nat.add_assoc];refine f _ _ ?_;rw[←(n.take h.toNat).RH h0,List.getElem?_drop] at hu;have aT:Bc.flatten=(Bc.take h.toNat).flatten++(Bc.drop h.toNat).flatten:=by rw[←List.flatten_append,List.take_append_drop]
    rw[aT,List.getElem?_append_left (List.getElem?_eq_some_iff.1 hu).1];exact hu
end
def Kf(n:Int)(b:Nat):Option Unit:=if 0≤n∧n*b≤140737488355328∧n≤140737488355328 then some () else none
theorem Hg{α:Type}{n:Int}{b:Nat}{f:Unit→Option α}{r:α}(h:(Kf n b).bind f=some r):(0≤n∧n*b≤140737488355328∧n≤140737488355328)∧f ()=some r:=by
 unfold Kf at h;split at h
 ·exact⟨by assumption,h⟩
 ·cases h
theorem Kg(z:Array Value):∀m:Nat,(madeCells z (m*z.size)).toList=(List.replicate m z.toList).flatten
 |0=>by simp[madeCells]
 |m+1=>by
  have ih:=Kg z m;have e:∀k,(madeCells z k).toList=(List.range k).map (z[· %z.size]!):=fun k=>by simp[madeCells]
  rw[e] at ih⊢;rw[Nat.add_mul,Nat.one_mul,List.range_add,List.map_append,ih,List.replicate_succ',List.flatten_append]
  congr 1
  simp only[List.map_map,List.flatten_cons,List.flatten_nil,List.append_nil];refine List.ext_getElem (by simp) fun i b a=>?_;simp only[List.getElem_map,List.getElem_range,Function.comp];have hi:i<z.size:=by simpa using a
  rw[Nat.add_comm,Nat.add_mul_mod_self_right,Nat.mod_eq_of_lt hi];simp[hi]
theorem R2.UZ{α:Type}{e:D0 α}{w:World}{Z:Nat→Prop}{c:List Value}{x:α}(h:e.R w Z c x):∀m:Nat,R2 e w Z (List.replicate m c) (List.replicate m x)
 |0=>trivial
 |m+1=>⟨h,R2.UZ h m⟩
section
variable{P:Program}{a:Act}{w:World}{dst:Option Tmp}{ty:TypeId}{pos:String}{B0:Array Edge}{g:Option (Nat×Bool)}
theorem HR{α:Type}{e:D0 α}{z:α}{zc:List Value}{n0:Nat}{t j:TypeId}{d:Value}{sz bytes:Nat}{n:Int}{x y:Operand}{m o:IntKind}{b':Nat}(aB:P.underlying t=some (.slice j))(hi:(P.info? j).map (fun i=>(i.zero,i.size,i.bytes))=some (some d,sz,bytes))
  (p:d.cells.toList=zc)(c:e.sz=sz)(aC:a.eval x=.int m n)(aD:a.eval y=.int o n)(hm:0≤n∧n*b'≤140737488355328∧n≤140737488355328)(q:∀w Z,e.R w Z zc z)(aE:n0≤w.heap.size)(aJ:bytes≤b'):
  BJ P ⟨dst,.makeSlice t x y,ty,pos,B0,g⟩ a w (fun u w'=>∃b,u=.slice (some ⟨b,0,none⟩) (List.replicate n.toNat z).length n.toNat∧w.heap.size≤b∧b<w'.heap.size∧Ext w w'∧∀Z,AH e j n0 w' Z (some ⟨b,0,none⟩) n.toNat (List.replicate n.toNat z)):=by
 subst p;subst c;cases f:P.info? j with
 |none=>simp[f] at hi
 |some i=>
  rw[f] at hi;simp only[Option.map_some,Option.some.injEq,Prod.mk.injEq] at hi;obtain⟨aF,r,aG⟩:=hi;obtain⟨s,aK,aL⟩:=hm;have v:d.cells.toList.length=e.sz:=e.len (q w ZA);have c:d.cells.size=e.sz:=by simpa using v
  have aA:(i.bytes:Int)*n≤281474976710656:=by
   rw[aG];have aH:(bytes:Int)*n≤(b':Int)*n:=Int.mul_le_mul_of_nonneg_right (by omega) s;rw[Int.mul_comm (b':Int)] at aH;omega
  have aI:=run_make (P:=P) w t j i d aB f aF m o n n s (Int.le_refl _) aA (by omega);refine(IK (S:=Instr.makeSlice t (a.eval x) (a.eval y)) rfl (by rw[aC,aD];exact aI)).mono fun u w' h=>?_;obtain⟨rfl,rfl⟩:=h;have l:=Ia w j (madeCells d.cells (n.toNat*i.size));refine⟨w.heap.size,by rw[List.length_replicate],Nat.le_refl _,by rw[l.sz];exact Nat.lt_succ_self _,l.gr,fun Z=>⟨_,R2.UZ (q _ Z) n.toNat,?_⟩⟩;rw[List.length_replicate];have k:(List.replicate n.toNat d.cells.toList).flatten.length=n.toNat*e.sz:=by rw[←Kg,←c];simp[size_madeCells]
  refine⟨k,.inr ⟨w.heap.size,n.toNat,_,rfl,aE,l.bk,Nat.le_refl _,by simp only[maxLen];omega,by rw[size_madeCells,r],?_⟩⟩;rw[r,←c,Kg,List.take_of_length_le (by rw[k,c];exact Nat.le_refl _)]
end
def Kh:Int⊕Bool→Value
 |.inl n=>.int .i64 n
 |.inr b=>.bool b
def LF(l:List (Int⊕Bool)):Value:=.agg (l.map Kh).toArray
def K1:Int⊕Bool→Bool
 |.inl _=>true
 |.inr _=>false
def Hz:List (Int⊕Bool)→List (Int⊕Bool)→Bool
 |[],[]=>true
 |.inl a::l,.inl b::m=>a==b&&Hz l m
 |.inr a::l,.inr b::m=>a==b&&Hz l m
 |_,_=>false
def Q3(P:Program)(t:TypeId)(a:List Bool):Prop:=∀(w:World) (x y:List (Int⊕Bool)),x.map K1=a→y.map K1=a→(Op.equal t (LF x) (LF y)).run P w=.ok (Hz x y) w
def L9(a b:TypeId):Nat→List Field→List Bool→Bool
 |_,[],[]=>true
 |i,f::c,k::d=>f.name !="_"&&Nat.beq f.type (cond k a b)&&Nat.beq f.offset i&&L9 a b (i+1) c d
 |_,_,_=>false
section
variable{P:Program}{w:World}
theorem JB{e:TypeId}(he:One P e){cs:Array Value}{i:Nat}{v:Value}(h:cs[i]?=some v):(part e cs i).run P w=.ok v w:=by
 simp only[part,Sem.run_bind,IY he,Result.andThen_ok,h];rfl
theorem ME{j l:TypeId}(u:One P j)(u1:P.underlying j=some (.int .i64))(v:One P l)(z:P.underlying l=some .bool)(d:Nat):∀(o:List Field) (c:List Bool) (x y b e:List (Int⊕Bool)),b.length=e.length→L9 j l b.length o c=true→x.map K1=c→y.map K1=c→
  (Op.eqFields (d+1) ((b++x).map Kh).toArray ((e++y).map Kh).toArray o).run P w=.ok (Hz x y) w
 |[],[],[],[],_,_,_,_,_,_=>by simp[Op.eqFields,Hz]
 |[],_::_,_,_,_,_,_,h,_,_=>by simp[L9] at h
 |_::_,[],_,_,_,_,_,h,_,_=>by simp[L9] at h
 |[],[],_::_,_,_,_,_,_,h,_=>by simp at h
 |[],[],_,_::_,_,_,_,_,_,h=>by simp at h
 |_::_,_::_,[],_,_,_,_,_,h,_=>by simp at h
 |_::_,_::_,_,[],_,_,_,_,_,h=>by simp at h
 |f::o,k::c,g::x,i::y,b,e,aA,aB,p,r=>by
  simp only[L9,Bool.and_eq_true] at aB;obtain⟨⟨⟨s,a⟩,t⟩,aE⟩:=aB;have s:f.name≠"_":=by simpa using s
  have a:=Nat.eq_of_beq_eq_true a;have t:=Nat.eq_of_beq_eq_true t;simp only[List.map_cons,List.cons.injEq] at p r;have ih:=ME u u1 v z d o c x y (b++[g]) (e++[i]) (by simp[aA]) (by simpa using aE) p.2 r.2;rw[List.append_assoc,List.append_assoc] at ih;simp only[List.singleton_append] at ih;have aC:((b++g::x).map Kh).toArray[f.offset]?=some (Kh g):=by rw[t];simp
  have aD:((e++i::y).map Kh).toArray[f.offset]?=some (Kh i):=by rw[t,aA];simp
  cases k with
  |true=>
   cases g with
   |inr _=>simp[K1] at p
   |inl m=>
    cases i with
    |inr _=>simp[K1] at r
    |inl n=>
     have a:f.type=j:=a;have o1:One P f.type:=by rw[a];exact u
     have q:=run_equalIn_int (P:=P) w d f.type .i64 .i64 m n (by rw[a];exact u1);simp only[Op.eqFields,s,ne_eq,not_false_eq_true,if_true,Sem.run_bind,JB o1 aC,JB o1 aD,Kh,q,Result.andThen_ok,Hz];cases aF:(m==n)
     ·simp
     ·simpa using ih
  |false=>
   cases g with
   |inl _=>simp[K1] at p
   |inr m=>
    cases i with
    |inl _=>simp[K1] at r
    |inr n=>
     have a:f.type=l:=a;have o1:One P f.type:=by rw[a];exact v
     have q:=run_equalIn_bool (P:=P) w d f.type m n (by rw[a];exact z);simp only[Op.eqFields,s,ne_eq,not_false_eq_true,if_true,Sem.run_bind,JB o1 aC,JB o1 aD,Kh,q,Result.andThen_ok,Hz];cases aF:(m==n)
     ·simp
     ·simpa using ih
theorem Of{K c d:Nat}{a:Array Field}{e:List Bool}(hK:P.underlying K=some (.struct a))(f:P.stoodInHeld K=false)(g:L9 c d 0 a.toList e=true)(i:One P c)(u1:P.underlying c=some (.int .i64))(j:One P d)(l:P.underlying d=some .bool):Q3 P K e:=by
 intro w x y m n;have b:P.fieldsOf K=a:=by simp[Program.fieldsOf,hK]
 have h:=run_equalIn_struct (P:=P) w 9999 K (x.map Kh).toArray (y.map Kh).toArray (by rw[b];exact hK) f;have k:=ME (P:=P) (w:=w) i u1 j l 9998 a.toList e x y [] [] rfl g m n;simp only[List.nil_append] at k;rw[b,k] at h;exact h
end
section
variable{P:Program}{a:Act}{w:World}{dst:Option Tmp}{ty:TypeId}{pos:String}{B0:Array Edge}{g:Option (Nat×Bool)}
theorem Pn{x y:Operand}{v1 v2:Value}{x1 x2:List (Int⊕Bool)}{b:List Bool}{t d:TypeId}(e:Q3 P t b)(c:P.eqGuardType P.depth t=false)(f:a.eval x=v1)(h:a.eval y=v2)(i:v1=LF x1)(j:v2=LF x2)(k:x1.map K1=b)(l:x2.map K1=b):
  BJ P ⟨dst,.binOp .eql t x y d,ty,pos,B0,g⟩ a w (fun u w'=>u=.bool (Hz x1 x2)∧w'=w):=by
 refine Pb f h ?_;subst i;subst j;have m:=e w x1 x2 k l;have n:(eqGuard .eql t x y (LF x1) (LF x2)).run P w=.ok () w:=by
  simp[eqGuard,LF,program,Sem.run,c]
 simp only[Sem.run_bind,n,Result.andThen_ok];show(do pure (Value.bool (←Op.equal t (LF x1) (LF x2))):Sem Value).run P w=_;simp only[Sem.run_bind,m,Result.andThen_ok,Sem.run_pure]
theorem RM{x y:Operand}{p q:Option Addr}{t u:TypeId}{b:Bool}(c:a.eval x=.pointer p)(d:a.eval y=.pointer q)(e:(Op.equal t (.pointer p) (.pointer q)).run P w=.ok b w):BJ P ⟨dst,.binOp .eql t x y u,ty,pos,B0,g⟩ a w (fun v w'=>v=.bool b∧w'=w):=
 Cl (by simp[execOp,c,d,binOp,e,eqGuard])
theorem Nr {α:Type} {e:D0 α} {aA t:TypeId} {x y:Operand} {b o k p c:Nat} {v:Value} {n0:Nat} {Z:Nat→Prop} {A:Option Addr} {xs:List α} {z z':α} {l:List Value} {n:Nat}
  (aB:AH e aA n0 w Z A c xs) (aD:xs[k]?=some z) (aM:A=some ⟨b,o,none⟩) (aN:p=o+k*e.sz) (aO:a.eval x=.pointer (some ⟨b,p,none⟩)) (aP:a.eval y=v) (aQ:(P.info? t).map (·.size)=some n) (aR:v.cells.toList=l) (aS:l.length=n)
  (aT:∀u∈l,u.oneCell'=true) (aE:e.R w Z l z'):
  BJ P ⟨dst,.store t x y,ty,pos,B0,g⟩ a w (fun _ w'=>w.grownBy w' (ob A)∧∃Bc,R2 e w Z Bc (xs.set k z')∧DM w' n0 aA e.sz A (xs.set k z').length c Bc.flatten):=by
 obtain⟨Bc,f,aU⟩:=aB;obtain⟨a4,aY,aF,aZ⟩:=f.get aD;have a0:=e.len aF;have aG:=e.len aE;subst aM;subst aN;have aH:k<xs.length:=(List.getElem?_eq_some_iff.1 aD).1;have hlen:=f.len;have h:=f.lens;rcases aU.2 with⟨aI,h0⟩|⟨a5,cap,cur,aI,aJ,aV,q,aK,aC,i⟩
 ·omega
 ·cases aI;have a2:k*e.sz+e.sz≤xs.length*e.sz:=by
   have:(k+1)*e.sz≤xs.length*e.sz:=Nat.mul_le_mul_right _ aH;rw[Nat.add_mul,Nat.one_mul] at this;exact this
  have a3:xs.length*e.sz≤c*e.sz:=Nat.mul_le_mul_right _ q;have aL:Bk w b aA cur:=aV;refine(Bb (B1:=setCells cur (0+k*e.sz) l) aO aP aQ aL aR aS (by omega) aT rfl).mono ?_;rintro _ w' ⟨s1,s2,aW⟩;have d:=f.set aE k;refine⟨aW,_,d,by rw[d.HQ],.inr ⟨b,c,setCells cur (0+k*e.sz) l,rfl,aJ,s2,by rw[List.length_set];exact q,aK,by rw[Ek 0];exact aC,?_⟩⟩;rw[List.length_set];rcases Nat.eq_zero_or_pos e.sz with h0|h0
  ·have aX:(Bc.set k l).flatten=[]:=List.eq_nil_of_length_eq_zero (by rw[d.HQ,h0,Nat.mul_zero]);rw[aX,h0,Nat.mul_zero,List.take_zero]
  ·refine List.ext_getElem? fun j=>?_;rw[Lb aG h0 k Bc j h (by omega),List.getElem?_take,Array.getElem?_toList,FA _ _ _ _ (by omega)];have r:∀j:Nat,Bc.flatten[j]?=if j<xs.length*e.sz then cur[j]? else none:=fun j=>by
    rw[←i,List.getElem?_take,Array.getElem?_toList]
   by_cases m:j<xs.length*e.sz
   ·rw[if_pos m]
    by_cases s:k*e.sz≤j∧j<k*e.sz+e.sz
    ·rw[if_pos (by omega),if_pos s,show j-(0+k*e.sz)=j-k*e.sz by omega]
    ·rw[if_neg (by omega),if_neg s,r,if_pos m]
   ·rw[if_neg m,if_neg (by omega),r,if_neg m]
theorem Gj{α:Type}{e:D0 α}{f t:TypeId}{x y:Operand}{b o k p c:Nat}{v:Value}{n0:Nat}{Z:Nat→Prop}{A:Option Addr}{xs:List α}{z z':α}{l:List Value}{n:Nat}
  (d:AH e f n0 w Z A c xs)(i:xs[k]?=some z)(j:A=some ⟨b,o,none⟩)(m:p=o+k)(q:a.eval x=.pointer (some ⟨b,p,none⟩))(r:a.eval y=v)(s:(P.info? t).map (·.size)=some n)(aA:v.cells.toList=l)(aB:l.length=n)
  (aC:∀u∈l,u.oneCell'=true)(aD:e.R w Z l z')(h:e.sz=1:=by rfl):
  BJ P ⟨dst,.store t x y,ty,pos,B0,g⟩ a w (fun _ w'=>w.grownBy w' (ob A)∧∃Bc,R2 e w Z Bc (xs.set k z')∧DM w' n0 f e.sz A (xs.set k z').length c Bc.flatten):=
 Nr d i j (by rw[h,Nat.mul_one];exact m) q r s aA aB aC aD
end
theorem Ki{l:List Int}{i:Nat}{x:Int}(h:l[i]?=some x):(l.map fun n=>Value.int .i64 n)[i]?=some (.int .i64 x):=by rw[List.getElem?_map,h];rfl
theorem AH.Uv {α:Type} {e:D0 α} {t:TypeId} {n0:Nat} {w:World} {Z:Nat→Prop} {A:Option Addr} {c k:Nat} {xs:List α} {x:α} (h:AH e t n0 w Z A c xs) (h0:0<e.sz) (f:xs[k]?=some x):
  ∃b o cs,A=some ⟨b,o,none⟩∧e.R w Z cs x∧Rz w ZA (some ⟨b,o+k*e.sz,none⟩) cs:=by
 obtain⟨Bc,g,i⟩:=h;have q:Sl e w ZA A c xs:=AH.all (t:=t) (n0:=n0) (Z:=Z) ⟨Bc,g,i⟩;obtain⟨b,o,B1,l,y,aB⟩:=q.elem h0 f;obtain⟨m,z,a,n⟩:=g.get f;refine⟨b,o,m,l,a,?_⟩;have hlen:m.length=e.sz:=e.len a;have r:=i.rd;rcases r.2 with s|⟨b',o',d,_,p,v⟩
 ·have:=g.HQ;rw[s] at this;have aA:k<xs.length:=(List.getElem?_eq_some_iff.1 f).1;have aC:0<xs.length*e.sz:=Nat.mul_pos (by omega) h0;simp at this;omega
 ·rw[l] at d;cases d;refine .inr ⟨b,_,rfl,trivial,p,fun j u hu=>?_⟩;rw[Nat.add_assoc];refine v _ _ ?_;rw[←n,List.getElem?_take] at hu;split at hu
  ·simpa using hu
  ·cases hu
theorem AH.GS{α:Type}{e:D0 α}{t:TypeId}{n0:Nat}{w:World}{Z:Nat→Prop}{A:Option Addr}{c k:Nat}{xs:List α}{x:α}(h:AH e t n0 w Z A c xs)(d:e.sz=1)(f:xs[k]?=some x):
  ∃b o cs,A=some ⟨b,o,none⟩∧e.R w Z cs x∧Rz w ZA (some ⟨b,o+k,none⟩) cs:=by
 obtain⟨b,o,cs,g,i,a⟩:=h.Uv (by omega) f;rw[d,Nat.mul_one] at a;exact⟨b,o,cs,g,i,a⟩
def TC(w:World)(D:Nat→Prop)(M:World→Prop):Nat→World→Prop
 |0,w'=>Ext w w'
 |_+1,w'=>Bi D w w'∧M w'
section
variable{w w' Bf:World}{D:Nat→Prop}{M:World→Prop}{ph:Nat}
theorem F7(h:TC w D M ph w'):Bi D w w':=by
 cases ph with
 |zero=>exact Gx h
 |succ=>exact h.1
theorem BH(h:TC w D M ph w')(a:ph=0):Ext w w':=by subst a;exact h
theorem HA(c:∀a b,M a→Ext a b→M b)(h:TC w D M ph w')(g:Ext w' Bf):TC w D M ph Bf:=by
 cases ph with
 |zero=>exact Ext.trans h g
 |succ=>exact⟨(show Bi D w w' from h.1).trans (Gx g),c _ _ h.2 g⟩
theorem Ie(h:TC w D M ph w')(a:ph=0)(g:Bi D w' Bf)(b:M Bf):TC w D M (ph+1) Bf:=by
 subst a;exact⟨(Gx h).trans g,b⟩
theorem Il{r:Option Nat}(g:w.grownBy w' r):Bi (FU FN [r]) w w':=Iw g fun k e=>.inr (by rw[e];exact List.mem_singleton_self _)
end
section
variable{F F':Nat→Prop}{B:List (Option Nat)}{w0 w w':World}{L M:List (Option Nat)}
theorem Hp.Po{Z:Nat→Prop}{a:Nat}(h:Hp F B w0 L w)(c:w.heap.size≤a):Mv w' (ZZ FN [] FN a []) w' (ZZ F B Z w0.heap.size L):=G4 fun b d _=>by
 rcases d with⟨_,e,_⟩|⟨f,_⟩
 ·exact e.elim
 ·refine .inr ⟨Nat.le_trans h.sz (Nat.le_trans c f),fun hm=>?_⟩;have:=(h.lo b hm).1;omega
theorem Hp.RN{α:Type}{e:D0 α}{t:TypeId}{A:Option Addr}{c:Nat}{xs:List α}{Z Z':Nat→Prop}(h:Hp F B w0 L w)(b:∀w Z w' Z' cs x,e.R w Z cs x→e.R w' Z' cs x)(a:AH e t w.heap.size w' Z' A c xs):AH e t w0.heap.size w' Z A c xs:=
 AH.Pk b (a.base (n1:=w0.heap.size) fun k d=>Nat.le_trans h.sz (a.ge k d))
theorem Hp.LG{α:Type}{e:D0 α}{t:TypeId}{A:Option Addr}{c:Nat}{xs:List α}{Z a:Nat→Prop}(h:Hp F B w0 L w)(b:∀w Z w' Z' cs x,e.R w Z cs x→e.R w' Z' cs x)(d:AH e t w.heap.size w' a A c xs):Sl e w' (ZZ F B Z w0.heap.size L) A c xs:=
 (AH.Pk b d).sl fun k _ h0=>h.kn h0
theorem Hp.Ma (h:Hp F B w0 L w) (f:Hp F B w0 L w') {b:Nat} (p:w.heap.size≤b) (l:b<w'.heap.size):Hp F B w0 (some b::L) w':=by
 refine⟨f.ch,fun k a=>?_,?_,h.ff⟩
 ·rcases List.mem_cons.1 a with e|a
  ·cases e;exact⟨l,fun m=>absurd (h.ff _ m) (by have:=h.sz;omega),fun n=>absurd n (by have:=h.sz;omega)⟩
  ·exact f.lo k a
 ·have key:∀(j:Nat) (x:Nat),L[j]?=some (some x)→x≠b:=fun j x o e=>by
   have:=(h.lo x (List.mem_of_getElem? o)).1;omega
  intro i j x g hi c;cases i with
  |zero=>
   cases j with
   |zero=>exact g rfl
   |succ j=>
    have d:b=x:=by simpa using hi
    exact key j x (by simpa using c) d.symm
  |succ i=>
   cases j with
   |zero=>
    have d:b=x:=by simpa using c
    exact key i x (by simpa using hi) d.symm
   |succ j=>exact h.ap i j x (by omega) (by simpa using hi) (by simpa using c)
theorem F2{Z:Nat→Prop}{n0:Nat}{b:Nat}(hm:Mv w (ZZ F B Z n0 L) w' (ZZ F B Z n0 L))(h:w.heap.size≤b):Mv w (ZZ F B Z n0 L) w' (ZZ F B Z n0 (some b::L)):=
 ⟨hm.size,fun k c d=>⟨(hm.stay k c d).1.imp id fun⟨f,g⟩=>⟨f,fun a=>by
  rcases List.mem_cons.1 a with e|a
  ·cases e;omega
  ·exact g a⟩,(hm.stay k c d).2⟩⟩
end
def Pp (w:World) (R:World→Value→World→Prop):JR Ext:=
 ⟨fun v a=>∃w1 w2,Ext w w1∧R w1 v w2∧Ext w2 a,fun _ _ _ ⟨w1,w2,b,c,d⟩ g=>⟨w1,w2,b,c,Ext.trans d g⟩⟩
def IQ(w:World)(R:World→Value→World→Prop)(a:World):Prop:=∃v w1 w2,Ext w w1∧R w1 v w2∧Ext w2 a
theorem Hr{w:World}{R:World→Value→World→Prop}:∀a b,IQ w R a→Ext a b→IQ w R b:=fun _ _ ⟨v,w1,w2,c,d,e⟩ g=>⟨v,w1,w2,c,d,Ext.trans e g⟩
def LH(_:World):Prop:=True
theorem Kj:∀a b,LH a→Ext a b→LH b:=fun _ _ _ _=>trivial
def Hh(n:Nat)(w:World):List Nat→Prop
 |[]=>True
 |b::l=>n≤b∧b<w.heap.size∧(l.all fun x=> !Nat.beq b x)=true∧Hh n w l
section
variable{F F':Nat→Prop}{B:List (Option Nat)}{w0 w w':World}{L M:List (Option Nat)}{Z:Nat→Prop}
theorem Hh.mem{n:Nat}:∀{l:List Nat},Hh n w l→∀b∈l,n≤b∧b<w.heap.size
 |[],_,_,h=>by cases h
 |x::l,h,b,a=>by
  rcases List.mem_cons.1 a with rfl|a
  ·exact⟨h.1,h.2.1⟩
  ·exact Hh.mem h.2.2.2 b a
theorem Hh.grow{n a:Nat}(b:a≤n)(c:w.heap.size≤w'.heap.size):∀{l:List Nat},Hh n w l→Hh a w' l
 |[],_=>trivial
 |_::_,h=>⟨Nat.le_trans b h.1,Nat.lt_of_lt_of_le h.2.1 c,h.2.2.1,Hh.grow b c h.2.2.2⟩
theorem Hp.Ns(h:Hp F B w0 L w):∀{l:List Nat},Hp F B w0 L w'→Hh w.heap.size w' l→Hp F B w0 (l.map some++L) w'
 |[],c,_=>c
 |b::l,c,a=>by
  have d:=Hp.Ns h c a.2.2.2;refine⟨d.ch,fun k f=>?_,?_,h.ff⟩
  ·rcases List.mem_cons.1 f with e|f
   ·cases e;exact⟨a.2.1,fun p=>absurd (h.ff _ p) (by have:=h.sz;have:=a.1;omega),fun n=>absurd n (by have:=h.sz;have:=a.1;omega)⟩
   ·exact d.lo k f
  ·have key:∀(j:Nat) (x:Nat),(l.map some++L)[j]?=some (some x)→x≠b:=fun j x q e=>by
    subst e;have hm:=List.mem_of_getElem? q;rcases List.mem_append.1 hm with hm|hm
    ·obtain⟨y,r,e⟩:=List.mem_map.1 hm;cases e;have:=List.all_eq_true.1 a.2.2.1 x r;rw[Nat.beq_refl] at this;cases this
    ·have:=(h.lo x hm).1;have:=a.1;omega
   intro i j x o hi g;cases i with
   |zero=>
    cases j with
    |zero=>exact o rfl
    |succ j=>
     have m:b=x:=by simpa using hi
     exact key j x (by simpa using g) m.symm
   |succ i=>
    cases j with
    |zero=>
     have m:b=x:=by simpa using g
     exact key i x (by simpa using hi) m.symm
    |succ j=>exact d.ap i j x (by omega) (by simpa using hi) (by simpa using g)
theorem Hp.Mb(h:Hp F B w0 L w)(g:Ext w w'){l:List Nat}(a:Hh w.heap.size w' l):Hp F B w0 (l.map some++L) w':=h.Ns (h.ext g) a
theorem E0{n0:Nat}{l:List Nat}(hm:Mv w (ZZ F B Z n0 L) w' (ZZ F B Z n0 L))(d:Hh w.heap.size w' l):Mv w (ZZ F B Z n0 L) w' (ZZ F B Z n0 (l.map some++L)):=
 ⟨hm.size,fun k c b=>⟨(hm.stay k c b).1.imp id fun⟨f,g⟩=>⟨f,fun a=>by
  rcases List.mem_append.1 a with a|a
  ·obtain⟨y,h,e⟩:=List.mem_map.1 a;cases e;have:=(d.mem k h).1;omega
  ·exact g a⟩,(hm.stay k c b).2⟩⟩
theorem Pq{b c:Nat}(f:w.heap.size≤b)(a:b<w'.heap.size)(g:w.heap.size≤c)(d:c<w'.heap.size)(e:b≠c):Hh w.heap.size w' [b,c]:=
 ⟨f,a,by
  have:Nat.beq b c=false:=by
   cases h:Nat.beq b c with
   |false=>rfl
   |true=>exact absurd (Nat.eq_of_beq_eq_true h) e
  simp[this],g,d,rfl,trivial⟩
theorem Hp.Q4 (h:Hp F B w0 L w):∀(l:List Nat) (c:List Nat),Gs L c (l.map some)→Jc c=true→(∀b∈l,w0.heap.size≤b)→Hh w0.heap.size w l
 |[],_,_,_,_=>trivial
 |b::l,[],a,_,_=>a.elim
 |b::l,j::c,a,e,d=>by
  simp only[Jc,Bool.and_eq_true] at e;refine⟨d b (List.mem_cons_self ..),(h.lo b (List.mem_of_getElem? a.1)).1,?_,h.Q4 l c a.2 e.2 fun x f=>d x (List.mem_cons_of_mem _ f)⟩;rw[List.all_eq_true];intro x f;cases i:Nat.beq b x with
  |false=>rfl
  |true=>
   have g:=Nat.eq_of_beq_eq_true i;subst g;have k:=h.By (F':=FN) j a.1 c e.1 a.2 (fun _ h=>h.elim);exact absurd (.inr (List.mem_map.2 ⟨b,f,rfl⟩)) k
end
section
variable{P:Program}{N:Nat}{Q:Exit→Act→World→Prop}{a:Act}{l:Env}{w:World}
def Mc(a:Act):Act:={a with defers:=[]}
theorem Kk(a:Act):∀l:Env,BV (Mc a) l=Mc (BV a l)
 |[]=>rfl
 |(d,v)::l=>by simp only[BV,Kk a l];rfl
theorem LI{D:Nat}{fn:Func}{R:Value→World→Prop}(c:w.heap[D]?=some (.deferred (some [])))(h:∀w',GJ D w w'→LV X0 N (bodyPost P fn (fun e w'=>∃v,e=.returned v∧R v w')) .ret (Mc a) l w'):
  LV (X1 D) N (PM P fn R) .ret a l w:=fun s=>by
 have d:St X0 N (Mc a) l:=⟨s.sz,rfl,s.lt⟩;obtain⟨_,v,b,f⟩:=h _ (GL w D (.deferred none)) d;show LeavesInM Fence.wide 0 P fn _ _ (BV a l).defers .returning w;rw[Dr,show a.defers=mark D from s.df];refine⟨by simp,.inl ⟨D,_,rfl,run_takeDeferred c,?_⟩⟩;rw[Kk] at b;exact⟨v,b,f⟩
theorem Ow{D:Nat}{fn:Func}{R:Value→World→Prop}(c:w.heap[D]?=some (.deferred (some [])))(h:∀w',GJ D w w'→LV X0 N (bodyPost P fn (fun e w'=>∃v,e=.returned v∧R v w')) .normal (Mc a) l w'):
  LV (X1 D) N (PM P fn R) .normal a l w:=fun s=>by
 have d:St X0 N (Mc a) l:=⟨s.sz,rfl,s.lt⟩;obtain⟨_,v,b,f⟩:=h _ (GL w D (.deferred none)) d;show LeavesInM Fence.wide 0 P fn _ _ (BV a l).defers .returning w;rw[Dr,show a.defers=mark D from s.df];refine⟨by simp,.inl ⟨D,_,rfl,run_takeDeferred c,?_⟩⟩;rw[Kk] at b;exact⟨v,b,f⟩
end
theorem Ox{α:Type}{b:Bool}{x:Option α}{r:α}(h:cond b none x=some r):b=false∧x=some r:=by
 cases b with
 |true=>cases h
 |false=>exact⟨rfl,h⟩
def Da(xs:List Int):List Int:=xs.mergeSort fun x y=>decide (x≤y)
theorem Iz(xs:List Int):(Da xs).length=xs.length:=List.length_mergeSort _
theorem PX{w:World}{Z:Nat→Prop}:∀{Bc:List (List Value)} {xs:List Int},R2 (Ax .i64) w Z Bc xs→Bc.flatten=Cf xs
 |[],[],_=>rfl
 |c::Bc,x::xs,h=>by
  have a:c=[.int .i64 x]:=h.1;rw[List.flatten_cons,PX h.2,a];rfl
 |[],_::_,h=>h.elim
 |_::_,[],h=>h.elim
theorem PY{w:World}{Z:Nat→Prop}:∀xs:List Int,R2 (Ax .i64) w Z (xs.map fun x=>[.int .i64 x]) xs
 |[]=>trivial
 |_::xs=>⟨rfl,PY xs⟩
theorem Q5(xs:List Int):(xs.map fun x=>[Value.int .i64 x]).flatten=Cf xs:=by
 induction xs with
 |nil=>rfl
 |cons x xs ih=>rw[List.map_cons,List.flatten_cons,ih];rfl
theorem Pr{t:TypeId}{n0:Nat}{w:World}{Z:Nat→Prop}{A:Option Addr}{c:Nat}{xs:List Int}(h:AH (Ax .i64) t n0 w Z A c xs):DM w n0 t 1 A xs.length c (Cf xs):=by
 obtain⟨Bc,a,b⟩:=h;rw[←PX a];exact b
theorem KM{t:TypeId}{n0:Nat}{w:World}{Z:Nat→Prop}{A:Option Addr}{c:Nat}{xs:List Int}(h:DM w n0 t 1 A xs.length c (Cf xs)):AH (Ax .i64) t n0 w Z A c xs:=
 ⟨_,PY xs,by rw[Q5];exact h⟩
theorem Uw{α β:Type}{x:Option β}{f:α→Option β}{r:β}(h:Option.elim none x f=some r):x=some r:=h
theorem Ux{α β:Type}{a:α}{x:Option β}{f:α→Option β}{r:β}(h:Option.elim (some a) x f=some r):f a=some r:=h
theorem JC{F:Nat→Prop}{b:Nat}{L:List (Option Nat)}(h:¬F b∧some b∉L):¬F b∧some b∉L++[none]:=⟨h.1,fun hm=>by
 rcases List.mem_append.1 hm with a|a
 ·exact h.2 a
 ·simp at a⟩
theorem Bi.Oy{F:Nat→Prop}{C:List (Option Nat)}{o:Option Nat}{w w':World}(g:Bi (FU F (C++[o]++[none])) w w'):Bi (FU (FU F C) [o]) w w':=g.mono fun k h=>by
 rcases h with h|h
 ·exact .inl (.inl h)
 ·rcases List.mem_append.1 h with a|a
  ·rcases List.mem_append.1 a with b|b
   ·exact .inl (.inr b)
   ·exact .inr b
  ·simp at a
theorem Sl.RO{α β:Type}{e:D0 α}{ev:β→Value}{F:Nat→Prop}{B L:List (Option Nat)}{Z:Nat→Prop}{n0 r n:Nat}{w:World}{i:List (List Int×β)}{A:Option Addr}{c:Nat}{xs:List α}
  (j:∀w Z w' Z' cs x,e.R w Z cs x→e.R w' Z' cs x)(hm:Ch ev w r n i)(h:Sl e w (ZZ F B Z n0 L) A c xs):Sl e w (ZZ F B Z n0 (some r::L)) A c xs:=by
 obtain⟨k,m,Bc,p,d⟩:=h;refine⟨k,m,Bc,p.free j,?_⟩;rcases d with d|⟨b,o,q,s,t,f⟩
 ·exact .inl d
 ·cases g:Bc.flatten with
  |nil=>exact .inl rfl
  |cons u l=>
   rw[g] at f;refine .inr ⟨b,o,q,s.imp id fun⟨v,y⟩=>⟨v,fun a=>?_⟩,t,f⟩;rcases List.mem_cons.1 a with e|a
   ·cases e;obtain⟨es,aA,z,_⟩:=hm;have:=f 0 u rfl;unfold World.cell? at this;simp[z] at this
   ·exact y a
section
variable{P:Program}{N:Nat}{a:Act}{l:Env}{w:World}
theorem Hj{fn:Func}{r1 r2 n:ResultVar}{v v' IW:Value}{R:Value→World→Prop}(g:fn.results= #[r1,r2,n])(x:Nk P a l w r1 v)(q:Nk P a l w r2 v')(i:Nk P a l w n IW)(h:R (.tuple #[v,v',IW]) w):
  LV X0 N (bodyPost P fn (fun e w'=>∃v,e=.returned v∧R v w')) .ret a l w:=fun s=>by
 refine bodyPost_ret (v:=.tuple #[v,v',IW]) ?_ (by rw[Dr,s.df]) ⟨_,rfl,h⟩;cases r1 with
 |tmp t0=>
  have d:(BV a l).tmps.getD t0 undef=v:=ee s x;simp only[Array.getD_eq_getD_getElem?] at d;cases r2 with
  |tmp t1=>
   have c:(BV a l).tmps.getD t1 undef=v':=ee s q;simp only[Array.getD_eq_getD_getElem?] at c;cases n with
   |tmp t2=>
    have b:(BV a l).tmps.getD t2 undef=IW:=ee s i;simp only[Array.getD_eq_getD_getElem?] at b;simp[results,g,d,c,b]
   |cell j t2=>
    obtain⟨f,k,m⟩:=i;have b:(BV a l).tmps.getD j undef=.pointer (some f):=ee s k;simp only[Array.getD_eq_getD_getElem?] at b;simp[results,g,d,c,b,asAddr,m]
  |cell t t1=>
   obtain⟨o,u,p⟩:=q;have c:(BV a l).tmps.getD t undef=.pointer (some o):=ee s u;simp only[Array.getD_eq_getD_getElem?] at c;cases n with
   |tmp t2=>
    have b:(BV a l).tmps.getD t2 undef=IW:=ee s i;simp only[Array.getD_eq_getD_getElem?] at b;simp[results,g,d,c,asAddr,p,b]
   |cell j t2=>
    obtain⟨f,k,m⟩:=i;have b:(BV a l).tmps.getD j undef=.pointer (some f):=ee s k;simp only[Array.getD_eq_getD_getElem?] at b;simp[results,g,d,c,asAddr,p,b,asAddr,m]
 |cell z t0=>
  obtain⟨y,aA,r⟩:=x;have d:(BV a l).tmps.getD z undef=.pointer (some y):=ee s aA;simp only[Array.getD_eq_getD_getElem?] at d;cases r2 with
  |tmp t1=>
   have c:(BV a l).tmps.getD t1 undef=v':=ee s q;simp only[Array.getD_eq_getD_getElem?] at c;cases n with
   |tmp t2=>
    have b:(BV a l).tmps.getD t2 undef=IW:=ee s i;simp only[Array.getD_eq_getD_getElem?] at b;simp[results,g,d,asAddr,r,c,b]
   |cell j t2=>
    obtain⟨f,k,m⟩:=i;have b:(BV a l).tmps.getD j undef=.pointer (some f):=ee s k;simp only[Array.getD_eq_getD_getElem?] at b;simp[results,g,d,asAddr,r,c,b,asAddr,m]
  |cell t t1=>
   obtain⟨o,u,p⟩:=q;have c:(BV a l).tmps.getD t undef=.pointer (some o):=ee s u;simp only[Array.getD_eq_getD_getElem?] at c;cases n with
   |tmp t2=>
    have b:(BV a l).tmps.getD t2 undef=IW:=ee s i;simp only[Array.getD_eq_getD_getElem?] at b;simp[results,g,d,asAddr,r,c,asAddr,p,b]
   |cell j t2=>
    obtain⟨f,k,m⟩:=i;have b:(BV a l).tmps.getD j undef=.pointer (some f):=ee s k;simp only[Array.getD_eq_getD_getElem?] at b;simp[results,g,d,asAddr,r,c,asAddr,p,b,asAddr,m]
end
theorem Tv{w w':World}{Z Z' Q:Nat→Prop}(h:Mv w Z w' Z'):Mv w (fun b=>Z b∧Q b) w' (fun b=>Z' b∧Q b):=⟨h.size,fun b a c=>⟨⟨(h.stay b a.1 c).1,a.2⟩,(h.stay b a.1 c).2⟩⟩
def eF(n:Nat):D0 (Bool×List Int):=
 ⟨1,fun w Z cs x=>∃A c,cs=[.slice A x.2.length c]∧Sl (Ax .i64) w (fun b=>Z b∧(x.1=true→n≤b)) A c x.2,fun⟨_,_,h,_⟩=>by rw[h];rfl,fun⟨_,_,h,_⟩=>by rw[h];simp[Value.oneCell'],
  fun⟨A,c,a,d⟩ g=>⟨A,c,a,d.mv (Tv g)⟩⟩
theorem Tw{n:Nat}{w:World}{Z:Nat→Prop}:∀{Bc:List (List Value)} {xs:List (List Int)},R2 (BA (Ax .i64)) w Z Bc xs→R2 (eF n) w Z Bc (xs.map fun x=>(false,x))
 |[],[],_=>trivial
 |_::_,_::_,⟨⟨A,c,a,b⟩,h⟩=>⟨⟨A,c,a,b.mv (G4 fun _ d _=>⟨d,fun e=>by cases e⟩)⟩,Tw h⟩
 |[],_::_,h=>h.elim
 |_::_,[],h=>h.elim
theorem Tx{n:Nat}{w:World}{Z:Nat→Prop}:∀{Bc:List (List Value)} {xs:List (Bool×List Int)},(∀y∈xs,y.1=true)→R2 (eF n) w Z Bc xs→R2 (BA (Ax .i64)) w (fun b=>n≤b) Bc (xs.map Prod.snd)
 |[],[],_,_=>trivial
 |_::_,x::_,a,⟨⟨A,c,d,e⟩,h⟩=>⟨⟨A,c,d,e.mv (G4 fun _ f _=>f.2 (a x (List.mem_cons_self ..)))⟩,Tx (fun y g=>a y (List.mem_cons_of_mem _ g)) h⟩
 |[],_::_,_,h=>h.elim
 |_::_,[],_,h=>h.elim
theorem Uy{t n0 n:Nat}{w:World}{Z:Nat→Prop}{A:Option Addr}{c:Nat}{xs:List (List Int)}(h:AH (BA (Ax .i64)) t n0 w Z A c xs):AH (eF n) t n0 w Z A c (xs.map fun x=>(false,x)):=by
 obtain⟨Bc,a,b⟩:=h;exact⟨Bc,Tw a,by rw[List.length_map];exact b⟩
theorem Uz{t n0 n:Nat}{w:World}{Z:Nat→Prop}{A:Option Addr}{c:Nat}{xs:List (Bool×List Int)}(a:∀y∈xs,y.1=true)(h:AH (eF n) t n0 w Z A c xs):AH (BA (Ax .i64)) t n0 w (fun b=>n≤b) A c (xs.map Prod.snd):=by
 obtain⟨Bc,d,e⟩:=h;exact⟨Bc,Tx a d,by rw[List.length_map];exact e⟩
theorem Ty{a:List (Bool×List Int)}{k:Nat}{x:List Int}(h:(a.map Prod.snd)[k]?=some x):∃b,a[k]?=some (b,x):=by
 rw[List.getElem?_map] at h;cases c:a[k]? with
 |none=>rw[c] at h;cases h
 |some y=>rw[c] at h;cases h;exact⟨y.1,rfl⟩
end Go.Proofs.YtkljfdkmjdjpfaaGreat
end
section
namespace Go.Proofs.YtkljfdkmjdjpfaaGreat
open Go.RowKit
theorem GZ{b:Nat}{t:TypeId}:∀(l:List Value) (o:Nat) {w:World} {cs:Array Value},Bk w b t cs→Bk (w.setCells b o l) b t (setCells cs o l)∧w.grownBy (w.setCells b o l) (some b)
 |[],o,w,cs,h=>⟨h,World.grownBy.refl w _⟩
 |v::l,o,w,cs,h=>by
  have c:Bk (w.setCell ⟨b,o,none⟩ v) b t (cs.setIfInBounds o v):=by
   unfold Bk at h⊢;simp[World.setCell,Array.getElem?_modify,h]
  have g1:GJ b w (w.setCell ⟨b,o,none⟩ v):=⟨rfl,rfl,rfl,by simp,fun k _ a=>Below.heap_setCell w ⟨b,o,none⟩ v k (by simpa using a)⟩;have ih:=GZ l (o+1) c;exact⟨ih.1,World.grownBy.trans g1 ih.2⟩
def CR (xs:List Int) (i:Int) (x:Int):List Int:=xs.take i.toNat++x::xs.drop i.toNat
theorem K2(xs:List Int)(i:Int)(x:Int):(CR xs i x).length=xs.length+1:=by
 unfold CR;simp;omega
theorem Q6{w w':World}{b:Nat}{o:Obj}(a:b=w.heap.size)(g:World.grownBy (w.alloc o) w' (some b)):Ext w w':=
 ⟨g.os,g.tape,g.output,by have:=g.size;simp at this;omega,fun k c _=>by
  have d:=g.block k (by simp;omega) (by rw[a];intro e;cases e;omega);rw[d];exact(World.grownBy_alloc w o none).block k c (by simp)⟩
theorem If{w:World}{base t g c:Nat}{cur:Array Value}{l:List Value}(a:base≤g)(d:Bk w g t cur)(e:l.length≤c)(f:c≤maxLen)(i:cur.size=c)(h:∀j,j<l.length→cur[j]?=l[j]?):DM w base t 1 (some ⟨g,0,none⟩) l.length c l:=by
 refine⟨by simp,.inr ⟨g,c,cur,rfl,a,d,e,f,by simp[i],?_⟩⟩;rw[Nat.mul_one];apply List.ext_getElem?;intro j;rw[List.getElem?_take];split
 ·rename_i b
  rw[←h j b];simp
 ·rename_i b
  rw[List.getElem?_eq_none (by omega)]
theorem EU{b:Bool}(h:b=false)(k:b=true):False:=by rw[h] at k;cases k
section
variable{F F':Nat→Prop}{B:List (Option Nat)}{w0 w w' Bf:World}{Z:Nat→Prop}{L M:List (Option Nat)}
theorem Hp.Cs(h:Hp F B w0 L w)(i:Nat){x:Option Nat}(hi:L[i]?=some x):Hp F B w0 (L.set i none) w:=
 h.FR (D:=FN) (Bi.refl _ _) (fun _ h=>h.elim) i hi (fun k e=>by cases e)
theorem Hp.CG(h:Hp F B w0 L w)(i:Nat){x:Option Nat}(hi:L[i]?=some x):Mv w (ZZ F B Z w0.heap.size L) w (ZZ F B Z w0.heap.size (L.set i none)):=
 h.C9 (D:=FN) (Bi.refl _ _) (fun _ h=>h.elim) i hi (fun k e=>by cases e)
theorem Hp.Md{α:Type}{e:D0 α}{t:TypeId}{A:Option Addr}{c:Nat}{xs:List α}(h:Hp F B w0 L w)(i:Nat)(hi:L[i]?=some (ob A))(d:AH e t w0.heap.size w (ZZ F B Z w0.heap.size L) A c xs):Sl e w (ZZ F B Z w0.heap.size (L.set i none)) A c xs:=
 (d.up (h.CG i hi)).sl fun k f h0=>.inr ⟨h0,fun hm=>by
  obtain⟨j,b⟩:=List.mem_iff_getElem?.1 hm
  by_cases a:j=i
  ·subst a;rw[List.getElem?_set_self (List.getElem?_eq_some_iff.1 hi).1] at b;cases b
  ·rw[List.getElem?_set_ne (fun e=>a e.symm)] at b;exact h.ap i j k (fun e=>a e.symm) (by rw[hi,f]) b⟩
theorem F8(h:Ext w w'){r:Option Nat}(g:w'.grownBy Bf r)(b:∀k,r=some k→w.heap.size≤k):Ext w Bf:=
 ⟨g.os.trans h.os,g.tape.trans h.tape,g.output.trans h.output,Nat.le_trans h.size g.size,fun k a _=>(g.block k (Nat.lt_of_lt_of_le a h.size) (fun e=>by have:=b k e.symm;omega)).trans (h.block k a (by simp))⟩
theorem DU{x y:Option Nat}{n:Nat}(a:∀k,x=some k→n≤k)(b:n≤w'.heap.size)(c:∀k,y=some k→(x=some k∨w'.heap.size≤k)∧k<Bf.heap.size):∀k,y=some k→n≤k:=fun k d=>
 (c k d).1.elim (a k) (fun h=>Nat.le_trans b h)
theorem GA{b:Nat}{t:TypeId}{cs:Array Value}(nb:IX w' Bf b t cs):∀k,ob (some ⟨b,0,none⟩)=some k→((none:Option Nat)=some k∨w'.heap.size≤k)∧k<Bf.heap.size:=fun k e=>by
 cases e;exact⟨.inr (Nat.le_of_eq nb.DV.symm),nb.bk.lt⟩
theorem Tz{α:Type}{e:D0 α}{t:TypeId}{A:Option Addr}{c:Nat}{xs:List α}{Z:Nat→Prop}(h:AH e t w'.heap.size Bf Z A c xs):∀k,ob A=some k→((none:Option Nat)=some k∨w'.heap.size≤k)∧k<Bf.heap.size:=fun k e=>⟨.inr (h.ge k e),h.JS k e⟩
end
def eT:D0 (Bool×(Option Addr×Nat)×List Int):=
 ⟨1,fun w Z cs x=>∃A c,cs=[.slice A x.2.2.length c]∧(x.1=true→A=x.2.1.1∧c=x.2.1.2)∧(x.1=false→Sl (Ax .i64) w Z A c x.2.2),fun⟨_,_,h,_⟩=>by rw[h];rfl,fun⟨_,_,h,_⟩=>by rw[h];simp[Value.oneCell'],
  fun⟨A,c,a,b,d⟩ g=>⟨A,c,a,b,fun e=>(d e).mv g⟩⟩
theorem TA{w:World}{Z:Nat→Prop}:∀{Bc:List (List Value)} {xs:List (List Int)},R2 (BA (Ax .i64)) w Z Bc xs→R2 eT w Z Bc (xs.map fun x=>(false,(none,0),x))
 |[],[],_=>trivial
 |_::_,_::_,⟨⟨A,c,a,b⟩,h⟩=>⟨⟨A,c,a,fun e=>(by cases e),fun _=>b⟩,TA h⟩
 |[],_::_,h=>h.elim
 |_::_,[],h=>h.elim
theorem TB{w:World}{Z:Nat→Prop}:∀{Bc:List (List Value)} {xs:List (Bool×(Option Addr×Nat)×List Int)},(∀y∈xs,y.1=true→Sl (Ax .i64) w Z y.2.1.1 y.2.1.2 y.2.2)→R2 eT w Z Bc xs→R2 (BA (Ax .i64)) w Z Bc (xs.map fun y=>y.2.2)
  |[],[],_,_=>trivial
  |_::_,x::_,b,⟨⟨A,c,d,e,f⟩,h⟩=>⟨by
      cases a:x.1 with
      |true=>
        obtain⟨rfl,rfl⟩:=e a;exact⟨_,_,d,b x (List.mem_cons_self ..) a⟩
      |false=>exact⟨A,c,d,f a⟩,TB (fun y g=>b y (List.mem_cons_of_mem _ g)) h⟩
  |[],_::_,_,h=>h.elim
  |_::_,[],_,h=>h.elim
theorem UA{t n0:Nat}{w:World}{Z:Nat→Prop}{A:Option Addr}{c:Nat}{xs:List (List Int)}(h:AH (BA (Ax .i64)) t n0 w Z A c xs):AH eT t n0 w Z A c (xs.map fun x=>(false,(none,0),x)):=by
 obtain⟨Bc,a,b⟩:=h;exact⟨Bc,TA a,by rw[List.length_map];exact b⟩
theorem UB{t n0:Nat}{w:World}{Z:Nat→Prop}{A:Option Addr}{c:Nat}{xs:List (Bool×(Option Addr×Nat)×List Int)}(a:∀y∈xs,y.1=true→Sl (Ax .i64) w Z y.2.1.1 y.2.1.2 y.2.2)(h:AH eT t n0 w Z A c xs):AH (BA (Ax .i64)) t n0 w Z A c (xs.map fun y=>y.2.2):=by
 obtain⟨Bc,b,d⟩:=h;exact⟨Bc,TB a b,by rw[List.length_map];exact d⟩
def I0 (N i:Int):Nat→Int→List (List Int)→Option (List (List Int))
  |0,_,_=>none
  |a+1,k,s=>cond (decide (k<N)) (cond (k !=i) ((idx s (0:Int)).bind fun x=>(Fe (((x.length+([k]:List Int).length:Nat):Int)≤140737488355328/8)).bind fun _=>(idx s (0:Int)).bind fun _=>(i64 (k+1)).bind fun _=>I0 N i a (k+1) (s.set 0 (x++[k])))
      ((i64 (k+1)).bind fun _=>I0 N i a (k+1) s)) (some s)
theorem qz{X:Ctx}{N:Nat}{a:Act}{l:Env}(st:St X N a l):(BV a l).tmps.size=N:=(H0 _ _).trans st.sz
theorem qd{X:Ctx}{N:Nat}{a:Act}{l:Env}(st:St X N a l):(BV a l).defers=X.ds:=(Dr _ _).trans st.df
theorem sp{X:Ctx}{N:Nat}{a:Act}{l:Env}(st:St X N a l)(k:Nat){v:Value}(h:lk (sl a k) l k=v):sl (BV a l) k=v:=(HO st k).trans h
theorem Hp.nb{F:Nat→Prop}{B L:List (Option Nat)}{w0 w w':World}{b:Nat}{t:TypeId}{cs:Array Value}(h:Hp F B w0 L w)(n:IX w w' b t cs):Hp F B w0 (some b::L) w':=h.new n.gr (Nat.le_of_eq n.DV.symm) (Nat.lt_of_lt_of_eq (Nat.lt_succ_self _) n.sz.symm)
theorem Hp.BO{F:Nat→Prop}{B L:List (Option Nat)}{w0 w w':World}{b:Nat}{t:TypeId}{cs:Array Value}(h:Hp F B w0 L w)(n:IX w w' b t cs):w0.heap.size≤b:=by rw[n.DV];exact h.sz
theorem Aw{F:Nat→Prop}{B L:List (Option Nat)}{Z:Nat→Prop}{w w':World}{n0 b:Nat}{t:TypeId}{cs:Array Value}(n:IX w w' b t cs):Mv w (ZZ F B Z n0 L) w' (ZZ F B Z n0 (some b::L)):=Ef n.gr (Nat.le_of_eq n.DV.symm)
theorem X2{b c:Sort _}{p:b→c→Prop}{C:Prop}(h:∃a x1,p a x1)(k:∀a x1,p a x1→C):C:=h.elim fun a h=>h.elim fun x1 h=>k a x1 h
theorem X4{c d e f:Sort _}{p:c→d→e→f→Prop}{C:Prop}(h:∃a x1 x2 b,p a x1 x2 b)(k:∀a x1 x2 b,p a x1 x2 b→C):C:=h.elim fun a h=>h.elim fun x1 h=>h.elim fun x2 h=>h.elim fun b h=>k a x1 x2 b h
theorem Y2{a0 a1 r C:Prop}(h:a0∧a1∧r)(k:a0→a1→r→C):C:=h.elim fun a h=>h.elim fun x1 h=>k a x1 h
theorem Y3{a0 a1 a2 r C:Prop}(h:a0∧a1∧a2∧r)(k:a0→a1→a2→r→C):C:=h.elim fun a h=>h.elim fun x1 h=>h.elim fun x2 h=>k a x1 x2 h
theorem Y4{a0 a1 a2 a3 r C:Prop}(h:a0∧a1∧a2∧a3∧r)(k:a0→a1→a2→a3→r→C):C:=h.elim fun a h=>h.elim fun x1 h=>h.elim fun x2 h=>h.elim fun b h=>k a x1 x2 b h
theorem Y8{a0 a1 a2 a3 a4 a5 a b r C:Prop}(h:a0∧a1∧a2∧a3∧a4∧a5∧a∧b∧r)(k:a0→a1→a2→a3→a4→a5→a→b→r→C):C:=h.elim fun c h=>h.elim fun x1 h=>h.elim fun x2 h=>h.elim fun d h=>h.elim fun e h=>h.elim fun f h=>h.elim fun g h=>h.elim fun i h=>k c x1 x2 d e f g i h
end Go.Proofs.YtkljfdkmjdjpfaaGreat
end
section
set_option linter.unusedVariables false
set_option linter.unusedSimpArgs false
namespace Go.Proofs.YtkljfdkmjdjpfaaGreat
open Go.RowKit Go.WideShapes
structure CU where
 Lo:Int
 Hi:Int
structure Ar where
 On:Int
 Bn:Int
 AO:Bool
structure Ay where
 As:Int
 Az:Int
 AO:Int
 BM:Int
 BP:Int
structure Ao where
 Aj:Int
 Ah:Int
 Am:Int
 Av:Int
 Ac:List Ay
structure A5 where
 Comes:List Int
 Am:List Bool
structure Ct where
 BG:Int
 BX:Int
 Cc:Int
 Cd:Int
 AW:List Ay
 C5:List Bool
 known:List (List Int×Ar)
structure HB where
 Ci:Int
 day:Int
structure BK where
 a0:Int
 a1:Int
 a2:Int
 a3:Int
def BK.set(x:BK)(k:Nat)(v:Int):BK:=⟨if k=0 then v else x.a0,if k=1 then v else x.a1,if k=2 then v else x.a2,if k=3 then v else x.a3⟩
def BK.l(x:BK):List Int:=[x.a0,x.a1,x.a2,x.a3]
theorem BK.Vb(x:BK)(k:Nat)(v:Int)(h:k<4): #[.int .i64 (x.set k v).a0,.int .i64 (x.set k v).a1,.int .i64 (x.set k v).a2,.int .i64 (x.set k v).a3]=setCells #[.int .i64 x.a0,.int .i64 x.a1,.int .i64 x.a2,.int .i64 x.a3] k [.int .i64 v]:=by
 match k,h with
 |0,_=>rfl
 |1,_=>rfl
 |2,_=>rfl
 |3,_=>rfl
 |k+4,h=>omega
def Cu:D0 Ar:=⟨3,fun _ _ cs x=>cs=[.int .i64 x.On,.int .i64 x.Bn,.bool x.AO],fun h=>by rw[h];rfl,fun h=>by rw[h];simp[Value.oneCell'],fun h _=>h⟩
def AK:D0 Ay:=⟨5,fun _ _ cs x=>cs=[.int .i64 x.As,.int .i64 x.Az,.int .i64 x.AO,.int .i64 x.BM,.int .i64 x.BP],fun h=>by rw[h];rfl,fun h=>by rw[h];simp[Value.oneCell'],fun h _=>h⟩
def IA:D0 Ao:=⟨5,fun w Z cs x=>∃a b,cs=[.int .i64 x.Aj,.int .i64 x.Ah,.int .i64 x.Am,.int .i64 x.Av,.slice a x.Ac.length b]∧Sl AK w Z a b x.Ac,fun⟨_,_,h,_⟩=>by rw[h];rfl,fun⟨_,_,h,_⟩=>by rw[h];simp[Value.oneCell'],fun⟨a,b,h,c⟩ g=>⟨a,b,h,c.mv g⟩⟩
def GB:D0 A5:=⟨2,fun w Z cs x=>∃a b c d,cs=[.slice a x.Comes.length b,.slice c x.Am.length d]∧Sl (Ax .i64) w Z a b x.Comes∧Sl Bx w Z c d x.Am,fun⟨_,_,_,_,h,_⟩=>by rw[h];rfl,fun⟨_,_,_,_,h,_⟩=>by rw[h];simp[Value.oneCell'],fun⟨a,b,c,d,h,h0,e⟩ g=>⟨a,b,c,d,h,h0.mv g,e.mv g⟩⟩
def Oz:D0 CU:=⟨2,fun _ _ cs x=>cs=[.int .i64 x.Lo,.int .i64 x.Hi],fun h=>by rw[h];rfl,fun h=>by rw[h];simp[Value.oneCell'],fun h _=>h⟩
def UC:D0 BK:=⟨4,fun _ _ cs x=>cs=[.int .i64 x.a0,.int .i64 x.a1,.int .i64 x.a2,.int .i64 x.a3],fun h=>by rw[h];rfl,fun h=>by rw[h];simp[Value.oneCell'],fun h _=>h⟩
def LJ(w:World)(Z:Nat→Prop)(q:Nat)(o:Option Nat):Option Ct→Prop
 |none=>Bk w q 162 #[.pointer none]∧o=none
 |some x=>∃(b r:Nat) (a:Option Addr) (c:Nat) (d:Option Addr) (e:Nat),Bk w q 162 #[pt b 0]∧Rz w Z (some ⟨b,0,none⟩) [I x.BG,I x.BX,I x.Cc,I x.Cd,.slice a x.AW.length c,.slice d x.C5.length e,.map (some r)]∧Sl AK w Z a c x.AW∧Sl Bx w Z d e x.C5∧Ch (fun x:Ar=>.agg #[I x.On,I x.Bn,.bool x.AO]) w r 2 x.known∧o=some r
theorem LJ.keep{w w':World}{Z Z':Nat→Prop}{q:Nat}{o:Option Nat}:∀{x:Option Ct},LJ w Z q o x→Mv w Z w' Z'→w'.heap[q]?=w.heap[q]?→(∀k,o=some k→w'.heap[k]?=w.heap[k]?)→LJ w' Z' q o x
 |none,h,_,a,_=>⟨h.1.F5 a,h.2⟩
 |some x,⟨b,r,e,f,g,i,j,l,h0,m,hm,d⟩,c,a,n=>⟨b,r,e,f,g,i,j.F5 a,l.mv c,h0.mv c,m.mv c,hm.F5 (n r d),d⟩
end Go.Proofs.YtkljfdkmjdjpfaaGreat
end
section
set_option linter.unusedVariables false
set_option linter.unusedSimpArgs false
namespace Go.Proofs.YtkljfdkmjdjpfaaGreat
open Go.RowKit Go.WideShapes
def El(d:Nat)(a:Int)(b:Int)(c:Int):Option (Bool):=
 cond (decide (b≤a)) (some (decide (a≤c))) (some (false))
def E9(b:Nat)(a:CU):Option (Int):=
 (i64 (a.Hi-a.Lo)).bind fun _=>(i64 ((a.Hi-a.Lo)+1)).bind fun _=>some ((a.Hi-a.Lo)+1)
def G5(c:Nat)(a:CU)(b:Int):Option (Bool):=
 cond (decide ((0:Int)≤a.Lo)) (cond (decide (a.Lo≤a.Hi)) (some (decide (a.Hi≤b))) (some (false))) (some (false))
def GU(a:Nat)(b:Int):Option (Bool):=
 (El a b 1 5).bind fun r1=>some (r1)
def DY(d:Nat)(a:Int)(b:Int)(c:Int):Option (Bool):=
 cond (decide (b≤a)) (some (decide (a≤c))) (some (false))
def FB(b:Nat)(a:CU):Option (Int):=
 (i64 (a.Hi-a.Lo)).bind fun _=>(i64 ((a.Hi-a.Lo)+1)).bind fun _=>some ((a.Hi-a.Lo)+1)
def Et(c:Nat)(b:Int)(a:Int):Option (Bool):=
 (K0 .u64 a).bind fun _=>(Nn b a).bind fun _=>(rem (Fp b a) (2:Int)).bind fun _=>some (((Fp b a)%2)==1)
def EO(d:Nat)(a:Int)(b:Int)(c:Bool):Option (Ar):=
 some ((⟨a,b,c⟩:Ar))
def FM(b:Nat)(a:Ao)(c:Int):Option (Bool):=
 (i64 ((a.Ac.length:Int)-1)).bind fun _=>(El b c 0 ((a.Ac.length:Int)-1)).bind fun d=>some (d)
def Dd(c:Nat)(b:Ay)(a:Ar):Option (Bool):=
 cond (a.AO) (some (decide (a.Bn≤b.BP))) (some (false))
def Eg(a:Nat)(b:Ay)(c:Ar):Option (Bool):=
 (Dd a b c).bind fun d=>some (!d)
end Go.Proofs.YtkljfdkmjdjpfaaGreat
end
section
set_option linter.unusedVariables false
set_option linter.unusedSimpArgs false
namespace Go.Proofs.YtkljfdkmjdjpfaaGreat
open Go.RowKit Go.WideShapes
def Cm(e:Nat)(c:Ao)(f:Int)(b:Int):Nat→Bool→Int→Option (Bool)
 |0,_,_=>none
 |g+1,d,a=>(i64 (b+c.Av)).bind fun _=>cond (decide (a≤(b+c.Av))) (cond (d) (cond (decide (a≤c.Aj)) ((Et e f a).bind fun h=>(i64 (a+1)).bind fun _=>Cm e c f b g h (a+1)) ((i64 (a+1)).bind fun _=>Cm e c f b g false (a+1))) ((i64 (a+1)).bind fun _=>Cm e c f b g false (a+1))) (some (d))
def Cj(e:Nat)(d:Ao)(f:Int)(b:Int):Nat→Bool→Int→Option (Bool)
 |0,_,_=>none
 |g+1,c,a=>(i64 (b+d.Av)).bind fun _=>cond (decide (a≤(b+d.Av))) (cond (c) (cond (decide (a≤d.Aj)) ((Et e f a).bind fun h=>(i64 (a+1)).bind fun _=>Cj e d f b g h (a+1)) ((i64 (a+1)).bind fun _=>Cj e d f b g false (a+1))) ((i64 (a+1)).bind fun _=>Cj e d f b g false (a+1))) (some (c))
def CJ(c:Nat)(d:Ao)(e:Int):Nat→Int→Int→Option ((Bool)⊕(Int))
 |0,_,_=>none
 |f+1,b,a=>cond (decide (a≤d.Aj)) ((Et c e a).bind fun g=>cond (g) ((i64 (b+1)).bind fun _=>(Cm c d e a c true a).bind fun h=>cond (h) (some (.inl false)) ((i64 (a+1)).bind fun _=>CJ c d e f (b+1) (a+1))) ((Cj c d e a c true a).bind fun z20=>cond (z20) (some (.inl false)) ((i64 (a+1)).bind fun _=>CJ c d e f b (a+1)))) (some (.inr b))
def Er(b:Nat)(c:Ao)(d:Int):Option (Bool):=
 (CJ b c d b (0:Int) (0:Int)).bind fun z=>Sum.elim (fun a=>some (a)) (fun a=>some (decide (a≤c.Am))) z
def CO(d:Nat)(c:Ao):Nat→(List Int)→Int→Option ((List Int))
 |0,_,_=>none
 |e+1,b,a=>(i64 (c.Aj+1)).bind fun _=>(K0 .u64 (c.Aj+1)).bind fun _=>(L8 (1:Int) (c.Aj+1)).bind fun _=>cond (decide (a<(Hf (1:Int) (c.Aj+1)))) ((Er d c a).bind fun f=>cond (f) ((Fe (((b.length+[a].length:Nat):Int)≤140737488355328/8)).bind fun _=>(i64 (a+1)).bind fun _=>CO d c e (b++[a]) (a+1)) ((i64 (a+1)).bind fun _=>CO d c e b (a+1))) (some (b))
def ED(a:Nat)(b:Ao):Option ((List Int)):=
 (CO a b a ([]:List Int) (0:Int)).bind fun z2=>some (z2)
def DF(d:Nat)(c:Ao):Nat→Int→Int→Option (Int)
 |0,_,_=>none
 |g+1,b,a=>cond (decide (a<(c.Ac.length:Int))) ((idx c.Ac a).bind fun e=>(FB d (⟨e.As,e.Az⟩:CU)).bind fun f=>(i64 (b*f)).bind fun _=>(i64 (a+1)).bind fun _=>DF d c g (min (3000:Int) (b*f)) (a+1)) (some (b))
def DP(a:Nat)(b:Ao):Option (Int):=
 (ED a b).bind fun r2=>(DF a b a (r2.length:Int) (0:Int)).bind fun z4=>some (z4)
def Di(d:Nat)(c:Ao):Nat→Int→Option ((Int)⊕(Unit))
 |0,_=>none
 |h+1,a=>cond (decide (a<(c.Ac.length:Int))) ((idx c.Ac a).bind fun b=>cond (decide (b.As<0)) (some (.inl (1:Int))) (cond (decide (b.Az<b.As)) (some (.inl (1:Int))) (cond (decide (c.Aj<b.Az)) (some (.inl (1:Int))) ((DY d b.AO 1 5).bind fun e=>cond (!e) (some (.inl (1:Int))) ((DY d b.BM 1 5).bind fun f=>cond (!f) (some (.inl (1:Int))) ((DY d b.BP 0 c.Aj).bind fun g=>cond (!g) (some (.inl (1:Int))) ((i64 (a+1)).bind fun _=>Di d c h (a+1)))))))) (some (.inr ()))
def Ey(b:Nat)(a:Ao):Option (Int):=
 cond (decide ((9:Int)<a.Aj)) (some (3)) (cond (decide ((2:Int)<a.Ah)) (some (3)) (cond (decide ((4:Int)<(a.Ac.length:Int))) (some (3)) (cond (decide (a.Aj<0)) (some (1)) (cond (decide (a.Ah<1)) (some (1)) ((i64 (a.Aj+1)).bind fun _=>(DY b a.Am 0 (a.Aj+1)).bind fun f=>cond (!f) (some (1)) ((i64 (a.Aj+1)).bind fun _=>(DY b a.Av 0 (a.Aj+1)).bind fun d=>cond (!d) (some (1)) ((Di b a b (0:Int)).bind fun z=>Sum.elim (fun c=>some (c)) (fun c=>(DP b a).bind fun e=>cond (decide ((1000:Int)<e)) (some (3)) (some (0))) z)))))))
def E1(b:Nat)(c:Ao)(a:Ay):Option (Bool):=
 (G5 b (⟨a.As,a.Az⟩:CU) c.Aj).bind fun e=>cond (e) ((GU b a.AO).bind fun f=>cond (f) ((GU b a.BM).bind fun g=>cond (g) ((El b a.BP 0 c.Aj).bind fun d=>some (d)) (some (false))) (some (false))) (some (false))
def DG(b:List Int)(c:List Int):Nat→Int→Option ((Bool)⊕(Unit))
 |0,_=>none
 |d+1,a=>cond (decide (a<(b.length:Int))) ((idx b a).bind fun e=>(idx c a).bind fun f=>cond (e !=f) (some (.inl false)) ((i64 (a+1)).bind fun _=>DG b c d (a+1))) (some (.inr ()))
def FC(d:Nat)(b:List Int)(c:List Int):Option (Bool):=
 cond ((b.length:Int) !=(c.length:Int)) (some (false)) ((DG b c d (0:Int)).bind fun z=>Sum.elim (fun a=>some (a)) (fun a=>some (true)) z)
def C0(e:List Int)(d:List Int)(b:Int):Nat→Bool→Int→Option (Bool)
 |0,_,_=>none
 |f+1,c,a=>cond (decide (a<(d.length:Int))) (cond (c) ((i64 (a+1)).bind fun _=>C0 e d b f true (a+1)) ((idx e b).bind fun g=>(idx d a).bind fun h=>(i64 (a+1)).bind fun _=>C0 e d b f (g==h) (a+1))) (some (c))
def Dj(c:Nat)(b:List Int)(d:List Int):Nat→Int→Option ((Bool)⊕(Unit))
 |0,_=>none
 |e+1,a=>cond (decide (a<(b.length:Int))) ((C0 b d a c false (0:Int)).bind fun z3=>cond (!z3) (some (.inl false)) ((i64 (a+1)).bind fun _=>Dj c b d e (a+1))) (some (.inr ()))
def En(b:Nat)(c:List Int)(d:List Int):Option (Bool):=
 (Dj b c d b (0:Int)).bind fun z=>Sum.elim (fun a=>some (a)) (fun a=>some (true)) z
def CK(b:Nat)(a:Int):Option (Ao):=
 some ((⟨5,1,a,1,[(⟨0,0,2,2,2⟩:Ay),(⟨1,1,2,1,5⟩:Ay)]⟩:Ao))
def Gt(b:Nat)(a:Int):Option (A5):=
 (Kf (6:Int) 1).bind fun _=>(idx (List.replicate (6:Int).toNat false) a).bind fun c=>some ((⟨[0,1],(List.replicate (6:Int).toNat false).set a.toNat true⟩:A5))
def Gu(f:Nat)(a:List Ar)(b:Ar)(c:Ar):Option (Bool):=
 cond ((a.length:Int)==2) ((idx a (0:Int)).bind fun d=>cond (Hz [.inl d.On,.inl d.Bn,.inr d.AO] [.inl b.On,.inl b.Bn,.inr b.AO]) ((idx a (1:Int)).bind fun e=>some (Hz [.inl e.On,.inl e.Bn,.inr e.AO] [.inl c.On,.inl c.Bn,.inr c.AO])) (some (false))) (some (false))
def GN(b:Nat)(a:CU):Option (CU):=
 some (a)
def DH(f:Nat)(e:Ao):Nat→Int→(List Ay)→Option ((List Ay))
 |0,_,_=>none
 |g+1,b,a=>cond (decide (b<(e.Ac.length:Int))) ((idx e.Ac b).bind fun c=>(GN f (⟨c.As,c.Az⟩:CU)).bind fun d=>(Fe (((a.length+[(⟨d.Lo,d.Hi,c.AO,c.BM,c.BP⟩:Ay)].length:Nat):Int)≤140737488355328/40)).bind fun _=>(i64 (b+1)).bind fun _=>DH f e g (b+1) (a++[(⟨d.Lo,d.Hi,c.AO,c.BM,c.BP⟩:Ay)])) (some (a))
def Bg(b:Nat)(a:Ao):Option (Ao):=
 (DH b a b (0:Int) ([]:List Ay)).bind fun z5=>some ((⟨a.Aj,a.Ah,a.Am,a.Av,z5⟩:Ao))
def Fi(a:Nat)(b:Ao):Option (Int):=
 (Ey a b).bind fun r2=>some (r2)
def FD(b:Nat)(a:Ao):Option (Bool):=
 cond (decide ((a.Ac.length:Int)≤6)) ((Ey b a).bind fun c=>cond (c !=0) (some (true)) ((DP b a).bind fun d=>some (decide (d≤60)))) (some (false))
end Go.Proofs.YtkljfdkmjdjpfaaGreat
end
section
set_option linter.unusedVariables false
set_option linter.unusedSimpArgs false
namespace Go.Proofs.YtkljfdkmjdjpfaaGreat
open Go.RowKit Go.WideShapes
def EL{a:Type}(e:Nat)(b:a→Ay→Option (Bool×a))(c:Ay)(d:a):Option (Bool×a):=
 (b d c).bind fun r2=>some ((!r2.1,r2.2))
def C4{c:Type}(d:c→Ay→Option (Bool×c))(e:List Ay):Nat→Int→c→Option ((Int×c)⊕(c))
 |0,_,_=>none
 |g+1,a,b=>cond (decide (a<(e.length:Int))) ((idx e a).bind fun h=>(d b h).bind fun f=>cond (f.1) (some (.inl (a,f.2))) ((i64 (a+1)).bind fun _=>C4 d e g (a+1) f.2)) (some (.inr b))
def Fx{b:Type}(d:Nat)(c:b→Ay→Option (Bool×b))(e:List Ay)(f:b):Option (Int×b):=
 (C4 c e d (0:Int) f).bind fun z=>Sum.elim (fun a=>some ((a.1,a.2))) (fun a=>some (((-1),a))) z
def ET{a:Type}(c:Nat)(b:a→Ay→Option (Bool×a))(d:List Ay)(e:a):Option (Bool×a):=
 (Fx c b d e).bind fun r1=>some ((decide ((0:Int)≤r1.1),r1.2))
def GC{a:Type}(b:Nat)(c:a→Ay→Option (Bool×a))(d:List Ay)(e:a):Option (Bool×a):=
 (ET b (fun(st:a) (x:Ay)=>(EL b c x st).bind fun r=>some (r.1,r.2)) d e).bind fun r2=>some ((!r2.1,r2.2))
def Eu{a:Type}(e:Nat)(b:a→Bool→Option (Bool×a))(c:Bool)(d:a):Option (Bool×a):=
 (b d c).bind fun r1=>some ((!r1.1,r1.2))
def CV{c:Type}(d:c→Bool→Option (Bool×c))(e:List Bool):Nat→Int→c→Option ((Int×c)⊕(c))
 |0,_,_=>none
 |g+1,a,b=>cond (decide (a<(e.length:Int))) ((idx e a).bind fun h=>(d b h).bind fun f=>cond (f.1) (some (.inl (a,f.2))) ((i64 (a+1)).bind fun _=>CV d e g (a+1) f.2)) (some (.inr b))
def Fh{b:Type}(d:Nat)(c:b→Bool→Option (Bool×b))(e:List Bool)(f:b):Option (Int×b):=
 (CV c e d (0:Int) f).bind fun z=>Sum.elim (fun a=>some ((a.1,a.2))) (fun a=>some (((-1),a))) z
def EI{a:Type}(c:Nat)(b:a→Bool→Option (Bool×a))(d:List Bool)(e:a):Option (Bool×a):=
 (Fh c b d e).bind fun r1=>some ((decide ((0:Int)≤r1.1),r1.2))
def Gk{a:Type}(b:Nat)(c:a→Bool→Option (Bool×a))(d:List Bool)(e:a):Option (Bool×a):=
 (EI b (fun(st:a) (x:Bool)=>(Eu b c x st).bind fun r=>some (r.1,r.2)) d e).bind fun r2=>some ((!r2.1,r2.2))
def DI(e:Nat)(d:Bool)(b:Int)(a:Int)(c:Ao):Option (Bool×Int×Int):=
 cond (!d) (some ((true,0,a))) ((i64 (a+1)).bind fun _=>(i64 (b+1)).bind fun _=>cond (decide ((a+1)≤c.Am)) (some ((decide ((b+1)≤c.Av),b+1,a+1))) (some ((false,b+1,a+1))))
def Ez(a:Nat)(b:Ao)(c:List Bool):Option (Bool):=
 (Gk a (fun(st:Int×Int) (x:Bool)=>(DI a x st.1 st.2 b).bind fun r=>some (r.1,(r.2.1,r.2.2))) c (0,0)).bind fun d=>some (d.1)
end Go.Proofs.YtkljfdkmjdjpfaaGreat
end
section
set_option linter.unusedVariables false
set_option linter.unusedSimpArgs false
namespace Go.Proofs.YtkljfdkmjdjpfaaGreat
open Go.RowKit Go.WideShapes
def EA(c:List Int):Nat→Int→Int→Option (Int)
 |0,_,_=>none
 |d+1,b,a=>cond (decide (a<(c.length:Int))) ((idx c a).bind fun e=>(i64 (a+1)).bind fun _=>EA c d (min b e) (a+1)) (some (b))
def GO(b:Nat)(a:List Int):Option (Int):=
 cond (decide ((a.length:Int)<1)) (none) ((idx a (0:Int)).bind fun x2=>(EA a b x2 (1:Int)).bind fun z3=>some (z3))
def GD(a:Nat)(b:List Int):Option (Int):=
 (GO a b).bind fun r1=>some (r1)
def CP(b:Int)(d:List Bool):Nat→Int→(List Bool)→Option ((List Bool))
 |0,_,_=>none
 |e+1,a,c=>cond (decide (a<(d.length:Int))) ((Nn b a).bind fun _=>(rem (Fp b a) (2:Int)).bind fun _=>(idx c a).bind fun f=>(i64 (a+1)).bind fun _=>CP b d e (a+1) (c.set a.toNat (((Fp b a)%2)==1))) (some (c))
def CQ{c:Type}(d:c→(List Bool)→Option (Bool×c))(g:Nat)(h:Ao):Nat→Int→(List Bool)→c→Option ((c)⊕(c))
 |0,_,_,_=>none
 |j+1,a,e,b=>cond (decide (a<(Hf (1:Int) ((List.replicate (h.Aj+1).toNat false).length:Int)))) ((CP a e g (0:Int) e).bind fun i=>(Ez g h i).bind fun k=>cond (k) ((d b i).bind fun f=>cond (!f.1) (some (.inl f.2)) ((i64 (a+1)).bind fun _=>CQ d g h j (a+1) i f.2)) ((i64 (a+1)).bind fun _=>CQ d g h j (a+1) i b)) (some (.inr b))
def Ds{c:Type}(d:Nat)(e:c→(List Bool)→Option (Bool×c))(a:Ao)(f:c):Option (c):=
 (i64 (a.Aj+1)).bind fun _=>(Kf (a.Aj+1) 1).bind fun _=>(L8 (1:Int) ((List.replicate (a.Aj+1).toNat false).length:Int)).bind fun _=>(CQ e d a d (0:Int) (List.replicate (a.Aj+1).toNat false) f).bind fun z=>Sum.elim (fun b=>some (b)) (fun b=>some (b)) z
end Go.Proofs.YtkljfdkmjdjpfaaGreat
end
section
set_option linter.unusedVariables false
set_option linter.unusedSimpArgs false
namespace Go.Proofs.YtkljfdkmjdjpfaaGreat
open Go.RowKit Go.WideShapes
def E2(a:Int)(b:(List Bool)):Option (Bool×Int):=
 (i64 (a+1)).bind fun _=>some (true,a+1)
def DZ(e:Nat)(f:Ao):Nat→Int→Int→Option (Int)
 |0,_,_=>none
 |h+1,b,a=>cond (decide (b<(f.Ac.length:Int))) ((idx f.Ac b).bind fun c=>(E9 e (⟨c.As,c.Az⟩:CU)).bind fun d=>(i64 (a*d)).bind fun _=>(GD e [a*d,1001]).bind fun g=>(i64 (b+1)).bind fun _=>DZ e f h (b+1) g) (some (a))
def Dt(b:Nat)(a:Ao):Option (Int):=
 cond (decide ((9:Int)<a.Aj)) (some (3)) (cond (decide ((2:Int)<a.Ah)) (some (3)) (cond (decide ((4:Int)<(a.Ac.length:Int))) (some (3)) (cond (decide (a.Aj<0)) (some (1)) (cond (decide (a.Ah<1)) (some (1)) ((i64 (a.Aj+1)).bind fun _=>(El b a.Am 0 (a.Aj+1)).bind fun g=>cond (!g) (some (1)) ((i64 (a.Aj+1)).bind fun _=>(El b a.Av 0 (a.Aj+1)).bind fun c=>cond (!c) (some (1)) ((GC b (fun(st:Unit) (x:Ay)=>(E1 b a x).bind fun r=>some (r,())) a.Ac ()).bind fun d=>cond (!d.1) (some (1)) ((Ds b (fun(st:Int) (x:(List Bool))=>E2 st x) a (0:Int)).bind fun e=>(DZ b a b (0:Int) e).bind fun f=>cond (decide ((1000:Int)<f)) (some (3)) (some (0))))))))))
end Go.Proofs.YtkljfdkmjdjpfaaGreat
end
section
set_option linter.unusedVariables false
set_option linter.unusedSimpArgs false
namespace Go.Proofs.YtkljfdkmjdjpfaaGreat
open Go.RowKit Go.WideShapes
def B6{f:Type}(g:Int→(List Int)→(List Bool)→Ao→f→Option (Bool×(List Int)×f))(e:Int)(j:List Bool)(i:Ao)(k:Int):Nat→Int→(List Int)→f→Option ((Bool×(List Int)×f)⊕((List Int)×f))
 |0,_,_,_=>none
 |l+1,a,b,d=>cond (decide (a<k)) ((idx i.Ac e).bind fun h=>(i64 (h.As+a)).bind fun _=>(idx b e).bind fun m=>(i64 (e+1)).bind fun _=>(g (e+1) (b.set e.toNat (h.As+a)) j i d).bind fun c=>cond (!c.1) (some (.inl (false,c.2.1,c.2.2))) ((i64 (a+1)).bind fun _=>B6 g e j i k l (a+1) c.2.1 c.2.2)) (some (.inr (b,d)))
def BR{b:Type}(e:Nat)(d:b→A5→Option (Bool×b)):Nat→Int→(List Int)→(List Bool)→Ao→b→Option (Bool×(List Int)×b)
 |0,_,_,_,_,_=>none
 |k+1,f,c,g,h,i=>cond (f==(c.length:Int)) ((d i (⟨c,g⟩:A5)).bind fun r2=>some ((r2.1,c,r2.2))) ((idx h.Ac f).bind fun j=>(E9 e (⟨j.As,j.Az⟩:CU)).bind fun l=>(B6 (BR e d k) f g h l e (0:Int) c i).bind fun z=>Sum.elim (fun a=>some ((a.1,a.2.1,a.2.2))) (fun a=>some ((true,a.1,a.2))) z)
end Go.Proofs.YtkljfdkmjdjpfaaGreat
end
section
set_option linter.unusedVariables false
set_option linter.unusedSimpArgs false
namespace Go.Proofs.YtkljfdkmjdjpfaaGreat
open Go.RowKit Go.WideShapes
def Dk{c:Type}(e:c→A5→Option (Bool×c))(f:Nat)(g:Ao)(b:List Int)(d:c)(h:(List Bool)):Option (Bool×((List Int)×c×Bool)):=
 (BR f e f 0 b h g d).bind fun a=>cond (!a.1) (some (false,a.2.1,a.2.2,true)) (some (true,a.2.1,a.2.2,false))
def E3{a:Type}(d:Nat)(e:a→A5→Option (Bool×a))(b:Ao)(f:a):Option (a):=
 (Kf (b.Ac.length:Int) 8).bind fun _=>(Ds d (fun(st:(List Int)×a×Bool) (x:(List Bool))=>cond st.2.2 none (Dk e d b st.1 st.2.1 x)) b (List.replicate (b.Ac.length:Int).toNat (0:Int),f,false)).bind fun c=>cond (c.2.2) (some (c.2.1)) (some (c.2.1))
end Go.Proofs.YtkljfdkmjdjpfaaGreat
end
section
set_option linter.unusedVariables false
set_option linter.unusedSimpArgs false
namespace Go.Proofs.YtkljfdkmjdjpfaaGreat
open Go.RowKit Go.WideShapes
def Du(b:List Bool)(c:List Bool):Nat→Int→Option ((Bool)⊕(Unit))
 |0,_=>none
 |d+1,a=>cond (decide (a<(b.length:Int))) ((idx b a).bind fun e=>(idx c a).bind fun f=>cond (e !=f) (some (.inl false)) ((i64 (a+1)).bind fun _=>Du b c d (a+1))) (some (.inr ()))
def EB(d:Nat)(b:List Bool)(c:List Bool):Option (Bool):=
 cond ((b.length:Int) !=(c.length:Int)) (some (false)) ((Du b c d (0:Int)).bind fun z=>Sum.elim (fun a=>some (a)) (fun a=>some (true)) z)
def Dl(d:Nat)(c:Ao)(e:A5):Nat→Int→Option ((Bool)⊕(Unit))
 |0,_=>none
 |h+1,a=>cond (decide (a<(c.Ac.length:Int))) ((idx c.Ac a).bind fun b=>(idx e.Comes a).bind fun f=>(El d f b.As b.Az).bind fun g=>cond (!g) (some (.inl false)) ((i64 (a+1)).bind fun _=>Dl d c e h (a+1))) (some (.inr ()))
def Fj(d:Nat)(a:Ao)(c:A5):Option (Bool):=
 cond ((c.Comes.length:Int) !=(a.Ac.length:Int)) (some (false)) ((i64 (a.Aj+1)).bind fun _=>cond ((c.Am.length:Int) !=(a.Aj+1)) (some (false)) ((Ez d a c.Am).bind fun e=>cond (!e) (some (false)) ((Dl d a c d (0:Int)).bind fun z=>Sum.elim (fun b=>some (b)) (fun b=>some (true)) z)))
def DQ(i:Ct)(h:HB)(f:Ay):Nat→Int→Int→Int→Int→Int→Bool→Option ((Int×Int×Bool)⊕(Int×Int×Bool))
 |0,_,_,_,_,_,_=>none
 |j+1,b,g,a,c,d,e=>cond (decide (a≤i.BG)) ((idx i.C5 a).bind fun k=>cond (k) ((i64 (g+1)).bind fun _=>cond (b==f.AO) (some (.inl (h.day,a,b==f.AO))) (cond ((g+1)==f.BM) (some (.inl (h.day,a,b==f.AO))) ((i64 (a+1)).bind fun _=>DQ i h f j b (g+1) (a+1) c d e))) ((i64 (b+1)).bind fun _=>cond ((b+1)==f.AO) (some (.inl (h.day,a,(b+1)==f.AO))) (cond ((0:Int)==f.BM) (some (.inl (h.day,a,(b+1)==f.AO))) ((i64 (a+1)).bind fun _=>DQ i h f j (b+1) (0:Int) (a+1) c d e)))) (some (.inr (c,d,e)))
def FH(d:Nat)(c:Ct)(b:HB):Option (Ar):=
 cond (decide (c.BG<b.day)) (some ((⟨(-1),(-1),false⟩:Ar))) ((idx c.AW b.Ci).bind fun e=>(DQ c b e d (0:Int) (0:Int) b.day (0:Int) (0:Int) false).bind fun z=>Sum.elim (fun a=>some ((⟨a.1,a.2.1,a.2.2⟩:Ar))) (fun a=>some ((⟨b.day,(-1),false⟩:Ar))) z)
def Fq(d:Nat)(b:Ct)(a:HB):Option (Ar×(List (List Int×Ar))):=
 cond (!((BF b.known [a.Ci,a.day]).isSome)) ((FH d b a).bind fun c=>some ((c,Hy b.known [a.Ci,a.day] c))) (some ((((BF b.known [a.Ci,a.day]).getD (⟨0,0,false⟩:Ar)),b.known)))
def DB(i:Nat)(c:Ct)(j:List Int)(g:List Int):Nat→Int→Int→(List Ar)→(List (List Int×Ar))→Option ((List Ar)×(List (List Int×Ar)))
 |0,_,_,_,_=>none
 |k+1,h,a,d,e=>cond (decide (a<(g.length:Int))) ((idx g a).bind fun f=>(idx j f).bind fun l=>(Fq i (⟨c.BG,c.BX,c.Cc,c.Cd,c.AW,c.C5,e⟩:Ct) (⟨f,max h l⟩:HB)).bind fun b=>(idx d f).bind fun m=>(i64 (b.1.Bn+1)).bind fun _=>cond (b.1.Bn==(-1)) ((i64 (c.BG+1)).bind fun _=>(i64 (a+1)).bind fun _=>DB i c j g k (c.BG+1) (a+1) (d.set f.toNat b.1) b.2) ((i64 (a+1)).bind fun _=>DB i c j g k (b.1.Bn+1) (a+1) (d.set f.toNat b.1) b.2)) (some ((d,e)))
def Df(d:Nat)(f:Ct)(e:List (List Int))(g:List Int):Nat→Int→(List Ar)→(List (List Int×Ar))→Option ((List Ar)×(List (List Int×Ar)))
 |0,_,_,_=>none
 |i+1,a,c,b=>cond (decide (a<(e.length:Int))) ((idx e a).bind fun j=>(DB d f g j d (0:Int) (0:Int) c b).bind fun h=>(i64 (a+1)).bind fun _=>Df d f e g i (a+1) h.1 h.2) (some ((c,b)))
def CX(b:Nat)(a:Ct)(c:List (List Int))(d:List Int):Option ((List Ar)×(List (List Int×Ar))):=
 (Kf (a.AW.length:Int) 24).bind fun _=>(Df b a c d b (0:Int) (List.replicate (a.AW.length:Int).toNat (⟨0,0,false⟩:Ar)) a.known).bind fun z3=>some ((z3.1,z3.2))
end Go.Proofs.YtkljfdkmjdjpfaaGreat
end
section
set_option linter.unusedVariables false
set_option linter.unusedSimpArgs false
namespace Go.Proofs.YtkljfdkmjdjpfaaGreat
open Go.RowKit Go.WideShapes
def Dv(c:List (List Int)):Nat→(List Int)→Int→Option ((List Int))
 |0,_,_=>none
 |e+1,b,a=>cond (decide (a<(c.length:Int))) ((idx c a).bind fun d=>(Fe (((b.length+d.length:Nat):Int)≤140737488355328/8)).bind fun _=>(i64 (a+1)).bind fun _=>Dv c e (b++d) (a+1)) (some (b))
def Dm(b:Ao)(z2:(List Int)):Nat→Int→Option ((Bool)⊕(Unit))
 |0,_=>none
 |d+1,a=>cond (decide (a<(b.Ac.length:Int))) (cond (((Da z2).length:Int) !=(b.Ac.length:Int)) (some (.inl false)) ((idx (Da z2) a).bind fun c=>cond (c !=a) (some (.inl false)) ((i64 (a+1)).bind fun _=>Dm b z2 d (a+1)))) (some (.inr ()))
def Eb(c:Nat)(b:Ao)(d:List (List Int)):Option (Bool):=
 (Dv d c ([]:List Int) (0:Int)).bind fun z2=>(Fe ((z2.length:Int)≤100000)).bind fun _=>(Dm b z2 c (0:Int)).bind fun z=>Sum.elim (fun a=>some (a)) (fun a=>cond ((d.length:Int)==b.Ah) (some (((Da z2).length:Int)==(b.Ac.length:Int))) (some (false))) z
def Gr(b:Nat)(a:Ao)(d:List (List Int))(c:A5):Option ((List Ar)×Int):=
 (Dt b a).bind fun e=>cond (e !=0) (some ((([]:List Ar),e))) ((Eb b a d).bind fun h=>cond (!h) (some ((([]:List Ar),2))) ((Fj b a c).bind fun f=>cond (!f) (some ((([]:List Ar),2))) ((CX b (⟨a.Aj,a.Ah,a.Am,a.Av,a.Ac,c.Am,[]⟩:Ct) d c.Comes).bind fun g=>some ((g.1,0)))))
end Go.Proofs.YtkljfdkmjdjpfaaGreat
end
section
set_option linter.unusedVariables false
set_option linter.unusedSimpArgs false
namespace Go.Proofs.YtkljfdkmjdjpfaaGreat
open Go.RowKit Go.WideShapes
def DC(d:Nat)(e:Ao)(c:List Ar):Nat→Int→Int→Option (Int)
 |0,_,_=>none
 |f+1,b,a=>cond (decide (a<(c.length:Int))) ((idx c a).bind fun i=>(idx e.Ac a).bind fun g=>(Eg d g i).bind fun h=>cond (h) ((i64 (b+1)).bind fun _=>(i64 (a+1)).bind fun _=>DC d e c f (b+1) (a+1)) ((i64 (a+1)).bind fun _=>DC d e c f b (a+1))) (some (b))
def EM(a:Nat)(b:Ao)(c:List Ar):Option (Int):=
 (DC a b c a (0:Int) (0:Int)).bind fun z4=>some (z4)
def EP(d:Nat)(a:A5)(e:List Ar)(b:Ao)(c:Int)(f:A5):Option (Bool×Int×A5):=
 (EM d b e).bind fun r2=>cond (decide (c<r2)) ((Fe (((0+a.Comes.length:Nat):Int)≤140737488355328/8)).bind fun _=>(Fe (((0+a.Am.length:Nat):Int)≤140737488355328/1)).bind fun _=>some ((decide (r2<(b.Ac.length:Int)),r2,a))) (some ((decide (c<(b.Ac.length:Int)),c,f)))
def CL{j:Type}(h:j→(Ay×Ar)→Option (Bool×j))(k:List Ar)(l:Ao):Nat→Int→Int→Int→Int→Int→j→Option (Int×Int×Int×Int×j)
 |0,_,_,_,_,_,_=>none
 |m+1,a,b,c,d,e,g=>cond (decide (a<(k.length:Int))) ((idx k a).bind fun o=>(idx l.Ac a).bind fun n=>(h g (n,o)).bind fun i=>cond (i.1) ((idx ([b,c,d,e]:List Int) a).bind fun f=>(i64 (f+1)).bind fun _=>(idx ([b,c,d,e]:List Int) a).bind fun p=>(i64 (a+1)).bind fun _=>CL h k l m (a+1) (((⟨b,c,d,e⟩:BK).set a.toNat (f+1)).a0) (((⟨b,c,d,e⟩:BK).set a.toNat (f+1)).a1) (((⟨b,c,d,e⟩:BK).set a.toNat (f+1)).a2) (((⟨b,c,d,e⟩:BK).set a.toNat (f+1)).a3) i.2) ((i64 (a+1)).bind fun _=>CL h k l m (a+1) b c d e i.2)) (some ((b,c,d,e,g)))
def C1{a:Type}(e:Nat)(c:a→(Ay×Ar)→Option (Bool×a))(i:A5)(f:List Ar)(d:Int)(g:Ao)(b:BK)(h:a):Option (Bool×Int×BK×a):=
 (i64 (d+1)).bind fun _=>(CL c f g e (0:Int) b.a0 b.a1 b.a2 b.a3 h).bind fun z4=>some ((true,d+1,(⟨z4.1,z4.2.1,z4.2.2.1,z4.2.2.2.1⟩:BK),z4.2.2.2.2))
end Go.Proofs.YtkljfdkmjdjpfaaGreat
end
section
set_option linter.unusedVariables false
set_option linter.unusedSimpArgs false
namespace Go.Proofs.YtkljfdkmjdjpfaaGreat
open Go.RowKit Go.WideShapes
def DD{m:Type}(f:m→(A5×(List Ar))→Option (Bool×m))(n:Nat)(a:Ao)(o:List (List Int))(e:Option Ct)(d:m)(c:A5):Option (Bool×((Option Ct)×m×Bool)):=
 Option.elim e ((Fe (((0+c.Am.length:Nat):Int)≤140737488355328/1)).bind fun _=>(CX n (⟨a.Aj,a.Ah,a.Am,a.Av,a.Ac,c.Am,[]⟩:Ct) o c.Comes).bind fun g=>(f d (c,g.1)).bind fun h=>cond (!h.1) (some (false,(some (⟨a.Aj,a.Ah,a.Am,a.Av,a.Ac,c.Am,g.2⟩:Ct)),h.2,true)) (some (true,(some (⟨a.Aj,a.Ah,a.Am,a.Av,a.Ac,c.Am,g.2⟩:Ct)),h.2,false))) (fun b=>(EB n b.C5 c.Am).bind fun p=>cond (!p) ((Fe (((0+c.Am.length:Nat):Int)≤140737488355328/1)).bind fun _=>(CX n (⟨a.Aj,a.Ah,a.Am,a.Av,a.Ac,c.Am,[]⟩:Ct) o c.Comes).bind fun i=>(f d (c,i.1)).bind fun j=>cond (!j.1) (some (false,(some (⟨a.Aj,a.Ah,a.Am,a.Av,a.Ac,c.Am,i.2⟩:Ct)),j.2,true)) (some (true,(some (⟨a.Aj,a.Ah,a.Am,a.Av,a.Ac,c.Am,i.2⟩:Ct)),j.2,false))) ((CX n b o c.Comes).bind fun k=>(f d (c,k.1)).bind fun l=>cond (!l.1) (some (false,(some (⟨b.BG,b.BX,b.Cc,b.Cd,b.AW,b.C5,k.2⟩:Ct)),l.2,true)) (some (true,(some (⟨b.BG,b.BX,b.Cc,b.Cd,b.AW,b.C5,k.2⟩:Ct)),l.2,false))))
def Fs{a:Type}(c:Nat)(d:a→(A5×(List Ar))→Option (Bool×a))(e:Ao)(f:List (List Int))(g:a):Option (a):=
 (E3 c (fun(st:(Option Ct)×a×Bool) (x:A5)=>cond st.2.2 none (DD d c e f st.1 st.2.1 x)) e (none,g,false)).bind fun b=>cond (b.2.2) (some (b.2.1)) (some (b.2.1))
end Go.Proofs.YtkljfdkmjdjpfaaGreat
end
section
set_option linter.unusedVariables false
set_option linter.unusedSimpArgs false
namespace Go.Proofs.YtkljfdkmjdjpfaaGreat
open Go.RowKit Go.WideShapes
def Cv{a:Type}(c:Nat)(d:a→(Ay×Ar)→Option (Bool×a))(e:Ao)(f:List (List Int))(g:a):Option (BK×Int×a):=
 (Fs c (fun(st:Int×BK×a) (x:A5×(List Ar))=>(C1 c d x.1 x.2 st.1 e st.2.1 st.2.2).bind fun r=>some (r.1,(r.2.1,r.2.2.1,r.2.2.2))) e f (0,(⟨0,0,0,0⟩:BK),g)).bind fun b=>some ((b.2.1,b.1,b.2.2))
def Ft(a:Nat)(b:Ao)(d:List (List Int)):Option (Int×A5):=
 (Fs a (fun(st:Int×A5) (x:A5×(List Ar))=>(EP a x.1 x.2 b st.1 st.2).bind fun r=>some (r.1,(r.2.1,r.2.2))) b d ((-1),(⟨([]:List Int),([]:List Bool)⟩:A5))).bind fun c=>some ((c.1,c.2))
def E4(b:Nat)(c:Ao)(e:List (List Int))(f:Int):Option (Int×Int):=
 (Dt b c).bind fun r2=>cond (r2 !=0) (some ((0,r2))) ((Eb b c e).bind fun h=>cond (!h) (some ((0,2))) ((FM b c f).bind fun g=>cond (!g) (some ((0,2))) ((Cv b (fun(st:Unit) (x:Ay×Ar)=>(Dd b x.1 x.2).bind fun r=>some (r,())) c e ()).bind fun a=>(idx ([a.1.a0,a.1.a1,a.1.a2,a.1.a3]:List Int) f).bind fun d=>cond (d==a.2.1) (some ((1,0))) (cond (d==0) (some ((2,0))) (some ((3,0)))))))
def DJ(b:Nat)(c:Ao)(d:List (List Int)):Option (Int×A5×Int):=
 (Dt b c).bind fun e=>cond (e !=0) (some ((0,(⟨([]:List Int),([]:List Bool)⟩:A5),e))) ((Eb b c d).bind fun f=>cond (!f) (some ((0,(⟨([]:List Int),([]:List Bool)⟩:A5),2))) ((Ft b c d).bind fun a=>some ((a.1,a.2,0))))
def Fa(a:Nat)(b:Ao)(c:List (List Int))(d:Int):Option (Bool):=
 (DJ a b c).bind fun r2=>cond (r2.2.2==0) (some (decide (r2.1≤d))) (some (false))
def Fu(a:Nat)(b:Ao)(d:List (List Int))(e:A5)(f:Int):Option (Bool):=
 (Gr a b d e).bind fun c=>cond (c.2==0) ((EM a b c.1).bind fun g=>some (decide (f≤g))) (some (false))
end Go.Proofs.YtkljfdkmjdjpfaaGreat
end
section
set_option linter.unusedVariables false
set_option linter.unusedSimpArgs false
namespace Go.Proofs.YtkljfdkmjdjpfaaGreat
open Go.RowKit Go.WideShapes
def EN(c:List (List Int)):Nat→Int→(List (List Int))→Option ((List (List Int)))
 |0,_,_=>none
 |e+1,a,b=>cond (decide (a<(c.length:Int))) ((idx b a).bind fun d=>(Fe (((0+d.length:Nat):Int)≤140737488355328/8)).bind fun _=>(idx b a).bind fun f=>(i64 (a+1)).bind fun _=>EN c e (a+1) (b.set a.toNat d)) (some (b))
def Ff(b:Nat)(a:List (List Int)):Option ((List (List Int))):=
 (Fe (((0+a.length:Nat):Int)≤140737488355328/24)).bind fun _=>(EN a b (0:Int) a).bind fun z4=>some (z4)
end Go.Proofs.YtkljfdkmjdjpfaaGreat
end
section
set_option linter.unusedVariables false
set_option linter.unusedSimpArgs false
namespace Go.Proofs.YtkljfdkmjdjpfaaGreat
open Go.RowKit Go.WideShapes
def Ge(b:Nat)(c:List (List Int))(d:Ao)(a:Int)(e:List (List Int)):Option (Bool×Int×(List (List Int))):=
 (Ft b d c).bind fun r1=>cond (decide (r1.1<a)) ((Ff b c).bind fun f=>some ((decide ((0:Int)<r1.1),r1.1,f))) (some ((decide ((0:Int)<a),a,e)))
def Eh(c:Ao)(r1:BK×Int×Unit):Nat→Int→Int→Option (Int)
 |0,_,_=>none
 |d+1,b,a=>cond (decide (a<(c.Ac.length:Int))) ((idx ([r1.1.a0,r1.1.a1,r1.1.a2,r1.1.a3]:List Int) a).bind fun e=>cond (e==0) ((i64 (b+1)).bind fun _=>(i64 (a+1)).bind fun _=>Eh c r1 d (b+1) (a+1)) ((i64 (a+1)).bind fun _=>Eh c r1 d b (a+1))) (some (b))
def Ea(c:Ao)(r1:BK×Int×Unit):Nat→Int→Int→Option (Int)
 |0,_,_=>none
 |d+1,b,a=>cond (decide (a<(c.Ac.length:Int))) ((idx ([r1.1.a0,r1.1.a1,r1.1.a2,r1.1.a3]:List Int) a).bind fun e=>cond (e==0) ((i64 (b+1)).bind fun _=>(i64 (a+1)).bind fun _=>Ea c r1 d (b+1) (a+1)) ((i64 (a+1)).bind fun _=>Ea c r1 d b (a+1))) (some (b))
def EJ(c:Nat)(e:List (List Int))(b:Ao)(a:Int)(d:BK)(f:List (List Int)):Option (Bool×Int×BK×(List (List Int))):=
 (Cv c (fun(st:Unit) (x:Ay×Ar)=>(Eg c x.1 x.2).bind fun r=>some (r,())) b e ()).bind fun r1=>cond (decide ((0:Int)≤a)) (cond ([r1.1.a0,r1.1.a1,r1.1.a2,r1.1.a3]==[d.a0,d.a1,d.a2,d.a3]) (some ((true,a,d,f))) ((Eh b r1 c (0:Int) (0:Int)).bind fun z9=>cond (decide (a<z9)) ((Ff c e).bind fun g=>some ((decide (z9<(b.Ac.length:Int)),z9,r1.1,g))) (some ((decide (a<(b.Ac.length:Int)),a,r1.1,f))))) ((Ea b r1 c (0:Int) (0:Int)).bind fun z22=>cond (decide (a<z22)) ((Ff c e).bind fun h=>some ((decide (z22<(b.Ac.length:Int)),z22,r1.1,h))) (some ((decide (a<(b.Ac.length:Int)),a,r1.1,f))))
end Go.Proofs.YtkljfdkmjdjpfaaGreat
end
section
set_option linter.unusedVariables false
set_option linter.unusedSimpArgs false
namespace Go.Proofs.YtkljfdkmjdjpfaaGreat
open Go.RowKit Go.WideShapes
def Ce{g:Type}(h:Int→Ao→(List (List Int))→g→Option (Bool×(List (List Int))×g))(i:Int)(j:Ao)(c:Int)(f:List Int):Nat→Int→(List (List Int))→g→Option ((Bool×(List (List Int))×g)⊕((List (List Int))×g))
 |0,_,_,_=>none
 |k+1,a,b,e=>cond (decide (a<((f.length:Int)+1))) ((Fe (((0+f.length:Nat):Int)≤140737488355328/8)).bind fun _=>(Fe (0≤a∧a≤(f.length:Int)∧((f.length:Int)+1)*8≤140737488355328)).bind fun _=>(idx b c).bind fun l=>(i64 (i+1)).bind fun _=>(h (i+1) j (b.set c.toNat (CR f a i)) e).bind fun d=>cond (!d.1) (some (.inl (false,d.2.1,d.2.2))) ((i64 (a+1)).bind fun _=>Ce h i j c f k (a+1) d.2.1 d.2.2)) (some (.inr (b,e)))
def B7{e:Type}(f:Int→Ao→(List (List Int))→e→Option (Bool×(List (List Int))×e))(h:Nat)(i:Int)(j:Ao)(k:List (List Int)):Nat→Int→(List (List Int))→e→Option ((Bool×(List (List Int))×e)⊕((List (List Int))×e))
 |0,_,_,_=>none
 |l+1,a,b,d=>cond (decide (a<(k.length:Int))) ((idx b a).bind fun g=>(i64 ((g.length:Int)+1)).bind fun _=>(Ce f i j a g h (0:Int) b d).bind fun z=>Sum.elim (fun c=>some (.inl (c.1,c.2.1,c.2.2))) (fun c=>(idx c.1 a).bind fun m=>(i64 (a+1)).bind fun _=>B7 f h i j k l (a+1) (c.1.set a.toNat g) c.2) z) (some (.inr (b,d)))
def Bu{b:Type}(e:Nat)(d:b→(List (List Int))→Option (Bool×b)):Nat→Int→Ao→(List (List Int))→b→Option (Bool×(List (List Int))×b)
 |0,_,_,_,_=>none
 |i+1,f,g,c,h=>cond (f==(g.Ac.length:Int)) ((d h c).bind fun r2=>some ((r2.1,c,r2.2))) ((B7 (Bu e d i) e f g c e (0:Int) c h).bind fun z=>Sum.elim (fun a=>some ((a.1,a.2.1,a.2.2))) (fun a=>some ((true,a.1,a.2))) z)
end Go.Proofs.YtkljfdkmjdjpfaaGreat
end
section
set_option linter.unusedVariables false
set_option linter.unusedSimpArgs false
namespace Go.Proofs.YtkljfdkmjdjpfaaGreat
open Go.RowKit Go.WideShapes
def ER{a:Type}(c:Nat)(d:a→(List (List Int))→Option (Bool×a))(b:Ao)(e:a):Option (a):=
 (Kf b.Ah 24).bind fun _=>(Bu c d c 0 b (List.replicate b.Ah.toNat ([]:List Int)) e).bind fun f=>some (f.2.2)
end Go.Proofs.YtkljfdkmjdjpfaaGreat
end
section
set_option linter.unusedVariables false
set_option linter.unusedSimpArgs false
namespace Go.Proofs.YtkljfdkmjdjpfaaGreat
open Go.RowKit Go.WideShapes
def EV(c:Nat)(a:Ao):Option ((List (List Int))×Int×Int):=
 (Dt c a).bind fun d=>cond (d !=0) (some ((([]:List (List Int)),0,d))) ((i64 ((a.Ac.length:Int)+1)).bind fun _=>(ER c (fun(st:Int×(List (List Int))) (x:(List (List Int)))=>(Ge c x a st.1 st.2).bind fun r=>some (r.1,(r.2.1,r.2.2))) a ((a.Ac.length:Int)+1,([]:List (List Int)))).bind fun b=>some ((b.2,b.1,0)))
def EW(b:Nat)(c:Ao):Option ((List (List Int))×Int×Int):=
 (Dt b c).bind fun d=>cond (d !=0) (some ((([]:List (List Int)),0,d))) ((ER b (fun(st:Int×BK×(List (List Int))) (x:(List (List Int)))=>(EJ b x c st.1 st.2.1 st.2.2).bind fun r=>some (r.1,(r.2.1,r.2.2.1,r.2.2.2))) c ((-1),(⟨0,0,0,0⟩:BK),([]:List (List Int)))).bind fun a=>some ((a.2.2,a.1,0)))
end Go.Proofs.YtkljfdkmjdjpfaaGreat
end
section
set_option linter.unusedVariables false
set_option linter.unusedSimpArgs false
namespace Go.Proofs.YtkljfdkmjdjpfaaGreat
open Go.RowKit Go.WideShapes
def DR(e:Nat)(c:Ao):Nat→(List Int)→Int→Option ((List Int))
 |0,_,_=>none
 |f+1,b,a=>cond (decide (a<(c.Ac.length:Int))) ((Kf c.Ah 24).bind fun _=>(idx (List.replicate c.Ah.toNat ([]:List Int)) (0:Int)).bind fun _=>(I0 (c.Ac.length:Int) a e (0:Int) ((List.replicate c.Ah.toNat ([]:List Int)).set 0 [a])).bind fun g=>(Cv e (fun(st:Unit) (x:Ay×Ar)=>(Dd e x.1 x.2).bind fun r=>some (r,())) c g ()).bind fun d=>(idx ([d.1.a0,d.1.a1,d.1.a2,d.1.a3]:List Int) a).bind fun h=>cond (h==d.2.1) ((i64 (a+1)).bind fun _=>DR e c f b (a+1)) ((Fe (((b.length+[a].length:Nat):Int)≤140737488355328/8)).bind fun _=>(i64 (a+1)).bind fun _=>DR e c f (b++[a]) (a+1))) (some (b))
def DK(a:Nat)(b:Ao):Option ((List Int)×Int):=
 (Dt a b).bind fun r2=>cond (r2 !=0) (some ((([]:List Int),r2))) ((DR a b a ([]:List Int) (0:Int)).bind fun z5=>some ((z5,0)))
end Go.Proofs.YtkljfdkmjdjpfaaGreat
end
section
set_option linter.unusedVariables false
set_option linter.unusedSimpArgs false
namespace Go.Proofs.YtkljfdkmjdjpfaaGreat
open Go.RowKit Go.WideShapes
def Dw(c:List (List Int)):Nat→(List (List Int))→Int→Option ((List (List Int)))
 |0,_,_=>none
 |e+1,b,a=>cond (decide (a<(c.length:Int))) ((idx c a).bind fun d=>(Fe (((([]:List Int).length+d.length:Nat):Int)≤140737488355328/8)).bind fun _=>(Fe (((b.length+[([]:List Int)++d].length:Nat):Int)≤140737488355328/24)).bind fun _=>(i64 (a+1)).bind fun _=>Dw c e (b++[([]:List Int)++d]) (a+1)) (some (b))
def Dg(a:Nat)(b:List (List Int)):Option ((List (List Int))):=
 (Dw b a ([]:List (List Int)) (0:Int)).bind fun z2=>some (z2)
def Fk(a:Nat)(b:Ao):Option (Bool):=
 (FD a b).bind fun r2=>cond (r2) ((Fi a b).bind fun c=>some (c==0)) (some (false))
def FE(d:Nat)(a:List Int)(b:Int):Option (Int):=
 cond ((a.length:Int)==0) (some (0)) ((rem b (a.length:Int)).bind fun _=>(idx a (b%(a.length:Int))).bind fun c=>(K0 .i64 c).bind fun _=>some (c))
def Dx(h:Nat)(f:Ao)(i:List Int):Nat→Int→(List (List Int))→Option ((List (List Int)))
 |0,_,_=>none
 |j+1,c,d=>cond (decide (c<(f.Ac.length:Int))) ((FE h i c).bind fun a=>(rem a f.Ah).bind fun _=>(quo a (4:Int)).bind fun _=>(i64 (a/4)).bind fun _=>(idx d (a%f.Ah)).bind fun b=>(i64 ((b.length:Int)+1)).bind fun _=>(rem (a/4) ((b.length:Int)+1)).bind fun _=>(idx d (a%f.Ah)).bind fun g=>(Nq g.length (0:Int) ((a/4)%((b.length:Int)+1))).bind fun _=>(Fe (((([]:List Int).length+(CN g (0:Int) ((a/4)%((b.length:Int)+1))).length:Nat):Int)≤140737488355328/8)).bind fun _=>(Fe ((((([]:List Int)++(CN g (0:Int) ((a/4)%((b.length:Int)+1)))).length+[c].length:Nat):Int)≤140737488355328/8)).bind fun _=>(idx d (a%f.Ah)).bind fun e=>(Nq e.length ((a/4)%((b.length:Int)+1)) (e.length:Int)).bind fun _=>(Fe (((((([]:List Int)++(CN g (0:Int) ((a/4)%((b.length:Int)+1))))++[c]).length+(CN e ((a/4)%((b.length:Int)+1)) (e.length:Int)).length:Nat):Int)≤140737488355328/8)).bind fun _=>(idx d (a%f.Ah)).bind fun k=>(i64 (c+1)).bind fun _=>Dx h f i j (c+1) (d.set (a%f.Ah).toNat (((([]:List Int)++(CN g (0:Int) ((a/4)%((b.length:Int)+1))))++[c])++(CN e ((a/4)%((b.length:Int)+1)) (e.length:Int))))) (some (d))
def EC(b:Nat)(a:Ao)(c:List Int):Option ((List (List Int))):=
 (Kf a.Ah 24).bind fun _=>(Dx b a c b (0:Int) (List.replicate a.Ah.toNat ([]:List Int))).bind fun z4=>some (z4)
end Go.Proofs.YtkljfdkmjdjpfaaGreat
end
section
set_option linter.unusedVariables false
set_option linter.unusedSimpArgs false
namespace Go.Proofs.YtkljfdkmjdjpfaaGreat
open Go.RowKit Go.WideShapes
def CM(a:Nat):Option (Bool):=
 (CK a 1).bind fun r1=>(Gt a 3).bind fun v=>(Gr a r1 [[0,1]] v).bind fun h=>(CK a 1).bind fun w=>(E4 a w [[0,1]] 1).bind fun d=>(CK a 1).bind fun i=>(E4 a i [[1,0]] 0).bind fun e=>(CK a 1).bind fun j=>(DJ a j [[1,0]]).bind fun b=>(CK a 1).bind fun k=>(EV a k).bind fun c=>(CK a 1).bind fun l=>(EW a l).bind fun f=>(CK a 1).bind fun m=>(DK a m).bind fun g=>cond (h.2==0) ((EO a 0 1 true).bind fun n=>(EO a 2 3 false).bind fun o=>(Gu a h.1 n o).bind fun p=>cond (p) (cond (d.2==0) (cond (d.1==3) (cond (e.2==0) (cond (e.1==2) (cond (b.2.2==0) (cond (b.1==2) ((CK a 1).bind fun q=>(Fu a q [[1,0]] b.2.1 2).bind fun r=>cond (r) (cond (c.2.2==0) (cond (c.2.1==1) ((CK a 1).bind fun s=>(Fa a s c.1 1).bind fun t=>cond (t) (cond (f.2.2==0) (cond (f.2.1==1) (cond (g.2==0) ((FC a g.1 [1]).bind fun u=>some (u)) (some (false))) (some (false))) (some (false))) (some (false))) (some (false))) (some (false))) (some (false))) (some (false))) (some (false))) (some (false))) (some (false))) (some (false))) (some (false))) (some (false))) (some (false))
end Go.Proofs.YtkljfdkmjdjpfaaGreat
end
section
namespace Go.Proofs.YtkljfdkmjdjpfaaGreat
theorem bd{α β:Type}{x:Option α}{a:α}{f:α→Option β}(h:x=some a):x.bind f=f a:=by rw[h];rfl
theorem BU{β:Type}{x:Int}{f:Int→Option β}(h0:-9223372036854775808≤x)(a:x≤9223372036854775807):(i64 x).bind f=f x:=bd (Tp h0 a)
theorem Dy{α β:Type}{xs:List α}{k:Nat}{f:α→Option β}(h:k<xs.length):(idx xs (k:Int)).bind f=f xs[k]:=bd (idx_eq h)
theorem FT{β:Type}{p:Prop}[Decidable p]{f:Unit→Option β}(h:p):(Fe p).bind f=f ():=bd (if_pos h)
theorem Ld{β:Type}{a b:Int}{f:Int→Option β}(h0:0≤a)(c:1≤b):(rem a b).bind f=f (a%b):=bd (if_pos ⟨h0,c⟩)
theorem Vc{β:Type}{a b:Int}{f:Int→Option β}(h0:0≤a)(c:1≤b):(quo a b).bind f=f (a/b):=bd (if_pos ⟨h0,c⟩)
theorem OA{β:Type}{n:Int}{b:Nat}{f:Unit→Option β}(h0:0≤n)(a:n*b≤140737488355328)(c:n≤140737488355328):(Kf n b).bind f=f ():=bd (if_pos ⟨h0,a,c⟩)
theorem ct{α:Type}{b:Bool}{x y:α}(h:b=true):cond b x y=x:=by rw[h];rfl
theorem cf{α:Type}{b:Bool}{x y:α}(h:b=false):cond b x y=y:=by rw[h];rfl
theorem nt{α:Type}{x y:α}:cond (!true) x y=y:=rfl
theorem nf{α:Type}{x y:α}:cond (!false) x y=x:=rfl
theorem dt{p:Prop}[Decidable p](h:p):decide p=true:=decide_eq_true h
theorem df{p:Prop}[Decidable p](h:¬p):decide p=false:=decide_eq_false h
theorem DS(i:Nat):(i:Int)+1=((i+1:Nat):Int):=by omega
def FF(n a b:Int):Bool:=decide (a≤n)&&decide (n≤b)
theorem Fb{n a b:Int}:FF n a b=true↔a≤n∧n≤b:=by simp[FF]
theorem Nt(K:Nat)(n a b:Int):DY K n a b=some (FF n a b):=by unfold DY FF;cases decide (a≤n)<;>rfl
theorem Hk(K:Nat)(n a b:Int):El K n a b=some (FF n a b):=by unfold El FF;cases decide (a≤n)<;>rfl
def run {σ α:Type} (cb:σ→α→Option (Bool×σ)):List α→σ→Option (Bool×σ)
 |[],s=>some (true,s)
 |x::l,s=>(cb s x).bind fun r=>cond r.1 (run cb l r.2) (some (false,r.2))
theorem HC{σ α:Type}(cb:σ→α→Option (Bool×σ))(a:List α):∀(b:List α) (s:σ),run cb (b++a) s=(run cb b s).bind fun r=>cond r.1 (run cb a r.2) (some (false,r.2))
 |[],s=>rfl
 |x::l,s=>by
  simp only[List.cons_append,run];cases cb s x with
  |none=>rfl
  |some r=>
   simp only[Option.bind_some];cases h:r.1 with
   |false=>simp
   |true=>simpa using HC cb a l r.2
theorem run_map{σ α β:Type}(cb:σ→β→Option (Bool×σ))(f:α→β):∀(l:List α) (s:σ),run cb (l.map f) s=run (fun s x=>cb s (f x)) l s
 |[],s=>rfl
 |x::l,s=>by simp only[List.map_cons,run,run_map cb f l]
theorem Ps{σ:Type}(K:Nat)(cb:σ→Bool→Option (Bool×σ))(p:List Bool)(a:p.length≤5000):∀(n m i:Nat) (s:σ),p.length=i+n→n<m→
  (CV (fun(st:σ) (x:Bool)=>(Eu K cb x st).bind fun r=>some (r.1,r.2)) p m (i:Int) s).bind (fun z=>Sum.elim (fun q=>some (decide ((0:Int)≤q.1),q.2)) (fun q=>some (false,q)) z)=(run cb (p.drop i) s).bind fun r=>some (!r.1,r.2):=by
 intro n
 induction n with
 |zero=>
  intro m i s h hm;cases m with
  |zero=>omega
  |succ m=>
   rw[CV.eq_2,cf (df (by omega)),List.drop_eq_nil_of_le (by omega)];rfl
 |succ n ih=>
  intro m i s h hm;cases m with
  |zero=>omega
  |succ m=>
   have hi:i<p.length:=by omega
   rw[CV.eq_2,ct (dt (by omega)),Dy hi,List.drop_eq_getElem_cons hi];simp only[run];have e:(Eu K cb p[i] s).bind (fun r=>some (r.1,r.2))=(cb s p[i]).bind fun r=>some (!r.1,r.2):=by
    unfold Eu;cases cb s p[i]<;>rfl
   rw[e];cases b:cb s p[i] with
   |none=>rfl
   |some r=>
    simp only[Option.bind_some];cases c:r.1 with
    |false=>
     show some (decide ((0:Int)≤(i:Int)),r.2)=some (!false,r.2);rw[dt (by omega)];rfl
    |true=>
     rw[nt,BU (by omega) (by omega),DS];exact ih m (i+1) r.2 (by omega) (by omega)
theorem Pt{σ:Type}{K:Nat}(cb:σ→Bool→Option (Bool×σ))(p:List Bool)(s:σ)(b:p.length≤5000)(hK:p.length<K):Gk K cb p s=run cb p s:=by
 unfold Gk EI Fh;have h:=Ps K cb p b p.length K 0 s (by omega) hK;rw[List.drop_zero,Int.natCast_zero] at h;have e:∀(z:(Int×σ)⊕σ),(Sum.elim (fun a=>some ((a.1,a.2))) (fun a=>some (((-1),a))) z:Option (Int×σ)).bind (fun r1=>some ((decide ((0:Int)≤r1.1),r1.2)))=Sum.elim (fun q=>some (decide ((0:Int)≤q.1),q.2)) (fun q=>some (false,q)) z:=by
  intro z;cases z<;>rfl
 refine Eq.trans (congrArg (fun z=>Option.bind z _) ((Option.bind_assoc _ _ _).trans ((congrArg (fun f=>Option.bind _ f) (funext e)).trans h))) ?_;cases run cb p s with
 |none=>rfl
 |some r=>show some (!(!r.1),r.2)=some r;rw[Bool.not_not]
theorem PZ{σ:Type}(K:Nat)(cb:σ→Ay→Option (Bool×σ))(p:List Ay)(a:p.length≤5000):∀(n m i:Nat) (s:σ),p.length=i+n→n<m→
  (C4 (fun(st:σ) (x:Ay)=>(EL K cb x st).bind fun r=>some (r.1,r.2)) p m (i:Int) s).bind (fun z=>Sum.elim (fun q=>some (decide ((0:Int)≤q.1),q.2)) (fun q=>some (false,q)) z)=(run cb (p.drop i) s).bind fun r=>some (!r.1,r.2):=by
 intro n
 induction n with
 |zero=>
  intro m i s h hm;cases m with
  |zero=>omega
  |succ m=>
   rw[C4.eq_2,cf (df (by omega)),List.drop_eq_nil_of_le (by omega)];rfl
 |succ n ih=>
  intro m i s h hm;cases m with
  |zero=>omega
  |succ m=>
   have hi:i<p.length:=by omega
   rw[C4.eq_2,ct (dt (by omega)),Dy hi,List.drop_eq_getElem_cons hi];simp only[run];have e:(EL K cb p[i] s).bind (fun r=>some (r.1,r.2))=(cb s p[i]).bind fun r=>some (!r.1,r.2):=by
    unfold EL;cases cb s p[i]<;>rfl
   rw[e];cases b:cb s p[i] with
   |none=>rfl
   |some r=>
    simp only[Option.bind_some];cases c:r.1 with
    |false=>
     show some (decide ((0:Int)≤(i:Int)),r.2)=some (!false,r.2);rw[dt (by omega)];rfl
    |true=>
     rw[nt,BU (by omega) (by omega),DS];exact ih m (i+1) r.2 (by omega) (by omega)
theorem P0{σ:Type}{K:Nat}(cb:σ→Ay→Option (Bool×σ))(p:List Ay)(s:σ)(b:p.length≤5000)(hK:p.length<K):GC K cb p s=run cb p s:=by
 unfold GC ET Fx;have h:=PZ K cb p b p.length K 0 s (by omega) hK;rw[List.drop_zero,Int.natCast_zero] at h;have e:∀(z:(Int×σ)⊕σ),(Sum.elim (fun a=>some ((a.1,a.2))) (fun a=>some (((-1),a))) z:Option (Int×σ)).bind (fun r1=>some ((decide ((0:Int)≤r1.1),r1.2)))=Sum.elim (fun q=>some (decide ((0:Int)≤q.1),q.2)) (fun q=>some (false,q)) z:=by
  intro z;cases z<;>rfl
 refine Eq.trans (congrArg (fun z=>Option.bind z _) ((Option.bind_assoc _ _ _).trans ((congrArg (fun f=>Option.bind _ f) (funext e)).trans h))) ?_;cases run cb p s with
 |none=>rfl
 |some r=>show some (!(!r.1),r.2)=some r;rw[Bool.not_not]
def okW (W R:Int):List Bool→Int→Int→Bool
 |[],_,_=>true
 |false::l,s,_=>okW W R l s 0
 |true::l,s,r=>decide (s+1≤W)&&(decide (r+1≤R)&&okW W R l (s+1) (r+1))
theorem JD(K:Nat)(y:Ao):∀(l:List Bool) (r s:Int),0≤r→0≤s→r+l.length≤5000→s+l.length≤5000→
  (run (fun(st:Int×Int) (x:Bool)=>(DI K x st.1 st.2 y).bind fun r=>some (r.1,(r.2.1,r.2.2))) l (r,s)).bind (fun d=>some (d.1))=some (okW y.Am y.Av l s r)
 |[],r,s,_,_,_,_=>rfl
 |false::l,r,s,e,c,a,b=>by
  simp only[run,okW];unfold DI;simp only[Bool.not_false,cond_true,Option.bind_some];exact JD K y l 0 s (by omega) c (by simp at a;omega) (by simp at b;omega)
 |true::l,r,s,e,c,a,b=>by
  simp only[List.length_cons] at a b;simp only[run,okW];unfold DI;simp only[Bool.not_true,cond_false];rw[BU (by omega) (by omega),BU (by omega) (by omega)];cases f:decide (s+1≤y.Am) with
  |false=>simp
  |true=>
   simp only[cond_true,Option.bind_some];cases g:decide (r+1≤y.Av) with
   |false=>simp
   |true=>
    simp only[cond_true,Bool.true_and];exact JD K y l (r+1) (s+1) (by omega) (by omega) (by omega) (by omega)
theorem MF{K:Nat}(y:Ao)(l:List Bool)(a:l.length≤4000)(hK:l.length<K):Ez K y l=some (okW y.Am y.Av l 0 0):=by
 unfold Ez;rw[Pt _ l _ (by omega) hK];exact JD K y l 0 0 (by omega) (by omega) (by omega) (by omega)
end Go.Proofs.YtkljfdkmjdjpfaaGreat
end
section
namespace Go.Proofs.YtkljfdkmjdjpfaaGreat
theorem OB(s x:Nat):Fp (s:Int) (x:Int)=((s/2^x:Nat):Int):=by
 unfold Fp;rw[Int.toNat_natCast,Int.natCast_ediv,Int.natCast_pow];rfl
theorem R6(s x:Nat):Fp (s:Int) (x:Int)%2=((s/2^x%2:Nat):Int):=by rw[OB];simp
theorem P1(b d:Nat):(Fp (b:Int) (d:Int)%2==1)=b.testBit d:=by
 rw[R6,Nat.testBit_eq_decide_div_mod_eq];cases h:decide (b/2^d%2=1) with
 |true=>rw[of_decide_eq_true h];rfl
 |false=>
  have:=of_decide_eq_false h;simp only[beq_eq_false_iff_ne,ne_eq];omega
theorem P2(b d:Nat)(h:d<64):Nn (b:Int) (d:Int)=some ():=if_pos ⟨by omega,by omega⟩
theorem TD(b d:Nat):0≤Fp (b:Int) (d:Int):=by rw[OB];exact Int.natCast_nonneg _
def wl (n b:Nat):List Bool:=(List.range n).map b.testBit
theorem FZ(n b:Nat):(wl n b).length=n:=by simp[wl]
theorem UD(b n:Nat)(a:List Bool)(h0:a.length=n)(d:n≤63):∀(k m i:Nat) (s:List Bool),n=i+k→k<m→s.length=n→
  CP (b:Int) a m (i:Int) s=some (s.take i++(List.range' i k).map b.testBit):=by
 intro k
 induction k with
 |zero=>
  intro m i s h hm c;cases m with
  |zero=>omega
  |succ m=>
   rw[CP.eq_2,cf (df (by omega)),List.take_of_length_le (by omega)];simp
 |succ k ih=>
  intro m i s h hm c;cases m with
  |zero=>omega
  |succ m=>
   have hi:i<s.length:=by omega
   rw[CP.eq_2,ct (dt (by omega)),bd (P2 b i (by omega)),Ld (TD b i) (by omega),Dy hi,BU (by omega) (by omega),DS,P1,Int.toNat_natCast];rw[ih m (i+1) (s.set i (b.testBit i)) (by omega) (by omega) (by rw[List.length_set];exact c)]
   congr 1
   rw[List.range'_succ,List.map_cons,List.take_add_one,List.getElem?_set_self hi,List.take_set_of_le (Nat.le_refl _)];simp
theorem UE(b n:Nat)(s:List Bool)(c:n≤63){K:Nat}(hK:n<K)(a:s.length=n):CP (b:Int) s K 0 s=some (wl n b):=by
 have:=UD b n s a c n K 0 s (by omega) hK a;rw[Int.natCast_zero] at this;rw[this,wl,List.range_eq_range'];rfl
def Hl (y:Ao) (l:List Bool):Bool:=okW y.Am y.Av l 0 0
def days(y:Ao):Nat:=(y.Aj+1).toNat
def CB(y:Ao):List (List Bool):=((List.range (2^days y)).map (wl (days y))).filter (Hl y)
theorem IB:∀n:Nat,n≤10→2^n≤1024:=by decide
theorem Pu{σ:Type}{K:Nat}(cb:σ→List Bool→Option (Bool×σ))(y:Ao)(f:days y≤10)(hK:2000≤K):∀(k m i:Nat) (a:List Bool) (st:σ),2^days y=i+k→k<m→a.length=days y→
  CQ cb K y m (i:Int) a st=(run cb (((List.range' i k).map (wl (days y))).filter (Hl y)) st).bind fun r=>some (cond r.1 (.inr r.2) (.inl r.2)):=by
 intro k;have g:=IB _ f;have b:Hf (1:Int) ((List.replicate (y.Aj+1).toNat false).length:Int)=((2^days y:Nat):Int):=by
  unfold Hf;rw[Int.one_mul,Int.toNat_natCast,List.length_replicate,Int.natCast_pow];rfl
 induction k with
 |zero=>
  intro m i a st h hm c;cases m with
  |zero=>omega
  |succ m=>
   rw[CQ.eq_2,b,cf (df (by omega))];rfl
 |succ k ih=>
  intro m i a st h hm c;cases m with
  |zero=>omega
  |succ m=>
   rw[CQ.eq_2,b,ct (dt (by omega)),bd (UE i (days y) a (by omega) (by omega) c),bd (MF y (wl (days y) i) (by rw[FZ];omega) (by rw[FZ];omega))];rw[List.range'_succ,List.map_cons];show cond (Hl y (wl (days y) i)) _ _=_;cases d:Hl y (wl (days y) i) with
   |false=>
    rw[List.filter_cons_of_neg (by rw[d];decide),cf rfl,BU (by omega) (by omega),DS];exact ih m (i+1) _ st (by omega) (by omega) (FZ _ _)
   |true=>
    rw[List.filter_cons_of_pos d,ct rfl];show _=(Option.bind _ _:Option (Bool×σ)).bind _;cases j:cb st (wl (days y) i) with
    |none=>rfl
    |some r=>
     cases e:r.1 with
     |false=>
      show(cond (!r.1) (some (Sum.inl r.2)) _:Option (σ⊕σ))=(cond r.1 _ (some (false,r.2)):Option (Bool×σ)).bind _;rw[e];rfl
     |true=>
      show cond (!r.1) _ ((i64 ((i:Int)+1)).bind _)=(cond r.1 (run cb _ r.2) _:Option (Bool×σ)).bind _;rw[e,nt,BU (by omega) (by omega),DS];exact ih m (i+1) _ r.2 (by omega) (by omega) (FZ _ _)
theorem LK{σ:Type}{K:Nat}(cb:σ→List Bool→Option (Bool×σ))(y:Ao)(h0:0≤y.Aj)(h9:y.Aj≤9)(hK:2000≤K)(st:σ):
  Ds K cb y st=(run cb (CB y) st).bind fun r=>some r.2:=by
 have a:days y≤10:=by unfold days;omega
 have c:=IB _ a;unfold Ds;rw[BU (by omega) (by omega),OA (by omega) (by omega) (by omega)];have b:L8 (1:Int) ((List.replicate (y.Aj+1).toNat false).length:Int)=some ():=by
  rw[List.length_replicate];refine if_pos ⟨by omega,by omega,?_,?_⟩
  ·have:(0:Int)≤1*2^((days y:Nat):Int).toNat:=by rw[Int.one_mul];exact Int.le_of_lt (Int.pow_pos (by omega))
   exact Int.le_trans (by omega) this
  ·rw[Int.one_mul,Int.toNat_natCast];have:((2^days y:Nat):Int)≤1024:=by omega
   rw[Int.natCast_pow] at this;exact Int.le_trans this (by omega)
 rw[bd b];have:=Pu (K:=K) cb y a hK (2^days y) K 0 (List.replicate (y.Aj+1).toNat false) st (by omega) (by omega) (by rw[List.length_replicate];rfl);rw[Int.natCast_zero] at this;rw[this,CB,List.range_eq_range',Option.bind_assoc]
 congr 1;funext r
 cases r.1<;>rfl
end Go.Proofs.YtkljfdkmjdjpfaaGreat
end
section
namespace Go.Proofs.YtkljfdkmjdjpfaaGreat
def FV(y:Ao)(l:Ay):Bool:=decide (0≤l.As)&&(decide (l.As≤l.Az)&&(decide (l.Az≤y.Aj)&&(FF l.AO 1 5&&(FF l.BM 1 5&&FF l.BP 0 y.Aj))))
def Cy(l:Ay):Int:=l.Az-l.As+1
def Eo:List Ay→Int
 |[]=>1
 |l::r=>Cy l*Eo r
def HD (y:Ao):Int:=((CB y).length:Int)*Eo y.Ac
def check(y:Ao):Int:=
 if 9<y.Aj∨2<y.Ah∨4<(y.Ac.length:Int) then 3
 else if y.Aj<0∨y.Ah<1∨FF y.Am 0 (y.Aj+1)=false∨FF y.Av 0 (y.Aj+1)=false∨y.Ac.all (FV y)=false then 1
 else if 1000<HD y then 3 else 0
theorem GK{y:Ao}{l:Ay}:FV y l=true↔0≤l.As∧l.As≤l.Az∧l.Az≤y.Aj∧(1≤l.AO∧l.AO≤5)∧(1≤l.BM∧l.BM≤5)∧0≤l.BP∧l.BP≤y.Aj:=by
 unfold FV;simp only[Bool.and_eq_true,decide_eq_true_eq,Fb]
theorem UF(K:Nat)(y:Ao)(l:Ay):E1 K y l=some (FV y l):=by
 unfold E1 FV G5 GU;rw[Hk,Hk,Hk];cases decide ((0:Int)≤l.As)<;>cases decide (l.As≤l.Az)<;>cases decide (l.Az≤y.Aj)<;>cases FF l.AO 1 5<;>cases FF l.BM 1 5<;>rfl
theorem TE{K:Nat}(hK:2<K)(a b:Int):GD K [a,b]=some (min a b):=by
 obtain⟨k,rfl⟩:∃k,K=k+3:=⟨K-3,by omega⟩;unfold GD GO;rw[cf (df (by simp)),show(0:Int)=((0:Nat):Int) from rfl,Dy (by simp),show(1:Int)=((1:Nat):Int) from rfl,EA.eq_2,ct (dt (by simp)),Dy (by simp),BU (by omega) (by omega),EA.eq_2,cf (df (by simp))];rfl
theorem P3(K:Nat)(l:Ay)(h0:0≤l.As)(a:l.As≤l.Az)(b:l.Az≤9):E9 K (⟨l.As,l.Az⟩:CU)=some (Cy l):=by
 unfold E9;show(i64 (l.Az-l.As)).bind _=_;rw[BU (by omega) (by omega)];show(i64 (l.Az-l.As+1)).bind _=_;rw[BU (by omega) (by omega)];rfl
theorem TF(K:Nat)(l:Ay)(h0:0≤l.As)(a:l.As≤l.Az)(b:l.Az≤9):FB K (⟨l.As,l.Az⟩:CU)=some (Cy l):=by
 unfold FB;show(i64 (l.Az-l.As)).bind _=_;rw[BU (by omega) (by omega)];show(i64 (l.Az-l.As+1)).bind _=_;rw[BU (by omega) (by omega)];rfl
def I1(c:Int):Int→List Ay→Int
 |n,[]=>n
 |n,l::r=>I1 c (min (n*Cy l) c) r
def sized(l:Ay):Prop:=1≤Cy l∧Cy l≤10
theorem Le{y:Ao}{l:Ay}(h9:y.Aj≤9)(h:FV y l=true):sized l:=by
 obtain⟨a,b,c,_⟩:=GK.1 h;unfold sized Cy;omega
theorem Kl:∀{ls:List Ay},(∀l∈ls,sized l)→1≤Eo ls
 |[],_=>Int.le_refl _
 |l::r,h=>by
  have a:=(h l (List.mem_cons_self ..)).1;have b:=Kl (ls:=r) fun x c=>h x (List.mem_cons_of_mem _ c);have:=Int.mul_le_mul a b (by omega) (by omega);unfold Eo;omega
theorem Me{c:Int}(e:1000<c):∀{ls:List Ay} (n:Int),0≤n→(∀l∈ls,sized l)→(1000<I1 c n ls↔1000<n*Eo ls)
 |[],n,_,_=>by simp[I1,Eo]
 |l::r,n,f,h=>by
  have g:=h l (List.mem_cons_self ..);have b:∀x∈r,sized x:=fun x i=>h x (List.mem_cons_of_mem _ i);have d:=Kl b;have h0:0≤n*Cy l:=Int.mul_nonneg f (by have:=g.1;omega);unfold I1 Eo;rw[Me e _ (by omega) b,←Int.mul_assoc];rcases Int.le_total (n*Cy l) c with a|a
  ·rw[Int.min_eq_left a]
  ·rw[Int.min_eq_right a];have j:c*1≤c*Eo r:=Int.mul_le_mul_of_nonneg_left d (by omega);have k:(n*Cy l)*1≤n*Cy l*Eo r:=Int.mul_le_mul_of_nonneg_left d h0;constructor<;>intro _<;>omega
theorem OC{c:Int}(b:1000<c):∀{ls:List Ay} (n:Int),0≤n→(∀l∈ls,sized l)→n*Eo ls≤1000→I1 c n ls=n*Eo ls
 |[],n,_,_,_=>by simp[I1,Eo]
 |l::r,n,d,h,hle=>by
  have e:=h l (List.mem_cons_self ..);have a:∀x∈r,sized x:=fun x f=>h x (List.mem_cons_of_mem _ f);have g:=Kl a;have h0:0≤n*Cy l:=Int.mul_nonneg d (by have:=e.1;omega);rw[Eo,←Int.mul_assoc] at hle;rw[I1,Eo,←Int.mul_assoc];have i:(n*Cy l)*1≤n*Cy l*Eo r:=Int.mul_le_mul_of_nonneg_left g h0;rw[Int.min_eq_left (by omega),OC b _ h0 a hle]
theorem R7(y:Ao)(j:y.Ac.length≤4)(b:∀l∈y.Ac,sized l∧0≤l.As∧l.Az≤9){K:Nat}(hK:2000≤K):∀(k m i:Nat) (n:Int),y.Ac.length=i+k→k<m→0≤n→n≤3000→
  DZ K y m (i:Int) n=some (I1 1001 n (y.Ac.drop i)):=by
 intro k
 induction k with
 |zero=>
  intro m i n h hm h0 a;cases m with
  |zero=>omega
  |succ m=>rw[DZ.eq_2,cf (df (by omega)),List.drop_eq_nil_of_le (by omega)];rfl
 |succ k ih=>
  intro m i n h hm h0 a;cases m with
  |zero=>omega
  |succ m=>
   have hi:i<y.Ac.length:=by omega
   obtain⟨⟨s1,s2⟩,c,d⟩:=b y.Ac[i] (List.getElem_mem hi);have e:1≤Cy y.Ac[i]∧Cy y.Ac[i]≤10:=⟨s1,s2⟩;have f:0≤n*Cy y.Ac[i]:=Int.mul_nonneg h0 (by omega);have g:n*Cy y.Ac[i]≤3000*10:=Int.mul_le_mul a s2 (by omega) (by omega);rw[DZ.eq_2,ct (dt (by omega)),Dy hi,bd (P3 K _ c (by unfold Cy at s1;omega) d),BU (by omega) (by omega),bd (TE (by omega) _ _),BU (by omega) (by omega),DS];rw[ih m (i+1) _ (by omega) (by omega) (by omega) (by omega),List.drop_eq_getElem_cons hi];rfl
theorem TG(y:Ao)(j:y.Ac.length≤4)(b:∀l∈y.Ac,sized l∧0≤l.As∧l.Az≤9){K:Nat}:∀(k m i:Nat) (n:Int),y.Ac.length=i+k→k<m→0≤n→n≤3000→
  DF K y m n (i:Int)=some (I1 3000 n (y.Ac.drop i)):=by
 intro k
 induction k with
 |zero=>
  intro m i n h hm h0 a;cases m with
  |zero=>omega
  |succ m=>rw[DF.eq_2,cf (df (by omega)),List.drop_eq_nil_of_le (by omega)];rfl
 |succ k ih=>
  intro m i n h hm h0 a;cases m with
  |zero=>omega
  |succ m=>
   have hi:i<y.Ac.length:=by omega
   obtain⟨⟨s1,s2⟩,c,d⟩:=b y.Ac[i] (List.getElem_mem hi);have e:1≤Cy y.Ac[i]∧Cy y.Ac[i]≤10:=⟨s1,s2⟩;have f:0≤n*Cy y.Ac[i]:=Int.mul_nonneg h0 (by omega);have g:n*Cy y.Ac[i]≤3000*10:=Int.mul_le_mul a s2 (by omega) (by omega);rw[DF.eq_2,ct (dt (by omega)),Dy hi,bd (TF K _ c (by unfold Cy at s1;omega) d),BU (by omega) (by omega),BU (by omega) (by omega),DS,Int.min_comm];rw[ih m (i+1) _ (by omega) (by omega) (by omega) (by omega),List.drop_eq_getElem_cons hi];rfl
theorem MG{α:Type}:∀(l:List α) (n:Int),0≤n→n+l.length≤100000→run (fun(st:Int) (_:α)=>(i64 (st+1)).bind fun _=>some (true,st+1)) l n=some (true,n+l.length)
 |[],n,_,_=>by simp[run]
 |x::l,n,h0,a=>by
  simp only[List.length_cons] at a⊢;rw[run,BU (by omega) (by omega)];show run _ l (n+1)=_;rw[MG l (n+1) (by omega) (by omega)]
  congr 2;omega
theorem Km(y:Ao)(h:days y≤10):(CB y).length≤1024:=by
 have a:=IB _ h;have:(CB y).length≤((List.range (2^days y)).map (wl (days y))).length:=List.length_filter_le ..;simp at this;omega
theorem MH{K:Nat}(y:Ao):∀(l:List Ay),run (fun(st:Unit) (x:Ay)=>(E1 K y x).bind fun r=>some (r,())) l ()=some (l.all (FV y),())
 |[]=>rfl
 |x::l=>by
  rw[run,UF];show cond (FV y x) (run _ l ()) (some (false,()))=_;rw[MH y l,List.all_cons];cases FV y x<;>rfl
theorem Im{K:Nat}(hK:2000≤K)(y:Ao):Dt K y=some (check y):=by
 unfold Dt check
 by_cases g:9<y.Aj
 ·rw[ct (dt g),if_pos (.inl g)]
 rw[cf (df g)]
 by_cases i:2<y.Ah
 ·rw[ct (dt i),if_pos (.inr (.inl i))]
 rw[cf (df i)]
 by_cases j:4<(y.Ac.length:Int)
 ·rw[ct (dt j),if_pos (.inr (.inr j))]
 rw[cf (df j),if_neg (by omega)]
 by_cases b:y.Aj<0
 ·rw[ct (dt b),if_pos (.inl b)]
 rw[cf (df b)]
 by_cases d:y.Ah<1
 ·rw[ct (dt d),if_pos (.inr (.inl d))]
 rw[cf (df d),BU (by omega) (by omega),bd (Hk ..)];cases r:FF y.Am 0 (y.Aj+1) with
 |false=>rw[nf,if_pos (.inr (.inr (.inl rfl)))]
 |true=>
  rw[nt,BU (by omega) (by omega),bd (Hk ..)];cases s:FF y.Av 0 (y.Aj+1) with
  |false=>rw[nf,if_pos (.inr (.inr (.inr (.inl rfl))))]
  |true=>
   rw[nt,P0 _ _ _ (by omega) (by omega),bd (MH y y.Ac)];cases o:y.Ac.all (FV y) with
   |false=>rw[nf,if_pos (.inr (.inr (.inr (.inr rfl))))]
   |true=>
    rw[nt,if_neg (by simp[b,d])];have p:days y≤10:=by unfold days;omega
    have hw:=Km y p;have m:∀l∈y.Ac,sized l∧0≤l.As∧l.Az≤9:=fun l k=>by
     have n:=List.all_eq_true.1 o l k;have:=GK.1 n;exact⟨Le (by omega) n,this.1,by omega⟩
    have q:Ds K (fun(st:Int) (x:List Bool)=>E2 st x) y (0:Int)=some ((CB y).length:Int):=by
     rw[LK _ y (by omega) (by omega) hK];show(run (fun(st:Int) (_:List Bool)=>(i64 (st+1)).bind fun _=>some (true,st+1)) (CB y) 0).bind _=_;rw[MG _ 0 (by omega) (by omega)];simp
    have a:=R7 y (by omega) m hK y.Ac.length K 0 ((CB y).length:Int) (by omega) (by omega) (by omega) (by omega);rw[Int.natCast_zero,List.drop_zero] at a;rw[bd q,bd a];have f:=Me (c:=1001) (by omega) ((CB y).length:Int) (by omega) fun l k=>(m l k).1;unfold HD
    by_cases e:1000<((CB y).length:Int)*Eo y.Ac
    ·rw[ct (dt (f.2 e)),if_pos e]
    ·rw[cf (df fun h=>e (f.1 h)),if_neg e]
end Go.Proofs.YtkljfdkmjdjpfaaGreat
end
section
namespace Go.Proofs.YtkljfdkmjdjpfaaGreat
def EE:List Ay→List (List Int)
 |[]=>[[]]
 |l::r=>(List.range (Cy l).toNat).flatMap fun(n:Nat)=>(EE r).map fun c=>(l.As+(n:Int))::c
def BZ(y:Ao):List A5:=(CB y).flatMap fun w=>(EE y.Ac).map fun c=>⟨c,w⟩
section
variable{σ:Type}{K:Nat}(cb:σ→A5→Option (Bool×σ))(y:Ao)(w:List Bool)
def Tr (k i:Nat):Prop:=∀(c:List Int) (st:σ),c.length=y.Ac.length→
 (BR K cb k (i:Int) c w y st).map (fun z=>(z.1,z.2.2))=run (fun s d=>cb s ⟨c.take i++d,w⟩) (EE (y.Ac.drop i)) st∧
 ∀z,BR K cb k (i:Int) c w y st=some z→z.2.1.length=y.Ac.length∧z.2.1.take i=c.take i
def Q7{α β:Type}:(Bool×α×β)⊕(α×β)→Bool×β
 |.inl x=>(false,x.2.2)
 |.inr x=>(true,x.2)
def TH{α β:Type}:(Bool×α×β)⊕(α×β)→α
 |.inl x=>x.2.1
 |.inr x=>x.1
theorem Q8(k i:Nat)(hi:i<y.Ac.length)(aL:y.Ac.length≤4)(aD:∀l∈y.Ac,sized l∧0≤l.As∧l.Az≤9)(ih:Tr (K:=K) cb y w k (i+1)):
  ∀(n m j:Nat) (c:List Int) (st:σ),(Cy y.Ac[i]).toNat=j+n→n<m→c.length=y.Ac.length→
  (B6 (BR K cb k) (i:Int) w y (Cy y.Ac[i]) m (j:Int) c st).map Q7=run (fun s d=>cb s ⟨c.take i++d,w⟩) ((List.range' j n).flatMap fun(q:Nat)=>(EE (y.Ac.drop (i+1))).map fun d=>(y.Ac[i].As+(q:Int))::d) st∧
  ∀z,B6 (BR K cb k) (i:Int) w y (Cy y.Ac[i]) m (j:Int) c st=some z→(TH z).length=y.Ac.length∧(TH z).take i=c.take i∧(∀x,z=.inl x→x.1=false):=by
 obtain⟨⟨s1,s2⟩,aM,aN⟩:=aD y.Ac[i] (List.getElem_mem hi);have aJ:1≤Cy y.Ac[i]∧Cy y.Ac[i]≤10:=⟨s1,s2⟩;intro n
 induction n with
 |zero=>
  intro m j c st h hm o;cases m with
  |zero=>omega
  |succ m=>
   rw[B6.eq_2,cf (df (by omega))];exact⟨rfl,fun z b=>by cases b;exact⟨o,rfl,fun x p=>by cases p⟩⟩
 |succ n u=>
  intro m j c st h hm o;cases m with
  |zero=>omega
  |succ m=>
   have f:i<c.length:=by omega
   have aK:y.Ac[i].As≤9:=by unfold Cy at s1;omega
   rw[B6.eq_2,ct (dt (by omega)),Dy hi,BU (by omega) (by omega),Dy f,BU (by omega) (by omega),DS i,Int.toNat_natCast];have v:(c.set i (y.Ac[i].As+(j:Int))).length=y.Ac.length:=by rw[List.length_set];exact o
   have g:(c.set i (y.Ac[i].As+(j:Int))).take (i+1)=c.take i++[y.Ac[i].As+(j:Int)]:=by
    rw[List.take_add_one,List.getElem?_set_self f,List.take_set_of_le (Nat.le_refl _)];rfl
   obtain⟨t,aE⟩:=ih _ st v;rw[g] at t;rw[List.range'_succ,List.flatMap_cons,HC,run_map];have aF:run (fun s d=>cb s ⟨c.take i++[y.Ac[i].As+(j:Int)]++d,w⟩) (EE (y.Ac.drop (i+1))) st=run (fun s d=>cb s ⟨c.take i++(y.Ac[i].As+(j:Int))::d,w⟩) (EE (y.Ac.drop (i+1))) st:=by
    congr 1;funext s d;rw[List.append_assoc];rfl
   rw[aF] at t;rw[←t];cases aG:BR K cb k ((i+1:Nat):Int) (c.set i (y.Ac[i].As+(j:Int))) w y st with
   |none=>exact⟨rfl,fun z b=>by cases b⟩
   |some r=>
    obtain⟨aA,aH⟩:=aE r aG;have aB:r.2.1.take i=c.take i:=by
     have:=congrArg (List.take i) aH;rw[List.take_take,Nat.min_eq_left (by omega),g,List.take_append_of_le_length (by rw[List.length_take];omega),List.take_take,Nat.min_self] at this;exact this
    obtain⟨aI,rc,e⟩:=r;cases aI with
    |false=>
     refine⟨rfl,fun z b=>?_⟩;have aC:some (Sum.inl (false,rc,e))=some z:=b;cases aC;exact⟨aA,aB,fun x p=>by cases p;rfl⟩
    |true=>
     have key:(Option.bind (some (true,rc,e)) fun a=>cond (!a.1) (some (Sum.inl (false,a.2.1,a.2.2))) ((i64 ((j:Int)+1)).bind fun _=>B6 (BR K cb k) (i:Int) w y (Cy y.Ac[i]) m ((j:Int)+1) a.2.1 a.2.2))=B6 (BR K cb k) (i:Int) w y (Cy y.Ac[i]) m ((j+1:Nat):Int) rc e:=by
      rw[Option.bind_some,nt,BU (by omega) (by omega),DS j]
     have:=u m (j+1) rc e (by omega) (by omega) aA;rw[aB] at this;rw[key];exact this
theorem Pv(t:y.Ac.length≤4)(g:∀l∈y.Ac,sized l∧0≤l.As∧l.Az≤9)(hK:2000≤K):∀(n k i:Nat),y.Ac.length=i+n→n<k→Tr (K:=K) cb y w k i:=by
 intro n
 induction n with
 |zero=>
  intro k i h u c st f;cases k with
  |zero=>omega
  |succ k=>
   rw[BR.eq_2,ct (by rw[f,h];simp),List.drop_eq_nil_of_le (by omega)];have j:c.take i=c:=List.take_of_length_le (by omega);rw[j];simp only[EE,run,List.append_nil];cases cb st ⟨c,w⟩ with
   |none=>exact⟨rfl,fun z a=>by cases a⟩
   |some r=>
    obtain⟨b,s⟩:=r;refine⟨by cases b<;>rfl,fun z a=>?_⟩;have e:some (b,c,s)=some z:=a;cases e;exact⟨f,j⟩
 |succ n ih=>
  intro k i h u c st f;cases k with
  |zero=>omega
  |succ k=>
   have hi:i<y.Ac.length:=by omega
   obtain⟨⟨s1,s2⟩,v,aA⟩:=g y.Ac[i] (List.getElem_mem hi);rw[BR.eq_2,cf (by rw[f];simp;omega),Dy hi,bd (P3 K _ v (by unfold Cy at s1;omega) aA)];obtain⟨m,o⟩:=Q8 cb y w k i hi t g (ih k (i+1) (by omega) (by omega)) (Cy y.Ac[i]).toNat K 0 c st (by omega) (by omega) f;rw[Int.natCast_zero] at m o;rw[List.drop_eq_getElem_cons hi,EE,List.range_eq_range',←m];cases aB:B6 (BR K cb k) (i:Int) w y (Cy y.Ac[i]) K 0 c st with
   |none=>exact⟨rfl,fun z a=>by cases a⟩
   |some r=>
    obtain⟨p,q,aC⟩:=o r aB;cases r with
    |inl x=>
     obtain⟨b,d,s⟩:=x;obtain rfl:=aC _ rfl;refine⟨rfl,fun z a=>?_⟩;have e:some (false,d,s)=some z:=a;cases e;exact⟨p,q⟩
    |inr x=>
     obtain⟨d,s⟩:=x;refine⟨rfl,fun z a=>?_⟩;have e:some (true,d,s)=some z:=a;cases e;exact⟨p,q⟩
end
theorem MI{σ:Type}{K:Nat}(cb:σ→A5→Option (Bool×σ))(y:Ao)(e:y.Ac.length≤4)(f:∀l∈y.Ac,sized l∧0≤l.As∧l.Az≤9)(hK:2000≤K):∀(ws:List (List Bool)) (c:List Int) (st:σ),c.length=y.Ac.length→
  (run (fun(st:(List Int)×σ×Bool) (x:(List Bool))=>cond st.2.2 none (Dk cb K y st.1 st.2.1 x)) ws (c,st,false)).bind (fun a=>cond (a.2.2.2) (some (a.2.2.1)) (some (a.2.2.1)))=
  (run cb (ws.flatMap fun w=>(EE y.Ac).map fun c=>(⟨c,w⟩:A5)) st).bind fun r=>some r.2
 |[],c,st,_=>rfl
 |w::ws,c,st,i=>by
  obtain⟨g,h⟩:=Pv cb y w e f hK y.Ac.length K 0 (by omega) (by omega) c st i;rw[Int.natCast_zero,List.drop_zero,List.take_zero] at g;rw[Int.natCast_zero] at h;rw[List.flatMap_cons,HC,run_map];have j:run (fun s d=>cb s ⟨[]++d,w⟩) (EE y.Ac) st=run (fun s d=>cb s (⟨d,w⟩:A5)) (EE y.Ac) st:=rfl;rw[←j,←g,run];show(Option.bind (Dk cb K y c st w) _:Option _).bind _=_;unfold Dk;cases k:BR K cb K 0 c w y st with
  |none=>rfl
  |some r=>
   obtain⟨m,n⟩:=h r k;obtain⟨b,d,s⟩:=r;cases b with
   |false=>rfl
   |true=>
    show(run _ ws (d,s,false)).bind _=(run cb _ s).bind _;exact MI cb y e f hK ws d s m
theorem Q9{σ:Type}{K:Nat}(cb:σ→A5→Option (Bool×σ))(y:Ao)(h0:0≤y.Aj)(h9:y.Aj≤9)(a:y.Ac.length≤4)(b:∀l∈y.Ac,sized l∧0≤l.As∧l.Az≤9)(hK:2000≤K)(st:σ):
  E3 K cb y st=(run cb (BZ y) st).bind fun r=>some r.2:=by
 unfold E3;rw[OA (by omega) (by omega) (by omega),LK _ y h0 h9 hK,Option.bind_assoc];exact MI cb y a b hK (CB y) (List.replicate (y.Ac.length:Int).toNat (0:Int)) st (by rw[List.length_replicate];omega)
end Go.Proofs.YtkljfdkmjdjpfaaGreat
end
section
namespace Go.Proofs.YtkljfdkmjdjpfaaGreat
def G2:Ay:=⟨0,0,0,0,0⟩
def E5(y:Ao)(i:Int):Ay:=y.Ac.getD i.toNat G2
def Dh(c:List Int)(i:Int):Int:=c.getD i.toNat 0
def G6 (l:Ay) (d0:Int):List Bool→Int→Int→Int→Ar
 |[],_,_,_=>⟨d0,-1,false⟩
 |true::ws,d,ES,run=>cond (ES==l.AO) ⟨d0,d,ES==l.AO⟩ (cond (run+1==l.BM) ⟨d0,d,ES==l.AO⟩ (G6 l d0 ws (d+1) ES (run+1)))
 |false::ws,d,ES,run=>cond (ES+1==l.AO) ⟨d0,d,ES+1==l.AO⟩ (cond ((0:Int)==l.BM) ⟨d0,d,ES+1==l.AO⟩ (G6 l d0 ws (d+1) (ES+1) 0))
def DL(y:Ao)(w:List Bool)(l:Ay)(d:Int):Ar:=if y.Aj<d then ⟨-1,-1,false⟩ else G6 l d (w.drop d.toNat) d 0 0
def wk(y:Ao)(w:List Bool)(m:List (List Int×Ar)):Ct:=⟨y.Aj,y.Ah,y.Am,y.Av,y.Ac,w,m⟩
theorem UG(y:Ao)(w:List Bool)(mm:List (List Int×Ar))(p:HB)(l:Ay)(h9:y.Aj≤9)(hw:(w.length:Int)=y.Aj+1)(b0 f:Int)(g:Bool):∀(k m d:Nat) (ES r:Int),y.Aj+1=d+k→k<m→0≤ES→ES≤d→0≤r→r≤d→
  (DQ (wk y w mm) p l m ES r (d:Int) b0 f g).bind (fun z=>Sum.elim (fun a=>some ((⟨a.1,a.2.1,a.2.2⟩:Ar))) (fun a=>some ((⟨p.day,(-1),false⟩:Ar))) z)=some (G6 l p.day (w.drop d) (d:Int) ES r):=by
 intro k
 induction k with
 |zero=>
  intro m d ES r h hm h0 i j n;cases m with
  |zero=>omega
  |succ m=>
   rw[DQ.eq_2,cf (df (by show¬(d:Int)≤y.Aj;omega)),List.drop_eq_nil_of_le (by omega)];rfl
 |succ k ih=>
  intro m d ES r h hm h0 i j n;cases m with
  |zero=>omega
  |succ m=>
   have b:d<w.length:=by omega
   have c:d<(wk y w mm).C5.length:=b;rw[DQ.eq_2,ct (dt (by show(d:Int)≤y.Aj;omega)),Dy c,List.drop_eq_getElem_cons b];have e:(wk y w mm).C5[d]=w[d]:=rfl;rw[e];cases s:w[d] with
   |true=>
    rw[ct rfl,BU (by omega) (by omega),G6];cases o:(ES==l.AO) with
    |true=>rw[ct rfl,ct rfl];rfl
    |false=>
     rw[cf rfl,cf rfl];cases q:(r+1==l.BM) with
     |true=>rw[ct rfl,ct rfl];rfl
     |false=>
      rw[cf rfl,cf rfl,BU (by omega) (by omega),DS];exact ih m (d+1) ES (r+1) (by omega) (by omega) h0 (by omega) (by omega) (by omega)
   |false=>
    rw[cf rfl,BU (by omega) (by omega),G6];cases o:(ES+1==l.AO) with
    |true=>rw[ct rfl,ct rfl];rfl
    |false=>
     rw[cf rfl,cf rfl];cases q:((0:Int)==l.BM) with
     |true=>rw[ct rfl,ct rfl];rfl
     |false=>
      rw[cf rfl,cf rfl,BU (by omega) (by omega),DS];exact ih m (d+1) (ES+1) 0 (by omega) (by omega) (by omega) (by omega) (by omega) (by omega)
theorem UH{K:Nat}(y:Ao)(w:List Bool)(mm:List (List Int×Ar))(i d:Int)(h9:y.Aj≤9)(hw:(w.length:Int)=y.Aj+1)(a:0≤i)(hi:i<(y.Ac.length:Int))(c:0≤d)(hK:2000≤K):
  FH K (wk y w mm) ⟨i,d⟩=some (DL y w (E5 y i) d):=by
 unfold FH DL;show cond (decide (y.Aj<d)) _ ((idx y.Ac i).bind _)=_
 by_cases h:y.Aj<d
 ·rw[ct (dt h),if_pos h]
 rw[cf (df h),if_neg h];obtain⟨i,rfl⟩:=Int.eq_ofNat_of_zero_le a;obtain⟨d,rfl⟩:=Int.eq_ofNat_of_zero_le c;have b:i<y.Ac.length:=by omega
 rw[Dy b];have e:y.Ac[i]=E5 y (i:Int):=by
  show y.Ac[i]=y.Ac.getD ((i:Int)).toNat G2;rw[Int.toNat_natCast,List.getD_eq_getElem?_getD,List.getElem?_eq_getElem (by omega)];rfl
 rw[e,Int.toNat_natCast];exact UG y w mm ⟨(i:Int),(d:Int)⟩ _ h9 hw 0 0 false (y.Aj+1-d).toNat K d 0 0 (by omega) (by omega) (by omega) (by omega) (by omega) (by omega)
def GF (y:Ao) (w:List Bool) (m:List (List Int×Ar)):Prop:=∀(i d:Int) (s:Ar),BF m [i,d]=some s→s=DL y w (E5 y i) d
theorem Nu(y:Ao)(w:List Bool):GF y w []:=fun i d s h=>by cases h
theorem TI{K:Nat}(y:Ao)(w:List Bool)(mm:List (List Int×Ar))(i d:Int)(h9:y.Aj≤9)(hw:(w.length:Int)=y.Aj+1)(e:0≤i)(hi:i<(y.Ac.length:Int))(j:0≤d)(hK:2000≤K)(hm:GF y w mm):
  ∃c,Fq K (wk y w mm) ⟨i,d⟩=some (DL y w (E5 y i) d,c)∧GF y w c:=by
 unfold Fq;show∃c,cond (!(BF mm [i,d]).isSome) ((FH K (wk y w mm) ⟨i,d⟩).bind _) _=_∧_;cases f:BF mm [i,d] with
 |none=>
  rw[bd (UH y w mm i d h9 hw e hi j hK)];refine⟨_,rfl,fun i2 d2 s h=>?_⟩;have a:BF (Hy mm [i,d] (DL y w (E5 y i) d)) [i2,d2]=some s:=h;rw[Oe] at a;split at a
  ·rename_i he
   have b:=List.cons.inj he;have g:=List.cons.inj b.2;rw[b.1,g.1];exact(Option.some.inj a).symm
  ·exact hm i2 d2 s a
 |some s=>
  refine⟨mm,?_,hm⟩;show some ((BF mm [i,d]).getD ⟨0,0,false⟩,mm)=_;rw[f,hm i d s f];rfl
def Gv (y:Ao) (w:List Bool) (c:List Int):List Int→Int→List Ar→List Ar
 |[],_,out=>out
 |i::r,free,out=>
  let s:=DL y w (E5 y i) (max free (Dh c i))
  Gv y w c r (cond (s.Bn==-1) (y.Aj+1) (s.Bn+1)) (out.set i.toNat s)
def FI(y:Ao)(w:List Bool)(c:List Int):List (List Int)→List Ar→List Ar
 |[],out=>out
 |l::r,out=>FI y w c r (Gv y w c l 0 out)
def JE:Ar:=⟨0,0,false⟩
def Gl(y:Ao)(w:List Bool)(order:List (List Int))(c:List Int):List Ar:=FI y w c order (List.replicate y.Ac.length JE)
theorem HE(y:Ao)(w:List Bool)(c:List Int):∀(l:List Int) (free:Int) (out:List Ar),(Gv y w c l free out).length=out.length
 |[],_,_=>rfl
 |i::r,free,out=>by rw[Gv,HE y w c r];simp
theorem Ko(y:Ao)(w:List Bool)(c:List Int):∀(l:List (List Int)) (out:List Ar),(FI y w c l out).length=out.length
 |[],_=>rfl
 |i::r,out=>by rw[FI,Ko y w c r,HE]
theorem Lf(l:Ay)(d0:Int):∀(ws:List Bool) (d ES r:Int),0≤d→(G6 l d0 ws d ES r).Bn=-1∨(d≤(G6 l d0 ws d ES r).Bn∧(G6 l d0 ws d ES r).Bn<d+ws.length)
 |[],d,ES,r,_=>.inl rfl
 |true::ws,d,ES,r,h=>by
  rw[G6];cases (ES==l.AO) with
  |true=>right;simp;omega
  |false=>
   cases (r+1==l.BM) with
   |true=>right;simp;omega
   |false=>
    rcases Lf l d0 ws (d+1) ES (r+1) (by omega) with a|a
    ·exact .inl a
    ·right;simp only[List.length_cons,cond_false];omega
 |false::ws,d,ES,r,h=>by
  rw[G6];cases (ES+1==l.AO) with
  |true=>right;simp;omega
  |false=>
   cases ((0:Int)==l.BM) with
   |true=>right;simp;omega
   |false=>
    rcases Lf l d0 ws (d+1) (ES+1) 0 (by omega) with a|a
    ·exact .inl a
    ·right;simp only[List.length_cons,cond_false];omega
theorem P4(y:Ao)(w:List Bool)(l:Ay)(d:Int)(b:0≤d)(hw:(w.length:Int)=y.Aj+1):(DL y w l d).Bn=-1∨(d≤(DL y w l d).Bn∧(DL y w l d).Bn≤y.Aj):=by
 unfold DL
 by_cases h:y.Aj<d
 ·rw[if_pos h];exact .inl rfl
 ·rw[if_neg h];rcases Lf l d (w.drop d.toNat) d 0 0 b with a|a
  ·exact .inl a
  ·right;rw[List.length_drop] at a;omega
theorem R8{K:Nat}(y:Ao)(w:List Bool)(a:List (List Int×Ar))(c l:List Int)(h0:0≤y.Aj)(h9:y.Aj≤9)(hw:(w.length:Int)=y.Aj+1)(hK:2000≤K)(x:∀i∈l,0≤i∧i<(y.Ac.length:Int))(aE:c.length=y.Ac.length)(aC:l.length≤1000):
  ∀(k m j:Nat) (free:Int) (out:List Ar) (mm:List (List Int×Ar)),l.length=j+k→k<m→0≤free→out.length=y.Ac.length→GF y w mm→
  ∃b,DB K (wk y w a) c l m free (j:Int) out mm=some (Gv y w c (l.drop j) free out,b)∧GF y w b:=by
 intro k
 induction k with
 |zero=>
  intro m j free out mm h hm z f g;cases m with
  |zero=>omega
  |succ m=>rw[DB.eq_2,cf (df (by omega)),List.drop_eq_nil_of_le (by omega)];exact⟨mm,rfl,g⟩
 |succ k ih=>
  intro m j free out mm h hm z f g;cases m with
  |zero=>omega
  |succ m=>
   have n:j<l.length:=by omega
   obtain⟨d,p⟩:=x l[j] (List.getElem_mem n);obtain⟨i,hi⟩:=Int.eq_ofNat_of_zero_le d;have e:i<c.length:=by omega
   have q:i<out.length:=by omega
   have r:c[i]=Dh c l[j]:=by
    rw[hi];unfold Dh;rw[Int.toNat_natCast,List.getD_eq_getElem?_getD,List.getElem?_eq_getElem e];rfl
   rw[DB.eq_2,ct (dt (by omega)),Dy n,List.drop_eq_getElem_cons n,Gv];have s:idx c l[j]=some (Dh c l[j]):=by rw[←r];rw[hi];exact idx_eq e
   rw[bd s];obtain⟨b,aA,t⟩:=TI (K:=K) y w mm l[j] (max free (Dh c l[j])) h9 hw d p (by omega) hK g;have u:Fq K (⟨(wk y w a).BG,(wk y w a).BX,(wk y w a).Cc,(wk y w a).Cd,(wk y w a).AW,(wk y w a).C5,mm⟩:Ct) (⟨l[j],max free (Dh c l[j])⟩:HB)=some (DL y w (E5 y l[j]) (max free (Dh c l[j])),b):=aA;have o:idx out l[j]=some out[i]:=by rw[hi];exact idx_eq q
   have aB:=P4 y w (E5 y l[j]) (max free (Dh c l[j])) (by omega) hw;have aD:-1≤(DL y w (E5 y l[j]) (max free (Dh c l[j]))).Bn∧(DL y w (E5 y l[j]) (max free (Dh c l[j]))).Bn≤9:=by omega
   rw[bd u,bd o];show∃v,(i64 ((DL y w (E5 y l[j]) (max free (Dh c l[j]))).Bn+1)).bind _=_∧_;rw[BU (by omega) (by omega)];show∃v,cond ((DL y w (E5 y l[j]) (max free (Dh c l[j]))).Bn==-1) ((i64 (y.Aj+1)).bind _) _=_∧_;cases aF:((DL y w (E5 y l[j]) (max free (Dh c l[j]))).Bn==-1) with
   |true=>
    rw[ct rfl,ct rfl,BU (by omega) (by omega),BU (by omega) (by omega),DS];exact ih m (j+1) (y.Aj+1) _ b (by omega) (by omega) (by omega) (by rw[List.length_set];exact f) t
   |false=>
    rw[cf rfl,cf rfl,BU (by omega) (by omega),DS];exact ih m (j+1) ((DL y w (E5 y l[j]) (max free (Dh c l[j]))).Bn+1) _ b (by omega) (by omega) (by omega) (by rw[List.length_set];exact f) t
theorem R9{K:Nat}(y:Ao)(w:List Bool)(b:List (List Int×Ar))(c:List Int)(order:List (List Int))(h0:0≤y.Aj)(h9:y.Aj≤9)(hw:(w.length:Int)=y.Aj+1)(hK:2000≤K)(p:∀l∈order,l.length≤1000∧∀i∈l,0≤i∧i<(y.Ac.length:Int))(q:c.length=y.Ac.length)(s:order.length≤1000):
  ∀(k m j:Nat) (out:List Ar) (mm:List (List Int×Ar)),order.length=j+k→k<m→out.length=y.Ac.length→GF y w mm→
  ∃a,Df K (wk y w b) order c m (j:Int) out mm=some (FI y w c (order.drop j) out,a)∧GF y w a:=by
 intro k
 induction k with
 |zero=>
  intro m j out mm h hm d e;cases m with
  |zero=>omega
  |succ m=>rw[Df.eq_2,cf (df (by omega)),List.drop_eq_nil_of_le (by omega)];exact⟨mm,rfl,e⟩
 |succ k ih=>
  intro m j out mm h hm d e;cases m with
  |zero=>omega
  |succ m=>
   have f:j<order.length:=by omega
   obtain⟨g,n⟩:=p order[j] (List.getElem_mem f);obtain⟨a,o,r⟩:=R8 (K:=K) y w b c order[j] h0 h9 hw hK n q g order[j].length K 0 0 out mm (by omega) (by omega) (by omega) d e;rw[Int.natCast_zero,List.drop_zero] at o;rw[Df.eq_2,ct (dt (by omega)),Dy f,List.drop_eq_getElem_cons f,FI,bd o,BU (by omega) (by omega),DS];exact ih m (j+1) _ a (by omega) (by omega) (by rw[HE];exact d) r
theorem P5{K:Nat}(y:Ao)(w:List Bool)(mm:List (List Int×Ar))(c:List Int)(order:List (List Int))(h0:0≤y.Aj)(h9:y.Aj≤9)(k:y.Ac.length≤4)(hw:(w.length:Int)=y.Aj+1)(hK:2000≤K)(e:∀l∈order,l.length≤1000∧∀i∈l,0≤i∧i<(y.Ac.length:Int))(f:c.length=y.Ac.length)(b:order.length≤1000)(g:GF y w mm):
  ∃a,CX K (wk y w mm) order c=some (Gl y w order c,a)∧GF y w a:=by
 unfold CX;show∃a,(Kf (y.Ac.length:Int) 24).bind _=_∧_;rw[OA (by omega) (by omega) (by omega)];obtain⟨a,d,h⟩:=R9 (K:=K) y w mm c order h0 h9 hw hK e f b order.length K 0 (List.replicate y.Ac.length JE) mm (by omega) (by omega) (by rw[List.length_replicate]) g;rw[Int.natCast_zero,List.drop_zero] at d;have j:Df K (wk y w mm) order c K (0:Int) (List.replicate ((wk y w mm).AW.length:Int).toNat (⟨0,0,false⟩:Ar)) (wk y w mm).known=some (FI y w c order (List.replicate y.Ac.length JE),a):=by
  show Df K (wk y w mm) order c K (0:Int) (List.replicate (y.Ac.length:Int).toNat JE) mm=_;rw[Int.toNat_natCast];exact d
 exact⟨a,bd j,h⟩
end Go.Proofs.YtkljfdkmjdjpfaaGreat
end
section
namespace Go.Proofs.YtkljfdkmjdjpfaaGreat
def iota(n:Nat):List Int:=(List.range n).map fun(i:Nat)=>(i:Int)
theorem G0(n:Nat):(iota n).length=n:=by simp[iota]
theorem Nv(n i:Nat)(h:i<n):(iota n)[i]?=some (i:Int):=by simp[iota,h]
def Cw(y:Ao)(o:List (List Int)):Bool:=((o.length:Int)==y.Ah)&&(Da o.flatten==iota y.Ac.length)
theorem TJ(o:List (List Int))(c:o.flatten.length≤100000):∀(k m i:Nat) (acc:List Int),o.length=i+k→k<m→o.length≤100000→acc++(o.drop i).flatten=o.flatten→
  Dv o m acc (i:Int)=some o.flatten:=by
 intro k
 induction k with
 |zero=>
  intro m i acc h hm b a;cases m with
  |zero=>omega
  |succ m=>
   rw[Dv.eq_2,cf (df (by omega))];rw[List.drop_eq_nil_of_le (by omega)] at a;rw[←a];simp
 |succ k ih=>
  intro m i acc h hm b a;cases m with
  |zero=>omega
  |succ m=>
   have hi:i<o.length:=by omega
   rw[List.drop_eq_getElem_cons hi,List.flatten_cons,←List.append_assoc] at a;have hlen:acc.length+o[i].length≤100000:=by
    have:=congrArg List.length a;rw[List.length_append,List.length_append] at this;omega
   rw[Dv.eq_2,ct (dt (by omega)),Dy hi,FT (by omega),BU (by omega) (by omega),DS];exact ih m (i+1) (acc++o[i]) (by omega) (by omega) b a
theorem Ra(y:Ao)(z:List Int)(l:y.Ac.length≤4):∀(k m i:Nat),y.Ac.length=i+k→k<m→(∀j,j<i→(Da z).length=y.Ac.length∧(Da z)[j]?=some (j:Int))→
  Dm y z m (i:Int)=some (cond ((Da z==iota y.Ac.length)||decide (y.Ac.length=0)) (.inr ()) (.inl false)):=by
 intro k
 induction k with
 |zero=>
  intro m i h hm a;cases m with
  |zero=>omega
  |succ m=>
   rw[Dm.eq_2,cf (df (by omega))];have:((Da z==iota y.Ac.length)||decide (y.Ac.length=0))=true:=by
    rw[Bool.or_eq_true];rcases Nat.eq_zero_or_pos i with h0|h0
    ·right;exact dt (by omega)
    ·left;rw[beq_iff_eq];have d:=(a 0 h0).1;apply List.ext_getElem?;intro j
     by_cases f:j<y.Ac.length
     ·rw[(a j (by omega)).2,Nv _ _ f]
     ·rw[List.getElem?_eq_none (by omega),List.getElem?_eq_none (by rw[G0];omega)]
   rw[this];rfl
 |succ k ih=>
  intro m i h hm a;cases m with
  |zero=>omega
  |succ m=>
   rw[Dm.eq_2,ct (dt (by omega))];have c:decide (y.Ac.length=0)=false:=df (by omega)
   by_cases d:(Da z).length=y.Ac.length
   ·rw[cf (by rw[d];simp)];have hi:i<(Da z).length:=by omega
    rw[Dy hi]
    by_cases b:(Da z)[i]=(i:Int)
    ·rw[b,cf (by simp),BU (by omega) (by omega),DS];refine ih m (i+1) (by omega) (by omega) fun j f=>?_
     by_cases g:j=i
     ·subst g;exact⟨d,by rw[List.getElem?_eq_getElem hi,b]⟩
     ·exact a j (by omega)
    ·rw[ct (by simpa using b)];have:((Da z==iota y.Ac.length)||decide (y.Ac.length=0))=false:=by
      rw[c,Bool.or_false,beq_eq_false_iff_ne];intro e;have:(Da z)[i]?=(iota y.Ac.length)[i]?:=by rw[e]
      rw[List.getElem?_eq_getElem hi,Nv _ _ (by omega)] at this;exact b (Option.some.inj this)
     rw[this];rfl
   ·rw[ct (by simp;omega)];have:((Da z==iota y.Ac.length)||decide (y.Ac.length=0))=false:=by
     rw[c,Bool.or_false,beq_eq_false_iff_ne];intro e;have:=congrArg List.length e;rw[G0] at this;omega
    rw[this];rfl
theorem Kp{K:Nat}(y:Ao)(o:List (List Int))(f:y.Ac.length≤4)(hK:2000≤K)(k:o.length≤1000)(m:o.flatten.length≤1000):Eb K y o=some (Cw y o):=by
 unfold Eb;have c:=TJ o (by omega) o.length K 0 [] (by omega) (by omega) (by omega) (by simp);have d:=Ra y o.flatten f y.Ac.length K 0 (by omega) (by omega) fun j g=>absurd g (by omega);rw[Int.natCast_zero] at c d;rw[bd c,FT (by omega),bd d];unfold Cw
 by_cases b:y.Ac.length=0
 ·rw[show((Da o.flatten==iota y.Ac.length)||decide (y.Ac.length=0))=true by rw[Bool.or_eq_true];exact .inr (dt b)];show cond ((o.length:Int)==y.Ah) (some (((Da o.flatten).length:Int)==(y.Ac.length:Int))) (some false)=_;have h:(((Da o.flatten).length:Int)==(y.Ac.length:Int))=(Da o.flatten==iota y.Ac.length):=by
   rw[b];cases e:Da o.flatten with
   |nil=>rfl
   |cons a l=>
    have i:(((a::l).length:Int)==((0:Nat):Int))=false:=by simp;omega
    rw[i];rfl
  rw[h];cases ((o.length:Int)==y.Ah)<;>rfl
 ·rw[show decide (y.Ac.length=0)=false from df b,Bool.or_false];cases e:(Da o.flatten==iota y.Ac.length) with
  |false=>show some false=_;rw[Bool.and_false]
  |true=>
   show cond ((o.length:Int)==y.Ah) (some (((Da o.flatten).length:Int)==(y.Ac.length:Int))) (some false)=_;rw[eq_of_beq e,G0];cases ((o.length:Int)==y.Ah)<;>simp
theorem DT{y:Ao}{o:List (List Int)}:Cw y o=true↔(o.length:Int)=y.Ah∧o.flatten.Perm (iota y.Ac.length):=by
 unfold Cw;rw[Bool.and_eq_true,beq_iff_eq,beq_iff_eq];refine and_congr_right fun _=>⟨fun h=>?_,fun h=>?_⟩
 ·rw[←h];exact(List.mergeSort_perm _ _).symm
 ·have d:(Da o.flatten).Pairwise (fun a b:Int=>a≤b):=by
   have:=List.pairwise_mergeSort (le:=fun x y:Int=>decide (x≤y)) (fun a b c d e=>by simp at*;omega) (fun a b=>by simp;omega) o.flatten;exact this.imp fun h=>by simpa using h
  have e:(iota y.Ac.length).Pairwise (fun a b:Int=>a≤b):=by
   unfold iota;rw[List.pairwise_map];exact List.pairwise_lt_range.imp fun h=>by omega
  exact List.Perm.eq_of_pairwise (le:=fun a b:Int=>a≤b) (fun a b _ _ h f=>by omega) d e ((List.mergeSort_perm _ _).trans h)
theorem Nw{n:Nat}{i:Int}:i∈iota n↔0≤i∧i<n:=by
 unfold iota;rw[List.mem_map];constructor
 ·rintro⟨k,a,rfl⟩;rw[List.mem_range] at a;omega
 ·rintro⟨h0,b⟩;exact⟨i.toNat,by rw[List.mem_range];omega,by omega⟩
theorem Mf{y:Ao}{o:List (List Int)}(h:Cw y o=true):∀l∈o,l.length≤y.Ac.length∧∀i∈l,0≤i∧i<(y.Ac.length:Int):=by
 intro l a;have b:=(DT.1 h).2;constructor
 ·have c:=b.length_eq;rw[G0] at c;have:=(List.sublist_flatten_of_mem a).length_le;omega
 ·intro i hi;exact Nw.1 (b.mem_iff.1 (List.mem_flatten.2 ⟨l,a,hi⟩))
def Ec:List Ay→List Int→Bool
 |[],[]=>true
 |l::ls,c::cs=>FF c l.As l.Az&&Ec ls cs
 |_,_=>false
def E6(y:Ao)(t:A5):Bool:=decide ((t.Am.length:Int)=y.Aj+1)&&(Hl y t.Am&&Ec y.Ac t.Comes)
theorem HG:∀{ls:List Ay} {cs:List Int},Ec ls cs=true→cs.length=ls.length
 |[],[],_=>rfl
 |_::ls,_::cs,h=>by
  rw[Ec,Bool.and_eq_true] at h;rw[List.length_cons,List.length_cons,HG h.2]
 |[],_::_,h=>by cases h
 |_::_,[],h=>by cases h
theorem P6(K:Nat)(y:Ao)(t:A5)(b:y.Ac.length≤4)(c:t.Comes.length=y.Ac.length):∀(k m i:Nat),y.Ac.length=i+k→k<m→
  Dl K y t m (i:Int)=some (cond (Ec (y.Ac.drop i) (t.Comes.drop i)) (.inr ()) (.inl false)):=by
 intro k
 induction k with
 |zero=>
  intro m i h hm;cases m with
  |zero=>omega
  |succ m=>rw[Dl.eq_2,cf (df (by omega)),List.drop_eq_nil_of_le (by omega),List.drop_eq_nil_of_le (by omega)];rfl
 |succ k ih=>
  intro m i h hm;cases m with
  |zero=>omega
  |succ m=>
   have hi:i<y.Ac.length:=by omega
   have a:i<t.Comes.length:=by omega
   rw[Dl.eq_2,ct (dt (by omega)),Dy hi,Dy a,bd (Hk ..),List.drop_eq_getElem_cons hi,List.drop_eq_getElem_cons a,Ec];cases d:FF t.Comes[i] y.Ac[i].As y.Ac[i].Az with
   |false=>rw[nf];rfl
   |true=>rw[nt,BU (by omega) (by omega),DS,Bool.true_and];exact ih m (i+1) (by omega) (by omega)
theorem P7{K:Nat}(y:Ao)(t:A5)(h0:0≤y.Aj)(h9:y.Aj≤9)(b:y.Ac.length≤4)(hK:2000≤K):Fj K y t=some (E6 y t):=by
 unfold Fj E6
 by_cases a:t.Comes.length=y.Ac.length
 ·rw[cf (by rw[a];simp),BU (by omega) (by omega)]
  by_cases hw:(t.Am.length:Int)=y.Aj+1
  ·rw[cf (by rw[hw];simp),bd (MF y t.Am (by omega) (by omega)),dt hw,Bool.true_and];show cond (!(Hl y t.Am)) _ _=_;cases Hl y t.Am with
   |false=>rw[nf];rfl
   |true=>
    have:=P6 K y t b a y.Ac.length K 0 (by omega) (by omega);rw[Int.natCast_zero,List.drop_zero,List.drop_zero] at this;rw[nt,bd this,Bool.true_and];cases Ec y.Ac t.Comes<;>rfl
  ·rw[ct (by simpa using hw),df hw];rfl
 ·rw[ct (by simp;omega)];cases c:Ec y.Ac t.Comes with
  |false=>rw[Bool.and_false,Bool.and_false]
  |true=>exact absurd (HG c) a
theorem HH{c:List Int}:∀{ls:List Ay},c∈EE ls↔Ec ls c=true
 |[]=>by
  cases c with
  |nil=>simp[EE,Ec]
  |cons a l=>simp[EE,Ec]
 |l::r=>by
  rw[EE,List.mem_flatMap];constructor
  ·rintro⟨n,b,e⟩;obtain⟨d,f,rfl⟩:=List.mem_map.1 e;rw[Ec,Bool.and_eq_true];rw[List.mem_range] at b;unfold Cy at b;exact⟨Fb.2 (by omega),HH.1 f⟩
  ·intro h;cases c with
   |nil=>simp[Ec] at h
   |cons a d=>
    rw[Ec,Bool.and_eq_true] at h;have g:=Fb.1 h.1;refine⟨(a-l.As).toNat,?_,List.mem_map.2 ⟨d,HH.2 h.2,?_⟩⟩
    ·rw[List.mem_range];unfold Cy;omega
    ·congr 1;omega
def bitsOf:List Bool→Nat
 |[]=>0
 |b::l=>(cond b 1 0)+2*bitsOf l
theorem K3:∀(l:List Bool) (d:Nat),(bitsOf l).testBit d=l.getD d false
 |[],d=>by simp[bitsOf]
 |b::l,0=>by rw[bitsOf,Nat.testBit_zero];cases b<;>simp<;>omega
 |b::l,d+1=>by
  rw[Nat.testBit_succ,bitsOf];have:((cond b 1 0)+2*bitsOf l)/2=bitsOf l:=by cases b<;>simp<;>omega
  rw[this,K3 l d];rfl
theorem MJ:∀(l:List Bool),bitsOf l<2^l.length
 |[]=>by simp[bitsOf]
 |b::l=>by
  have:=MJ l;rw[bitsOf,List.length_cons,Nat.pow_succ];cases b<;>simp<;>omega
theorem P8(l:List Bool):wl l.length (bitsOf l)=l:=by
 apply List.ext_getElem?;intro i;unfold wl;rw[List.getElem?_map]
 by_cases h:i<l.length
 ·rw[List.getElem?_range h,List.getElem?_eq_getElem h];show some ((bitsOf l).testBit i)=_;rw[K3,List.getD_eq_getElem?_getD,List.getElem?_eq_getElem h];rfl
 ·rw[List.getElem?_eq_none (by simp;omega),List.getElem?_eq_none (by omega)];rfl
theorem H6{y:Ao}{w:List Bool}:w∈CB y↔w.length=days y∧Hl y w=true:=by
 unfold CB;rw[List.mem_filter,List.mem_map];constructor
 ·rintro⟨⟨b,_,rfl⟩,h⟩;exact⟨FZ _ _,h⟩
 ·rintro⟨a,c⟩;exact⟨⟨bitsOf w,by rw[List.mem_range,←a];exact MJ w,by rw[←a];exact P8 w⟩,c⟩
theorem F1{y:Ao}(h0:0≤y.Aj){t:A5}:t∈BZ y↔E6 y t=true:=by
 unfold BZ E6;rw[List.mem_flatMap,Bool.and_eq_true,Bool.and_eq_true,decide_eq_true_eq];constructor
 ·rintro⟨w,hw,d⟩;obtain⟨c,e,rfl⟩:=List.mem_map.1 d;obtain⟨b,a⟩:=H6.1 hw;unfold days at b;exact⟨by show(w.length:Int)=_;omega,a,HH.1 e⟩
 ·rintro⟨b,a,f⟩;exact⟨t.Am,H6.2 ⟨by unfold days;omega,a⟩,List.mem_map.2 ⟨t.Comes,HH.2 f,rfl⟩⟩
theorem UI(a b:List Bool)(j:a.length≤1000)(g:a.length=b.length):∀(k m i:Nat),a.length=i+k→k<m→Du a b m (i:Int)=some (cond (a.drop i==b.drop i) (.inr ()) (.inl false)):=by
 intro k
 induction k with
 |zero=>
  intro m i h hm;cases m with
  |zero=>omega
  |succ m=>rw[Du.eq_2,cf (df (by omega)),List.drop_eq_nil_of_le (by omega),List.drop_eq_nil_of_le (by omega)];rfl
 |succ k ih=>
  intro m i h hm;cases m with
  |zero=>omega
  |succ m=>
   have c:i<a.length:=by omega
   have d:i<b.length:=by omega
   rw[Du.eq_2,ct (dt (by omega)),Dy c,Dy d,List.drop_eq_getElem_cons c,List.drop_eq_getElem_cons d];cases f:(a[i] !=b[i]) with
   |true=>
    rw[ct rfl];have:(a[i]::a.drop (i+1)==b[i]::b.drop (i+1))=false:=by
     rw[List.cons_beq_cons];have:(a[i]==b[i])=false:=by simpa[bne] using f
     rw[this,Bool.false_and]
    rw[this];rfl
   |false=>
    have e:a[i]=b[i]:=by simpa[bne] using f
    rw[cf rfl,BU (by omega) (by omega),DS,ih m (i+1) (by omega) (by omega),List.cons_beq_cons,e,beq_self_eq_true,Bool.true_and]
theorem UJ{K:Nat}(a b:List Bool)(c:a.length≤1000)(hK:2000≤K):EB K a b=some (a==b):=by
 unfold EB
 by_cases h:a.length=b.length
 ·have:=UI a b c h a.length K 0 (by omega) (by omega);rw[Int.natCast_zero,List.drop_zero,List.drop_zero] at this;rw[cf (by rw[h];simp),bd this];cases (a==b)<;>rfl
 ·rw[ct (by simp;omega)];have:(a==b)=false:=by
   rw[beq_eq_false_iff_ne];intro e;exact h (by rw[e])
  rw[this]
structure D1(y:Ao):Prop where
 h0:0≤y.Aj
 h9:y.Aj≤9
 r1:1≤y.Ah
 r2:y.Ah≤2
 n4:y.Ac.length≤4
 w0:0≤y.Am
 w1:y.Am≤y.Aj+1
 u0:0≤y.Av
 u1:y.Av≤y.Aj+1
 Lg:∀l∈y.Ac,FV y l=true
 many:HD y≤1000
theorem E7{y:Ao}(h:check y=0):D1 y:=by
 unfold check at h;split at h
 ·cases h
 ·rename_i d
  split at h
  ·cases h
  ·rename_i b
   split at h
   ·cases h
   ·rename_i f
    rw[not_or,not_or] at d;rw[not_or,not_or,not_or,not_or] at b;have hw:FF y.Am 0 (y.Aj+1)=true:=by cases a:FF y.Am 0 (y.Aj+1) with|true=>rfl|false=>exact absurd a b.2.2.1
    have c:FF y.Av 0 (y.Aj+1)=true:=by cases a:FF y.Av 0 (y.Aj+1) with|true=>rfl|false=>exact absurd a b.2.2.2.1
    have e:y.Ac.all (FV y)=true:=by cases a:y.Ac.all (FV y) with|true=>rfl|false=>exact absurd a b.2.2.2.2
    rw[Fb] at hw c;exact⟨by omega,by omega,by omega,by omega,by omega,hw.1,hw.2,c.1,c.2,List.all_eq_true.1 e,by omega⟩
theorem D1.sz{y:Ao}(h:D1 y):∀l∈y.Ac,sized l∧0≤l.As∧l.Az≤9:=fun l b=>by
 have a:=h.Lg l b;have:=GK.1 a;have:=h.h9;exact⟨Le h.h9 a,by omega,by omega⟩
def UK(y:Ao):Option Ct→Prop
 |none=>True
 |some x=>∃w m,x=wk y w m∧(w.length:Int)=y.Aj+1∧GF y w m
theorem P9{σ:Type}{K:Nat}(cb:σ→A5×List Ar→Option (Bool×σ))(y:Ao)(f:D1 y)(o:List (List Int))(v:Cw y o=true)(hK:2000≤K):∀(d:List A5) (h:Option Ct) (s:σ),(∀t∈d,E6 y t=true)→UK y h→
  (run (fun(st:(Option Ct)×σ×Bool) (x:A5)=>cond st.2.2 none (DD cb K y o st.1 st.2.1 x)) d (h,s,false)).bind (fun g=>cond g.2.2.2 (some g.2.2.1) (some g.2.2.1))=(run (fun s t=>cb s (t,Gl y t.Am o t.Comes)) d s).bind fun r=>some r.2
 |[],h,s,_,_=>rfl
 |t::d,h,s,aA,aH=>by
  have j:=aA t (List.mem_cons_self ..);have aB:∀x∈d,E6 y x=true:=fun x aI=>aA x (List.mem_cons_of_mem _ aI);unfold E6 at j;rw[Bool.and_eq_true,Bool.and_eq_true,decide_eq_true_eq] at j;obtain⟨hw,_,aJ⟩:=j;have aC:=HG aJ;have q:=Mf v;have aD:o.length≤1000:=by have:=(DT.1 v).1;have:=f.r2;omega
  have z:∀l∈o,l.length≤1000∧∀i∈l,0≤i∧i<(y.Ac.length:Int):=fun l aE=>⟨by have:=(q l aE).1;have:=f.n4;omega,(q l aE).2⟩;rw[run,run];show(Option.bind (DD cb K y o h s t) _:Option _).bind _=_
  
  have key:∀(m:List (List Int×Ar)),GF y t.Am m→∃c,GF y t.Am c∧CX K (wk y t.Am m) o t.Comes=some (Gl y t.Am o t.Comes,c):=fun m hm=>by
   obtain⟨c,aK,aL⟩:=P5 (K:=K) y t.Am m t.Comes o f.h0 f.h9 f.n4 hw hK z aC aD hm;exact⟨c,aL,aK⟩
  have fin:∀(c:List (List Int×Ar)),GF y t.Am c→
    (Option.bind ((cb s (t,Gl y t.Am o t.Comes)).bind fun a=>cond (!a.1) (some (false,(some (wk y t.Am c)),a.2,true)) (some (true,(some (wk y t.Am c)),a.2,false))) fun r=>cond r.1 (run (fun(st:(Option Ct)×σ×Bool) (x:A5)=>cond st.2.2 none (DD cb K y o st.1 st.2.1 x)) d r.2) (some (false,r.2))).bind (fun g=>cond g.2.2.2 (some g.2.2.1) (some g.2.2.1))=
    (Option.bind (cb s (t,Gl y t.Am o t.Comes)) fun r=>cond r.1 (run (fun s t=>cb s (t,Gl y t.Am o t.Comes)) d r.2) (some (false,r.2))).bind fun r=>some r.2:=fun c k=>by
   cases cb s (t,Gl y t.Am o t.Comes) with
   |none=>rfl
   |some r=>
    obtain⟨b,s2⟩:=r;cases b with
    |false=>rfl
    |true=>exact P9 cb y f o v hK d (some (wk y t.Am c)) s2 aB ⟨t.Am,c,rfl,hw,k⟩
  unfold DD;obtain⟨n,u,aM⟩:=key [] (Nu _ _);have aP:=f.h9;have e:(Fe (((0+t.Am.length:Nat):Int)≤140737488355328/1)).bind (fun _=>(CX K (⟨y.Aj,y.Ah,y.Am,y.Av,y.Ac,t.Am,[]⟩:Ct) o t.Comes).bind fun p=>(cb s (t,p.1)).bind fun a=>cond (!a.1) (some (false,(some (⟨y.Aj,y.Ah,y.Am,y.Av,y.Ac,t.Am,p.2⟩:Ct)),a.2,true)) (some (true,(some (⟨y.Aj,y.Ah,y.Am,y.Av,y.Ac,t.Am,p.2⟩:Ct)),a.2,false)))=
    (cb s (t,Gl y t.Am o t.Comes)).bind fun a=>cond (!a.1) (some (false,(some (wk y t.Am n)),a.2,true)) (some (true,(some (wk y t.Am n)),a.2,false)):=by
   have aF:CX K (⟨y.Aj,y.Ah,y.Am,y.Av,y.Ac,t.Am,[]⟩:Ct) o t.Comes=some (Gl y t.Am o t.Comes,n):=aM;rw[FT (by omega),bd aF];rfl
  cases h with
  |none=>
   show(Option.bind ((Fe _).bind _) _:Option _).bind _=_;rw[e];exact fin n u
  |some x=>
   obtain⟨w,m,rfl,aQ,aG⟩:=aH;show(Option.bind ((EB K w t.Am).bind _) _:Option _).bind _=_;rw[bd (UJ w t.Am (by omega) hK)];cases aN:(w==t.Am) with
   |false=>
    rw[nf,e];exact fin n u
   |true=>
    obtain rfl:=eq_of_beq aN;obtain⟨c,k,aO⟩:=key m aG;rw[nt,bd aO];exact fin c k
theorem Qa{σ:Type}{K:Nat}(cb:σ→A5×List Ar→Option (Bool×σ))(y:Ao)(a:D1 y)(o:List (List Int))(b:Cw y o=true)(hK:2000≤K)(s:σ):
  Fs K cb y o s=(run (fun s t=>cb s (t,Gl y t.Am o t.Comes)) (BZ y) s).bind fun r=>some r.2:=by
 unfold Fs;rw[Q9 _ y a.h0 a.h9 a.n4 a.sz hK,Option.bind_assoc];exact P9 cb y a o b hK (BZ y) none s (fun t c=>(F1 a.h0).1 c) trivial
end Go.Proofs.YtkljfdkmjdjpfaaGreat
end
section
namespace Go.Proofs.YtkljfdkmjdjpfaaGreat
def E8(l:Ay)(s:Ar):Bool:=s.AO&&decide (s.Bn≤l.BP)
theorem Mg(K:Nat)(l:Ay)(s:Ar):Dd K l s=some (E8 l s):=by unfold Dd E8;cases s.AO<;>rfl
theorem OD(K:Nat)(l:Ay)(s:Ar):Eg K l s=some (!E8 l s):=by unfold Eg;rw[bd (Mg ..)]
def Hb (p:Ay→Ar→Bool):List Ay→List Ar→Nat
 |l::ls,s::ss=>(cond (p l s) 1 0)+Hb p ls ss
 |_,_=>0
def Cz(l:Ay)(s:Ar):Bool:= !E8 l s
def D5(y:Ao)(ss:List Ar):Nat:=Hb Cz y.Ac ss
theorem Mh(p:Ay→Ar→Bool):∀(ls:List Ay) (ss:List Ar),Hb p ls ss≤ls.length
 |l::ls,s::ss=>by
  have:=Mh p ls ss;rw[Hb,List.length_cons];cases p l s<;>simp<;>omega
 |[],_=>by simp[Hb]
 |_::_,[]=>by simp[Hb]
theorem TK{K:Nat}(y:Ao)(ss:List Ar)(d:y.Ac.length≤4)(e:ss.length=y.Ac.length):∀(k m i:Nat) (a:Int),ss.length=i+k→k<m→0≤a→a≤i→
  DC K y ss m a (i:Int)=some (a+(Hb Cz (y.Ac.drop i) (ss.drop i):Nat)):=by
 intro k
 induction k with
 |zero=>
  intro m i a h hm h0 c;cases m with
  |zero=>omega
  |succ m=>
   rw[DC.eq_2,cf (df (by omega)),List.drop_eq_nil_of_le («as»:=y.Ac) (by omega),Hb]
   ·simp
   ·intro _ _ _ _ h;cases h
 |succ k ih=>
  intro m i a h hm h0 c;cases m with
  |zero=>omega
  |succ m=>
   have hi:i<ss.length:=by omega
   have b:i<y.Ac.length:=by omega
   rw[DC.eq_2,ct (dt (by omega)),Dy hi,Dy b,bd (OD ..),List.drop_eq_getElem_cons hi,List.drop_eq_getElem_cons b,Hb];show cond (Cz y.Ac[i] ss[i]) _ _=_;cases f:Cz y.Ac[i] ss[i] with
   |true=>
    rw[ct rfl,BU (by omega) (by omega),BU (by omega) (by omega),DS,ih m (i+1) (a+1) (by omega) (by omega) (by omega) (by omega)]
    congr 1
    show a+1+_=a+((1+Hb Cz _ _:Nat):Int);omega
   |false=>
    rw[cf rfl,BU (by omega) (by omega),DS,ih m (i+1) a (by omega) (by omega) (by omega) (by omega)]
    congr 1
    show a+_=a+((0+Hb Cz _ _:Nat):Int);omega
theorem Qb{K:Nat}(y:Ao)(ss:List Ar)(a:y.Ac.length≤4)(b:ss.length=y.Ac.length)(hK:2000≤K):EM K y ss=some (D5 y ss:Int):=by
 unfold EM;have:=TK (K:=K) y ss a b ss.length K 0 0 (by omega) (by omega) (by omega) (by omega);rw[Int.natCast_zero,List.drop_zero,List.drop_zero] at this;rw[bd this];simp[D5]
theorem GG(y:Ao)(w:List Bool)(o:List (List Int))(c:List Int):(Gl y w o c).length=y.Ac.length:=by unfold Gl;rw[Ko,List.length_replicate]
def B2 (y:Ao) (o:List (List Int)) (t:A5):List Ar:=Gl y t.Am o t.Comes
theorem Qc{K:Nat}(y:Ao)(o:List (List Int))(t:A5)(hK:2000≤K)(d:o.length≤1000)(g:o.flatten.length≤1000):
  Gr K y o t=some (if check y≠0 then ([],check y) else if Cw y o=false∨E6 y t=false then ([],2) else (B2 y o t,0)):=by
 unfold Gr;rw[bd (Im hK y)]
 by_cases h:check y=0
 ·rw[h,cf (by decide),if_neg (by simp)];have a:=E7 h;rw[bd (Kp y o a.n4 hK d g)];cases i:Cw y o with
  |false=>rw[nf,if_pos (.inl rfl)]
  |true=>
   rw[nt,bd (P7 y t a.h0 a.h9 a.n4 hK)];cases j:E6 y t with
   |false=>rw[nf,if_pos (.inr rfl)]
   |true=>
    rw[nt,if_neg (by simp)];have b:=j;unfold E6 at b;rw[Bool.and_eq_true,Bool.and_eq_true,decide_eq_true_eq] at b;have c:=Mf i;obtain⟨k,e,_⟩:=P5 (K:=K) y t.Am [] t.Comes o a.h0 a.h9 a.n4 b.1 hK (fun l f=>⟨by have:=(c l f).1;have:=a.n4;omega,(c l f).2⟩) (HG b.2.2) d (Nu _ _);have m:CX K (⟨y.Aj,y.Ah,y.Am,y.Av,y.Ac,t.Am,[]⟩:Ct) o t.Comes=some (Gl y t.Am o t.Comes,k):=e;rw[bd m];rfl
 ·rw[ct (by simpa using h),if_pos h]
def Ig (y:Ao) (o:List (List Int)):List A5→Int×A5→Int×A5
 |[],s=>s
 |t::a,s=>
  let s2:=if s.1<(D5 y (B2 y o t):Int) then ((D5 y (B2 y o t):Int),t) else s
  cond (decide (s2.1<(y.Ac.length:Int))) (Ig y o a s2) s2
def CA(y:Ao)(o:List (List Int)):Int×A5:=Ig y o (BZ y) (-1,⟨[],[]⟩)
theorem Nx{K:Nat}(y:Ao)(b:D1 y)(o:List (List Int))(hK:2000≤K):∀(a:List A5) (s:Int×A5),(∀t∈a,E6 y t=true)→
  (run (fun(st:Int×A5) t=>(EP K t (B2 y o t) y st.1 st.2).bind fun r=>some (r.1,(r.2.1,r.2.2))) a s).bind (fun r=>some r.2)=some (Ig y o a s)
 |[],s,_=>rfl
 |t::a,s,d=>by
  have c:=d t (List.mem_cons_self ..);unfold E6 at c;rw[Bool.and_eq_true,Bool.and_eq_true,decide_eq_true_eq] at c;have f:=HG c.2.2;have g:=b.n4;have h9:=b.h9;rw[run,Ig];unfold EP;rw[bd (Qb y (B2 y o t) b.n4 (GG ..) hK)]
  by_cases h:s.1<(D5 y (B2 y o t):Int)
  ·rw[ct (dt h),FT (by omega),FT (by omega),if_pos h];show(cond (decide ((D5 y (B2 y o t):Int)<(y.Ac.length:Int))) _ _:Option (Bool×Int×A5)).bind _=some (cond (decide ((D5 y (B2 y o t):Int)<(y.Ac.length:Int))) _ _);cases decide ((D5 y (B2 y o t):Int)<(y.Ac.length:Int)) with
   |false=>rfl
   |true=>exact Nx y b o hK a _ fun x e=>d x (List.mem_cons_of_mem _ e)
  ·rw[cf (df h),if_neg h];show(cond (decide (s.1<(y.Ac.length:Int))) _ _:Option (Bool×Int×A5)).bind _=some (cond (decide (s.1<(y.Ac.length:Int))) _ _);cases decide (s.1<(y.Ac.length:Int)) with
   |false=>rfl
   |true=>exact Nx y b o hK a s fun x e=>d x (List.mem_cons_of_mem _ e)
theorem Qd{K:Nat}(y:Ao)(a:D1 y)(o:List (List Int))(b:Cw y o=true)(hK:2000≤K):Ft K y o=some (CA y o):=by
 unfold Ft;rw[Qa _ y a o b hK];have:=Nx y a o hK (BZ y) (-1,⟨[],[]⟩) fun t c=>(F1 a.h0).1 c;exact Eq.trans (bd this) rfl
theorem Qe{K:Nat}(y:Ao)(o:List (List Int))(hK:2000≤K)(b:o.length≤1000)(c:o.flatten.length≤1000):
  DJ K y o=some (if check y≠0 then (0,⟨[],[]⟩,check y) else if Cw y o=false then (0,⟨[],[]⟩,2) else ((CA y o).1,(CA y o).2,0)):=by
 unfold DJ;rw[bd (Im hK y)]
 by_cases h:check y=0
 ·rw[h,cf (by decide),if_neg (by simp)];have a:=E7 h;rw[bd (Kp y o a.n4 hK b c)];cases d:Cw y o with
  |false=>rw[nf,if_pos rfl]
  |true=>rw[nt,if_neg (by simp),bd (Qd y a o d hK)]
 ·rw[ct (by simpa using h),if_pos h]
theorem Ny{K:Nat}(y:Ao)(o:List (List Int))(n:Int)(hK:2000≤K)(a:o.length≤1000)(b:o.flatten.length≤1000):
  Fa K y o n=some (decide (check y=0)&&(Cw y o&&decide ((CA y o).1≤n))):=by
 unfold Fa;rw[bd (Qe y o hK a b)]
 by_cases h:check y=0
 ·rw[if_neg (by simp[h]),dt h];cases c:Cw y o with
  |false=>rw[if_pos rfl];rfl
  |true=>rw[if_neg (by simp)];rfl
 ·rw[if_pos h,df h,cf (by simpa using h)];rfl
theorem Og{K:Nat}(y:Ao)(o:List (List Int))(t:A5)(n:Int)(hK:2000≤K)(a:o.length≤1000)(b:o.flatten.length≤1000):
  Fu K y o t n=some (decide (check y=0)&&(Cw y o&&(E6 y t&&decide (n≤(D5 y (B2 y o t):Int))))):=by
 unfold Fu;rw[bd (Qc y o t hK a b)]
 by_cases h:check y=0
 ·rw[if_neg (by simp[h]),dt h];cases c:Cw y o with
  |false=>rw[if_pos (.inl rfl)];rfl
  |true=>
   cases d:E6 y t with
   |false=>rw[if_pos (.inr rfl)];rfl
   |true=>
    rw[if_neg (by simp)];show(EM K y (B2 y o t)).bind _=_;rw[bd (Qb y (B2 y o t) (E7 h).n4 (GG ..) hK)];rfl
 ·rw[if_pos h,df h,cf (by simpa using h)];rfl
def Hc(p:Ay→Ar→Bool):List Ay→List Ar→List Int→List Int
 |l::ls,s::ss,a::as=>(cond (p l s) (a+1) a)::Hc p ls ss as
 |_,_,as=>as
theorem RP(x:BK)(k:Nat)(v:Int)(h:k<4):(x.set k v).l=x.l.set k v:=by
 match k,h with
 |0,_=>rfl
 |1,_=>rfl
 |2,_=>rfl
 |3,_=>rfl
theorem Lh(p:Ay→Ar→Bool)(ss:List Ar)(as:List Int):Hc p [] ss as=as:=by cases as<;>rfl
theorem Sa{K:Nat}(p:Ay→Ar→Bool)(y:Ao)(ss:List Ar)(q:y.Ac.length≤4)(r:ss.length=y.Ac.length):∀(k m i:Nat) (a:BK),ss.length=i+k→k<m→(∀x∈a.l.drop i,0≤x∧x≤100000)→
  ∃b:BK,CL (fun(st:Unit) (x:Ay×Ar)=>some (p x.1 x.2,())) ss y m (i:Int) a.a0 a.a1 a.a2 a.a3 ()=some (b.a0,b.a1,b.a2,b.a3,())∧b.l=a.l.take i++Hc p (y.Ac.drop i) (ss.drop i) (a.l.drop i):=by
 intro k
 induction k with
 |zero=>
  intro m i a h hm e;cases m with
  |zero=>omega
  |succ m=>
   rw[CL.eq_2,cf (df (by omega)),List.drop_eq_nil_of_le («as»:=y.Ac) (by omega),Lh];exact⟨a,rfl,(List.take_append_drop ..).symm⟩
 |succ k ih=>
  intro m i a h hm e;cases m with
  |zero=>omega
  |succ m=>
   have hi:i<ss.length:=by omega
   have f:i<y.Ac.length:=by omega
   have c:i<a.l.length:=by show i<4;omega
   rw[CL.eq_2,ct (dt (by omega)),Dy hi,Dy f,Option.bind_some,List.drop_eq_getElem_cons hi,List.drop_eq_getElem_cons f,List.drop_eq_getElem_cons c,Hc];cases s:p y.Ac[i] ss[i] with
   |true=>
    have t:=e a.l[i] (by rw[List.drop_eq_getElem_cons c];exact List.mem_cons_self ..);have g:idx [a.a0,a.a1,a.a2,a.a3] (i:Int)=some a.l[i]:=idx_eq c;rw[ct rfl,bd g,BU (by omega) (by omega),bd g,BU (by omega) (by omega),DS,Int.toNat_natCast];obtain⟨b,j,n⟩:=ih m (i+1) (a.set i (a.l[i]+1)) (by omega) (by omega) (fun x d=>by
     rw[RP _ _ _ (by omega),List.drop_set_of_lt (by omega)] at d;exact e x (by rw[List.drop_eq_getElem_cons c];exact List.mem_cons_of_mem _ d))
    refine⟨b,j,?_⟩;rw[n,RP _ _ _ (by omega),List.take_add_one,List.getElem?_set_self c,List.take_set_of_le (Nat.le_refl _),List.drop_set_of_lt (by omega)];simp
   |false=>
    rw[cf rfl,BU (by omega) (by omega),DS];obtain⟨b,j,n⟩:=ih m (i+1) a (by omega) (by omega) fun x d=>e x (by rw[List.drop_eq_getElem_cons c];exact List.mem_cons_of_mem _ d);refine⟨b,j,?_⟩;have o:a.l.take (i+1)=a.l.take i++[a.l[i]]:=by rw[List.take_add_one,List.getElem?_eq_getElem c];rfl
    rw[n,o,List.append_assoc];rfl
theorem Rb{K:Nat}(p:Ay→Ar→Bool)(y:Ao)(t:A5)(ss:List Ar)(e:y.Ac.length≤4)(f:ss.length=y.Ac.length)(hK:2000≤K)(n:Int)(a:BK)(h:0≤n∧n≤100000)(g:∀x∈a.l,0≤x∧x≤100000):
  ∃b:BK,C1 K (fun(st:Unit) (x:Ay×Ar)=>some (p x.1 x.2,())) t ss n y a ()=some (true,n+1,b,())∧b.l=Hc p y.Ac ss a.l:=by
 unfold C1;obtain⟨b,c,d⟩:=Sa (K:=K) p y ss e f ss.length K 0 a (by omega) (by omega) (by rw[List.drop_zero];exact g);rw[Int.natCast_zero] at c;rw[List.take_zero,List.drop_zero,List.drop_zero,List.drop_zero,List.nil_append] at d;rw[BU (by omega) (by omega),bd c];exact⟨b,rfl,d⟩
theorem OE(p:Ay→Ar→Bool)(B:Int):∀(ls:List Ay) (ss:List Ar) (as:List Int),(∀x∈as,0≤x∧x≤B)→∀x∈Hc p ls ss as,0≤x∧x≤B+1
 |l::ls,s::ss,a::as,h,x,b=>by
  rw[Hc] at b;rcases List.mem_cons.1 b with rfl|b
  ·have:=h a (List.mem_cons_self ..);cases p l s<;>simp<;>omega
  ·exact OE p B ls ss as (fun z c=>h z (List.mem_cons_of_mem _ c)) x b
 |[],_,as,h,x,b=>by
  rw[Lh] at b;have:=h x b;omega
 |l::ls,[],as,h,x,b=>by
  have e:Hc p (l::ls) [] as=as:=by cases as<;>rfl
  rw[e] at b;have:=h x b;omega
 |l::ls,s::ss,[],h,x,b=>by
  have e:Hc p (l::ls) (s::ss) []=[]:=rfl;rw[e] at b;cases b
def Mi (p:Ay→Ar→Bool) (y:Ao) (o:List (List Int)):List A5→List Int→List Int
 |[],a=>a
 |t::b,a=>Mi p y o b (Hc p y.Ac (B2 y o t) a)
theorem Nz{K:Nat}(p:Ay→Ar→Bool)(y:Ao)(d:D1 y)(o:List (List Int))(hK:2000≤K):∀(c:List A5) (n:Int) (a:BK) (B:Int),0≤n→n+c.length≤100000→B+c.length≤100000→(∀x∈a.l,0≤x∧x≤B)→
  ∃b:BK,run (fun(st:Int×BK×Unit) t=>(C1 K (fun(st:Unit) (x:Ay×Ar)=>some (p x.1 x.2,())) t (B2 y o t) st.1 y st.2.1 st.2.2).bind fun r=>some (r.1,(r.2.1,r.2.2.1,r.2.2.2))) c (n,a,())=some (true,n+c.length,b,())∧b.l=Mi p y o c a.l
 |[],n,a,B,_,_,_,_=>⟨a,by simp[run],rfl⟩
 |t::c,n,a,B,h0,g,h,e=>by
  rw[List.length_cons] at g h;obtain⟨b,i,f⟩:=Rb (K:=K) p y t (B2 y o t) d.n4 (GG ..) hK n a (by omega) (fun x j=>by have:=e x j;omega);obtain⟨k,m,q⟩:=Nz p y d o hK c (n+1) b (B+1) (by omega) (by omega) (by omega) (by rw[f];exact OE p B _ _ _ e);refine⟨k,?_,by rw[q,f];rfl⟩;rw[run];show Option.bind ((C1 K _ t (B2 y o t) n y a ()).bind _) _=_;rw[bd i];show run _ c (n+1,b,())=_;rw[m,List.length_cons]
  congr 3;omega
theorem Mj(y:Ao)(b:D1 y):((BZ y).length:Int)=HD y:=by
 have d:∀ls:List Ay,(∀l∈ls,sized l)→((EE ls).length:Int)=Eo ls:=by
  intro ls
  induction ls with
  |nil=>intro _;rfl
  |cons l r ih=>
   intro h;have a:=(h l (List.mem_cons_self ..)).1;rw[EE,Eo,List.length_flatMap,←ih fun x e=>h x (List.mem_cons_of_mem _ e)];have:((List.range (Cy l).toNat).map fun(n:Nat)=>((EE r).map fun c=>(l.As+(n:Int))::c).length)=List.replicate (Cy l).toNat (EE r).length:=by
    apply List.ext_getElem
    ·simp
    ·intro i a f;simp
   rw[this,List.sum_replicate_nat,Int.natCast_mul]
   congr 1;omega
 unfold BZ HD;rw[List.length_flatMap,←d y.Ac fun l g=>(b.sz l g).1];have:((CB y).map fun w=>((EE y.Ac).map fun c=>(⟨c,w⟩:A5)).length)=List.replicate (CB y).length (EE y.Ac).length:=by
  apply List.ext_getElem
  ·simp
  ·intro i a f;simp
 rw[this,List.sum_replicate_nat,Int.natCast_mul]
def Cg (p:Ay→Ar→Bool) (y:Ao) (o:List (List Int)):List Int:=Mi p y o (BZ y) [0,0,0,0]
theorem Mk{K:Nat}(p:Ay→Ar→Bool)(y:Ao)(a:D1 y)(o:List (List Int))(c:Cw y o=true)(hK:2000≤K):
  ∃b:BK,Cv K (fun(st:Unit) (x:Ay×Ar)=>some (p x.1 x.2,())) y o ()=some (b,((BZ y).length:Int),())∧b.l=Cg p y o:=by
 unfold Cv;rw[Qa _ y a o c hK];have g:=Mj y a;have:=a.many;obtain⟨b,d,e⟩:=Nz (K:=K) p y a o hK (BZ y) 0 ⟨0,0,0,0⟩ 0 (by omega) (by omega) (by omega) (by intro x f;simp[BK.l] at f;omega);refine⟨b,?_,e⟩;refine Eq.trans (congrArg (fun z=>Option.bind (Option.bind z _) _) d) ?_;rw[Int.zero_add];rfl
end Go.Proofs.YtkljfdkmjdjpfaaGreat
end
section
namespace Go.Proofs.YtkljfdkmjdjpfaaGreat
def CY(y:Ao)(i:Nat):Ay:=y.Ac.getD i G2
def Ih(y:Ao)(o:List (List Int))(t:A5)(i:Nat):Ar:=(B2 y o t).getD i JE
def GV (y:Ao) (o:List (List Int)) (i:Nat) (t:A5):Bool:=E8 (CY y i) (Ih y o t i)
theorem NA(p:Ay→Ar→Bool):∀(ls:List Ay) (ss:List Ar) (as:List Int) (i:Nat),i<ls.length→i<ss.length→i<as.length→
  (Hc p ls ss as).getD i 0=as.getD i 0+(cond (p (ls.getD i G2) (ss.getD i JE)) 1 0)
 |l::ls,s::ss,a::as,0,_,_,_=>by
  rw[Hc];show cond (p l s) (a+1) a=a+cond (p l s) 1 0;cases p l s<;>simp
 |l::ls,s::ss,a::as,i+1,b,c,d=>by
  rw[Hc];exact NA p ls ss as i (by simpa using b) (by simpa using c) (by simpa using d)
theorem K4(p:Ay→Ar→Bool):∀(ls:List Ay) (ss:List Ar) (as:List Int),(Hc p ls ss as).length=as.length
 |l::ls,s::ss,a::as=>by rw[Hc,List.length_cons,K4 p ls ss as,List.length_cons]
 |[],ss,as=>by rw[Lh]
 |l::ls,[],as=>by
  have e:Hc p (l::ls) [] as=as:=by cases as<;>rfl
  rw[e]
 |l::ls,s::ss,[]=>rfl
theorem NB(p:Ay→Ar→Bool)(y:Ao)(o:List (List Int))(i:Nat)(hi:i<y.Ac.length):∀(a:List A5) (as:List Int),i<as.length→
  (Mi p y o a as).getD i 0=as.getD i 0+(a.countP (fun t=>p (CY y i) (Ih y o t i)):Nat)
 |[],as,_=>by simp[Mi]
 |t::a,as,h=>by
  rw[Mi,NB p y o i hi a _ (by rw[K4];exact h),NA p _ _ _ i hi (by rw[B2,GG];exact hi) h,List.countP_cons];unfold CY Ih;cases p (y.Ac.getD i G2) ((B2 y o t).getD i JE)<;>simp<;>omega
theorem JF(p:Ay→Ar→Bool)(y:Ao)(a:D1 y)(o:List (List Int))(i:Nat)(hi:i<y.Ac.length):(Cg p y o).getD i 0=((BZ y).countP (fun t=>p (CY y i) (Ih y o t i)):Nat):=by
 unfold Cg;have b:=a.n4;rw[NB p y o i hi _ _ (by show i<4;omega)];have:([0,0,0,0]:List Int).getD i 0=0:=by
  match i,(show i<4 by omega) with
  |0,_=>rfl
  |1,_=>rfl
  |2,_=>rfl
  |3,_=>rfl
 rw[this,Int.zero_add]
theorem MZ(b:BK)(i:Nat)(h:i<4):idx [b.a0,b.a1,b.a2,b.a3] (i:Int)=some (b.l.getD i 0):=by
 have:i<[b.a0,b.a1,b.a2,b.a3].length:=h;rw[idx_eq this];show some b.l[i]=_;rw[List.getD_eq_getElem?_getD,List.getElem?_eq_getElem (show i<b.l.length from h)];rfl
def verdict (y:Ao) (o:List (List Int)) (i:Nat):Int:=cond ((BZ y).all (GV y o i)) 1 (cond ((BZ y).all fun t=> !GV y o i t) 2 3)
theorem MK{α:Type}(p:α→Bool)(l:List α):((((l.countP p:Nat):Int)==(l.length:Int)))=l.all p:=by
 rw[Bool.eq_iff_iff,beq_iff_eq,List.all_eq_true,Int.ofNat_inj,List.countP_eq_length]
theorem LL{α:Type}(p:α→Bool)(l:List α):((((l.countP p:Nat):Int)==0))=l.all fun t=> !p t:=by
 rw[Bool.eq_iff_iff,beq_iff_eq,List.all_eq_true,show(0:Int)=((0:Nat):Int) from rfl,Int.ofNat_inj,List.countP_eq_zero];simp
theorem Sb{K:Nat}(y:Ao)(o:List (List Int))(n:Int)(hK:2000≤K)(e:o.length≤1000)(f:o.flatten.length≤1000):
  E4 K y o n=some (if check y≠0 then (0,check y) else if Cw y o=false∨FF n 0 ((y.Ac.length:Int)-1)=false then (0,2) else (verdict y o n.toNat,0)):=by
 unfold E4;rw[bd (Im hK y)]
 by_cases h:check y=0
 ·rw[h,cf (by decide),if_neg (by simp)];have a:=E7 h;have m:=a.n4;rw[bd (Kp y o a.n4 hK e f)];cases g:Cw y o with
  |false=>rw[nf,if_pos (.inl rfl)]
  |true=>
   have j:FM K y n=some (FF n 0 ((y.Ac.length:Int)-1)):=by
    unfold FM;rw[BU (by omega) (by omega),bd (Hk ..)]
   rw[nt,bd j];cases c:FF n 0 ((y.Ac.length:Int)-1) with
   |false=>rw[nf,if_pos (.inr rfl)]
   |true=>
    rw[nt,if_neg (by simp)];rw[Fb] at c;obtain⟨i,rfl⟩:=Int.eq_ofNat_of_zero_le c.1;have hi:i<y.Ac.length:=by omega
    obtain⟨b,k,l⟩:=Mk (K:=K) E8 y a o g hK;have d:Cv K (fun(st:Unit) (x:Ay×Ar)=>(Dd K x.1 x.2).bind fun r=>some (r,())) y o ()=some (b,((BZ y).length:Int),()):=by
     rw[←k];congr 1;funext st x;rw[bd (Mg ..)]
    rw[bd d,bd (MZ b i (by omega)),l,JF E8 y a o i hi,Int.toNat_natCast];unfold verdict;show cond ((((BZ y).countP (GV y o i):Nat):Int)==((BZ y).length:Int)) _ (cond ((((BZ y).countP (GV y o i):Nat):Int)==0) _ _)=_;rw[MK,LL];cases (BZ y).all (GV y o i)<;>cases (BZ y).all (fun t=> !GV y o i t)<;>rfl
 ·rw[ct (by simpa using h),if_pos h]
theorem JG(y:Ao)(o:List (List Int)):∀(a:List A5) (s:Int×A5),s.1<(y.Ac.length:Int)∨a=[]→
  (∀t∈a,(D5 y (B2 y o t):Int)≤(Ig y o a s).1)∧s.1≤(Ig y o a s).1∧((Ig y o a s)=s∨∃t∈a,(Ig y o a s)=((D5 y (B2 y o t):Int),t))
 |[],s,_=>⟨fun t j=>(by cases j),Int.le_refl _,.inl rfl⟩
 |t::a,s,h=>by
  have g:s.1<(y.Ac.length:Int):=by
   rcases h with h|h
   ·exact h
   ·cases h
  have hle:∀x,(D5 y (B2 y o x):Int)≤(y.Ac.length:Int):=fun x=>by
   have:=Mh Cz y.Ac (B2 y o x);unfold D5;omega
  rw[Ig]
  by_cases i:s.1<(D5 y (B2 y o t):Int)
  ·rw[if_pos i];show(∀x∈t::a,_≤(cond (decide ((D5 y (B2 y o t):Int)<(y.Ac.length:Int))) _ _:Int×A5).1)∧_
   by_cases e:(D5 y (B2 y o t):Int)<(y.Ac.length:Int)
   ·rw[ct (dt e)];obtain⟨f,d,b⟩:=JG y o a ((D5 y (B2 y o t):Int),t) (.inl e);refine⟨fun x c=>?_,by have k:(D5 y (B2 y o t):Int)≤_:=d;omega,.inr ?_⟩
    ·rcases List.mem_cons.1 c with rfl|c
     ·exact d
     ·exact f x c
    ·rcases b with b|⟨x,c,b⟩
     ·exact⟨t,List.mem_cons_self ..,b⟩
     ·exact⟨x,List.mem_cons_of_mem _ c,b⟩
   ·rw[cf (df e)];exact⟨fun x _=>Int.le_trans (hle x) (by show(y.Ac.length:Int)≤(D5 y (B2 y o t):Int);omega),by show s.1≤(D5 y (B2 y o t):Int);omega,.inr ⟨t,List.mem_cons_self ..,rfl⟩⟩
  ·rw[if_neg i];show(∀x∈t::a,_≤(cond (decide (s.1<(y.Ac.length:Int))) _ _:Int×A5).1)∧_;rw[ct (dt g)];obtain⟨f,d,b⟩:=JG y o a s (.inl g);refine⟨fun x c=>?_,d,?_⟩
   ·rcases List.mem_cons.1 c with rfl|c
    ·omega
    ·exact f x c
   ·rcases b with b|⟨x,c,b⟩
    ·exact .inl b
    ·exact .inr ⟨x,List.mem_cons_of_mem _ c,b⟩
theorem Pw{y:Ao}(f:D1 y):BZ y≠[]:=by
 have g:wl (days y) 0∈CB y:=by
  refine H6.2 ⟨FZ _ _,?_⟩;have key:∀(l:List Bool) (s r:Int),(∀b∈l,b=false)→okW y.Am y.Av l s r=true:=by
   intro l
   induction l with
   |nil=>intros;rfl
   |cons b l ih=>
    intro s r h;have a:=h b (List.mem_cons_self ..);subst a;rw[okW];exact ih s 0 fun x c=>h x (List.mem_cons_of_mem _ c)
  refine key _ 0 0 fun b a=>?_;unfold wl at a;obtain⟨d,_,rfl⟩:=List.mem_map.1 a;exact Nat.zero_testBit d
 have i:Ec y.Ac (y.Ac.map (·.As))=true:=by
  have key:∀ls:List Ay,(∀l∈ls,sized l)→Ec ls (ls.map (·.As))=true:=by
   intro ls
   induction ls with
   |nil=>intro _;rfl
   |cons l r ih=>
    intro h;have:=(h l (List.mem_cons_self ..)).1;rw[List.map_cons,Ec,Bool.and_eq_true];exact⟨Fb.2 (by unfold Cy at this;omega),ih fun x c=>h x (List.mem_cons_of_mem _ c)⟩
  exact key _ fun l j=>(f.sz l j).1
 intro e;have:(⟨y.Ac.map (·.As),wl (days y) 0⟩:A5)∈BZ y:=by
  unfold BZ;exact List.mem_flatMap.2 ⟨_,g,List.mem_map.2 ⟨_,HH.2 i,rfl⟩⟩
 rw[e] at this;cases this
theorem Ii {y:Ao} (c:D1 y) (o:List (List Int)):(∀t,E6 y t=true→(D5 y (B2 y o t):Int)≤(CA y o).1)∧E6 y (CA y o).2=true∧(CA y o).1=(D5 y (B2 y o (CA y o).2):Int):=by
 obtain⟨d,e,a⟩:=JG y o (BZ y) (-1,⟨[],[]⟩) (.inl (by show(-1:Int)<_;omega));refine⟨fun t b=>d t ((F1 c.h0).2 b),?_⟩;rcases a with a|⟨t,b,a⟩
 ·exfalso;obtain⟨t,b⟩:=List.exists_mem_of_ne_nil _ (Pw c);have:=d t b;rw[a] at this;have f:(D5 y (B2 y o t):Int)≤-1:=this;omega
 ·unfold CA;rw[a];exact⟨(F1 c.h0).1 b,rfl⟩
end Go.Proofs.YtkljfdkmjdjpfaaGreat
end
section
namespace Go.Proofs.YtkljfdkmjdjpfaaGreat
def Ep:Nat→Nat→List (List Int)→List (List (List Int))
 |0,_,o=>[o]
 |k+1,i,o=>(List.range o.length).flatMap fun r=>(List.range ((o.getD r []).length+1)).flatMap fun(a:Nat)=>Ep k (i+1) (o.set r (CR (o.getD r []) (a:Int) (i:Int)))
def Gf(y:Ao):List (List (List Int)):=Ep y.Ac.length 0 (List.replicate y.Ah.toNat [])
section
variable{σ:Type}{K:Nat}(cb:σ→List (List Int)→Option (Bool×σ))(y:Ao)
def Or(n k i:Nat):Prop:=∀(o:List (List Int)) (st:σ),(∀l∈o,l.length≤i)→o.length≤1000→
 (Bu K cb k (i:Int) y o st).map (fun z=>(z.1,z.2.2))=run cb (Ep n i o) st∧
 ∀z,Bu K cb k (i:Int) y o st=some z→z.1=true→z.2.1=o
theorem NC{l:List (List Int)}{r:Nat}(h:r<l.length):l.set r (l.getD r [])=l:=by
 rw[List.getD_eq_getElem?_getD,List.getElem?_eq_getElem h];exact List.set_getElem_self h
theorem Qf(n k i r:Nat)(hi:i≤10)(o:List (List Int))(s:r<o.length)(v:o.length≤1000)(hlen:∀l∈o,l.length≤i)(ih:Or (K:=K) cb y n k (i+1)):
  ∀(c m a:Nat) (q:List (List Int)) (st:σ),(o.getD r []).length+1=a+c→c<m→q.length=o.length→q.set r (o.getD r [])=o→
  (Ce (Bu K cb k) (i:Int) y (r:Int) (o.getD r []) m (a:Int) q st).map Q7=run cb ((List.range' a c).flatMap fun(a:Nat)=>Ep n (i+1) (o.set r (CR (o.getD r []) (a:Int) (i:Int)))) st∧
  ∀z,Ce (Bu K cb k) (i:Int) y (r:Int) (o.getD r []) m (a:Int) q st=some z→(∀x,z=.inl x→x.1=false)∧(∀x,z=.inr x→x.1.length=o.length∧x.1.set r (o.getD r [])=o):=by
 have aH:(o.getD r []).length≤i:=by
  rw[List.getD_eq_getElem?_getD,List.getElem?_eq_getElem s];exact hlen _ (List.getElem_mem s)
 intro c
 induction c with
 |zero=>
  intro m a q st h hm w f;cases m with
  |zero=>omega
  |succ m=>
   rw[Ce.eq_2,cf (df (by omega))];exact⟨rfl,fun z g=>by cases g;exact⟨fun x e=>(by cases e),fun x e=>by cases e;exact⟨w,f⟩⟩⟩
 |succ c aA=>
  intro m a q st h hm w f;cases m with
  |zero=>omega
  |succ m=>
   have aB:r<q.length:=by omega
   have t:q.set r (CR (o.getD r []) (a:Int) (i:Int))=o.set r (CR (o.getD r []) (a:Int) (i:Int)):=by
    have h:(q.set r (o.getD r [])).set r (CR (o.getD r []) (a:Int) (i:Int))=o.set r (CR (o.getD r []) (a:Int) (i:Int)):=by rw[f]
    rw[List.set_set] at h;exact h
   rw[Ce.eq_2,ct (dt (by omega)),FT (by omega),FT (by omega),Dy aB,BU (by omega) (by omega),DS i,Int.toNat_natCast,t];obtain⟨aD,aE⟩:=ih (o.set r (CR (o.getD r []) (a:Int) (i:Int))) st (fun l aF=>by
    rcases List.mem_or_eq_of_mem_set aF with u|u
    ·have:=hlen l u;omega
    ·rw[u,K2];omega) (by rw[List.length_set];exact v)
   rw[List.range'_succ,List.flatMap_cons,HC,←aD];cases aG:Bu K cb k ((i+1:Nat):Int) y (o.set r (CR (o.getD r []) (a:Int) (i:Int))) st with
   |none=>exact⟨rfl,fun z g=>by cases g⟩
   |some z0=>
    obtain⟨b,j,s2⟩:=z0;cases b with
    |false=>
     refine⟨rfl,fun z g=>?_⟩;have aC:some (Sum.inl (false,j,s2))=some z:=g;cases aC;exact⟨fun x e=>by cases e;rfl,fun x e=>by cases e⟩
    |true=>
     have p:j=o.set r (CR (o.getD r []) (a:Int) (i:Int)):=aE _ aG rfl;have key:(Option.bind (some (true,j,s2)) fun d=>cond (!d.1) (some (Sum.inl (false,d.2.1,d.2.2))) ((i64 ((a:Int)+1)).bind fun _=>Ce (Bu K cb k) (i:Int) y (r:Int) (o.getD r []) m ((a:Int)+1) d.2.1 d.2.2))=Ce (Bu K cb k) (i:Int) y (r:Int) (o.getD r []) m ((a+1:Nat):Int) j s2:=by
      rw[Option.bind_some,nt,BU (by omega) (by omega),DS a]
     rw[key];exact aA m (a+1) j s2 (by omega) (by omega) (by rw[p,List.length_set]) (by rw[p,List.set_set];exact NC s)
theorem Qg(n k i:Nat)(hi:i≤10)(hK:2000≤K)(o:List (List Int))(p:o.length≤1000)(hlen:∀l∈o,l.length≤i)(ih:Or (K:=K) cb y n k (i+1)):
  ∀(c m r:Nat) (st:σ),o.length=r+c→c<m→
  (B7 (Bu K cb k) K (i:Int) y o m (r:Int) o st).map Q7=run cb ((List.range' r c).flatMap fun r=>(List.range ((o.getD r []).length+1)).flatMap fun(a:Nat)=>Ep n (i+1) (o.set r (CR (o.getD r []) (a:Int) (i:Int)))) st∧
  ∀z,B7 (Bu K cb k) K (i:Int) y o m (r:Int) o st=some z→(∀x,z=.inl x→x.1=false)∧(∀x,z=.inr x→x.1=o):=by
 intro c
 induction c with
 |zero=>
  intro m r st h hm;cases m with
  |zero=>omega
  |succ m=>
   rw[B7.eq_2,cf (df (by omega))];exact⟨rfl,fun z j=>by cases j;exact⟨fun x f=>(by cases f),fun x f=>by cases f;rfl⟩⟩
 |succ c q=>
  intro m r st h hm;cases m with
  |zero=>omega
  |succ m=>
   have g:r<o.length:=by omega
   have aF:(o.getD r []).length≤i:=by
    rw[List.getD_eq_getElem?_getD,List.getElem?_eq_getElem g];exact hlen _ (List.getElem_mem g)
   have s:o[r]=o.getD r []:=by rw[List.getD_eq_getElem?_getD,List.getElem?_eq_getElem g];rfl
   rw[B7.eq_2,ct (dt (by omega)),Dy g,s,BU (by omega) (by omega)];obtain⟨t,u⟩:=Qf cb y n k i r hi o g p hlen ih ((o.getD r []).length+1) K 0 o st (by omega) (by omega) rfl (NC g);rw[Int.natCast_zero] at t u;rw[List.range'_succ,List.flatMap_cons,HC,List.range_eq_range',←t];cases aA:Ce (Bu K cb k) (i:Int) y (r:Int) (o.getD r []) K 0 o st with
   |none=>exact⟨rfl,fun z j=>by cases j⟩
   |some z0=>
    obtain⟨aB,aC⟩:=u _ aA;cases z0 with
    |inl x=>
     obtain⟨b,e,s2⟩:=x;obtain rfl:b=false:=aB _ rfl;refine⟨rfl,fun z j=>?_⟩;have v:some (Sum.inl (false,e,s2))=some z:=j;cases v;exact⟨fun x f=>by cases f;rfl,fun x f=>by cases f⟩
    |inr x=>
     obtain⟨e,s2⟩:=x;obtain⟨aD,aE⟩:=aC _ rfl;have aG:e.length=o.length:=aD;have w:e.set r (o.getD r [])=o:=aE;have key:(Option.bind (some (Sum.inr (e,s2):(Bool×List (List Int)×σ)⊕(List (List Int)×σ))) fun z=>Sum.elim (fun d=>some (Sum.inl (d.1,d.2.1,d.2.2))) (fun d=>(idx d.1 (r:Int)).bind fun _=>(i64 ((r:Int)+1)).bind fun _=>B7 (Bu K cb k) K (i:Int) y o m ((r:Int)+1) (d.1.set (r:Int).toNat (o.getD r [])) d.2) z)=B7 (Bu K cb k) K (i:Int) y o m ((r+1:Nat):Int) o s2:=by
      rw[Option.bind_some];show(idx e (r:Int)).bind _=_;rw[Dy (show r<e.length by omega),BU (by omega) (by omega),DS r];show B7 _ K _ y o m _ (e.set (r:Int).toNat (o.getD r [])) s2=_;rw[Int.toNat_natCast,w]
     rw[key];exact q m (r+1) s2 (by omega) (by omega)
theorem Qh(t:y.Ac.length≤4)(hK:2000≤K):∀(n k i:Nat),y.Ac.length=i+n→n<k→Or (K:=K) cb y n k i:=by
 intro n
 induction n with
 |zero=>
  intro k i h l o st hlen e;cases k with
  |zero=>omega
  |succ k=>
   rw[Bu.eq_2,ct (by rw[h];simp)];rw[Ep,run];cases cb st o with
   |none=>exact⟨rfl,fun z a=>by cases a⟩
   |some r=>
    obtain⟨b,s⟩:=r;refine⟨by cases b<;>rfl,fun z a _=>?_⟩;have c:some (b,o,s)=some z:=a;cases c;rfl
 |succ n ih=>
  intro k i h l o st hlen e;cases k with
  |zero=>omega
  |succ k=>
   rw[Bu.eq_2,cf (by simp;omega)];obtain⟨f,g⟩:=Qg cb y n k i (by omega) hK o e hlen (ih k (i+1) (by omega) (by omega)) o.length K 0 st (by omega) (by omega);rw[Int.natCast_zero] at f g;rw[Ep,List.range_eq_range',←f];cases m:B7 (Bu K cb k) K (i:Int) y o K 0 o st with
   |none=>exact⟨rfl,fun z a=>by cases a⟩
   |some z0=>
    obtain⟨p,q⟩:=g _ m;cases z0 with
    |inl x=>
     obtain⟨b,d,s2⟩:=x;obtain rfl:b=false:=p _ rfl;refine⟨rfl,fun z a j=>?_⟩;have c:some (false,d,s2)=some z:=a;cases c;cases j
    |inr x=>
     obtain⟨d,s2⟩:=x;obtain rfl:d=o:=q _ rfl;refine⟨rfl,fun z a j=>?_⟩;have c:some (true,d,s2)=some z:=a;cases c;rfl
end
theorem ND{σ:Type}{K:Nat}(cb:σ→List (List Int)→Option (Bool×σ))(y:Ao)(a:D1 y)(hK:2000≤K)(st:σ):ER K cb y st=(run cb (Gf y) st).bind fun r=>some r.2:=by
 unfold ER;have:=a.r1;have:=a.r2;rw[OA (by omega) (by omega) (by omega)];obtain⟨b,_⟩:=Qh cb y a.n4 hK y.Ac.length K 0 (by omega) (by have:=a.n4;omega) (List.replicate y.Ah.toNat []) st (fun l c=>by rw[(List.mem_replicate.1 c).2];exact Nat.le_refl _) (by rw[List.length_replicate];omega);rw[Int.natCast_zero] at b;unfold Gf;rw[←b];cases Bu K cb K 0 y (List.replicate y.Ah.toNat []) st with
 |none=>rfl
 |some z=>rfl
end Go.Proofs.YtkljfdkmjdjpfaaGreat
end
section
namespace Go.Proofs.YtkljfdkmjdjpfaaGreat
theorem Qi(l:List Int)(a i:Int):(CR l a i).Perm (i::l):=by
 unfold CR;refine List.perm_middle.trans (List.Perm.cons _ ?_);rw[List.take_append_drop]
theorem Hm(v:Int):∀(o:List (List Int)) (r:Nat) (a:Int),r<o.length→(o.set r (CR (o.getD r []) a v)).flatten.Perm (v::o.flatten)
 |l::o,0,a,_=>by
  show(CR l a v++o.flatten).Perm (v::(l++o.flatten));exact(Qi l a v).append_right _
 |l::o,r+1,a,h=>by
  show(l++(o.set r (CR (o.getD r []) a v)).flatten).Perm (v::(l++o.flatten));exact((Hm v o r a (by simpa using h)).append_left l).trans List.perm_middle
theorem IS(n:Nat):iota (n+1)=iota n++[(n:Int)]:=by simp[iota,List.range_succ]
theorem LM:∀(k i:Nat) (c o:List (List Int)),c.flatten.Perm (iota i)→o∈Ep k i c→o.length=c.length∧o.flatten.Perm (iota (i+k))
 |0,i,c,o,h,b=>by
  rw[Ep,List.mem_singleton] at b;subst b;exact⟨rfl,h⟩
 |k+1,i,c,o,h,b=>by
  rw[Ep,List.mem_flatMap] at b;obtain⟨r,d,b⟩:=b;obtain⟨a,_,b⟩:=List.mem_flatMap.1 b;rw[List.mem_range] at d;obtain⟨e,f⟩:=LM k (i+1) _ o (by
   rw[IS];exact((Hm (i:Int) c r (a:Int) d).trans (h.cons _)).trans (List.perm_append_singleton _ _).symm) b
  rw[List.length_set] at e;exact⟨e,by rw[show i+(k+1)=i+1+k by omega];exact f⟩
theorem HI{y:Ao}(a:D1 y){o:List (List Int)}(h:o∈Gf y):Cw y o=true:=by
 have:=LM _ 0 _ o (by
  have:(List.replicate y.Ah.toNat ([]:List Int)).flatten=[]:=by simp
  rw[this];exact List.Perm.refl _) h
 rw[List.length_replicate,Nat.zero_add] at this;refine DT.2 ⟨?_,this.2⟩;have:=a.r1;omega
theorem Kq:∀(k i:Nat) (c o:List (List Int)) (r a:Nat),o∈Ep k i c→r<o.length→a≤(o.getD r []).length→o.set r (CR (o.getD r []) (a:Int) ((i+k:Nat):Int))∈Ep (k+1) i c
 |0,i,c,o,r,a,b,d,e=>by
  rw[Ep,List.mem_singleton] at b;subst b;rw[Ep,List.mem_flatMap];refine⟨r,List.mem_range.2 d,List.mem_flatMap.2 ⟨a,List.mem_range.2 (by omega),?_⟩⟩;rw[Ep,List.mem_singleton];rfl
 |k+1,i,c,o,r,a,b,d,e=>by
  rw[Ep,List.mem_flatMap] at b;obtain⟨r1,f,b⟩:=b;obtain⟨a1,g,b⟩:=List.mem_flatMap.1 b;rw[Ep,List.mem_flatMap];refine⟨r1,f,List.mem_flatMap.2 ⟨a1,g,?_⟩⟩;have:=Kq k (i+1) _ o r a b d e;rw[show i+1+k=i+(k+1) by omega] at this;exact this
theorem LN (v:Int):∀(o:List (List Int)),v∈o.flatten→∃(o':List (List Int)) (r a:Nat),r<o'.length∧a≤(o'.getD r []).length∧o=o'.set r (CR (o'.getD r []) (a:Int) v)∧o.flatten.Perm (v::o'.flatten)∧o'.length=o.length
 |[],h=>by cases h
 |l::o,h=>by
  by_cases b:v∈l
  ·obtain⟨s,t,rfl⟩:=List.append_of_mem b;refine⟨(s++t)::o,0,s.length,by simp,by simp,?_,?_,by simp⟩
   ·show _=CR (s++t) (s.length:Int) v::o;unfold CR;rw[Int.toNat_natCast,List.take_left,List.drop_left]
   ·show((s++v::t)++o.flatten).Perm (v::((s++t)++o.flatten));exact(List.perm_middle (a:=v) (l₁:=s) (l₂:=t)).append_right _
  ·have c:v∈o.flatten:=by
    rw[List.flatten_cons,List.mem_append] at h;exact h.resolve_left b
   obtain⟨o',r,a,d,e,f,g,i⟩:=LN v o c;refine⟨l::o',r+1,a,by simpa using d,e,?_,?_,by simp[i]⟩
   ·show l::o=l::o'.set r (CR (o'.getD r []) (a:Int) v);rw[←f]
   ·show(l++o.flatten).Perm (v::(l++o'.flatten));exact(g.append_left l).trans List.perm_middle
theorem K5(JK:Nat):∀(n:Nat) (o:List (List Int)),o.length=JK→o.flatten.Perm (iota n)→o∈Ep n 0 (List.replicate JK [])
 |0,o,c,b=>by
  rw[Ep,List.mem_singleton];have he:o.flatten=[]:=b.eq_nil;rw[List.flatten_eq_nil_iff] at he;exact List.eq_replicate_iff.2 ⟨c,he⟩
 |n+1,o,c,b=>by
  have e:(n:Int)∈o.flatten:=b.mem_iff.2 (by rw[IS];simp);obtain⟨o',r,a,f,g,h,i,k⟩:=LN (n:Int) o e;have d:o'.flatten.Perm (iota n):=by
   have j:(iota (n+1)).Perm ((n:Int)::iota n):=by rw[IS];exact List.perm_append_singleton _ _
   exact(List.perm_cons _).1 ((i.symm.trans b).trans j)
  have:=Kq n 0 _ o' r a (K5 JK n o' (by omega) d) f g;rw[Nat.zero_add] at this;rw[h];exact this
theorem I2{y:Ao}(a:D1 y){o:List (List Int)}:o∈Gf y↔Cw y o=true:=by
 refine⟨HI a,fun h=>?_⟩;have b:=DT.1 h;exact K5 _ _ o (by omega) b.2
theorem LO{y:Ao}(a:D1 y):Gf y≠[]:=by
 have:((iota y.Ac.length)::List.replicate (y.Ah.toNat-1) [])∈Gf y:=by
  refine(I2 a).2 (DT.2 ⟨?_,?_⟩)
  ·have:=a.r1;simp;omega
  ·simp
 intro e;rw[e] at this;cases this
theorem Rc(p:List (List Int))(c:p.length≤1000)(a:∀l∈p,l.length≤1000):∀(k m i:Nat),p.length=i+k→k<m→EN p m (i:Int) p=some p:=by
 intro k
 induction k with
 |zero=>
  intro m i h hm;cases m with
  |zero=>omega
  |succ m=>rw[EN.eq_2,cf (df (by omega))]
 |succ k ih=>
  intro m i h hm;cases m with
  |zero=>omega
  |succ m=>
   have hi:i<p.length:=by omega
   have b:=a p[i] (List.getElem_mem hi);rw[EN.eq_2,ct (dt (by omega)),Dy hi,FT (by omega),Dy hi,BU (by omega) (by omega),DS,Int.toNat_natCast,List.set_getElem_self hi];exact ih m (i+1) (by omega) (by omega)
theorem NF{K:Nat}(p:List (List Int))(a:p.length≤1000)(b:∀l∈p,l.length≤1000)(hK:2000≤K):Ff K p=some p:=by
 unfold Ff;have:=Rc p a b p.length K 0 (by omega) (by omega);rw[Int.natCast_zero] at this;rw[FT (by omega),bd this]
theorem Kr{y:Ao}(a:D1 y){o:List (List Int)}(h:Cw y o=true):o.length≤1000∧(∀l∈o,l.length≤1000)∧o.flatten.length≤1000:=by
 have b:=DT.1 h;have c:=Mf h;have:=a.r2;have:=a.n4;have d:=b.2.length_eq;rw[G0] at d;exact⟨by omega,fun l e=>by have:=(c l e).1;omega,by omega⟩
def HY(y:Ao):List (List (List Int))→Int×List (List Int)→Int×List (List Int)
 |[],s=>s
 |o::os,s=>
  let s2:=if (CA y o).1<s.1 then ((CA y o).1,o) else s
  cond (decide (0<s2.1)) (HY y os s2) s2
def Ga(y:Ao):Int×List (List Int):=HY y (Gf y) ((y.Ac.length:Int)+1,[])
theorem NG{K:Nat}(y:Ao)(a:D1 y)(hK:2000≤K):∀(os:List (List (List Int))) (s:Int×List (List Int)),(∀o∈os,Cw y o=true)→
  (run (fun(st:Int×(List (List Int))) (x:(List (List Int)))=>(Ge K x y st.1 st.2).bind fun r=>some (r.1,(r.2.1,r.2.2))) os s).bind (fun r=>some r.2)=some (HY y os s)
 |[],s,_=>rfl
 |o::os,s,h=>by
  have d:=h o (List.mem_cons_self ..);obtain⟨e,f,_⟩:=Kr a d;rw[run,HY];unfold Ge;rw[bd (Qd y a o d hK)]
  by_cases b:(CA y o).1<s.1
  ·rw[ct (dt b),bd (NF o e f hK),if_pos b];show(cond (decide (0<(CA y o).1)) _ _:Option (Bool×Int×List (List Int))).bind _=some (cond (decide (0<(CA y o).1)) _ _);cases decide (0<(CA y o).1) with
   |false=>rfl
   |true=>exact NG y a hK os _ fun x c=>h x (List.mem_cons_of_mem _ c)
  ·rw[cf (df b),if_neg b];show(cond (decide (0<s.1)) _ _:Option (Bool×Int×List (List Int))).bind _=some (cond (decide (0<s.1)) _ _);cases decide (0<s.1) with
   |false=>rfl
   |true=>exact NG y a hK os s fun x c=>h x (List.mem_cons_of_mem _ c)
theorem TL{K:Nat}(y:Ao)(hK:2000≤K):EV K y=some (if check y≠0 then ([],0,check y) else ((Ga y).2,(Ga y).1,0)):=by
 unfold EV;rw[bd (Im hK y)]
 by_cases h:check y=0
 ·rw[h,cf (by decide),if_neg (by simp)];have a:=E7 h;have c:=a.n4;rw[BU (by omega) (by omega),ND _ y a hK];exact Eq.trans (bd (NG y a hK (Gf y) _ fun o b=>HI a b)) rfl
 ·rw[ct (by simpa using h),if_pos h]
theorem NH{y:Ao}(a:D1 y)(o:List (List Int)):0≤(CA y o).1∧(CA y o).1≤(y.Ac.length:Int):=by
 obtain⟨_,_,e⟩:=Ii a o;have:=Mh Cz y.Ac (B2 y o (CA y o).2);rw[e];unfold D5;omega
theorem JH(y:Ao)(d:D1 y):∀(os:List (List (List Int))) (s:Int×List (List Int)),0<s.1∨os=[]→
  (∀o∈os,(HY y os s).1≤(CA y o).1)∧(HY y os s).1≤s.1∧((HY y os s)=s∨∃o∈os,(HY y os s)=((CA y o).1,o))
 |[],s,_=>⟨fun o j=>(by cases j),Int.le_refl _,.inl rfl⟩
 |o::os,s,h=>by
  have g:0<s.1:=by
   rcases h with h|h
   ·exact h
   ·cases h
  rw[HY]
  by_cases i:(CA y o).1<s.1
  ·rw[if_pos i];show(∀x∈o::os,(cond (decide (0<(CA y o).1)) _ _:Int×List (List Int)).1≤_)∧_
   by_cases e:0<(CA y o).1
   ·rw[ct (dt e)];obtain⟨f,c,a⟩:=JH y d os ((CA y o).1,o) (.inl e);have k:(HY y os ((CA y o).1,o)).1≤(CA y o).1:=c;refine⟨fun x b=>?_,by omega,.inr ?_⟩
    ·rcases List.mem_cons.1 b with rfl|b
     ·exact c
     ·exact f x b
    ·rcases a with a|⟨x,b,a⟩
     ·exact⟨o,List.mem_cons_self ..,a⟩
     ·exact⟨x,List.mem_cons_of_mem _ b,a⟩
   ·rw[cf (df e)];refine⟨fun x _=>?_,by show(CA y o).1≤s.1;omega,.inr ⟨o,List.mem_cons_self ..,rfl⟩⟩;have:=(NH d x).1;show(CA y o).1≤_;omega
  ·rw[if_neg i];show(∀x∈o::os,(cond (decide (0<s.1)) _ _:Int×List (List Int)).1≤_)∧_;rw[ct (dt g)];obtain⟨f,c,a⟩:=JH y d os s (.inl g);refine⟨fun x b=>?_,c,?_⟩
   ·rcases List.mem_cons.1 b with rfl|b
    ·omega
    ·exact f x b
   ·rcases a with a|⟨x,b,a⟩
    ·exact .inl a
    ·exact .inr ⟨x,List.mem_cons_of_mem _ b,a⟩
theorem JI {y:Ao} (a:D1 y):(∀o,Cw y o=true→(Ga y).1≤(CA y o).1)∧Cw y (Ga y).2=true∧(Ga y).1=(CA y (Ga y).2).1:=by
 obtain⟨d,e,b⟩:=JH y a (Gf y) ((y.Ac.length:Int)+1,[]) (.inl (by show(0:Int)<_+1;omega));refine⟨fun o c=>d o ((I2 a).2 c),?_⟩;rcases b with b|⟨o,c,b⟩
 ·exfalso;obtain⟨o,c⟩:=List.exists_mem_of_ne_nil _ (LO a);have:=d o c;rw[b] at this;have f:(y.Ac.length:Int)+1≤(CA y o).1:=this;have:=(NH a o).2;omega
 ·unfold Ga;rw[b];exact⟨HI a c,rfl⟩
end Go.Proofs.YtkljfdkmjdjpfaaGreat
end
section
namespace Go.Proofs.YtkljfdkmjdjpfaaGreat
def Ei(y:Ao)(yes:List Int):Nat:=(List.range y.Ac.length).countP fun i=>yes.getD i 0==0
def GP (y:Ao) (o:List (List Int)):Nat:=(List.range y.Ac.length).countP fun i=>(BZ y).all (GV y o i)
theorem Qj{y:Ao}(a:D1 y)(o:List (List Int)):Ei y (Cg Cz y o)=GP y o:=by
 unfold Ei GP;refine List.countP_congr fun i hi=>?_;rw[List.mem_range] at hi;rw[JF Cz y a o i hi,LL];have:((BZ y).all fun t=> !Cz (CY y i) (Ih y o t i))=(BZ y).all (GV y o i):=by
  congr 1;funext t;unfold Cz GV;rw[Bool.not_not]
 rw[this]
theorem Re(y:Ao)(o:List (List Int)):GP y o≤y.Ac.length:=by
 unfold GP;have:=List.countP_le_length (p:=fun i=>(BZ y).all (GV y o i)) (l:=List.range y.Ac.length);simpa using this
theorem Sc(y:Ao)(r:BK×Int×Unit)(c:y.Ac.length≤4):∀(k m i:Nat) (a:Int),y.Ac.length=i+k→k<m→0≤a→a≤i→
  Eh y r m a (i:Int)=some (a+((List.range' i k).countP (fun i=>r.1.l.getD i 0==0):Nat)):=by
 intro k
 induction k with
 |zero=>
  intro m i a h hm h0 b;cases m with
  |zero=>omega
  |succ m=>rw[Eh.eq_2,cf (df (by omega))];simp
 |succ k ih=>
  intro m i a h hm h0 b;cases m with
  |zero=>omega
  |succ m=>
   rw[Eh.eq_2,ct (dt (by omega)),bd (MZ r.1 i (by omega)),List.range'_succ,List.countP_cons];cases d:(r.1.l.getD i 0==0) with
   |true=>
    rw[ct rfl,BU (by omega) (by omega),BU (by omega) (by omega),DS,ih m (i+1) (a+1) (by omega) (by omega) (by omega) (by omega)]
    congr 1;simp;omega
   |false=>
    rw[cf rfl,BU (by omega) (by omega),DS,ih m (i+1) a (by omega) (by omega) (by omega) (by omega)]
    congr 1
theorem Rf(y:Ao)(r:BK×Int×Unit)(c:y.Ac.length≤4):∀(k m i:Nat) (a:Int),y.Ac.length=i+k→k<m→0≤a→a≤i→
  Ea y r m a (i:Int)=some (a+((List.range' i k).countP (fun i=>r.1.l.getD i 0==0):Nat)):=by
 intro k
 induction k with
 |zero=>
  intro m i a h hm h0 b;cases m with
  |zero=>omega
  |succ m=>rw[Ea.eq_2,cf (df (by omega))];simp
 |succ k ih=>
  intro m i a h hm h0 b;cases m with
  |zero=>omega
  |succ m=>
   rw[Ea.eq_2,ct (dt (by omega)),bd (MZ r.1 i (by omega)),List.range'_succ,List.countP_cons];cases d:(r.1.l.getD i 0==0) with
   |true=>
    rw[ct rfl,BU (by omega) (by omega),BU (by omega) (by omega),DS,ih m (i+1) (a+1) (by omega) (by omega) (by omega) (by omega)]
    congr 1;simp;omega
   |false=>
    rw[cf rfl,BU (by omega) (by omega),DS,ih m (i+1) a (by omega) (by omega) (by omega) (by omega)]
    congr 1
def Gm(y:Ao):List (List (List Int))→Int×List Int×List (List Int)→Int×List Int×List (List Int)
  |[],s=>s
  |o::os,s=>
    cond (decide (0≤s.1)&&(Cg Cz y o==s.2.1)) (Gm y os s)
      (let s2:=if s.1<(Ei y (Cg Cz y o):Int) then ((Ei y (Cg Cz y o):Int),Cg Cz y o,o) else (s.1,Cg Cz y o,s.2.2)
       cond (decide (s2.1<(y.Ac.length:Int))) (Gm y os s2) s2)
def FJ(y:Ao):Int×List Int×List (List Int):=Gm y (Gf y) (-1,[0,0,0,0],[])
theorem NI{K:Nat}(y:Ao)(e:D1 y)(hK:2000≤K):∀(os:List (List (List Int))) (n:Int) (a:BK) (q:List (List Int)),(∀o∈os,Cw y o=true)→
    ∃(b:Bool) (a2:BK),run (fun(st:Int×BK×(List (List Int))) (x:(List (List Int)))=>(EJ K x y st.1 st.2.1 st.2.2).bind fun r=>some (r.1,(r.2.1,r.2.2.1,r.2.2.2))) os (n,a,q)=some (b,(Gm y os (n,a.l,q)).1,a2,(Gm y os (n,a.l,q)).2.2)
  |[],n,a,q,_=>⟨true,a,rfl⟩
  |o::os,n,a,q,h=>by
    have s:=h o (List.mem_cons_self ..);have p:∀x∈os,Cw y x=true:=fun x aC=>h x (List.mem_cons_of_mem _ aC);obtain⟨aD,aE,_⟩:=Kr e s;have t:=e.n4;obtain⟨b,aF,k⟩:=Mk (K:=K) Cz y e o s hK;have u:Cv K (fun(st:Unit) (x:Ay×Ar)=>(Eg K x.1 x.2).bind fun r=>some (r,())) y o ()=some (b,((BZ y).length:Int),()):=by
      rw[←aF];congr 1;funext st x;rw[bd (OD ..)];rfl
    have h9:=Sc y (b,((BZ y).length:Int),()) t y.Ac.length K 0 0 (by omega) (by omega) (by omega) (by omega);have f:=Rf y (b,((BZ y).length:Int),()) t y.Ac.length K 0 0 (by omega) (by omega) (by omega) (by omega);rw[Int.natCast_zero,Int.zero_add] at h9 f;have v:((List.range' 0 y.Ac.length).countP (fun i=>(b,((BZ y).length:Int),()).1.l.getD i 0==0))=Ei y (Cg Cz y o):=by
      rw[←List.range_eq_range',←k];rfl
    rw[v] at h9 f;have c:∀(l:Int×BK×List (List Int)) (z:Int×List Int×List (List Int)),(l.1,l.2.1.l,l.2.2)=z→
        ∃(d:Bool) (a2:BK),cond (decide (l.1<(y.Ac.length:Int))) (run (fun(st:Int×BK×(List (List Int))) (x:(List (List Int)))=>(EJ K x y st.1 st.2.1 st.2.2).bind fun r=>some (r.1,(r.2.1,r.2.2.1,r.2.2.2))) os l) (some (false,l))=some (d,(cond (decide (z.1<(y.Ac.length:Int))) (Gm y os z) z).1,a2,(cond (decide (z.1<(y.Ac.length:Int))) (Gm y os z) z).2.2):=by
      rintro⟨g,w,aG⟩ z rfl;show∃(d:Bool) (a2:BK),cond (decide (g<(y.Ac.length:Int))) _ _=some (d,(cond (decide (g<(y.Ac.length:Int))) _ _:Int×List Int×List (List Int)).1,a2,(cond (decide (g<(y.Ac.length:Int))) _ _:Int×List Int×List (List Int)).2.2);cases decide (g<(y.Ac.length:Int)) with
      |false=>exact⟨false,w,rfl⟩
      |true=>exact NI y e hK os g w aG p
    have main:∀z9:Int,z9=(Ei y (Cg Cz y o):Int)→∃(d:Bool) (a2:BK),
        (((cond (decide (n<z9)) ((Ff K o).bind fun aA=>some ((decide (z9<(y.Ac.length:Int)),z9,b,aA))) (some ((decide (n<(y.Ac.length:Int)),n,b,q))):Option (Bool×Int×BK×List (List Int))).bind fun r=>some (r.1,(r.2.1,r.2.2.1,r.2.2.2))).bind fun r=>cond r.1 (run (fun(st:Int×BK×(List (List Int))) (x:(List (List Int)))=>(EJ K x y st.1 st.2.1 st.2.2).bind fun r=>some (r.1,(r.2.1,r.2.2.1,r.2.2.2))) os r.2) (some (false,r.2)))=
        some (d,(let s2:=if n<(Ei y (Cg Cz y o):Int) then ((Ei y (Cg Cz y o):Int),Cg Cz y o,o) else (n,Cg Cz y o,q)
       cond (decide (s2.1<(y.Ac.length:Int))) (Gm y os s2) s2).1,a2,(let s2:=if n<(Ei y (Cg Cz y o):Int) then ((Ei y (Cg Cz y o):Int),Cg Cz y o,o) else (n,Cg Cz y o,q)
       cond (decide (s2.1<(y.Ac.length:Int))) (Gm y os s2) s2).2.2):=by
      rintro z9 rfl
      by_cases j:n<(Ei y (Cg Cz y o):Int)
      · rw[ct (dt j),bd (NF o aD aE hK)];simp only[if_pos j];exact c ((Ei y (Cg Cz y o):Int),b,o) ((Ei y (Cg Cz y o):Int),Cg Cz y o,o) (by show(_,b.l,o)=_;rw[k])
      · rw[cf (df j)];simp only[if_neg j];exact c (n,b,q) (n,Cg Cz y o,q) (by show(_,b.l,q)=_;rw[k])
    rw[run,Gm];show∃(d:Bool) (a2:BK),Option.bind ((EJ K o y n a q).bind _) _=_;unfold EJ;rw[bd u]
    by_cases m:0≤n
    · rw[ct (dt m),dt m,Bool.true_and];have aB:([b.a0,b.a1,b.a2,b.a3]==[a.a0,a.a1,a.a2,a.a3])=(Cg Cz y o==a.l):=by rw[←k];rfl
      rw[aB];cases j:(Cg Cz y o==a.l) with
      |true=>
        rw[ct rfl,ct rfl];exact NI y e hK os n a q p
      |false=>
        rw[cf rfl,cf rfl,bd h9];exact main _ rfl
    · rw[cf (df m),df m,Bool.false_and,cf rfl,bd f];exact main _ rfl
theorem TM{K:Nat}(y:Ao)(hK:2000≤K):EW K y=some (if check y≠0 then ([],0,check y) else ((FJ y).2.2,(FJ y).1,0)):=by
 unfold EW;rw[bd (Im hK y)]
 by_cases h:check y=0
 ·rw[h,cf (by decide),if_neg (by simp)];have a:=E7 h;rw[ND _ y a hK];obtain⟨b,a2,e⟩:=NI (K:=K) y a hK (Gf y) (-1) ⟨0,0,0,0⟩ [] fun o c=>HI a c;exact Eq.trans (congrArg (fun z=>Option.bind (Option.bind z _) _) e) rfl
 ·rw[ct (by simpa using h),if_pos h]
theorem Ij(y:Ao)(i:D1 y):∀(os:List (List (List Int))) (s:Int×List Int×List (List Int)),s.1<(y.Ac.length:Int)∨0≤s.1→(0≤s.1→(Ei y s.2.1:Int)≤s.1)→s.1≤(y.Ac.length:Int)→
  (∀o∈os,(GP y o:Int)≤(Gm y os s).1)∧s.1≤(Gm y os s).1∧(((Gm y os s).1=s.1∧(Gm y os s).2.2=s.2.2)∨∃o∈os,(Gm y os s).1=(GP y o:Int)∧(Gm y os s).2.2=o)
 |[],s,_,_,_=>⟨fun o l=>(by cases l),Int.le_refl _,.inl ⟨rfl,rfl⟩⟩
 |o::os,s,h,hi,hle=>by
  have hlen:∀x,(GP y x:Int)≤(y.Ac.length:Int):=fun x=>by have:=Re y x;omega
  have c:=Qj i o;rw[Gm]
  by_cases f:(decide (0≤s.1)&&(Cg Cz y o==s.2.1))=true
  ·rw[ct f];rw[Bool.and_eq_true,decide_eq_true_eq] at f;obtain⟨g,d,a⟩:=Ij y i os s h hi hle;refine⟨fun x b=>?_,d,?_⟩
   ·rcases List.mem_cons.1 b with rfl|b
    ·have:=hi f.1;rw[←eq_of_beq f.2,c] at this;omega
    ·exact g x b
   ·rcases a with a|⟨x,b,a⟩
    ·exact .inl a
    ·exact .inr ⟨x,List.mem_cons_of_mem _ b,a⟩
  ·rw[cf (by simpa using f)]
   by_cases j:s.1<(Ei y (Cg Cz y o):Int)
   ·simp only[if_pos j]
    by_cases e:(Ei y (Cg Cz y o):Int)<(y.Ac.length:Int)
    ·rw[ct (dt e)];obtain⟨g,d,a⟩:=Ij y i os ((Ei y (Cg Cz y o):Int),Cg Cz y o,o) (.inl e) (fun _=>Int.le_refl _) (by show(Ei y (Cg Cz y o):Int)≤_;omega);have k:(Ei y (Cg Cz y o):Int)≤_:=d;refine⟨fun x b=>?_,by omega,.inr ?_⟩
     ·rcases List.mem_cons.1 b with rfl|b
      ·rw[←c];exact d
      ·exact g x b
     ·rcases a with⟨a,m⟩|⟨x,b,a⟩
      ·exact⟨o,List.mem_cons_self ..,by rw[a,←c],m⟩
      ·exact⟨x,List.mem_cons_of_mem _ b,a⟩
    ·rw[cf (df e)];refine⟨fun x _=>?_,by show s.1≤(Ei y (Cg Cz y o):Int);omega,.inr ⟨o,List.mem_cons_self ..,by show(Ei y (Cg Cz y o):Int)=_;rw[c],rfl⟩⟩;have:=hlen x;show _≤(Ei y (Cg Cz y o):Int);omega
   ·simp only[if_neg j];have h0:0≤s.1:=by omega
    by_cases e:s.1<(y.Ac.length:Int)
    ·rw[ct (dt e)];obtain⟨g,d,a⟩:=Ij y i os (s.1,Cg Cz y o,s.2.2) (.inl e) (fun _=>by show(Ei y (Cg Cz y o):Int)≤s.1;omega) hle;have k:s.1≤_:=d;refine⟨fun x b=>?_,d,?_⟩
     ·rcases List.mem_cons.1 b with rfl|b
      ·rw[←c];omega
      ·exact g x b
     ·rcases a with a|⟨x,b,a⟩
      ·exact .inl a
      ·exact .inr ⟨x,List.mem_cons_of_mem _ b,a⟩
    ·rw[cf (df e)];refine⟨fun x _=>?_,Int.le_refl _,.inl ⟨rfl,rfl⟩⟩;have:=hlen x;show _≤s.1;omega
theorem LP {y:Ao} (c:D1 y):(∀o,Cw y o=true→(GP y o:Int)≤(FJ y).1)∧Cw y (FJ y).2.2=true∧(FJ y).1=(GP y (FJ y).2.2:Int):=by
 obtain⟨d,f,a⟩:=Ij y c (Gf y) (-1,[0,0,0,0],[]) (.inl (by show(-1:Int)<_;omega)) (fun h=>absurd (show(0:Int)≤-1 from h) (by decide)) (by show(-1:Int)≤_;omega);refine⟨fun o b=>d o ((I2 c).2 b),?_⟩;rcases a with⟨a,_⟩|⟨o,b,a,e⟩
 ·exfalso;obtain⟨o,b⟩:=List.exists_mem_of_ne_nil _ (LO c);have:=d o b;rw[a] at this;have g:(GP y o:Int)≤-1:=this;omega
 ·unfold FJ;rw[a,e];exact⟨HI c b,rfl⟩
end Go.Proofs.YtkljfdkmjdjpfaaGreat
end
section
namespace Go.Proofs.YtkljfdkmjdjpfaaGreat
def GH(n i k:Nat):List Int:=((List.range' k (n-k)).filter fun j=>j !=i).map fun j:Nat=>(j:Int)
def F9 (y:Ao) (i:Nat):List (List Int):=((i:Int)::GH y.Ac.length i 0)::List.replicate (y.Ah.toNat-1) []
theorem TN{α:Type}(x:α)(r:List α):idx (x::r) (0:Int)=some x:=idx_eq (xs:=x::r) (k:=0) (by simp)
theorem UL(n i:Nat)(f:n≤4):∀(d m k:Nat) (x:List Int) (r:List (List Int)),n=k+d→d<m→x.length≤1+k→
  I0 (n:Int) (i:Int) m (k:Int) (x::r)=some ((x++GH n i k)::r):=by
 intro d
 induction d with
 |zero=>
  intro m k x r h hm e;cases m with
  |zero=>omega
  |succ m=>
   rw[I0,cf (df (by omega))];unfold GH;rw[show n-k=0 by omega];simp
 |succ d ih=>
  intro m k x r h hm e;cases m with
  |zero=>omega
  |succ m=>
   have b:idx (x::r) (0:Int)=some x:=TN x r;have c:GH n i k=cond (k !=i) ((k:Int)::GH n i (k+1)) (GH n i (k+1)):=by
    unfold GH;rw[show n-k=(n-(k+1))+1 by omega,List.range'_succ,List.filter_cons];cases g:(k !=i) with
    |true=>rfl
    |false=>rfl
   rw[I0,ct (dt (by omega))]
   by_cases a:k=i
   ·have:((k:Int) !=(i:Int))=false:=by rw[a];exact bne_self_eq_false ..
    rw[this,cf rfl,BU (by omega) (by omega),DS,ih m (k+1) x r (by omega) (by omega) (by omega),c,show(k !=i)=false by rw[a];exact bne_self_eq_false ..];rfl
   ·have:((k:Int) !=(i:Int))=true:=by rw[bne_iff_ne];omega
    rw[this,ct rfl,bd b,FT (by simp;omega),bd b,BU (by omega) (by omega),DS];show I0 _ _ m _ ((x++[(k:Int)])::r)=_;rw[ih m (k+1) (x++[(k:Int)]) r (by omega) (by omega) (by simp;omega),c,show(k !=i)=true by rw[bne_iff_ne];exact a];simp
theorem Ks{y:Ao}(b:D1 y){i:Nat}(hi:i<y.Ac.length):Cw y (F9 y i)=true:=by
 have c:=b.r1;rw[DT];refine⟨by unfold F9;simp;omega,?_⟩;have e:(F9 y i).flatten=(i:Int)::GH y.Ac.length i 0:=by
  unfold F9;rw[List.flatten_cons];have:(List.replicate (y.Ah.toNat-1) ([]:List Int)).flatten=[]:=by
   simp
  rw[this,List.append_nil]
 rw[e];unfold GH iota;rw[←List.range_eq_range',Nat.sub_zero];have:((i:Int)::((List.range y.Ac.length).filter fun j=>j !=i).map fun j:Nat=>(j:Int))=(i::((List.range y.Ac.length).filter fun j=>j !=i)).map fun j:Nat=>(j:Int):=rfl;rw[this];refine List.Perm.map _ ?_;have hm:i∈List.range y.Ac.length:=List.mem_range.2 hi;have a:=List.perm_cons_erase hm;rw[List.Nodup.erase_eq_filter List.nodup_range] at a;exact a.symm
def C6(y:Ao)(k d:Nat):List Int:=((List.range' k d).filter fun i=> !(BZ y).all (GV y (F9 y i) i)).map fun i:Nat=>(i:Int)
theorem Px{K:Nat}(y:Ao)(c:D1 y)(hK:2000≤K):∀(d m i:Nat) (a:List Int),y.Ac.length=i+d→d<m→a.length≤i→
  DR K y m a (i:Int)=some (a++C6 y i d):=by
 have g:=c.n4;have s:=c.r1;have t:=c.r2;intro d
 induction d with
 |zero=>
  intro m i a h hm j;cases m with
  |zero=>omega
  |succ m=>rw[DR.eq_2,cf (df (by omega))];simp[C6]
 |succ d ih=>
  intro m i a h hm j;cases m with
  |zero=>omega
  |succ m=>
   have hi:i<y.Ac.length:=by omega
   have k:=Ks c hi;obtain⟨b,n,o⟩:=Mk (K:=K) E8 y c (F9 y i) k hK;have e:Cv K (fun(st:Unit) (x:Ay×Ar)=>(Dd K x.1 x.2).bind fun r=>some (r,())) y (F9 y i) ()=some (b,((BZ y).length:Int),()):=by
    rw[←n];congr 1;funext st x;rw[bd (Mg ..)]
   have er:List.replicate y.Ah.toNat ([]:List Int)=[]::List.replicate (y.Ah.toNat-1) []:=by
    rw[←List.replicate_succ];congr 1;omega
   have f:=UL y.Ac.length i g y.Ac.length K 0 [(i:Int)] (List.replicate (y.Ah.toNat-1) []) (by omega) (by omega) (by simp);rw[DR.eq_2,ct (dt (by omega)),OA (by omega) (by omega) (by omega),er];rw[bd (show idx (([]:List Int)::List.replicate (y.Ah.toNat-1) []) (0:Int)=some [] from TN _ _)];rw[Int.natCast_zero] at f;show(I0 _ _ K (0:Int) ([(i:Int)]::List.replicate (y.Ah.toNat-1) [])).bind _=_;rw[bd f];show(Cv K _ y (F9 y i) ()).bind _=_;rw[bd e,bd (MZ b i (by omega))];have p:((b.l.getD i 0)==((BZ y).length:Int))=(BZ y).all (GV y (F9 y i) i):=by
    rw[o,JF E8 y c (F9 y i) i hi,MK];rfl
   show cond ((b.l.getD i 0)==((BZ y).length:Int)) _ _=_;rw[p];have q:C6 y i (d+1)=cond ((BZ y).all (GV y (F9 y i) i)) (C6 y (i+1) d) ((i:Int)::C6 y (i+1) d):=by
    unfold C6;rw[List.range'_succ,List.filter_cons];cases (BZ y).all (GV y (F9 y i) i)<;>rfl
   rw[q];cases (BZ y).all (GV y (F9 y i) i) with
   |true=>
    rw[ct rfl,BU (by omega) (by omega),DS,ih m (i+1) a (by omega) (by omega) (by omega)];rfl
   |false=>
    rw[cf rfl,FT (by simp;omega),BU (by omega) (by omega),DS,ih m (i+1) (a++[(i:Int)]) (by omega) (by omega) (by simp;omega)];simp
theorem Py{K:Nat}(y:Ao)(hK:2000≤K):DK K y=some (if check y≠0 then ([],check y) else (C6 y 0 y.Ac.length,0)):=by
 unfold DK;rw[bd (Im hK y)]
 by_cases h:check y=0
 ·rw[h,if_neg (by simp)];have e:=Px (K:=K) y (E7 h) hK y.Ac.length K 0 [] (by omega) (by have:=(E7 h).n4;omega) (by simp);rw[Int.natCast_zero] at e;show cond false _ _=_;rw[cf rfl,bd e,List.nil_append]
 ·rw[ct (by simpa using h),if_pos h]
end Go.Proofs.YtkljfdkmjdjpfaaGreat
end
