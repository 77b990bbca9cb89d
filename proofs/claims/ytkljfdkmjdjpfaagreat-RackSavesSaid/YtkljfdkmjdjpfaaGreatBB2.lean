import Derived.Test.YtkljfdkmjdjpfaaGreatBB1
import Derived.WalkKit
import Derived.KernelRfl
import Derived.WalkSpells
import Derived.WalkLawsBesides
import Derived.Maps.AppendAt
import Derived.OrdersIn
import Derived.RangeFuncIn
import Derived.RangeFuncLeaves
import Derived.RangeFuncRecord
import Derived.RangeFuncSeq
import Derived.Scope
import Derived.DeepKeys3
import Derived.Laws.CopyRow
import Derived.Laws.OwnMore
import Derived.Laws.MakeOwn
import Derived.Laws.IdiomCopy
/-
  The contracts of the functions of the program and of the reference, and the logic that they are proved in: the base that several claims of this seat share.
-/
set_option linter.all false
section
namespace Go.Proofs.YtkljfdkmjdjpfaaGreat
open Go.RowKit Go.WideShapes
theorem Wn{f:Operand→Value}{i0 i1 i2 i3 i4:Nat}{a x1 x2 b c:Operand}{v0 v1 v2 v3 v4:Value}(h0:f a=v0)(d:f x1=v1)(e:f x2=v2)(g:f b=v3)(h:f c=v4): #[(i0,a),(i1,x1),(i2,x2),(i3,b),(i4,c)].map (fun(i,x)=>(i,f x))= #[(i0,v0),(i1,v1),(i2,v2),(i3,v3),(i4,v4)]:=by simp[h0,d,e,g,h]
section
variable{F F' F0:Nat→Prop}{B:List (Option Nat)}{w0 w w' w1 w2:World}{Z Z':Nat→Prop}{L L' M C:List (Option Nat)}{D:Nat→Prop}
theorem BT(a:List Nat)(h:GH L a M):∀x∈M,x∈L:=h.sub
theorem AS(a:List Nat)(h:GH L a M)(b:∀k,F' k→F k):∀k,FU F' M k→F k∨some k∈L:=T8 h.sub b
theorem CY(h:∀k,F0 k→F k):∀k,FU F0 C k→F k∨some k∈C:=fun k a=>a.imp (h k) id
theorem Gw{k:Nat}{o:Obj}{r:Option Nat}(h:w.heap[k]?=some o)(g:w.grownBy w' r)(a:some k≠r):w'.heap[k]?=some o:=(g.block k (Array.getElem?_eq_some_iff.1 h).1 a).trans h
theorem Fm{k:Nat}{o:Obj}(h:w.heap[k]?=some o)(g:Bo D w w')(a:¬D k):w'.heap[k]?=some o:=(g.block k (Array.getElem?_eq_some_iff.1 h).1 a).trans h
theorem Ct.BF{α:Type}{ev:α→Value}{r n:Nat}{a:List (List Int×α)}(h:Ct ev w r n a)(g:Bo D w w')(b:¬D r):Ct ev w' r n a:=h.of (g.block r h.lt b)
theorem Ct.Gk{α:Type}{ev:α→Value}{r n:Nat}{a:List (List Int×α)}(h:Ct ev w r n a)(e:w'.heap[r]?=w.heap[r]?):Ct ev w' r n a:=h.of e
theorem Bk.Gk{b:Nat}{t:TypeId}{cs:Array Value}(h:Bk w b t cs)(e:w'.heap[b]?=w.heap[b]?):Bk w' b t cs:=e.trans h
theorem Hp.zz(h:Hp F B w0 L w)(a c:List Nat)(d:GH L a M)(e:GH L c C)(f:∀k,F' k→F k∨some k∈C):∀b,ZZ F B Z w0.heap.size L b→¬F' b∧some b∉M:=h.zc d.sub fun k g=>(f k g).imp id (e.sub _)
theorem Hp.mz(h:Hp F B w0 L w)(a b:List Nat)(c:GH L a M)(d:GH L b C)(e:∀k,F' k→F k∨some k∈C):Mv w (ZZ F B Z w0.heap.size L) w (ZC F' M):=SC (h.zz a b c d e)
theorem O4{i:Nat}{a b:List Nat}(h:((a++b).all fun j=> !Nat.beq i j)=true):(a.all fun j=> !Nat.beq i j)=true∧(b.all fun j=> !Nat.beq i j)=true:=by
 rw[List.all_append,Bool.and_eq_true] at h;exact h
theorem Hp.bz(h:Hp F B w0 L w)(i:Nat){b:Nat}(hi:L[i]?=some (some b))(a c:List Nat)(e:GH L a M)(f:GH L c C)(g:∀k,F' k→F k∨some k∈C)(d:((a++c).all fun j=> !Nat.beq i j)=true):ZC F' M b:=by
 have l:=h.BE (F':=F) i hi a (O4 d).1 e (fun _ h=>h);have m:=h.BE (F':=F) i hi c (O4 d).2 f (fun _ h=>h);exact⟨fun n=>m ((g b n).imp id id),fun hm=>l (.inr hm)⟩
theorem Hp.rz{α:Type}{e:En α}{t:TypeId}{n0:Nat}{A:Option Addr}{c:Nat}{xs:List α}(h:Hp F B w0 L w)(i:Nat)(hi:L[i]?=some (ob A))(a b:List Nat)(d:GH L a M)(f:GH L b C)(g:∀k,F' k→F k∨some k∈C)(l:((a++b).all fun j=> !Nat.beq i j)=true)
  (m:AL e t n0 w (ZZ F B Z w0.heap.size L) A c xs):Sl e w (ZC F' M) A c xs:=
 (m.up (h.mz a b d f g)).sl fun k n _=>h.bz i (by rw[hi,n]) a b d f g l
theorem Bf{Z:Nat→Prop}(w:World):Mv w Z w (ZZ FN [] Z w.heap.size L):=Bg (fun _ _=>⟨id,by simp⟩) w
theorem Jv(h:Mv w Z w' Z):Mv w Z w' (ZZ FN [] Z w.heap.size M):=⟨h.size,fun b a c=>⟨.inl ⟨c,a,id,by simp⟩,(h.stay b a c).2⟩⟩
theorem K5{n:Nat}:Mv w (ZZ FN [] Z n M) w (ZZ FN [] Z n [none]):=Hf fun b a _=>a.imp id fun⟨c,_⟩=>⟨c,by simp⟩
theorem LB{n:Nat}{o:Option Nat}(h:o∈M:=by simp):Mv w (ZZ FN [] Z n M) w (ZZ FN [] Z n [o]):=Hf fun b a _=>a.imp id fun⟨c,d⟩=>⟨c,fun hm=>by
 rw[List.mem_singleton] at hm;exact d (by rw[hm];exact h)⟩
theorem KB(g:Bo D w w')(h:∀b,Z b→¬D b):Mv w Z w' Z:=⟨g.size,fun b a c=>⟨a,g.block b c (h b a)⟩⟩
theorem JT{b:Nat}{o:Option Nat}(h:¬FU FN C b∧some b≠o):¬FU FN C b:=h.1
theorem Qv{b:Nat}{o:Option Nat}(h:¬FU F C b∧some b≠o):¬FU F (C++[o]) b:=by
 rintro(a|a)
 ·exact h.1 (.inl a)
 ·rcases List.mem_append.1 a with c|c
  ·exact h.1 (.inr c)
  ·exact h.2 (by simpa using c)
theorem EW{b:Nat}{o:Option Nat}(h:¬FU F C b)(k:some b≠o):¬F b∧some b∉C++[o]:=
 ⟨fun a=>h (.inl a),fun a=>by
  rcases List.mem_append.1 a with c|c
  ·exact h (.inr c)
  ·exact k (by simpa using c)⟩
theorem Bo.lf{o:Option Nat}(g:Bo (FU F (C++[o])) w w'):Bo (FU (FU F C) [o]) w w':=g.mono fun k h=>by
 rcases h with h|h
 ·exact .inl (.inl h)
 ·rcases List.mem_append.1 h with a|a
  ·exact .inl (.inr a)
  ·exact .inr a
theorem Bo.Qw{o:Option Nat}(g:Bo (FU F C) w w'):Bo (FU (FU F C) [o]) w w':=g.mono fun _ h=>.inl h
theorem Bo.cl{M1 M2:List (Option Nat)}(g:Bo (FU (FU F M1) M2) w w'):Bo (FU F (M1++M2)) w w':=g.fl
theorem Hp.I6(h:Hp F B w0 L w)(b:List Nat)(c:GH L b C)(d:∀k,F0 k→F k):∀k,FU F0 C k→k<w.heap.size:=fun k a=>by
 rcases a with a|a
 ·exact Nat.lt_of_lt_of_le (h.ff k (d k a)) h.sz
 ·exact(h.lo k (c.sub _ a)).1
theorem Hp.SF(h:Hp F B w0 L w)(i:Nat){k:Nat}(hi:L[i]?=some (some k))(a:List Nat)(b:(a.all fun j=> !Nat.beq i j)=true)(c:GH L a C):k<w.heap.size∧¬FU F C k:=
 ⟨(h.lo k (List.mem_of_getElem? hi)).1,h.BE (F':=F) i hi a b c fun _ h=>h⟩
theorem Hp.Da{x d:Option Nat}(h:Hp F B w0 L w)(i:Nat)(hi:L[i]?=some x)(a:List Nat)(g:(a.all fun j=> !Nat.beq i j)=true)(l:GH L a M)(m:∀y∈B,y=d∨y∈M):∀k,x=some k→(d=some k∨w0.heap.size≤k)∧k<w.heap.size:=fun k e=>by
 have f:=h.lo k (List.mem_of_getElem? (by rw[hi,e]));refine⟨?_,f.1⟩;rcases Nat.lt_or_ge k w0.heap.size with b|b
 ·left;rcases m _ (f.2.2 b) with c|c
  ·exact c.symm
  ·exact absurd (.inr c) (h.BE (F':=F) i (by rw[hi,e]) a g l fun _ h=>h)
 ·exact .inr b
theorem BN.snoc{o:Option Nat}(h:BN F C w)(l:∀k,o=some k→k<w.heap.size∧¬FU F C k):BN F (C++[o]) w:=by
 refine⟨fun k q=>?_,fun i j x m hi f=>?_,h.ff⟩
 ·rcases List.mem_append.1 q with d|d
  ·exact h.lt k d
  ·have c:=l k (by rw[List.mem_singleton] at d;exact d.symm);exact⟨c.1,fun r=>c.2 (.inl r)⟩
 ·have key:∀(a b:Nat),a<C.length→¬b<C.length→(C++[o])[a]?=some (some x)→(C++[o])[b]?=some (some x)→False:=fun a b s t d c=>by
   rw[List.getElem?_append_left s] at d;rw[List.getElem?_append_right (by omega)] at c;have n:b-C.length=0:=by
    rcases Nat.eq_zero_or_pos (b-C.length) with h|h
    ·exact h
    ·rw[List.getElem?_eq_none (by simp;omega)] at c;cases c
   rw[n] at c;have p:o=some x:=by simpa using c
   exact(l x p).2 (.inr (List.mem_of_getElem? d))
  by_cases g:i<C.length
  ·by_cases e:j<C.length
   ·rw[List.getElem?_append_left g] at hi;rw[List.getElem?_append_left e] at f;exact h.ap i j x m hi f
   ·exact key i j g e hi f
  ·by_cases e:j<C.length
   ·exact key j i e g f hi
   ·have u:(C++[o]).length=C.length+1:=by simp
    have d:=(List.getElem?_eq_some_iff.1 hi).1;have c:=(List.getElem?_eq_some_iff.1 f).1;omega
theorem BN.keep{o o':Option Nat}(h:BN F C w)(g:w.heap.size≤w1.heap.size)(c:∀k,o=some k→k<w1.heap.size∧¬FU F C k)(d:∀k,o'=some k→(o=some k∨w1.heap.size≤k)∧k<w2.heap.size):∀k,o'=some k→k<w2.heap.size∧¬FU F C k:=fun k e=>by
 obtain⟨a,f⟩:=d k e;refine⟨f,?_⟩;rcases a with a|a
 ·exact(c k a).2
 ·rintro(b|b)
  ·have:=h.ff k b;omega
  ·have:=(h.lt k b).1;omega
def VR(L:List (Option Nat))(n:Nat):List (Option Nat)→Prop
 |[]=>True
 |x::M=>((∃j:Nat,L[j]?=some x)∨∀k,x=some k→some k∈L∨n≤k)∧VR L n M
theorem CA{n:Nat}:∀{M:List (Option Nat)},VR L n M→∀k,some k∈M→some k∈L∨n≤k
 |[],_,_,h=>by cases h
 |x::M,h,k,a=>by
  rcases List.mem_cons.1 a with e|a
  ·rcases h.1 with⟨j,b⟩|c
   ·left;rw[e];exact List.mem_of_getElem? b
   ·exact c k e.symm
  ·exact CA h.2 k a
theorem DX{y:Option Nat}(i:Nat)(h:y∈M):∀x∈L.set i y,x∈L∨x∈M:=fun x a=>by
 rcases List.mem_or_eq_of_mem_set a with b|e
 ·exact .inl b
 ·exact .inr (by rw[e];exact h)
theorem IP{o:Option Nat}:∀b,ZC F [o] b→¬F b∧some b≠o:=fun _ h=>⟨h.1,fun e=>h.2 (by rw[e];exact List.mem_singleton_self _)⟩
end
theorem O5{F:Nat→Prop}{B L:List (Option Nat)}{n:Nat}{Z Z':Nat→Prop}(h:∀b,Z b→Z' b):∀b,ZZ F B Z n L b→ZZ F B Z' n L b:=fun b a=>a.imp (fun⟨c,d,e⟩=>⟨c,h b d,e⟩) id
def I7{α:Type}(e:En α)(w:World)(Z:Nat→Prop)(A:Option Addr)(c:Nat)(xs:List α):Prop:=
 xs.length≤c∧(A=none→c=0)∧∃Bm,R2 e w Z Bm xs∧Rz w ZA A Bm.flatten
section
variable{α:Type}{e:En α}{t:TypeId}{n0:Nat}{w w':World}{Z Z':Nat→Prop}{A:Option Addr}{c:Nat}{xs:List α}
theorem I7.ext(h:I7 e w Z A c xs)(g:Ext w w')(hm:Mv w Z w' Z'):I7 e w' Z' A c xs:=⟨h.1,h.2.1,h.2.2.imp fun _ h=>⟨h.1.mv hm,h.2.mv (Ai g)⟩⟩
theorem AL.n(h:AL e t n0 w Z A c xs):I7 e w Z A c xs:=by
 have a:=h.all;obtain⟨Bm,b,d⟩:=h;refine⟨a.1,a.2.1,Bm,b,?_⟩;have f:=d.rd;exact NN f fun _ _ _=>trivial
theorem Sl.n(h:Sl e w Z A c xs):I7 e w Z A c xs:=⟨h.1,h.2.1,h.2.2.imp fun _ h=>⟨h.1,h.2.mv Ky⟩⟩
theorem Sl.H7(a:∀w Z w' Z' cs x,e.R w Z cs x→e.R w' Z' cs x)(h:Sl e w Z A c xs):I7 e w Z' A c xs:=⟨h.1,h.2.1,h.2.2.imp fun _ h=>⟨h.1.free a,h.2.mv Ky⟩⟩
theorem AL.H7(a:∀w Z w' Z' cs x,e.R w Z cs x→e.R w' Z' cs x)(h:AL e t n0 w Z A c xs):I7 e w Z' A c xs:=h.all.H7 a
end
section
variable{P:Program}{a:Act}{w:World}{dst:Option Tmp}{ty:TypeId}{pos:String}{Cg:Array Edge}{g:Option (Nat×Bool)}
theorem HP{α:Type}{e:En α}{s x:Operand}{t j:TypeId}{z:Value}{sz bytes:Nat}(y:P.underlying t=some (.slice j))(hi:(P.info? j).map (fun i=>(i.zero,i.size,i.bytes))=some (some z,sz,bytes))(l:z.cells.size=sz)(m:e.sz=sz)(h0:0<sz)
  {n0:Nat}{Z:Nat→Prop}{A B:Option Addr}{c d n:Nat}{xs ys:List α}(aA:a.eval s=.slice A n c)(aB:xs.length=n)(aC:a.eval x=.slice B ys.length d)(h:AL e j n0 w Z A c xs)(r:I7 e w Z B d ys)
  (o:xs.length+ys.length≤maxLen)(b:(xs.length+ys.length)*bytes≤140737488355328)(f:n0≤w.heap.size):
  BP P ⟨dst,.call {callee:=.builtin .append,args:= #[s,x],argTypes:= #[t,t]},ty,pos,Cg,g⟩ a w (fun v w'=>∃u aD,v=.slice u (xs++ys).length aD∧w.grownBy w' (ob A)∧(∀k,ob u=some k→(ob A=some k∨w.heap.size≤k)∧k<w'.heap.size)∧
   ∃Bm p,R2 e w Z Bm xs∧R2 e w Z p ys∧D6 w' n0 j e.sz u (xs++ys).length aD (Bm++p).flatten):=by
 by_cases q:ys=[]
 ·refine Ue y hi l m h0 aA aB aC h ?_ o b f;subst q;exact⟨r.1,r.2.1,[],trivial,.inl rfl⟩
 ·obtain⟨_,_,Bm,aE,aF⟩:=r;exact Ju y hi l m h0 aA aB aC h ⟨Bm,aE,aF⟩ o b f q
end
section
variable{α:Type}{e:En α}{t:TypeId}{n0:Nat}{w w':World}{Z Z':Nat→Prop}{A:Option Addr}{c:Nat}{xs:List α}
theorem AL.PT(a:∀w Z w' Z' cs x,e.R w Z cs x→e.R w' Z' cs x)(h:AL e t n0 w Z A c xs):AL e t n0 w Z' A c xs:=by
 obtain⟨Bm,b,d⟩:=h;exact⟨Bm,b.free a,d⟩
theorem AL.PU(h:AL e t n0 w Z A c xs):A=none→c=0:=h.all.2.1
theorem AL.keep(h:AL e t n0 w Z A c xs)(hm:Mv w Z w' Z')(d:∀k,ob A=some k→w'.heap[k]?=w.heap[k]?):AL e t n0 w' Z' A c xs:=by
 obtain⟨Bm,f,a⟩:=h;refine⟨Bm,f.mv hm,a.1,a.2.imp id ?_⟩;rintro⟨b,cap,cur,g,i,j,l⟩;cases g;exact⟨b,_,cur,rfl,i,(d b rfl).trans j,l⟩
end
def Kg(n:Int)(b:Nat):Option Unit:=if 0≤n∧n*b≤140737488355328∧n≤140737488355328 then some () else none
theorem Hj{α:Type}{n:Int}{b:Nat}{f:Unit→Option α}{r:α}(h:(Kg n b).bind f=some r):(0≤n∧n*b≤140737488355328∧n≤140737488355328)∧f ()=some r:=by
 unfold Kg at h;split at h
 ·exact⟨by assumption,h⟩
 ·cases h
theorem KC(z:Array Value):∀m:Nat,(madeCells z (m*z.size)).toList=(List.replicate m z.toList).flatten
 |0=>by simp[madeCells]
 |m+1=>by
  have ih:=KC z m;have e:∀k,(madeCells z k).toList=(List.range k).map (z[· %z.size]!):=fun k=>by simp[madeCells]
  rw[e] at ih⊢;rw[Nat.add_mul,Nat.one_mul,List.range_add,List.map_append,ih,List.replicate_succ',List.flatten_append]
  congr 1
  simp only[List.map_map,List.flatten_cons,List.flatten_nil,List.append_nil];refine List.ext_getElem (by simp) fun i b a=>?_;simp only[List.getElem_map,List.getElem_range,Function.comp];have hi:i<z.size:=by simpa using a
  rw[Nat.add_comm,Nat.add_mul_mod_self_right,Nat.mod_eq_of_lt hi];simp[hi]
theorem R2.VS{α:Type}{e:En α}{w:World}{Z:Nat→Prop}{c:List Value}{x:α}(h:e.R w Z c x):∀m:Nat,R2 e w Z (List.replicate m c) (List.replicate m x)
 |0=>trivial
 |m+1=>⟨h,R2.VS h m⟩
section
variable{P:Program}{a:Act}{w:World}{dst:Option Tmp}{ty:TypeId}{pos:String}{Cg:Array Edge}{g:Option (Nat×Bool)}
theorem HH{α:Type}{e:En α}{z:α}{zc:List Value}{n0:Nat}{t j:TypeId}{d:Value}{sz bytes:Nat}{n:Int}{x y:Operand}{m o:IntKind}{b':Nat}(aB:P.underlying t=some (.slice j))(hi:(P.info? j).map (fun i=>(i.zero,i.size,i.bytes))=some (some d,sz,bytes))
  (p:d.cells.toList=zc)(c:e.sz=sz)(aC:a.eval x=.int m n)(aD:a.eval y=.int o n)(hm:0≤n∧n*b'≤140737488355328∧n≤140737488355328)(q:∀w Z,e.R w Z zc z)(aE:n0≤w.heap.size)(aJ:bytes≤b'):
  BP P ⟨dst,.makeSlice t x y,ty,pos,Cg,g⟩ a w (fun u w'=>∃b,u=.slice (some ⟨b,0,none⟩) (List.replicate n.toNat z).length n.toNat∧w.heap.size≤b∧b<w'.heap.size∧Ext w w'∧∀Z,AL e j n0 w' Z (some ⟨b,0,none⟩) n.toNat (List.replicate n.toNat z)):=by
 subst p;subst c;cases f:P.info? j with
 |none=>simp[f] at hi
 |some i=>
  rw[f] at hi;simp only[Option.map_some,Option.some.injEq,Prod.mk.injEq] at hi;obtain⟨aF,r,aG⟩:=hi;obtain⟨s,aK,aL⟩:=hm;have v:d.cells.toList.length=e.sz:=e.len (q w ZA);have c:d.cells.size=e.sz:=by simpa using v
  have aA:(i.bytes:Int)*n≤281474976710656:=by
   rw[aG];have aH:(bytes:Int)*n≤(b':Int)*n:=Int.mul_le_mul_of_nonneg_right (by omega) s;rw[Int.mul_comm (b':Int)] at aH;omega
  have aI:=run_make (P:=P) w t j i d aB f aF m o n n s (Int.le_refl _) aA (by omega);refine(JE (S:=Instr.makeSlice t (a.eval x) (a.eval y)) rfl (by rw[aC,aD];exact aI)).mono fun u w' h=>?_;obtain⟨rfl,rfl⟩:=h;have l:=Ir w j (madeCells d.cells (n.toNat*i.size));refine⟨w.heap.size,by rw[List.length_replicate],Nat.le_refl _,by rw[l.sz];exact Nat.lt_succ_self _,l.gr,fun Z=>⟨_,R2.VS (q _ Z) n.toNat,?_⟩⟩;rw[List.length_replicate];have k:(List.replicate n.toNat d.cells.toList).flatten.length=n.toNat*e.sz:=by rw[←KC,←c];simp[size_madeCells]
  refine⟨k,.inr ⟨w.heap.size,n.toNat,_,rfl,aE,l.bk,Nat.le_refl _,by simp only[maxLen];omega,by rw[size_madeCells,r],?_⟩⟩;rw[r,←c,KC,List.take_of_length_le (by rw[k,c];exact Nat.le_refl _)]
end
def KD:Int⊕Bool→Value
 |.inl n=>.int .i64 n
 |.inr b=>.bool b
def L4(l:List (Int⊕Bool)):Value:=.agg (l.map KD).toArray
def Lm:Int⊕Bool→Bool
 |.inl _=>true
 |.inr _=>false
def HQ:List (Int⊕Bool)→List (Int⊕Bool)→Bool
 |[],[]=>true
 |.inl a::l,.inl b::m=>a==b&&HQ l m
 |.inr a::l,.inr b::m=>a==b&&HQ l m
 |_,_=>false
def RH(P:Program)(t:TypeId)(a:List Bool):Prop:=∀(w:World) (x y:List (Int⊕Bool)),x.map Lm=a→y.map Lm=a→(Op.equal t (L4 x) (L4 y)).run P w=.ok (HQ x y) w
def Mw(a b:TypeId):Nat→List Field→List Bool→Bool
 |_,[],[]=>true
 |i,f::c,k::d=>f.name !="_"&&Nat.beq f.type (cond k a b)&&Nat.beq f.offset i&&Mw a b (i+1) c d
 |_,_,_=>false
section
variable{P:Program}{w:World}
theorem JU{e:TypeId}(he:One P e){cs:Array Value}{i:Nat}{v:Value}(h:cs[i]?=some v):(part e cs i).run P w=.ok v w:=by
 simp only[part,Sem.run_bind,Jh he,Result.andThen_ok,h];rfl
theorem M5{l o:TypeId}(v:One P l)(u1:P.underlying l=some (.int .i64))(z:One P o)(aA:P.underlying o=some .bool)(d:Nat):∀(p:List Field) (c:List Bool) (x y b e:List (Int⊕Bool)),b.length=e.length→Mw l o b.length p c=true→x.map Lm=c→y.map Lm=c→
  (Op.eqFields (d+1) ((b++x).map KD).toArray ((e++y).map KD).toArray p).run P w=.ok (HQ x y) w
 |[],[],[],[],_,_,_,_,_,_=>by simp[Op.eqFields,HQ]
 |[],_::_,_,_,_,_,_,h,_,_=>by simp[Mw] at h
 |_::_,[],_,_,_,_,_,h,_,_=>by simp[Mw] at h
 |[],[],_::_,_,_,_,_,_,h,_=>by simp at h
 |[],[],_,_::_,_,_,_,_,_,h=>by simp at h
 |_::_,_::_,[],_,_,_,_,_,h,_=>by simp at h
 |_::_,_::_,_,[],_,_,_,_,_,h=>by simp at h
 |f::p,k::c,g::x,i::y,b,e,aB,aC,r,s=>by
  simp only[Mw,Bool.and_eq_true] at aC;obtain⟨⟨⟨t,a⟩,u⟩,aF⟩:=aC;have t:f.name≠"_":=by simpa using t
  have a:=Nat.eq_of_beq_eq_true a;have u:=Nat.eq_of_beq_eq_true u;simp only[List.map_cons,List.cons.injEq] at r s;have ih:=M5 v u1 z aA d p c x y (b++[g]) (e++[i]) (by simp[aB]) (by simpa using aF) r.2 s.2;rw[List.append_assoc,List.append_assoc] at ih;simp only[List.singleton_append] at ih;have aD:((b++g::x).map KD).toArray[f.offset]?=some (KD g):=by rw[u];simp
  have aE:((e++i::y).map KD).toArray[f.offset]?=some (KD i):=by rw[u,aB];simp
  cases k with
  |true=>
   cases g with
   |inr _=>simp[Lm] at r
   |inl m=>
    cases i with
    |inr _=>simp[Lm] at s
    |inl n=>
     have a:f.type=l:=a;have j:One P f.type:=by rw[a];exact v
     have q:=run_equalIn_int (P:=P) w d f.type .i64 .i64 m n (by rw[a];exact u1);simp only[Op.eqFields,t,ne_eq,not_false_eq_true,if_true,Sem.run_bind,JU j aD,JU j aE,KD,q,Result.andThen_ok,HQ];cases aG:(m==n)
     ·simp
     ·simpa using ih
  |false=>
   cases g with
   |inl _=>simp[Lm] at r
   |inr m=>
    cases i with
    |inl _=>simp[Lm] at s
    |inr n=>
     have a:f.type=o:=a;have j:One P f.type:=by rw[a];exact z
     have q:=run_equalIn_bool (P:=P) w d f.type m n (by rw[a];exact aA);simp only[Op.eqFields,t,ne_eq,not_false_eq_true,if_true,Sem.run_bind,JU j aD,JU j aE,KD,q,Result.andThen_ok,HQ];cases aG:(m==n)
     ·simp
     ·simpa using ih
theorem OU{K c d:Nat}{a:Array Field}{e:List Bool}(hK:P.underlying K=some (.struct a))(f:P.stoodInHeld K=false)(g:Mw c d 0 a.toList e=true)(i:One P c)(u1:P.underlying c=some (.int .i64))(j:One P d)(l:P.underlying d=some .bool):RH P K e:=by
 intro w x y m n;have b:P.fieldsOf K=a:=by simp[Program.fieldsOf,hK]
 have h:=run_equalIn_struct (P:=P) w 9999 K (x.map KD).toArray (y.map KD).toArray (by rw[b];exact hK) f;have k:=M5 (P:=P) (w:=w) i u1 j l 9998 a.toList e x y [] [] rfl g m n;simp only[List.nil_append] at k;rw[b,k] at h;exact h
end
section
variable{P:Program}{a:Act}{w:World}{dst:Option Tmp}{ty:TypeId}{pos:String}{Cg:Array Edge}{g:Option (Nat×Bool)}
theorem PV{x y:Operand}{v1 v2:Value}{x1 x2:List (Int⊕Bool)}{b:List Bool}{t d:TypeId}(e:RH P t b)(c:P.eqGuardType P.depth t=false)(f:a.eval x=v1)(h:a.eval y=v2)(i:v1=L4 x1)(j:v2=L4 x2)(k:x1.map Lm=b)(l:x2.map Lm=b):
  BP P ⟨dst,.binOp .eql t x y d,ty,pos,Cg,g⟩ a w (fun u w'=>u=.bool (HQ x1 x2)∧w'=w):=by
 refine PK f h ?_;subst i;subst j;have m:=e w x1 x2 k l;have n:(eqGuard .eql t x y (L4 x1) (L4 x2)).run P w=.ok () w:=by
  simp[eqGuard,L4,program,Sem.run,c]
 simp only[Sem.run_bind,n,Result.andThen_ok];show(do pure (Value.bool (←Op.equal t (L4 x1) (L4 x2))):Sem Value).run P w=_;simp only[Sem.run_bind,m,Result.andThen_ok,Sem.run_pure]
theorem SG{x y:Operand}{p q:Option Addr}{t u:TypeId}{b:Bool}(c:a.eval x=.pointer p)(d:a.eval y=.pointer q)(e:(Op.equal t (.pointer p) (.pointer q)).run P w=.ok b w):BP P ⟨dst,.binOp .eql t x y u,ty,pos,Cg,g⟩ a w (fun v w'=>v=.bool b∧w'=w):=
 Cu (by simp[execOp,c,d,binOp,e,eqGuard])
theorem LC {α:Type} {e:En α} {aA t:TypeId} {x y:Operand} {b o k p c:Nat} {v:Value} {n0:Nat} {Z:Nat→Prop} {A:Option Addr} {xs:List α} {z z':α} {l:List Value} {n:Nat}
  (aB:AL e aA n0 w Z A c xs) (aD:xs[k]?=some z) (aM:A=some ⟨b,o,none⟩) (aN:p=o+k*e.sz) (aO:a.eval x=.pointer (some ⟨b,p,none⟩)) (aP:a.eval y=v) (aQ:(P.info? t).map (·.size)=some n) (aR:v.cells.toList=l) (aS:l.length=n)
  (aT:∀u∈l,u.oneCell'=true) (aE:e.R w Z l z'):
  BP P ⟨dst,.store t x y,ty,pos,Cg,g⟩ a w (fun _ w'=>w.grownBy w' (ob A)∧∃Bm,R2 e w Z Bm (xs.set k z')∧D6 w' n0 aA e.sz A (xs.set k z').length c Bm.flatten):=by
 obtain⟨Bm,f,aU⟩:=aB;obtain⟨a4,aY,aF,aZ⟩:=f.get aD;have a0:=e.len aF;have aG:=e.len aE;subst aM;subst aN;have aH:k<xs.length:=(List.getElem?_eq_some_iff.1 aD).1;have hlen:=f.len;have h:=f.lens;rcases aU.2 with⟨aI,h0⟩|⟨a5,cap,cur,aI,aJ,aV,q,aK,aC,i⟩
 ·omega
 ·cases aI;have a2:k*e.sz+e.sz≤xs.length*e.sz:=by
   have:(k+1)*e.sz≤xs.length*e.sz:=Nat.mul_le_mul_right _ aH;rw[Nat.add_mul,Nat.one_mul] at this;exact this
  have a3:xs.length*e.sz≤c*e.sz:=Nat.mul_le_mul_right _ q;have aL:Bk w b aA cur:=aV;refine(Bi (B8:=setCells cur (0+k*e.sz) l) aO aP aQ aL aR aS (by omega) aT rfl).mono ?_;rintro _ w' ⟨s1,s2,aW⟩;have d:=f.set aE k;refine⟨aW,_,d,by rw[d.Jj],.inr ⟨b,c,setCells cur (0+k*e.sz) l,rfl,aJ,s2,by rw[List.length_set];exact q,aK,by rw[EC 0];exact aC,?_⟩⟩;rw[List.length_set];rcases Nat.eq_zero_or_pos e.sz with h0|h0
  ·have aX:(Bm.set k l).flatten=[]:=List.eq_nil_of_length_eq_zero (by rw[d.Jj,h0,Nat.mul_zero]);rw[aX,h0,Nat.mul_zero,List.take_zero]
  ·refine List.ext_getElem? fun j=>?_;rw[LA aG h0 k Bm j h (by omega),List.getElem?_take,Array.getElem?_toList,FQ _ _ _ _ (by omega)];have r:∀j:Nat,Bm.flatten[j]?=if j<xs.length*e.sz then cur[j]? else none:=fun j=>by
    rw[←i,List.getElem?_take,Array.getElem?_toList]
   by_cases m:j<xs.length*e.sz
   ·rw[if_pos m]
    by_cases s:k*e.sz≤j∧j<k*e.sz+e.sz
    ·rw[if_pos (by omega),if_pos s,show j-(0+k*e.sz)=j-k*e.sz by omega]
    ·rw[if_neg (by omega),if_neg s,r,if_pos m]
   ·rw[if_neg m,if_neg (by omega),r,if_neg m]
theorem Gx{α:Type}{e:En α}{f t:TypeId}{x y:Operand}{b o k p c:Nat}{v:Value}{n0:Nat}{Z:Nat→Prop}{A:Option Addr}{xs:List α}{z z':α}{l:List Value}{n:Nat}
  (d:AL e f n0 w Z A c xs)(i:xs[k]?=some z)(j:A=some ⟨b,o,none⟩)(m:p=o+k)(q:a.eval x=.pointer (some ⟨b,p,none⟩))(r:a.eval y=v)(s:(P.info? t).map (·.size)=some n)(aA:v.cells.toList=l)(aB:l.length=n)
  (aC:∀u∈l,u.oneCell'=true)(aD:e.R w Z l z')(h:e.sz=1:=by rfl):
  BP P ⟨dst,.store t x y,ty,pos,Cg,g⟩ a w (fun _ w'=>w.grownBy w' (ob A)∧∃Bm,R2 e w Z Bm (xs.set k z')∧D6 w' n0 f e.sz A (xs.set k z').length c Bm.flatten):=
 LC d i j (by rw[h,Nat.mul_one];exact m) q r s aA aB aC aD
end
theorem KE{l:List Int}{i:Nat}{x:Int}(h:l[i]?=some x):(l.map fun n=>Value.int .i64 n)[i]?=some (.int .i64 x):=by rw[List.getElem?_map,h];rfl
theorem AL.Vp {α:Type} {e:En α} {t:TypeId} {n0:Nat} {w:World} {Z:Nat→Prop} {A:Option Addr} {c k:Nat} {xs:List α} {x:α} (h:AL e t n0 w Z A c xs) (h0:0<e.sz) (f:xs[k]?=some x):
  ∃b o cs,A=some ⟨b,o,none⟩∧e.R w Z cs x∧Rz w ZA (some ⟨b,o+k*e.sz,none⟩) cs:=by
 obtain⟨Bm,g,i⟩:=h;have q:Sl e w ZA A c xs:=AL.all (t:=t) (n0:=n0) (Z:=Z) ⟨Bm,g,i⟩;obtain⟨b,o,B8,l,y,aB⟩:=q.elem h0 f;obtain⟨m,z,a,n⟩:=g.get f;refine⟨b,o,m,l,a,?_⟩;have hlen:m.length=e.sz:=e.len a;have r:=i.rd;rcases r.2 with s|⟨b',o',d,_,p,v⟩
 ·have:=g.Jj;rw[s] at this;have aA:k<xs.length:=(List.getElem?_eq_some_iff.1 f).1;have aC:0<xs.length*e.sz:=Nat.mul_pos (by omega) h0;simp at this;omega
 ·rw[l] at d;cases d;refine .inr ⟨b,_,rfl,trivial,p,fun j u hu=>?_⟩;rw[Nat.add_assoc];refine v _ _ ?_;rw[←n,List.getElem?_take] at hu;split at hu
  ·simpa using hu
  ·cases hu
theorem AL.Ii{α:Type}{e:En α}{t:TypeId}{n0:Nat}{w:World}{Z:Nat→Prop}{A:Option Addr}{c k:Nat}{xs:List α}{x:α}(h:AL e t n0 w Z A c xs)(d:e.sz=1)(f:xs[k]?=some x):
  ∃b o cs,A=some ⟨b,o,none⟩∧e.R w Z cs x∧Rz w ZA (some ⟨b,o+k,none⟩) cs:=by
 obtain⟨b,o,cs,g,i,a⟩:=h.Vp (by omega) f;rw[d,Nat.mul_one] at a;exact⟨b,o,cs,g,i,a⟩
def TC(w:World)(D:Nat→Prop)(M:World→Prop):Nat→World→Prop
 |0,w'=>Ext w w'
 |_+1,w'=>Bo D w w'∧M w'
section
variable{w w' BA:World}{D:Nat→Prop}{M:World→Prop}{ph:Nat}
theorem Gl(h:TC w D M ph w'):Bo D w w':=by
 cases ph with
 |zero=>exact Gr h
 |succ=>exact h.1
theorem BL(h:TC w D M ph w')(a:ph=0):Ext w w':=by subst a;exact h
theorem HR(c:∀a b,M a→Ext a b→M b)(h:TC w D M ph w')(g:Ext w' BA):TC w D M ph BA:=by
 cases ph with
 |zero=>exact Ext.trans h g
 |succ=>exact⟨(show Bo D w w' from h.1).trans (Gr g),c _ _ h.2 g⟩
theorem Iu(h:TC w D M ph w')(a:ph=0)(g:Bo D w' BA)(b:M BA):TC w D M (ph+1) BA:=by
 subst a;exact⟨(Gr h).trans g,b⟩
theorem IA{r:Option Nat}(g:w.grownBy w' r):Bo (FU FN [r]) w w':=IL g fun k e=>.inr (by rw[e];exact List.mem_singleton_self _)
end
section
variable{F F':Nat→Prop}{B:List (Option Nat)}{w0 w w':World}{L M:List (Option Nat)}
theorem Hp.PW{Z:Nat→Prop}{a:Nat}(h:Hp F B w0 L w)(c:w.heap.size≤a):Mv w' (ZZ FN [] FN a []) w' (ZZ F B Z w0.heap.size L):=Hf fun b d _=>by
 rcases d with⟨_,e,_⟩|⟨f,_⟩
 ·exact e.elim
 ·refine .inr ⟨Nat.le_trans h.sz (Nat.le_trans c f),fun hm=>?_⟩;have:=(h.lo b hm).1;omega
theorem Hp.SH{α:Type}{e:En α}{t:TypeId}{A:Option Addr}{c:Nat}{xs:List α}{Z Z':Nat→Prop}(h:Hp F B w0 L w)(b:∀w Z w' Z' cs x,e.R w Z cs x→e.R w' Z' cs x)(a:AL e t w.heap.size w' Z' A c xs):AL e t w0.heap.size w' Z A c xs:=
 AL.PT b (a.base (n1:=w0.heap.size) fun k d=>Nat.le_trans h.sz (a.ge k d))
theorem Hp.L5{α:Type}{e:En α}{t:TypeId}{A:Option Addr}{c:Nat}{xs:List α}{Z a:Nat→Prop}(h:Hp F B w0 L w)(b:∀w Z w' Z' cs x,e.R w Z cs x→e.R w' Z' cs x)(d:AL e t w.heap.size w' a A c xs):Sl e w' (ZZ F B Z w0.heap.size L) A c xs:=
 (AL.PT b d).sl fun k _ h0=>h.kn h0
theorem Hp.Mx (h:Hp F B w0 L w) (f:Hp F B w0 L w') {b:Nat} (p:w.heap.size≤b) (l:b<w'.heap.size):Hp F B w0 (some b::L) w':=by
 refine⟨f.ch,fun k a=>?_,?_,h.ff⟩
 ·rcases List.mem_cons.1 a with e|a
  ·cases e;exact⟨l,fun m=>absurd (h.ff _ m) (by have:=h.sz;omega),fun n=>absurd n (by have:=h.sz;omega)⟩
  ·exact f.lo k a
 ·have key:∀(j:Nat) (x:Nat),L[j]?=some (some x)→x≠b:=fun j x o e=>by
   have:=(h.lo x (List.mem_of_getElem? o)).1;omega
  intro i j x g hi c;cases i with
  |zero=>
   cases j with
   |zero=>exact g rfl
   |succ j=>
    have d:b=x:=by simpa using hi
    exact key j x (by simpa using c) d.symm
  |succ i=>
   cases j with
   |zero=>
    have d:b=x:=by simpa using c
    exact key i x (by simpa using hi) d.symm
   |succ j=>exact h.ap i j x (by omega) (by simpa using hi) (by simpa using c)
theorem Gh{Z:Nat→Prop}{n0:Nat}{b:Nat}(hm:Mv w (ZZ F B Z n0 L) w' (ZZ F B Z n0 L))(h:w.heap.size≤b):Mv w (ZZ F B Z n0 L) w' (ZZ F B Z n0 (some b::L)):=
 ⟨hm.size,fun k c d=>⟨(hm.stay k c d).1.imp id fun⟨f,g⟩=>⟨f,fun a=>by
  rcases List.mem_cons.1 a with e|a
  ·cases e;omega
  ·exact g a⟩,(hm.stay k c d).2⟩⟩
end
def PX (w:World) (R:World→Value→World→Prop):Ke Ext:=
 ⟨fun v a=>∃w1 w2,Ext w w1∧R w1 v w2∧Ext w2 a,fun _ _ _ ⟨w1,w2,b,c,d⟩ g=>⟨w1,w2,b,c,Ext.trans d g⟩⟩
def I8(w:World)(R:World→Value→World→Prop)(a:World):Prop:=∃v w1 w2,Ext w w1∧R w1 v w2∧Ext w2 a
theorem HI{w:World}{R:World→Value→World→Prop}:∀a b,I8 w R a→Ext a b→I8 w R b:=fun _ _ ⟨v,w1,w2,c,d,e⟩ g=>⟨v,w1,w2,c,d,Ext.trans e g⟩
def L6(_:World):Prop:=True
theorem KF:∀a b,L6 a→Ext a b→L6 b:=fun _ _ _ _=>trivial
def Hv(n:Nat)(w:World):List Nat→Prop
 |[]=>True
 |b::l=>n≤b∧b<w.heap.size∧(l.all fun x=> !Nat.beq b x)=true∧Hv n w l
section
variable{F F':Nat→Prop}{B:List (Option Nat)}{w0 w w':World}{L M:List (Option Nat)}{Z:Nat→Prop}
theorem Hv.mem{n:Nat}:∀{l:List Nat},Hv n w l→∀b∈l,n≤b∧b<w.heap.size
 |[],_,_,h=>by cases h
 |x::l,h,b,a=>by
  rcases List.mem_cons.1 a with rfl|a
  ·exact⟨h.1,h.2.1⟩
  ·exact Hv.mem h.2.2.2 b a
theorem Hv.grow{n a:Nat}(b:a≤n)(c:w.heap.size≤w'.heap.size):∀{l:List Nat},Hv n w l→Hv a w' l
 |[],_=>trivial
 |_::_,h=>⟨Nat.le_trans b h.1,Nat.lt_of_lt_of_le h.2.1 c,h.2.2.1,Hv.grow b c h.2.2.2⟩
theorem Hp.NY(h:Hp F B w0 L w):∀{l:List Nat},Hp F B w0 L w'→Hv w.heap.size w' l→Hp F B w0 (l.map some++L) w'
 |[],c,_=>c
 |b::l,c,a=>by
  have d:=Hp.NY h c a.2.2.2;refine⟨d.ch,fun k f=>?_,?_,h.ff⟩
  ·rcases List.mem_cons.1 f with e|f
   ·cases e;exact⟨a.2.1,fun p=>absurd (h.ff _ p) (by have:=h.sz;have:=a.1;omega),fun n=>absurd n (by have:=h.sz;have:=a.1;omega)⟩
   ·exact d.lo k f
  ·have key:∀(j:Nat) (x:Nat),(l.map some++L)[j]?=some (some x)→x≠b:=fun j x q e=>by
    subst e;have hm:=List.mem_of_getElem? q;rcases List.mem_append.1 hm with hm|hm
    ·obtain⟨y,r,e⟩:=List.mem_map.1 hm;cases e;have:=List.all_eq_true.1 a.2.2.1 x r;rw[Nat.beq_refl] at this;cases this
    ·have:=(h.lo x hm).1;have:=a.1;omega
   intro i j x o hi g;cases i with
   |zero=>
    cases j with
    |zero=>exact o rfl
    |succ j=>
     have m:b=x:=by simpa using hi
     exact key j x (by simpa using g) m.symm
   |succ i=>
    cases j with
    |zero=>
     have m:b=x:=by simpa using g
     exact key i x (by simpa using hi) m.symm
    |succ j=>exact d.ap i j x (by omega) (by simpa using hi) (by simpa using g)
theorem Hp.My(h:Hp F B w0 L w)(g:Ext w w'){l:List Nat}(a:Hv w.heap.size w' l):Hp F B w0 (l.map some++L) w':=h.NY (h.ext g) a
theorem Fo{n0:Nat}{l:List Nat}(hm:Mv w (ZZ F B Z n0 L) w' (ZZ F B Z n0 L))(d:Hv w.heap.size w' l):Mv w (ZZ F B Z n0 L) w' (ZZ F B Z n0 (l.map some++L)):=
 ⟨hm.size,fun k c b=>⟨(hm.stay k c b).1.imp id fun⟨f,g⟩=>⟨f,fun a=>by
  rcases List.mem_append.1 a with a|a
  ·obtain⟨y,h,e⟩:=List.mem_map.1 a;cases e;have:=(d.mem k h).1;omega
  ·exact g a⟩,(hm.stay k c b).2⟩⟩
theorem PY{b c:Nat}(f:w.heap.size≤b)(a:b<w'.heap.size)(g:w.heap.size≤c)(d:c<w'.heap.size)(e:b≠c):Hv w.heap.size w' [b,c]:=
 ⟨f,a,by
  have:Nat.beq b c=false:=by
   cases h:Nat.beq b c with
   |false=>rfl
   |true=>exact absurd (Nat.eq_of_beq_eq_true h) e
  simp[this],g,d,rfl,trivial⟩
theorem Hp.RI (h:Hp F B w0 L w):∀(l:List Nat) (c:List Nat),GH L c (l.map some)→Jt c=true→(∀b∈l,w0.heap.size≤b)→Hv w0.heap.size w l
 |[],_,_,_,_=>trivial
 |b::l,[],a,_,_=>a.elim
 |b::l,j::c,a,e,d=>by
  simp only[Jt,Bool.and_eq_true] at e;refine⟨d b (List.mem_cons_self ..),(h.lo b (List.mem_of_getElem? a.1)).1,?_,h.RI l c a.2 e.2 fun x f=>d x (List.mem_cons_of_mem _ f)⟩;rw[List.all_eq_true];intro x f;cases i:Nat.beq b x with
  |false=>rfl
  |true=>
   have g:=Nat.eq_of_beq_eq_true i;subst g;have k:=h.BE (F':=FN) j a.1 c e.1 a.2 (fun _ h=>h.elim);exact absurd (.inr (List.mem_map.2 ⟨b,f,rfl⟩)) k
end
section
variable{P:Program}{N:Nat}{Q:Exit→Act→World→Prop}{a:Act}{l:Env}{w:World}
def Mz(a:Act):Act:={a with defers:=[]}
theorem KG(a:Act):∀l:Env,B3 (Mz a) l=Mz (B3 a l)
 |[]=>rfl
 |(d,v)::l=>by simp only[B3,KG a l];rfl
theorem L7{D:Nat}{fn:Func}{R:Value→World→Prop}(c:w.heap[D]?=some (.deferred (some [])))(h:∀w',GW D w w'→LV X0 N (bodyPost P fn (fun e w'=>∃v,e=.returned v∧R v w')) .ret (Mz a) l w'):
  LV (X1 D) N (PM P fn R) .ret a l w:=fun s=>by
 have d:St X0 N (Mz a) l:=⟨s.sz,rfl,s.lt⟩;obtain⟨_,v,b,f⟩:=h _ (GX w D (.deferred none)) d;show LeavesInM Fence.wide 0 P fn _ _ (B3 a l).defers .returning w;rw[DI,show a.defers=mark D from s.df];refine⟨by simp,.inl ⟨D,_,rfl,run_takeDeferred c,?_⟩⟩;rw[KG] at b;exact⟨v,b,f⟩
theorem O6{D:Nat}{fn:Func}{R:Value→World→Prop}(c:w.heap[D]?=some (.deferred (some [])))(h:∀w',GW D w w'→LV X0 N (bodyPost P fn (fun e w'=>∃v,e=.returned v∧R v w')) .normal (Mz a) l w'):
  LV (X1 D) N (PM P fn R) .normal a l w:=fun s=>by
 have d:St X0 N (Mz a) l:=⟨s.sz,rfl,s.lt⟩;obtain⟨_,v,b,f⟩:=h _ (GX w D (.deferred none)) d;show LeavesInM Fence.wide 0 P fn _ _ (B3 a l).defers .returning w;rw[DI,show a.defers=mark D from s.df];refine⟨by simp,.inl ⟨D,_,rfl,run_takeDeferred c,?_⟩⟩;rw[KG] at b;exact⟨v,b,f⟩
end
theorem O7{α:Type}{b:Bool}{x:Option α}{r:α}(h:cond b none x=some r):b=false∧x=some r:=by
 cases b with
 |true=>cases h
 |false=>exact⟨rfl,h⟩
def Di(xs:List Int):List Int:=xs.mergeSort fun x y=>decide (x≤y)
theorem IQ(xs:List Int):(Di xs).length=xs.length:=List.length_mergeSort _
theorem Qx{w:World}{Z:Nat→Prop}:∀{Bm:List (List Value)} {xs:List Int},R2 (AF .i64) w Z Bm xs→Bm.flatten=Cs xs
 |[],[],_=>rfl
 |c::Bm,x::xs,h=>by
  have a:c=[.int .i64 x]:=h.1;rw[List.flatten_cons,Qx h.2,a];rfl
 |[],_::_,h=>h.elim
 |_::_,[],h=>h.elim
theorem Qy{w:World}{Z:Nat→Prop}:∀xs:List Int,R2 (AF .i64) w Z (xs.map fun x=>[.int .i64 x]) xs
 |[]=>trivial
 |_::xs=>⟨rfl,Qy xs⟩
theorem RJ(xs:List Int):(xs.map fun x=>[Value.int .i64 x]).flatten=Cs xs:=by
 induction xs with
 |nil=>rfl
 |cons x xs ih=>rw[List.map_cons,List.flatten_cons,ih];rfl
theorem PZ{t:TypeId}{n0:Nat}{w:World}{Z:Nat→Prop}{A:Option Addr}{c:Nat}{xs:List Int}(h:AL (AF .i64) t n0 w Z A c xs):D6 w n0 t 1 A xs.length c (Cs xs):=by
 obtain⟨Bm,a,b⟩:=h;rw[←Qx a];exact b
theorem K6{t:TypeId}{n0:Nat}{w:World}{Z:Nat→Prop}{A:Option Addr}{c:Nat}{xs:List Int}(h:D6 w n0 t 1 A xs.length c (Cs xs)):AL (AF .i64) t n0 w Z A c xs:=
 ⟨_,Qy xs,by rw[RJ];exact h⟩
theorem Vq{α β:Type}{x:Option β}{f:α→Option β}{r:β}(h:Option.elim none x f=some r):x=some r:=h
theorem Vr{α β:Type}{a:α}{x:Option β}{f:α→Option β}{r:β}(h:Option.elim (some a) x f=some r):f a=some r:=h
theorem JV{F:Nat→Prop}{b:Nat}{L:List (Option Nat)}(h:¬F b∧some b∉L):¬F b∧some b∉L++[none]:=⟨h.1,fun hm=>by
 rcases List.mem_append.1 hm with a|a
 ·exact h.2 a
 ·simp at a⟩
theorem Bo.O8{F:Nat→Prop}{C:List (Option Nat)}{o:Option Nat}{w w':World}(g:Bo (FU F (C++[o]++[none])) w w'):Bo (FU (FU F C) [o]) w w':=g.mono fun k h=>by
 rcases h with h|h
 ·exact .inl (.inl h)
 ·rcases List.mem_append.1 h with a|a
  ·rcases List.mem_append.1 a with b|b
   ·exact .inl (.inr b)
   ·exact .inr b
  ·simp at a
theorem Sl.SI{α β:Type}{e:En α}{ev:β→Value}{F:Nat→Prop}{B L:List (Option Nat)}{Z:Nat→Prop}{n0 r n:Nat}{w:World}{i:List (List Int×β)}{A:Option Addr}{c:Nat}{xs:List α}
  (j:∀w Z w' Z' cs x,e.R w Z cs x→e.R w' Z' cs x)(hm:Ct ev w r n i)(h:Sl e w (ZZ F B Z n0 L) A c xs):Sl e w (ZZ F B Z n0 (some r::L)) A c xs:=by
 obtain⟨k,m,Bm,p,d⟩:=h;refine⟨k,m,Bm,p.free j,?_⟩;rcases d with d|⟨b,o,q,s,t,f⟩
 ·exact .inl d
 ·cases g:Bm.flatten with
  |nil=>exact .inl rfl
  |cons u l=>
   rw[g] at f;refine .inr ⟨b,o,q,s.imp id fun⟨v,y⟩=>⟨v,fun a=>?_⟩,t,f⟩;rcases List.mem_cons.1 a with e|a
   ·cases e;obtain⟨es,aA,z,_⟩:=hm;have:=f 0 u rfl;unfold World.cell? at this;simp[z] at this
   ·exact y a
section
variable{P:Program}{N:Nat}{a:Act}{l:Env}{w:World}
theorem Hw{fn:Func}{r1 r2 n:ResultVar}{v v' Jf:Value}{R:Value→World→Prop}(g:fn.results= #[r1,r2,n])(x:NS P a l w r1 v)(q:NS P a l w r2 v')(i:NS P a l w n Jf)(h:R (.tuple #[v,v',Jf]) w):
  LV X0 N (bodyPost P fn (fun e w'=>∃v,e=.returned v∧R v w')) .ret a l w:=fun s=>by
 refine bodyPost_ret (v:=.tuple #[v,v',Jf]) ?_ (by rw[DI,s.df]) ⟨_,rfl,h⟩;cases r1 with
 |tmp t0=>
  have d:(B3 a l).tmps.getD t0 undef=v:=ee s x;simp only[Array.getD_eq_getD_getElem?] at d;cases r2 with
  |tmp t1=>
   have c:(B3 a l).tmps.getD t1 undef=v':=ee s q;simp only[Array.getD_eq_getD_getElem?] at c;cases n with
   |tmp t2=>
    have b:(B3 a l).tmps.getD t2 undef=Jf:=ee s i;simp only[Array.getD_eq_getD_getElem?] at b;simp[results,g,d,c,b]
   |cell j t2=>
    obtain⟨f,k,m⟩:=i;have b:(B3 a l).tmps.getD j undef=.pointer (some f):=ee s k;simp only[Array.getD_eq_getD_getElem?] at b;simp[results,g,d,c,b,asAddr,m]
  |cell t t1=>
   obtain⟨o,u,p⟩:=q;have c:(B3 a l).tmps.getD t undef=.pointer (some o):=ee s u;simp only[Array.getD_eq_getD_getElem?] at c;cases n with
   |tmp t2=>
    have b:(B3 a l).tmps.getD t2 undef=Jf:=ee s i;simp only[Array.getD_eq_getD_getElem?] at b;simp[results,g,d,c,asAddr,p,b]
   |cell j t2=>
    obtain⟨f,k,m⟩:=i;have b:(B3 a l).tmps.getD j undef=.pointer (some f):=ee s k;simp only[Array.getD_eq_getD_getElem?] at b;simp[results,g,d,c,asAddr,p,b,asAddr,m]
 |cell z t0=>
  obtain⟨y,aA,r⟩:=x;have d:(B3 a l).tmps.getD z undef=.pointer (some y):=ee s aA;simp only[Array.getD_eq_getD_getElem?] at d;cases r2 with
  |tmp t1=>
   have c:(B3 a l).tmps.getD t1 undef=v':=ee s q;simp only[Array.getD_eq_getD_getElem?] at c;cases n with
   |tmp t2=>
    have b:(B3 a l).tmps.getD t2 undef=Jf:=ee s i;simp only[Array.getD_eq_getD_getElem?] at b;simp[results,g,d,asAddr,r,c,b]
   |cell j t2=>
    obtain⟨f,k,m⟩:=i;have b:(B3 a l).tmps.getD j undef=.pointer (some f):=ee s k;simp only[Array.getD_eq_getD_getElem?] at b;simp[results,g,d,asAddr,r,c,b,asAddr,m]
  |cell t t1=>
   obtain⟨o,u,p⟩:=q;have c:(B3 a l).tmps.getD t undef=.pointer (some o):=ee s u;simp only[Array.getD_eq_getD_getElem?] at c;cases n with
   |tmp t2=>
    have b:(B3 a l).tmps.getD t2 undef=Jf:=ee s i;simp only[Array.getD_eq_getD_getElem?] at b;simp[results,g,d,asAddr,r,c,asAddr,p,b]
   |cell j t2=>
    obtain⟨f,k,m⟩:=i;have b:(B3 a l).tmps.getD j undef=.pointer (some f):=ee s k;simp only[Array.getD_eq_getD_getElem?] at b;simp[results,g,d,asAddr,r,c,asAddr,p,b,asAddr,m]
end
theorem Uf{w w':World}{Z Z' Q:Nat→Prop}(h:Mv w Z w' Z'):Mv w (fun b=>Z b∧Q b) w' (fun b=>Z' b∧Q b):=⟨h.size,fun b a c=>⟨⟨(h.stay b a.1 c).1,a.2⟩,(h.stay b a.1 c).2⟩⟩
def eF(n:Nat):En (Bool×List Int):=
 ⟨1,fun w Z cs x=>∃A c,cs=[.slice A x.2.length c]∧Sl (AF .i64) w (fun b=>Z b∧(x.1=true→n≤b)) A c x.2,fun⟨_,_,h,_⟩=>by rw[h];rfl,fun⟨_,_,h,_⟩=>by rw[h];simp[Value.oneCell'],
  fun⟨A,c,a,d⟩ g=>⟨A,c,a,d.mv (Uf g)⟩⟩
theorem Ug{n:Nat}{w:World}{Z:Nat→Prop}:∀{Bm:List (List Value)} {xs:List (List Int)},R2 (BG (AF .i64)) w Z Bm xs→R2 (eF n) w Z Bm (xs.map fun x=>(false,x))
 |[],[],_=>trivial
 |_::_,_::_,⟨⟨A,c,a,b⟩,h⟩=>⟨⟨A,c,a,b.mv (Hf fun _ d _=>⟨d,fun e=>by cases e⟩)⟩,Ug h⟩
 |[],_::_,h=>h.elim
 |_::_,[],h=>h.elim
theorem Uh{n:Nat}{w:World}{Z:Nat→Prop}:∀{Bm:List (List Value)} {xs:List (Bool×List Int)},(∀y∈xs,y.1=true)→R2 (eF n) w Z Bm xs→R2 (BG (AF .i64)) w (fun b=>n≤b) Bm (xs.map Prod.snd)
 |[],[],_,_=>trivial
 |_::_,x::_,a,⟨⟨A,c,d,e⟩,h⟩=>⟨⟨A,c,d,e.mv (Hf fun _ f _=>f.2 (a x (List.mem_cons_self ..)))⟩,Uh (fun y g=>a y (List.mem_cons_of_mem _ g)) h⟩
 |[],_::_,_,h=>h.elim
 |_::_,[],_,h=>h.elim
theorem Vs{t n0 n:Nat}{w:World}{Z:Nat→Prop}{A:Option Addr}{c:Nat}{xs:List (List Int)}(h:AL (BG (AF .i64)) t n0 w Z A c xs):AL (eF n) t n0 w Z A c (xs.map fun x=>(false,x)):=by
 obtain⟨Bm,a,b⟩:=h;exact⟨Bm,Ug a,by rw[List.length_map];exact b⟩
theorem Vt{t n0 n:Nat}{w:World}{Z:Nat→Prop}{A:Option Addr}{c:Nat}{xs:List (Bool×List Int)}(a:∀y∈xs,y.1=true)(h:AL (eF n) t n0 w Z A c xs):AL (BG (AF .i64)) t n0 w (fun b=>n≤b) A c (xs.map Prod.snd):=by
 obtain⟨Bm,d,e⟩:=h;exact⟨Bm,Uh a d,by rw[List.length_map];exact e⟩
theorem Ui{a:List (Bool×List Int)}{k:Nat}{x:List Int}(h:(a.map Prod.snd)[k]?=some x):∃b,a[k]?=some (b,x):=by
 rw[List.getElem?_map] at h;cases c:a[k]? with
 |none=>rw[c] at h;cases h
 |some y=>rw[c] at h;cases h;exact⟨y.1,rfl⟩
end Go.Proofs.YtkljfdkmjdjpfaaGreat
end
section
namespace Go.Proofs.YtkljfdkmjdjpfaaGreat
open Go.RowKit
theorem G8{b:Nat}{t:TypeId}:∀(l:List Value) (o:Nat) {w:World} {cs:Array Value},Bk w b t cs→Bk (w.setCells b o l) b t (setCells cs o l)∧w.grownBy (w.setCells b o l) (some b)
 |[],o,w,cs,h=>⟨h,World.grownBy.refl w _⟩
 |v::l,o,w,cs,h=>by
  have c:Bk (w.setCell ⟨b,o,none⟩ v) b t (cs.setIfInBounds o v):=by
   unfold Bk at h⊢;simp[World.setCell,Array.getElem?_modify,h]
  have g1:GW b w (w.setCell ⟨b,o,none⟩ v):=⟨rfl,rfl,rfl,by simp,fun k _ a=>Below.heap_setCell w ⟨b,o,none⟩ v k (by simpa using a)⟩;have ih:=G8 l (o+1) c;exact⟨ih.1,World.grownBy.trans g1 ih.2⟩
def CZ (xs:List Int) (i:Int) (x:Int):List Int:=xs.take i.toNat++x::xs.drop i.toNat
theorem Ln(xs:List Int)(i:Int)(x:Int):(CZ xs i x).length=xs.length+1:=by
 unfold CZ;simp;omega
theorem RK{w w':World}{b:Nat}{o:Obj}(a:b=w.heap.size)(g:World.grownBy (w.alloc o) w' (some b)):Ext w w':=
 ⟨g.os,g.tape,g.output,by have:=g.size;simp at this;omega,fun k c _=>by
  have d:=g.block k (by simp;omega) (by rw[a];intro e;cases e;omega);rw[d];exact(World.grownBy_alloc w o none).block k c (by simp)⟩
theorem Iv{w:World}{base t g c:Nat}{cur:Array Value}{l:List Value}(a:base≤g)(d:Bk w g t cur)(e:l.length≤c)(f:c≤maxLen)(i:cur.size=c)(h:∀j,j<l.length→cur[j]?=l[j]?):D6 w base t 1 (some ⟨g,0,none⟩) l.length c l:=by
 refine⟨by simp,.inr ⟨g,c,cur,rfl,a,d,e,f,by simp[i],?_⟩⟩;rw[Nat.mul_one];apply List.ext_getElem?;intro j;rw[List.getElem?_take];split
 ·rename_i b
  rw[←h j b];simp
 ·rename_i b
  rw[List.getElem?_eq_none (by omega)]
theorem Uj{b:Bool}(h:b=true→False):b=false:=by cases b<;>simp_all
theorem RL{b:Bool}(h:b=false)(k:b=true):False:=by rw[h] at k;cases k
section
variable{F F':Nat→Prop}{B:List (Option Nat)}{w0 w w' BA:World}{Z:Nat→Prop}{L M:List (Option Nat)}
theorem RM(h:Ext w w'){r:Option Nat}(g:w'.grownBy BA r)(b:∀k,r=some k→w.heap.size≤k):Ext w BA:=
 ⟨g.os.trans h.os,g.tape.trans h.tape,g.output.trans h.output,Nat.le_trans h.size g.size,fun k a _=>(g.block k (Nat.lt_of_lt_of_le a h.size) (fun e=>by have:=b k e.symm;omega)).trans (h.block k a (by simp))⟩
theorem IS{D:Nat→Prop}(h:Bo D w w'){r:Option Nat}(g:w'.grownBy BA r)(d:∀k,r=some k→D k∨w.heap.size≤k):Bo D w BA:=
 ⟨g.os.trans h.os,g.tape.trans h.tape,g.output.trans h.output,Nat.le_trans h.size g.size,fun k a b=>(g.block k (Nat.lt_of_lt_of_le a h.size) (fun e=>by
  rcases d k e.symm with c|c
  ·exact b c
  ·omega)).trans (h.block k a b)⟩
theorem K7{x y:Option Nat}{n:Nat}(a:∀k,x=some k→n≤k)(b:n≤w'.heap.size)(c:∀k,y=some k→(x=some k∨w'.heap.size≤k)∧k<BA.heap.size):∀k,y=some k→n≤k:=fun k d=>
 (c k d).1.elim (a k) (fun h=>Nat.le_trans b h)
theorem RN{x y a:Option Nat}{n:Nat}(b:∀k,x=some k→a=some k∨n≤k)(c:n≤w'.heap.size)(d:∀k,y=some k→(x=some k∨w'.heap.size≤k)∧k<BA.heap.size):∀k,y=some k→a=some k∨n≤k:=fun k e=>
 (d k e).1.elim (b k) (fun h=>.inr (Nat.le_trans c h))
theorem Qz{b:Nat}{t:TypeId}{cs:Array Value}(nb:Jg w' BA b t cs):∀k,ob (some ⟨b,0,none⟩)=some k→((none:Option Nat)=some k∨w'.heap.size≤k)∧k<BA.heap.size:=fun k e=>by
 cases e;exact⟨.inr (Nat.le_of_eq nb.Fl.symm),nb.bk.lt⟩
theorem Uk{α:Type}{e:En α}{t:TypeId}{A:Option Addr}{c:Nat}{xs:List α}{Z:Nat→Prop}(h:AL e t w'.heap.size BA Z A c xs):∀k,ob A=some k→((none:Option Nat)=some k∨w'.heap.size≤k)∧k<BA.heap.size:=fun k e=>⟨.inr (h.ge k e),h.Kf k e⟩
end
def eT:En (Bool×(Option Addr×Nat)×List Int):=
 ⟨1,fun w Z cs x=>∃A c,cs=[.slice A x.2.2.length c]∧(x.1=true→A=x.2.1.1∧c=x.2.1.2)∧(x.1=false→Sl (AF .i64) w Z A c x.2.2),fun⟨_,_,h,_⟩=>by rw[h];rfl,fun⟨_,_,h,_⟩=>by rw[h];simp[Value.oneCell'],
  fun⟨A,c,a,b,d⟩ g=>⟨A,c,a,b,fun e=>(d e).mv g⟩⟩
theorem Ul{w:World}{Z:Nat→Prop}:∀{Bm:List (List Value)} {xs:List (List Int)},R2 (BG (AF .i64)) w Z Bm xs→R2 eT w Z Bm (xs.map fun x=>(false,(none,0),x))
 |[],[],_=>trivial
 |_::_,_::_,⟨⟨A,c,a,b⟩,h⟩=>⟨⟨A,c,a,fun e=>(by cases e),fun _=>b⟩,Ul h⟩
 |[],_::_,h=>h.elim
 |_::_,[],h=>h.elim
theorem Um{w:World}{Z:Nat→Prop}:∀{Bm:List (List Value)} {xs:List (Bool×(Option Addr×Nat)×List Int)},(∀y∈xs,y.1=true→Sl (AF .i64) w Z y.2.1.1 y.2.1.2 y.2.2)→R2 eT w Z Bm xs→R2 (BG (AF .i64)) w Z Bm (xs.map fun y=>y.2.2)
  |[],[],_,_=>trivial
  |_::_,x::_,b,⟨⟨A,c,d,e,f⟩,h⟩=>⟨by
      cases a:x.1 with
      |true=>
        obtain⟨rfl,rfl⟩:=e a;exact⟨_,_,d,b x (List.mem_cons_self ..) a⟩
      |false=>exact⟨A,c,d,f a⟩,Um (fun y g=>b y (List.mem_cons_of_mem _ g)) h⟩
  |[],_::_,_,h=>h.elim
  |_::_,[],_,h=>h.elim
theorem Vu{t n0:Nat}{w:World}{Z:Nat→Prop}{A:Option Addr}{c:Nat}{xs:List (List Int)}(h:AL (BG (AF .i64)) t n0 w Z A c xs):AL eT t n0 w Z A c (xs.map fun x=>(false,(none,0),x)):=by
 obtain⟨Bm,a,b⟩:=h;exact⟨Bm,Ul a,by rw[List.length_map];exact b⟩
theorem Vv{t n0:Nat}{w:World}{Z:Nat→Prop}{A:Option Addr}{c:Nat}{xs:List (Bool×(Option Addr×Nat)×List Int)}(a:∀y∈xs,y.1=true→Sl (AF .i64) w Z y.2.1.1 y.2.1.2 y.2.2)(h:AL eT t n0 w Z A c xs):AL (BG (AF .i64)) t n0 w Z A c (xs.map fun y=>y.2.2):=by
 obtain⟨Bm,b,d⟩:=h;exact⟨Bm,Um a b,by rw[List.length_map];exact d⟩
def Jl (N i:Int):Nat→Int→List (List Int)→Option (List (List Int))
  |0,_,_=>none
  |a+1,k,s=>cond (decide (k<N)) (cond (k !=i) ((idx s (0:Int)).bind fun x=>(E6 (((x.length+([k]:List Int).length:Nat):Int)≤140737488355328/8)).bind fun _=>(idx s (0:Int)).bind fun _=>(i64 (k+1)).bind fun _=>Jl N i a (k+1) (s.set 0 (x++[k])))
      ((i64 (k+1)).bind fun _=>Jl N i a (k+1) s)) (some s)
theorem qz{X:Ctx}{N:Nat}{a:Act}{l:Env}(st:St X N a l):(B3 a l).tmps.size=N:=(If _ _).trans st.sz
theorem qd{X:Ctx}{N:Nat}{a:Act}{l:Env}(st:St X N a l):(B3 a l).defers=X.ds:=(DI _ _).trans st.df
theorem sp{X:Ctx}{N:Nat}{a:Act}{l:Env}(st:St X N a l)(k:Nat){v:Value}(h:lk (sl a k) l k=v):sl (B3 a l) k=v:=(HZ st k).trans h
theorem Hp.nb{F:Nat→Prop}{B L:List (Option Nat)}{w0 w w':World}{b:Nat}{t:TypeId}{cs:Array Value}(h:Hp F B w0 L w)(n:Jg w w' b t cs):Hp F B w0 (some b::L) w':=h.new n.gr (Nat.le_of_eq n.Fl.symm) (Nat.lt_of_lt_of_eq (Nat.lt_succ_self _) n.sz.symm)
theorem Hp.BJ{F:Nat→Prop}{B L:List (Option Nat)}{w0 w w':World}{b:Nat}{t:TypeId}{cs:Array Value}(h:Hp F B w0 L w)(n:Jg w w' b t cs):w0.heap.size≤b:=by rw[n.Fl];exact h.sz
theorem AB{F:Nat→Prop}{B L:List (Option Nat)}{Z:Nat→Prop}{w w':World}{n0 b:Nat}{t:TypeId}{cs:Array Value}(n:Jg w w' b t cs):Mv w (ZZ F B Z n0 L) w' (ZZ F B Z n0 (some b::L)):=DR n.gr (Nat.le_of_eq n.Fl.symm)
theorem X2{b c:Sort _}{p:b→c→Prop}{C:Prop}(h:∃a x1,p a x1)(k:∀a x1,p a x1→C):C:=h.elim fun a h=>h.elim fun x1 h=>k a x1 h
theorem X4{c d e f:Sort _}{p:c→d→e→f→Prop}{C:Prop}(h:∃a x1 x2 b,p a x1 x2 b)(k:∀a x1 x2 b,p a x1 x2 b→C):C:=h.elim fun a h=>h.elim fun x1 h=>h.elim fun x2 h=>h.elim fun b h=>k a x1 x2 b h
theorem Y2{a0 a1 r C:Prop}(h:a0∧a1∧r)(k:a0→a1→r→C):C:=h.elim fun a h=>h.elim fun x1 h=>k a x1 h
theorem Y4{a0 a1 a2 a3 r C:Prop}(h:a0∧a1∧a2∧a3∧r)(k:a0→a1→a2→a3→r→C):C:=h.elim fun a h=>h.elim fun x1 h=>h.elim fun x2 h=>h.elim fun b h=>k a x1 x2 b h
theorem Y8{a0 a1 a2 a3 a4 a5 a b r C:Prop}(h:a0∧a1∧a2∧a3∧a4∧a5∧a∧b∧r)(k:a0→a1→a2→a3→a4→a5→a→b→r→C):C:=h.elim fun c h=>h.elim fun x1 h=>h.elim fun x2 h=>h.elim fun d h=>h.elim fun e h=>h.elim fun f h=>h.elim fun g h=>h.elim fun i h=>k c x1 x2 d e f g i h
end Go.Proofs.YtkljfdkmjdjpfaaGreat
end
section
set_option linter.unusedVariables false
set_option linter.unusedSimpArgs false
namespace Go.Proofs.YtkljfdkmjdjpfaaGreat
open Go.RowKit Go.WideShapes
structure CK where
 Lo:Int
 Hi:Int
structure Ah where
 On:Int
 AH:Int
 Aq:Bool
structure Bd where
 Aw:Int
 AJ:Int
 Aq:Int
 BY:Int
 Ch:Int
structure Ar where
 Am:Int
 Aj:Int
 Ap:Int
 AA:Int
 Ad:List Bd
structure AW where
 Comes:List Int
 Ap:List Bool
structure CE where
 BK:Int
 B4:Int
 Cn:Int
 Co:Int
 Ba:List Bd
 Dj:List Bool
 known:List (List Int×Ah)
structure HS where
 Cv:Int
 day:Int
structure BQ where
 a0:Int
 a1:Int
 a2:Int
 a3:Int
def BQ.set(x:BQ)(k:Nat)(v:Int):BQ:=⟨if k=0 then v else x.a0,if k=1 then v else x.a1,if k=2 then v else x.a2,if k=3 then v else x.a3⟩
def BQ.l(x:BQ):List Int:=[x.a0,x.a1,x.a2,x.a3]
theorem BQ.V4(x:BQ)(k:Nat)(v:Int)(h:k<4): #[.int .i64 (x.set k v).a0,.int .i64 (x.set k v).a1,.int .i64 (x.set k v).a2,.int .i64 (x.set k v).a3]=setCells #[.int .i64 x.a0,.int .i64 x.a1,.int .i64 x.a2,.int .i64 x.a3] k [.int .i64 v]:=by
 match k,h with
 |0,_=>rfl
 |1,_=>rfl
 |2,_=>rfl
 |3,_=>rfl
 |k+4,h=>omega
def Bz:En Ah:=⟨3,fun _ _ cs x=>cs=[.int .i64 x.On,.int .i64 x.AH,.bool x.Aq],fun h=>by rw[h];rfl,fun h=>by rw[h];simp[Value.oneCell'],fun h _=>h⟩
def AQ:En Bd:=⟨5,fun _ _ cs x=>cs=[.int .i64 x.Aw,.int .i64 x.AJ,.int .i64 x.Aq,.int .i64 x.BY,.int .i64 x.Ch],fun h=>by rw[h];rfl,fun h=>by rw[h];simp[Value.oneCell'],fun h _=>h⟩
def IT:En Ar:=⟨5,fun w Z cs x=>∃a b,cs=[.int .i64 x.Am,.int .i64 x.Aj,.int .i64 x.Ap,.int .i64 x.AA,.slice a x.Ad.length b]∧Sl AQ w Z a b x.Ad,fun⟨_,_,h,_⟩=>by rw[h];rfl,fun⟨_,_,h,_⟩=>by rw[h];simp[Value.oneCell'],fun⟨a,b,h,c⟩ g=>⟨a,b,h,c.mv g⟩⟩
def Cp:En AW:=⟨2,fun w Z cs x=>∃a b c d,cs=[.slice a x.Comes.length b,.slice c x.Ap.length d]∧Sl (AF .i64) w Z a b x.Comes∧Sl Bx w Z c d x.Ap,fun⟨_,_,_,_,h,_⟩=>by rw[h];rfl,fun⟨_,_,_,_,h,_⟩=>by rw[h];simp[Value.oneCell'],fun⟨a,b,c,d,h,h0,e⟩ g=>⟨a,b,c,d,h,h0.mv g,e.mv g⟩⟩
def O9:En CK:=⟨2,fun _ _ cs x=>cs=[.int .i64 x.Lo,.int .i64 x.Hi],fun h=>by rw[h];rfl,fun h=>by rw[h];simp[Value.oneCell'],fun h _=>h⟩
def Vw:En BQ:=⟨4,fun _ _ cs x=>cs=[.int .i64 x.a0,.int .i64 x.a1,.int .i64 x.a2,.int .i64 x.a3],fun h=>by rw[h];rfl,fun h=>by rw[h];simp[Value.oneCell'],fun h _=>h⟩
def L8(w:World)(Z:Nat→Prop)(q:Nat)(o:Option Nat):Option CE→Prop
 |none=>Bk w q 162 #[.pointer none]∧o=none
 |some x=>∃(b r:Nat) (a:Option Addr) (c:Nat) (d:Option Addr) (e:Nat),Bk w q 162 #[pt b 0]∧Rz w Z (some ⟨b,0,none⟩) [I x.BK,I x.B4,I x.Cn,I x.Co,.slice a x.Ba.length c,.slice d x.Dj.length e,.map (some r)]∧Sl AQ w Z a c x.Ba∧Sl Bx w Z d e x.Dj∧Ct (fun x:Ah=>.agg #[I x.On,I x.AH,.bool x.Aq]) w r 2 x.known∧o=some r
theorem L8.keep{w w':World}{Z Z':Nat→Prop}{q:Nat}{o:Option Nat}:∀{x:Option CE},L8 w Z q o x→Mv w Z w' Z'→w'.heap[q]?=w.heap[q]?→(∀k,o=some k→w'.heap[k]?=w.heap[k]?)→L8 w' Z' q o x
 |none,h,_,a,_=>⟨h.1.Gk a,h.2⟩
 |some x,⟨b,r,e,f,g,i,j,l,h0,m,hm,d⟩,c,a,n=>⟨b,r,e,f,g,i,j.Gk a,l.mv c,h0.mv c,m.mv c,hm.Gk (n r d),d⟩
end Go.Proofs.YtkljfdkmjdjpfaaGreat
end
section
set_option linter.unusedVariables false
set_option linter.unusedSimpArgs false
namespace Go.Proofs.YtkljfdkmjdjpfaaGreat
open Go.RowKit Go.WideShapes
def ED(d:Nat)(a:Int)(b:Int)(c:Int):Option (Bool):=
 cond (decide (b≤a)) (some (decide (a≤c))) (some (false))
def Ft(b:Nat)(a:CK):Option (Int):=
 (i64 (a.Hi-a.Lo)).bind fun _=>(i64 ((a.Hi-a.Lo)+1)).bind fun _=>some ((a.Hi-a.Lo)+1)
def Hg(c:Nat)(a:CK)(b:Int):Option (Bool):=
 cond (decide ((0:Int)≤a.Lo)) (cond (decide (a.Lo≤a.Hi)) (some (decide (a.Hi≤b))) (some (false))) (some (false))
def G3(a:Nat)(b:Int):Option (Bool):=
 (ED a b 1 5).bind fun r1=>some (r1)
def CJ(d:Nat)(a:Int)(b:Int)(c:Int):Option (Bool):=
 cond (decide (b≤a)) (some (decide (a≤c))) (some (false))
def Ey(b:Nat)(a:CK):Option (Int):=
 (i64 (a.Hi-a.Lo)).bind fun _=>(i64 ((a.Hi-a.Lo)+1)).bind fun _=>some ((a.Hi-a.Lo)+1)
def DW(c:Nat)(b:Int)(a:Int):Option (Bool):=
 (L1 .u64 a).bind fun _=>(NU b a).bind fun _=>(rem (FH b a) (2:Int)).bind fun _=>some (((FH b a)%2)==1)
def E7(d:Nat)(a:Int)(b:Int)(c:Bool):Option (Ah):=
 some ((⟨a,b,c⟩:Ah))
def F9(b:Nat)(a:Ar)(c:Int):Option (Bool):=
 (i64 ((a.Ad.length:Int)-1)).bind fun _=>(ED b c 0 ((a.Ad.length:Int)-1)).bind fun d=>some (d)
def Dl(c:Nat)(b:Bd)(a:Ah):Option (Bool):=
 cond (a.Aq) (some (decide (a.AH≤b.Ch))) (some (false))
def Ez(a:Nat)(b:Bd)(c:Ah):Option (Bool):=
 (Dl a b c).bind fun d=>some (!d)
end Go.Proofs.YtkljfdkmjdjpfaaGreat
end
section
set_option linter.unusedVariables false
set_option linter.unusedSimpArgs false
namespace Go.Proofs.YtkljfdkmjdjpfaaGreat
open Go.RowKit Go.WideShapes
def Cz(e:Nat)(c:Ar)(f:Int)(b:Int):Nat→Bool→Int→Option (Bool)
 |0,_,_=>none
 |g+1,d,a=>(i64 (b+c.AA)).bind fun _=>cond (decide (a≤(b+c.AA))) (cond (d) (cond (decide (a≤c.Am)) ((DW e f a).bind fun h=>(i64 (a+1)).bind fun _=>Cz e c f b g h (a+1)) ((i64 (a+1)).bind fun _=>Cz e c f b g false (a+1))) ((i64 (a+1)).bind fun _=>Cz e c f b g false (a+1))) (some (d))
def Cw(e:Nat)(d:Ar)(f:Int)(b:Int):Nat→Bool→Int→Option (Bool)
 |0,_,_=>none
 |g+1,c,a=>(i64 (b+d.AA)).bind fun _=>cond (decide (a≤(b+d.AA))) (cond (c) (cond (decide (a≤d.Am)) ((DW e f a).bind fun h=>(i64 (a+1)).bind fun _=>Cw e d f b g h (a+1)) ((i64 (a+1)).bind fun _=>Cw e d f b g false (a+1))) ((i64 (a+1)).bind fun _=>Cw e d f b g false (a+1))) (some (c))
def CL(c:Nat)(d:Ar)(e:Int):Nat→Int→Int→Option ((Bool)⊕(Int))
 |0,_,_=>none
 |f+1,b,a=>cond (decide (a≤d.Am)) ((DW c e a).bind fun g=>cond (g) ((i64 (b+1)).bind fun _=>(Cz c d e a c true a).bind fun h=>cond (h) (some (.inl false)) ((i64 (a+1)).bind fun _=>CL c d e f (b+1) (a+1))) ((Cw c d e a c true a).bind fun z20=>cond (z20) (some (.inl false)) ((i64 (a+1)).bind fun _=>CL c d e f b (a+1)))) (some (.inr b))
def Ed(b:Nat)(c:Ar)(d:Int):Option (Bool):=
 (CL b c d b (0:Int) (0:Int)).bind fun z=>Sum.elim (fun a=>some (a)) (fun a=>some (decide (a≤c.Ap))) z
def CP(d:Nat)(c:Ar):Nat→(List Int)→Int→Option ((List Int))
 |0,_,_=>none
 |e+1,b,a=>(i64 (c.Am+1)).bind fun _=>(L1 .u64 (c.Am+1)).bind fun _=>(Jk (1:Int) (c.Am+1)).bind fun _=>cond (decide (a<(Fz (1:Int) (c.Am+1)))) ((Ed d c a).bind fun f=>cond (f) ((E6 (((b.length+[a].length:Nat):Int)≤140737488355328/8)).bind fun _=>(i64 (a+1)).bind fun _=>CP d c e (b++[a]) (a+1)) ((i64 (a+1)).bind fun _=>CP d c e b (a+1))) (some (b))
def Ej(a:Nat)(b:Ar):Option ((List Int)):=
 (CP a b a ([]:List Int) (0:Int)).bind fun z2=>some (z2)
def DY(d:Nat)(c:Ar):Nat→Int→Int→Option (Int)
 |0,_,_=>none
 |g+1,b,a=>cond (decide (a<(c.Ad.length:Int))) ((idx c.Ad a).bind fun e=>(Ey d (⟨e.Aw,e.AJ⟩:CK)).bind fun f=>(i64 (b*f)).bind fun _=>(i64 (a+1)).bind fun _=>DY d c g (min (3000:Int) (b*f)) (a+1)) (some (b))
def DE(a:Nat)(b:Ar):Option (Int):=
 (Ej a b).bind fun r2=>(DY a b a (r2.length:Int) (0:Int)).bind fun z4=>some (z4)
def Dv(d:Nat)(c:Ar):Nat→Int→Option ((Int)⊕(Unit))
 |0,_=>none
 |h+1,a=>cond (decide (a<(c.Ad.length:Int))) ((idx c.Ad a).bind fun b=>cond (decide (b.Aw<0)) (some (.inl (1:Int))) (cond (decide (b.AJ<b.Aw)) (some (.inl (1:Int))) (cond (decide (c.Am<b.AJ)) (some (.inl (1:Int))) ((CJ d b.Aq 1 5).bind fun e=>cond (!e) (some (.inl (1:Int))) ((CJ d b.BY 1 5).bind fun f=>cond (!f) (some (.inl (1:Int))) ((CJ d b.Ch 0 c.Am).bind fun g=>cond (!g) (some (.inl (1:Int))) ((i64 (a+1)).bind fun _=>Dv d c h (a+1)))))))) (some (.inr ()))
def EJ(b:Nat)(a:Ar):Option (Int):=
 cond (decide ((9:Int)<a.Am)) (some (3)) (cond (decide ((2:Int)<a.Aj)) (some (3)) (cond (decide ((4:Int)<(a.Ad.length:Int))) (some (3)) (cond (decide (a.Am<0)) (some (1)) (cond (decide (a.Aj<1)) (some (1)) ((i64 (a.Am+1)).bind fun _=>(CJ b a.Ap 0 (a.Am+1)).bind fun f=>cond (!f) (some (1)) ((i64 (a.Am+1)).bind fun _=>(CJ b a.AA 0 (a.Am+1)).bind fun d=>cond (!d) (some (1)) ((Dv b a b (0:Int)).bind fun z=>Sum.elim (fun c=>some (c)) (fun c=>(DE b a).bind fun e=>cond (decide ((1000:Int)<e)) (some (3)) (some (0))) z)))))))
def Fp(b:Nat)(c:Ar)(a:Bd):Option (Bool):=
 (Hg b (⟨a.Aw,a.AJ⟩:CK) c.Am).bind fun e=>cond (e) ((G3 b a.Aq).bind fun f=>cond (f) ((G3 b a.BY).bind fun g=>cond (g) ((ED b a.Ch 0 c.Am).bind fun d=>some (d)) (some (false))) (some (false))) (some (false))
def DZ(b:List Int)(c:List Int):Nat→Int→Option ((Bool)⊕(Unit))
 |0,_=>none
 |d+1,a=>cond (decide (a<(b.length:Int))) ((idx b a).bind fun e=>(idx c a).bind fun f=>cond (e !=f) (some (.inl false)) ((i64 (a+1)).bind fun _=>DZ b c d (a+1))) (some (.inr ()))
def FR(d:Nat)(b:List Int)(c:List Int):Option (Bool):=
 cond ((b.length:Int) !=(c.length:Int)) (some (false)) ((DZ b c d (0:Int)).bind fun z=>Sum.elim (fun a=>some (a)) (fun a=>some (true)) z)
def CM(b:Nat)(a:Int):Option (Ar):=
 some ((⟨5,1,a,1,[(⟨0,0,2,2,2⟩:Bd),(⟨1,1,2,1,5⟩:Bd)]⟩:Ar))
def GJ(b:Nat)(a:Int):Option (AW):=
 (Kg (6:Int) 1).bind fun _=>(idx (List.replicate (6:Int).toNat false) a).bind fun c=>some ((⟨[0,1],(List.replicate (6:Int).toNat false).set a.toNat true⟩:AW))
def GK(f:Nat)(a:List Ah)(b:Ah)(c:Ah):Option (Bool):=
 cond ((a.length:Int)==2) ((idx a (0:Int)).bind fun d=>cond (HQ [.inl d.On,.inl d.AH,.inr d.Aq] [.inl b.On,.inl b.AH,.inr b.Aq]) ((idx a (1:Int)).bind fun e=>some (HQ [.inl e.On,.inl e.AH,.inr e.Aq] [.inl c.On,.inl c.AH,.inr c.Aq])) (some (false))) (some (false))
def GY(b:Nat)(a:CK):Option (CK):=
 some (a)
def D0(f:Nat)(e:Ar):Nat→Int→(List Bd)→Option ((List Bd))
 |0,_,_=>none
 |g+1,b,a=>cond (decide (b<(e.Ad.length:Int))) ((idx e.Ad b).bind fun c=>(GY f (⟨c.Aw,c.AJ⟩:CK)).bind fun d=>(E6 (((a.length+[(⟨d.Lo,d.Hi,c.Aq,c.BY,c.Ch⟩:Bd)].length:Nat):Int)≤140737488355328/40)).bind fun _=>(i64 (b+1)).bind fun _=>D0 f e g (b+1) (a++[(⟨d.Lo,d.Hi,c.Aq,c.BY,c.Ch⟩:Bd)])) (some (a))
def E8(b:Nat)(a:Ar):Option (Ar):=
 (D0 b a b (0:Int) ([]:List Bd)).bind fun z5=>some ((⟨a.Am,a.Aj,a.Ap,a.AA,z5⟩:Ar))
def FC(a:Nat)(b:Ar):Option (Int):=
 (EJ a b).bind fun r2=>some (r2)
def FT(b:Nat)(a:Ar):Option (Bool):=
 cond (decide ((a.Ad.length:Int)≤6)) ((EJ b a).bind fun c=>cond (c !=0) (some (true)) ((DE b a).bind fun d=>some (decide (d≤60)))) (some (false))
end Go.Proofs.YtkljfdkmjdjpfaaGreat
end
section
set_option linter.unusedVariables false
set_option linter.unusedSimpArgs false
namespace Go.Proofs.YtkljfdkmjdjpfaaGreat
open Go.RowKit Go.WideShapes
def E3{a:Type}(e:Nat)(b:a→Bd→Option (Bool×a))(c:Bd)(d:a):Option (Bool×a):=
 (b d c).bind fun r2=>some ((!r2.1,r2.2))
def De{c:Type}(d:c→Bd→Option (Bool×c))(e:List Bd):Nat→Int→c→Option ((Int×c)⊕(c))
 |0,_,_=>none
 |g+1,a,b=>cond (decide (a<(e.length:Int))) ((idx e a).bind fun h=>(d b h).bind fun f=>cond (f.1) (some (.inl (a,f.2))) ((i64 (a+1)).bind fun _=>De d e g (a+1) f.2)) (some (.inr b))
def FP{b:Type}(d:Nat)(c:b→Bd→Option (Bool×b))(e:List Bd)(f:b):Option (Int×b):=
 (De c e d (0:Int) f).bind fun z=>Sum.elim (fun a=>some ((a.1,a.2))) (fun a=>some (((-1),a))) z
def Fh{a:Type}(c:Nat)(b:a→Bd→Option (Bool×a))(d:List Bd)(e:a):Option (Bool×a):=
 (FP c b d e).bind fun r1=>some ((decide ((0:Int)≤r1.1),r1.2))
def GO{a:Type}(b:Nat)(c:a→Bd→Option (Bool×a))(d:List Bd)(e:a):Option (Bool×a):=
 (Fh b (fun(st:a) (x:Bd)=>(E3 b c x st).bind fun r=>some (r.1,r.2)) d e).bind fun r2=>some ((!r2.1,r2.2))
def EI{a:Type}(e:Nat)(b:a→Bool→Option (Bool×a))(c:Bool)(d:a):Option (Bool×a):=
 (b d c).bind fun r1=>some ((!r1.1,r1.2))
def C5{c:Type}(d:c→Bool→Option (Bool×c))(e:List Bool):Nat→Int→c→Option ((Int×c)⊕(c))
 |0,_,_=>none
 |g+1,a,b=>cond (decide (a<(e.length:Int))) ((idx e a).bind fun h=>(d b h).bind fun f=>cond (f.1) (some (.inl (a,f.2))) ((i64 (a+1)).bind fun _=>C5 d e g (a+1) f.2)) (some (.inr b))
def FA{b:Type}(d:Nat)(c:b→Bool→Option (Bool×b))(e:List Bool)(f:b):Option (Int×b):=
 (C5 c e d (0:Int) f).bind fun z=>Sum.elim (fun a=>some ((a.1,a.2))) (fun a=>some (((-1),a))) z
def EX{a:Type}(c:Nat)(b:a→Bool→Option (Bool×a))(d:List Bool)(e:a):Option (Bool×a):=
 (FA c b d e).bind fun r1=>some ((decide ((0:Int)≤r1.1),r1.2))
def Gy{a:Type}(b:Nat)(c:a→Bool→Option (Bool×a))(d:List Bool)(e:a):Option (Bool×a):=
 (EX b (fun(st:a) (x:Bool)=>(EI b c x st).bind fun r=>some (r.1,r.2)) d e).bind fun r2=>some ((!r2.1,r2.2))
def D1(e:Nat)(d:Bool)(b:Int)(a:Int)(c:Ar):Option (Bool×Int×Int):=
 cond (!d) (some ((true,0,a))) ((i64 (a+1)).bind fun _=>(i64 (b+1)).bind fun _=>cond (decide ((a+1)≤c.Ap)) (some ((decide ((b+1)≤c.AA),b+1,a+1))) (some ((false,b+1,a+1))))
def EK(a:Nat)(b:Ar)(c:List Bool):Option (Bool):=
 (Gy a (fun(st:Int×Int) (x:Bool)=>(D1 a x st.1 st.2 b).bind fun r=>some (r.1,(r.2.1,r.2.2))) c (0,0)).bind fun d=>some (d.1)
end Go.Proofs.YtkljfdkmjdjpfaaGreat
end
section
set_option linter.unusedVariables false
set_option linter.unusedSimpArgs false
namespace Go.Proofs.YtkljfdkmjdjpfaaGreat
open Go.RowKit Go.WideShapes
def EL(c:List Int):Nat→Int→Int→Option (Int)
 |0,_,_=>none
 |d+1,b,a=>cond (decide (a<(c.length:Int))) ((idx c a).bind fun e=>(i64 (a+1)).bind fun _=>EL c d (min b e) (a+1)) (some (b))
def GZ(b:Nat)(a:List Int):Option (Int):=
 cond (decide ((a.length:Int)<1)) (none) ((idx a (0:Int)).bind fun x2=>(EL a b x2 (1:Int)).bind fun z3=>some (z3))
def GP(a:Nat)(b:List Int):Option (Int):=
 (GZ a b).bind fun r1=>some (r1)
def CQ(b:Int)(d:List Bool):Nat→Int→(List Bool)→Option ((List Bool))
 |0,_,_=>none
 |e+1,a,c=>cond (decide (a<(d.length:Int))) ((NU b a).bind fun _=>(rem (FH b a) (2:Int)).bind fun _=>(idx c a).bind fun f=>(i64 (a+1)).bind fun _=>CQ b d e (a+1) (c.set a.toNat (((FH b a)%2)==1))) (some (c))
def CR{c:Type}(d:c→(List Bool)→Option (Bool×c))(g:Nat)(h:Ar):Nat→Int→(List Bool)→c→Option ((c)⊕(c))
 |0,_,_,_=>none
 |j+1,a,e,b=>cond (decide (a<(Fz (1:Int) ((List.replicate (h.Am+1).toNat false).length:Int)))) ((CQ a e g (0:Int) e).bind fun i=>(EK g h i).bind fun k=>cond (k) ((d b i).bind fun f=>cond (!f.1) (some (.inl f.2)) ((i64 (a+1)).bind fun _=>CR d g h j (a+1) i f.2)) ((i64 (a+1)).bind fun _=>CR d g h j (a+1) i b)) (some (.inr b))
def DJ{c:Type}(d:Nat)(e:c→(List Bool)→Option (Bool×c))(a:Ar)(f:c):Option (c):=
 (i64 (a.Am+1)).bind fun _=>(Kg (a.Am+1) 1).bind fun _=>(Jk (1:Int) ((List.replicate (a.Am+1).toNat false).length:Int)).bind fun _=>(CR e d a d (0:Int) (List.replicate (a.Am+1).toNat false) f).bind fun z=>Sum.elim (fun b=>some (b)) (fun b=>some (b)) z
end Go.Proofs.YtkljfdkmjdjpfaaGreat
end
section
set_option linter.unusedVariables false
set_option linter.unusedSimpArgs false
namespace Go.Proofs.YtkljfdkmjdjpfaaGreat
open Go.RowKit Go.WideShapes
def Fq(a:Int)(b:(List Bool)):Option (Bool×Int):=
 (i64 (a+1)).bind fun _=>some (true,a+1)
def Ee(e:Nat)(f:Ar):Nat→Int→Int→Option (Int)
 |0,_,_=>none
 |h+1,b,a=>cond (decide (b<(f.Ad.length:Int))) ((idx f.Ad b).bind fun c=>(Ft e (⟨c.Aw,c.AJ⟩:CK)).bind fun d=>(i64 (a*d)).bind fun _=>(GP e [a*d,1001]).bind fun g=>(i64 (b+1)).bind fun _=>Ee e f h (b+1) g) (some (a))
def DK(b:Nat)(a:Ar):Option (Int):=
 cond (decide ((9:Int)<a.Am)) (some (3)) (cond (decide ((2:Int)<a.Aj)) (some (3)) (cond (decide ((4:Int)<(a.Ad.length:Int))) (some (3)) (cond (decide (a.Am<0)) (some (1)) (cond (decide (a.Aj<1)) (some (1)) ((i64 (a.Am+1)).bind fun _=>(ED b a.Ap 0 (a.Am+1)).bind fun g=>cond (!g) (some (1)) ((i64 (a.Am+1)).bind fun _=>(ED b a.AA 0 (a.Am+1)).bind fun c=>cond (!c) (some (1)) ((GO b (fun(st:Unit) (x:Bd)=>(Fp b a x).bind fun r=>some (r,())) a.Ad ()).bind fun d=>cond (!d.1) (some (1)) ((DJ b (fun(st:Int) (x:(List Bool))=>Fq st x) a (0:Int)).bind fun e=>(Ee b a b (0:Int) e).bind fun f=>cond (decide ((1000:Int)<f)) (some (3)) (some (0))))))))))
end Go.Proofs.YtkljfdkmjdjpfaaGreat
end
section
set_option linter.unusedVariables false
set_option linter.unusedSimpArgs false
namespace Go.Proofs.YtkljfdkmjdjpfaaGreat
open Go.RowKit Go.WideShapes
def Ci{f:Type}(g:Int→(List Int)→(List Bool)→Ar→f→Option (Bool×(List Int)×f))(e:Int)(j:List Bool)(i:Ar)(k:Int):Nat→Int→(List Int)→f→Option ((Bool×(List Int)×f)⊕((List Int)×f))
 |0,_,_,_=>none
 |l+1,a,b,d=>cond (decide (a<k)) ((idx i.Ad e).bind fun h=>(i64 (h.Aw+a)).bind fun _=>(idx b e).bind fun m=>(i64 (e+1)).bind fun _=>(g (e+1) (b.set e.toNat (h.Aw+a)) j i d).bind fun c=>cond (!c.1) (some (.inl (false,c.2.1,c.2.2))) ((i64 (a+1)).bind fun _=>Ci g e j i k l (a+1) c.2.1 c.2.2)) (some (.inr (b,d)))
def BU{b:Type}(e:Nat)(d:b→AW→Option (Bool×b)):Nat→Int→(List Int)→(List Bool)→Ar→b→Option (Bool×(List Int)×b)
 |0,_,_,_,_,_=>none
 |k+1,f,c,g,h,i=>cond (f==(c.length:Int)) ((d i (⟨c,g⟩:AW)).bind fun r2=>some ((r2.1,c,r2.2))) ((idx h.Ad f).bind fun j=>(Ft e (⟨j.Aw,j.AJ⟩:CK)).bind fun l=>(Ci (BU e d k) f g h l e (0:Int) c i).bind fun z=>Sum.elim (fun a=>some ((a.1,a.2.1,a.2.2))) (fun a=>some ((true,a.1,a.2))) z)
end Go.Proofs.YtkljfdkmjdjpfaaGreat
end
section
set_option linter.unusedVariables false
set_option linter.unusedSimpArgs false
namespace Go.Proofs.YtkljfdkmjdjpfaaGreat
open Go.RowKit Go.WideShapes
def Dw{c:Type}(e:c→AW→Option (Bool×c))(f:Nat)(g:Ar)(b:List Int)(d:c)(h:(List Bool)):Option (Bool×((List Int)×c×Bool)):=
 (BU f e f 0 b h g d).bind fun a=>cond (!a.1) (some (false,a.2.1,a.2.2,true)) (some (true,a.2.1,a.2.2,false))
def Fs{a:Type}(d:Nat)(e:a→AW→Option (Bool×a))(b:Ar)(f:a):Option (a):=
 (Kg (b.Ad.length:Int) 8).bind fun _=>(DJ d (fun(st:(List Int)×a×Bool) (x:(List Bool))=>cond st.2.2 none (Dw e d b st.1 st.2.1 x)) b (List.replicate (b.Ad.length:Int).toNat (0:Int),f,false)).bind fun c=>cond (c.2.2) (some (c.2.1)) (some (c.2.1))
end Go.Proofs.YtkljfdkmjdjpfaaGreat
end
section
set_option linter.unusedVariables false
set_option linter.unusedSimpArgs false
namespace Go.Proofs.YtkljfdkmjdjpfaaGreat
open Go.RowKit Go.WideShapes
def DL(b:List Bool)(c:List Bool):Nat→Int→Option ((Bool)⊕(Unit))
 |0,_=>none
 |d+1,a=>cond (decide (a<(b.length:Int))) ((idx b a).bind fun e=>(idx c a).bind fun f=>cond (e !=f) (some (.inl false)) ((i64 (a+1)).bind fun _=>DL b c d (a+1))) (some (.inr ()))
def EM(d:Nat)(b:List Bool)(c:List Bool):Option (Bool):=
 cond ((b.length:Int) !=(c.length:Int)) (some (false)) ((DL b c d (0:Int)).bind fun z=>Sum.elim (fun a=>some (a)) (fun a=>some (true)) z)
def Dx(d:Nat)(c:Ar)(e:AW):Nat→Int→Option ((Bool)⊕(Unit))
 |0,_=>none
 |h+1,a=>cond (decide (a<(c.Ad.length:Int))) ((idx c.Ad a).bind fun b=>(idx e.Comes a).bind fun f=>(ED d f b.Aw b.AJ).bind fun g=>cond (!g) (some (.inl false)) ((i64 (a+1)).bind fun _=>Dx d c e h (a+1))) (some (.inr ()))
def FD(d:Nat)(a:Ar)(c:AW):Option (Bool):=
 cond ((c.Comes.length:Int) !=(a.Ad.length:Int)) (some (false)) ((i64 (a.Am+1)).bind fun _=>cond ((c.Ap.length:Int) !=(a.Am+1)) (some (false)) ((EK d a c.Ap).bind fun e=>cond (!e) (some (false)) ((Dx d a c d (0:Int)).bind fun z=>Sum.elim (fun b=>some (b)) (fun b=>some (true)) z)))
def Ea(i:CE)(h:HS)(f:Bd):Nat→Int→Int→Int→Int→Int→Bool→Option ((Int×Int×Bool)⊕(Int×Int×Bool))
 |0,_,_,_,_,_,_=>none
 |j+1,b,g,a,c,d,e=>cond (decide (a≤i.BK)) ((idx i.Dj a).bind fun k=>cond (k) ((i64 (g+1)).bind fun _=>cond (b==f.Aq) (some (.inl (h.day,a,b==f.Aq))) (cond ((g+1)==f.BY) (some (.inl (h.day,a,b==f.Aq))) ((i64 (a+1)).bind fun _=>Ea i h f j b (g+1) (a+1) c d e))) ((i64 (b+1)).bind fun _=>cond ((b+1)==f.Aq) (some (.inl (h.day,a,(b+1)==f.Aq))) (cond ((0:Int)==f.BY) (some (.inl (h.day,a,(b+1)==f.Aq))) ((i64 (a+1)).bind fun _=>Ea i h f j (b+1) (0:Int) (a+1) c d e)))) (some (.inr (c,d,e)))
def F1(d:Nat)(c:CE)(b:HS):Option (Ah):=
 cond (decide (c.BK<b.day)) (some ((⟨(-1),(-1),false⟩:Ah))) ((idx c.Ba b.Cv).bind fun e=>(Ea c b e d (0:Int) (0:Int) b.day (0:Int) (0:Int) false).bind fun z=>Sum.elim (fun a=>some ((⟨a.1,a.2.1,a.2.2⟩:Ah))) (fun a=>some ((⟨b.day,(-1),false⟩:Ah))) z)
def FJ(d:Nat)(b:CE)(a:HS):Option (Ah×(List (List Int×Ah))):=
 cond (!((BI b.known [a.Cv,a.day]).isSome)) ((F1 d b a).bind fun c=>some ((c,HO b.known [a.Cv,a.day] c))) (some ((((BI b.known [a.Cv,a.day]).getD (⟨0,0,false⟩:Ah)),b.known)))
def DS(i:Nat)(c:CE)(j:List Int)(g:List Int):Nat→Int→Int→(List Ah)→(List (List Int×Ah))→Option ((List Ah)×(List (List Int×Ah)))
 |0,_,_,_,_=>none
 |k+1,h,a,d,e=>cond (decide (a<(g.length:Int))) ((idx g a).bind fun f=>(idx j f).bind fun l=>(FJ i (⟨c.BK,c.B4,c.Cn,c.Co,c.Ba,c.Dj,e⟩:CE) (⟨f,max h l⟩:HS)).bind fun b=>(idx d f).bind fun m=>(i64 (b.1.AH+1)).bind fun _=>cond (b.1.AH==(-1)) ((i64 (c.BK+1)).bind fun _=>(i64 (a+1)).bind fun _=>DS i c j g k (c.BK+1) (a+1) (d.set f.toNat b.1) b.2) ((i64 (a+1)).bind fun _=>DS i c j g k (b.1.AH+1) (a+1) (d.set f.toNat b.1) b.2)) (some ((d,e)))
def Dq(d:Nat)(f:CE)(e:List (List Int))(g:List Int):Nat→Int→(List Ah)→(List (List Int×Ah))→Option ((List Ah)×(List (List Int×Ah)))
 |0,_,_,_=>none
 |i+1,a,c,b=>cond (decide (a<(e.length:Int))) ((idx e a).bind fun j=>(DS d f g j d (0:Int) (0:Int) c b).bind fun h=>(i64 (a+1)).bind fun _=>Dq d f e g i (a+1) h.1 h.2) (some ((c,b)))
def C6(b:Nat)(a:CE)(c:List (List Int))(d:List Int):Option ((List Ah)×(List (List Int×Ah))):=
 (Kg (a.Ba.length:Int) 24).bind fun _=>(Dq b a c d b (0:Int) (List.replicate (a.Ba.length:Int).toNat (⟨0,0,false⟩:Ah)) a.known).bind fun z3=>some ((z3.1,z3.2))
end Go.Proofs.YtkljfdkmjdjpfaaGreat
end
section
set_option linter.unusedVariables false
set_option linter.unusedSimpArgs false
namespace Go.Proofs.YtkljfdkmjdjpfaaGreat
open Go.RowKit Go.WideShapes
def DM(c:List (List Int)):Nat→(List Int)→Int→Option ((List Int))
 |0,_,_=>none
 |e+1,b,a=>cond (decide (a<(c.length:Int))) ((idx c a).bind fun d=>(E6 (((b.length+d.length:Nat):Int)≤140737488355328/8)).bind fun _=>(i64 (a+1)).bind fun _=>DM c e (b++d) (a+1)) (some (b))
def Dy(b:Ar)(z2:(List Int)):Nat→Int→Option ((Bool)⊕(Unit))
 |0,_=>none
 |d+1,a=>cond (decide (a<(b.Ad.length:Int))) (cond (((Di z2).length:Int) !=(b.Ad.length:Int)) (some (.inl false)) ((idx (Di z2) a).bind fun c=>cond (c !=a) (some (.inl false)) ((i64 (a+1)).bind fun _=>Dy b z2 d (a+1)))) (some (.inr ()))
def Ep(c:Nat)(b:Ar)(d:List (List Int)):Option (Bool):=
 (DM d c ([]:List Int) (0:Int)).bind fun z2=>(E6 ((z2.length:Int)≤100000)).bind fun _=>(Dy b z2 c (0:Int)).bind fun z=>Sum.elim (fun a=>some (a)) (fun a=>cond ((d.length:Int)==b.Aj) (some (((Di z2).length:Int)==(b.Ad.length:Int))) (some (false))) z
def GF(b:Nat)(a:Ar)(d:List (List Int))(c:AW):Option ((List Ah)×Int):=
 (DK b a).bind fun e=>cond (e !=0) (some ((([]:List Ah),e))) ((Ep b a d).bind fun h=>cond (!h) (some ((([]:List Ah),2))) ((FD b a c).bind fun f=>cond (!f) (some ((([]:List Ah),2))) ((C6 b (⟨a.Am,a.Aj,a.Ap,a.AA,a.Ad,c.Ap,[]⟩:CE) d c.Comes).bind fun g=>some ((g.1,0)))))
end Go.Proofs.YtkljfdkmjdjpfaaGreat
end
section
set_option linter.unusedVariables false
set_option linter.unusedSimpArgs false
namespace Go.Proofs.YtkljfdkmjdjpfaaGreat
open Go.RowKit Go.WideShapes
def DT(d:Nat)(e:Ar)(c:List Ah):Nat→Int→Int→Option (Int)
 |0,_,_=>none
 |f+1,b,a=>cond (decide (a<(c.length:Int))) ((idx c a).bind fun i=>(idx e.Ad a).bind fun g=>(Ez d g i).bind fun h=>cond (h) ((i64 (b+1)).bind fun _=>(i64 (a+1)).bind fun _=>DT d e c f (b+1) (a+1)) ((i64 (a+1)).bind fun _=>DT d e c f b (a+1))) (some (b))
def E4(a:Nat)(b:Ar)(c:List Ah):Option (Int):=
 (DT a b c a (0:Int) (0:Int)).bind fun z4=>some (z4)
def E9(d:Nat)(a:AW)(e:List Ah)(b:Ar)(c:Int)(f:AW):Option (Bool×Int×AW):=
 (E4 d b e).bind fun r2=>cond (decide (c<r2)) ((E6 (((0+a.Comes.length:Nat):Int)≤140737488355328/8)).bind fun _=>(E6 (((0+a.Ap.length:Nat):Int)≤140737488355328/1)).bind fun _=>some ((decide (r2<(b.Ad.length:Int)),r2,a))) (some ((decide (c<(b.Ad.length:Int)),c,f)))
def CN{j:Type}(h:j→(Bd×Ah)→Option (Bool×j))(k:List Ah)(l:Ar):Nat→Int→Int→Int→Int→Int→j→Option (Int×Int×Int×Int×j)
 |0,_,_,_,_,_,_=>none
 |m+1,a,b,c,d,e,g=>cond (decide (a<(k.length:Int))) ((idx k a).bind fun o=>(idx l.Ad a).bind fun n=>(h g (n,o)).bind fun i=>cond (i.1) ((idx ([b,c,d,e]:List Int) a).bind fun f=>(i64 (f+1)).bind fun _=>(idx ([b,c,d,e]:List Int) a).bind fun p=>(i64 (a+1)).bind fun _=>CN h k l m (a+1) (((⟨b,c,d,e⟩:BQ).set a.toNat (f+1)).a0) (((⟨b,c,d,e⟩:BQ).set a.toNat (f+1)).a1) (((⟨b,c,d,e⟩:BQ).set a.toNat (f+1)).a2) (((⟨b,c,d,e⟩:BQ).set a.toNat (f+1)).a3) i.2) ((i64 (a+1)).bind fun _=>CN h k l m (a+1) b c d e i.2)) (some ((b,c,d,e,g)))
def C8{a:Type}(e:Nat)(c:a→(Bd×Ah)→Option (Bool×a))(i:AW)(f:List Ah)(d:Int)(g:Ar)(b:BQ)(h:a):Option (Bool×Int×BQ×a):=
 (i64 (d+1)).bind fun _=>(CN c f g e (0:Int) b.a0 b.a1 b.a2 b.a3 h).bind fun z4=>some ((true,d+1,(⟨z4.1,z4.2.1,z4.2.2.1,z4.2.2.2.1⟩:BQ),z4.2.2.2.2))
end Go.Proofs.YtkljfdkmjdjpfaaGreat
end
section
set_option linter.unusedVariables false
set_option linter.unusedSimpArgs false
namespace Go.Proofs.YtkljfdkmjdjpfaaGreat
open Go.RowKit Go.WideShapes
def DU{m:Type}(f:m→(AW×(List Ah))→Option (Bool×m))(n:Nat)(a:Ar)(o:List (List Int))(e:Option CE)(d:m)(c:AW):Option (Bool×((Option CE)×m×Bool)):=
 Option.elim e ((E6 (((0+c.Ap.length:Nat):Int)≤140737488355328/1)).bind fun _=>(C6 n (⟨a.Am,a.Aj,a.Ap,a.AA,a.Ad,c.Ap,[]⟩:CE) o c.Comes).bind fun g=>(f d (c,g.1)).bind fun h=>cond (!h.1) (some (false,(some (⟨a.Am,a.Aj,a.Ap,a.AA,a.Ad,c.Ap,g.2⟩:CE)),h.2,true)) (some (true,(some (⟨a.Am,a.Aj,a.Ap,a.AA,a.Ad,c.Ap,g.2⟩:CE)),h.2,false))) (fun b=>(EM n b.Dj c.Ap).bind fun p=>cond (!p) ((E6 (((0+c.Ap.length:Nat):Int)≤140737488355328/1)).bind fun _=>(C6 n (⟨a.Am,a.Aj,a.Ap,a.AA,a.Ad,c.Ap,[]⟩:CE) o c.Comes).bind fun i=>(f d (c,i.1)).bind fun j=>cond (!j.1) (some (false,(some (⟨a.Am,a.Aj,a.Ap,a.AA,a.Ad,c.Ap,i.2⟩:CE)),j.2,true)) (some (true,(some (⟨a.Am,a.Aj,a.Ap,a.AA,a.Ad,c.Ap,i.2⟩:CE)),j.2,false))) ((C6 n b o c.Comes).bind fun k=>(f d (c,k.1)).bind fun l=>cond (!l.1) (some (false,(some (⟨b.BK,b.B4,b.Cn,b.Co,b.Ba,b.Dj,k.2⟩:CE)),l.2,true)) (some (true,(some (⟨b.BK,b.B4,b.Cn,b.Co,b.Ba,b.Dj,k.2⟩:CE)),l.2,false))))
def FK{a:Type}(c:Nat)(d:a→(AW×(List Ah))→Option (Bool×a))(e:Ar)(f:List (List Int))(g:a):Option (a):=
 (Fs c (fun(st:(Option CE)×a×Bool) (x:AW)=>cond st.2.2 none (DU d c e f st.1 st.2.1 x)) e (none,g,false)).bind fun b=>cond (b.2.2) (some (b.2.1)) (some (b.2.1))
end Go.Proofs.YtkljfdkmjdjpfaaGreat
end
section
set_option linter.unusedVariables false
set_option linter.unusedSimpArgs false
namespace Go.Proofs.YtkljfdkmjdjpfaaGreat
open Go.RowKit Go.WideShapes
def CF{a:Type}(c:Nat)(d:a→(Bd×Ah)→Option (Bool×a))(e:Ar)(f:List (List Int))(g:a):Option (BQ×Int×a):=
 (FK c (fun(st:Int×BQ×a) (x:AW×(List Ah))=>(C8 c d x.1 x.2 st.1 e st.2.1 st.2.2).bind fun r=>some (r.1,(r.2.1,r.2.2.1,r.2.2.2))) e f (0,(⟨0,0,0,0⟩:BQ),g)).bind fun b=>some ((b.2.1,b.1,b.2.2))
def FL(a:Nat)(b:Ar)(d:List (List Int)):Option (Int×AW):=
 (FK a (fun(st:Int×AW) (x:AW×(List Ah))=>(E9 a x.1 x.2 b st.1 st.2).bind fun r=>some (r.1,(r.2.1,r.2.2))) b d ((-1),(⟨([]:List Int),([]:List Bool)⟩:AW))).bind fun c=>some ((c.1,c.2))
def EO(b:Nat)(c:Ar)(e:List (List Int))(f:Int):Option (Int×Int):=
 (DK b c).bind fun r2=>cond (r2 !=0) (some ((0,r2))) ((Ep b c e).bind fun h=>cond (!h) (some ((0,2))) ((F9 b c f).bind fun g=>cond (!g) (some ((0,2))) ((CF b (fun(st:Unit) (x:Bd×Ah)=>(Dl b x.1 x.2).bind fun r=>some (r,())) c e ()).bind fun a=>(idx ([a.1.a0,a.1.a1,a.1.a2,a.1.a3]:List Int) f).bind fun d=>cond (d==a.2.1) (some ((1,0))) (cond (d==0) (some ((2,0))) (some ((3,0)))))))
def Ge(b:Nat)(c:Ar)(d:List (List Int)):Option (Int×AW×Int):=
 (DK b c).bind fun e=>cond (e !=0) (some ((0,(⟨([]:List Int),([]:List Bool)⟩:AW),e))) ((Ep b c d).bind fun f=>cond (!f) (some ((0,(⟨([]:List Int),([]:List Bool)⟩:AW),2))) ((FL b c d).bind fun a=>some ((a.1,a.2,0))))
def Fu(a:Nat)(b:Ar)(c:List (List Int))(d:Int):Option (Bool):=
 (Ge a b c).bind fun r2=>cond (r2.2.2==0) (some (decide (r2.1≤d))) (some (false))
def FM(a:Nat)(b:Ar)(d:List (List Int))(e:AW)(f:Int):Option (Bool):=
 (GF a b d e).bind fun c=>cond (c.2==0) ((E4 a b c.1).bind fun g=>some (decide (f≤g))) (some (false))
end Go.Proofs.YtkljfdkmjdjpfaaGreat
end
section
set_option linter.unusedVariables false
set_option linter.unusedSimpArgs false
namespace Go.Proofs.YtkljfdkmjdjpfaaGreat
open Go.RowKit Go.WideShapes
def E5(c:List (List Int)):Nat→Int→(List (List Int))→Option ((List (List Int)))
 |0,_,_=>none
 |e+1,a,b=>cond (decide (a<(c.length:Int))) ((idx b a).bind fun d=>(E6 (((0+d.length:Nat):Int)≤140737488355328/8)).bind fun _=>(idx b a).bind fun f=>(i64 (a+1)).bind fun _=>E5 c e (a+1) (b.set a.toNat d)) (some (b))
def Fw(b:Nat)(a:List (List Int)):Option ((List (List Int))):=
 (E6 (((0+a.length:Nat):Int)≤140737488355328/24)).bind fun _=>(E5 a b (0:Int) a).bind fun z4=>some (z4)
end Go.Proofs.YtkljfdkmjdjpfaaGreat
end
section
set_option linter.unusedVariables false
set_option linter.unusedSimpArgs false
namespace Go.Proofs.YtkljfdkmjdjpfaaGreat
open Go.RowKit Go.WideShapes
def Gs(b:Nat)(c:List (List Int))(d:Ar)(a:Int)(e:List (List Int)):Option (Bool×Int×(List (List Int))):=
 (FL b d c).bind fun r1=>cond (decide (r1.1<a)) ((Fw b c).bind fun f=>some ((decide ((0:Int)<r1.1),r1.1,f))) (some ((decide ((0:Int)<a),a,e)))
def EA(c:Ar)(r1:BQ×Int×Unit):Nat→Int→Int→Option (Int)
 |0,_,_=>none
 |d+1,b,a=>cond (decide (a<(c.Ad.length:Int))) ((idx ([r1.1.a0,r1.1.a1,r1.1.a2,r1.1.a3]:List Int) a).bind fun e=>cond (e==0) ((i64 (b+1)).bind fun _=>(i64 (a+1)).bind fun _=>EA c r1 d (b+1) (a+1)) ((i64 (a+1)).bind fun _=>EA c r1 d b (a+1))) (some (b))
def Eo(c:Ar)(r1:BQ×Int×Unit):Nat→Int→Int→Option (Int)
 |0,_,_=>none
 |d+1,b,a=>cond (decide (a<(c.Ad.length:Int))) ((idx ([r1.1.a0,r1.1.a1,r1.1.a2,r1.1.a3]:List Int) a).bind fun e=>cond (e==0) ((i64 (b+1)).bind fun _=>(i64 (a+1)).bind fun _=>Eo c r1 d (b+1) (a+1)) ((i64 (a+1)).bind fun _=>Eo c r1 d b (a+1))) (some (b))
def EY(c:Nat)(e:List (List Int))(b:Ar)(a:Int)(d:BQ)(f:List (List Int)):Option (Bool×Int×BQ×(List (List Int))):=
 (CF c (fun(st:Unit) (x:Bd×Ah)=>(Ez c x.1 x.2).bind fun r=>some (r,())) b e ()).bind fun r1=>cond (decide ((0:Int)≤a)) (cond ([r1.1.a0,r1.1.a1,r1.1.a2,r1.1.a3]==[d.a0,d.a1,d.a2,d.a3]) (some ((true,a,d,f))) ((EA b r1 c (0:Int) (0:Int)).bind fun z9=>cond (decide (a<z9)) ((Fw c e).bind fun g=>some ((decide (z9<(b.Ad.length:Int)),z9,r1.1,g))) (some ((decide (a<(b.Ad.length:Int)),a,r1.1,f))))) ((Eo b r1 c (0:Int) (0:Int)).bind fun z22=>cond (decide (a<z22)) ((Fw c e).bind fun h=>some ((decide (z22<(b.Ad.length:Int)),z22,r1.1,h))) (some ((decide (a<(b.Ad.length:Int)),a,r1.1,f))))
end Go.Proofs.YtkljfdkmjdjpfaaGreat
end
section
set_option linter.unusedVariables false
set_option linter.unusedSimpArgs false
namespace Go.Proofs.YtkljfdkmjdjpfaaGreat
open Go.RowKit Go.WideShapes
def Cq{g:Type}(h:Int→Ar→(List (List Int))→g→Option (Bool×(List (List Int))×g))(i:Int)(j:Ar)(c:Int)(f:List Int):Nat→Int→(List (List Int))→g→Option ((Bool×(List (List Int))×g)⊕((List (List Int))×g))
 |0,_,_,_=>none
 |k+1,a,b,e=>cond (decide (a<((f.length:Int)+1))) ((E6 (((0+f.length:Nat):Int)≤140737488355328/8)).bind fun _=>(E6 (0≤a∧a≤(f.length:Int)∧((f.length:Int)+1)*8≤140737488355328)).bind fun _=>(idx b c).bind fun l=>(i64 (i+1)).bind fun _=>(h (i+1) j (b.set c.toNat (CZ f a i)) e).bind fun d=>cond (!d.1) (some (.inl (false,d.2.1,d.2.2))) ((i64 (a+1)).bind fun _=>Cq h i j c f k (a+1) d.2.1 d.2.2)) (some (.inr (b,e)))
def Cj{e:Type}(f:Int→Ar→(List (List Int))→e→Option (Bool×(List (List Int))×e))(h:Nat)(i:Int)(j:Ar)(k:List (List Int)):Nat→Int→(List (List Int))→e→Option ((Bool×(List (List Int))×e)⊕((List (List Int))×e))
 |0,_,_,_=>none
 |l+1,a,b,d=>cond (decide (a<(k.length:Int))) ((idx b a).bind fun g=>(i64 ((g.length:Int)+1)).bind fun _=>(Cq f i j a g h (0:Int) b d).bind fun z=>Sum.elim (fun c=>some (.inl (c.1,c.2.1,c.2.2))) (fun c=>(idx c.1 a).bind fun m=>(i64 (a+1)).bind fun _=>Cj f h i j k l (a+1) (c.1.set a.toNat g) c.2) z) (some (.inr (b,d)))
def BD{b:Type}(e:Nat)(d:b→(List (List Int))→Option (Bool×b)):Nat→Int→Ar→(List (List Int))→b→Option (Bool×(List (List Int))×b)
 |0,_,_,_,_=>none
 |i+1,f,g,c,h=>cond (f==(g.Ad.length:Int)) ((d h c).bind fun r2=>some ((r2.1,c,r2.2))) ((Cj (BD e d i) e f g c e (0:Int) c h).bind fun z=>Sum.elim (fun a=>some ((a.1,a.2.1,a.2.2))) (fun a=>some ((true,a.1,a.2))) z)
end Go.Proofs.YtkljfdkmjdjpfaaGreat
end
section
set_option linter.unusedVariables false
set_option linter.unusedSimpArgs false
namespace Go.Proofs.YtkljfdkmjdjpfaaGreat
open Go.RowKit Go.WideShapes
def Fa{a:Type}(c:Nat)(d:a→(List (List Int))→Option (Bool×a))(b:Ar)(e:a):Option (a):=
 (Kg b.Aj 24).bind fun _=>(BD c d c 0 b (List.replicate b.Aj.toNat ([]:List Int)) e).bind fun f=>some (f.2.2)
end Go.Proofs.YtkljfdkmjdjpfaaGreat
end
section
set_option linter.unusedVariables false
set_option linter.unusedSimpArgs false
namespace Go.Proofs.YtkljfdkmjdjpfaaGreat
open Go.RowKit Go.WideShapes
def G9(c:Nat)(a:Ar):Option ((List (List Int))×Int×Int):=
 (DK c a).bind fun d=>cond (d !=0) (some ((([]:List (List Int)),0,d))) ((i64 ((a.Ad.length:Int)+1)).bind fun _=>(Fa c (fun(st:Int×(List (List Int))) (x:(List (List Int)))=>(Gs c x a st.1 st.2).bind fun r=>some (r.1,(r.2.1,r.2.2))) a ((a.Ad.length:Int)+1,([]:List (List Int)))).bind fun b=>some ((b.2,b.1,0)))
def Ha(b:Nat)(c:Ar):Option ((List (List Int))×Int×Int):=
 (DK b c).bind fun d=>cond (d !=0) (some ((([]:List (List Int)),0,d))) ((Fa b (fun(st:Int×BQ×(List (List Int))) (x:(List (List Int)))=>(EY b x c st.1 st.2.1 st.2.2).bind fun r=>some (r.1,(r.2.1,r.2.2.1,r.2.2.2))) c ((-1),(⟨0,0,0,0⟩:BQ),([]:List (List Int)))).bind fun a=>some ((a.2.2,a.1,0)))
end Go.Proofs.YtkljfdkmjdjpfaaGreat
end
section
set_option linter.unusedVariables false
set_option linter.unusedSimpArgs false
namespace Go.Proofs.YtkljfdkmjdjpfaaGreat
open Go.RowKit Go.WideShapes
def Eb(e:Nat)(c:Ar):Nat→(List Int)→Int→Option ((List Int))
 |0,_,_=>none
 |f+1,b,a=>cond (decide (a<(c.Ad.length:Int))) ((Kg c.Aj 24).bind fun _=>(idx (List.replicate c.Aj.toNat ([]:List Int)) (0:Int)).bind fun _=>(Jl (c.Ad.length:Int) a e (0:Int) ((List.replicate c.Aj.toNat ([]:List Int)).set 0 [a])).bind fun g=>(CF e (fun(st:Unit) (x:Bd×Ah)=>(Dl e x.1 x.2).bind fun r=>some (r,())) c g ()).bind fun d=>(idx ([d.1.a0,d.1.a1,d.1.a2,d.1.a3]:List Int) a).bind fun h=>cond (h==d.2.1) ((i64 (a+1)).bind fun _=>Eb e c f b (a+1)) ((E6 (((b.length+[a].length:Nat):Int)≤140737488355328/8)).bind fun _=>(i64 (a+1)).bind fun _=>Eb e c f (b++[a]) (a+1))) (some (b))
def F2(a:Nat)(b:Ar):Option ((List Int)×Int):=
 (DK a b).bind fun r2=>cond (r2 !=0) (some ((([]:List Int),r2))) ((Eb a b a ([]:List Int) (0:Int)).bind fun z5=>some ((z5,0)))
end Go.Proofs.YtkljfdkmjdjpfaaGreat
end
section
set_option linter.unusedVariables false
set_option linter.unusedSimpArgs false
namespace Go.Proofs.YtkljfdkmjdjpfaaGreat
open Go.RowKit Go.WideShapes
def Ef(g:Nat)(h:Ar):Nat→Int→Int→(List Int)→Option ((List Int))
 |0,_,_,_=>none
 |i+1,a,d,b=>cond (decide (d<(h.Ad.length:Int))) ((idx h.Ad d).bind fun c=>(Ey g (⟨c.Aw,c.AJ⟩:CK)).bind fun e=>(rem a e).bind fun _=>(i64 (c.Aw+(a%e))).bind fun _=>(E6 (((b.length+[c.Aw+(a%e)].length:Nat):Int)≤140737488355328/8)).bind fun _=>(Ey g (⟨c.Aw,c.AJ⟩:CK)).bind fun f=>(quo a f).bind fun _=>(i64 (a/f)).bind fun _=>(i64 (d+1)).bind fun _=>Ef g h i (a/f) (d+1) (b++[c.Aw+(a%e)])) (some (b))
def D2(d:Nat)(e:Ar)(f:Int):Nat→Int→(List Bool)→Option ((List Bool))
 |0,_,_=>none
 |g+1,a,b=>cond (decide (a≤e.Am)) ((DW d f a).bind fun c=>(E6 (((b.length+[c].length:Nat):Int)≤140737488355328/1)).bind fun _=>(i64 (a+1)).bind fun _=>D2 d e f g (a+1) (b++[c])) (some (b))
def Ga(c:Nat)(d:Ar)(a:List Int)(b:Int):Option (AW):=
 (rem b (a.length:Int)).bind fun _=>(idx a (b%(a.length:Int))).bind fun e=>(quo b (a.length:Int)).bind fun _=>(i64 (b/(a.length:Int))).bind fun _=>(Ef c d c (b/(a.length:Int)) (0:Int) ([]:List Int)).bind fun f=>(D2 c d e c (0:Int) ([]:List Bool)).bind fun z23=>some ((⟨f,z23⟩:AW))
def Dz(c:Nat)(d:Ar)(r2:(List Int)):Nat→(List AW)→Int→Option ((List AW))
 |0,_,_=>none
 |f+1,b,a=>(DE c d).bind fun g=>cond (decide (a<g)) ((Ga c d r2 a).bind fun e=>(E6 (((b.length+[e].length:Nat):Int)≤140737488355328/48)).bind fun _=>(i64 (a+1)).bind fun _=>Dz c d r2 f (b++[e]) (a+1)) (some (b))
def Eg(a:Nat)(b:Ar):Option ((List AW)):=
 (Ej a b).bind fun r2=>(Dz a b r2 a ([]:List AW) (0:Int)).bind fun z4=>some (z4)
def Dm(d:Nat)(b:Ar)(c:AW):Nat→Int→Option ((Bool)⊕(Unit))
 |0,_=>none
 |h+1,a=>cond (decide (a<(c.Comes.length:Int))) ((idx c.Comes a).bind fun i=>(idx b.Ad a).bind fun e=>(idx b.Ad a).bind fun f=>(CJ d i e.Aw f.AJ).bind fun g=>cond (!g) (some (.inl false)) ((i64 (a+1)).bind fun _=>Dm d b c h (a+1))) (some (.inr ()))
def Cr(c:AW):Nat→Int→Int→Option (Int)
 |0,_,_=>none
 |d+1,b,a=>cond (decide (a<(c.Ap.length:Int))) ((idx c.Ap a).bind fun e=>cond (e) ((L1 .u64 a).bind fun _=>(Jk (1:Int) a).bind fun _=>(NV b (Fz (1:Int) a)).bind fun _=>(i64 (a+1)).bind fun _=>Cr c d (L0 b (Fz (1:Int) a)) (a+1)) ((i64 (a+1)).bind fun _=>Cr c d b (a+1))) (some (b))
def D4(b:Nat)(a:Ar)(c:AW):Option (Bool):=
 cond ((c.Comes.length:Int) !=(a.Ad.length:Int)) (some (false)) ((i64 (a.Am+1)).bind fun _=>cond ((c.Ap.length:Int) !=(a.Am+1)) (some (false)) ((Dm b a c b (0:Int)).bind fun z=>Sum.elim (fun d=>some (d)) (fun d=>(Cr c b (0:Int) (0:Int)).bind fun e=>(Ed b a e).bind fun f=>some (f)) z))
def Dn(e:Nat)(f:Ar)(g:List (List Int))(c:Int):Nat→Int→Int→Option ((Bool)⊕(Int))
 |0,_,_=>none
 |j+1,a,b=>(idx g c).bind fun k=>cond (decide (b<(k.length:Int))) ((idx g c).bind fun l=>(idx l b).bind fun d=>(i64 ((f.Ad.length:Int)-1)).bind fun _=>(CJ e d 0 ((f.Ad.length:Int)-1)).bind fun h=>cond (!h) (some (.inl false)) ((DW e a d).bind fun i=>cond (i) (some (.inl false)) ((L1 .u64 d).bind fun _=>(Jk (1:Int) d).bind fun _=>(NV a (Fz (1:Int) d)).bind fun _=>(i64 (b+1)).bind fun _=>Dn e f g c j (L0 a (Fz (1:Int) d)) (b+1)))) (some (.inr a))
def Dp(d:Nat)(f:Ar)(e:List (List Int)):Nat→Int→Int→Option ((Bool)⊕(Int))
 |0,_,_=>none
 |g+1,b,a=>cond (decide (a<(e.length:Int))) ((Dn d f e a d b (0:Int)).bind fun z=>Sum.elim (fun c=>some (.inl c)) (fun c=>(i64 (a+1)).bind fun _=>Dp d f e g c (a+1)) z) (some (.inr b))
def Fb(c:Nat)(a:Ar)(d:List (List Int)):Option (Bool):=
 cond ((d.length:Int) !=a.Aj) (some (false)) ((Dp c a d c (0:Int) (0:Int)).bind fun z=>Sum.elim (fun b=>some (b)) (fun b=>(L1 .u64 (a.Ad.length:Int)).bind fun _=>(Jk (1:Int) (a.Ad.length:Int)).bind fun _=>(i64 ((Fz (1:Int) (a.Ad.length:Int))-1)).bind fun _=>some (b==((Fz (1:Int) (a.Ad.length:Int))-1))) z)
def Ds:Nat→Int→(List Ah)→Option ((List Ah))
 |0,_,_=>none
 |c+1,a,b=>cond (decide (a<(b.length:Int))) ((idx b a).bind fun d=>(i64 (a+1)).bind fun _=>Ds c (a+1) (b.set a.toNat (⟨(-1),(-1),false⟩:Ah))) (some (b))
def Bv(i:Ar)(k:List (List Int))(l:AW)(f:Int):Nat→Int→Int→Int→Int→Int→(List Ah)→Option ((List Ah))
 |0,_,_,_,_,_,_=>none
 |m+1,d,c,h,j,a,b=>cond (decide (a≤i.Am)) (cond (decide (c<0)) ((idx k f).bind fun aE=>cond (decide (d<(aE.length:Int))) ((idx k f).bind fun aF=>(idx aF d).bind fun aG=>(idx l.Comes aG).bind fun aH=>cond (decide (aH≤a)) ((idx k f).bind fun aI=>(idx aI d).bind fun e=>(idx b e).bind fun g=>(i64 (d+1)).bind fun _=>cond (decide (e<0)) ((i64 (a+1)).bind fun _=>Bv i k l f m (d+1) e (0:Int) (0:Int) (a+1) (b.set e.toNat (⟨a,g.AH,g.Aq⟩:Ah))) ((idx l.Ap a).bind fun aJ=>cond (aJ) ((idx i.Ad e).bind fun aK=>cond ((0:Int)==aK.Aq) ((idx (b.set e.toNat (⟨a,g.AH,g.Aq⟩:Ah)) e).bind fun p=>(idx ((b.set e.toNat (⟨a,g.AH,g.Aq⟩:Ah)).set e.toNat (⟨p.On,a,p.Aq⟩:Ah)) e).bind fun v=>(i64 (a+1)).bind fun _=>Bv i k l f m (d+1) (-1) (0:Int) ((0:Int)+(1:Int)) (a+1) (((b.set e.toNat (⟨a,g.AH,g.Aq⟩:Ah)).set e.toNat (⟨p.On,a,p.Aq⟩:Ah)).set e.toNat (⟨v.On,v.AH,true⟩:Ah))) ((idx i.Ad e).bind fun aL=>cond (((0:Int)+(1:Int))==aL.BY) ((idx (b.set e.toNat (⟨a,g.AH,g.Aq⟩:Ah)) e).bind fun w=>(i64 (a+1)).bind fun _=>Bv i k l f m (d+1) (-1) (0:Int) ((0:Int)+(1:Int)) (a+1) ((b.set e.toNat (⟨a,g.AH,g.Aq⟩:Ah)).set e.toNat (⟨w.On,a,w.Aq⟩:Ah))) ((i64 (a+1)).bind fun _=>Bv i k l f m (d+1) e (0:Int) ((0:Int)+(1:Int)) (a+1) (b.set e.toNat (⟨a,g.AH,g.Aq⟩:Ah))))) ((idx i.Ad e).bind fun aM=>cond (((0:Int)+(1:Int))==aM.Aq) ((idx (b.set e.toNat (⟨a,g.AH,g.Aq⟩:Ah)) e).bind fun q=>(idx ((b.set e.toNat (⟨a,g.AH,g.Aq⟩:Ah)).set e.toNat (⟨q.On,a,q.Aq⟩:Ah)) e).bind fun x=>(i64 (a+1)).bind fun _=>Bv i k l f m (d+1) (-1) ((0:Int)+(1:Int)) (0:Int) (a+1) (((b.set e.toNat (⟨a,g.AH,g.Aq⟩:Ah)).set e.toNat (⟨q.On,a,q.Aq⟩:Ah)).set e.toNat (⟨x.On,x.AH,true⟩:Ah))) ((idx i.Ad e).bind fun aN=>cond ((0:Int)==aN.BY) ((idx (b.set e.toNat (⟨a,g.AH,g.Aq⟩:Ah)) e).bind fun y=>(i64 (a+1)).bind fun _=>Bv i k l f m (d+1) (-1) ((0:Int)+(1:Int)) (0:Int) (a+1) ((b.set e.toNat (⟨a,g.AH,g.Aq⟩:Ah)).set e.toNat (⟨y.On,a,y.Aq⟩:Ah))) ((i64 (a+1)).bind fun _=>Bv i k l f m (d+1) e ((0:Int)+(1:Int)) (0:Int) (a+1) (b.set e.toNat (⟨a,g.AH,g.Aq⟩:Ah))))))) ((i64 (a+1)).bind fun _=>Bv i k l f m d c h j (a+1) b)) ((i64 (a+1)).bind fun _=>Bv i k l f m d c h j (a+1) b)) ((idx l.Ap a).bind fun z=>cond (z) ((i64 (j+1)).bind fun _=>(idx i.Ad c).bind fun aA=>cond (h==aA.Aq) ((idx b c).bind fun n=>(idx (b.set c.toNat (⟨n.On,a,n.Aq⟩:Ah)) c).bind fun r=>(i64 (a+1)).bind fun _=>Bv i k l f m d (-1) h (j+1) (a+1) ((b.set c.toNat (⟨n.On,a,n.Aq⟩:Ah)).set c.toNat (⟨r.On,r.AH,true⟩:Ah))) ((idx i.Ad c).bind fun aB=>cond ((j+1)==aB.BY) ((idx b c).bind fun s=>(i64 (a+1)).bind fun _=>Bv i k l f m d (-1) h (j+1) (a+1) (b.set c.toNat (⟨s.On,a,s.Aq⟩:Ah))) ((i64 (a+1)).bind fun _=>Bv i k l f m d c h (j+1) (a+1) b))) ((i64 (h+1)).bind fun _=>(idx i.Ad c).bind fun aC=>cond ((h+1)==aC.Aq) ((idx b c).bind fun o=>(idx (b.set c.toNat (⟨o.On,a,o.Aq⟩:Ah)) c).bind fun t=>(i64 (a+1)).bind fun _=>Bv i k l f m d (-1) (h+1) (0:Int) (a+1) ((b.set c.toNat (⟨o.On,a,o.Aq⟩:Ah)).set c.toNat (⟨t.On,t.AH,true⟩:Ah))) ((idx i.Ad c).bind fun aD=>cond ((0:Int)==aD.BY) ((idx b c).bind fun u=>(i64 (a+1)).bind fun _=>Bv i k l f m d (-1) (h+1) (0:Int) (a+1) (b.set c.toNat (⟨u.On,a,u.Aq⟩:Ah))) ((i64 (a+1)).bind fun _=>Bv i k l f m d c (h+1) (0:Int) (a+1) b))))) (some (b))
def DN(d:Nat)(e:Ar)(c:List (List Int))(f:AW):Nat→Int→(List Ah)→Option ((List Ah))
 |0,_,_=>none
 |h+1,a,b=>cond (decide (a<(c.length:Int))) ((Bv e c f a d (0:Int) (-1) (0:Int) (0:Int) (0:Int) b).bind fun g=>(i64 (a+1)).bind fun _=>DN d e c f h (a+1) g) (some (b))
def DF(a:Nat)(b:Ar)(d:List (List Int))(e:AW):Option ((List Ah)):=
 (Kg (b.Ad.length:Int) 24).bind fun _=>(Ds a (0:Int) (List.replicate (b.Ad.length:Int).toNat (⟨0,0,false⟩:Ah))).bind fun z5=>(DN a b d e a (0:Int) z5).bind fun c=>some (c)
def Eu(c:Nat)(b:Bd)(a:Ah):Option (Bool):=
 cond (a.Aq) (some (decide (a.AH≤b.Ch))) (some (false))
def Dt(d:Nat)(e:Ar)(c:List Ah):Nat→Int→Int→Option (Int)
 |0,_,_=>none
 |f+1,b,a=>cond (decide (a<(c.length:Int))) ((idx e.Ad a).bind fun g=>(idx c a).bind fun h=>(Eu d g h).bind fun i=>cond (!i) ((i64 (b+1)).bind fun _=>(i64 (a+1)).bind fun _=>Dt d e c f (b+1) (a+1)) ((i64 (a+1)).bind fun _=>Dt d e c f b (a+1))) (some (b))
def Ec(a:Nat)(b:Ar)(c:List Ah):Option (Int):=
 (Dt a b c a (0:Int) (0:Int)).bind fun z2=>some (z2)
def D5(c:Nat)(d:Ar)(e:List AW)(f:List (List Int)):Nat→Int→Int→Option (Int)
 |0,_,_=>none
 |g+1,b,a=>cond (decide (a<(e.length:Int))) ((idx e a).bind fun h=>(DF c d f h).bind fun i=>(Ec c d i).bind fun j=>(i64 (a+1)).bind fun _=>D5 c d e f g (max b j) (a+1)) (some (b))
def EB(a:Nat)(b:Ar)(c:List AW)(d:List (List Int)):Option (Int):=
 (D5 a b c d a (0:Int) (0:Int)).bind fun z2=>some (z2)
def C9(e:Nat)(f:Ar)(c:(List Ah)):Nat→Int→(List Int)→Option ((List Int))
 |0,_,_=>none
 |g+1,a,b=>cond (decide (a<(c.length:Int))) ((idx f.Ad a).bind fun h=>(idx c a).bind fun i=>(Eu e h i).bind fun j=>cond (j) ((idx b a).bind fun d=>(i64 (d+1)).bind fun _=>(idx b a).bind fun k=>(i64 (a+1)).bind fun _=>C9 e f c g (a+1) (b.set a.toNat (d+1))) ((i64 (a+1)).bind fun _=>C9 e f c g (a+1) b)) (some (b))
def DO(c:Nat)(d:Ar)(e:List AW)(f:List (List Int)):Nat→Int→(List Int)→Option ((List Int))
 |0,_,_=>none
 |h+1,a,b=>cond (decide (a<(e.length:Int))) ((idx e a).bind fun i=>(DF c d f i).bind fun j=>(C9 c d j c (0:Int) b).bind fun g=>(i64 (a+1)).bind fun _=>DO c d e f h (a+1) g) (some (b))
def Er(b:Nat)(a:Ar)(c:List AW)(d:List (List Int)):Option ((List Int)):=
 (Kg (a.Ad.length:Int) 8).bind fun _=>(DO b a c d b (0:Int) (List.replicate (a.Ad.length:Int).toNat (0:Int))).bind fun z4=>some (z4)
end Go.Proofs.YtkljfdkmjdjpfaaGreat
end
section
set_option linter.unusedVariables false
set_option linter.unusedSimpArgs false
namespace Go.Proofs.YtkljfdkmjdjpfaaGreat
open Go.RowKit Go.WideShapes
def DP(c:List (List Int)):Nat→(List (List Int))→Int→Option ((List (List Int)))
 |0,_,_=>none
 |e+1,b,a=>cond (decide (a<(c.length:Int))) ((idx c a).bind fun d=>(E6 (((([]:List Int).length+d.length:Nat):Int)≤140737488355328/8)).bind fun _=>(E6 (((b.length+[([]:List Int)++d].length:Nat):Int)≤140737488355328/24)).bind fun _=>(i64 (a+1)).bind fun _=>DP c e (b++[([]:List Int)++d]) (a+1)) (some (b))
def EN(a:Nat)(b:List (List Int)):Option ((List (List Int))):=
 (DP b a ([]:List (List Int)) (0:Int)).bind fun z2=>some (z2)
def Dg(b:Nat)(a:AW):Option (AW):=
 some (a)
def DQ(b:List (List Int)):Nat→Int→Option ((Bool)⊕(Unit))
 |0,_=>none
 |c+1,a=>cond (decide (a<(b.length:Int))) (cond (decide (a<5)) ((idx b a).bind fun d=>cond (decide ((6:Int)<(d.length:Int))) (some (.inl false)) ((i64 (a+1)).bind fun _=>DQ b c (a+1))) (some (.inr ()))) (some (.inr ()))
def FE(c:Nat)(b:List (List Int)):Option (Bool):=
 (DQ b c (0:Int)).bind fun z=>Sum.elim (fun a=>some (a)) (fun a=>some (decide ((b.length:Int)≤4))) z
end Go.Proofs.YtkljfdkmjdjpfaaGreat
end
section
set_option linter.unusedVariables false
set_option linter.unusedSimpArgs false
namespace Go.Proofs.YtkljfdkmjdjpfaaGreat
open Go.RowKit Go.WideShapes
def BH(a:Nat):Option (Bool):=
 (CM a 1).bind fun r1=>(GJ a 3).bind fun v=>(GF a r1 [[0,1]] v).bind fun h=>(CM a 1).bind fun w=>(EO a w [[0,1]] 1).bind fun d=>(CM a 1).bind fun i=>(EO a i [[1,0]] 0).bind fun e=>(CM a 1).bind fun j=>(Ge a j [[1,0]]).bind fun b=>(CM a 1).bind fun k=>(G9 a k).bind fun c=>(CM a 1).bind fun l=>(Ha a l).bind fun f=>(CM a 1).bind fun m=>(F2 a m).bind fun g=>cond (h.2==0) ((E7 a 0 1 true).bind fun n=>(E7 a 2 3 false).bind fun o=>(GK a h.1 n o).bind fun p=>cond (p) (cond (d.2==0) (cond (d.1==3) (cond (e.2==0) (cond (e.1==2) (cond (b.2.2==0) (cond (b.1==2) ((CM a 1).bind fun q=>(FM a q [[1,0]] b.2.1 2).bind fun r=>cond (r) (cond (c.2.2==0) (cond (c.2.1==1) ((CM a 1).bind fun s=>(Fu a s c.1 1).bind fun t=>cond (t) (cond (f.2.2==0) (cond (f.2.1==1) (cond (g.2==0) ((FR a g.1 [1]).bind fun u=>some (u)) (some (false))) (some (false))) (some (false))) (some (false))) (some (false))) (some (false))) (some (false))) (some (false))) (some (false))) (some (false))) (some (false))) (some (false))) (some (false))) (some (false))) (some (false))
end Go.Proofs.YtkljfdkmjdjpfaaGreat
end
section
namespace Go.Proofs.YtkljfdkmjdjpfaaGreat
theorem bd{α β:Type}{x:Option α}{a:α}{f:α→Option β}(h:x=some a):x.bind f=f a:=by rw[h];rfl
theorem By{β:Type}{x:Int}{f:Int→Option β}(h0:-9223372036854775808≤x)(a:x≤9223372036854775807):(i64 x).bind f=f x:=bd (Uc h0 a)
theorem B7{α β:Type}{xs:List α}{k:Nat}{f:α→Option β}(h:k<xs.length):(idx xs (k:Int)).bind f=f xs[k]:=bd (idx_eq h)
theorem FV{β:Type}{p:Prop}[Decidable p]{f:Unit→Option β}(h:p):(E6 p).bind f=f ():=bd (if_pos h)
theorem P0{β:Type}{a b:Int}{f:Int→Option β}(h0:0≤a)(c:1≤b):(rem a b).bind f=f (a%b):=bd (if_pos ⟨h0,c⟩)
theorem Un{β:Type}{a b:Int}{f:Int→Option β}(h0:0≤a)(c:1≤b):(quo a b).bind f=f (a/b):=bd (if_pos ⟨h0,c⟩)
theorem NZ{β:Type}{n:Int}{b:Nat}{f:Unit→Option β}(h0:0≤n)(a:n*b≤140737488355328)(c:n≤140737488355328):(Kg n b).bind f=f ():=bd (if_pos ⟨h0,a,c⟩)
theorem ct{α:Type}{b:Bool}{x y:α}(h:b=true):cond b x y=x:=by rw[h];rfl
theorem cf{α:Type}{b:Bool}{x y:α}(h:b=false):cond b x y=y:=by rw[h];rfl
theorem nt{α:Type}{x y:α}:cond (!true) x y=y:=rfl
theorem nf{α:Type}{x y:α}:cond (!false) x y=x:=rfl
theorem dt{p:Prop}[Decidable p](h:p):decide p=true:=decide_eq_true h
theorem df{p:Prop}[Decidable p](h:¬p):decide p=false:=decide_eq_false h
theorem CS(i:Nat):(i:Int)+1=((i+1:Nat):Int):=by omega
def Fx(n a b:Int):Bool:=decide (a≤n)&&decide (n≤b)
theorem Fc{n a b:Int}:Fx n a b=true↔a≤n∧n≤b:=by simp[Fx]
theorem KH(K:Nat)(n a b:Int):CJ K n a b=some (Fx n a b):=by unfold CJ Fx;cases decide (a≤n)<;>rfl
theorem Hy(K:Nat)(n a b:Int):ED K n a b=some (Fx n a b):=by unfold ED Fx;cases decide (a≤n)<;>rfl
def run {σ α:Type} (cb:σ→α→Option (Bool×σ)):List α→σ→Option (Bool×σ)
 |[],s=>some (true,s)
 |x::l,s=>(cb s x).bind fun r=>cond r.1 (run cb l r.2) (some (false,r.2))
theorem HT{σ α:Type}(cb:σ→α→Option (Bool×σ))(a:List α):∀(b:List α) (s:σ),run cb (b++a) s=(run cb b s).bind fun r=>cond r.1 (run cb a r.2) (some (false,r.2))
 |[],s=>rfl
 |x::l,s=>by
  simp only[List.cons_append,run];cases cb s x with
  |none=>rfl
  |some r=>
   simp only[Option.bind_some];cases h:r.1 with
   |false=>simp
   |true=>simpa using HT cb a l r.2
theorem run_map{σ α β:Type}(cb:σ→β→Option (Bool×σ))(f:α→β):∀(l:List α) (s:σ),run cb (l.map f) s=run (fun s x=>cb s (f x)) l s
 |[],s=>rfl
 |x::l,s=>by simp only[List.map_cons,run,run_map cb f l]
theorem P1{σ:Type}(K:Nat)(cb:σ→Bool→Option (Bool×σ))(p:List Bool)(a:p.length≤5000):∀(n m i:Nat) (s:σ),p.length=i+n→n<m→
  (C5 (fun(st:σ) (x:Bool)=>(EI K cb x st).bind fun r=>some (r.1,r.2)) p m (i:Int) s).bind (fun z=>Sum.elim (fun q=>some (decide ((0:Int)≤q.1),q.2)) (fun q=>some (false,q)) z)=(run cb (p.drop i) s).bind fun r=>some (!r.1,r.2):=by
 intro n
 induction n with
 |zero=>
  intro m i s h hm;cases m with
  |zero=>omega
  |succ m=>
   rw[C5.eq_2,cf (df (by omega)),List.drop_eq_nil_of_le (by omega)];rfl
 |succ n ih=>
  intro m i s h hm;cases m with
  |zero=>omega
  |succ m=>
   have hi:i<p.length:=by omega
   rw[C5.eq_2,ct (dt (by omega)),B7 hi,List.drop_eq_getElem_cons hi];simp only[run];have e:(EI K cb p[i] s).bind (fun r=>some (r.1,r.2))=(cb s p[i]).bind fun r=>some (!r.1,r.2):=by
    unfold EI;cases cb s p[i]<;>rfl
   rw[e];cases b:cb s p[i] with
   |none=>rfl
   |some r=>
    simp only[Option.bind_some];cases c:r.1 with
    |false=>
     show some (decide ((0:Int)≤(i:Int)),r.2)=some (!false,r.2);rw[dt (by omega)];rfl
    |true=>
     rw[nt,By (by omega) (by omega),CS];exact ih m (i+1) r.2 (by omega) (by omega)
theorem P2{σ:Type}{K:Nat}(cb:σ→Bool→Option (Bool×σ))(p:List Bool)(s:σ)(b:p.length≤5000)(hK:p.length<K):Gy K cb p s=run cb p s:=by
 unfold Gy EX FA;have h:=P1 K cb p b p.length K 0 s (by omega) hK;rw[List.drop_zero,Int.natCast_zero] at h;have e:∀(z:(Int×σ)⊕σ),(Sum.elim (fun a=>some ((a.1,a.2))) (fun a=>some (((-1),a))) z:Option (Int×σ)).bind (fun r1=>some ((decide ((0:Int)≤r1.1),r1.2)))=Sum.elim (fun q=>some (decide ((0:Int)≤q.1),q.2)) (fun q=>some (false,q)) z:=by
  intro z;cases z<;>rfl
 refine Eq.trans (congrArg (fun z=>Option.bind z _) ((Option.bind_assoc _ _ _).trans ((congrArg (fun f=>Option.bind _ f) (funext e)).trans h))) ?_;cases run cb p s with
 |none=>rfl
 |some r=>show some (!(!r.1),r.2)=some r;rw[Bool.not_not]
theorem QA{σ:Type}(K:Nat)(cb:σ→Bd→Option (Bool×σ))(p:List Bd)(a:p.length≤5000):∀(n m i:Nat) (s:σ),p.length=i+n→n<m→
  (De (fun(st:σ) (x:Bd)=>(E3 K cb x st).bind fun r=>some (r.1,r.2)) p m (i:Int) s).bind (fun z=>Sum.elim (fun q=>some (decide ((0:Int)≤q.1),q.2)) (fun q=>some (false,q)) z)=(run cb (p.drop i) s).bind fun r=>some (!r.1,r.2):=by
 intro n
 induction n with
 |zero=>
  intro m i s h hm;cases m with
  |zero=>omega
  |succ m=>
   rw[De.eq_2,cf (df (by omega)),List.drop_eq_nil_of_le (by omega)];rfl
 |succ n ih=>
  intro m i s h hm;cases m with
  |zero=>omega
  |succ m=>
   have hi:i<p.length:=by omega
   rw[De.eq_2,ct (dt (by omega)),B7 hi,List.drop_eq_getElem_cons hi];simp only[run];have e:(E3 K cb p[i] s).bind (fun r=>some (r.1,r.2))=(cb s p[i]).bind fun r=>some (!r.1,r.2):=by
    unfold E3;cases cb s p[i]<;>rfl
   rw[e];cases b:cb s p[i] with
   |none=>rfl
   |some r=>
    simp only[Option.bind_some];cases c:r.1 with
    |false=>
     show some (decide ((0:Int)≤(i:Int)),r.2)=some (!false,r.2);rw[dt (by omega)];rfl
    |true=>
     rw[nt,By (by omega) (by omega),CS];exact ih m (i+1) r.2 (by omega) (by omega)
theorem QB{σ:Type}{K:Nat}(cb:σ→Bd→Option (Bool×σ))(p:List Bd)(s:σ)(b:p.length≤5000)(hK:p.length<K):GO K cb p s=run cb p s:=by
 unfold GO Fh FP;have h:=QA K cb p b p.length K 0 s (by omega) hK;rw[List.drop_zero,Int.natCast_zero] at h;have e:∀(z:(Int×σ)⊕σ),(Sum.elim (fun a=>some ((a.1,a.2))) (fun a=>some (((-1),a))) z:Option (Int×σ)).bind (fun r1=>some ((decide ((0:Int)≤r1.1),r1.2)))=Sum.elim (fun q=>some (decide ((0:Int)≤q.1),q.2)) (fun q=>some (false,q)) z:=by
  intro z;cases z<;>rfl
 refine Eq.trans (congrArg (fun z=>Option.bind z _) ((Option.bind_assoc _ _ _).trans ((congrArg (fun f=>Option.bind _ f) (funext e)).trans h))) ?_;cases run cb p s with
 |none=>rfl
 |some r=>show some (!(!r.1),r.2)=some r;rw[Bool.not_not]
def okW (W R:Int):List Bool→Int→Int→Bool
 |[],_,_=>true
 |false::l,s,_=>okW W R l s 0
 |true::l,s,r=>decide (s+1≤W)&&(decide (r+1≤R)&&okW W R l (s+1) (r+1))
theorem JW(K:Nat)(y:Ar):∀(l:List Bool) (r s:Int),0≤r→0≤s→r+l.length≤5000→s+l.length≤5000→
  (run (fun(st:Int×Int) (x:Bool)=>(D1 K x st.1 st.2 y).bind fun r=>some (r.1,(r.2.1,r.2.2))) l (r,s)).bind (fun d=>some (d.1))=some (okW y.Ap y.AA l s r)
 |[],r,s,_,_,_,_=>rfl
 |false::l,r,s,e,c,a,b=>by
  simp only[run,okW];unfold D1;simp only[Bool.not_false,cond_true,Option.bind_some];exact JW K y l 0 s (by omega) c (by simp at a;omega) (by simp at b;omega)
 |true::l,r,s,e,c,a,b=>by
  simp only[List.length_cons] at a b;simp only[run,okW];unfold D1;simp only[Bool.not_true,cond_false];rw[By (by omega) (by omega),By (by omega) (by omega)];cases f:decide (s+1≤y.Ap) with
  |false=>simp
  |true=>
   simp only[cond_true,Option.bind_some];cases g:decide (r+1≤y.AA) with
   |false=>simp
   |true=>
    simp only[cond_true,Bool.true_and];exact JW K y l (r+1) (s+1) (by omega) (by omega) (by omega) (by omega)
theorem M6{K:Nat}(y:Ar)(l:List Bool)(a:l.length≤4000)(hK:l.length<K):EK K y l=some (okW y.Ap y.AA l 0 0):=by
 unfold EK;rw[P2 _ l _ (by omega) hK];exact JW K y l 0 0 (by omega) (by omega) (by omega) (by omega)
end Go.Proofs.YtkljfdkmjdjpfaaGreat
end
section
namespace Go.Proofs.YtkljfdkmjdjpfaaGreat
theorem Pb(s x:Nat):FH (s:Int) (x:Int)=((s/2^x:Nat):Int):=by
 unfold FH;rw[Int.toNat_natCast,Int.natCast_ediv,Int.natCast_pow];rfl
theorem S0(s x:Nat):FH (s:Int) (x:Int)%2=((s/2^x%2:Nat):Int):=by rw[Pb];simp
theorem QC(b d:Nat):(FH (b:Int) (d:Int)%2==1)=b.testBit d:=by
 rw[S0,Nat.testBit_eq_decide_div_mod_eq];cases h:decide (b/2^d%2=1) with
 |true=>rw[of_decide_eq_true h];rfl
 |false=>
  have:=of_decide_eq_false h;simp only[beq_eq_false_iff_ne,ne_eq];omega
theorem QD(b d:Nat)(h:d<64):NU (b:Int) (d:Int)=some ():=if_pos ⟨by omega,by omega⟩
theorem Uo(b d:Nat):0≤FH (b:Int) (d:Int):=by rw[Pb];exact Int.natCast_nonneg _
def wl (n b:Nat):List Bool:=(List.range n).map b.testBit
theorem FW(n b:Nat):(wl n b).length=n:=by simp[wl]
theorem Vx(b n:Nat)(a:List Bool)(h0:a.length=n)(d:n≤63):∀(k m i:Nat) (s:List Bool),n=i+k→k<m→s.length=n→
  CQ (b:Int) a m (i:Int) s=some (s.take i++(List.range' i k).map b.testBit):=by
 intro k
 induction k with
 |zero=>
  intro m i s h hm c;cases m with
  |zero=>omega
  |succ m=>
   rw[CQ.eq_2,cf (df (by omega)),List.take_of_length_le (by omega)];simp
 |succ k ih=>
  intro m i s h hm c;cases m with
  |zero=>omega
  |succ m=>
   have hi:i<s.length:=by omega
   rw[CQ.eq_2,ct (dt (by omega)),bd (QD b i (by omega)),P0 (Uo b i) (by omega),B7 hi,By (by omega) (by omega),CS,QC,Int.toNat_natCast];rw[ih m (i+1) (s.set i (b.testBit i)) (by omega) (by omega) (by rw[List.length_set];exact c)]
   congr 1
   rw[List.range'_succ,List.map_cons,List.take_add_one,List.getElem?_set_self hi,List.take_set_of_le (Nat.le_refl _)];simp
theorem Vy(b n:Nat)(s:List Bool)(c:n≤63){K:Nat}(hK:n<K)(a:s.length=n):CQ (b:Int) s K 0 s=some (wl n b):=by
 have:=Vx b n s a c n K 0 s (by omega) hK a;rw[Int.natCast_zero] at this;rw[this,wl,List.range_eq_range'];rfl
def Hz (y:Ar) (l:List Bool):Bool:=okW y.Ap y.AA l 0 0
def days(y:Ar):Nat:=(y.Am+1).toNat
def Bw(y:Ar):List (List Bool):=((List.range (2^days y)).map (wl (days y))).filter (Hz y)
theorem IU:∀n:Nat,n≤10→2^n≤1024:=by decide
theorem P3{σ:Type}{K:Nat}(cb:σ→List Bool→Option (Bool×σ))(y:Ar)(f:days y≤10)(hK:2000≤K):∀(k m i:Nat) (a:List Bool) (st:σ),2^days y=i+k→k<m→a.length=days y→
  CR cb K y m (i:Int) a st=(run cb (((List.range' i k).map (wl (days y))).filter (Hz y)) st).bind fun r=>some (cond r.1 (.inr r.2) (.inl r.2)):=by
 intro k;have g:=IU _ f;have b:Fz (1:Int) ((List.replicate (y.Am+1).toNat false).length:Int)=((2^days y:Nat):Int):=by
  unfold Fz;rw[Int.one_mul,Int.toNat_natCast,List.length_replicate,Int.natCast_pow];rfl
 induction k with
 |zero=>
  intro m i a st h hm c;cases m with
  |zero=>omega
  |succ m=>
   rw[CR.eq_2,b,cf (df (by omega))];rfl
 |succ k ih=>
  intro m i a st h hm c;cases m with
  |zero=>omega
  |succ m=>
   rw[CR.eq_2,b,ct (dt (by omega)),bd (Vy i (days y) a (by omega) (by omega) c),bd (M6 y (wl (days y) i) (by rw[FW];omega) (by rw[FW];omega))];rw[List.range'_succ,List.map_cons];show cond (Hz y (wl (days y) i)) _ _=_;cases d:Hz y (wl (days y) i) with
   |false=>
    rw[List.filter_cons_of_neg (by rw[d];decide),cf rfl,By (by omega) (by omega),CS];exact ih m (i+1) _ st (by omega) (by omega) (FW _ _)
   |true=>
    rw[List.filter_cons_of_pos d,ct rfl];show _=(Option.bind _ _:Option (Bool×σ)).bind _;cases j:cb st (wl (days y) i) with
    |none=>rfl
    |some r=>
     cases e:r.1 with
     |false=>
      show(cond (!r.1) (some (Sum.inl r.2)) _:Option (σ⊕σ))=(cond r.1 _ (some (false,r.2)):Option (Bool×σ)).bind _;rw[e];rfl
     |true=>
      show cond (!r.1) _ ((i64 ((i:Int)+1)).bind _)=(cond r.1 (run cb _ r.2) _:Option (Bool×σ)).bind _;rw[e,nt,By (by omega) (by omega),CS];exact ih m (i+1) _ r.2 (by omega) (by omega) (FW _ _)
theorem L9{σ:Type}{K:Nat}(cb:σ→List Bool→Option (Bool×σ))(y:Ar)(h0:0≤y.Am)(h9:y.Am≤9)(hK:2000≤K)(st:σ):
  DJ K cb y st=(run cb (Bw y) st).bind fun r=>some r.2:=by
 have a:days y≤10:=by unfold days;omega
 have c:=IU _ a;unfold DJ;rw[By (by omega) (by omega),NZ (by omega) (by omega) (by omega)];have b:Jk (1:Int) ((List.replicate (y.Am+1).toNat false).length:Int)=some ():=by
  rw[List.length_replicate];refine if_pos ⟨by omega,by omega,?_,?_⟩
  ·have:(0:Int)≤1*2^((days y:Nat):Int).toNat:=by rw[Int.one_mul];exact Int.le_of_lt (Int.pow_pos (by omega))
   exact Int.le_trans (by omega) this
  ·rw[Int.one_mul,Int.toNat_natCast];have:((2^days y:Nat):Int)≤1024:=by omega
   rw[Int.natCast_pow] at this;exact Int.le_trans this (by omega)
 rw[bd b];have:=P3 (K:=K) cb y a hK (2^days y) K 0 (List.replicate (y.Am+1).toNat false) st (by omega) (by omega) (by rw[List.length_replicate];rfl);rw[Int.natCast_zero] at this;rw[this,Bw,List.range_eq_range',Option.bind_assoc]
 congr 1;funext r
 cases r.1<;>rfl
end Go.Proofs.YtkljfdkmjdjpfaaGreat
end
section
namespace Go.Proofs.YtkljfdkmjdjpfaaGreat
def Gz(y:Ar)(l:Bd):Bool:=decide (0≤l.Aw)&&(decide (l.Aw≤l.AJ)&&(decide (l.AJ≤y.Am)&&(Fx l.Aq 1 5&&(Fx l.BY 1 5&&Fx l.Ch 0 y.Am))))
def B5(l:Bd):Int:=l.AJ-l.Aw+1
def Fi:List Bd→Int
 |[]=>1
 |l::r=>B5 l*Fi r
def Gc (y:Ar):Int:=((Bw y).length:Int)*Fi y.Ad
def check(y:Ar):Int:=
 if 9<y.Am∨2<y.Aj∨4<(y.Ad.length:Int) then 3
 else if y.Am<0∨y.Aj<1∨Fx y.Ap 0 (y.Am+1)=false∨Fx y.AA 0 (y.Am+1)=false∨y.Ad.all (Gz y)=false then 1
 else if 1000<Gc y then 3 else 0
theorem I9{y:Ar}{l:Bd}:Gz y l=true↔0≤l.Aw∧l.Aw≤l.AJ∧l.AJ≤y.Am∧(1≤l.Aq∧l.Aq≤5)∧(1≤l.BY∧l.BY≤5)∧0≤l.Ch∧l.Ch≤y.Am:=by
 unfold Gz;simp only[Bool.and_eq_true,decide_eq_true_eq,Fc]
theorem Vz(K:Nat)(y:Ar)(l:Bd):Fp K y l=some (Gz y l):=by
 unfold Fp Gz Hg G3;rw[Hy,Hy,Hy];cases decide ((0:Int)≤l.Aw)<;>cases decide (l.Aw≤l.AJ)<;>cases decide (l.AJ≤y.Am)<;>cases Fx l.Aq 1 5<;>cases Fx l.BY 1 5<;>rfl
theorem Up{K:Nat}(hK:2<K)(a b:Int):GP K [a,b]=some (min a b):=by
 obtain⟨k,rfl⟩:∃k,K=k+3:=⟨K-3,by omega⟩;unfold GP GZ;rw[cf (df (by simp)),show(0:Int)=((0:Nat):Int) from rfl,B7 (by simp),show(1:Int)=((1:Nat):Int) from rfl,EL.eq_2,ct (dt (by simp)),B7 (by simp),By (by omega) (by omega),EL.eq_2,cf (df (by simp))];rfl
theorem QE(K:Nat)(l:Bd)(h0:0≤l.Aw)(a:l.Aw≤l.AJ)(b:l.AJ≤9):Ft K (⟨l.Aw,l.AJ⟩:CK)=some (B5 l):=by
 unfold Ft;show(i64 (l.AJ-l.Aw)).bind _=_;rw[By (by omega) (by omega)];show(i64 (l.AJ-l.Aw+1)).bind _=_;rw[By (by omega) (by omega)];rfl
theorem QF(K:Nat)(l:Bd)(h0:0≤l.Aw)(a:l.Aw≤l.AJ)(b:l.AJ≤9):Ey K (⟨l.Aw,l.AJ⟩:CK)=some (B5 l):=by
 unfold Ey;show(i64 (l.AJ-l.Aw)).bind _=_;rw[By (by omega) (by omega)];show(i64 (l.AJ-l.Aw+1)).bind _=_;rw[By (by omega) (by omega)];rfl
def Jm(c:Int):Int→List Bd→Int
 |n,[]=>n
 |n,l::r=>Jm c (min (n*B5 l) c) r
def sized(l:Bd):Prop:=1≤B5 l∧B5 l≤10
theorem LD{y:Ar}{l:Bd}(h9:y.Am≤9)(h:Gz y l=true):sized l:=by
 obtain⟨a,b,c,_⟩:=I9.1 h;unfold sized B5;omega
theorem Ja:∀{ls:List Bd},(∀l∈ls,sized l)→1≤Fi ls
 |[],_=>Int.le_refl _
 |l::r,h=>by
  have a:=(h l (List.mem_cons_self ..)).1;have b:=Ja (ls:=r) fun x c=>h x (List.mem_cons_of_mem _ c);have:=Int.mul_le_mul a b (by omega) (by omega);unfold Fi;omega
theorem MA{c:Int}(e:1000<c):∀{ls:List Bd} (n:Int),0≤n→(∀l∈ls,sized l)→(1000<Jm c n ls↔1000<n*Fi ls)
 |[],n,_,_=>by simp[Jm,Fi]
 |l::r,n,f,h=>by
  have g:=h l (List.mem_cons_self ..);have b:∀x∈r,sized x:=fun x i=>h x (List.mem_cons_of_mem _ i);have d:=Ja b;have h0:0≤n*B5 l:=Int.mul_nonneg f (by have:=g.1;omega);unfold Jm Fi;rw[MA e _ (by omega) b,←Int.mul_assoc];rcases Int.le_total (n*B5 l) c with a|a
  ·rw[Int.min_eq_left a]
  ·rw[Int.min_eq_right a];have j:c*1≤c*Fi r:=Int.mul_le_mul_of_nonneg_left d (by omega);have k:(n*B5 l)*1≤n*B5 l*Fi r:=Int.mul_le_mul_of_nonneg_left d h0;constructor<;>intro _<;>omega
theorem Pc{c:Int}(b:1000<c):∀{ls:List Bd} (n:Int),0≤n→(∀l∈ls,sized l)→n*Fi ls≤1000→Jm c n ls=n*Fi ls
 |[],n,_,_,_=>by simp[Jm,Fi]
 |l::r,n,d,h,hle=>by
  have e:=h l (List.mem_cons_self ..);have a:∀x∈r,sized x:=fun x f=>h x (List.mem_cons_of_mem _ f);have g:=Ja a;have h0:0≤n*B5 l:=Int.mul_nonneg d (by have:=e.1;omega);rw[Fi,←Int.mul_assoc] at hle;rw[Jm,Fi,←Int.mul_assoc];have i:(n*B5 l)*1≤n*B5 l*Fi r:=Int.mul_le_mul_of_nonneg_left g h0;rw[Int.min_eq_left (by omega),Pc b _ h0 a hle]
theorem S1(y:Ar)(j:y.Ad.length≤4)(b:∀l∈y.Ad,sized l∧0≤l.Aw∧l.AJ≤9){K:Nat}(hK:2000≤K):∀(k m i:Nat) (n:Int),y.Ad.length=i+k→k<m→0≤n→n≤3000→
  Ee K y m (i:Int) n=some (Jm 1001 n (y.Ad.drop i)):=by
 intro k
 induction k with
 |zero=>
  intro m i n h hm h0 a;cases m with
  |zero=>omega
  |succ m=>rw[Ee.eq_2,cf (df (by omega)),List.drop_eq_nil_of_le (by omega)];rfl
 |succ k ih=>
  intro m i n h hm h0 a;cases m with
  |zero=>omega
  |succ m=>
   have hi:i<y.Ad.length:=by omega
   obtain⟨⟨s1,s2⟩,c,d⟩:=b y.Ad[i] (List.getElem_mem hi);have e:1≤B5 y.Ad[i]∧B5 y.Ad[i]≤10:=⟨s1,s2⟩;have f:0≤n*B5 y.Ad[i]:=Int.mul_nonneg h0 (by omega);have g:n*B5 y.Ad[i]≤3000*10:=Int.mul_le_mul a s2 (by omega) (by omega);rw[Ee.eq_2,ct (dt (by omega)),B7 hi,bd (QE K _ c (by unfold B5 at s1;omega) d),By (by omega) (by omega),bd (Up (by omega) _ _),By (by omega) (by omega),CS];rw[ih m (i+1) _ (by omega) (by omega) (by omega) (by omega),List.drop_eq_getElem_cons hi];rfl
theorem Uq(y:Ar)(j:y.Ad.length≤4)(b:∀l∈y.Ad,sized l∧0≤l.Aw∧l.AJ≤9){K:Nat}:∀(k m i:Nat) (n:Int),y.Ad.length=i+k→k<m→0≤n→n≤3000→
  DY K y m n (i:Int)=some (Jm 3000 n (y.Ad.drop i)):=by
 intro k
 induction k with
 |zero=>
  intro m i n h hm h0 a;cases m with
  |zero=>omega
  |succ m=>rw[DY.eq_2,cf (df (by omega)),List.drop_eq_nil_of_le (by omega)];rfl
 |succ k ih=>
  intro m i n h hm h0 a;cases m with
  |zero=>omega
  |succ m=>
   have hi:i<y.Ad.length:=by omega
   obtain⟨⟨s1,s2⟩,c,d⟩:=b y.Ad[i] (List.getElem_mem hi);have e:1≤B5 y.Ad[i]∧B5 y.Ad[i]≤10:=⟨s1,s2⟩;have f:0≤n*B5 y.Ad[i]:=Int.mul_nonneg h0 (by omega);have g:n*B5 y.Ad[i]≤3000*10:=Int.mul_le_mul a s2 (by omega) (by omega);rw[DY.eq_2,ct (dt (by omega)),B7 hi,bd (QF K _ c (by unfold B5 at s1;omega) d),By (by omega) (by omega),By (by omega) (by omega),CS,Int.min_comm];rw[ih m (i+1) _ (by omega) (by omega) (by omega) (by omega),List.drop_eq_getElem_cons hi];rfl
theorem M7{α:Type}:∀(l:List α) (n:Int),0≤n→n+l.length≤100000→run (fun(st:Int) (_:α)=>(i64 (st+1)).bind fun _=>some (true,st+1)) l n=some (true,n+l.length)
 |[],n,_,_=>by simp[run]
 |x::l,n,h0,a=>by
  simp only[List.length_cons] at a⊢;rw[run,By (by omega) (by omega)];show run _ l (n+1)=_;rw[M7 l (n+1) (by omega) (by omega)]
  congr 2;omega
theorem KI(y:Ar)(h:days y≤10):(Bw y).length≤1024:=by
 have a:=IU _ h;have:(Bw y).length≤((List.range (2^days y)).map (wl (days y))).length:=List.length_filter_le ..;simp at this;omega
theorem M8{K:Nat}(y:Ar):∀(l:List Bd),run (fun(st:Unit) (x:Bd)=>(Fp K y x).bind fun r=>some (r,())) l ()=some (l.all (Gz y),())
 |[]=>rfl
 |x::l=>by
  rw[run,Vz];show cond (Gz y x) (run _ l ()) (some (false,()))=_;rw[M8 y l,List.all_cons];cases Gz y x<;>rfl
theorem IB{K:Nat}(hK:2000≤K)(y:Ar):DK K y=some (check y):=by
 unfold DK check
 by_cases g:9<y.Am
 ·rw[ct (dt g),if_pos (.inl g)]
 rw[cf (df g)]
 by_cases i:2<y.Aj
 ·rw[ct (dt i),if_pos (.inr (.inl i))]
 rw[cf (df i)]
 by_cases j:4<(y.Ad.length:Int)
 ·rw[ct (dt j),if_pos (.inr (.inr j))]
 rw[cf (df j),if_neg (by omega)]
 by_cases b:y.Am<0
 ·rw[ct (dt b),if_pos (.inl b)]
 rw[cf (df b)]
 by_cases d:y.Aj<1
 ·rw[ct (dt d),if_pos (.inr (.inl d))]
 rw[cf (df d),By (by omega) (by omega),bd (Hy ..)];cases r:Fx y.Ap 0 (y.Am+1) with
 |false=>rw[nf,if_pos (.inr (.inr (.inl rfl)))]
 |true=>
  rw[nt,By (by omega) (by omega),bd (Hy ..)];cases s:Fx y.AA 0 (y.Am+1) with
  |false=>rw[nf,if_pos (.inr (.inr (.inr (.inl rfl))))]
  |true=>
   rw[nt,QB _ _ _ (by omega) (by omega),bd (M8 y y.Ad)];cases o:y.Ad.all (Gz y) with
   |false=>rw[nf,if_pos (.inr (.inr (.inr (.inr rfl))))]
   |true=>
    rw[nt,if_neg (by simp[b,d])];have p:days y≤10:=by unfold days;omega
    have hw:=KI y p;have m:∀l∈y.Ad,sized l∧0≤l.Aw∧l.AJ≤9:=fun l k=>by
     have n:=List.all_eq_true.1 o l k;have:=I9.1 n;exact⟨LD (by omega) n,this.1,by omega⟩
    have q:DJ K (fun(st:Int) (x:List Bool)=>Fq st x) y (0:Int)=some ((Bw y).length:Int):=by
     rw[L9 _ y (by omega) (by omega) hK];show(run (fun(st:Int) (_:List Bool)=>(i64 (st+1)).bind fun _=>some (true,st+1)) (Bw y) 0).bind _=_;rw[M7 _ 0 (by omega) (by omega)];simp
    have a:=S1 y (by omega) m hK y.Ad.length K 0 ((Bw y).length:Int) (by omega) (by omega) (by omega) (by omega);rw[Int.natCast_zero,List.drop_zero] at a;rw[bd q,bd a];have f:=MA (c:=1001) (by omega) ((Bw y).length:Int) (by omega) fun l k=>(m l k).1;unfold Gc
    by_cases e:1000<((Bw y).length:Int)*Fi y.Ad
    ·rw[ct (dt (f.2 e)),if_pos e]
    ·rw[cf (df fun h=>e (f.1 h)),if_neg e]
end Go.Proofs.YtkljfdkmjdjpfaaGreat
end
section
namespace Go.Proofs.YtkljfdkmjdjpfaaGreat
def EP:List Bd→List (List Int)
 |[]=>[[]]
 |l::r=>(List.range (B5 l).toNat).flatMap fun(n:Nat)=>(EP r).map fun c=>(l.Aw+(n:Int))::c
def Cf(y:Ar):List AW:=(Bw y).flatMap fun w=>(EP y.Ad).map fun c=>⟨c,w⟩
section
variable{σ:Type}{K:Nat}(cb:σ→AW→Option (Bool×σ))(y:Ar)(w:List Bool)
def Tr (k i:Nat):Prop:=∀(c:List Int) (st:σ),c.length=y.Ad.length→
 (BU K cb k (i:Int) c w y st).map (fun z=>(z.1,z.2.2))=run (fun s d=>cb s ⟨c.take i++d,w⟩) (EP (y.Ad.drop i)) st∧
 ∀z,BU K cb k (i:Int) c w y st=some z→z.2.1.length=y.Ad.length∧z.2.1.take i=c.take i
def RO{α β:Type}:(Bool×α×β)⊕(α×β)→Bool×β
 |.inl x=>(false,x.2.2)
 |.inr x=>(true,x.2)
def Ur{α β:Type}:(Bool×α×β)⊕(α×β)→α
 |.inl x=>x.2.1
 |.inr x=>x.1
theorem RP(k i:Nat)(hi:i<y.Ad.length)(aL:y.Ad.length≤4)(aD:∀l∈y.Ad,sized l∧0≤l.Aw∧l.AJ≤9)(ih:Tr (K:=K) cb y w k (i+1)):
  ∀(n m j:Nat) (c:List Int) (st:σ),(B5 y.Ad[i]).toNat=j+n→n<m→c.length=y.Ad.length→
  (Ci (BU K cb k) (i:Int) w y (B5 y.Ad[i]) m (j:Int) c st).map RO=run (fun s d=>cb s ⟨c.take i++d,w⟩) ((List.range' j n).flatMap fun(q:Nat)=>(EP (y.Ad.drop (i+1))).map fun d=>(y.Ad[i].Aw+(q:Int))::d) st∧
  ∀z,Ci (BU K cb k) (i:Int) w y (B5 y.Ad[i]) m (j:Int) c st=some z→(Ur z).length=y.Ad.length∧(Ur z).take i=c.take i∧(∀x,z=.inl x→x.1=false):=by
 obtain⟨⟨s1,s2⟩,aM,aN⟩:=aD y.Ad[i] (List.getElem_mem hi);have aJ:1≤B5 y.Ad[i]∧B5 y.Ad[i]≤10:=⟨s1,s2⟩;intro n
 induction n with
 |zero=>
  intro m j c st h hm o;cases m with
  |zero=>omega
  |succ m=>
   rw[Ci.eq_2,cf (df (by omega))];exact⟨rfl,fun z b=>by cases b;exact⟨o,rfl,fun x p=>by cases p⟩⟩
 |succ n u=>
  intro m j c st h hm o;cases m with
  |zero=>omega
  |succ m=>
   have f:i<c.length:=by omega
   have aK:y.Ad[i].Aw≤9:=by unfold B5 at s1;omega
   rw[Ci.eq_2,ct (dt (by omega)),B7 hi,By (by omega) (by omega),B7 f,By (by omega) (by omega),CS i,Int.toNat_natCast];have v:(c.set i (y.Ad[i].Aw+(j:Int))).length=y.Ad.length:=by rw[List.length_set];exact o
   have g:(c.set i (y.Ad[i].Aw+(j:Int))).take (i+1)=c.take i++[y.Ad[i].Aw+(j:Int)]:=by
    rw[List.take_add_one,List.getElem?_set_self f,List.take_set_of_le (Nat.le_refl _)];rfl
   obtain⟨t,aE⟩:=ih _ st v;rw[g] at t;rw[List.range'_succ,List.flatMap_cons,HT,run_map];have aF:run (fun s d=>cb s ⟨c.take i++[y.Ad[i].Aw+(j:Int)]++d,w⟩) (EP (y.Ad.drop (i+1))) st=run (fun s d=>cb s ⟨c.take i++(y.Ad[i].Aw+(j:Int))::d,w⟩) (EP (y.Ad.drop (i+1))) st:=by
    congr 1;funext s d;rw[List.append_assoc];rfl
   rw[aF] at t;rw[←t];cases aG:BU K cb k ((i+1:Nat):Int) (c.set i (y.Ad[i].Aw+(j:Int))) w y st with
   |none=>exact⟨rfl,fun z b=>by cases b⟩
   |some r=>
    obtain⟨aA,aH⟩:=aE r aG;have aB:r.2.1.take i=c.take i:=by
     have:=congrArg (List.take i) aH;rw[List.take_take,Nat.min_eq_left (by omega),g,List.take_append_of_le_length (by rw[List.length_take];omega),List.take_take,Nat.min_self] at this;exact this
    obtain⟨aI,rc,e⟩:=r;cases aI with
    |false=>
     refine⟨rfl,fun z b=>?_⟩;have aC:some (Sum.inl (false,rc,e))=some z:=b;cases aC;exact⟨aA,aB,fun x p=>by cases p;rfl⟩
    |true=>
     have key:(Option.bind (some (true,rc,e)) fun a=>cond (!a.1) (some (Sum.inl (false,a.2.1,a.2.2))) ((i64 ((j:Int)+1)).bind fun _=>Ci (BU K cb k) (i:Int) w y (B5 y.Ad[i]) m ((j:Int)+1) a.2.1 a.2.2))=Ci (BU K cb k) (i:Int) w y (B5 y.Ad[i]) m ((j+1:Nat):Int) rc e:=by
      rw[Option.bind_some,nt,By (by omega) (by omega),CS j]
     have:=u m (j+1) rc e (by omega) (by omega) aA;rw[aB] at this;rw[key];exact this
theorem P4(t:y.Ad.length≤4)(g:∀l∈y.Ad,sized l∧0≤l.Aw∧l.AJ≤9)(hK:2000≤K):∀(n k i:Nat),y.Ad.length=i+n→n<k→Tr (K:=K) cb y w k i:=by
 intro n
 induction n with
 |zero=>
  intro k i h u c st f;cases k with
  |zero=>omega
  |succ k=>
   rw[BU.eq_2,ct (by rw[f,h];simp),List.drop_eq_nil_of_le (by omega)];have j:c.take i=c:=List.take_of_length_le (by omega);rw[j];simp only[EP,run,List.append_nil];cases cb st ⟨c,w⟩ with
   |none=>exact⟨rfl,fun z a=>by cases a⟩
   |some r=>
    obtain⟨b,s⟩:=r;refine⟨by cases b<;>rfl,fun z a=>?_⟩;have e:some (b,c,s)=some z:=a;cases e;exact⟨f,j⟩
 |succ n ih=>
  intro k i h u c st f;cases k with
  |zero=>omega
  |succ k=>
   have hi:i<y.Ad.length:=by omega
   obtain⟨⟨s1,s2⟩,v,aA⟩:=g y.Ad[i] (List.getElem_mem hi);rw[BU.eq_2,cf (by rw[f];simp;omega),B7 hi,bd (QE K _ v (by unfold B5 at s1;omega) aA)];obtain⟨m,o⟩:=RP cb y w k i hi t g (ih k (i+1) (by omega) (by omega)) (B5 y.Ad[i]).toNat K 0 c st (by omega) (by omega) f;rw[Int.natCast_zero] at m o;rw[List.drop_eq_getElem_cons hi,EP,List.range_eq_range',←m];cases aB:Ci (BU K cb k) (i:Int) w y (B5 y.Ad[i]) K 0 c st with
   |none=>exact⟨rfl,fun z a=>by cases a⟩
   |some r=>
    obtain⟨p,q,aC⟩:=o r aB;cases r with
    |inl x=>
     obtain⟨b,d,s⟩:=x;obtain rfl:=aC _ rfl;refine⟨rfl,fun z a=>?_⟩;have e:some (false,d,s)=some z:=a;cases e;exact⟨p,q⟩
    |inr x=>
     obtain⟨d,s⟩:=x;refine⟨rfl,fun z a=>?_⟩;have e:some (true,d,s)=some z:=a;cases e;exact⟨p,q⟩
end
theorem M9{σ:Type}{K:Nat}(cb:σ→AW→Option (Bool×σ))(y:Ar)(e:y.Ad.length≤4)(f:∀l∈y.Ad,sized l∧0≤l.Aw∧l.AJ≤9)(hK:2000≤K):∀(ws:List (List Bool)) (c:List Int) (st:σ),c.length=y.Ad.length→
  (run (fun(st:(List Int)×σ×Bool) (x:(List Bool))=>cond st.2.2 none (Dw cb K y st.1 st.2.1 x)) ws (c,st,false)).bind (fun a=>cond (a.2.2.2) (some (a.2.2.1)) (some (a.2.2.1)))=
  (run cb (ws.flatMap fun w=>(EP y.Ad).map fun c=>(⟨c,w⟩:AW)) st).bind fun r=>some r.2
 |[],c,st,_=>rfl
 |w::ws,c,st,i=>by
  obtain⟨g,h⟩:=P4 cb y w e f hK y.Ad.length K 0 (by omega) (by omega) c st i;rw[Int.natCast_zero,List.drop_zero,List.take_zero] at g;rw[Int.natCast_zero] at h;rw[List.flatMap_cons,HT,run_map];have j:run (fun s d=>cb s ⟨[]++d,w⟩) (EP y.Ad) st=run (fun s d=>cb s (⟨d,w⟩:AW)) (EP y.Ad) st:=rfl;rw[←j,←g,run];show(Option.bind (Dw cb K y c st w) _:Option _).bind _=_;unfold Dw;cases k:BU K cb K 0 c w y st with
  |none=>rfl
  |some r=>
   obtain⟨m,n⟩:=h r k;obtain⟨b,d,s⟩:=r;cases b with
   |false=>rfl
   |true=>
    show(run _ ws (d,s,false)).bind _=(run cb _ s).bind _;exact M9 cb y e f hK ws d s m
theorem RQ{σ:Type}{K:Nat}(cb:σ→AW→Option (Bool×σ))(y:Ar)(h0:0≤y.Am)(h9:y.Am≤9)(a:y.Ad.length≤4)(b:∀l∈y.Ad,sized l∧0≤l.Aw∧l.AJ≤9)(hK:2000≤K)(st:σ):
  Fs K cb y st=(run cb (Cf y) st).bind fun r=>some r.2:=by
 unfold Fs;rw[NZ (by omega) (by omega) (by omega),L9 _ y h0 h9 hK,Option.bind_assoc];exact M9 cb y a b hK (Bw y) (List.replicate (y.Ad.length:Int).toNat (0:Int)) st (by rw[List.length_replicate];omega)
end Go.Proofs.YtkljfdkmjdjpfaaGreat
end
section
namespace Go.Proofs.YtkljfdkmjdjpfaaGreat
def Il:Bd:=⟨0,0,0,0,0⟩
def EG(y:Ar)(i:Int):Bd:=y.Ad.getD i.toNat Il
def ER(c:List Int)(i:Int):Int:=c.getD i.toNat 0
def FO (l:Bd) (d0:Int):List Bool→Int→Int→Int→Ah
 |[],_,_,_=>⟨d0,-1,false⟩
 |true::ws,d,DV,run=>cond (DV==l.Aq) ⟨d0,d,DV==l.Aq⟩ (cond (run+1==l.BY) ⟨d0,d,DV==l.Aq⟩ (FO l d0 ws (d+1) DV (run+1)))
 |false::ws,d,DV,run=>cond (DV+1==l.Aq) ⟨d0,d,DV+1==l.Aq⟩ (cond ((0:Int)==l.BY) ⟨d0,d,DV+1==l.Aq⟩ (FO l d0 ws (d+1) (DV+1) 0))
def EZ(y:Ar)(w:List Bool)(l:Bd)(d:Int):Ah:=if y.Am<d then ⟨-1,-1,false⟩ else FO l d (w.drop d.toNat) d 0 0
def wk(y:Ar)(w:List Bool)(m:List (List Int×Ah)):CE:=⟨y.Am,y.Aj,y.Ap,y.AA,y.Ad,w,m⟩
theorem VA(y:Ar)(w:List Bool)(mm:List (List Int×Ah))(p:HS)(l:Bd)(h9:y.Am≤9)(hw:(w.length:Int)=y.Am+1)(b0 f:Int)(g:Bool):∀(k m d:Nat) (DV r:Int),y.Am+1=d+k→k<m→0≤DV→DV≤d→0≤r→r≤d→
  (Ea (wk y w mm) p l m DV r (d:Int) b0 f g).bind (fun z=>Sum.elim (fun a=>some ((⟨a.1,a.2.1,a.2.2⟩:Ah))) (fun a=>some ((⟨p.day,(-1),false⟩:Ah))) z)=some (FO l p.day (w.drop d) (d:Int) DV r):=by
 intro k
 induction k with
 |zero=>
  intro m d DV r h hm h0 i j n;cases m with
  |zero=>omega
  |succ m=>
   rw[Ea.eq_2,cf (df (by show¬(d:Int)≤y.Am;omega)),List.drop_eq_nil_of_le (by omega)];rfl
 |succ k ih=>
  intro m d DV r h hm h0 i j n;cases m with
  |zero=>omega
  |succ m=>
   have b:d<w.length:=by omega
   have c:d<(wk y w mm).Dj.length:=b;rw[Ea.eq_2,ct (dt (by show(d:Int)≤y.Am;omega)),B7 c,List.drop_eq_getElem_cons b];have e:(wk y w mm).Dj[d]=w[d]:=rfl;rw[e];cases s:w[d] with
   |true=>
    rw[ct rfl,By (by omega) (by omega),FO];cases o:(DV==l.Aq) with
    |true=>rw[ct rfl,ct rfl];rfl
    |false=>
     rw[cf rfl,cf rfl];cases q:(r+1==l.BY) with
     |true=>rw[ct rfl,ct rfl];rfl
     |false=>
      rw[cf rfl,cf rfl,By (by omega) (by omega),CS];exact ih m (d+1) DV (r+1) (by omega) (by omega) h0 (by omega) (by omega) (by omega)
   |false=>
    rw[cf rfl,By (by omega) (by omega),FO];cases o:(DV+1==l.Aq) with
    |true=>rw[ct rfl,ct rfl];rfl
    |false=>
     rw[cf rfl,cf rfl];cases q:((0:Int)==l.BY) with
     |true=>rw[ct rfl,ct rfl];rfl
     |false=>
      rw[cf rfl,cf rfl,By (by omega) (by omega),CS];exact ih m (d+1) (DV+1) 0 (by omega) (by omega) (by omega) (by omega) (by omega) (by omega)
theorem VB{K:Nat}(y:Ar)(w:List Bool)(mm:List (List Int×Ah))(i d:Int)(h9:y.Am≤9)(hw:(w.length:Int)=y.Am+1)(a:0≤i)(hi:i<(y.Ad.length:Int))(c:0≤d)(hK:2000≤K):
  F1 K (wk y w mm) ⟨i,d⟩=some (EZ y w (EG y i) d):=by
 unfold F1 EZ;show cond (decide (y.Am<d)) _ ((idx y.Ad i).bind _)=_
 by_cases h:y.Am<d
 ·rw[ct (dt h),if_pos h]
 rw[cf (df h),if_neg h];obtain⟨i,rfl⟩:=Int.eq_ofNat_of_zero_le a;obtain⟨d,rfl⟩:=Int.eq_ofNat_of_zero_le c;have b:i<y.Ad.length:=by omega
 rw[B7 b];have e:y.Ad[i]=EG y (i:Int):=by
  show y.Ad[i]=y.Ad.getD ((i:Int)).toNat Il;rw[Int.toNat_natCast,List.getD_eq_getElem?_getD,List.getElem?_eq_getElem (by omega)];rfl
 rw[e,Int.toNat_natCast];exact VA y w mm ⟨(i:Int),(d:Int)⟩ _ h9 hw 0 0 false (y.Am+1-d).toNat K d 0 0 (by omega) (by omega) (by omega) (by omega) (by omega) (by omega)
def GQ (y:Ar) (w:List Bool) (m:List (List Int×Ah)):Prop:=∀(i d:Int) (s:Ah),BI m [i,d]=some s→s=EZ y w (EG y i) d
theorem N0(y:Ar)(w:List Bool):GQ y w []:=fun i d s h=>by cases h
theorem Us{K:Nat}(y:Ar)(w:List Bool)(mm:List (List Int×Ah))(i d:Int)(h9:y.Am≤9)(hw:(w.length:Int)=y.Am+1)(e:0≤i)(hi:i<(y.Ad.length:Int))(j:0≤d)(hK:2000≤K)(hm:GQ y w mm):
  ∃c,FJ K (wk y w mm) ⟨i,d⟩=some (EZ y w (EG y i) d,c)∧GQ y w c:=by
 unfold FJ;show∃c,cond (!(BI mm [i,d]).isSome) ((F1 K (wk y w mm) ⟨i,d⟩).bind _) _=_∧_;cases f:BI mm [i,d] with
 |none=>
  rw[bd (VB y w mm i d h9 hw e hi j hK)];refine⟨_,rfl,fun i2 d2 s h=>?_⟩;have a:BI (HO mm [i,d] (EZ y w (EG y i) d)) [i2,d2]=some s:=h;rw[OT] at a;split at a
  ·rename_i he
   have b:=List.cons.inj he;have g:=List.cons.inj b.2;rw[b.1,g.1];exact(Option.some.inj a).symm
  ·exact hm i2 d2 s a
 |some s=>
  refine⟨mm,?_,hm⟩;show some ((BI mm [i,d]).getD ⟨0,0,false⟩,mm)=_;rw[f,hm i d s f];rfl
def Es (y:Ar) (w:List Bool) (c:List Int):List Int→Int→List Ah→List Ah
 |[],_,out=>out
 |i::r,free,out=>
  let s:=EZ y w (EG y i) (max free (ER c i))
  Es y w c r (cond (s.AH==-1) (y.Am+1) (s.AH+1)) (out.set i.toNat s)
def GA(y:Ar)(w:List Bool)(c:List Int):List (List Int)→List Ah→List Ah
 |[],out=>out
 |l::r,out=>GA y w c r (Es y w c l 0 out)
def Jb:Ah:=⟨0,0,false⟩
def GL(y:Ar)(w:List Bool)(order:List (List Int))(c:List Int):List Ah:=GA y w c order (List.replicate y.Ad.length Jb)
theorem GR(y:Ar)(w:List Bool)(c:List Int):∀(l:List Int) (free:Int) (out:List Ah),(Es y w c l free out).length=out.length
 |[],_,_=>rfl
 |i::r,free,out=>by rw[Es,GR y w c r];simp
theorem KJ(y:Ar)(w:List Bool)(c:List Int):∀(l:List (List Int)) (out:List Ah),(GA y w c l out).length=out.length
 |[],_=>rfl
 |i::r,out=>by rw[GA,KJ y w c r,GR]
theorem LF(l:Bd)(d0:Int):∀(ws:List Bool) (d DV r:Int),0≤d→(FO l d0 ws d DV r).AH=-1∨(d≤(FO l d0 ws d DV r).AH∧(FO l d0 ws d DV r).AH<d+ws.length)
 |[],d,DV,r,_=>.inl rfl
 |true::ws,d,DV,r,h=>by
  rw[FO];cases (DV==l.Aq) with
  |true=>right;simp;omega
  |false=>
   cases (r+1==l.BY) with
   |true=>right;simp;omega
   |false=>
    rcases LF l d0 ws (d+1) DV (r+1) (by omega) with a|a
    ·exact .inl a
    ·right;simp only[List.length_cons,cond_false];omega
 |false::ws,d,DV,r,h=>by
  rw[FO];cases (DV+1==l.Aq) with
  |true=>right;simp;omega
  |false=>
   cases ((0:Int)==l.BY) with
   |true=>right;simp;omega
   |false=>
    rcases LF l d0 ws (d+1) (DV+1) 0 (by omega) with a|a
    ·exact .inl a
    ·right;simp only[List.length_cons,cond_false];omega
theorem QG(y:Ar)(w:List Bool)(l:Bd)(d:Int)(b:0≤d)(hw:(w.length:Int)=y.Am+1):(EZ y w l d).AH=-1∨(d≤(EZ y w l d).AH∧(EZ y w l d).AH≤y.Am):=by
 unfold EZ
 by_cases h:y.Am<d
 ·rw[if_pos h];exact .inl rfl
 ·rw[if_neg h];rcases LF l d (w.drop d.toNat) d 0 0 b with a|a
  ·exact .inl a
  ·right;rw[List.length_drop] at a;omega
theorem S2{K:Nat}(y:Ar)(w:List Bool)(a:List (List Int×Ah))(c l:List Int)(h0:0≤y.Am)(h9:y.Am≤9)(hw:(w.length:Int)=y.Am+1)(hK:2000≤K)(x:∀i∈l,0≤i∧i<(y.Ad.length:Int))(aE:c.length=y.Ad.length)(aC:l.length≤1000):
  ∀(k m j:Nat) (free:Int) (out:List Ah) (mm:List (List Int×Ah)),l.length=j+k→k<m→0≤free→out.length=y.Ad.length→GQ y w mm→
  ∃b,DS K (wk y w a) c l m free (j:Int) out mm=some (Es y w c (l.drop j) free out,b)∧GQ y w b:=by
 intro k
 induction k with
 |zero=>
  intro m j free out mm h hm z f g;cases m with
  |zero=>omega
  |succ m=>rw[DS.eq_2,cf (df (by omega)),List.drop_eq_nil_of_le (by omega)];exact⟨mm,rfl,g⟩
 |succ k ih=>
  intro m j free out mm h hm z f g;cases m with
  |zero=>omega
  |succ m=>
   have n:j<l.length:=by omega
   obtain⟨d,p⟩:=x l[j] (List.getElem_mem n);obtain⟨i,hi⟩:=Int.eq_ofNat_of_zero_le d;have e:i<c.length:=by omega
   have q:i<out.length:=by omega
   have r:c[i]=ER c l[j]:=by
    rw[hi];unfold ER;rw[Int.toNat_natCast,List.getD_eq_getElem?_getD,List.getElem?_eq_getElem e];rfl
   rw[DS.eq_2,ct (dt (by omega)),B7 n,List.drop_eq_getElem_cons n,Es];have s:idx c l[j]=some (ER c l[j]):=by rw[←r];rw[hi];exact idx_eq e
   rw[bd s];obtain⟨b,aA,t⟩:=Us (K:=K) y w mm l[j] (max free (ER c l[j])) h9 hw d p (by omega) hK g;have u:FJ K (⟨(wk y w a).BK,(wk y w a).B4,(wk y w a).Cn,(wk y w a).Co,(wk y w a).Ba,(wk y w a).Dj,mm⟩:CE) (⟨l[j],max free (ER c l[j])⟩:HS)=some (EZ y w (EG y l[j]) (max free (ER c l[j])),b):=aA;have o:idx out l[j]=some out[i]:=by rw[hi];exact idx_eq q
   have aB:=QG y w (EG y l[j]) (max free (ER c l[j])) (by omega) hw;have aD:-1≤(EZ y w (EG y l[j]) (max free (ER c l[j]))).AH∧(EZ y w (EG y l[j]) (max free (ER c l[j]))).AH≤9:=by omega
   rw[bd u,bd o];show∃v,(i64 ((EZ y w (EG y l[j]) (max free (ER c l[j]))).AH+1)).bind _=_∧_;rw[By (by omega) (by omega)];show∃v,cond ((EZ y w (EG y l[j]) (max free (ER c l[j]))).AH==-1) ((i64 (y.Am+1)).bind _) _=_∧_;cases aF:((EZ y w (EG y l[j]) (max free (ER c l[j]))).AH==-1) with
   |true=>
    rw[ct rfl,ct rfl,By (by omega) (by omega),By (by omega) (by omega),CS];exact ih m (j+1) (y.Am+1) _ b (by omega) (by omega) (by omega) (by rw[List.length_set];exact f) t
   |false=>
    rw[cf rfl,cf rfl,By (by omega) (by omega),CS];exact ih m (j+1) ((EZ y w (EG y l[j]) (max free (ER c l[j]))).AH+1) _ b (by omega) (by omega) (by omega) (by rw[List.length_set];exact f) t
theorem S3{K:Nat}(y:Ar)(w:List Bool)(b:List (List Int×Ah))(c:List Int)(order:List (List Int))(h0:0≤y.Am)(h9:y.Am≤9)(hw:(w.length:Int)=y.Am+1)(hK:2000≤K)(p:∀l∈order,l.length≤1000∧∀i∈l,0≤i∧i<(y.Ad.length:Int))(q:c.length=y.Ad.length)(s:order.length≤1000):
  ∀(k m j:Nat) (out:List Ah) (mm:List (List Int×Ah)),order.length=j+k→k<m→out.length=y.Ad.length→GQ y w mm→
  ∃a,Dq K (wk y w b) order c m (j:Int) out mm=some (GA y w c (order.drop j) out,a)∧GQ y w a:=by
 intro k
 induction k with
 |zero=>
  intro m j out mm h hm d e;cases m with
  |zero=>omega
  |succ m=>rw[Dq.eq_2,cf (df (by omega)),List.drop_eq_nil_of_le (by omega)];exact⟨mm,rfl,e⟩
 |succ k ih=>
  intro m j out mm h hm d e;cases m with
  |zero=>omega
  |succ m=>
   have f:j<order.length:=by omega
   obtain⟨g,n⟩:=p order[j] (List.getElem_mem f);obtain⟨a,o,r⟩:=S2 (K:=K) y w b c order[j] h0 h9 hw hK n q g order[j].length K 0 0 out mm (by omega) (by omega) (by omega) d e;rw[Int.natCast_zero,List.drop_zero] at o;rw[Dq.eq_2,ct (dt (by omega)),B7 f,List.drop_eq_getElem_cons f,GA,bd o,By (by omega) (by omega),CS];exact ih m (j+1) _ a (by omega) (by omega) (by rw[GR];exact d) r
theorem QH{K:Nat}(y:Ar)(w:List Bool)(mm:List (List Int×Ah))(c:List Int)(order:List (List Int))(h0:0≤y.Am)(h9:y.Am≤9)(k:y.Ad.length≤4)(hw:(w.length:Int)=y.Am+1)(hK:2000≤K)(e:∀l∈order,l.length≤1000∧∀i∈l,0≤i∧i<(y.Ad.length:Int))(f:c.length=y.Ad.length)(b:order.length≤1000)(g:GQ y w mm):
  ∃a,C6 K (wk y w mm) order c=some (GL y w order c,a)∧GQ y w a:=by
 unfold C6;show∃a,(Kg (y.Ad.length:Int) 24).bind _=_∧_;rw[NZ (by omega) (by omega) (by omega)];obtain⟨a,d,h⟩:=S3 (K:=K) y w mm c order h0 h9 hw hK e f b order.length K 0 (List.replicate y.Ad.length Jb) mm (by omega) (by omega) (by rw[List.length_replicate]) g;rw[Int.natCast_zero,List.drop_zero] at d;have j:Dq K (wk y w mm) order c K (0:Int) (List.replicate ((wk y w mm).Ba.length:Int).toNat (⟨0,0,false⟩:Ah)) (wk y w mm).known=some (GA y w c order (List.replicate y.Ad.length Jb),a):=by
  show Dq K (wk y w mm) order c K (0:Int) (List.replicate (y.Ad.length:Int).toNat Jb) mm=_;rw[Int.toNat_natCast];exact d
 exact⟨a,bd j,h⟩
end Go.Proofs.YtkljfdkmjdjpfaaGreat
end
section
namespace Go.Proofs.YtkljfdkmjdjpfaaGreat
def iota(n:Nat):List Int:=(List.range n).map fun(i:Nat)=>(i:Int)
theorem Hr(n:Nat):(iota n).length=n:=by simp[iota]
theorem N1(n i:Nat)(h:i<n):(iota n)[i]?=some (i:Int):=by simp[iota,h]
def DA(y:Ar)(o:List (List Int)):Bool:=((o.length:Int)==y.Aj)&&(Di o.flatten==iota y.Ad.length)
theorem Ut(o:List (List Int))(c:o.flatten.length≤100000):∀(k m i:Nat) (acc:List Int),o.length=i+k→k<m→o.length≤100000→acc++(o.drop i).flatten=o.flatten→
  DM o m acc (i:Int)=some o.flatten:=by
 intro k
 induction k with
 |zero=>
  intro m i acc h hm b a;cases m with
  |zero=>omega
  |succ m=>
   rw[DM.eq_2,cf (df (by omega))];rw[List.drop_eq_nil_of_le (by omega)] at a;rw[←a];simp
 |succ k ih=>
  intro m i acc h hm b a;cases m with
  |zero=>omega
  |succ m=>
   have hi:i<o.length:=by omega
   rw[List.drop_eq_getElem_cons hi,List.flatten_cons,←List.append_assoc] at a;have hlen:acc.length+o[i].length≤100000:=by
    have:=congrArg List.length a;rw[List.length_append,List.length_append] at this;omega
   rw[DM.eq_2,ct (dt (by omega)),B7 hi,FV (by omega),By (by omega) (by omega),CS];exact ih m (i+1) (acc++o[i]) (by omega) (by omega) b a
theorem RR(y:Ar)(z:List Int)(l:y.Ad.length≤4):∀(k m i:Nat),y.Ad.length=i+k→k<m→(∀j,j<i→(Di z).length=y.Ad.length∧(Di z)[j]?=some (j:Int))→
  Dy y z m (i:Int)=some (cond ((Di z==iota y.Ad.length)||decide (y.Ad.length=0)) (.inr ()) (.inl false)):=by
 intro k
 induction k with
 |zero=>
  intro m i h hm a;cases m with
  |zero=>omega
  |succ m=>
   rw[Dy.eq_2,cf (df (by omega))];have:((Di z==iota y.Ad.length)||decide (y.Ad.length=0))=true:=by
    rw[Bool.or_eq_true];rcases Nat.eq_zero_or_pos i with h0|h0
    ·right;exact dt (by omega)
    ·left;rw[beq_iff_eq];have d:=(a 0 h0).1;apply List.ext_getElem?;intro j
     by_cases f:j<y.Ad.length
     ·rw[(a j (by omega)).2,N1 _ _ f]
     ·rw[List.getElem?_eq_none (by omega),List.getElem?_eq_none (by rw[Hr];omega)]
   rw[this];rfl
 |succ k ih=>
  intro m i h hm a;cases m with
  |zero=>omega
  |succ m=>
   rw[Dy.eq_2,ct (dt (by omega))];have c:decide (y.Ad.length=0)=false:=df (by omega)
   by_cases d:(Di z).length=y.Ad.length
   ·rw[cf (by rw[d];simp)];have hi:i<(Di z).length:=by omega
    rw[B7 hi]
    by_cases b:(Di z)[i]=(i:Int)
    ·rw[b,cf (by simp),By (by omega) (by omega),CS];refine ih m (i+1) (by omega) (by omega) fun j f=>?_
     by_cases g:j=i
     ·subst g;exact⟨d,by rw[List.getElem?_eq_getElem hi,b]⟩
     ·exact a j (by omega)
    ·rw[ct (by simpa using b)];have:((Di z==iota y.Ad.length)||decide (y.Ad.length=0))=false:=by
      rw[c,Bool.or_false,beq_eq_false_iff_ne];intro e;have:(Di z)[i]?=(iota y.Ad.length)[i]?:=by rw[e]
      rw[List.getElem?_eq_getElem hi,N1 _ _ (by omega)] at this;exact b (Option.some.inj this)
     rw[this];rfl
   ·rw[ct (by simp;omega)];have:((Di z==iota y.Ad.length)||decide (y.Ad.length=0))=false:=by
     rw[c,Bool.or_false,beq_eq_false_iff_ne];intro e;have:=congrArg List.length e;rw[Hr] at this;omega
    rw[this];rfl
theorem KK{K:Nat}(y:Ar)(o:List (List Int))(f:y.Ad.length≤4)(hK:2000≤K)(k:o.length≤1000)(m:o.flatten.length≤1000):Ep K y o=some (DA y o):=by
 unfold Ep;have c:=Ut o (by omega) o.length K 0 [] (by omega) (by omega) (by omega) (by simp);have d:=RR y o.flatten f y.Ad.length K 0 (by omega) (by omega) fun j g=>absurd g (by omega);rw[Int.natCast_zero] at c d;rw[bd c,FV (by omega),bd d];unfold DA
 by_cases b:y.Ad.length=0
 ·rw[show((Di o.flatten==iota y.Ad.length)||decide (y.Ad.length=0))=true by rw[Bool.or_eq_true];exact .inr (dt b)];show cond ((o.length:Int)==y.Aj) (some (((Di o.flatten).length:Int)==(y.Ad.length:Int))) (some false)=_;have h:(((Di o.flatten).length:Int)==(y.Ad.length:Int))=(Di o.flatten==iota y.Ad.length):=by
   rw[b];cases e:Di o.flatten with
   |nil=>rfl
   |cons a l=>
    have i:(((a::l).length:Int)==((0:Nat):Int))=false:=by simp;omega
    rw[i];rfl
  rw[h];cases ((o.length:Int)==y.Aj)<;>rfl
 ·rw[show decide (y.Ad.length=0)=false from df b,Bool.or_false];cases e:(Di o.flatten==iota y.Ad.length) with
  |false=>show some false=_;rw[Bool.and_false]
  |true=>
   show cond ((o.length:Int)==y.Aj) (some (((Di o.flatten).length:Int)==(y.Ad.length:Int))) (some false)=_;rw[eq_of_beq e,Hr];cases ((o.length:Int)==y.Aj)<;>simp
theorem Fe{y:Ar}{o:List (List Int)}:DA y o=true↔(o.length:Int)=y.Aj∧o.flatten.Perm (iota y.Ad.length):=by
 unfold DA;rw[Bool.and_eq_true,beq_iff_eq,beq_iff_eq];refine and_congr_right fun _=>⟨fun h=>?_,fun h=>?_⟩
 ·rw[←h];exact(List.mergeSort_perm _ _).symm
 ·have d:(Di o.flatten).Pairwise (fun a b:Int=>a≤b):=by
   have:=List.pairwise_mergeSort (le:=fun x y:Int=>decide (x≤y)) (fun a b c d e=>by simp at*;omega) (fun a b=>by simp;omega) o.flatten;exact this.imp fun h=>by simpa using h
  have e:(iota y.Ad.length).Pairwise (fun a b:Int=>a≤b):=by
   unfold iota;rw[List.pairwise_map];exact List.pairwise_lt_range.imp fun h=>by omega
  exact List.Perm.eq_of_pairwise (le:=fun a b:Int=>a≤b) (fun a b _ _ h f=>by omega) d e ((List.mergeSort_perm _ _).trans h)
theorem H2{n:Nat}{i:Int}:i∈iota n↔0≤i∧i<n:=by
 unfold iota;rw[List.mem_map];constructor
 ·rintro⟨k,a,rfl⟩;rw[List.mem_range] at a;omega
 ·rintro⟨h0,b⟩;exact⟨i.toNat,by rw[List.mem_range];omega,by omega⟩
theorem MB{y:Ar}{o:List (List Int)}(h:DA y o=true):∀l∈o,l.length≤y.Ad.length∧∀i∈l,0≤i∧i<(y.Ad.length:Int):=by
 intro l a;have b:=(Fe.1 h).2;constructor
 ·have c:=b.length_eq;rw[Hr] at c;have:=(List.sublist_flatten_of_mem a).length_le;omega
 ·intro i hi;exact H2.1 (b.mem_iff.1 (List.mem_flatten.2 ⟨l,a,hi⟩))
def DG:List Bd→List Int→Bool
 |[],[]=>true
 |l::ls,c::cs=>Fx c l.Aw l.AJ&&DG ls cs
 |_,_=>false
def Et(y:Ar)(t:AW):Bool:=decide ((t.Ap.length:Int)=y.Am+1)&&(Hz y t.Ap&&DG y.Ad t.Comes)
theorem G0:∀{ls:List Bd} {cs:List Int},DG ls cs=true→cs.length=ls.length
 |[],[],_=>rfl
 |_::ls,_::cs,h=>by
  rw[DG,Bool.and_eq_true] at h;rw[List.length_cons,List.length_cons,G0 h.2]
 |[],_::_,h=>by cases h
 |_::_,[],h=>by cases h
theorem QI(K:Nat)(y:Ar)(t:AW)(b:y.Ad.length≤4)(c:t.Comes.length=y.Ad.length):∀(k m i:Nat),y.Ad.length=i+k→k<m→
  Dx K y t m (i:Int)=some (cond (DG (y.Ad.drop i) (t.Comes.drop i)) (.inr ()) (.inl false)):=by
 intro k
 induction k with
 |zero=>
  intro m i h hm;cases m with
  |zero=>omega
  |succ m=>rw[Dx.eq_2,cf (df (by omega)),List.drop_eq_nil_of_le (by omega),List.drop_eq_nil_of_le (by omega)];rfl
 |succ k ih=>
  intro m i h hm;cases m with
  |zero=>omega
  |succ m=>
   have hi:i<y.Ad.length:=by omega
   have a:i<t.Comes.length:=by omega
   rw[Dx.eq_2,ct (dt (by omega)),B7 hi,B7 a,bd (Hy ..),List.drop_eq_getElem_cons hi,List.drop_eq_getElem_cons a,DG];cases d:Fx t.Comes[i] y.Ad[i].Aw y.Ad[i].AJ with
   |false=>rw[nf];rfl
   |true=>rw[nt,By (by omega) (by omega),CS,Bool.true_and];exact ih m (i+1) (by omega) (by omega)
theorem QJ{K:Nat}(y:Ar)(t:AW)(h0:0≤y.Am)(h9:y.Am≤9)(b:y.Ad.length≤4)(hK:2000≤K):FD K y t=some (Et y t):=by
 unfold FD Et
 by_cases a:t.Comes.length=y.Ad.length
 ·rw[cf (by rw[a];simp),By (by omega) (by omega)]
  by_cases hw:(t.Ap.length:Int)=y.Am+1
  ·rw[cf (by rw[hw];simp),bd (M6 y t.Ap (by omega) (by omega)),dt hw,Bool.true_and];show cond (!(Hz y t.Ap)) _ _=_;cases Hz y t.Ap with
   |false=>rw[nf];rfl
   |true=>
    have:=QI K y t b a y.Ad.length K 0 (by omega) (by omega);rw[Int.natCast_zero,List.drop_zero,List.drop_zero] at this;rw[nt,bd this,Bool.true_and];cases DG y.Ad t.Comes<;>rfl
  ·rw[ct (by simpa using hw),df hw];rfl
 ·rw[ct (by simp;omega)];cases c:DG y.Ad t.Comes with
  |false=>rw[Bool.and_false,Bool.and_false]
  |true=>exact absurd (G0 c) a
theorem G1{c:List Int}:∀{ls:List Bd},c∈EP ls↔DG ls c=true
 |[]=>by
  cases c with
  |nil=>simp[EP,DG]
  |cons a l=>simp[EP,DG]
 |l::r=>by
  rw[EP,List.mem_flatMap];constructor
  ·rintro⟨n,b,e⟩;obtain⟨d,f,rfl⟩:=List.mem_map.1 e;rw[DG,Bool.and_eq_true];rw[List.mem_range] at b;unfold B5 at b;exact⟨Fc.2 (by omega),G1.1 f⟩
  ·intro h;cases c with
   |nil=>simp[DG] at h
   |cons a d=>
    rw[DG,Bool.and_eq_true] at h;have g:=Fc.1 h.1;refine⟨(a-l.Aw).toNat,?_,List.mem_map.2 ⟨d,G1.2 h.2,?_⟩⟩
    ·rw[List.mem_range];unfold B5;omega
    ·congr 1;omega
def bitsOf:List Bool→Nat
 |[]=>0
 |b::l=>(cond b 1 0)+2*bitsOf l
theorem Hs:∀(l:List Bool) (d:Nat),(bitsOf l).testBit d=l.getD d false
 |[],d=>by simp[bitsOf]
 |b::l,0=>by rw[bitsOf,Nat.testBit_zero];cases b<;>simp<;>omega
 |b::l,d+1=>by
  rw[Nat.testBit_succ,bitsOf];have:((cond b 1 0)+2*bitsOf l)/2=bitsOf l:=by cases b<;>simp<;>omega
  rw[this,Hs l d];rfl
theorem KL:∀(l:List Bool),bitsOf l<2^l.length
 |[]=>by simp[bitsOf]
 |b::l=>by
  have:=KL l;rw[bitsOf,List.length_cons,Nat.pow_succ];cases b<;>simp<;>omega
theorem Na(l:List Bool):wl l.length (bitsOf l)=l:=by
 apply List.ext_getElem?;intro i;unfold wl;rw[List.getElem?_map]
 by_cases h:i<l.length
 ·rw[List.getElem?_range h,List.getElem?_eq_getElem h];show some ((bitsOf l).testBit i)=_;rw[Hs,List.getD_eq_getElem?_getD,List.getElem?_eq_getElem h];rfl
 ·rw[List.getElem?_eq_none (by simp;omega),List.getElem?_eq_none (by omega)];rfl
theorem Im{y:Ar}{w:List Bool}:w∈Bw y↔w.length=days y∧Hz y w=true:=by
 unfold Bw;rw[List.mem_filter,List.mem_map];constructor
 ·rintro⟨⟨b,_,rfl⟩,h⟩;exact⟨FW _ _,h⟩
 ·rintro⟨a,c⟩;exact⟨⟨bitsOf w,by rw[List.mem_range,←a];exact KL w,by rw[←a];exact Na w⟩,c⟩
theorem Gf{y:Ar}(h0:0≤y.Am){t:AW}:t∈Cf y↔Et y t=true:=by
 unfold Cf Et;rw[List.mem_flatMap,Bool.and_eq_true,Bool.and_eq_true,decide_eq_true_eq];constructor
 ·rintro⟨w,hw,d⟩;obtain⟨c,e,rfl⟩:=List.mem_map.1 d;obtain⟨b,a⟩:=Im.1 hw;unfold days at b;exact⟨by show(w.length:Int)=_;omega,a,G1.1 e⟩
 ·rintro⟨b,a,f⟩;exact⟨t.Ap,Im.2 ⟨by unfold days;omega,a⟩,List.mem_map.2 ⟨t.Comes,G1.2 f,rfl⟩⟩
theorem VC(a b:List Bool)(j:a.length≤1000)(g:a.length=b.length):∀(k m i:Nat),a.length=i+k→k<m→DL a b m (i:Int)=some (cond (a.drop i==b.drop i) (.inr ()) (.inl false)):=by
 intro k
 induction k with
 |zero=>
  intro m i h hm;cases m with
  |zero=>omega
  |succ m=>rw[DL.eq_2,cf (df (by omega)),List.drop_eq_nil_of_le (by omega),List.drop_eq_nil_of_le (by omega)];rfl
 |succ k ih=>
  intro m i h hm;cases m with
  |zero=>omega
  |succ m=>
   have c:i<a.length:=by omega
   have d:i<b.length:=by omega
   rw[DL.eq_2,ct (dt (by omega)),B7 c,B7 d,List.drop_eq_getElem_cons c,List.drop_eq_getElem_cons d];cases f:(a[i] !=b[i]) with
   |true=>
    rw[ct rfl];have:(a[i]::a.drop (i+1)==b[i]::b.drop (i+1))=false:=by
     rw[List.cons_beq_cons];have:(a[i]==b[i])=false:=by simpa[bne] using f
     rw[this,Bool.false_and]
    rw[this];rfl
   |false=>
    have e:a[i]=b[i]:=by simpa[bne] using f
    rw[cf rfl,By (by omega) (by omega),CS,ih m (i+1) (by omega) (by omega),List.cons_beq_cons,e,beq_self_eq_true,Bool.true_and]
theorem VD{K:Nat}(a b:List Bool)(c:a.length≤1000)(hK:2000≤K):EM K a b=some (a==b):=by
 unfold EM
 by_cases h:a.length=b.length
 ·have:=VC a b c h a.length K 0 (by omega) (by omega);rw[Int.natCast_zero,List.drop_zero,List.drop_zero] at this;rw[cf (by rw[h];simp),bd this];cases (a==b)<;>rfl
 ·rw[ct (by simp;omega)];have:(a==b)=false:=by
   rw[beq_eq_false_iff_ne];intro e;exact h (by rw[e])
  rw[this]
structure EE(y:Ar):Prop where
 h0:0≤y.Am
 h9:y.Am≤9
 r1:1≤y.Aj
 r2:y.Aj≤2
 n4:y.Ad.length≤4
 w0:0≤y.Ap
 w1:y.Ap≤y.Am+1
 u0:0≤y.AA
 u1:y.AA≤y.Am+1
 N2:∀l∈y.Ad,Gz y l=true
 many:Gc y≤1000
theorem G4{y:Ar}(h:check y=0):EE y:=by
 unfold check at h;split at h
 ·cases h
 ·rename_i d
  split at h
  ·cases h
  ·rename_i b
   split at h
   ·cases h
   ·rename_i f
    rw[not_or,not_or] at d;rw[not_or,not_or,not_or,not_or] at b;have hw:Fx y.Ap 0 (y.Am+1)=true:=by cases a:Fx y.Ap 0 (y.Am+1) with|true=>rfl|false=>exact absurd a b.2.2.1
    have c:Fx y.AA 0 (y.Am+1)=true:=by cases a:Fx y.AA 0 (y.Am+1) with|true=>rfl|false=>exact absurd a b.2.2.2.1
    have e:y.Ad.all (Gz y)=true:=by cases a:y.Ad.all (Gz y) with|true=>rfl|false=>exact absurd a b.2.2.2.2
    rw[Fc] at hw c;exact⟨by omega,by omega,by omega,by omega,by omega,hw.1,hw.2,c.1,c.2,List.all_eq_true.1 e,by omega⟩
theorem EE.sz{y:Ar}(h:EE y):∀l∈y.Ad,sized l∧0≤l.Aw∧l.AJ≤9:=fun l b=>by
 have a:=h.N2 l b;have:=I9.1 a;have:=h.h9;exact⟨LD h.h9 a,by omega,by omega⟩
def VF(y:Ar):Option CE→Prop
 |none=>True
 |some x=>∃w m,x=wk y w m∧(w.length:Int)=y.Am+1∧GQ y w m
theorem QK{σ:Type}{K:Nat}(cb:σ→AW×List Ah→Option (Bool×σ))(y:Ar)(f:EE y)(o:List (List Int))(v:DA y o=true)(hK:2000≤K):∀(d:List AW) (h:Option CE) (s:σ),(∀t∈d,Et y t=true)→VF y h→
  (run (fun(st:(Option CE)×σ×Bool) (x:AW)=>cond st.2.2 none (DU cb K y o st.1 st.2.1 x)) d (h,s,false)).bind (fun g=>cond g.2.2.2 (some g.2.2.1) (some g.2.2.1))=(run (fun s t=>cb s (t,GL y t.Ap o t.Comes)) d s).bind fun r=>some r.2
 |[],h,s,_,_=>rfl
 |t::d,h,s,aA,aH=>by
  have j:=aA t (List.mem_cons_self ..);have aB:∀x∈d,Et y x=true:=fun x aI=>aA x (List.mem_cons_of_mem _ aI);unfold Et at j;rw[Bool.and_eq_true,Bool.and_eq_true,decide_eq_true_eq] at j;obtain⟨hw,_,aJ⟩:=j;have aC:=G0 aJ;have q:=MB v;have aD:o.length≤1000:=by have:=(Fe.1 v).1;have:=f.r2;omega
  have z:∀l∈o,l.length≤1000∧∀i∈l,0≤i∧i<(y.Ad.length:Int):=fun l aE=>⟨by have:=(q l aE).1;have:=f.n4;omega,(q l aE).2⟩;rw[run,run];show(Option.bind (DU cb K y o h s t) _:Option _).bind _=_
  
  have key:∀(m:List (List Int×Ah)),GQ y t.Ap m→∃c,GQ y t.Ap c∧C6 K (wk y t.Ap m) o t.Comes=some (GL y t.Ap o t.Comes,c):=fun m hm=>by
   obtain⟨c,aK,aL⟩:=QH (K:=K) y t.Ap m t.Comes o f.h0 f.h9 f.n4 hw hK z aC aD hm;exact⟨c,aL,aK⟩
  have fin:∀(c:List (List Int×Ah)),GQ y t.Ap c→
    (Option.bind ((cb s (t,GL y t.Ap o t.Comes)).bind fun a=>cond (!a.1) (some (false,(some (wk y t.Ap c)),a.2,true)) (some (true,(some (wk y t.Ap c)),a.2,false))) fun r=>cond r.1 (run (fun(st:(Option CE)×σ×Bool) (x:AW)=>cond st.2.2 none (DU cb K y o st.1 st.2.1 x)) d r.2) (some (false,r.2))).bind (fun g=>cond g.2.2.2 (some g.2.2.1) (some g.2.2.1))=
    (Option.bind (cb s (t,GL y t.Ap o t.Comes)) fun r=>cond r.1 (run (fun s t=>cb s (t,GL y t.Ap o t.Comes)) d r.2) (some (false,r.2))).bind fun r=>some r.2:=fun c k=>by
   cases cb s (t,GL y t.Ap o t.Comes) with
   |none=>rfl
   |some r=>
    obtain⟨b,s2⟩:=r;cases b with
    |false=>rfl
    |true=>exact QK cb y f o v hK d (some (wk y t.Ap c)) s2 aB ⟨t.Ap,c,rfl,hw,k⟩
  unfold DU;obtain⟨n,u,aM⟩:=key [] (N0 _ _);have aP:=f.h9;have e:(E6 (((0+t.Ap.length:Nat):Int)≤140737488355328/1)).bind (fun _=>(C6 K (⟨y.Am,y.Aj,y.Ap,y.AA,y.Ad,t.Ap,[]⟩:CE) o t.Comes).bind fun p=>(cb s (t,p.1)).bind fun a=>cond (!a.1) (some (false,(some (⟨y.Am,y.Aj,y.Ap,y.AA,y.Ad,t.Ap,p.2⟩:CE)),a.2,true)) (some (true,(some (⟨y.Am,y.Aj,y.Ap,y.AA,y.Ad,t.Ap,p.2⟩:CE)),a.2,false)))=
    (cb s (t,GL y t.Ap o t.Comes)).bind fun a=>cond (!a.1) (some (false,(some (wk y t.Ap n)),a.2,true)) (some (true,(some (wk y t.Ap n)),a.2,false)):=by
   have aF:C6 K (⟨y.Am,y.Aj,y.Ap,y.AA,y.Ad,t.Ap,[]⟩:CE) o t.Comes=some (GL y t.Ap o t.Comes,n):=aM;rw[FV (by omega),bd aF];rfl
  cases h with
  |none=>
   show(Option.bind ((E6 _).bind _) _:Option _).bind _=_;rw[e];exact fin n u
  |some x=>
   obtain⟨w,m,rfl,aQ,aG⟩:=aH;show(Option.bind ((EM K w t.Ap).bind _) _:Option _).bind _=_;rw[bd (VD w t.Ap (by omega) hK)];cases aN:(w==t.Ap) with
   |false=>
    rw[nf,e];exact fin n u
   |true=>
    obtain rfl:=eq_of_beq aN;obtain⟨c,k,aO⟩:=key m aG;rw[nt,bd aO];exact fin c k
theorem QL{σ:Type}{K:Nat}(cb:σ→AW×List Ah→Option (Bool×σ))(y:Ar)(a:EE y)(o:List (List Int))(b:DA y o=true)(hK:2000≤K)(s:σ):
  FK K cb y o s=(run (fun s t=>cb s (t,GL y t.Ap o t.Comes)) (Cf y) s).bind fun r=>some r.2:=by
 unfold FK;rw[RQ _ y a.h0 a.h9 a.n4 a.sz hK,Option.bind_assoc];exact QK cb y a o b hK (Cf y) none s (fun t c=>(Gf a.h0).1 c) trivial
end Go.Proofs.YtkljfdkmjdjpfaaGreat
end
section
namespace Go.Proofs.YtkljfdkmjdjpfaaGreat
def ES(l:Bd)(s:Ah):Bool:=s.Aq&&decide (s.AH≤l.Ch)
theorem MC(K:Nat)(l:Bd)(s:Ah):Dl K l s=some (ES l s):=by unfold Dl ES;cases s.Aq<;>rfl
theorem Pd(K:Nat)(l:Bd)(s:Ah):Ez K l s=some (!ES l s):=by unfold Ez;rw[bd (MC ..)]
def GG (p:Bd→Ah→Bool):List Bd→List Ah→Nat
 |l::ls,s::ss=>(cond (p l s) 1 0)+GG p ls ss
 |_,_=>0
def Dr(l:Bd)(s:Ah):Bool:= !ES l s
def Df(y:Ar)(ss:List Ah):Nat:=GG Dr y.Ad ss
theorem MD(p:Bd→Ah→Bool):∀(ls:List Bd) (ss:List Ah),GG p ls ss≤ls.length
 |l::ls,s::ss=>by
  have:=MD p ls ss;rw[GG,List.length_cons];cases p l s<;>simp<;>omega
 |[],_=>by simp[GG]
 |_::_,[]=>by simp[GG]
theorem Uu{K:Nat}(y:Ar)(ss:List Ah)(d:y.Ad.length≤4)(e:ss.length=y.Ad.length):∀(k m i:Nat) (a:Int),ss.length=i+k→k<m→0≤a→a≤i→
  DT K y ss m a (i:Int)=some (a+(GG Dr (y.Ad.drop i) (ss.drop i):Nat)):=by
 intro k
 induction k with
 |zero=>
  intro m i a h hm h0 c;cases m with
  |zero=>omega
  |succ m=>
   rw[DT.eq_2,cf (df (by omega)),List.drop_eq_nil_of_le («as»:=y.Ad) (by omega),GG]
   ·simp
   ·intro _ _ _ _ h;cases h
 |succ k ih=>
  intro m i a h hm h0 c;cases m with
  |zero=>omega
  |succ m=>
   have hi:i<ss.length:=by omega
   have b:i<y.Ad.length:=by omega
   rw[DT.eq_2,ct (dt (by omega)),B7 hi,B7 b,bd (Pd ..),List.drop_eq_getElem_cons hi,List.drop_eq_getElem_cons b,GG];show cond (Dr y.Ad[i] ss[i]) _ _=_;cases f:Dr y.Ad[i] ss[i] with
   |true=>
    rw[ct rfl,By (by omega) (by omega),By (by omega) (by omega),CS,ih m (i+1) (a+1) (by omega) (by omega) (by omega) (by omega)]
    congr 1
    show a+1+_=a+((1+GG Dr _ _:Nat):Int);omega
   |false=>
    rw[cf rfl,By (by omega) (by omega),CS,ih m (i+1) a (by omega) (by omega) (by omega) (by omega)]
    congr 1
    show a+_=a+((0+GG Dr _ _:Nat):Int);omega
theorem QM{K:Nat}(y:Ar)(ss:List Ah)(a:y.Ad.length≤4)(b:ss.length=y.Ad.length)(hK:2000≤K):E4 K y ss=some (Df y ss:Int):=by
 unfold E4;have:=Uu (K:=K) y ss a b ss.length K 0 0 (by omega) (by omega) (by omega) (by omega);rw[Int.natCast_zero,List.drop_zero,List.drop_zero] at this;rw[bd this];simp[Df]
theorem FX(y:Ar)(w:List Bool)(o:List (List Int))(c:List Int):(GL y w o c).length=y.Ad.length:=by unfold GL;rw[KJ,List.length_replicate]
def B6 (y:Ar) (o:List (List Int)) (t:AW):List Ah:=GL y t.Ap o t.Comes
theorem QN{K:Nat}(y:Ar)(o:List (List Int))(t:AW)(hK:2000≤K)(d:o.length≤1000)(g:o.flatten.length≤1000):
  GF K y o t=some (if check y≠0 then ([],check y) else if DA y o=false∨Et y t=false then ([],2) else (B6 y o t,0)):=by
 unfold GF;rw[bd (IB hK y)]
 by_cases h:check y=0
 ·rw[h,cf (by decide),if_neg (by simp)];have a:=G4 h;rw[bd (KK y o a.n4 hK d g)];cases i:DA y o with
  |false=>rw[nf,if_pos (.inl rfl)]
  |true=>
   rw[nt,bd (QJ y t a.h0 a.h9 a.n4 hK)];cases j:Et y t with
   |false=>rw[nf,if_pos (.inr rfl)]
   |true=>
    rw[nt,if_neg (by simp)];have b:=j;unfold Et at b;rw[Bool.and_eq_true,Bool.and_eq_true,decide_eq_true_eq] at b;have c:=MB i;obtain⟨k,e,_⟩:=QH (K:=K) y t.Ap [] t.Comes o a.h0 a.h9 a.n4 b.1 hK (fun l f=>⟨by have:=(c l f).1;have:=a.n4;omega,(c l f).2⟩) (G0 b.2.2) d (N0 _ _);have m:C6 K (⟨y.Am,y.Aj,y.Ap,y.AA,y.Ad,t.Ap,[]⟩:CE) o t.Comes=some (GL y t.Ap o t.Comes,k):=e;rw[bd m];rfl
 ·rw[ct (by simpa using h),if_pos h]
def Iw (y:Ar) (o:List (List Int)):List AW→Int×AW→Int×AW
 |[],s=>s
 |t::a,s=>
  let s2:=if s.1<(Df y (B6 y o t):Int) then ((Df y (B6 y o t):Int),t) else s
  cond (decide (s2.1<(y.Ad.length:Int))) (Iw y o a s2) s2
def CG(y:Ar)(o:List (List Int)):Int×AW:=Iw y o (Cf y) (-1,⟨[],[]⟩)
theorem N3{K:Nat}(y:Ar)(b:EE y)(o:List (List Int))(hK:2000≤K):∀(a:List AW) (s:Int×AW),(∀t∈a,Et y t=true)→
  (run (fun(st:Int×AW) t=>(E9 K t (B6 y o t) y st.1 st.2).bind fun r=>some (r.1,(r.2.1,r.2.2))) a s).bind (fun r=>some r.2)=some (Iw y o a s)
 |[],s,_=>rfl
 |t::a,s,d=>by
  have c:=d t (List.mem_cons_self ..);unfold Et at c;rw[Bool.and_eq_true,Bool.and_eq_true,decide_eq_true_eq] at c;have f:=G0 c.2.2;have g:=b.n4;have h9:=b.h9;rw[run,Iw];unfold E9;rw[bd (QM y (B6 y o t) b.n4 (FX ..) hK)]
  by_cases h:s.1<(Df y (B6 y o t):Int)
  ·rw[ct (dt h),FV (by omega),FV (by omega),if_pos h];show(cond (decide ((Df y (B6 y o t):Int)<(y.Ad.length:Int))) _ _:Option (Bool×Int×AW)).bind _=some (cond (decide ((Df y (B6 y o t):Int)<(y.Ad.length:Int))) _ _);cases decide ((Df y (B6 y o t):Int)<(y.Ad.length:Int)) with
   |false=>rfl
   |true=>exact N3 y b o hK a _ fun x e=>d x (List.mem_cons_of_mem _ e)
  ·rw[cf (df h),if_neg h];show(cond (decide (s.1<(y.Ad.length:Int))) _ _:Option (Bool×Int×AW)).bind _=some (cond (decide (s.1<(y.Ad.length:Int))) _ _);cases decide (s.1<(y.Ad.length:Int)) with
   |false=>rfl
   |true=>exact N3 y b o hK a s fun x e=>d x (List.mem_cons_of_mem _ e)
theorem QO{K:Nat}(y:Ar)(a:EE y)(o:List (List Int))(b:DA y o=true)(hK:2000≤K):FL K y o=some (CG y o):=by
 unfold FL;rw[QL _ y a o b hK];have:=N3 y a o hK (Cf y) (-1,⟨[],[]⟩) fun t c=>(Gf a.h0).1 c;exact Eq.trans (bd this) rfl
theorem N4{K:Nat}(y:Ar)(o:List (List Int))(hK:2000≤K)(b:o.length≤1000)(c:o.flatten.length≤1000):
  Ge K y o=some (if check y≠0 then (0,⟨[],[]⟩,check y) else if DA y o=false then (0,⟨[],[]⟩,2) else ((CG y o).1,(CG y o).2,0)):=by
 unfold Ge;rw[bd (IB hK y)]
 by_cases h:check y=0
 ·rw[h,cf (by decide),if_neg (by simp)];have a:=G4 h;rw[bd (KK y o a.n4 hK b c)];cases d:DA y o with
  |false=>rw[nf,if_pos rfl]
  |true=>rw[nt,if_neg (by simp),bd (QO y a o d hK)]
 ·rw[ct (by simpa using h),if_pos h]
theorem N5{K:Nat}(y:Ar)(o:List (List Int))(n:Int)(hK:2000≤K)(a:o.length≤1000)(b:o.flatten.length≤1000):
  Fu K y o n=some (decide (check y=0)&&(DA y o&&decide ((CG y o).1≤n))):=by
 unfold Fu;rw[bd (N4 y o hK a b)]
 by_cases h:check y=0
 ·rw[if_neg (by simp[h]),dt h];cases c:DA y o with
  |false=>rw[if_pos rfl];rfl
  |true=>rw[if_neg (by simp)];rfl
 ·rw[if_pos h,df h,cf (by simpa using h)];rfl
theorem OV{K:Nat}(y:Ar)(o:List (List Int))(t:AW)(n:Int)(hK:2000≤K)(a:o.length≤1000)(b:o.flatten.length≤1000):
  FM K y o t n=some (decide (check y=0)&&(DA y o&&(Et y t&&decide (n≤(Df y (B6 y o t):Int))))):=by
 unfold FM;rw[bd (QN y o t hK a b)]
 by_cases h:check y=0
 ·rw[if_neg (by simp[h]),dt h];cases c:DA y o with
  |false=>rw[if_pos (.inl rfl)];rfl
  |true=>
   cases d:Et y t with
   |false=>rw[if_pos (.inr rfl)];rfl
   |true=>
    rw[if_neg (by simp)];show(E4 K y (B6 y o t)).bind _=_;rw[bd (QM y (B6 y o t) (G4 h).n4 (FX ..) hK)];rfl
 ·rw[if_pos h,df h,cf (by simpa using h)];rfl
def Hd(p:Bd→Ah→Bool):List Bd→List Ah→List Int→List Int
 |l::ls,s::ss,a::as=>(cond (p l s) (a+1) a)::Hd p ls ss as
 |_,_,as=>as
theorem SJ(x:BQ)(k:Nat)(v:Int)(h:k<4):(x.set k v).l=x.l.set k v:=by
 match k,h with
 |0,_=>rfl
 |1,_=>rfl
 |2,_=>rfl
 |3,_=>rfl
theorem JX(p:Bd→Ah→Bool)(ss:List Ah)(as:List Int):Hd p [] ss as=as:=by cases as<;>rfl
theorem S4{K:Nat}(p:Bd→Ah→Bool)(y:Ar)(ss:List Ah)(q:y.Ad.length≤4)(r:ss.length=y.Ad.length):∀(k m i:Nat) (a:BQ),ss.length=i+k→k<m→(∀x∈a.l.drop i,0≤x∧x≤100000)→
  ∃b:BQ,CN (fun(st:Unit) (x:Bd×Ah)=>some (p x.1 x.2,())) ss y m (i:Int) a.a0 a.a1 a.a2 a.a3 ()=some (b.a0,b.a1,b.a2,b.a3,())∧b.l=a.l.take i++Hd p (y.Ad.drop i) (ss.drop i) (a.l.drop i):=by
 intro k
 induction k with
 |zero=>
  intro m i a h hm e;cases m with
  |zero=>omega
  |succ m=>
   rw[CN.eq_2,cf (df (by omega)),List.drop_eq_nil_of_le («as»:=y.Ad) (by omega),JX];exact⟨a,rfl,(List.take_append_drop ..).symm⟩
 |succ k ih=>
  intro m i a h hm e;cases m with
  |zero=>omega
  |succ m=>
   have hi:i<ss.length:=by omega
   have f:i<y.Ad.length:=by omega
   have c:i<a.l.length:=by show i<4;omega
   rw[CN.eq_2,ct (dt (by omega)),B7 hi,B7 f,Option.bind_some,List.drop_eq_getElem_cons hi,List.drop_eq_getElem_cons f,List.drop_eq_getElem_cons c,Hd];cases s:p y.Ad[i] ss[i] with
   |true=>
    have t:=e a.l[i] (by rw[List.drop_eq_getElem_cons c];exact List.mem_cons_self ..);have g:idx [a.a0,a.a1,a.a2,a.a3] (i:Int)=some a.l[i]:=idx_eq c;rw[ct rfl,bd g,By (by omega) (by omega),bd g,By (by omega) (by omega),CS,Int.toNat_natCast];obtain⟨b,j,n⟩:=ih m (i+1) (a.set i (a.l[i]+1)) (by omega) (by omega) (fun x d=>by
     rw[SJ _ _ _ (by omega),List.drop_set_of_lt (by omega)] at d;exact e x (by rw[List.drop_eq_getElem_cons c];exact List.mem_cons_of_mem _ d))
    refine⟨b,j,?_⟩;rw[n,SJ _ _ _ (by omega),List.take_add_one,List.getElem?_set_self c,List.take_set_of_le (Nat.le_refl _),List.drop_set_of_lt (by omega)];simp
   |false=>
    rw[cf rfl,By (by omega) (by omega),CS];obtain⟨b,j,n⟩:=ih m (i+1) a (by omega) (by omega) fun x d=>e x (by rw[List.drop_eq_getElem_cons c];exact List.mem_cons_of_mem _ d);refine⟨b,j,?_⟩;have o:a.l.take (i+1)=a.l.take i++[a.l[i]]:=by rw[List.take_add_one,List.getElem?_eq_getElem c];rfl
    rw[n,o,List.append_assoc];rfl
theorem RS{K:Nat}(p:Bd→Ah→Bool)(y:Ar)(t:AW)(ss:List Ah)(e:y.Ad.length≤4)(f:ss.length=y.Ad.length)(hK:2000≤K)(n:Int)(a:BQ)(h:0≤n∧n≤100000)(g:∀x∈a.l,0≤x∧x≤100000):
  ∃b:BQ,C8 K (fun(st:Unit) (x:Bd×Ah)=>some (p x.1 x.2,())) t ss n y a ()=some (true,n+1,b,())∧b.l=Hd p y.Ad ss a.l:=by
 unfold C8;obtain⟨b,c,d⟩:=S4 (K:=K) p y ss e f ss.length K 0 a (by omega) (by omega) (by rw[List.drop_zero];exact g);rw[Int.natCast_zero] at c;rw[List.take_zero,List.drop_zero,List.drop_zero,List.drop_zero,List.nil_append] at d;rw[By (by omega) (by omega),bd c];exact⟨b,rfl,d⟩
theorem ME(p:Bd→Ah→Bool)(B:Int):∀(ls:List Bd) (ss:List Ah) (as:List Int),(∀x∈as,0≤x∧x≤B)→∀x∈Hd p ls ss as,0≤x∧x≤B+1
 |l::ls,s::ss,a::as,h,x,b=>by
  rw[Hd] at b;rcases List.mem_cons.1 b with rfl|b
  ·have:=h a (List.mem_cons_self ..);cases p l s<;>simp<;>omega
  ·exact ME p B ls ss as (fun z c=>h z (List.mem_cons_of_mem _ c)) x b
 |[],_,as,h,x,b=>by
  rw[JX] at b;have:=h x b;omega
 |l::ls,[],as,h,x,b=>by
  have e:Hd p (l::ls) [] as=as:=by cases as<;>rfl
  rw[e] at b;have:=h x b;omega
 |l::ls,s::ss,[],h,x,b=>by
  have e:Hd p (l::ls) (s::ss) []=[]:=rfl;rw[e] at b;cases b
def IV (p:Bd→Ah→Bool) (y:Ar) (o:List (List Int)):List AW→List Int→List Int
 |[],a=>a
 |t::b,a=>IV p y o b (Hd p y.Ad (B6 y o t) a)
theorem N6{K:Nat}(p:Bd→Ah→Bool)(y:Ar)(d:EE y)(o:List (List Int))(hK:2000≤K):∀(c:List AW) (n:Int) (a:BQ) (B:Int),0≤n→n+c.length≤100000→B+c.length≤100000→(∀x∈a.l,0≤x∧x≤B)→
  ∃b:BQ,run (fun(st:Int×BQ×Unit) t=>(C8 K (fun(st:Unit) (x:Bd×Ah)=>some (p x.1 x.2,())) t (B6 y o t) st.1 y st.2.1 st.2.2).bind fun r=>some (r.1,(r.2.1,r.2.2.1,r.2.2.2))) c (n,a,())=some (true,n+c.length,b,())∧b.l=IV p y o c a.l
 |[],n,a,B,_,_,_,_=>⟨a,by simp[run],rfl⟩
 |t::c,n,a,B,h0,g,h,e=>by
  rw[List.length_cons] at g h;obtain⟨b,i,f⟩:=RS (K:=K) p y t (B6 y o t) d.n4 (FX ..) hK n a (by omega) (fun x j=>by have:=e x j;omega);obtain⟨k,m,q⟩:=N6 p y d o hK c (n+1) b (B+1) (by omega) (by omega) (by omega) (by rw[f];exact ME p B _ _ _ e);refine⟨k,?_,by rw[q,f];rfl⟩;rw[run];show Option.bind ((C8 K _ t (B6 y o t) n y a ()).bind _) _=_;rw[bd i];show run _ c (n+1,b,())=_;rw[m,List.length_cons]
  congr 3;omega
theorem MF(y:Ar)(b:EE y):((Cf y).length:Int)=Gc y:=by
 have d:∀ls:List Bd,(∀l∈ls,sized l)→((EP ls).length:Int)=Fi ls:=by
  intro ls
  induction ls with
  |nil=>intro _;rfl
  |cons l r ih=>
   intro h;have a:=(h l (List.mem_cons_self ..)).1;rw[EP,Fi,List.length_flatMap,←ih fun x e=>h x (List.mem_cons_of_mem _ e)];have:((List.range (B5 l).toNat).map fun(n:Nat)=>((EP r).map fun c=>(l.Aw+(n:Int))::c).length)=List.replicate (B5 l).toNat (EP r).length:=by
    apply List.ext_getElem
    ·simp
    ·intro i a f;simp
   rw[this,List.sum_replicate_nat,Int.natCast_mul]
   congr 1;omega
 unfold Cf Gc;rw[List.length_flatMap,←d y.Ad fun l g=>(b.sz l g).1];have:((Bw y).map fun w=>((EP y.Ad).map fun c=>(⟨c,w⟩:AW)).length)=List.replicate (Bw y).length (EP y.Ad).length:=by
  apply List.ext_getElem
  ·simp
  ·intro i a f;simp
 rw[this,List.sum_replicate_nat,Int.natCast_mul]
def DB (p:Bd→Ah→Bool) (y:Ar) (o:List (List Int)):List Int:=IV p y o (Cf y) [0,0,0,0]
theorem MG{K:Nat}(p:Bd→Ah→Bool)(y:Ar)(a:EE y)(o:List (List Int))(c:DA y o=true)(hK:2000≤K):
  ∃b:BQ,CF K (fun(st:Unit) (x:Bd×Ah)=>some (p x.1 x.2,())) y o ()=some (b,((Cf y).length:Int),())∧b.l=DB p y o:=by
 unfold CF;rw[QL _ y a o c hK];have g:=MF y a;have:=a.many;obtain⟨b,d,e⟩:=N6 (K:=K) p y a o hK (Cf y) 0 ⟨0,0,0,0⟩ 0 (by omega) (by omega) (by omega) (by intro x f;simp[BQ.l] at f;omega);refine⟨b,?_,e⟩;refine Eq.trans (congrArg (fun z=>Option.bind (Option.bind z _) _) d) ?_;rw[Int.zero_add];rfl
end Go.Proofs.YtkljfdkmjdjpfaaGreat
end
section
namespace Go.Proofs.YtkljfdkmjdjpfaaGreat
def F7(y:Ar)(i:Nat):Bd:=y.Ad.getD i Il
def Nt(y:Ar)(o:List (List Int))(t:AW)(i:Nat):Ah:=(B6 y o t).getD i Jb
def Iq (y:Ar) (o:List (List Int)) (i:Nat) (t:AW):Bool:=ES (F7 y i) (Nt y o t i)
theorem N7(p:Bd→Ah→Bool):∀(ls:List Bd) (ss:List Ah) (as:List Int) (i:Nat),i<ls.length→i<ss.length→i<as.length→
  (Hd p ls ss as).getD i 0=as.getD i 0+(cond (p (ls.getD i Il) (ss.getD i Jb)) 1 0)
 |l::ls,s::ss,a::as,0,_,_,_=>by
  rw[Hd];show cond (p l s) (a+1) a=a+cond (p l s) 1 0;cases p l s<;>simp
 |l::ls,s::ss,a::as,i+1,b,c,d=>by
  rw[Hd];exact N7 p ls ss as i (by simpa using b) (by simpa using c) (by simpa using d)
theorem H8(p:Bd→Ah→Bool):∀(ls:List Bd) (ss:List Ah) (as:List Int),(Hd p ls ss as).length=as.length
 |l::ls,s::ss,a::as=>by rw[Hd,List.length_cons,H8 p ls ss as,List.length_cons]
 |[],ss,as=>by rw[JX]
 |l::ls,[],as=>by
  have e:Hd p (l::ls) [] as=as:=by cases as<;>rfl
  rw[e]
 |l::ls,s::ss,[]=>rfl
theorem LG(p:Bd→Ah→Bool)(y:Ar)(o:List (List Int))(i:Nat)(hi:i<y.Ad.length):∀(a:List AW) (as:List Int),i<as.length→
  (IV p y o a as).getD i 0=as.getD i 0+(a.countP (fun t=>p (F7 y i) (Nt y o t i)):Nat)
 |[],as,_=>by simp[IV]
 |t::a,as,h=>by
  rw[IV,LG p y o i hi a _ (by rw[H8];exact h),N7 p _ _ _ i hi (by rw[B6,FX];exact hi) h,List.countP_cons];unfold F7 Nt;cases p (y.Ad.getD i Il) ((B6 y o t).getD i Jb)<;>simp<;>omega
theorem Ma(p:Bd→Ah→Bool)(y:Ar)(a:EE y)(o:List (List Int))(i:Nat)(hi:i<y.Ad.length):(DB p y o).getD i 0=((Cf y).countP (fun t=>p (F7 y i) (Nt y o t i)):Nat):=by
 unfold DB;have b:=a.n4;rw[LG p y o i hi _ _ (by show i<4;omega)];have:([0,0,0,0]:List Int).getD i 0=0:=by
  match i,(show i<4 by omega) with
  |0,_=>rfl
  |1,_=>rfl
  |2,_=>rfl
  |3,_=>rfl
 rw[this,Int.zero_add]
theorem Nu(b:BQ)(i:Nat)(h:i<4):idx [b.a0,b.a1,b.a2,b.a3] (i:Int)=some (b.l.getD i 0):=by
 have:i<[b.a0,b.a1,b.a2,b.a3].length:=h;rw[idx_eq this];show some b.l[i]=_;rw[List.getD_eq_getElem?_getD,List.getElem?_eq_getElem (show i<b.l.length from h)];rfl
def verdict (y:Ar) (o:List (List Int)) (i:Nat):Int:=cond ((Cf y).all (Iq y o i)) 1 (cond ((Cf y).all fun t=> !Iq y o i t) 2 3)
theorem KM{α:Type}(p:α→Bool)(l:List α):((((l.countP p:Nat):Int)==(l.length:Int)))=l.all p:=by
 rw[Bool.eq_iff_iff,beq_iff_eq,List.all_eq_true,Int.ofNat_inj,List.countP_eq_length]
theorem Mb{α:Type}(p:α→Bool)(l:List α):((((l.countP p:Nat):Int)==0))=l.all fun t=> !p t:=by
 rw[Bool.eq_iff_iff,beq_iff_eq,List.all_eq_true,show(0:Int)=((0:Nat):Int) from rfl,Int.ofNat_inj,List.countP_eq_zero];simp
theorem Pe{K:Nat}(y:Ar)(o:List (List Int))(n:Int)(hK:2000≤K)(e:o.length≤1000)(f:o.flatten.length≤1000):
  EO K y o n=some (if check y≠0 then (0,check y) else if DA y o=false∨Fx n 0 ((y.Ad.length:Int)-1)=false then (0,2) else (verdict y o n.toNat,0)):=by
 unfold EO;rw[bd (IB hK y)]
 by_cases h:check y=0
 ·rw[h,cf (by decide),if_neg (by simp)];have a:=G4 h;have m:=a.n4;rw[bd (KK y o a.n4 hK e f)];cases g:DA y o with
  |false=>rw[nf,if_pos (.inl rfl)]
  |true=>
   have j:F9 K y n=some (Fx n 0 ((y.Ad.length:Int)-1)):=by
    unfold F9;rw[By (by omega) (by omega),bd (Hy ..)]
   rw[nt,bd j];cases c:Fx n 0 ((y.Ad.length:Int)-1) with
   |false=>rw[nf,if_pos (.inr rfl)]
   |true=>
    rw[nt,if_neg (by simp)];rw[Fc] at c;obtain⟨i,rfl⟩:=Int.eq_ofNat_of_zero_le c.1;have hi:i<y.Ad.length:=by omega
    obtain⟨b,k,l⟩:=MG (K:=K) ES y a o g hK;have d:CF K (fun(st:Unit) (x:Bd×Ah)=>(Dl K x.1 x.2).bind fun r=>some (r,())) y o ()=some (b,((Cf y).length:Int),()):=by
     rw[←k];congr 1;funext st x;rw[bd (MC ..)]
    rw[bd d,bd (Nu b i (by omega)),l,Ma ES y a o i hi,Int.toNat_natCast];unfold verdict;show cond ((((Cf y).countP (Iq y o i):Nat):Int)==((Cf y).length:Int)) _ (cond ((((Cf y).countP (Iq y o i):Nat):Int)==0) _ _)=_;rw[KM,Mb];cases (Cf y).all (Iq y o i)<;>cases (Cf y).all (fun t=> !Iq y o i t)<;>rfl
 ·rw[ct (by simpa using h),if_pos h]
theorem JY(y:Ar)(o:List (List Int)):∀(a:List AW) (s:Int×AW),s.1<(y.Ad.length:Int)∨a=[]→
  (∀t∈a,(Df y (B6 y o t):Int)≤(Iw y o a s).1)∧s.1≤(Iw y o a s).1∧((Iw y o a s)=s∨∃t∈a,(Iw y o a s)=((Df y (B6 y o t):Int),t))
 |[],s,_=>⟨fun t j=>(by cases j),Int.le_refl _,.inl rfl⟩
 |t::a,s,h=>by
  have g:s.1<(y.Ad.length:Int):=by
   rcases h with h|h
   ·exact h
   ·cases h
  have hle:∀x,(Df y (B6 y o x):Int)≤(y.Ad.length:Int):=fun x=>by
   have:=MD Dr y.Ad (B6 y o x);unfold Df;omega
  rw[Iw]
  by_cases i:s.1<(Df y (B6 y o t):Int)
  ·rw[if_pos i];show(∀x∈t::a,_≤(cond (decide ((Df y (B6 y o t):Int)<(y.Ad.length:Int))) _ _:Int×AW).1)∧_
   by_cases e:(Df y (B6 y o t):Int)<(y.Ad.length:Int)
   ·rw[ct (dt e)];obtain⟨f,d,b⟩:=JY y o a ((Df y (B6 y o t):Int),t) (.inl e);refine⟨fun x c=>?_,by have k:(Df y (B6 y o t):Int)≤_:=d;omega,.inr ?_⟩
    ·rcases List.mem_cons.1 c with rfl|c
     ·exact d
     ·exact f x c
    ·rcases b with b|⟨x,c,b⟩
     ·exact⟨t,List.mem_cons_self ..,b⟩
     ·exact⟨x,List.mem_cons_of_mem _ c,b⟩
   ·rw[cf (df e)];exact⟨fun x _=>Int.le_trans (hle x) (by show(y.Ad.length:Int)≤(Df y (B6 y o t):Int);omega),by show s.1≤(Df y (B6 y o t):Int);omega,.inr ⟨t,List.mem_cons_self ..,rfl⟩⟩
  ·rw[if_neg i];show(∀x∈t::a,_≤(cond (decide (s.1<(y.Ad.length:Int))) _ _:Int×AW).1)∧_;rw[ct (dt g)];obtain⟨f,d,b⟩:=JY y o a s (.inl g);refine⟨fun x c=>?_,d,?_⟩
   ·rcases List.mem_cons.1 c with rfl|c
    ·omega
    ·exact f x c
   ·rcases b with b|⟨x,c,b⟩
    ·exact .inl b
    ·exact .inr ⟨x,List.mem_cons_of_mem _ c,b⟩
theorem Mc{y:Ar}(f:EE y):Cf y≠[]:=by
 have g:wl (days y) 0∈Bw y:=by
  refine Im.2 ⟨FW _ _,?_⟩;have key:∀(l:List Bool) (s r:Int),(∀b∈l,b=false)→okW y.Ap y.AA l s r=true:=by
   intro l
   induction l with
   |nil=>intros;rfl
   |cons b l ih=>
    intro s r h;have a:=h b (List.mem_cons_self ..);subst a;rw[okW];exact ih s 0 fun x c=>h x (List.mem_cons_of_mem _ c)
  refine key _ 0 0 fun b a=>?_;unfold wl at a;obtain⟨d,_,rfl⟩:=List.mem_map.1 a;exact Nat.zero_testBit d
 have i:DG y.Ad (y.Ad.map (·.Aw))=true:=by
  have key:∀ls:List Bd,(∀l∈ls,sized l)→DG ls (ls.map (·.Aw))=true:=by
   intro ls
   induction ls with
   |nil=>intro _;rfl
   |cons l r ih=>
    intro h;have:=(h l (List.mem_cons_self ..)).1;rw[List.map_cons,DG,Bool.and_eq_true];exact⟨Fc.2 (by unfold B5 at this;omega),ih fun x c=>h x (List.mem_cons_of_mem _ c)⟩
  exact key _ fun l j=>(f.sz l j).1
 intro e;have:(⟨y.Ad.map (·.Aw),wl (days y) 0⟩:AW)∈Cf y:=by
  unfold Cf;exact List.mem_flatMap.2 ⟨_,g,List.mem_map.2 ⟨_,G1.2 i,rfl⟩⟩
 rw[e] at this;cases this
theorem Ho {y:Ar} (c:EE y) (o:List (List Int)):(∀t,Et y t=true→(Df y (B6 y o t):Int)≤(CG y o).1)∧Et y (CG y o).2=true∧(CG y o).1=(Df y (B6 y o (CG y o).2):Int):=by
 obtain⟨d,e,a⟩:=JY y o (Cf y) (-1,⟨[],[]⟩) (.inl (by show(-1:Int)<_;omega));refine⟨fun t b=>d t ((Gf c.h0).2 b),?_⟩;rcases a with a|⟨t,b,a⟩
 ·exfalso;obtain⟨t,b⟩:=List.exists_mem_of_ne_nil _ (Mc c);have:=d t b;rw[a] at this;have f:(Df y (B6 y o t):Int)≤-1:=this;omega
 ·unfold CG;rw[a];exact⟨(Gf c.h0).1 b,rfl⟩
theorem RT{y:Ar}(d:EE y)(o:List (List Int))(n:Int)(f:∀t,Et y t=true→(Df y (B6 y o t):Int)≤n)(g:∃t,Et y t=true∧(Df y (B6 y o t):Int)=n):(CG y o).1=n:=by
 obtain⟨a,b,c⟩:=Ho d o;obtain⟨t,h,e⟩:=g;have:=a t h;have:=f _ b;omega
end Go.Proofs.YtkljfdkmjdjpfaaGreat
end
section
namespace Go.Proofs.YtkljfdkmjdjpfaaGreat
def EH:Nat→Nat→List (List Int)→List (List (List Int))
 |0,_,o=>[o]
 |k+1,i,o=>(List.range o.length).flatMap fun r=>(List.range ((o.getD r []).length+1)).flatMap fun(a:Nat)=>EH k (i+1) (o.set r (CZ (o.getD r []) (a:Int) (i:Int)))
def GS(y:Ar):List (List (List Int)):=EH y.Ad.length 0 (List.replicate y.Aj.toNat [])
section
variable{σ:Type}{K:Nat}(cb:σ→List (List Int)→Option (Bool×σ))(y:Ar)
def Or(n k i:Nat):Prop:=∀(o:List (List Int)) (st:σ),(∀l∈o,l.length≤i)→o.length≤1000→
 (BD K cb k (i:Int) y o st).map (fun z=>(z.1,z.2.2))=run cb (EH n i o) st∧
 ∀z,BD K cb k (i:Int) y o st=some z→z.1=true→z.2.1=o
theorem N8{l:List (List Int)}{r:Nat}(h:r<l.length):l.set r (l.getD r [])=l:=by
 rw[List.getD_eq_getElem?_getD,List.getElem?_eq_getElem h];exact List.set_getElem_self h
theorem QP(n k i r:Nat)(hi:i≤10)(o:List (List Int))(s:r<o.length)(v:o.length≤1000)(hlen:∀l∈o,l.length≤i)(ih:Or (K:=K) cb y n k (i+1)):
  ∀(c m a:Nat) (q:List (List Int)) (st:σ),(o.getD r []).length+1=a+c→c<m→q.length=o.length→q.set r (o.getD r [])=o→
  (Cq (BD K cb k) (i:Int) y (r:Int) (o.getD r []) m (a:Int) q st).map RO=run cb ((List.range' a c).flatMap fun(a:Nat)=>EH n (i+1) (o.set r (CZ (o.getD r []) (a:Int) (i:Int)))) st∧
  ∀z,Cq (BD K cb k) (i:Int) y (r:Int) (o.getD r []) m (a:Int) q st=some z→(∀x,z=.inl x→x.1=false)∧(∀x,z=.inr x→x.1.length=o.length∧x.1.set r (o.getD r [])=o):=by
 have aH:(o.getD r []).length≤i:=by
  rw[List.getD_eq_getElem?_getD,List.getElem?_eq_getElem s];exact hlen _ (List.getElem_mem s)
 intro c
 induction c with
 |zero=>
  intro m a q st h hm w f;cases m with
  |zero=>omega
  |succ m=>
   rw[Cq.eq_2,cf (df (by omega))];exact⟨rfl,fun z g=>by cases g;exact⟨fun x e=>(by cases e),fun x e=>by cases e;exact⟨w,f⟩⟩⟩
 |succ c aA=>
  intro m a q st h hm w f;cases m with
  |zero=>omega
  |succ m=>
   have aB:r<q.length:=by omega
   have t:q.set r (CZ (o.getD r []) (a:Int) (i:Int))=o.set r (CZ (o.getD r []) (a:Int) (i:Int)):=by
    have h:(q.set r (o.getD r [])).set r (CZ (o.getD r []) (a:Int) (i:Int))=o.set r (CZ (o.getD r []) (a:Int) (i:Int)):=by rw[f]
    rw[List.set_set] at h;exact h
   rw[Cq.eq_2,ct (dt (by omega)),FV (by omega),FV (by omega),B7 aB,By (by omega) (by omega),CS i,Int.toNat_natCast,t];obtain⟨aD,aE⟩:=ih (o.set r (CZ (o.getD r []) (a:Int) (i:Int))) st (fun l aF=>by
    rcases List.mem_or_eq_of_mem_set aF with u|u
    ·have:=hlen l u;omega
    ·rw[u,Ln];omega) (by rw[List.length_set];exact v)
   rw[List.range'_succ,List.flatMap_cons,HT,←aD];cases aG:BD K cb k ((i+1:Nat):Int) y (o.set r (CZ (o.getD r []) (a:Int) (i:Int))) st with
   |none=>exact⟨rfl,fun z g=>by cases g⟩
   |some z0=>
    obtain⟨b,j,s2⟩:=z0;cases b with
    |false=>
     refine⟨rfl,fun z g=>?_⟩;have aC:some (Sum.inl (false,j,s2))=some z:=g;cases aC;exact⟨fun x e=>by cases e;rfl,fun x e=>by cases e⟩
    |true=>
     have p:j=o.set r (CZ (o.getD r []) (a:Int) (i:Int)):=aE _ aG rfl;have key:(Option.bind (some (true,j,s2)) fun d=>cond (!d.1) (some (Sum.inl (false,d.2.1,d.2.2))) ((i64 ((a:Int)+1)).bind fun _=>Cq (BD K cb k) (i:Int) y (r:Int) (o.getD r []) m ((a:Int)+1) d.2.1 d.2.2))=Cq (BD K cb k) (i:Int) y (r:Int) (o.getD r []) m ((a+1:Nat):Int) j s2:=by
      rw[Option.bind_some,nt,By (by omega) (by omega),CS a]
     rw[key];exact aA m (a+1) j s2 (by omega) (by omega) (by rw[p,List.length_set]) (by rw[p,List.set_set];exact N8 s)
theorem QQ(n k i:Nat)(hi:i≤10)(hK:2000≤K)(o:List (List Int))(p:o.length≤1000)(hlen:∀l∈o,l.length≤i)(ih:Or (K:=K) cb y n k (i+1)):
  ∀(c m r:Nat) (st:σ),o.length=r+c→c<m→
  (Cj (BD K cb k) K (i:Int) y o m (r:Int) o st).map RO=run cb ((List.range' r c).flatMap fun r=>(List.range ((o.getD r []).length+1)).flatMap fun(a:Nat)=>EH n (i+1) (o.set r (CZ (o.getD r []) (a:Int) (i:Int)))) st∧
  ∀z,Cj (BD K cb k) K (i:Int) y o m (r:Int) o st=some z→(∀x,z=.inl x→x.1=false)∧(∀x,z=.inr x→x.1=o):=by
 intro c
 induction c with
 |zero=>
  intro m r st h hm;cases m with
  |zero=>omega
  |succ m=>
   rw[Cj.eq_2,cf (df (by omega))];exact⟨rfl,fun z j=>by cases j;exact⟨fun x f=>(by cases f),fun x f=>by cases f;rfl⟩⟩
 |succ c q=>
  intro m r st h hm;cases m with
  |zero=>omega
  |succ m=>
   have g:r<o.length:=by omega
   have aF:(o.getD r []).length≤i:=by
    rw[List.getD_eq_getElem?_getD,List.getElem?_eq_getElem g];exact hlen _ (List.getElem_mem g)
   have s:o[r]=o.getD r []:=by rw[List.getD_eq_getElem?_getD,List.getElem?_eq_getElem g];rfl
   rw[Cj.eq_2,ct (dt (by omega)),B7 g,s,By (by omega) (by omega)];obtain⟨t,u⟩:=QP cb y n k i r hi o g p hlen ih ((o.getD r []).length+1) K 0 o st (by omega) (by omega) rfl (N8 g);rw[Int.natCast_zero] at t u;rw[List.range'_succ,List.flatMap_cons,HT,List.range_eq_range',←t];cases aA:Cq (BD K cb k) (i:Int) y (r:Int) (o.getD r []) K 0 o st with
   |none=>exact⟨rfl,fun z j=>by cases j⟩
   |some z0=>
    obtain⟨aB,aC⟩:=u _ aA;cases z0 with
    |inl x=>
     obtain⟨b,e,s2⟩:=x;obtain rfl:b=false:=aB _ rfl;refine⟨rfl,fun z j=>?_⟩;have v:some (Sum.inl (false,e,s2))=some z:=j;cases v;exact⟨fun x f=>by cases f;rfl,fun x f=>by cases f⟩
    |inr x=>
     obtain⟨e,s2⟩:=x;obtain⟨aD,aE⟩:=aC _ rfl;have aG:e.length=o.length:=aD;have w:e.set r (o.getD r [])=o:=aE;have key:(Option.bind (some (Sum.inr (e,s2):(Bool×List (List Int)×σ)⊕(List (List Int)×σ))) fun z=>Sum.elim (fun d=>some (Sum.inl (d.1,d.2.1,d.2.2))) (fun d=>(idx d.1 (r:Int)).bind fun _=>(i64 ((r:Int)+1)).bind fun _=>Cj (BD K cb k) K (i:Int) y o m ((r:Int)+1) (d.1.set (r:Int).toNat (o.getD r [])) d.2) z)=Cj (BD K cb k) K (i:Int) y o m ((r+1:Nat):Int) o s2:=by
      rw[Option.bind_some];show(idx e (r:Int)).bind _=_;rw[B7 (show r<e.length by omega),By (by omega) (by omega),CS r];show Cj _ K _ y o m _ (e.set (r:Int).toNat (o.getD r [])) s2=_;rw[Int.toNat_natCast,w]
     rw[key];exact q m (r+1) s2 (by omega) (by omega)
theorem QR(t:y.Ad.length≤4)(hK:2000≤K):∀(n k i:Nat),y.Ad.length=i+n→n<k→Or (K:=K) cb y n k i:=by
 intro n
 induction n with
 |zero=>
  intro k i h l o st hlen e;cases k with
  |zero=>omega
  |succ k=>
   rw[BD.eq_2,ct (by rw[h];simp)];rw[EH,run];cases cb st o with
   |none=>exact⟨rfl,fun z a=>by cases a⟩
   |some r=>
    obtain⟨b,s⟩:=r;refine⟨by cases b<;>rfl,fun z a _=>?_⟩;have c:some (b,o,s)=some z:=a;cases c;rfl
 |succ n ih=>
  intro k i h l o st hlen e;cases k with
  |zero=>omega
  |succ k=>
   rw[BD.eq_2,cf (by simp;omega)];obtain⟨f,g⟩:=QQ cb y n k i (by omega) hK o e hlen (ih k (i+1) (by omega) (by omega)) o.length K 0 st (by omega) (by omega);rw[Int.natCast_zero] at f g;rw[EH,List.range_eq_range',←f];cases m:Cj (BD K cb k) K (i:Int) y o K 0 o st with
   |none=>exact⟨rfl,fun z a=>by cases a⟩
   |some z0=>
    obtain⟨p,q⟩:=g _ m;cases z0 with
    |inl x=>
     obtain⟨b,d,s2⟩:=x;obtain rfl:b=false:=p _ rfl;refine⟨rfl,fun z a j=>?_⟩;have c:some (false,d,s2)=some z:=a;cases c;cases j
    |inr x=>
     obtain⟨d,s2⟩:=x;obtain rfl:d=o:=q _ rfl;refine⟨rfl,fun z a j=>?_⟩;have c:some (true,d,s2)=some z:=a;cases c;rfl
end
theorem N9{σ:Type}{K:Nat}(cb:σ→List (List Int)→Option (Bool×σ))(y:Ar)(a:EE y)(hK:2000≤K)(st:σ):Fa K cb y st=(run cb (GS y) st).bind fun r=>some r.2:=by
 unfold Fa;have:=a.r1;have:=a.r2;rw[NZ (by omega) (by omega) (by omega)];obtain⟨b,_⟩:=QR cb y a.n4 hK y.Ad.length K 0 (by omega) (by have:=a.n4;omega) (List.replicate y.Aj.toNat []) st (fun l c=>by rw[(List.mem_replicate.1 c).2];exact Nat.le_refl _) (by rw[List.length_replicate];omega);rw[Int.natCast_zero] at b;unfold GS;rw[←b];cases BD K cb K 0 y (List.replicate y.Aj.toNat []) st with
 |none=>rfl
 |some z=>rfl
end Go.Proofs.YtkljfdkmjdjpfaaGreat
end
section
namespace Go.Proofs.YtkljfdkmjdjpfaaGreat
theorem QS(l:List Int)(a i:Int):(CZ l a i).Perm (i::l):=by
 unfold CZ;refine List.perm_middle.trans (List.Perm.cons _ ?_);rw[List.take_append_drop]
theorem IW(v:Int):∀(o:List (List Int)) (r:Nat) (a:Int),r<o.length→(o.set r (CZ (o.getD r []) a v)).flatten.Perm (v::o.flatten)
 |l::o,0,a,_=>by
  show(CZ l a v++o.flatten).Perm (v::(l++o.flatten));exact(QS l a v).append_right _
 |l::o,r+1,a,h=>by
  show(l++(o.set r (CZ (o.getD r []) a v)).flatten).Perm (v::(l++o.flatten));exact((IW v o r a (by simpa using h)).append_left l).trans List.perm_middle
theorem KN(n:Nat):iota (n+1)=iota n++[(n:Int)]:=by simp[iota,List.range_succ]
theorem Md:∀(k i:Nat) (c o:List (List Int)),c.flatten.Perm (iota i)→o∈EH k i c→o.length=c.length∧o.flatten.Perm (iota (i+k))
 |0,i,c,o,h,b=>by
  rw[EH,List.mem_singleton] at b;subst b;exact⟨rfl,h⟩
 |k+1,i,c,o,h,b=>by
  rw[EH,List.mem_flatMap] at b;obtain⟨r,d,b⟩:=b;obtain⟨a,_,b⟩:=List.mem_flatMap.1 b;rw[List.mem_range] at d;obtain⟨e,f⟩:=Md k (i+1) _ o (by
   rw[KN];exact((IW (i:Int) c r (a:Int) d).trans (h.cons _)).trans (List.perm_append_singleton _ _).symm) b
  rw[List.length_set] at e;exact⟨e,by rw[show i+(k+1)=i+1+k by omega];exact f⟩
theorem Ix{y:Ar}(a:EE y){o:List (List Int)}(h:o∈GS y):DA y o=true:=by
 have:=Md _ 0 _ o (by
  have:(List.replicate y.Aj.toNat ([]:List Int)).flatten=[]:=by simp
  rw[this];exact List.Perm.refl _) h
 rw[List.length_replicate,Nat.zero_add] at this;refine Fe.2 ⟨?_,this.2⟩;have:=a.r1;omega
theorem KO:∀(k i:Nat) (c o:List (List Int)) (r a:Nat),o∈EH k i c→r<o.length→a≤(o.getD r []).length→o.set r (CZ (o.getD r []) (a:Int) ((i+k:Nat):Int))∈EH (k+1) i c
 |0,i,c,o,r,a,b,d,e=>by
  rw[EH,List.mem_singleton] at b;subst b;rw[EH,List.mem_flatMap];refine⟨r,List.mem_range.2 d,List.mem_flatMap.2 ⟨a,List.mem_range.2 (by omega),?_⟩⟩;rw[EH,List.mem_singleton];rfl
 |k+1,i,c,o,r,a,b,d,e=>by
  rw[EH,List.mem_flatMap] at b;obtain⟨r1,f,b⟩:=b;obtain⟨a1,g,b⟩:=List.mem_flatMap.1 b;rw[EH,List.mem_flatMap];refine⟨r1,f,List.mem_flatMap.2 ⟨a1,g,?_⟩⟩;have:=KO k (i+1) _ o r a b d e;rw[show i+1+k=i+(k+1) by omega] at this;exact this
theorem Me (v:Int):∀(o:List (List Int)),v∈o.flatten→∃(o':List (List Int)) (r a:Nat),r<o'.length∧a≤(o'.getD r []).length∧o=o'.set r (CZ (o'.getD r []) (a:Int) v)∧o.flatten.Perm (v::o'.flatten)∧o'.length=o.length
 |[],h=>by cases h
 |l::o,h=>by
  by_cases b:v∈l
  ·obtain⟨s,t,rfl⟩:=List.append_of_mem b;refine⟨(s++t)::o,0,s.length,by simp,by simp,?_,?_,by simp⟩
   ·show _=CZ (s++t) (s.length:Int) v::o;unfold CZ;rw[Int.toNat_natCast,List.take_left,List.drop_left]
   ·show((s++v::t)++o.flatten).Perm (v::((s++t)++o.flatten));exact(List.perm_middle (a:=v) (l₁:=s) (l₂:=t)).append_right _
  ·have c:v∈o.flatten:=by
    rw[List.flatten_cons,List.mem_append] at h;exact h.resolve_left b
   obtain⟨o',r,a,d,e,f,g,i⟩:=Me v o c;refine⟨l::o',r+1,a,by simpa using d,e,?_,?_,by simp[i]⟩
   ·show l::o=l::o'.set r (CZ (o'.getD r []) (a:Int) v);rw[←f]
   ·show(l++o.flatten).Perm (v::(l++o'.flatten));exact(g.append_left l).trans List.perm_middle
theorem Lp(Mk:Nat):∀(n:Nat) (o:List (List Int)),o.length=Mk→o.flatten.Perm (iota n)→o∈EH n 0 (List.replicate Mk [])
 |0,o,c,b=>by
  rw[EH,List.mem_singleton];have he:o.flatten=[]:=b.eq_nil;rw[List.flatten_eq_nil_iff] at he;exact List.eq_replicate_iff.2 ⟨c,he⟩
 |n+1,o,c,b=>by
  have e:(n:Int)∈o.flatten:=b.mem_iff.2 (by rw[KN];simp);obtain⟨o',r,a,f,g,h,i,k⟩:=Me (n:Int) o e;have d:o'.flatten.Perm (iota n):=by
   have j:(iota (n+1)).Perm ((n:Int)::iota n):=by rw[KN];exact List.perm_append_singleton _ _
   exact(List.perm_cons _).1 ((i.symm.trans b).trans j)
  have:=KO n 0 _ o' r a (Lp Mk n o' (by omega) d) f g;rw[Nat.zero_add] at this;rw[h];exact this
theorem Lq{y:Ar}(a:EE y){o:List (List Int)}:o∈GS y↔DA y o=true:=by
 refine⟨Ix a,fun h=>?_⟩;have b:=Fe.1 h;exact Lp _ _ o (by omega) b.2
theorem P5{y:Ar}(a:EE y):GS y≠[]:=by
 have:((iota y.Ad.length)::List.replicate (y.Aj.toNat-1) [])∈GS y:=by
  refine(Lq a).2 (Fe.2 ⟨?_,?_⟩)
  ·have:=a.r1;simp;omega
  ·simp
 intro e;rw[e] at this;cases this
theorem RU(p:List (List Int))(c:p.length≤1000)(a:∀l∈p,l.length≤1000):∀(k m i:Nat),p.length=i+k→k<m→E5 p m (i:Int) p=some p:=by
 intro k
 induction k with
 |zero=>
  intro m i h hm;cases m with
  |zero=>omega
  |succ m=>rw[E5.eq_2,cf (df (by omega))]
 |succ k ih=>
  intro m i h hm;cases m with
  |zero=>omega
  |succ m=>
   have hi:i<p.length:=by omega
   have b:=a p[i] (List.getElem_mem hi);rw[E5.eq_2,ct (dt (by omega)),B7 hi,FV (by omega),B7 hi,By (by omega) (by omega),CS,Int.toNat_natCast,List.set_getElem_self hi];exact ih m (i+1) (by omega) (by omega)
theorem Oa{K:Nat}(p:List (List Int))(a:p.length≤1000)(b:∀l∈p,l.length≤1000)(hK:2000≤K):Fw K p=some p:=by
 unfold Fw;have:=RU p a b p.length K 0 (by omega) (by omega);rw[Int.natCast_zero] at this;rw[FV (by omega),bd this]
theorem Jc{y:Ar}(a:EE y){o:List (List Int)}(h:DA y o=true):o.length≤1000∧(∀l∈o,l.length≤1000)∧o.flatten.length≤1000:=by
 have b:=Fe.1 h;have c:=MB h;have:=a.r2;have:=a.n4;have d:=b.2.length_eq;rw[Hr] at d;exact⟨by omega,fun l e=>by have:=(c l e).1;omega,by omega⟩
def H9(y:Ar):List (List (List Int))→Int×List (List Int)→Int×List (List Int)
 |[],s=>s
 |o::os,s=>
  let s2:=if (CG y o).1<s.1 then ((CG y o).1,o) else s
  cond (decide (0<s2.1)) (H9 y os s2) s2
def Ia(y:Ar):Int×List (List Int):=H9 y (GS y) ((y.Ad.length:Int)+1,[])
theorem Ob{K:Nat}(y:Ar)(a:EE y)(hK:2000≤K):∀(os:List (List (List Int))) (s:Int×List (List Int)),(∀o∈os,DA y o=true)→
  (run (fun(st:Int×(List (List Int))) (x:(List (List Int)))=>(Gs K x y st.1 st.2).bind fun r=>some (r.1,(r.2.1,r.2.2))) os s).bind (fun r=>some r.2)=some (H9 y os s)
 |[],s,_=>rfl
 |o::os,s,h=>by
  have d:=h o (List.mem_cons_self ..);obtain⟨e,f,_⟩:=Jc a d;rw[run,H9];unfold Gs;rw[bd (QO y a o d hK)]
  by_cases b:(CG y o).1<s.1
  ·rw[ct (dt b),bd (Oa o e f hK),if_pos b];show(cond (decide (0<(CG y o).1)) _ _:Option (Bool×Int×List (List Int))).bind _=some (cond (decide (0<(CG y o).1)) _ _);cases decide (0<(CG y o).1) with
   |false=>rfl
   |true=>exact Ob y a hK os _ fun x c=>h x (List.mem_cons_of_mem _ c)
  ·rw[cf (df b),if_neg b];show(cond (decide (0<s.1)) _ _:Option (Bool×Int×List (List Int))).bind _=some (cond (decide (0<s.1)) _ _);cases decide (0<s.1) with
   |false=>rfl
   |true=>exact Ob y a hK os s fun x c=>h x (List.mem_cons_of_mem _ c)
theorem Uv{K:Nat}(y:Ar)(hK:2000≤K):G9 K y=some (if check y≠0 then ([],0,check y) else ((Ia y).2,(Ia y).1,0)):=by
 unfold G9;rw[bd (IB hK y)]
 by_cases h:check y=0
 ·rw[h,cf (by decide),if_neg (by simp)];have a:=G4 h;have c:=a.n4;rw[By (by omega) (by omega),N9 _ y a hK];exact Eq.trans (bd (Ob y a hK (GS y) _ fun o b=>Ix a b)) rfl
 ·rw[ct (by simpa using h),if_pos h]
theorem Oc{y:Ar}(a:EE y)(o:List (List Int)):0≤(CG y o).1∧(CG y o).1≤(y.Ad.length:Int):=by
 obtain⟨_,_,e⟩:=Ho a o;have:=MD Dr y.Ad (B6 y o (CG y o).2);rw[e];unfold Df;omega
theorem JZ(y:Ar)(d:EE y):∀(os:List (List (List Int))) (s:Int×List (List Int)),0<s.1∨os=[]→
  (∀o∈os,(H9 y os s).1≤(CG y o).1)∧(H9 y os s).1≤s.1∧((H9 y os s)=s∨∃o∈os,(H9 y os s)=((CG y o).1,o))
 |[],s,_=>⟨fun o j=>(by cases j),Int.le_refl _,.inl rfl⟩
 |o::os,s,h=>by
  have g:0<s.1:=by
   rcases h with h|h
   ·exact h
   ·cases h
  rw[H9]
  by_cases i:(CG y o).1<s.1
  ·rw[if_pos i];show(∀x∈o::os,(cond (decide (0<(CG y o).1)) _ _:Int×List (List Int)).1≤_)∧_
   by_cases e:0<(CG y o).1
   ·rw[ct (dt e)];obtain⟨f,c,a⟩:=JZ y d os ((CG y o).1,o) (.inl e);have k:(H9 y os ((CG y o).1,o)).1≤(CG y o).1:=c;refine⟨fun x b=>?_,by omega,.inr ?_⟩
    ·rcases List.mem_cons.1 b with rfl|b
     ·exact c
     ·exact f x b
    ·rcases a with a|⟨x,b,a⟩
     ·exact⟨o,List.mem_cons_self ..,a⟩
     ·exact⟨x,List.mem_cons_of_mem _ b,a⟩
   ·rw[cf (df e)];refine⟨fun x _=>?_,by show(CG y o).1≤s.1;omega,.inr ⟨o,List.mem_cons_self ..,rfl⟩⟩;have:=(Oc d x).1;show(CG y o).1≤_;omega
  ·rw[if_neg i];show(∀x∈o::os,(cond (decide (0<s.1)) _ _:Int×List (List Int)).1≤_)∧_;rw[ct (dt g)];obtain⟨f,c,a⟩:=JZ y d os s (.inl g);refine⟨fun x b=>?_,c,?_⟩
   ·rcases List.mem_cons.1 b with rfl|b
    ·omega
    ·exact f x b
   ·rcases a with a|⟨x,b,a⟩
    ·exact .inl a
    ·exact .inr ⟨x,List.mem_cons_of_mem _ b,a⟩
theorem P6 {y:Ar} (a:EE y):(∀o,DA y o=true→(Ia y).1≤(CG y o).1)∧DA y (Ia y).2=true∧(Ia y).1=(CG y (Ia y).2).1:=by
 obtain⟨d,e,b⟩:=JZ y a (GS y) ((y.Ad.length:Int)+1,[]) (.inl (by show(0:Int)<_+1;omega));refine⟨fun o c=>d o ((Lq a).2 c),?_⟩;rcases b with b|⟨o,c,b⟩
 ·exfalso;obtain⟨o,c⟩:=List.exists_mem_of_ne_nil _ (P5 a);have:=d o c;rw[b] at this;have f:(y.Ad.length:Int)+1≤(CG y o).1:=this;have:=(Oc a o).2;omega
 ·unfold Ia;rw[b];exact⟨Ix a c,rfl⟩
end Go.Proofs.YtkljfdkmjdjpfaaGreat
end
section
namespace Go.Proofs.YtkljfdkmjdjpfaaGreat
def Hk(y:Ar)(yes:List Int):Nat:=(List.range y.Ad.length).countP fun i=>yes.getD i 0==0
theorem S5(y:Ar)(r:BQ×Int×Unit)(c:y.Ad.length≤4):∀(k m i:Nat) (a:Int),y.Ad.length=i+k→k<m→0≤a→a≤i→
  EA y r m a (i:Int)=some (a+((List.range' i k).countP (fun i=>r.1.l.getD i 0==0):Nat)):=by
 intro k
 induction k with
 |zero=>
  intro m i a h hm h0 b;cases m with
  |zero=>omega
  |succ m=>rw[EA.eq_2,cf (df (by omega))];simp
 |succ k ih=>
  intro m i a h hm h0 b;cases m with
  |zero=>omega
  |succ m=>
   rw[EA.eq_2,ct (dt (by omega)),bd (Nu r.1 i (by omega)),List.range'_succ,List.countP_cons];cases d:(r.1.l.getD i 0==0) with
   |true=>
    rw[ct rfl,By (by omega) (by omega),By (by omega) (by omega),CS,ih m (i+1) (a+1) (by omega) (by omega) (by omega) (by omega)]
    congr 1;simp;omega
   |false=>
    rw[cf rfl,By (by omega) (by omega),CS,ih m (i+1) a (by omega) (by omega) (by omega) (by omega)]
    congr 1
theorem RV(y:Ar)(r:BQ×Int×Unit)(c:y.Ad.length≤4):∀(k m i:Nat) (a:Int),y.Ad.length=i+k→k<m→0≤a→a≤i→
  Eo y r m a (i:Int)=some (a+((List.range' i k).countP (fun i=>r.1.l.getD i 0==0):Nat)):=by
 intro k
 induction k with
 |zero=>
  intro m i a h hm h0 b;cases m with
  |zero=>omega
  |succ m=>rw[Eo.eq_2,cf (df (by omega))];simp
 |succ k ih=>
  intro m i a h hm h0 b;cases m with
  |zero=>omega
  |succ m=>
   rw[Eo.eq_2,ct (dt (by omega)),bd (Nu r.1 i (by omega)),List.range'_succ,List.countP_cons];cases d:(r.1.l.getD i 0==0) with
   |true=>
    rw[ct rfl,By (by omega) (by omega),By (by omega) (by omega),CS,ih m (i+1) (a+1) (by omega) (by omega) (by omega) (by omega)]
    congr 1;simp;omega
   |false=>
    rw[cf rfl,By (by omega) (by omega),CS,ih m (i+1) a (by omega) (by omega) (by omega) (by omega)]
    congr 1
def Ib(y:Ar):List (List (List Int))→Int×List Int×List (List Int)→Int×List Int×List (List Int)
  |[],s=>s
  |o::os,s=>
    cond (decide (0≤s.1)&&(DB Dr y o==s.2.1)) (Ib y os s)
      (let s2:=if s.1<(Hk y (DB Dr y o):Int) then ((Hk y (DB Dr y o):Int),DB Dr y o,o) else (s.1,DB Dr y o,s.2.2)
       cond (decide (s2.1<(y.Ad.length:Int))) (Ib y os s2) s2)
def Mf(y:Ar):Int×List Int×List (List Int):=Ib y (GS y) (-1,[0,0,0,0],[])
theorem Od{K:Nat}(y:Ar)(e:EE y)(hK:2000≤K):∀(os:List (List (List Int))) (n:Int) (a:BQ) (q:List (List Int)),(∀o∈os,DA y o=true)→
    ∃(b:Bool) (a2:BQ),run (fun(st:Int×BQ×(List (List Int))) (x:(List (List Int)))=>(EY K x y st.1 st.2.1 st.2.2).bind fun r=>some (r.1,(r.2.1,r.2.2.1,r.2.2.2))) os (n,a,q)=some (b,(Ib y os (n,a.l,q)).1,a2,(Ib y os (n,a.l,q)).2.2)
  |[],n,a,q,_=>⟨true,a,rfl⟩
  |o::os,n,a,q,h=>by
    have s:=h o (List.mem_cons_self ..);have p:∀x∈os,DA y x=true:=fun x aC=>h x (List.mem_cons_of_mem _ aC);obtain⟨aD,aE,_⟩:=Jc e s;have t:=e.n4;obtain⟨b,aF,k⟩:=MG (K:=K) Dr y e o s hK;have u:CF K (fun(st:Unit) (x:Bd×Ah)=>(Ez K x.1 x.2).bind fun r=>some (r,())) y o ()=some (b,((Cf y).length:Int),()):=by
      rw[←aF];congr 1;funext st x;rw[bd (Pd ..)];rfl
    have h9:=S5 y (b,((Cf y).length:Int),()) t y.Ad.length K 0 0 (by omega) (by omega) (by omega) (by omega);have f:=RV y (b,((Cf y).length:Int),()) t y.Ad.length K 0 0 (by omega) (by omega) (by omega) (by omega);rw[Int.natCast_zero,Int.zero_add] at h9 f;have v:((List.range' 0 y.Ad.length).countP (fun i=>(b,((Cf y).length:Int),()).1.l.getD i 0==0))=Hk y (DB Dr y o):=by
      rw[←List.range_eq_range',←k];rfl
    rw[v] at h9 f;have c:∀(l:Int×BQ×List (List Int)) (z:Int×List Int×List (List Int)),(l.1,l.2.1.l,l.2.2)=z→
        ∃(d:Bool) (a2:BQ),cond (decide (l.1<(y.Ad.length:Int))) (run (fun(st:Int×BQ×(List (List Int))) (x:(List (List Int)))=>(EY K x y st.1 st.2.1 st.2.2).bind fun r=>some (r.1,(r.2.1,r.2.2.1,r.2.2.2))) os l) (some (false,l))=some (d,(cond (decide (z.1<(y.Ad.length:Int))) (Ib y os z) z).1,a2,(cond (decide (z.1<(y.Ad.length:Int))) (Ib y os z) z).2.2):=by
      rintro⟨g,w,aG⟩ z rfl;show∃(d:Bool) (a2:BQ),cond (decide (g<(y.Ad.length:Int))) _ _=some (d,(cond (decide (g<(y.Ad.length:Int))) _ _:Int×List Int×List (List Int)).1,a2,(cond (decide (g<(y.Ad.length:Int))) _ _:Int×List Int×List (List Int)).2.2);cases decide (g<(y.Ad.length:Int)) with
      |false=>exact⟨false,w,rfl⟩
      |true=>exact Od y e hK os g w aG p
    have main:∀z9:Int,z9=(Hk y (DB Dr y o):Int)→∃(d:Bool) (a2:BQ),
        (((cond (decide (n<z9)) ((Fw K o).bind fun aA=>some ((decide (z9<(y.Ad.length:Int)),z9,b,aA))) (some ((decide (n<(y.Ad.length:Int)),n,b,q))):Option (Bool×Int×BQ×List (List Int))).bind fun r=>some (r.1,(r.2.1,r.2.2.1,r.2.2.2))).bind fun r=>cond r.1 (run (fun(st:Int×BQ×(List (List Int))) (x:(List (List Int)))=>(EY K x y st.1 st.2.1 st.2.2).bind fun r=>some (r.1,(r.2.1,r.2.2.1,r.2.2.2))) os r.2) (some (false,r.2)))=
        some (d,(let s2:=if n<(Hk y (DB Dr y o):Int) then ((Hk y (DB Dr y o):Int),DB Dr y o,o) else (n,DB Dr y o,q)
       cond (decide (s2.1<(y.Ad.length:Int))) (Ib y os s2) s2).1,a2,(let s2:=if n<(Hk y (DB Dr y o):Int) then ((Hk y (DB Dr y o):Int),DB Dr y o,o) else (n,DB Dr y o,q)
       cond (decide (s2.1<(y.Ad.length:Int))) (Ib y os s2) s2).2.2):=by
      rintro z9 rfl
      by_cases j:n<(Hk y (DB Dr y o):Int)
      · rw[ct (dt j),bd (Oa o aD aE hK)];simp only[if_pos j];exact c ((Hk y (DB Dr y o):Int),b,o) ((Hk y (DB Dr y o):Int),DB Dr y o,o) (by show(_,b.l,o)=_;rw[k])
      · rw[cf (df j)];simp only[if_neg j];exact c (n,b,q) (n,DB Dr y o,q) (by show(_,b.l,q)=_;rw[k])
    rw[run,Ib];show∃(d:Bool) (a2:BQ),Option.bind ((EY K o y n a q).bind _) _=_;unfold EY;rw[bd u]
    by_cases m:0≤n
    · rw[ct (dt m),dt m,Bool.true_and];have aB:([b.a0,b.a1,b.a2,b.a3]==[a.a0,a.a1,a.a2,a.a3])=(DB Dr y o==a.l):=by rw[←k];rfl
      rw[aB];cases j:(DB Dr y o==a.l) with
      |true=>
        rw[ct rfl,ct rfl];exact Od y e hK os n a q p
      |false=>
        rw[cf rfl,cf rfl,bd h9];exact main _ rfl
    · rw[cf (df m),df m,Bool.false_and,cf rfl,bd f];exact main _ rfl
theorem Uw{K:Nat}(y:Ar)(hK:2000≤K):Ha K y=some (if check y≠0 then ([],0,check y) else ((Mf y).2.2,(Mf y).1,0)):=by
 unfold Ha;rw[bd (IB hK y)]
 by_cases h:check y=0
 ·rw[h,cf (by decide),if_neg (by simp)];have a:=G4 h;rw[N9 _ y a hK];obtain⟨b,a2,e⟩:=Od (K:=K) y a hK (GS y) (-1) ⟨0,0,0,0⟩ [] fun o c=>Ix a c;exact Eq.trans (congrArg (fun z=>Option.bind (Option.bind z _) _) e) rfl
 ·rw[ct (by simpa using h),if_pos h]
end Go.Proofs.YtkljfdkmjdjpfaaGreat
end
section
namespace Go.Proofs.YtkljfdkmjdjpfaaGreat
def Hq(n i k:Nat):List Int:=((List.range' k (n-k)).filter fun j=>j !=i).map fun j:Nat=>(j:Int)
def GU (y:Ar) (i:Nat):List (List Int):=((i:Int)::Hq y.Ad.length i 0)::List.replicate (y.Aj.toNat-1) []
theorem Ux{α:Type}(x:α)(r:List α):idx (x::r) (0:Int)=some x:=idx_eq (xs:=x::r) (k:=0) (by simp)
theorem VG(n i:Nat)(f:n≤4):∀(d m k:Nat) (x:List Int) (r:List (List Int)),n=k+d→d<m→x.length≤1+k→
  Jl (n:Int) (i:Int) m (k:Int) (x::r)=some ((x++Hq n i k)::r):=by
 intro d
 induction d with
 |zero=>
  intro m k x r h hm e;cases m with
  |zero=>omega
  |succ m=>
   rw[Jl,cf (df (by omega))];unfold Hq;rw[show n-k=0 by omega];simp
 |succ d ih=>
  intro m k x r h hm e;cases m with
  |zero=>omega
  |succ m=>
   have b:idx (x::r) (0:Int)=some x:=Ux x r;have c:Hq n i k=cond (k !=i) ((k:Int)::Hq n i (k+1)) (Hq n i (k+1)):=by
    unfold Hq;rw[show n-k=(n-(k+1))+1 by omega,List.range'_succ,List.filter_cons];cases g:(k !=i) with
    |true=>rfl
    |false=>rfl
   rw[Jl,ct (dt (by omega))]
   by_cases a:k=i
   ·have:((k:Int) !=(i:Int))=false:=by rw[a];exact bne_self_eq_false ..
    rw[this,cf rfl,By (by omega) (by omega),CS,ih m (k+1) x r (by omega) (by omega) (by omega),c,show(k !=i)=false by rw[a];exact bne_self_eq_false ..];rfl
   ·have:((k:Int) !=(i:Int))=true:=by rw[bne_iff_ne];omega
    rw[this,ct rfl,bd b,FV (by simp;omega),bd b,By (by omega) (by omega),CS];show Jl _ _ m _ ((x++[(k:Int)])::r)=_;rw[ih m (k+1) (x++[(k:Int)]) r (by omega) (by omega) (by simp;omega),c,show(k !=i)=true by rw[bne_iff_ne];exact a];simp
theorem QT{y:Ar}(b:EE y){i:Nat}(hi:i<y.Ad.length):DA y (GU y i)=true:=by
 have c:=b.r1;rw[Fe];refine⟨by unfold GU;simp;omega,?_⟩;have e:(GU y i).flatten=(i:Int)::Hq y.Ad.length i 0:=by
  unfold GU;rw[List.flatten_cons];have:(List.replicate (y.Aj.toNat-1) ([]:List Int)).flatten=[]:=by
   simp
  rw[this,List.append_nil]
 rw[e];unfold Hq iota;rw[←List.range_eq_range',Nat.sub_zero];have:((i:Int)::((List.range y.Ad.length).filter fun j=>j !=i).map fun j:Nat=>(j:Int))=(i::((List.range y.Ad.length).filter fun j=>j !=i)).map fun j:Nat=>(j:Int):=rfl;rw[this];refine List.Perm.map _ ?_;have hm:i∈List.range y.Ad.length:=List.mem_range.2 hi;have a:=List.perm_cons_erase hm;rw[List.Nodup.erase_eq_filter List.nodup_range] at a;exact a.symm
def GB(y:Ar)(k d:Nat):List Int:=((List.range' k d).filter fun i=> !(Cf y).all (Iq y (GU y i) i)).map fun i:Nat=>(i:Int)
theorem P7{K:Nat}(y:Ar)(c:EE y)(hK:2000≤K):∀(d m i:Nat) (a:List Int),y.Ad.length=i+d→d<m→a.length≤i→
  Eb K y m a (i:Int)=some (a++GB y i d):=by
 have g:=c.n4;have s:=c.r1;have t:=c.r2;intro d
 induction d with
 |zero=>
  intro m i a h hm j;cases m with
  |zero=>omega
  |succ m=>rw[Eb.eq_2,cf (df (by omega))];simp[GB]
 |succ d ih=>
  intro m i a h hm j;cases m with
  |zero=>omega
  |succ m=>
   have hi:i<y.Ad.length:=by omega
   have k:=QT c hi;obtain⟨b,n,o⟩:=MG (K:=K) ES y c (GU y i) k hK;have e:CF K (fun(st:Unit) (x:Bd×Ah)=>(Dl K x.1 x.2).bind fun r=>some (r,())) y (GU y i) ()=some (b,((Cf y).length:Int),()):=by
    rw[←n];congr 1;funext st x;rw[bd (MC ..)]
   have er:List.replicate y.Aj.toNat ([]:List Int)=[]::List.replicate (y.Aj.toNat-1) []:=by
    rw[←List.replicate_succ];congr 1;omega
   have f:=VG y.Ad.length i g y.Ad.length K 0 [(i:Int)] (List.replicate (y.Aj.toNat-1) []) (by omega) (by omega) (by simp);rw[Eb.eq_2,ct (dt (by omega)),NZ (by omega) (by omega) (by omega),er];rw[bd (show idx (([]:List Int)::List.replicate (y.Aj.toNat-1) []) (0:Int)=some [] from Ux _ _)];rw[Int.natCast_zero] at f;show(Jl _ _ K (0:Int) ([(i:Int)]::List.replicate (y.Aj.toNat-1) [])).bind _=_;rw[bd f];show(CF K _ y (GU y i) ()).bind _=_;rw[bd e,bd (Nu b i (by omega))];have p:((b.l.getD i 0)==((Cf y).length:Int))=(Cf y).all (Iq y (GU y i) i):=by
    rw[o,Ma ES y c (GU y i) i hi,KM];rfl
   show cond ((b.l.getD i 0)==((Cf y).length:Int)) _ _=_;rw[p];have q:GB y i (d+1)=cond ((Cf y).all (Iq y (GU y i) i)) (GB y (i+1) d) ((i:Int)::GB y (i+1) d):=by
    unfold GB;rw[List.range'_succ,List.filter_cons];cases (Cf y).all (Iq y (GU y i) i)<;>rfl
   rw[q];cases (Cf y).all (Iq y (GU y i) i) with
   |true=>
    rw[ct rfl,By (by omega) (by omega),CS,ih m (i+1) a (by omega) (by omega) (by omega)];rfl
   |false=>
    rw[cf rfl,FV (by simp;omega),By (by omega) (by omega),CS,ih m (i+1) (a++[(i:Int)]) (by omega) (by omega) (by simp;omega)];simp
theorem P8{K:Nat}(y:Ar)(hK:2000≤K):F2 K y=some (if check y≠0 then ([],check y) else (GB y 0 y.Ad.length,0)):=by
 unfold F2;rw[bd (IB hK y)]
 by_cases h:check y=0
 ·rw[h,if_neg (by simp)];have e:=P7 (K:=K) y (G4 h) hK y.Ad.length K 0 [] (by omega) (by have:=(G4 h).n4;omega) (by simp);rw[Int.natCast_zero] at e;show cond false _ _=_;rw[cf rfl,bd e,List.nil_append]
 ·rw[ct (by simpa using h),if_pos h]
end Go.Proofs.YtkljfdkmjdjpfaaGreat
end
