import Derived.Test.YtkljfdkmjdjpfaaBD1
import Derived.WalkKit
import Derived.KernelRfl
import Derived.WalkSpells
import Derived.WalkLawsBesides
import Derived.Maps.AppendAt
import Derived.OrdersIn
import Derived.RangeFuncIn
import Derived.RangeFuncLeaves
import Derived.RangeFuncRecord
import Derived.RangeFuncSeq
import Derived.Scope
import Derived.DeepKeys3
import Derived.Laws.CopyRow
import Derived.Laws.OwnMore
import Derived.Laws.MakeOwn
import Derived.Laws.IdiomCopy
import Derived.Test.YtkljfdkmjdjpfaaProg
/-
  The contracts of the functions of the program and of the reference, and the logic that they are proved in: the base that several claims of this seat share.
-/
set_option linter.all false
section
namespace Go.Proofs.Ytkljfdkmjdjpfaa
open Go.RowKit Go.WideShapes
theorem Ri{f:Operand→Value}{i0 i1 i2 i3 i4:Nat}{a x1 x2 b c:Operand}{v0 v1 v2 v3 v4:Value}(h0:f a=v0)(d:f x1=v1)(e:f x2=v2)(g:f b=v3)(h:f c=v4): #[(i0,a),(i1,x1),(i2,x2),(i3,b),(i4,c)].map (fun(i,x)=>(i,f x))= #[(i0,v0),(i1,v1),(i2,v2),(i3,v3),(i4,v4)]:=by simp[h0,d,e,g,h]
section
variable{F F' F0:Nat→Prop}{B:List (Option Nat)}{w0 w w' w1 w2:World}{Z Z':Nat→Prop}{L L' M C:List (Option Nat)}{D:Nat→Prop}
theorem BF(a:List Nat)(h:Fj L a M):∀x∈M,x∈L:=h.sub
theorem AA(a:List Nat)(h:Fj L a M)(b:∀k,F' k→F k):∀k,FU F' M k→F k∨some k∈L:=PB h.sub b
theorem Cw(h:∀k,F0 k→F k):∀k,FU F0 C k→F k∨some k∈C:=fun k a=>a.imp (h k) id
theorem Fc{k:Nat}{o:Obj}{r:Option Nat}(h:w.heap[k]?=some o)(g:w.grownBy w' r)(a:some k≠r):w'.heap[k]?=some o:=(g.block k (Array.getElem?_eq_some_iff.1 h).1 a).trans h
theorem Ec{k:Nat}{o:Obj}(h:w.heap[k]?=some o)(g:A5 D w w')(a:¬D k):w'.heap[k]?=some o:=(g.block k (Array.getElem?_eq_some_iff.1 h).1 a).trans h
theorem B7.Bu{α:Type}{ev:α→Value}{r n:Nat}{a:List (List Int×α)}(h:B7 ev w r n a)(g:A5 D w w')(b:¬D r):B7 ev w' r n a:=h.of (g.block r h.lt b)
theorem B7.E3{α:Type}{ev:α→Value}{r n:Nat}{a:List (List Int×α)}(h:B7 ev w r n a)(e:w'.heap[r]?=w.heap[r]?):B7 ev w' r n a:=h.of e
theorem Bk.E3{b:Nat}{t:TypeId}{cs:Array Value}(h:Bk w b t cs)(e:w'.heap[b]?=w.heap[b]?):Bk w' b t cs:=e.trans h
theorem Hp.zz(h:Hp F B w0 L w)(a c:List Nat)(d:Fj L a M)(e:Fj L c C)(f:∀k,F' k→F k∨some k∈C):∀b,ZZ F B Z w0.heap.size L b→¬F' b∧some b∉M:=h.zc d.sub fun k g=>(f k g).imp id (e.sub _)
theorem Hp.mz(h:Hp F B w0 L w)(a b:List Nat)(c:Fj L a M)(d:Fj L b C)(e:∀k,F' k→F k∨some k∈C):Mv w (ZZ F B Z w0.heap.size L) w (ZC F' M):=OD (h.zz a b c d e)
theorem Md{i:Nat}{a b:List Nat}(h:((a++b).all fun j=> !Nat.beq i j)=true):(a.all fun j=> !Nat.beq i j)=true∧(b.all fun j=> !Nat.beq i j)=true:=by
 rw[List.all_append,Bool.and_eq_true] at h;exact h
theorem Hp.bz(h:Hp F B w0 L w)(i:Nat){b:Nat}(hi:L[i]?=some (some b))(a c:List Nat)(e:Fj L a M)(f:Fj L c C)(g:∀k,F' k→F k∨some k∈C)(d:((a++c).all fun j=> !Nat.beq i j)=true):ZC F' M b:=by
 have l:=h.Bq (F':=F) i hi a (Md d).1 e (fun _ h=>h);have m:=h.Bq (F':=F) i hi c (Md d).2 f (fun _ h=>h);exact⟨fun n=>m ((g b n).imp id id),fun hm=>l (.inr hm)⟩
theorem Hp.rz{α:Type}{e:DC α}{t:TypeId}{n0:Nat}{A:Option Addr}{c:Nat}{xs:List α}(h:Hp F B w0 L w)(i:Nat)(hi:L[i]?=some (ob A))(a b:List Nat)(d:Fj L a M)(f:Fj L b C)(g:∀k,F' k→F k∨some k∈C)(l:((a++b).all fun j=> !Nat.beq i j)=true)
  (m:AK e t n0 w (ZZ F B Z w0.heap.size L) A c xs):Sl e w (ZC F' M) A c xs:=
 (m.up (h.mz a b d f g)).sl fun k n _=>h.bz i (by rw[hi,n]) a b d f g l
theorem Bz{Z:Nat→Prop}(w:World):Mv w Z w (ZZ FN [] Z w.heap.size L):=AX (fun _ _=>⟨id,by simp⟩) w
theorem HQ(h:Mv w Z w' Z):Mv w Z w' (ZZ FN [] Z w.heap.size M):=⟨h.size,fun b a c=>⟨.inl ⟨c,a,id,by simp⟩,(h.stay b a c).2⟩⟩
theorem Jb{n:Nat}:Mv w (ZZ FN [] Z n M) w (ZZ FN [] Z n [none]):=FL fun b a _=>a.imp id fun⟨c,_⟩=>⟨c,by simp⟩
theorem JE{n:Nat}{o:Option Nat}(h:o∈M:=by simp):Mv w (ZZ FN [] Z n M) w (ZZ FN [] Z n [o]):=FL fun b a _=>a.imp id fun⟨c,d⟩=>⟨c,fun hm=>by
 rw[List.mem_singleton] at hm;exact d (by rw[hm];exact h)⟩
theorem IH(g:A5 D w w')(h:∀b,Z b→¬D b):Mv w Z w' Z:=⟨g.size,fun b a c=>⟨a,g.block b c (h b a)⟩⟩
theorem If{b:Nat}{o:Option Nat}(h:¬FU FN C b∧some b≠o):¬FU FN C b:=h.1
theorem Nj{b:Nat}{o:Option Nat}(h:¬FU F C b∧some b≠o):¬FU F (C++[o]) b:=by
 rintro(a|a)
 ·exact h.1 (.inl a)
 ·rcases List.mem_append.1 a with c|c
  ·exact h.1 (.inr c)
  ·exact h.2 (by simpa using c)
theorem DY{b:Nat}{o:Option Nat}(h:¬FU F C b)(k:some b≠o):¬F b∧some b∉C++[o]:=
 ⟨fun a=>h (.inl a),fun a=>by
  rcases List.mem_append.1 a with c|c
  ·exact h (.inr c)
  ·exact k (by simpa using c)⟩
theorem A5.lf{o:Option Nat}(g:A5 (FU F (C++[o])) w w'):A5 (FU (FU F C) [o]) w w':=g.mono fun k h=>by
 rcases h with h|h
 ·exact .inl (.inl h)
 ·rcases List.mem_append.1 h with a|a
  ·exact .inl (.inr a)
  ·exact .inr a
theorem A5.Nk{o:Option Nat}(g:A5 (FU F C) w w'):A5 (FU (FU F C) [o]) w w':=g.mono fun _ h=>.inl h
theorem A5.cl{M1 M2:List (Option Nat)}(g:A5 (FU (FU F M1) M2) w w'):A5 (FU F (M1++M2)) w w':=g.fl
theorem Hp.Hv(h:Hp F B w0 L w)(b:List Nat)(c:Fj L b C)(d:∀k,F0 k→F k):∀k,FU F0 C k→k<w.heap.size:=fun k a=>by
 rcases a with a|a
 ·exact Nat.lt_of_lt_of_le (h.ff k (d k a)) h.sz
 ·exact(h.lo k (c.sub _ a)).1
theorem Hp.OE(h:Hp F B w0 L w)(i:Nat){k:Nat}(hi:L[i]?=some (some k))(a:List Nat)(b:(a.all fun j=> !Nat.beq i j)=true)(c:Fj L a C):k<w.heap.size∧¬FU F C k:=
 ⟨(h.lo k (List.mem_of_getElem? hi)).1,h.Bq (F':=F) i hi a b c fun _ h=>h⟩
theorem Hp.CG{x d:Option Nat}(h:Hp F B w0 L w)(i:Nat)(hi:L[i]?=some x)(a:List Nat)(g:(a.all fun j=> !Nat.beq i j)=true)(l:Fj L a M)(m:∀y∈B,y=d∨y∈M):∀k,x=some k→(d=some k∨w0.heap.size≤k)∧k<w.heap.size:=fun k e=>by
 have f:=h.lo k (List.mem_of_getElem? (by rw[hi,e]));refine⟨?_,f.1⟩;rcases Nat.lt_or_ge k w0.heap.size with b|b
 ·left;rcases m _ (f.2.2 b) with c|c
  ·exact c.symm
  ·exact absurd (.inr c) (h.Bq (F':=F) i (by rw[hi,e]) a g l fun _ h=>h)
 ·exact .inr b
theorem BQ.snoc{o:Option Nat}(h:BQ F C w)(l:∀k,o=some k→k<w.heap.size∧¬FU F C k):BQ F (C++[o]) w:=by
 refine⟨fun k q=>?_,fun i j x m hi f=>?_,h.ff⟩
 ·rcases List.mem_append.1 q with d|d
  ·exact h.lt k d
  ·have c:=l k (by rw[List.mem_singleton] at d;exact d.symm);exact⟨c.1,fun r=>c.2 (.inl r)⟩
 ·have key:∀(a b:Nat),a<C.length→¬b<C.length→(C++[o])[a]?=some (some x)→(C++[o])[b]?=some (some x)→False:=fun a b s t d c=>by
   rw[List.getElem?_append_left s] at d;rw[List.getElem?_append_right (by omega)] at c;have n:b-C.length=0:=by
    rcases Nat.eq_zero_or_pos (b-C.length) with h|h
    ·exact h
    ·rw[List.getElem?_eq_none (by simp;omega)] at c;cases c
   rw[n] at c;have p:o=some x:=by simpa using c
   exact(l x p).2 (.inr (List.mem_of_getElem? d))
  by_cases g:i<C.length
  ·by_cases e:j<C.length
   ·rw[List.getElem?_append_left g] at hi;rw[List.getElem?_append_left e] at f;exact h.ap i j x m hi f
   ·exact key i j g e hi f
  ·by_cases e:j<C.length
   ·exact key j i e g f hi
   ·have u:(C++[o]).length=C.length+1:=by simp
    have d:=(List.getElem?_eq_some_iff.1 hi).1;have c:=(List.getElem?_eq_some_iff.1 f).1;omega
theorem BQ.keep{o o':Option Nat}(h:BQ F C w)(g:w.heap.size≤w1.heap.size)(c:∀k,o=some k→k<w1.heap.size∧¬FU F C k)(d:∀k,o'=some k→(o=some k∨w1.heap.size≤k)∧k<w2.heap.size):∀k,o'=some k→k<w2.heap.size∧¬FU F C k:=fun k e=>by
 obtain⟨a,f⟩:=d k e;refine⟨f,?_⟩;rcases a with a|a
 ·exact(c k a).2
 ·rintro(b|b)
  ·have:=h.ff k b;omega
  ·have:=(h.lt k b).1;omega
def Rj(L:List (Option Nat))(n:Nat):List (Option Nat)→Prop
 |[]=>True
 |x::M=>((∃j:Nat,L[j]?=some x)∨∀k,x=some k→some k∈L∨n≤k)∧Rj L n M
theorem Ce{n:Nat}:∀{M:List (Option Nat)},Rj L n M→∀k,some k∈M→some k∈L∨n≤k
 |[],_,_,h=>by cases h
 |x::M,h,k,a=>by
  rcases List.mem_cons.1 a with e|a
  ·rcases h.1 with⟨j,b⟩|c
   ·left;rw[e];exact List.mem_of_getElem? b
   ·exact c k e.symm
  ·exact Ce h.2 k a
theorem Dg{y:Option Nat}(i:Nat)(h:y∈M):∀x∈L.set i y,x∈L∨x∈M:=fun x a=>by
 rcases List.mem_or_eq_of_mem_set a with b|e
 ·exact .inl b
 ·exact .inr (by rw[e];exact h)
theorem Hn{o:Option Nat}:∀b,ZC F [o] b→¬F b∧some b≠o:=fun _ h=>⟨h.1,fun e=>h.2 (by rw[e];exact List.mem_singleton_self _)⟩
end
theorem Me{F:Nat→Prop}{B L:List (Option Nat)}{n:Nat}{Z Z':Nat→Prop}(h:∀b,Z b→Z' b):∀b,ZZ F B Z n L b→ZZ F B Z' n L b:=fun b a=>a.imp (fun⟨c,d,e⟩=>⟨c,h b d,e⟩) id
def Hw{α:Type}(e:DC α)(w:World)(Z:Nat→Prop)(A:Option Addr)(c:Nat)(xs:List α):Prop:=
 xs.length≤c∧(A=none→c=0)∧∃AV,R2 e w Z AV xs∧Rz w ZA A AV.flatten
section
variable{α:Type}{e:DC α}{t:TypeId}{n0:Nat}{w w':World}{Z Z':Nat→Prop}{A:Option Addr}{c:Nat}{xs:List α}
theorem Hw.ext(h:Hw e w Z A c xs)(g:Ext w w')(hm:Mv w Z w' Z'):Hw e w' Z' A c xs:=⟨h.1,h.2.1,h.2.2.imp fun _ h=>⟨h.1.mv hm,h.2.mv (Ah g)⟩⟩
theorem AK.n(h:AK e t n0 w Z A c xs):Hw e w Z A c xs:=by
 have a:=h.all;obtain⟨AV,b,d⟩:=h;refine⟨a.1,a.2.1,AV,b,?_⟩;have f:=d.rd;exact Le f fun _ _ _=>trivial
theorem Sl.n(h:Sl e w Z A c xs):Hw e w Z A c xs:=⟨h.1,h.2.1,h.2.2.imp fun _ h=>⟨h.1,h.2.mv IE⟩⟩
theorem Sl.G4(a:∀w Z w' Z' cs x,e.R w Z cs x→e.R w' Z' cs x)(h:Sl e w Z A c xs):Hw e w Z' A c xs:=⟨h.1,h.2.1,h.2.2.imp fun _ h=>⟨h.1.free a,h.2.mv IE⟩⟩
theorem AK.G4(a:∀w Z w' Z' cs x,e.R w Z cs x→e.R w' Z' cs x)(h:AK e t n0 w Z A c xs):Hw e w Z' A c xs:=h.all.G4 a
end
section
variable{P:Program}{a:Act}{w:World}{dst:Option Tmp}{ty:TypeId}{pos:String}{BV:Array Edge}{g:Option (Nat×Bool)}
theorem II{α:Type}{e:DC α}{s x:Operand}{t l:TypeId}{z:Value}{sz bytes:Nat}(aA:P.underlying t=some (.slice l))(hi:(P.info? l).map (fun i=>(i.zero,i.size,i.bytes))=some (some z,sz,bytes))(m:z.cells.size=sz)(o:e.sz=sz)(h0:0<sz)
  {n0:Nat}{Z:Nat→Prop}{A B:Option Addr}{c d n:Nat}{xs ys:List α}(aB:a.eval s=.slice A n c)(aC:xs.length=n)(aD:a.eval x=.slice B ys.length d)(h:AK e l n0 w Z A c xs)(u:Hw e w Z B d ys)
  (p:xs.length+ys.length≤maxLen)(b:(xs.length+ys.length)*bytes≤140737488355328)(f:n0≤w.heap.size):
  BD P ⟨dst,.call {callee:=.builtin .append,args:= #[s,x],argTypes:= #[t,t]},ty,pos,BV,g⟩ a w (fun v w'=>∃y aE,v=.slice y (xs++ys).length aE∧w.grownBy w' (ob A)∧(∀k,ob y=some k→(ob A=some k∨w.heap.size≤k)∧k<w'.heap.size)∧
   ∃AV q,R2 e w Z AV xs∧R2 e w Z q ys∧Dm w' n0 l e.sz y (xs++ys).length aE (AV++q).flatten):=by
 by_cases r:ys=[]
 ·refine PE aA hi m o h0 aB aC aD h ?_ p b f;subst r;exact⟨u.1,u.2.1,[],trivial,.inl rfl⟩
 ·obtain⟨_,_,AV,aF,aG⟩:=u;exact Lf aA hi m o h0 aB aC aD h ⟨AV,aF,aG⟩ p b f r
end
section
variable{α:Type}{e:DC α}{t:TypeId}{n0:Nat}{w w':World}{Z Z':Nat→Prop}{A:Option Addr}{c:Nat}{xs:List α}
theorem AK.ML(a:∀w Z w' Z' cs x,e.R w Z cs x→e.R w' Z' cs x)(h:AK e t n0 w Z A c xs):AK e t n0 w Z' A c xs:=by
 obtain⟨AV,b,d⟩:=h;exact⟨AV,b.free a,d⟩
theorem AK.MM(h:AK e t n0 w Z A c xs):A=none→c=0:=h.all.2.1
theorem AK.keep(h:AK e t n0 w Z A c xs)(hm:Mv w Z w' Z')(d:∀k,ob A=some k→w'.heap[k]?=w.heap[k]?):AK e t n0 w' Z' A c xs:=by
 obtain⟨AV,f,a⟩:=h;refine⟨AV,f.mv hm,a.1,a.2.imp id ?_⟩;rintro⟨b,cap,cur,g,i,l,m⟩;cases g;exact⟨b,_,cur,rfl,i,(d b rfl).trans l,m⟩
end
def IJ(n:Int)(b:Nat):Option Unit:=if 0≤n∧n*b≤140737488355328∧n≤140737488355328 then some () else none
theorem Gc{α:Type}{n:Int}{b:Nat}{f:Unit→Option α}{r:α}(h:(IJ n b).bind f=some r):(0≤n∧n*b≤140737488355328∧n≤140737488355328)∧f ()=some r:=by
 unfold IJ at h;split at h
 ·exact⟨by assumption,h⟩
 ·cases h
theorem IK(z:Array Value):∀m:Nat,(madeCells z (m*z.size)).toList=(List.replicate m z.toList).flatten
 |0=>by simp[madeCells]
 |m+1=>by
  have ih:=IK z m;have e:∀k,(madeCells z k).toList=(List.range k).map (z[· %z.size]!):=fun k=>by simp[madeCells]
  rw[e] at ih⊢;rw[Nat.add_mul,Nat.one_mul,List.range_add,List.map_append,ih,List.replicate_succ',List.flatten_append]
  congr 1
  simp only[List.map_map,List.flatten_cons,List.flatten_nil,List.append_nil];refine List.ext_getElem (by simp) fun i b a=>?_;simp only[List.getElem_map,List.getElem_range,Function.comp];have hi:i<z.size:=by simpa using a
  rw[Nat.add_comm,Nat.add_mul_mod_self_right,Nat.mod_eq_of_lt hi];simp[hi]
theorem R2.Rk{α:Type}{e:DC α}{w:World}{Z:Nat→Prop}{c:List Value}{x:α}(h:e.R w Z c x):∀m:Nat,R2 e w Z (List.replicate m c) (List.replicate m x)
 |0=>trivial
 |m+1=>⟨h,R2.Rk h m⟩
section
variable{P:Program}{a:Act}{w:World}{dst:Option Tmp}{ty:TypeId}{pos:String}{BV:Array Edge}{g:Option (Nat×Bool)}
theorem GD{α:Type}{e:DC α}{z:α}{zc:List Value}{n0:Nat}{t k:TypeId}{d:Value}{sz bytes:Nat}{n:Int}{x y:Operand}{o p:IntKind}{b':Nat}(aC:P.underlying t=some (.slice k))(hi:(P.info? k).map (fun i=>(i.zero,i.size,i.bytes))=some (some d,sz,bytes))
  (q:d.cells.toList=zc)(c:e.sz=sz)(aD:a.eval x=.int o n)(aE:a.eval y=.int p n)(hm:0≤n∧n*b'≤140737488355328∧n≤140737488355328)(r:∀w Z,e.R w Z zc z)(aF:n0≤w.heap.size)(aK:bytes≤b'):
  BD P ⟨dst,.makeSlice t x y,ty,pos,BV,g⟩ a w (fun u w'=>∃b,u=.slice (some ⟨b,0,none⟩) (List.replicate n.toNat z).length n.toNat∧w.heap.size≤b∧b<w'.heap.size∧Ext w w'∧∀Z,AK e k n0 w' Z (some ⟨b,0,none⟩) n.toNat (List.replicate n.toNat z)):=by
 subst q;subst c;cases f:P.info? k with
 |none=>simp[f] at hi
 |some i=>
  rw[f] at hi;simp only[Option.map_some,Option.some.injEq,Prod.mk.injEq] at hi;obtain⟨aG,s,aH⟩:=hi;obtain⟨v,aL,aM⟩:=hm;have aA:d.cells.toList.length=e.sz:=e.len (r w ZA);have c:d.cells.size=e.sz:=by simpa using aA
  have aB:(i.bytes:Int)*n≤281474976710656:=by
   rw[aH];have aI:(bytes:Int)*n≤(b':Int)*n:=Int.mul_le_mul_of_nonneg_right (by omega) v;rw[Int.mul_comm (b':Int)] at aI;omega
  have aJ:=run_make (P:=P) w t k i d aC f aG o p n n v (Int.le_refl _) aB (by omega);refine(HX (S:=Instr.makeSlice t (a.eval x) (a.eval y)) rfl (by rw[aD,aE];exact aJ)).mono fun u w' h=>?_;obtain⟨rfl,rfl⟩:=h;have m:=G1 w k (madeCells d.cells (n.toNat*i.size));refine⟨w.heap.size,by rw[List.length_replicate],Nat.le_refl _,by rw[m.sz];exact Nat.lt_succ_self _,m.gr,fun Z=>⟨_,R2.Rk (r _ Z) n.toNat,?_⟩⟩;rw[List.length_replicate];have l:(List.replicate n.toNat d.cells.toList).flatten.length=n.toNat*e.sz:=by rw[←IK,←c];simp[size_madeCells]
  refine⟨l,.inr ⟨w.heap.size,n.toNat,_,rfl,aF,m.bk,Nat.le_refl _,by simp only[maxLen];omega,by rw[size_madeCells,s],?_⟩⟩;rw[s,←c,IK,List.take_of_length_le (by rw[l,c];exact Nat.le_refl _)]
end
def IL:Int⊕Bool→Value
 |.inl n=>.int .i64 n
 |.inr b=>.bool b
def JR(l:List (Int⊕Bool)):Value:=.agg (l.map IL).toArray
def Js:Int⊕Bool→Bool
 |.inl _=>true
 |.inr _=>false
def Gn:List (Int⊕Bool)→List (Int⊕Bool)→Bool
 |[],[]=>true
 |.inl a::l,.inl b::m=>a==b&&Gn l m
 |.inr a::l,.inr b::m=>a==b&&Gn l m
 |_,_=>false
def Of(P:Program)(t:TypeId)(a:List Bool):Prop:=∀(w:World) (x y:List (Int⊕Bool)),x.map Js=a→y.map Js=a→(Op.equal t (JR x) (JR y)).run P w=.ok (Gn x y) w
def J6(a b:TypeId):Nat→List Field→List Bool→Bool
 |_,[],[]=>true
 |i,f::c,k::d=>f.name !="_"&&Nat.beq f.type (cond k a b)&&Nat.beq f.offset i&&J6 a b (i+1) c d
 |_,_,_=>false
section
variable{P:Program}{w:World}
theorem Ig{e:TypeId}(he:One P e){cs:Array Value}{i:Nat}{v:Value}(h:cs[i]?=some v):(part e cs i).run P w=.ok v w:=by
 simp only[part,Sem.run_bind,HE he,Result.andThen_ok,h];rfl
theorem KC{l o:TypeId}(v:One P l)(u1:P.underlying l=some (.int .i64))(z:One P o)(aA:P.underlying o=some .bool)(d:Nat):∀(p:List Field) (c:List Bool) (x y b e:List (Int⊕Bool)),b.length=e.length→J6 l o b.length p c=true→x.map Js=c→y.map Js=c→
  (Op.eqFields (d+1) ((b++x).map IL).toArray ((e++y).map IL).toArray p).run P w=.ok (Gn x y) w
 |[],[],[],[],_,_,_,_,_,_=>by simp[Op.eqFields,Gn]
 |[],_::_,_,_,_,_,_,h,_,_=>by simp[J6] at h
 |_::_,[],_,_,_,_,_,h,_,_=>by simp[J6] at h
 |[],[],_::_,_,_,_,_,_,h,_=>by simp at h
 |[],[],_,_::_,_,_,_,_,_,h=>by simp at h
 |_::_,_::_,[],_,_,_,_,_,h,_=>by simp at h
 |_::_,_::_,_,[],_,_,_,_,_,h=>by simp at h
 |f::p,k::c,g::x,y0::y,b,e,aB,aC,r,s=>by
  simp only[J6,Bool.and_eq_true] at aC;obtain⟨⟨⟨t,a⟩,u⟩,aF⟩:=aC;have t:f.name≠"_":=by simpa using t
  have a:=Nat.eq_of_beq_eq_true a;have u:=Nat.eq_of_beq_eq_true u;simp only[List.map_cons,List.cons.injEq] at r s;have ih:=KC v u1 z aA d p c x y (b++[g]) (e++[y0]) (by simp[aB]) (by simpa using aF) r.2 s.2;rw[List.append_assoc,List.append_assoc] at ih;simp only[List.singleton_append] at ih;have aD:((b++g::x).map IL).toArray[f.offset]?=some (IL g):=by rw[u];simp
  have aE:((e++y0::y).map IL).toArray[f.offset]?=some (IL y0):=by rw[u,aB];simp
  cases k with
  |true=>
   cases g with
   |inr _=>simp[Js] at r
   |inl m=>
    cases y0 with
    |inr _=>simp[Js] at s
    |inl n=>
     have a:f.type=l:=a;have i:One P f.type:=by rw[a];exact v
     have q:=run_equalIn_int (P:=P) w d f.type .i64 .i64 m n (by rw[a];exact u1);simp only[Op.eqFields,t,ne_eq,not_false_eq_true,if_true,Sem.run_bind,Ig i aD,Ig i aE,IL,q,Result.andThen_ok,Gn];cases aG:(m==n)
     ·simp
     ·simpa using ih
  |false=>
   cases g with
   |inl _=>simp[Js] at r
   |inr m=>
    cases y0 with
    |inl _=>simp[Js] at s
    |inr n=>
     have a:f.type=o:=a;have i:One P f.type:=by rw[a];exact z
     have q:=run_equalIn_bool (P:=P) w d f.type m n (by rw[a];exact aA);simp only[Op.eqFields,t,ne_eq,not_false_eq_true,if_true,Sem.run_bind,Ig i aD,Ig i aE,IL,q,Result.andThen_ok,Gn];cases aG:(m==n)
     ·simp
     ·simpa using ih
theorem L4{K c d:Nat}{a:Array Field}{e:List Bool}(hK:P.underlying K=some (.struct a))(f:P.stoodInHeld K=false)(g:J6 c d 0 a.toList e=true)(i:One P c)(u1:P.underlying c=some (.int .i64))(l:One P d)(m:P.underlying d=some .bool):Of P K e:=by
 intro w x y n o;have b:P.fieldsOf K=a:=by simp[Program.fieldsOf,hK]
 have h:=run_equalIn_struct (P:=P) w 9999 K (x.map IL).toArray (y.map IL).toArray (by rw[b];exact hK) f;have k:=KC (P:=P) (w:=w) i u1 l m 9998 a.toList e x y [] [] rfl g n o;simp only[List.nil_append] at k;rw[b,k] at h;exact h
end
section
variable{P:Program}{a:Act}{w:World}{dst:Option Tmp}{ty:TypeId}{pos:String}{BV:Array Edge}{g:Option (Nat×Bool)}
theorem MN{x y:Operand}{v1 v2:Value}{x1 x2:List (Int⊕Bool)}{b:List Bool}{t d:TypeId}(e:Of P t b)(c:P.eqGuardType P.depth t=false)(f:a.eval x=v1)(h:a.eval y=v2)(i:v1=JR x1)(k:v2=JR x2)(l:x1.map Js=b)(m:x2.map Js=b):
  BD P ⟨dst,.binOp .eql t x y d,ty,pos,BV,g⟩ a w (fun u w'=>u=.bool (Gn x1 x2)∧w'=w):=by
 refine MC f h ?_;subst i;subst k;have n:=e w x1 x2 l m;have o:(eqGuard .eql t x y (JR x1) (JR x2)).run P w=.ok () w:=by
  simp[eqGuard,JR,program,Sem.run,c]
 simp only[Sem.run_bind,o,Result.andThen_ok];show(do pure (Value.bool (←Op.equal t (JR x1) (JR x2))):Sem Value).run P w=_;simp only[Sem.run_bind,n,Result.andThen_ok,Sem.run_pure]
theorem OF{x y:Operand}{p q:Option Addr}{t u:TypeId}{b:Bool}(c:a.eval x=.pointer p)(d:a.eval y=.pointer q)(e:(Op.equal t (.pointer p) (.pointer q)).run P w=.ok b w):BD P ⟨dst,.binOp .eql t x y u,ty,pos,BV,g⟩ a w (fun v w'=>v=.bool b∧w'=w):=
 Cj (by simp[execOp,c,d,binOp,e,eqGuard])
theorem Ln {α:Type} {e:DC α} {aA t:TypeId} {x y:Operand} {b o k p c:Nat} {v:Value} {n0:Nat} {Z:Nat→Prop} {A:Option Addr} {xs:List α} {z z':α} {l:List Value} {n:Nat}
  (aB:AK e aA n0 w Z A c xs) (aD:xs[k]?=some z) (aM:A=some ⟨b,o,none⟩) (aN:p=o+k*e.sz) (aO:a.eval x=.pointer (some ⟨b,p,none⟩)) (aP:a.eval y=v) (aQ:(P.info? t).map (·.size)=some n) (aR:v.cells.toList=l) (aS:l.length=n)
  (aT:∀u∈l,u.oneCell'=true) (aE:e.R w Z l z'):
  BD P ⟨dst,.store t x y,ty,pos,BV,g⟩ a w (fun _ w'=>w.grownBy w' (ob A)∧∃AV,R2 e w Z AV (xs.set k z')∧Dm w' n0 aA e.sz A (xs.set k z').length c AV.flatten):=by
 obtain⟨AV,f,aU⟩:=aB;obtain⟨a4,aY,aF,aZ⟩:=f.get aD;have a0:=e.len aF;have aG:=e.len aE;subst aM;subst aN;have aH:k<xs.length:=(List.getElem?_eq_some_iff.1 aD).1;have hlen:=f.len;have h:=f.lens;rcases aU.2 with⟨aI,h0⟩|⟨a5,cap,cur,aI,aJ,aV,q,aK,aC,i⟩
 ·omega
 ·cases aI;have a2:k*e.sz+e.sz≤xs.length*e.sz:=by
   have:(k+1)*e.sz≤xs.length*e.sz:=Nat.mul_le_mul_right _ aH;rw[Nat.add_mul,Nat.one_mul] at this;exact this
  have a3:xs.length*e.sz≤c*e.sz:=Nat.mul_le_mul_right _ q;have aL:Bk w b aA cur:=aV;refine(AW (BP:=setCells cur (0+k*e.sz) l) aO aP aQ aL aR aS (by omega) aT rfl).mono ?_;rintro _ w' ⟨s1,s2,aW⟩;have d:=f.set aE k;refine⟨aW,_,d,by rw[d.H8],.inr ⟨b,c,setCells cur (0+k*e.sz) l,rfl,aJ,s2,by rw[List.length_set];exact q,aK,by rw[DF 0];exact aC,?_⟩⟩;rw[List.length_set];rcases Nat.eq_zero_or_pos e.sz with h0|h0
  ·have aX:(AV.set k l).flatten=[]:=List.eq_nil_of_length_eq_zero (by rw[d.H8,h0,Nat.mul_zero]);rw[aX,h0,Nat.mul_zero,List.take_zero]
  ·refine List.ext_getElem? fun j=>?_;rw[JC aG h0 k AV j h (by omega),List.getElem?_take,Array.getElem?_toList,EE _ _ _ _ (by omega)];have r:∀j:Nat,AV.flatten[j]?=if j<xs.length*e.sz then cur[j]? else none:=fun j=>by
    rw[←i,List.getElem?_take,Array.getElem?_toList]
   by_cases m:j<xs.length*e.sz
   ·rw[if_pos m]
    by_cases s:k*e.sz≤j∧j<k*e.sz+e.sz
    ·rw[if_pos (by omega),if_pos s,show j-(0+k*e.sz)=j-k*e.sz by omega]
    ·rw[if_neg (by omega),if_neg s,r,if_pos m]
   ·rw[if_neg m,if_neg (by omega),r,if_neg m]
theorem FB{α:Type}{e:DC α}{f t:TypeId}{x y:Operand}{b o k p c:Nat}{v:Value}{n0:Nat}{Z:Nat→Prop}{A:Option Addr}{xs:List α}{z z':α}{l:List Value}{n:Nat}
  (d:AK e f n0 w Z A c xs)(i:xs[k]?=some z)(m:A=some ⟨b,o,none⟩)(q:p=o+k)(r:a.eval x=.pointer (some ⟨b,p,none⟩))(s:a.eval y=v)(aA:(P.info? t).map (·.size)=some n)(aB:v.cells.toList=l)(aC:l.length=n)
  (aD:∀u∈l,u.oneCell'=true)(aE:e.R w Z l z')(h:e.sz=1:=by rfl):
  BD P ⟨dst,.store t x y,ty,pos,BV,g⟩ a w (fun _ w'=>w.grownBy w' (ob A)∧∃AV,R2 e w Z AV (xs.set k z')∧Dm w' n0 f e.sz A (xs.set k z').length c AV.flatten):=
 Ln d i m (by rw[h,Nat.mul_one];exact q) r s aA aB aC aD aE
end
theorem IM{l:List Int}{i:Nat}{x:Int}(h:l[i]?=some x):(l.map fun n=>Value.int .i64 n)[i]?=some (.int .i64 x):=by rw[List.getElem?_map,h];rfl
theorem AK.QR {α:Type} {e:DC α} {t:TypeId} {n0:Nat} {w:World} {Z:Nat→Prop} {A:Option Addr} {c k:Nat} {xs:List α} {x:α} (h:AK e t n0 w Z A c xs) (h0:0<e.sz) (f:xs[k]?=some x):
  ∃b o cs,A=some ⟨b,o,none⟩∧e.R w Z cs x∧Rz w ZA (some ⟨b,o+k*e.sz,none⟩) cs:=by
 obtain⟨AV,g,i⟩:=h;have q:Sl e w ZA A c xs:=AK.all (t:=t) (n0:=n0) (Z:=Z) ⟨AV,g,i⟩;obtain⟨b,o,BP,l,y,aB⟩:=q.elem h0 f;obtain⟨m,z,a,n⟩:=g.get f;refine⟨b,o,m,l,a,?_⟩;have hlen:m.length=e.sz:=e.len a;have r:=i.rd;rcases r.2 with s|⟨b',o',d,_,p,v⟩
 ·have:=g.H8;rw[s] at this;have aA:k<xs.length:=(List.getElem?_eq_some_iff.1 f).1;have aC:0<xs.length*e.sz:=Nat.mul_pos (by omega) h0;simp at this;omega
 ·rw[l] at d;cases d;refine .inr ⟨b,_,rfl,trivial,p,fun j u hu=>?_⟩;rw[Nat.add_assoc];refine v _ _ ?_;rw[←n,List.getElem?_take] at hu;split at hu
  ·simpa using hu
  ·cases hu
theorem AK.GS{α:Type}{e:DC α}{t:TypeId}{n0:Nat}{w:World}{Z:Nat→Prop}{A:Option Addr}{c k:Nat}{xs:List α}{x:α}(h:AK e t n0 w Z A c xs)(d:e.sz=1)(f:xs[k]?=some x):
  ∃b o cs,A=some ⟨b,o,none⟩∧e.R w Z cs x∧Rz w ZA (some ⟨b,o+k,none⟩) cs:=by
 obtain⟨b,o,cs,g,i,a⟩:=h.QR (by omega) f;rw[d,Nat.mul_one] at a;exact⟨b,o,cs,g,i,a⟩
def TC(w:World)(D:Nat→Prop)(M:World→Prop):Nat→World→Prop
 |0,w'=>Ext w w'
 |_+1,w'=>A5 D w w'∧M w'
section
variable{w w' Bp:World}{D:Nat→Prop}{M:World→Prop}{ph:Nat}
theorem E4(h:TC w D M ph w'):A5 D w w':=by
 cases ph with
 |zero=>exact CT h
 |succ=>exact h.1
theorem Bx(h:TC w D M ph w')(a:ph=0):Ext w w':=by subst a;exact h
theorem Gp(c:∀a b,M a→Ext a b→M b)(h:TC w D M ph w')(g:Ext w' Bp):TC w D M ph Bp:=by
 cases ph with
 |zero=>exact Ext.trans h g
 |succ=>exact⟨(show A5 D w w' from h.1).trans (CT g),c _ _ h.2 g⟩
theorem G5(h:TC w D M ph w')(a:ph=0)(g:A5 D w' Bp)(b:M Bp):TC w D M (ph+1) Bp:=by
 subst a;exact⟨(CT h).trans g,b⟩
theorem Hc{r:Option Nat}(g:w.grownBy w' r):A5 (FU FN [r]) w w':=Hk g fun k e=>.inr (by rw[e];exact List.mem_singleton_self _)
end
section
variable{F F':Nat→Prop}{B:List (Option Nat)}{w0 w w':World}{L M:List (Option Nat)}
theorem Hp.MO{Z:Nat→Prop}{a:Nat}(h:Hp F B w0 L w)(c:w.heap.size≤a):Mv w' (ZZ FN [] FN a []) w' (ZZ F B Z w0.heap.size L):=FL fun b d _=>by
 rcases d with⟨_,e,_⟩|⟨f,_⟩
 ·exact e.elim
 ·refine .inr ⟨Nat.le_trans h.sz (Nat.le_trans c f),fun hm=>?_⟩;have:=(h.lo b hm).1;omega
theorem Hp.OG{α:Type}{e:DC α}{t:TypeId}{A:Option Addr}{c:Nat}{xs:List α}{Z Z':Nat→Prop}(h:Hp F B w0 L w)(b:∀w Z w' Z' cs x,e.R w Z cs x→e.R w' Z' cs x)(a:AK e t w.heap.size w' Z' A c xs):AK e t w0.heap.size w' Z A c xs:=
 AK.ML b (a.base (n1:=w0.heap.size) fun k d=>Nat.le_trans h.sz (a.ge k d))
theorem Hp.JS{α:Type}{e:DC α}{t:TypeId}{A:Option Addr}{c:Nat}{xs:List α}{Z a:Nat→Prop}(h:Hp F B w0 L w)(b:∀w Z w' Z' cs x,e.R w Z cs x→e.R w' Z' cs x)(d:AK e t w.heap.size w' a A c xs):Sl e w' (ZZ F B Z w0.heap.size L) A c xs:=
 (AK.ML b d).sl fun k _ h0=>h.kn h0
theorem Hp.J7 (h:Hp F B w0 L w) (f:Hp F B w0 L w') {b:Nat} (p:w.heap.size≤b) (l:b<w'.heap.size):Hp F B w0 (some b::L) w':=by
 refine⟨f.ch,fun k a=>?_,?_,h.ff⟩
 ·rcases List.mem_cons.1 a with e|a
  ·cases e;exact⟨l,fun m=>absurd (h.ff _ m) (by have:=h.sz;omega),fun n=>absurd n (by have:=h.sz;omega)⟩
  ·exact f.lo k a
 ·have key:∀(j:Nat) (x:Nat),L[j]?=some (some x)→x≠b:=fun j x o e=>by
   have:=(h.lo x (List.mem_of_getElem? o)).1;omega
  intro i j x g hi c;cases i with
  |zero=>
   cases j with
   |zero=>exact g rfl
   |succ j=>
    have d:b=x:=by simpa using hi
    exact key j x (by simpa using c) d.symm
  |succ i=>
   cases j with
   |zero=>
    have d:b=x:=by simpa using c
    exact key i x (by simpa using hi) d.symm
   |succ j=>exact h.ap i j x (by omega) (by simpa using hi) (by simpa using c)
theorem EW{Z:Nat→Prop}{n0:Nat}{b:Nat}(hm:Mv w (ZZ F B Z n0 L) w' (ZZ F B Z n0 L))(h:w.heap.size≤b):Mv w (ZZ F B Z n0 L) w' (ZZ F B Z n0 (some b::L)):=
 ⟨hm.size,fun k c d=>⟨(hm.stay k c d).1.imp id fun⟨f,g⟩=>⟨f,fun a=>by
  rcases List.mem_cons.1 a with e|a
  ·cases e;omega
  ·exact g a⟩,(hm.stay k c d).2⟩⟩
end
def MP (w:World) (R:World→Value→World→Prop):Is Ext:=
 ⟨fun v a=>∃w1 w2,Ext w w1∧R w1 v w2∧Ext w2 a,fun _ _ _ ⟨w1,w2,b,c,d⟩ g=>⟨w1,w2,b,c,Ext.trans d g⟩⟩
def Hy(w:World)(R:World→Value→World→Prop)(a:World):Prop:=∃v w1 w2,Ext w w1∧R w1 v w2∧Ext w2 a
theorem Gh{w:World}{R:World→Value→World→Prop}:∀a b,Hy w R a→Ext a b→Hy w R b:=fun _ _ ⟨v,w1,w2,c,d,e⟩ g=>⟨v,w1,w2,c,d,Ext.trans e g⟩
def JT(_:World):Prop:=True
theorem IN:∀a b,JT a→Ext a b→JT b:=fun _ _ _ _=>trivial
def Gd(n:Nat)(w:World):List Nat→Prop
 |[]=>True
 |b::l=>n≤b∧b<w.heap.size∧(l.all fun x=> !Nat.beq b x)=true∧Gd n w l
section
variable{F F':Nat→Prop}{B:List (Option Nat)}{w0 w w':World}{L M:List (Option Nat)}{Z:Nat→Prop}
theorem Gd.mem{n:Nat}:∀{l:List Nat},Gd n w l→∀b∈l,n≤b∧b<w.heap.size
 |[],_,_,h=>by cases h
 |x::l,h,b,a=>by
  rcases List.mem_cons.1 a with rfl|a
  ·exact⟨h.1,h.2.1⟩
  ·exact Gd.mem h.2.2.2 b a
theorem Gd.grow{n a:Nat}(b:a≤n)(c:w.heap.size≤w'.heap.size):∀{l:List Nat},Gd n w l→Gd a w' l
 |[],_=>trivial
 |_::_,h=>⟨Nat.le_trans b h.1,Nat.lt_of_lt_of_le h.2.1 c,h.2.2.1,Gd.grow b c h.2.2.2⟩
theorem Hp.Lp(h:Hp F B w0 L w):∀{l:List Nat},Hp F B w0 L w'→Gd w.heap.size w' l→Hp F B w0 (l.map some++L) w'
 |[],c,_=>c
 |b::l,c,a=>by
  have d:=Hp.Lp h c a.2.2.2;refine⟨d.ch,fun k f=>?_,?_,h.ff⟩
  ·rcases List.mem_cons.1 f with e|f
   ·cases e;exact⟨a.2.1,fun p=>absurd (h.ff _ p) (by have:=h.sz;have:=a.1;omega),fun n=>absurd n (by have:=h.sz;have:=a.1;omega)⟩
   ·exact d.lo k f
  ·have key:∀(j:Nat) (x:Nat),(l.map some++L)[j]?=some (some x)→x≠b:=fun j x q e=>by
    subst e;have hm:=List.mem_of_getElem? q;rcases List.mem_append.1 hm with hm|hm
    ·obtain⟨y,r,e⟩:=List.mem_map.1 hm;cases e;have:=List.all_eq_true.1 a.2.2.1 x r;rw[Nat.beq_refl] at this;cases this
    ·have:=(h.lo x hm).1;have:=a.1;omega
   intro i j x o hi g;cases i with
   |zero=>
    cases j with
    |zero=>exact o rfl
    |succ j=>
     have m:b=x:=by simpa using hi
     exact key j x (by simpa using g) m.symm
   |succ i=>
    cases j with
    |zero=>
     have m:b=x:=by simpa using g
     exact key i x (by simpa using hi) m.symm
    |succ j=>exact d.ap i j x (by omega) (by simpa using hi) (by simpa using g)
theorem Hp.J8(h:Hp F B w0 L w)(g:Ext w w'){l:List Nat}(a:Gd w.heap.size w' l):Hp F B w0 (l.map some++L) w':=h.Lp (h.ext g) a
theorem Ed{n0:Nat}{l:List Nat}(hm:Mv w (ZZ F B Z n0 L) w' (ZZ F B Z n0 L))(d:Gd w.heap.size w' l):Mv w (ZZ F B Z n0 L) w' (ZZ F B Z n0 (l.map some++L)):=
 ⟨hm.size,fun k c b=>⟨(hm.stay k c b).1.imp id fun⟨f,g⟩=>⟨f,fun a=>by
  rcases List.mem_append.1 a with a|a
  ·obtain⟨y,h,e⟩:=List.mem_map.1 a;cases e;have:=(d.mem k h).1;omega
  ·exact g a⟩,(hm.stay k c b).2⟩⟩
theorem MQ{b c:Nat}(f:w.heap.size≤b)(a:b<w'.heap.size)(g:w.heap.size≤c)(d:c<w'.heap.size)(e:b≠c):Gd w.heap.size w' [b,c]:=
 ⟨f,a,by
  have:Nat.beq b c=false:=by
   cases h:Nat.beq b c with
   |false=>rfl
   |true=>exact absurd (Nat.eq_of_beq_eq_true h) e
  simp[this],g,d,rfl,trivial⟩
theorem Hp.Og (h:Hp F B w0 L w):∀(l:List Nat) (c:List Nat),Fj L c (l.map some)→HP c=true→(∀b∈l,w0.heap.size≤b)→Gd w0.heap.size w l
 |[],_,_,_,_=>trivial
 |b::l,[],a,_,_=>a.elim
 |b::l,j::c,a,e,d=>by
  simp only[HP,Bool.and_eq_true] at e;refine⟨d b (List.mem_cons_self ..),(h.lo b (List.mem_of_getElem? a.1)).1,?_,h.Og l c a.2 e.2 fun x f=>d x (List.mem_cons_of_mem _ f)⟩;rw[List.all_eq_true];intro x f;cases i:Nat.beq b x with
  |false=>rfl
  |true=>
   have g:=Nat.eq_of_beq_eq_true i;subst g;have k:=h.Bq (F':=FN) j a.1 c e.1 a.2 (fun _ h=>h.elim);exact absurd (.inr (List.mem_map.2 ⟨b,f,rfl⟩)) k
end
section
variable{P:Program}{N:Nat}{Q:Exit→Act→World→Prop}{a:Act}{l:Env}{w:World}
def J9(a:Act):Act:={a with defers:=[]}
theorem IP(a:Act):∀l:Env,BK (J9 a) l=J9 (BK a l)
 |[]=>rfl
 |(d,v)::l=>by simp only[BK,IP a l];rfl
theorem JU{D:Nat}{fn:Func}{R:Value→World→Prop}(c:w.heap[D]?=some (.deferred (some [])))(h:∀w',FA D w w'→LV X0 N (bodyPost P fn (fun e w'=>∃v,e=.returned v∧R v w')) .ret (J9 a) l w'):
  LV (X1 D) N (PM P fn R) .ret a l w:=fun s=>by
 have d:St X0 N (J9 a) l:=⟨s.sz,rfl,s.lt⟩;obtain⟨_,v,b,f⟩:=h _ (FC w D (.deferred none)) d;show LeavesInM Fence.wide 0 P fn _ _ (BK a l).defers .returning w;rw[C5,show a.defers=mark D from s.df];refine⟨by simp,.inl ⟨D,_,rfl,run_takeDeferred c,?_⟩⟩;rw[IP] at b;exact⟨v,b,f⟩
theorem Mf{D:Nat}{fn:Func}{R:Value→World→Prop}(c:w.heap[D]?=some (.deferred (some [])))(h:∀w',FA D w w'→LV X0 N (bodyPost P fn (fun e w'=>∃v,e=.returned v∧R v w')) .normal (J9 a) l w'):
  LV (X1 D) N (PM P fn R) .normal a l w:=fun s=>by
 have d:St X0 N (J9 a) l:=⟨s.sz,rfl,s.lt⟩;obtain⟨_,v,b,f⟩:=h _ (FC w D (.deferred none)) d;show LeavesInM Fence.wide 0 P fn _ _ (BK a l).defers .returning w;rw[C5,show a.defers=mark D from s.df];refine⟨by simp,.inl ⟨D,_,rfl,run_takeDeferred c,?_⟩⟩;rw[IP] at b;exact⟨v,b,f⟩
end
theorem Mg{α:Type}{b:Bool}{x:Option α}{r:α}(h:cond b none x=some r):b=false∧x=some r:=by
 cases b with
 |true=>cases h
 |false=>exact⟨rfl,h⟩
def CM(xs:List Int):List Int:=xs.mergeSort fun x y=>decide (x≤y)
theorem Ho(xs:List Int):(CM xs).length=xs.length:=List.length_mergeSort _
theorem Nl{w:World}{Z:Nat→Prop}:∀{AV:List (List Value)} {xs:List Int},R2 (As .i64) w Z AV xs→AV.flatten=B5 xs
 |[],[],_=>rfl
 |c::AV,x::xs,h=>by
  have a:c=[.int .i64 x]:=h.1;rw[List.flatten_cons,Nl h.2,a];rfl
 |[],_::_,h=>h.elim
 |_::_,[],h=>h.elim
theorem Nn{w:World}{Z:Nat→Prop}:∀xs:List Int,R2 (As .i64) w Z (xs.map fun x=>[.int .i64 x]) xs
 |[]=>trivial
 |_::xs=>⟨rfl,Nn xs⟩
theorem Oh(xs:List Int):(xs.map fun x=>[Value.int .i64 x]).flatten=B5 xs:=by
 induction xs with
 |nil=>rfl
 |cons x xs ih=>rw[List.map_cons,List.flatten_cons,ih];rfl
theorem MR{t:TypeId}{n0:Nat}{w:World}{Z:Nat→Prop}{A:Option Addr}{c:Nat}{xs:List Int}(h:AK (As .i64) t n0 w Z A c xs):Dm w n0 t 1 A xs.length c (B5 xs):=by
 obtain⟨AV,a,b⟩:=h;rw[←Nl a];exact b
theorem Jc{t:TypeId}{n0:Nat}{w:World}{Z:Nat→Prop}{A:Option Addr}{c:Nat}{xs:List Int}(h:Dm w n0 t 1 A xs.length c (B5 xs)):AK (As .i64) t n0 w Z A c xs:=
 ⟨_,Nn xs,by rw[Oh];exact h⟩
theorem QS{α β:Type}{x:Option β}{f:α→Option β}{r:β}(h:Option.elim none x f=some r):x=some r:=h
theorem QT{α β:Type}{a:α}{x:Option β}{f:α→Option β}{r:β}(h:Option.elim (some a) x f=some r):f a=some r:=h
theorem Ih{F:Nat→Prop}{b:Nat}{L:List (Option Nat)}(h:¬F b∧some b∉L):¬F b∧some b∉L++[none]:=⟨h.1,fun hm=>by
 rcases List.mem_append.1 hm with a|a
 ·exact h.2 a
 ·simp at a⟩
theorem A5.Mh{F:Nat→Prop}{C:List (Option Nat)}{o:Option Nat}{w w':World}(g:A5 (FU F (C++[o]++[none])) w w'):A5 (FU (FU F C) [o]) w w':=g.mono fun k h=>by
 rcases h with h|h
 ·exact .inl (.inl h)
 ·rcases List.mem_append.1 h with a|a
  ·rcases List.mem_append.1 a with b|b
   ·exact .inl (.inr b)
   ·exact .inr b
  ·simp at a
theorem Sl.OH{α β:Type}{e:DC α}{ev:β→Value}{F:Nat→Prop}{B L:List (Option Nat)}{Z:Nat→Prop}{n0 r n:Nat}{w:World}{i:List (List Int×β)}{A:Option Addr}{c:Nat}{xs:List α}
  (k:∀w Z w' Z' cs x,e.R w Z cs x→e.R w' Z' cs x)(hm:B7 ev w r n i)(h:Sl e w (ZZ F B Z n0 L) A c xs):Sl e w (ZZ F B Z n0 (some r::L)) A c xs:=by
 obtain⟨m,p,AV,q,d⟩:=h;refine⟨m,p,AV,q.free k,?_⟩;rcases d with d|⟨b,o,s,t,v,f⟩
 ·exact .inl d
 ·cases g:AV.flatten with
  |nil=>exact .inl rfl
  |cons u l=>
   rw[g] at f;refine .inr ⟨b,o,s,t.imp id fun⟨y,z⟩=>⟨y,fun a=>?_⟩,v,f⟩;rcases List.mem_cons.1 a with e|a
   ·cases e;obtain⟨es,aB,aA,_⟩:=hm;have:=f 0 u rfl;unfold World.cell? at this;simp[aA] at this
   ·exact z a
section
variable{P:Program}{N:Nat}{a:Act}{l:Env}{w:World}
theorem Ge{fn:Func}{r1 r2 o:ResultVar}{v v' HC:Value}{R:Value→World→Prop}(g:fn.results= #[r1,r2,o])(y:Lj P a l w r1 v)(r:Lj P a l w r2 v')(i:Lj P a l w o HC)(h:R (.tuple #[v,v',HC]) w):
  LV X0 N (bodyPost P fn (fun e w'=>∃v,e=.returned v∧R v w')) .ret a l w:=fun s=>by
 refine bodyPost_ret (v:=.tuple #[v,v',HC]) ?_ (by rw[C5,s.df]) ⟨_,rfl,h⟩;cases r1 with
 |tmp t0=>
  have d:(BK a l).tmps.getD t0 undef=v:=ee s y;simp only[Array.getD_eq_getD_getElem?] at d;cases r2 with
  |tmp t1=>
   have c:(BK a l).tmps.getD t1 undef=v':=ee s r;simp only[Array.getD_eq_getD_getElem?] at c;cases o with
   |tmp t2=>
    have b:(BK a l).tmps.getD t2 undef=HC:=ee s i;simp only[Array.getD_eq_getD_getElem?] at b;simp[results,g,d,c,b]
   |cell k t2=>
    obtain⟨f,m,n⟩:=i;have b:(BK a l).tmps.getD k undef=.pointer (some f):=ee s m;simp only[Array.getD_eq_getD_getElem?] at b;simp[results,g,d,c,b,asAddr,n]
  |cell u t1=>
   obtain⟨p,x,q⟩:=r;have c:(BK a l).tmps.getD u undef=.pointer (some p):=ee s x;simp only[Array.getD_eq_getD_getElem?] at c;cases o with
   |tmp t2=>
    have b:(BK a l).tmps.getD t2 undef=HC:=ee s i;simp only[Array.getD_eq_getD_getElem?] at b;simp[results,g,d,c,asAddr,q,b]
   |cell k t2=>
    obtain⟨f,m,n⟩:=i;have b:(BK a l).tmps.getD k undef=.pointer (some f):=ee s m;simp only[Array.getD_eq_getD_getElem?] at b;simp[results,g,d,c,asAddr,q,b,asAddr,n]
 |cell aA t0=>
  obtain⟨z,aB,t⟩:=y;have d:(BK a l).tmps.getD aA undef=.pointer (some z):=ee s aB;simp only[Array.getD_eq_getD_getElem?] at d;cases r2 with
  |tmp t1=>
   have c:(BK a l).tmps.getD t1 undef=v':=ee s r;simp only[Array.getD_eq_getD_getElem?] at c;cases o with
   |tmp t2=>
    have b:(BK a l).tmps.getD t2 undef=HC:=ee s i;simp only[Array.getD_eq_getD_getElem?] at b;simp[results,g,d,asAddr,t,c,b]
   |cell k t2=>
    obtain⟨f,m,n⟩:=i;have b:(BK a l).tmps.getD k undef=.pointer (some f):=ee s m;simp only[Array.getD_eq_getD_getElem?] at b;simp[results,g,d,asAddr,t,c,b,asAddr,n]
  |cell u t1=>
   obtain⟨p,x,q⟩:=r;have c:(BK a l).tmps.getD u undef=.pointer (some p):=ee s x;simp only[Array.getD_eq_getD_getElem?] at c;cases o with
   |tmp t2=>
    have b:(BK a l).tmps.getD t2 undef=HC:=ee s i;simp only[Array.getD_eq_getD_getElem?] at b;simp[results,g,d,asAddr,t,c,asAddr,q,b]
   |cell k t2=>
    obtain⟨f,m,n⟩:=i;have b:(BK a l).tmps.getD k undef=.pointer (some f):=ee s m;simp only[Array.getD_eq_getD_getElem?] at b;simp[results,g,d,asAddr,t,c,asAddr,q,b,asAddr,n]
end
theorem PF{w w':World}{Z Z' Q:Nat→Prop}(h:Mv w Z w' Z'):Mv w (fun b=>Z b∧Q b) w' (fun b=>Z' b∧Q b):=⟨h.size,fun b a c=>⟨⟨(h.stay b a.1 c).1,a.2⟩,(h.stay b a.1 c).2⟩⟩
def eF(n:Nat):DC (Bool×List Int):=
 ⟨1,fun w Z cs x=>∃A c,cs=[.slice A x.2.length c]∧Sl (As .i64) w (fun b=>Z b∧(x.1=true→n≤b)) A c x.2,fun⟨_,_,h,_⟩=>by rw[h];rfl,fun⟨_,_,h,_⟩=>by rw[h];simp[Value.oneCell'],
  fun⟨A,c,a,d⟩ g=>⟨A,c,a,d.mv (PF g)⟩⟩
theorem PG{n:Nat}{w:World}{Z:Nat→Prop}:∀{AV:List (List Value)} {xs:List (List Int)},R2 (Bs (As .i64)) w Z AV xs→R2 (eF n) w Z AV (xs.map fun x=>(false,x))
 |[],[],_=>trivial
 |_::_,_::_,⟨⟨A,c,a,b⟩,h⟩=>⟨⟨A,c,a,b.mv (FL fun _ d _=>⟨d,fun e=>by cases e⟩)⟩,PG h⟩
 |[],_::_,h=>h.elim
 |_::_,[],h=>h.elim
theorem PH{n:Nat}{w:World}{Z:Nat→Prop}:∀{AV:List (List Value)} {xs:List (Bool×List Int)},(∀y∈xs,y.1=true)→R2 (eF n) w Z AV xs→R2 (Bs (As .i64)) w (fun b=>n≤b) AV (xs.map Prod.snd)
 |[],[],_,_=>trivial
 |_::_,x::_,a,⟨⟨A,c,d,e⟩,h⟩=>⟨⟨A,c,d,e.mv (FL fun _ f _=>f.2 (a x (List.mem_cons_self ..)))⟩,PH (fun y g=>a y (List.mem_cons_of_mem _ g)) h⟩
 |[],_::_,_,h=>h.elim
 |_::_,[],_,h=>h.elim
theorem QU{t n0 n:Nat}{w:World}{Z:Nat→Prop}{A:Option Addr}{c:Nat}{xs:List (List Int)}(h:AK (Bs (As .i64)) t n0 w Z A c xs):AK (eF n) t n0 w Z A c (xs.map fun x=>(false,x)):=by
 obtain⟨AV,a,b⟩:=h;exact⟨AV,PG a,by rw[List.length_map];exact b⟩
theorem QV{t n0 n:Nat}{w:World}{Z:Nat→Prop}{A:Option Addr}{c:Nat}{xs:List (Bool×List Int)}(a:∀y∈xs,y.1=true)(h:AK (eF n) t n0 w Z A c xs):AK (Bs (As .i64)) t n0 w (fun b=>n≤b) A c (xs.map Prod.snd):=by
 obtain⟨AV,d,e⟩:=h;exact⟨AV,PH a d,by rw[List.length_map];exact e⟩
theorem PI{a:List (Bool×List Int)}{k:Nat}{x:List Int}(h:(a.map Prod.snd)[k]?=some x):∃b,a[k]?=some (b,x):=by
 rw[List.getElem?_map] at h;cases c:a[k]? with
 |none=>rw[c] at h;cases h
 |some y=>rw[c] at h;cases h;exact⟨y.1,rfl⟩
end Go.Proofs.Ytkljfdkmjdjpfaa
end
section
namespace Go.Proofs.Ytkljfdkmjdjpfaa
open Go.RowKit
theorem FK{b:Nat}{t:TypeId}:∀(l:List Value) (o:Nat) {w:World} {cs:Array Value},Bk w b t cs→Bk (w.setCells b o l) b t (setCells cs o l)∧w.grownBy (w.setCells b o l) (some b)
 |[],o,w,cs,h=>⟨h,World.grownBy.refl w _⟩
 |v::l,o,w,cs,h=>by
  have c:Bk (w.setCell ⟨b,o,none⟩ v) b t (cs.setIfInBounds o v):=by
   unfold Bk at h⊢;simp[World.setCell,Array.getElem?_modify,h]
  have g1:FA b w (w.setCell ⟨b,o,none⟩ v):=⟨rfl,rfl,rfl,by simp,fun k _ a=>Below.heap_setCell w ⟨b,o,none⟩ v k (by simpa using a)⟩;have ih:=FK l (o+1) c;exact⟨ih.1,World.grownBy.trans g1 ih.2⟩
def Cx (xs:List Int) (i:Int) (x:Int):List Int:=xs.take i.toNat++x::xs.drop i.toNat
theorem Jt(xs:List Int)(i:Int)(x:Int):(Cx xs i x).length=xs.length+1:=by
 unfold Cx;simp;omega
theorem Oi{w w':World}{b:Nat}{o:Obj}(a:b=w.heap.size)(g:World.grownBy (w.alloc o) w' (some b)):Ext w w':=
 ⟨g.os,g.tape,g.output,by have:=g.size;simp at this;omega,fun k c _=>by
  have d:=g.block k (by simp;omega) (by rw[a];intro e;cases e;omega);rw[d];exact(World.grownBy_alloc w o none).block k c (by simp)⟩
theorem G6{w:World}{base t g c:Nat}{cur:Array Value}{l:List Value}(a:base≤g)(d:Bk w g t cur)(e:l.length≤c)(f:c≤maxLen)(i:cur.size=c)(h:∀j,j<l.length→cur[j]?=l[j]?):Dm w base t 1 (some ⟨g,0,none⟩) l.length c l:=by
 refine⟨by simp,.inr ⟨g,c,cur,rfl,a,d,e,f,by simp[i],?_⟩⟩;rw[Nat.mul_one];apply List.ext_getElem?;intro j;rw[List.getElem?_take];split
 ·rename_i b
  rw[←h j b];simp
 ·rename_i b
  rw[List.getElem?_eq_none (by omega)]
theorem Rw{b:Bool}(h:b=false)(k:b=true):False:=by rw[h] at k;cases k
section
variable{F F':Nat→Prop}{B:List (Option Nat)}{w0 w w' Bp:World}{Z:Nat→Prop}{L M:List (Option Nat)}
theorem Oj(h:Ext w w'){r:Option Nat}(g:w'.grownBy Bp r)(b:∀k,r=some k→w.heap.size≤k):Ext w Bp:=
 ⟨g.os.trans h.os,g.tape.trans h.tape,g.output.trans h.output,Nat.le_trans h.size g.size,fun k a _=>(g.block k (Nat.lt_of_lt_of_le a h.size) (fun e=>by have:=b k e.symm;omega)).trans (h.block k a (by simp))⟩
theorem Ka{x y:Option Nat}{n:Nat}(a:∀k,x=some k→n≤k)(b:n≤w'.heap.size)(c:∀k,y=some k→(x=some k∨w'.heap.size≤k)∧k<Bp.heap.size):∀k,y=some k→n≤k:=fun k d=>
 (c k d).1.elim (a k) (fun h=>Nat.le_trans b h)
theorem PJ{b:Nat}{t:TypeId}{cs:Array Value}(nb:HD w' Bp b t cs):∀k,ob (some ⟨b,0,none⟩)=some k→((none:Option Nat)=some k∨w'.heap.size≤k)∧k<Bp.heap.size:=fun k e=>by
 cases e;exact⟨.inr (Nat.le_of_eq nb.ED.symm),nb.bk.lt⟩
theorem PK{α:Type}{e:DC α}{t:TypeId}{A:Option Addr}{c:Nat}{xs:List α}{Z:Nat→Prop}(h:AK e t w'.heap.size Bp Z A c xs):∀k,ob A=some k→((none:Option Nat)=some k∨w'.heap.size≤k)∧k<Bp.heap.size:=fun k e=>⟨.inr (h.ge k e),h.It k e⟩
end
def eT:DC (Bool×(Option Addr×Nat)×List Int):=
 ⟨1,fun w Z cs x=>∃A c,cs=[.slice A x.2.2.length c]∧(x.1=true→A=x.2.1.1∧c=x.2.1.2)∧(x.1=false→Sl (As .i64) w Z A c x.2.2),fun⟨_,_,h,_⟩=>by rw[h];rfl,fun⟨_,_,h,_⟩=>by rw[h];simp[Value.oneCell'],
  fun⟨A,c,a,b,d⟩ g=>⟨A,c,a,b,fun e=>(d e).mv g⟩⟩
theorem PL{w:World}{Z:Nat→Prop}:∀{AV:List (List Value)} {xs:List (List Int)},R2 (Bs (As .i64)) w Z AV xs→R2 eT w Z AV (xs.map fun x=>(false,(none,0),x))
 |[],[],_=>trivial
 |_::_,_::_,⟨⟨A,c,a,b⟩,h⟩=>⟨⟨A,c,a,fun e=>(by cases e),fun _=>b⟩,PL h⟩
 |[],_::_,h=>h.elim
 |_::_,[],h=>h.elim
theorem PN{w:World}{Z:Nat→Prop}:∀{AV:List (List Value)} {xs:List (Bool×(Option Addr×Nat)×List Int)},(∀y∈xs,y.1=true→Sl (As .i64) w Z y.2.1.1 y.2.1.2 y.2.2)→R2 eT w Z AV xs→R2 (Bs (As .i64)) w Z AV (xs.map fun y=>y.2.2)
  |[],[],_,_=>trivial
  |_::_,x::_,b,⟨⟨A,c,d,e,f⟩,h⟩=>⟨by
      cases a:x.1 with
      |true=>
        obtain⟨rfl,rfl⟩:=e a;exact⟨_,_,d,b x (List.mem_cons_self ..) a⟩
      |false=>exact⟨A,c,d,f a⟩,PN (fun y g=>b y (List.mem_cons_of_mem _ g)) h⟩
  |[],_::_,_,h=>h.elim
  |_::_,[],_,h=>h.elim
theorem QW{t n0:Nat}{w:World}{Z:Nat→Prop}{A:Option Addr}{c:Nat}{xs:List (List Int)}(h:AK (Bs (As .i64)) t n0 w Z A c xs):AK eT t n0 w Z A c (xs.map fun x=>(false,(none,0),x)):=by
 obtain⟨AV,a,b⟩:=h;exact⟨AV,PL a,by rw[List.length_map];exact b⟩
theorem QX{t n0:Nat}{w:World}{Z:Nat→Prop}{A:Option Addr}{c:Nat}{xs:List (Bool×(Option Addr×Nat)×List Int)}(a:∀y∈xs,y.1=true→Sl (As .i64) w Z y.2.1.1 y.2.1.2 y.2.2)(h:AK eT t n0 w Z A c xs):AK (Bs (As .i64)) t n0 w Z A c (xs.map fun y=>y.2.2):=by
 obtain⟨AV,b,d⟩:=h;exact⟨AV,PN a b,by rw[List.length_map];exact d⟩
def HH (N i:Int):Nat→Int→List (List Int)→Option (List (List Int))
  |0,_,_=>none
  |a+1,k,s=>cond (decide (k<N)) (cond (k !=i) ((idx s (0:Int)).bind fun x=>(GA (((x.length+([k]:List Int).length:Nat):Int)≤140737488355328/8)).bind fun _=>(idx s (0:Int)).bind fun _=>(i64 (k+1)).bind fun _=>HH N i a (k+1) (s.set 0 (x++[k])))
      ((i64 (k+1)).bind fun _=>HH N i a (k+1) s)) (some s)
theorem qz{X:Ctx}{N:Nat}{a:Act}{l:Env}(st:St X N a l):(BK a l).tmps.size=N:=(GQ _ _).trans st.sz
theorem qd{X:Ctx}{N:Nat}{a:Act}{l:Env}(st:St X N a l):(BK a l).defers=X.ds:=(C5 _ _).trans st.df
theorem sp{X:Ctx}{N:Nat}{a:Act}{l:Env}(st:St X N a l)(k:Nat){v:Value}(h:lk (sl a k) l k=v):sl (BK a l) k=v:=(GB st k).trans h
theorem Hp.nb{F:Nat→Prop}{B L:List (Option Nat)}{w0 w w':World}{b:Nat}{t:TypeId}{cs:Array Value}(h:Hp F B w0 L w)(n:HD w w' b t cs):Hp F B w0 (some b::L) w':=h.new n.gr (Nat.le_of_eq n.ED.symm) (Nat.lt_of_lt_of_eq (Nat.lt_succ_self _) n.sz.symm)
theorem Hp.Bt{F:Nat→Prop}{B L:List (Option Nat)}{w0 w w':World}{b:Nat}{t:TypeId}{cs:Array Value}(h:Hp F B w0 L w)(n:HD w w' b t cs):w0.heap.size≤b:=by rw[n.ED];exact h.sz
theorem Am{F:Nat→Prop}{B L:List (Option Nat)}{Z:Nat→Prop}{w w':World}{n0 b:Nat}{t:TypeId}{cs:Array Value}(n:HD w w' b t cs):Mv w (ZZ F B Z n0 L) w' (ZZ F B Z n0 (some b::L)):=Df n.gr (Nat.le_of_eq n.ED.symm)
theorem X2{b c:Sort _}{p:b→c→Prop}{C:Prop}(h:∃a x1,p a x1)(k:∀a x1,p a x1→C):C:=h.elim fun a h=>h.elim fun x1 h=>k a x1 h
theorem X4{c d e f:Sort _}{p:c→d→e→f→Prop}{C:Prop}(h:∃a x1 x2 b,p a x1 x2 b)(k:∀a x1 x2 b,p a x1 x2 b→C):C:=h.elim fun a h=>h.elim fun x1 h=>h.elim fun x2 h=>h.elim fun b h=>k a x1 x2 b h
theorem Y2{a0 a1 r C:Prop}(h:a0∧a1∧r)(k:a0→a1→r→C):C:=h.elim fun a h=>h.elim fun x1 h=>k a x1 h
theorem Y4{a0 a1 a2 a3 r C:Prop}(h:a0∧a1∧a2∧a3∧r)(k:a0→a1→a2→a3→r→C):C:=h.elim fun a h=>h.elim fun x1 h=>h.elim fun x2 h=>h.elim fun b h=>k a x1 x2 b h
theorem Y8{a0 a1 a2 a3 a4 a5 a6 a7 r C:Prop}(h:a0∧a1∧a2∧a3∧a4∧a5∧a6∧a7∧r)(k:a0→a1→a2→a3→a4→a5→a6→a7→r→C):C:=h.elim fun a h=>h.elim fun x1 h=>h.elim fun x2 h=>h.elim fun b h=>h.elim fun c h=>h.elim fun d h=>h.elim fun e h=>h.elim fun f h=>k a x1 x2 b c d e f h
end Go.Proofs.Ytkljfdkmjdjpfaa
end
section
set_option linter.unusedVariables false
set_option linter.unusedSimpArgs false
namespace Go.Proofs.Ytkljfdkmjdjpfaa
open Go.RowKit Go.WideShapes
structure Fq where
 Lo:Int
 Hi:Int
structure Ao where
 On:Int
 Be:Int
 AJ:Bool
structure AE where
 Av:Int
 AD:Int
 AJ:Int
 BA:Int
 BU:Int
structure Aq where
 Aj:Int
 Ai:Int
 Ak:Int
 AB:Int
 Ac:List AE
structure AT where
 Comes:List Int
 Ak:List Bool
structure Cg where
 Bw:Int
 BJ:Int
 B0:Int
 B1:Int
 AS:List AE
 CN:List Bool
 known:List (List Int×Ao)
structure Gq where
 B8:Int
 day:Int
structure By where
 a0:Int
 a1:Int
 a2:Int
 a3:Int
def By.set(x:By)(k:Nat)(v:Int):By:=⟨if k=0 then v else x.a0,if k=1 then v else x.a1,if k=2 then v else x.a2,if k=3 then v else x.a3⟩
def By.l(x:By):List Int:=[x.a0,x.a1,x.a2,x.a3]
theorem By.Rx(x:By)(k:Nat)(v:Int)(h:k<4): #[.int .i64 (x.set k v).a0,.int .i64 (x.set k v).a1,.int .i64 (x.set k v).a2,.int .i64 (x.set k v).a3]=setCells #[.int .i64 x.a0,.int .i64 x.a1,.int .i64 x.a2,.int .i64 x.a3] k [.int .i64 v]:=by
 match k,h with
 |0,_=>rfl
 |1,_=>rfl
 |2,_=>rfl
 |3,_=>rfl
 |k+4,h=>omega
def Cc:DC Ao:=⟨3,fun _ _ cs x=>cs=[.int .i64 x.On,.int .i64 x.Be,.bool x.AJ],fun h=>by rw[h];rfl,fun h=>by rw[h];simp[Value.oneCell'],fun h _=>h⟩
def AI:DC AE:=⟨5,fun _ _ cs x=>cs=[.int .i64 x.Av,.int .i64 x.AD,.int .i64 x.AJ,.int .i64 x.BA,.int .i64 x.BU],fun h=>by rw[h];rfl,fun h=>by rw[h];simp[Value.oneCell'],fun h _=>h⟩
def IQ:DC Aq:=⟨5,fun w Z cs x=>∃a b,cs=[.int .i64 x.Aj,.int .i64 x.Ai,.int .i64 x.Ak,.int .i64 x.AB,.slice a x.Ac.length b]∧Sl AI w Z a b x.Ac,fun⟨_,_,h,_⟩=>by rw[h];rfl,fun⟨_,_,h,_⟩=>by rw[h];simp[Value.oneCell'],fun⟨a,b,h,c⟩ g=>⟨a,b,h,c.mv g⟩⟩
def Fs:DC AT:=⟨2,fun w Z cs x=>∃a b c d,cs=[.slice a x.Comes.length b,.slice c x.Ak.length d]∧Sl (As .i64) w Z a b x.Comes∧Sl Bl w Z c d x.Ak,fun⟨_,_,_,_,h,_⟩=>by rw[h];rfl,fun⟨_,_,_,_,h,_⟩=>by rw[h];simp[Value.oneCell'],fun⟨a,b,c,d,h,h0,e⟩ g=>⟨a,b,c,d,h,h0.mv g,e.mv g⟩⟩
def QY:DC By:=⟨4,fun _ _ cs x=>cs=[.int .i64 x.a0,.int .i64 x.a1,.int .i64 x.a2,.int .i64 x.a3],fun h=>by rw[h];rfl,fun h=>by rw[h];simp[Value.oneCell'],fun h _=>h⟩
def KT(w:World)(Z:Nat→Prop)(q:Nat)(o:Option Nat):Option Cg→Prop
 |none=>Bk w q 69 #[.pointer none]∧o=none
 |some x=>∃(b r:Nat) (a:Option Addr) (c:Nat) (d:Option Addr) (e:Nat),Bk w q 69 #[pt b 0]∧Rz w Z (some ⟨b,0,none⟩) [I x.Bw,I x.BJ,I x.B0,I x.B1,.slice a x.AS.length c,.slice d x.CN.length e,.map (some r)]∧Sl AI w Z a c x.AS∧Sl Bl w Z d e x.CN∧B7 (fun x:Ao=>.agg #[I x.On,I x.Be,.bool x.AJ]) w r 2 x.known∧o=some r
theorem KT.keep{w w':World}{Z Z':Nat→Prop}{q:Nat}{o:Option Nat}:∀{x:Option Cg},KT w Z q o x→Mv w Z w' Z'→w'.heap[q]?=w.heap[q]?→(∀k,o=some k→w'.heap[k]?=w.heap[k]?)→KT w' Z' q o x
 |none,h,_,a,_=>⟨h.1.E3 a,h.2⟩
 |some x,⟨b,r,e,f,g,i,l,m,h0,n,hm,d⟩,c,a,p=>⟨b,r,e,f,g,i,l.E3 a,m.mv c,h0.mv c,n.mv c,hm.E3 (p r d),d⟩
end Go.Proofs.Ytkljfdkmjdjpfaa
end
section
set_option linter.unusedVariables false
set_option linter.unusedSimpArgs false
namespace Go.Proofs.Ytkljfdkmjdjpfaa
open Go.RowKit Go.WideShapes
def DG(d:Nat)(a:Int)(b:Int)(c:Int):Option (Bool):=
 cond (decide (b≤a)) (some (decide (a≤c))) (some (false))
def Ek(b:Nat)(a:Fq):Option (Int):=
 (i64 (a.Hi-a.Lo)).bind fun _=>(i64 ((a.Hi-a.Lo)+1)).bind fun _=>some ((a.Hi-a.Lo)+1)
def FM(c:Nat)(a:Fq)(b:Int):Option (Bool):=
 cond (decide ((0:Int)≤a.Lo)) (cond (decide (a.Lo≤a.Hi)) (some (decide (a.Hi≤b))) (some (false))) (some (false))
def FH(a:Nat)(b:Int):Option (Bool):=
 (DG a b 1 5).bind fun r1=>some (r1)
def Cy(d:Nat)(a:Int)(b:Int)(c:Bool):Option (Ao):=
 some ((⟨a,b,c⟩:Ao))
def EM(b:Nat)(a:Aq)(c:Int):Option (Bool):=
 (i64 ((a.Ac.length:Int)-1)).bind fun _=>(DG b c 0 ((a.Ac.length:Int)-1)).bind fun d=>some (d)
def CP(c:Nat)(b:AE)(a:Ao):Option (Bool):=
 cond (a.AJ) (some (decide (a.Be≤b.BU))) (some (false))
def DD(a:Nat)(b:AE)(c:Ao):Option (Bool):=
 (CP a b c).bind fun d=>some (!d)
end Go.Proofs.Ytkljfdkmjdjpfaa
end
section
set_option linter.unusedVariables false
set_option linter.unusedSimpArgs false
namespace Go.Proofs.Ytkljfdkmjdjpfaa
open Go.RowKit Go.WideShapes
def Ee(b:Nat)(c:Aq)(a:AE):Option (Bool):=
 (FM b (⟨a.Av,a.AD⟩:Fq) c.Aj).bind fun e=>cond (e) ((FH b a.AJ).bind fun f=>cond (f) ((FH b a.BA).bind fun g=>cond (g) ((DG b a.BU 0 c.Aj).bind fun d=>some (d)) (some (false))) (some (false))) (some (false))
def Dh(b:List Int)(c:List Int):Nat→Int→Option ((Bool)⊕(Unit))
 |0,_=>none
 |d+1,a=>cond (decide (a<(b.length:Int))) ((idx b a).bind fun e=>(idx c a).bind fun f=>cond (e !=f) (some (.inl false)) ((i64 (a+1)).bind fun _=>Dh b c d (a+1))) (some (.inr ()))
def EF(d:Nat)(b:List Int)(c:List Int):Option (Bool):=
 cond ((b.length:Int) !=(c.length:Int)) (some (false)) ((Dh b c d (0:Int)).bind fun z=>Sum.elim (fun a=>some (a)) (fun a=>some (true)) z)
def AQ(b:Nat)(a:Int):Option (Aq):=
 some ((⟨5,1,a,1,[(⟨0,0,2,2,2⟩:AE),(⟨1,1,2,1,5⟩:AE)]⟩:Aq))
def Cl(b:Nat)(a:Int):Option (AT):=
 (IJ (6:Int) 1).bind fun _=>(idx (List.replicate (6:Int).toNat false) a).bind fun c=>some ((⟨[0,1],(List.replicate (6:Int).toNat false).set a.toNat true⟩:AT))
def Dx(f:Nat)(a:List Ao)(b:Ao)(c:Ao):Option (Bool):=
 cond ((a.length:Int)==2) ((idx a (0:Int)).bind fun d=>cond (Gn [.inl d.On,.inl d.Be,.inr d.AJ] [.inl b.On,.inl b.Be,.inr b.AJ]) ((idx a (1:Int)).bind fun e=>some (Gn [.inl e.On,.inl e.Be,.inr e.AJ] [.inl c.On,.inl c.Be,.inr c.AJ])) (some (false))) (some (false))
end Go.Proofs.Ytkljfdkmjdjpfaa
end
section
set_option linter.unusedVariables false
set_option linter.unusedSimpArgs false
namespace Go.Proofs.Ytkljfdkmjdjpfaa
open Go.RowKit Go.WideShapes
def D2{a:Type}(e:Nat)(b:a→AE→Option (Bool×a))(c:AE)(d:a):Option (Bool×a):=
 (b d c).bind fun r2=>some ((!r2.1,r2.2))
def CJ{c:Type}(d:c→AE→Option (Bool×c))(e:List AE):Nat→Int→c→Option ((Int×c)⊕(c))
 |0,_,_=>none
 |g+1,a,b=>cond (decide (a<(e.length:Int))) ((idx e a).bind fun h=>(d b h).bind fun f=>cond (f.1) (some (.inl (a,f.2))) ((i64 (a+1)).bind fun _=>CJ d e g (a+1) f.2)) (some (.inr b))
def EA{b:Type}(d:Nat)(c:b→AE→Option (Bool×b))(e:List AE)(f:b):Option (Int×b):=
 (CJ c e d (0:Int) f).bind fun z=>Sum.elim (fun a=>some ((a.1,a.2))) (fun a=>some (((-1),a))) z
def Ea{a:Type}(c:Nat)(b:a→AE→Option (Bool×a))(d:List AE)(e:a):Option (Bool×a):=
 (EA c b d e).bind fun r1=>some ((decide ((0:Int)≤r1.1),r1.2))
def Ft{a:Type}(b:Nat)(c:a→AE→Option (Bool×a))(d:List AE)(e:a):Option (Bool×a):=
 (Ea b (fun(st:a) (x:AE)=>(D2 b c x st).bind fun r=>some (r.1,r.2)) d e).bind fun r2=>some ((!r2.1,r2.2))
def DM{a:Type}(e:Nat)(b:a→Bool→Option (Bool×a))(c:Bool)(d:a):Option (Bool×a):=
 (b d c).bind fun r1=>some ((!r1.1,r1.2))
def CA{c:Type}(d:c→Bool→Option (Bool×c))(e:List Bool):Nat→Int→c→Option ((Int×c)⊕(c))
 |0,_,_=>none
 |g+1,a,b=>cond (decide (a<(e.length:Int))) ((idx e a).bind fun h=>(d b h).bind fun f=>cond (f.1) (some (.inl (a,f.2))) ((i64 (a+1)).bind fun _=>CA d e g (a+1) f.2)) (some (.inr b))
def Er{b:Type}(d:Nat)(c:b→Bool→Option (Bool×b))(e:List Bool)(f:b):Option (Int×b):=
 (CA c e d (0:Int) f).bind fun z=>Sum.elim (fun a=>some ((a.1,a.2))) (fun a=>some (((-1),a))) z
def DZ{a:Type}(c:Nat)(b:a→Bool→Option (Bool×a))(d:List Bool)(e:a):Option (Bool×a):=
 (Er c b d e).bind fun r1=>some ((decide ((0:Int)≤r1.1),r1.2))
def Fe{a:Type}(b:Nat)(c:a→Bool→Option (Bool×a))(d:List Bool)(e:a):Option (Bool×a):=
 (DZ b (fun(st:a) (x:Bool)=>(DM b c x st).bind fun r=>some (r.1,r.2)) d e).bind fun r2=>some ((!r2.1,r2.2))
def Di(e:Nat)(d:Bool)(b:Int)(a:Int)(c:Aq):Option (Bool×Int×Int):=
 cond (!d) (some ((true,0,a))) ((i64 (a+1)).bind fun _=>(i64 (b+1)).bind fun _=>cond (decide ((a+1)≤c.Ak)) (some ((decide ((b+1)≤c.AB),b+1,a+1))) (some ((false,b+1,a+1))))
def DP(a:Nat)(b:Aq)(c:List Bool):Option (Bool):=
 (Fe a (fun(st:Int×Int) (x:Bool)=>(Di a x st.1 st.2 b).bind fun r=>some (r.1,(r.2.1,r.2.2))) c (0,0)).bind fun d=>some (d.1)
end Go.Proofs.Ytkljfdkmjdjpfaa
end
section
set_option linter.unusedVariables false
set_option linter.unusedSimpArgs false
namespace Go.Proofs.Ytkljfdkmjdjpfaa
open Go.RowKit Go.WideShapes
def DQ(c:List Int):Nat→Int→Int→Option (Int)
 |0,_,_=>none
 |d+1,b,a=>cond (decide (a<(c.length:Int))) ((idx c a).bind fun e=>(i64 (a+1)).bind fun _=>DQ c d (min b e) (a+1)) (some (b))
def FE(b:Nat)(a:List Int):Option (Int):=
 cond (decide ((a.length:Int)<1)) (none) ((idx a (0:Int)).bind fun x2=>(DQ a b x2 (1:Int)).bind fun z3=>some (z3))
def Fu(a:Nat)(b:List Int):Option (Int):=
 (FE a b).bind fun r1=>some (r1)
def Cr(b:Int)(d:List Bool):Nat→Int→(List Bool)→Option ((List Bool))
 |0,_,_=>none
 |e+1,a,c=>cond (decide (a<(d.length:Int))) ((MK b a).bind fun _=>(rem (EP b a) (2:Int)).bind fun _=>(idx c a).bind fun f=>(i64 (a+1)).bind fun _=>Cr b d e (a+1) (c.set a.toNat (((EP b a)%2)==1))) (some (c))
def Cs{c:Type}(d:c→(List Bool)→Option (Bool×c))(g:Nat)(h:Aq):Nat→Int→(List Bool)→c→Option ((c)⊕(c))
 |0,_,_,_=>none
 |k+1,a,e,b=>cond (decide (a<(Hm (1:Int) ((List.replicate (h.Aj+1).toNat false).length:Int)))) ((Cr a e g (0:Int) e).bind fun i=>(DP g h i).bind fun l=>cond (l) ((d b i).bind fun f=>cond (!f.1) (some (.inl f.2)) ((i64 (a+1)).bind fun _=>Cs d g h k (a+1) i f.2)) ((i64 (a+1)).bind fun _=>Cs d g h k (a+1) i b)) (some (.inr b))
def C6{c:Type}(d:Nat)(e:c→(List Bool)→Option (Bool×c))(a:Aq)(f:c):Option (c):=
 (i64 (a.Aj+1)).bind fun _=>(IJ (a.Aj+1) 1).bind fun _=>(MJ (1:Int) ((List.replicate (a.Aj+1).toNat false).length:Int)).bind fun _=>(Cs e d a d (0:Int) (List.replicate (a.Aj+1).toNat false) f).bind fun z=>Sum.elim (fun b=>some (b)) (fun b=>some (b)) z
end Go.Proofs.Ytkljfdkmjdjpfaa
end
section
set_option linter.unusedVariables false
set_option linter.unusedSimpArgs false
namespace Go.Proofs.Ytkljfdkmjdjpfaa
open Go.RowKit Go.WideShapes
def Ef(a:Int)(b:(List Bool)):Option (Bool×Int):=
 (i64 (a+1)).bind fun _=>some (true,a+1)
def Du(e:Nat)(f:Aq):Nat→Int→Int→Option (Int)
 |0,_,_=>none
 |h+1,b,a=>cond (decide (b<(f.Ac.length:Int))) ((idx f.Ac b).bind fun c=>(Ek e (⟨c.Av,c.AD⟩:Fq)).bind fun d=>(i64 (a*d)).bind fun _=>(Fu e [a*d,1001]).bind fun g=>(i64 (b+1)).bind fun _=>Du e f h (b+1) g) (some (a))
def Bh(b:Nat)(a:Aq):Option (Int):=
 cond (decide ((9:Int)<a.Aj)) (some (3)) (cond (decide ((2:Int)<a.Ai)) (some (3)) (cond (decide ((4:Int)<(a.Ac.length:Int))) (some (3)) (cond (decide (a.Aj<0)) (some (1)) (cond (decide (a.Ai<1)) (some (1)) ((i64 (a.Aj+1)).bind fun _=>(DG b a.Ak 0 (a.Aj+1)).bind fun g=>cond (!g) (some (1)) ((i64 (a.Aj+1)).bind fun _=>(DG b a.AB 0 (a.Aj+1)).bind fun c=>cond (!c) (some (1)) ((Ft b (fun(st:Unit) (x:AE)=>(Ee b a x).bind fun r=>some (r,())) a.Ac ()).bind fun d=>cond (!d.1) (some (1)) ((C6 b (fun(st:Int) (x:(List Bool))=>Ef st x) a (0:Int)).bind fun e=>(Du b a b (0:Int) e).bind fun f=>cond (decide ((1000:Int)<f)) (some (3)) (some (0))))))))))
end Go.Proofs.Ytkljfdkmjdjpfaa
end
section
set_option linter.unusedVariables false
set_option linter.unusedSimpArgs false
namespace Go.Proofs.Ytkljfdkmjdjpfaa
open Go.RowKit Go.WideShapes
def BW{f:Type}(g:Int→(List Int)→(List Bool)→Aq→f→Option (Bool×(List Int)×f))(e:Int)(k:List Bool)(i:Aq)(l:Int):Nat→Int→(List Int)→f→Option ((Bool×(List Int)×f)⊕((List Int)×f))
 |0,_,_,_=>none
 |m+1,a,b,d=>cond (decide (a<l)) ((idx i.Ac e).bind fun h=>(i64 (h.Av+a)).bind fun _=>(idx b e).bind fun n=>(i64 (e+1)).bind fun _=>(g (e+1) (b.set e.toNat (h.Av+a)) k i d).bind fun c=>cond (!c.1) (some (.inl (false,c.2.1,c.2.2))) ((i64 (a+1)).bind fun _=>BW g e k i l m (a+1) c.2.1 c.2.2)) (some (.inr (b,d)))
def BE{b:Type}(e:Nat)(d:b→AT→Option (Bool×b)):Nat→Int→(List Int)→(List Bool)→Aq→b→Option (Bool×(List Int)×b)
 |0,_,_,_,_,_=>none
 |l+1,f,c,g,h,i=>cond (f==(c.length:Int)) ((d i (⟨c,g⟩:AT)).bind fun r2=>some ((r2.1,c,r2.2))) ((idx h.Ac f).bind fun k=>(Ek e (⟨k.Av,k.AD⟩:Fq)).bind fun m=>(BW (BE e d l) f g h m e (0:Int) c i).bind fun z=>Sum.elim (fun a=>some ((a.1,a.2.1,a.2.2))) (fun a=>some ((true,a.1,a.2))) z)
end Go.Proofs.Ytkljfdkmjdjpfaa
end
section
set_option linter.unusedVariables false
set_option linter.unusedSimpArgs false
namespace Go.Proofs.Ytkljfdkmjdjpfaa
open Go.RowKit Go.WideShapes
def CU{c:Type}(e:c→AT→Option (Bool×c))(f:Nat)(g:Aq)(b:List Int)(d:c)(h:(List Bool)):Option (Bool×((List Int)×c×Bool)):=
 (BE f e f 0 b h g d).bind fun a=>cond (!a.1) (some (false,a.2.1,a.2.2,true)) (some (true,a.2.1,a.2.2,false))
def Eg{a:Type}(d:Nat)(e:a→AT→Option (Bool×a))(b:Aq)(f:a):Option (a):=
 (IJ (b.Ac.length:Int) 8).bind fun _=>(C6 d (fun(st:(List Int)×a×Bool) (x:(List Bool))=>cond st.2.2 none (CU e d b st.1 st.2.1 x)) b (List.replicate (b.Ac.length:Int).toNat (0:Int),f,false)).bind fun c=>cond (c.2.2) (some (c.2.1)) (some (c.2.1))
end Go.Proofs.Ytkljfdkmjdjpfaa
end
section
set_option linter.unusedVariables false
set_option linter.unusedSimpArgs false
namespace Go.Proofs.Ytkljfdkmjdjpfaa
open Go.RowKit Go.WideShapes
def C7(b:List Bool)(c:List Bool):Nat→Int→Option ((Bool)⊕(Unit))
 |0,_=>none
 |d+1,a=>cond (decide (a<(b.length:Int))) ((idx b a).bind fun e=>(idx c a).bind fun f=>cond (e !=f) (some (.inl false)) ((i64 (a+1)).bind fun _=>C7 b c d (a+1))) (some (.inr ()))
def DR(d:Nat)(b:List Bool)(c:List Bool):Option (Bool):=
 cond ((b.length:Int) !=(c.length:Int)) (some (false)) ((C7 b c d (0:Int)).bind fun z=>Sum.elim (fun a=>some (a)) (fun a=>some (true)) z)
def CV(d:Nat)(c:Aq)(e:AT):Nat→Int→Option ((Bool)⊕(Unit))
 |0,_=>none
 |h+1,a=>cond (decide (a<(c.Ac.length:Int))) ((idx c.Ac a).bind fun b=>(idx e.Comes a).bind fun f=>(DG d f b.Av b.AD).bind fun g=>cond (!g) (some (.inl false)) ((i64 (a+1)).bind fun _=>CV d c e h (a+1))) (some (.inr ()))
def Et(d:Nat)(a:Aq)(c:AT):Option (Bool):=
 cond ((c.Comes.length:Int) !=(a.Ac.length:Int)) (some (false)) ((i64 (a.Aj+1)).bind fun _=>cond ((c.Ak.length:Int) !=(a.Aj+1)) (some (false)) ((DP d a c.Ak).bind fun e=>cond (!e) (some (false)) ((CV d a c d (0:Int)).bind fun z=>Sum.elim (fun b=>some (b)) (fun b=>some (true)) z)))
def Dp(i:Cg)(h:Gq)(f:AE):Nat→Int→Int→Int→Int→Int→Bool→Option ((Int×Int×Bool)⊕(Int×Int×Bool))
 |0,_,_,_,_,_,_=>none
 |k+1,b,g,a,c,d,e=>cond (decide (a≤i.Bw)) ((idx i.CN a).bind fun l=>cond (l) ((i64 (g+1)).bind fun _=>cond (b==f.AJ) (some (.inl (h.day,a,b==f.AJ))) (cond ((g+1)==f.BA) (some (.inl (h.day,a,b==f.AJ))) ((i64 (a+1)).bind fun _=>Dp i h f k b (g+1) (a+1) c d e))) ((i64 (b+1)).bind fun _=>cond ((b+1)==f.AJ) (some (.inl (h.day,a,(b+1)==f.AJ))) (cond ((0:Int)==f.BA) (some (.inl (h.day,a,(b+1)==f.AJ))) ((i64 (a+1)).bind fun _=>Dp i h f k (b+1) (0:Int) (a+1) c d e)))) (some (.inr (c,d,e)))
def EG(d:Nat)(c:Cg)(b:Gq):Option (Ao):=
 cond (decide (c.Bw<b.day)) (some ((⟨(-1),(-1),false⟩:Ao))) ((idx c.AS b.B8).bind fun e=>(Dp c b e d (0:Int) (0:Int) b.day (0:Int) (0:Int) false).bind fun z=>Sum.elim (fun a=>some ((⟨a.1,a.2.1,a.2.2⟩:Ao))) (fun a=>some ((⟨b.day,(-1),false⟩:Ao))) z)
def Ex(d:Nat)(b:Cg)(a:Gq):Option (Ao×(List (List Int×Ao))):=
 cond (!((Bv b.known [a.B8,a.day]).isSome)) ((EG d b a).bind fun c=>some ((c,Gm b.known [a.B8,a.day] c))) (some ((((Bv b.known [a.B8,a.day]).getD (⟨0,0,false⟩:Ao)),b.known)))
def Db(i:Nat)(c:Cg)(k:List Int)(g:List Int):Nat→Int→Int→(List Ao)→(List (List Int×Ao))→Option ((List Ao)×(List (List Int×Ao)))
 |0,_,_,_,_=>none
 |l+1,h,a,d,e=>cond (decide (a<(g.length:Int))) ((idx g a).bind fun f=>(idx k f).bind fun m=>(Ex i (⟨c.Bw,c.BJ,c.B0,c.B1,c.AS,c.CN,e⟩:Cg) (⟨f,max h m⟩:Gq)).bind fun b=>(idx d f).bind fun n=>(i64 (b.1.Be+1)).bind fun _=>cond (b.1.Be==(-1)) ((i64 (c.Bw+1)).bind fun _=>(i64 (a+1)).bind fun _=>Db i c k g l (c.Bw+1) (a+1) (d.set f.toNat b.1) b.2) ((i64 (a+1)).bind fun _=>Db i c k g l (b.1.Be+1) (a+1) (d.set f.toNat b.1) b.2)) (some ((d,e)))
def CS(d:Nat)(f:Cg)(e:List (List Int))(g:List Int):Nat→Int→(List Ao)→(List (List Int×Ao))→Option ((List Ao)×(List (List Int×Ao)))
 |0,_,_,_=>none
 |i+1,a,c,b=>cond (decide (a<(e.length:Int))) ((idx e a).bind fun k=>(Db d f g k d (0:Int) (0:Int) c b).bind fun h=>(i64 (a+1)).bind fun _=>CS d f e g i (a+1) h.1 h.2) (some ((c,b)))
def CB(b:Nat)(a:Cg)(c:List (List Int))(d:List Int):Option ((List Ao)×(List (List Int×Ao))):=
 (IJ (a.AS.length:Int) 24).bind fun _=>(CS b a c d b (0:Int) (List.replicate (a.AS.length:Int).toNat (⟨0,0,false⟩:Ao)) a.known).bind fun z3=>some ((z3.1,z3.2))
end Go.Proofs.Ytkljfdkmjdjpfaa
end
section
set_option linter.unusedVariables false
set_option linter.unusedSimpArgs false
namespace Go.Proofs.Ytkljfdkmjdjpfaa
open Go.RowKit Go.WideShapes
def C8(c:List (List Int)):Nat→(List Int)→Int→Option ((List Int))
 |0,_,_=>none
 |e+1,b,a=>cond (decide (a<(c.length:Int))) ((idx c a).bind fun d=>(GA (((b.length+d.length:Nat):Int)≤140737488355328/8)).bind fun _=>(i64 (a+1)).bind fun _=>C8 c e (b++d) (a+1)) (some (b))
def CX(b:Aq)(z2:(List Int)):Nat→Int→Option ((Bool)⊕(Unit))
 |0,_=>none
 |d+1,a=>cond (decide (a<(b.Ac.length:Int))) (cond (((CM z2).length:Int) !=(b.Ac.length:Int)) (some (.inl false)) ((idx (CM z2) a).bind fun c=>cond (c !=a) (some (.inl false)) ((i64 (a+1)).bind fun _=>CX b z2 d (a+1)))) (some (.inr ()))
def Dz(c:Nat)(b:Aq)(d:List (List Int)):Option (Bool):=
 (C8 d c ([]:List Int) (0:Int)).bind fun z2=>(GA ((z2.length:Int)≤100000)).bind fun _=>(CX b z2 c (0:Int)).bind fun z=>Sum.elim (fun a=>some (a)) (fun a=>cond ((d.length:Int)==b.Ai) (some (((CM z2).length:Int)==(b.Ac.length:Int))) (some (false))) z
def CL(b:Nat)(a:Aq)(d:List (List Int))(c:AT):Option ((List Ao)×Int):=
 (Bh b a).bind fun e=>cond (e !=0) (some ((([]:List Ao),e))) ((Dz b a d).bind fun h=>cond (!h) (some ((([]:List Ao),2))) ((Et b a c).bind fun f=>cond (!f) (some ((([]:List Ao),2))) ((CB b (⟨a.Aj,a.Ai,a.Ak,a.AB,a.Ac,c.Ak,[]⟩:Cg) d c.Comes).bind fun g=>some ((g.1,0)))))
end Go.Proofs.Ytkljfdkmjdjpfaa
end
section
set_option linter.unusedVariables false
set_option linter.unusedSimpArgs false
namespace Go.Proofs.Ytkljfdkmjdjpfaa
open Go.RowKit Go.WideShapes
def Dc(d:Nat)(e:Aq)(c:List Ao):Nat→Int→Int→Option (Int)
 |0,_,_=>none
 |f+1,b,a=>cond (decide (a<(c.length:Int))) ((idx c a).bind fun i=>(idx e.Ac a).bind fun g=>(DD d g i).bind fun h=>cond (h) ((i64 (b+1)).bind fun _=>(i64 (a+1)).bind fun _=>Dc d e c f (b+1) (a+1)) ((i64 (a+1)).bind fun _=>Dc d e c f b (a+1))) (some (b))
def D4(a:Nat)(b:Aq)(c:List Ao):Option (Int):=
 (Dc a b c a (0:Int) (0:Int)).bind fun z4=>some (z4)
def D6(d:Nat)(a:AT)(e:List Ao)(b:Aq)(c:Int)(f:AT):Option (Bool×Int×AT):=
 (D4 d b e).bind fun r2=>cond (decide (c<r2)) ((GA (((0+a.Comes.length:Nat):Int)≤140737488355328/8)).bind fun _=>(GA (((0+a.Ak.length:Nat):Int)≤140737488355328/1)).bind fun _=>some ((decide (r2<(b.Ac.length:Int)),r2,a))) (some ((decide (c<(b.Ac.length:Int)),c,f)))
def Cp{k:Type}(h:k→(AE×Ao)→Option (Bool×k))(l:List Ao)(m:Aq):Nat→Int→Int→Int→Int→Int→k→Option (Int×Int×Int×Int×k)
 |0,_,_,_,_,_,_=>none
 |n+1,a,b,c,d,e,g=>cond (decide (a<(l.length:Int))) ((idx l a).bind fun p=>(idx m.Ac a).bind fun o=>(h g (o,p)).bind fun i=>cond (i.1) ((idx ([b,c,d,e]:List Int) a).bind fun f=>(i64 (f+1)).bind fun _=>(idx ([b,c,d,e]:List Int) a).bind fun q=>(i64 (a+1)).bind fun _=>Cp h l m n (a+1) (((⟨b,c,d,e⟩:By).set a.toNat (f+1)).a0) (((⟨b,c,d,e⟩:By).set a.toNat (f+1)).a1) (((⟨b,c,d,e⟩:By).set a.toNat (f+1)).a2) (((⟨b,c,d,e⟩:By).set a.toNat (f+1)).a3) i.2) ((i64 (a+1)).bind fun _=>Cp h l m n (a+1) b c d e i.2)) (some ((b,c,d,e,g)))
def CF{a:Type}(e:Nat)(c:a→(AE×Ao)→Option (Bool×a))(i:AT)(f:List Ao)(d:Int)(g:Aq)(b:By)(h:a):Option (Bool×Int×By×a):=
 (i64 (d+1)).bind fun _=>(Cp c f g e (0:Int) b.a0 b.a1 b.a2 b.a3 h).bind fun z4=>some ((true,d+1,(⟨z4.1,z4.2.1,z4.2.2.1,z4.2.2.2.1⟩:By),z4.2.2.2.2))
end Go.Proofs.Ytkljfdkmjdjpfaa
end
section
set_option linter.unusedVariables false
set_option linter.unusedSimpArgs false
namespace Go.Proofs.Ytkljfdkmjdjpfaa
open Go.RowKit Go.WideShapes
def Dd{n:Type}(f:n→(AT×(List Ao))→Option (Bool×n))(o:Nat)(a:Aq)(p:List (List Int))(e:Option Cg)(d:n)(c:AT):Option (Bool×((Option Cg)×n×Bool)):=
 Option.elim e ((GA (((0+c.Ak.length:Nat):Int)≤140737488355328/1)).bind fun _=>(CB o (⟨a.Aj,a.Ai,a.Ak,a.AB,a.Ac,c.Ak,[]⟩:Cg) p c.Comes).bind fun g=>(f d (c,g.1)).bind fun h=>cond (!h.1) (some (false,(some (⟨a.Aj,a.Ai,a.Ak,a.AB,a.Ac,c.Ak,g.2⟩:Cg)),h.2,true)) (some (true,(some (⟨a.Aj,a.Ai,a.Ak,a.AB,a.Ac,c.Ak,g.2⟩:Cg)),h.2,false))) (fun b=>(DR o b.CN c.Ak).bind fun q=>cond (!q) ((GA (((0+c.Ak.length:Nat):Int)≤140737488355328/1)).bind fun _=>(CB o (⟨a.Aj,a.Ai,a.Ak,a.AB,a.Ac,c.Ak,[]⟩:Cg) p c.Comes).bind fun i=>(f d (c,i.1)).bind fun k=>cond (!k.1) (some (false,(some (⟨a.Aj,a.Ai,a.Ak,a.AB,a.Ac,c.Ak,i.2⟩:Cg)),k.2,true)) (some (true,(some (⟨a.Aj,a.Ai,a.Ak,a.AB,a.Ac,c.Ak,i.2⟩:Cg)),k.2,false))) ((CB o b p c.Comes).bind fun l=>(f d (c,l.1)).bind fun m=>cond (!m.1) (some (false,(some (⟨b.Bw,b.BJ,b.B0,b.B1,b.AS,b.CN,l.2⟩:Cg)),m.2,true)) (some (true,(some (⟨b.Bw,b.BJ,b.B0,b.B1,b.AS,b.CN,l.2⟩:Cg)),m.2,false))))
def Ey{a:Type}(c:Nat)(d:a→(AT×(List Ao))→Option (Bool×a))(e:Aq)(f:List (List Int))(g:a):Option (a):=
 (Eg c (fun(st:(Option Cg)×a×Bool) (x:AT)=>cond st.2.2 none (Dd d c e f st.1 st.2.1 x)) e (none,g,false)).bind fun b=>cond (b.2.2) (some (b.2.1)) (some (b.2.1))
end Go.Proofs.Ytkljfdkmjdjpfaa
end
section
set_option linter.unusedVariables false
set_option linter.unusedSimpArgs false
namespace Go.Proofs.Ytkljfdkmjdjpfaa
open Go.RowKit Go.WideShapes
def Ch{a:Type}(c:Nat)(d:a→(AE×Ao)→Option (Bool×a))(e:Aq)(f:List (List Int))(g:a):Option (By×Int×a):=
 (Ey c (fun(st:Int×By×a) (x:AT×(List Ao))=>(CF c d x.1 x.2 st.1 e st.2.1 st.2.2).bind fun r=>some (r.1,(r.2.1,r.2.2.1,r.2.2.2))) e f (0,(⟨0,0,0,0⟩:By),g)).bind fun b=>some ((b.2.1,b.1,b.2.2))
def Ez(a:Nat)(b:Aq)(d:List (List Int)):Option (Int×AT):=
 (Ey a (fun(st:Int×AT) (x:AT×(List Ao))=>(D6 a x.1 x.2 b st.1 st.2).bind fun r=>some (r.1,(r.2.1,r.2.2))) b d ((-1),(⟨([]:List Int),([]:List Bool)⟩:AT))).bind fun c=>some ((c.1,c.2))
def CQ(b:Nat)(c:Aq)(e:List (List Int))(f:Int):Option (Int×Int):=
 (Bh b c).bind fun r2=>cond (r2 !=0) (some ((0,r2))) ((Dz b c e).bind fun h=>cond (!h) (some ((0,2))) ((EM b c f).bind fun g=>cond (!g) (some ((0,2))) ((Ch b (fun(st:Unit) (x:AE×Ao)=>(CP b x.1 x.2).bind fun r=>some (r,())) c e ()).bind fun a=>(idx ([a.1.a0,a.1.a1,a.1.a2,a.1.a3]:List Int) f).bind fun d=>cond (d==a.2.1) (some ((1,0))) (cond (d==0) (some ((2,0))) (some ((3,0)))))))
def EB(b:Nat)(c:Aq)(d:List (List Int)):Option (Int×AT×Int):=
 (Bh b c).bind fun e=>cond (e !=0) (some ((0,(⟨([]:List Int),([]:List Bool)⟩:AT),e))) ((Dz b c d).bind fun f=>cond (!f) (some ((0,(⟨([]:List Int),([]:List Bool)⟩:AT),2))) ((Ez b c d).bind fun a=>some ((a.1,a.2,0))))
def Cf(a:Nat)(b:Aq)(c:List (List Int))(d:Int):Option (Bool):=
 (EB a b c).bind fun r2=>cond (r2.2.2==0) (some (decide (r2.1≤d))) (some (false))
def CD(a:Nat)(b:Aq)(d:List (List Int))(e:AT)(f:Int):Option (Bool):=
 (CL a b d e).bind fun c=>cond (c.2==0) ((D4 a b c.1).bind fun g=>some (decide (f≤g))) (some (false))
end Go.Proofs.Ytkljfdkmjdjpfaa
end
section
set_option linter.unusedVariables false
set_option linter.unusedSimpArgs false
namespace Go.Proofs.Ytkljfdkmjdjpfaa
open Go.RowKit Go.WideShapes
def D5(c:List (List Int)):Nat→Int→(List (List Int))→Option ((List (List Int)))
 |0,_,_=>none
 |e+1,a,b=>cond (decide (a<(c.length:Int))) ((idx b a).bind fun d=>(GA (((0+d.length:Nat):Int)≤140737488355328/8)).bind fun _=>(idx b a).bind fun f=>(i64 (a+1)).bind fun _=>D5 c e (a+1) (b.set a.toNat d)) (some (b))
def En(b:Nat)(a:List (List Int)):Option ((List (List Int))):=
 (GA (((0+a.length:Nat):Int)≤140737488355328/24)).bind fun _=>(D5 a b (0:Int) a).bind fun z4=>some (z4)
end Go.Proofs.Ytkljfdkmjdjpfaa
end
section
set_option linter.unusedVariables false
set_option linter.unusedSimpArgs false
namespace Go.Proofs.Ytkljfdkmjdjpfaa
open Go.RowKit Go.WideShapes
def Fb(b:Nat)(c:List (List Int))(d:Aq)(a:Int)(e:List (List Int)):Option (Bool×Int×(List (List Int))):=
 (Ez b d c).bind fun r1=>cond (decide (r1.1<a)) ((En b c).bind fun f=>some ((decide ((0:Int)<r1.1),r1.1,f))) (some ((decide ((0:Int)<a),a,e)))
def DE(c:Aq)(r1:By×Int×Unit):Nat→Int→Int→Option (Int)
 |0,_,_=>none
 |d+1,b,a=>cond (decide (a<(c.Ac.length:Int))) ((idx ([r1.1.a0,r1.1.a1,r1.1.a2,r1.1.a3]:List Int) a).bind fun e=>cond (e==0) ((i64 (b+1)).bind fun _=>(i64 (a+1)).bind fun _=>DE c r1 d (b+1) (a+1)) ((i64 (a+1)).bind fun _=>DE c r1 d b (a+1))) (some (b))
def Dy(c:Aq)(r1:By×Int×Unit):Nat→Int→Int→Option (Int)
 |0,_,_=>none
 |d+1,b,a=>cond (decide (a<(c.Ac.length:Int))) ((idx ([r1.1.a0,r1.1.a1,r1.1.a2,r1.1.a3]:List Int) a).bind fun e=>cond (e==0) ((i64 (b+1)).bind fun _=>(i64 (a+1)).bind fun _=>Dy c r1 d (b+1) (a+1)) ((i64 (a+1)).bind fun _=>Dy c r1 d b (a+1))) (some (b))
def D0(c:Nat)(e:List (List Int))(b:Aq)(a:Int)(d:By)(f:List (List Int)):Option (Bool×Int×By×(List (List Int))):=
 (Ch c (fun(st:Unit) (x:AE×Ao)=>(DD c x.1 x.2).bind fun r=>some (r,())) b e ()).bind fun r1=>cond (decide ((0:Int)≤a)) (cond ([r1.1.a0,r1.1.a1,r1.1.a2,r1.1.a3]==[d.a0,d.a1,d.a2,d.a3]) (some ((true,a,d,f))) ((DE b r1 c (0:Int) (0:Int)).bind fun z9=>cond (decide (a<z9)) ((En c e).bind fun g=>some ((decide (z9<(b.Ac.length:Int)),z9,r1.1,g))) (some ((decide (a<(b.Ac.length:Int)),a,r1.1,f))))) ((Dy b r1 c (0:Int) (0:Int)).bind fun z22=>cond (decide (a<z22)) ((En c e).bind fun h=>some ((decide (z22<(b.Ac.length:Int)),z22,r1.1,h))) (some ((decide (a<(b.Ac.length:Int)),a,r1.1,f))))
end Go.Proofs.Ytkljfdkmjdjpfaa
end
section
set_option linter.unusedVariables false
set_option linter.unusedSimpArgs false
namespace Go.Proofs.Ytkljfdkmjdjpfaa
open Go.RowKit Go.WideShapes
def B2{g:Type}(h:Int→Aq→(List (List Int))→g→Option (Bool×(List (List Int))×g))(i:Int)(k:Aq)(c:Int)(f:List Int):Nat→Int→(List (List Int))→g→Option ((Bool×(List (List Int))×g)⊕((List (List Int))×g))
 |0,_,_,_=>none
 |l+1,a,b,e=>cond (decide (a<((f.length:Int)+1))) ((GA (((0+f.length:Nat):Int)≤140737488355328/8)).bind fun _=>(GA (0≤a∧a≤(f.length:Int)∧((f.length:Int)+1)*8≤140737488355328)).bind fun _=>(idx b c).bind fun m=>(i64 (i+1)).bind fun _=>(h (i+1) k (b.set c.toNat (Cx f a i)) e).bind fun d=>cond (!d.1) (some (.inl (false,d.2.1,d.2.2))) ((i64 (a+1)).bind fun _=>B2 h i k c f l (a+1) d.2.1 d.2.2)) (some (.inr (b,e)))
def BX{e:Type}(f:Int→Aq→(List (List Int))→e→Option (Bool×(List (List Int))×e))(h:Nat)(i:Int)(k:Aq)(l:List (List Int)):Nat→Int→(List (List Int))→e→Option ((Bool×(List (List Int))×e)⊕((List (List Int))×e))
 |0,_,_,_=>none
 |m+1,a,b,d=>cond (decide (a<(l.length:Int))) ((idx b a).bind fun g=>(i64 ((g.length:Int)+1)).bind fun _=>(B2 f i k a g h (0:Int) b d).bind fun z=>Sum.elim (fun c=>some (.inl (c.1,c.2.1,c.2.2))) (fun c=>(idx c.1 a).bind fun n=>(i64 (a+1)).bind fun _=>BX f h i k l m (a+1) (c.1.set a.toNat g) c.2) z) (some (.inr (b,d)))
def Bn{b:Type}(e:Nat)(d:b→(List (List Int))→Option (Bool×b)):Nat→Int→Aq→(List (List Int))→b→Option (Bool×(List (List Int))×b)
 |0,_,_,_,_=>none
 |i+1,f,g,c,h=>cond (f==(g.Ac.length:Int)) ((d h c).bind fun r2=>some ((r2.1,c,r2.2))) ((BX (Bn e d i) e f g c e (0:Int) c h).bind fun z=>Sum.elim (fun a=>some ((a.1,a.2.1,a.2.2))) (fun a=>some ((true,a.1,a.2))) z)
end Go.Proofs.Ytkljfdkmjdjpfaa
end
section
set_option linter.unusedVariables false
set_option linter.unusedSimpArgs false
namespace Go.Proofs.Ytkljfdkmjdjpfaa
open Go.RowKit Go.WideShapes
def D9{a:Type}(c:Nat)(d:a→(List (List Int))→Option (Bool×a))(b:Aq)(e:a):Option (a):=
 (IJ b.Ai 24).bind fun _=>(Bn c d c 0 b (List.replicate b.Ai.toNat ([]:List Int)) e).bind fun f=>some (f.2.2)
end Go.Proofs.Ytkljfdkmjdjpfaa
end
section
set_option linter.unusedVariables false
set_option linter.unusedSimpArgs false
namespace Go.Proofs.Ytkljfdkmjdjpfaa
open Go.RowKit Go.WideShapes
def ES(c:Nat)(a:Aq):Option ((List (List Int))×Int×Int):=
 (Bh c a).bind fun d=>cond (d !=0) (some ((([]:List (List Int)),0,d))) ((i64 ((a.Ac.length:Int)+1)).bind fun _=>(D9 c (fun(st:Int×(List (List Int))) (x:(List (List Int)))=>(Fb c x a st.1 st.2).bind fun r=>some (r.1,(r.2.1,r.2.2))) a ((a.Ac.length:Int)+1,([]:List (List Int)))).bind fun b=>some ((b.2,b.1,0)))
def ET(b:Nat)(c:Aq):Option ((List (List Int))×Int×Int):=
 (Bh b c).bind fun d=>cond (d !=0) (some ((([]:List (List Int)),0,d))) ((D9 b (fun(st:Int×By×(List (List Int))) (x:(List (List Int)))=>(D0 b x c st.1 st.2.1 st.2.2).bind fun r=>some (r.1,(r.2.1,r.2.2.1,r.2.2.2))) c ((-1),(⟨0,0,0,0⟩:By),([]:List (List Int)))).bind fun a=>some ((a.2.2,a.1,0)))
end Go.Proofs.Ytkljfdkmjdjpfaa
end
section
set_option linter.unusedVariables false
set_option linter.unusedSimpArgs false
namespace Go.Proofs.Ytkljfdkmjdjpfaa
open Go.RowKit Go.WideShapes
def Dq(e:Nat)(c:Aq):Nat→(List Int)→Int→Option ((List Int))
 |0,_,_=>none
 |f+1,b,a=>cond (decide (a<(c.Ac.length:Int))) ((IJ c.Ai 24).bind fun _=>(idx (List.replicate c.Ai.toNat ([]:List Int)) (0:Int)).bind fun _=>(HH (c.Ac.length:Int) a e (0:Int) ((List.replicate c.Ai.toNat ([]:List Int)).set 0 [a])).bind fun g=>(Ch e (fun(st:Unit) (x:AE×Ao)=>(CP e x.1 x.2).bind fun r=>some (r,())) c g ()).bind fun d=>(idx ([d.1.a0,d.1.a1,d.1.a2,d.1.a3]:List Int) a).bind fun h=>cond (h==d.2.1) ((i64 (a+1)).bind fun _=>Dq e c f b (a+1)) ((GA (((b.length+[a].length:Nat):Int)≤140737488355328/8)).bind fun _=>(i64 (a+1)).bind fun _=>Dq e c f (b++[a]) (a+1))) (some (b))
def DO(a:Nat)(b:Aq):Option ((List Int)×Int):=
 (Bh a b).bind fun r2=>cond (r2 !=0) (some ((([]:List Int),r2))) ((Dq a b a ([]:List Int) (0:Int)).bind fun z5=>some ((z5,0)))
end Go.Proofs.Ytkljfdkmjdjpfaa
end
section
set_option linter.unusedVariables false
set_option linter.unusedSimpArgs false
namespace Go.Proofs.Ytkljfdkmjdjpfaa
open Go.RowKit Go.WideShapes
def Eu(a:Nat):Option (Bool):=
 (AQ a 1).bind fun r1=>(Cl a 3).bind fun w=>(CL a r1 [[0,1]] w).bind fun h=>(AQ a 1).bind fun x=>(CQ a x [[0,1]] 1).bind fun d=>(AQ a 1).bind fun i=>(CQ a i [[1,0]] 0).bind fun e=>(AQ a 1).bind fun k=>(EB a k [[1,0]]).bind fun b=>(AQ a 1).bind fun l=>(ES a l).bind fun c=>(AQ a 1).bind fun m=>(ET a m).bind fun f=>(AQ a 1).bind fun n=>(DO a n).bind fun g=>cond (h.2==0) ((Cy a 0 1 true).bind fun o=>(Cy a 2 3 false).bind fun p=>(Dx a h.1 o p).bind fun q=>cond (q) (cond (d.2==0) (cond (d.1==3) (cond (e.2==0) (cond (e.1==2) (cond (b.2.2==0) (cond (b.1==2) ((AQ a 1).bind fun r=>(CD a r [[1,0]] b.2.1 2).bind fun s=>cond (s) (cond (c.2.2==0) (cond (c.2.1==1) ((AQ a 1).bind fun t=>(Cf a t c.1 1).bind fun u=>cond (u) (cond (f.2.2==0) (cond (f.2.1==1) (cond (g.2==0) ((EF a g.1 [1]).bind fun v=>some (v)) (some (false))) (some (false))) (some (false))) (some (false))) (some (false))) (some (false))) (some (false))) (some (false))) (some (false))) (some (false))) (some (false))) (some (false))) (some (false))) (some (false))) (some (false))
end Go.Proofs.Ytkljfdkmjdjpfaa
end
section
namespace Go.Proofs.Ytkljfdkmjdjpfaa
theorem bd{α β:Type}{x:Option α}{a:α}{f:α→Option β}(h:x=some a):x.bind f=f a:=by rw[h];rfl
theorem Cm{β:Type}{x:Int}{f:Int→Option β}(h0:-9223372036854775808≤x)(a:x≤9223372036854775807):(i64 x).bind f=f x:=bd (PD h0 a)
theorem Eb{α β:Type}{xs:List α}{k:Nat}{f:α→Option β}(h:k<xs.length):(idx xs (k:Int)).bind f=f xs[k]:=bd (idx_eq h)
theorem GV{β:Type}{p:Prop}[Decidable p]{f:Unit→Option β}(h:p):(GA p).bind f=f ():=bd (if_pos h)
theorem Ry{β:Type}{a b:Int}{f:Int→Option β}(h0:0≤a)(c:1≤b):(rem a b).bind f=f (a%b):=bd (if_pos ⟨h0,c⟩)
theorem Mi{β:Type}{n:Int}{b:Nat}{f:Unit→Option β}(h0:0≤n)(a:n*b≤140737488355328)(c:n≤140737488355328):(IJ n b).bind f=f ():=bd (if_pos ⟨h0,a,c⟩)
theorem ct{α:Type}{b:Bool}{x y:α}(h:b=true):cond b x y=x:=by rw[h];rfl
theorem cf{α:Type}{b:Bool}{x y:α}(h:b=false):cond b x y=y:=by rw[h];rfl
theorem nt{α:Type}{x y:α}:cond (!true) x y=y:=rfl
theorem nf{α:Type}{x y:α}:cond (!false) x y=x:=rfl
theorem dt{p:Prop}[Decidable p](h:p):decide p=true:=decide_eq_true h
theorem df{p:Prop}[Decidable p](h:¬p):decide p=false:=decide_eq_false h
theorem EH(i:Nat):(i:Int)+1=((i+1:Nat):Int):=by omega
def FQ(n a b:Int):Bool:=decide (a≤n)&&decide (n≤b)
theorem FY{n a b:Int}:FQ n a b=true↔a≤n∧n≤b:=by simp[FQ]
theorem Gf(K:Nat)(n a b:Int):DG K n a b=some (FQ n a b):=by unfold DG FQ;cases decide (a≤n)<;>rfl
def run {σ α:Type} (cb:σ→α→Option (Bool×σ)):List α→σ→Option (Bool×σ)
 |[],s=>some (true,s)
 |x::l,s=>(cb s x).bind fun r=>cond r.1 (run cb l r.2) (some (false,r.2))
theorem Gr{σ α:Type}(cb:σ→α→Option (Bool×σ))(a:List α):∀(b:List α) (s:σ),run cb (b++a) s=(run cb b s).bind fun r=>cond r.1 (run cb a r.2) (some (false,r.2))
 |[],s=>rfl
 |x::l,s=>by
  simp only[List.cons_append,run];cases cb s x with
  |none=>rfl
  |some r=>
   simp only[Option.bind_some];cases h:r.1 with
   |false=>simp
   |true=>simpa using Gr cb a l r.2
theorem run_map{σ α β:Type}(cb:σ→β→Option (Bool×σ))(f:α→β):∀(l:List α) (s:σ),run cb (l.map f) s=run (fun s x=>cb s (f x)) l s
 |[],s=>rfl
 |x::l,s=>by simp only[List.map_cons,run,run_map cb f l]
theorem MS{σ:Type}(K:Nat)(cb:σ→Bool→Option (Bool×σ))(p:List Bool)(a:p.length≤5000):∀(n m i:Nat) (s:σ),p.length=i+n→n<m→
  (CA (fun(st:σ) (x:Bool)=>(DM K cb x st).bind fun r=>some (r.1,r.2)) p m (i:Int) s).bind (fun z=>Sum.elim (fun q=>some (decide ((0:Int)≤q.1),q.2)) (fun q=>some (false,q)) z)=(run cb (p.drop i) s).bind fun r=>some (!r.1,r.2):=by
 intro n
 induction n with
 |zero=>
  intro m i s h hm;cases m with
  |zero=>omega
  |succ m=>
   rw[CA.eq_2,cf (df (by omega)),List.drop_eq_nil_of_le (by omega)];rfl
 |succ n ih=>
  intro m i s h hm;cases m with
  |zero=>omega
  |succ m=>
   have hi:i<p.length:=by omega
   rw[CA.eq_2,ct (dt (by omega)),Eb hi,List.drop_eq_getElem_cons hi];simp only[run];have e:(DM K cb p[i] s).bind (fun r=>some (r.1,r.2))=(cb s p[i]).bind fun r=>some (!r.1,r.2):=by
    unfold DM;cases cb s p[i]<;>rfl
   rw[e];cases b:cb s p[i] with
   |none=>rfl
   |some r=>
    simp only[Option.bind_some];cases c:r.1 with
    |false=>
     show some (decide ((0:Int)≤(i:Int)),r.2)=some (!false,r.2);rw[dt (by omega)];rfl
    |true=>
     rw[nt,Cm (by omega) (by omega),EH];exact ih m (i+1) r.2 (by omega) (by omega)
theorem MT{σ:Type}{K:Nat}(cb:σ→Bool→Option (Bool×σ))(p:List Bool)(s:σ)(b:p.length≤5000)(hK:p.length<K):Fe K cb p s=run cb p s:=by
 unfold Fe DZ Er;have h:=MS K cb p b p.length K 0 s (by omega) hK;rw[List.drop_zero,Int.natCast_zero] at h;have e:∀(z:(Int×σ)⊕σ),(Sum.elim (fun a=>some ((a.1,a.2))) (fun a=>some (((-1),a))) z:Option (Int×σ)).bind (fun r1=>some ((decide ((0:Int)≤r1.1),r1.2)))=Sum.elim (fun q=>some (decide ((0:Int)≤q.1),q.2)) (fun q=>some (false,q)) z:=by
  intro z;cases z<;>rfl
 refine Eq.trans (congrArg (fun z=>Option.bind z _) ((Option.bind_assoc _ _ _).trans ((congrArg (fun f=>Option.bind _ f) (funext e)).trans h))) ?_;cases run cb p s with
 |none=>rfl
 |some r=>show some (!(!r.1),r.2)=some r;rw[Bool.not_not]
theorem No{σ:Type}(K:Nat)(cb:σ→AE→Option (Bool×σ))(p:List AE)(a:p.length≤5000):∀(n m i:Nat) (s:σ),p.length=i+n→n<m→
  (CJ (fun(st:σ) (x:AE)=>(D2 K cb x st).bind fun r=>some (r.1,r.2)) p m (i:Int) s).bind (fun z=>Sum.elim (fun q=>some (decide ((0:Int)≤q.1),q.2)) (fun q=>some (false,q)) z)=(run cb (p.drop i) s).bind fun r=>some (!r.1,r.2):=by
 intro n
 induction n with
 |zero=>
  intro m i s h hm;cases m with
  |zero=>omega
  |succ m=>
   rw[CJ.eq_2,cf (df (by omega)),List.drop_eq_nil_of_le (by omega)];rfl
 |succ n ih=>
  intro m i s h hm;cases m with
  |zero=>omega
  |succ m=>
   have hi:i<p.length:=by omega
   rw[CJ.eq_2,ct (dt (by omega)),Eb hi,List.drop_eq_getElem_cons hi];simp only[run];have e:(D2 K cb p[i] s).bind (fun r=>some (r.1,r.2))=(cb s p[i]).bind fun r=>some (!r.1,r.2):=by
    unfold D2;cases cb s p[i]<;>rfl
   rw[e];cases b:cb s p[i] with
   |none=>rfl
   |some r=>
    simp only[Option.bind_some];cases c:r.1 with
    |false=>
     show some (decide ((0:Int)≤(i:Int)),r.2)=some (!false,r.2);rw[dt (by omega)];rfl
    |true=>
     rw[nt,Cm (by omega) (by omega),EH];exact ih m (i+1) r.2 (by omega) (by omega)
theorem Np{σ:Type}{K:Nat}(cb:σ→AE→Option (Bool×σ))(p:List AE)(s:σ)(b:p.length≤5000)(hK:p.length<K):Ft K cb p s=run cb p s:=by
 unfold Ft Ea EA;have h:=No K cb p b p.length K 0 s (by omega) hK;rw[List.drop_zero,Int.natCast_zero] at h;have e:∀(z:(Int×σ)⊕σ),(Sum.elim (fun a=>some ((a.1,a.2))) (fun a=>some (((-1),a))) z:Option (Int×σ)).bind (fun r1=>some ((decide ((0:Int)≤r1.1),r1.2)))=Sum.elim (fun q=>some (decide ((0:Int)≤q.1),q.2)) (fun q=>some (false,q)) z:=by
  intro z;cases z<;>rfl
 refine Eq.trans (congrArg (fun z=>Option.bind z _) ((Option.bind_assoc _ _ _).trans ((congrArg (fun f=>Option.bind _ f) (funext e)).trans h))) ?_;cases run cb p s with
 |none=>rfl
 |some r=>show some (!(!r.1),r.2)=some r;rw[Bool.not_not]
def okW (W R:Int):List Bool→Int→Int→Bool
 |[],_,_=>true
 |false::l,s,_=>okW W R l s 0
 |true::l,s,r=>decide (s+1≤W)&&(decide (r+1≤R)&&okW W R l (s+1) (r+1))
theorem Ii(K:Nat)(y:Aq):∀(l:List Bool) (r s:Int),0≤r→0≤s→r+l.length≤5000→s+l.length≤5000→
  (run (fun(st:Int×Int) (x:Bool)=>(Di K x st.1 st.2 y).bind fun r=>some (r.1,(r.2.1,r.2.2))) l (r,s)).bind (fun d=>some (d.1))=some (okW y.Ak y.AB l s r)
 |[],r,s,_,_,_,_=>rfl
 |false::l,r,s,e,c,a,b=>by
  simp only[run,okW];unfold Di;simp only[Bool.not_false,cond_true,Option.bind_some];exact Ii K y l 0 s (by omega) c (by simp at a;omega) (by simp at b;omega)
 |true::l,r,s,e,c,a,b=>by
  simp only[List.length_cons] at a b;simp only[run,okW];unfold Di;simp only[Bool.not_true,cond_false];rw[Cm (by omega) (by omega),Cm (by omega) (by omega)];cases f:decide (s+1≤y.Ak) with
  |false=>simp
  |true=>
   simp only[cond_true,Option.bind_some];cases g:decide (r+1≤y.AB) with
   |false=>simp
   |true=>
    simp only[cond_true,Bool.true_and];exact Ii K y l (r+1) (s+1) (by omega) (by omega) (by omega) (by omega)
theorem KD{K:Nat}(y:Aq)(l:List Bool)(a:l.length≤4000)(hK:l.length<K):DP K y l=some (okW y.Ak y.AB l 0 0):=by
 unfold DP;rw[MT _ l _ (by omega) hK];exact Ii K y l 0 0 (by omega) (by omega) (by omega) (by omega)
end Go.Proofs.Ytkljfdkmjdjpfaa
end
section
namespace Go.Proofs.Ytkljfdkmjdjpfaa
theorem Mj(s x:Nat):EP (s:Int) (x:Int)=((s/2^x:Nat):Int):=by
 unfold EP;rw[Int.toNat_natCast,Int.natCast_ediv,Int.natCast_pow];rfl
theorem O1(s x:Nat):EP (s:Int) (x:Int)%2=((s/2^x%2:Nat):Int):=by rw[Mj];simp
theorem PO(b d:Nat):(EP (b:Int) (d:Int)%2==1)=b.testBit d:=by
 rw[O1,Nat.testBit_eq_decide_div_mod_eq];cases h:decide (b/2^d%2=1) with
 |true=>rw[of_decide_eq_true h];rfl
 |false=>
  have:=of_decide_eq_false h;simp only[beq_eq_false_iff_ne,ne_eq];omega
theorem PQ(b d:Nat)(h:d<64):MK (b:Int) (d:Int)=some ():=if_pos ⟨by omega,by omega⟩
theorem RA(b d:Nat):0≤EP (b:Int) (d:Int):=by rw[Mj];exact Int.natCast_nonneg _
def wl (n b:Nat):List Bool:=(List.range n).map b.testBit
theorem Gi(n b:Nat):(wl n b).length=n:=by simp[wl]
theorem QZ(b n:Nat)(a:List Bool)(h0:a.length=n)(d:n≤63):∀(k m i:Nat) (s:List Bool),n=i+k→k<m→s.length=n→
  Cr (b:Int) a m (i:Int) s=some (s.take i++(List.range' i k).map b.testBit):=by
 intro k
 induction k with
 |zero=>
  intro m i s h hm c;cases m with
  |zero=>omega
  |succ m=>
   rw[Cr.eq_2,cf (df (by omega)),List.take_of_length_le (by omega)];simp
 |succ k ih=>
  intro m i s h hm c;cases m with
  |zero=>omega
  |succ m=>
   have hi:i<s.length:=by omega
   rw[Cr.eq_2,ct (dt (by omega)),bd (PQ b i (by omega)),Ry (RA b i) (by omega),Eb hi,Cm (by omega) (by omega),EH,PO,Int.toNat_natCast];rw[ih m (i+1) (s.set i (b.testBit i)) (by omega) (by omega) (by rw[List.length_set];exact c)]
   congr 1
   rw[List.range'_succ,List.map_cons,List.take_add_one,List.getElem?_set_self hi,List.take_set_of_le (Nat.le_refl _)];simp
theorem Q0(b n:Nat)(s:List Bool)(c:n≤63){K:Nat}(hK:n<K)(a:s.length=n):Cr (b:Int) s K 0 s=some (wl n b):=by
 have:=QZ b n s a c n K 0 s (by omega) hK a;rw[Int.natCast_zero] at this;rw[this,wl,List.range_eq_range'];rfl
def HI (y:Aq) (l:List Bool):Bool:=okW y.Ak y.AB l 0 0
def days(y:Aq):Nat:=(y.Aj+1).toNat
def Dr(y:Aq):List (List Bool):=((List.range (2^days y)).map (wl (days y))).filter (HI y)
theorem JF:∀n:Nat,n≤10→2^n≤1024:=by decide
theorem MU{σ:Type}{K:Nat}(cb:σ→List Bool→Option (Bool×σ))(y:Aq)(f:days y≤10)(hK:2000≤K):∀(k m i:Nat) (a:List Bool) (st:σ),2^days y=i+k→k<m→a.length=days y→
  Cs cb K y m (i:Int) a st=(run cb (((List.range' i k).map (wl (days y))).filter (HI y)) st).bind fun r=>some (cond r.1 (.inr r.2) (.inl r.2)):=by
 intro k;have g:=JF _ f;have b:Hm (1:Int) ((List.replicate (y.Aj+1).toNat false).length:Int)=((2^days y:Nat):Int):=by
  unfold Hm;rw[Int.one_mul,Int.toNat_natCast,List.length_replicate,Int.natCast_pow];rfl
 induction k with
 |zero=>
  intro m i a st h hm c;cases m with
  |zero=>omega
  |succ m=>
   rw[Cs.eq_2,b,cf (df (by omega))];rfl
 |succ k ih=>
  intro m i a st h hm c;cases m with
  |zero=>omega
  |succ m=>
   rw[Cs.eq_2,b,ct (dt (by omega)),bd (Q0 i (days y) a (by omega) (by omega) c),bd (KD y (wl (days y) i) (by rw[Gi];omega) (by rw[Gi];omega))];rw[List.range'_succ,List.map_cons];show cond (HI y (wl (days y) i)) _ _=_;cases d:HI y (wl (days y) i) with
   |false=>
    rw[List.filter_cons_of_neg (by rw[d];decide),cf rfl,Cm (by omega) (by omega),EH];exact ih m (i+1) _ st (by omega) (by omega) (Gi _ _)
   |true=>
    rw[List.filter_cons_of_pos d,ct rfl];show _=(Option.bind _ _:Option (Bool×σ)).bind _;cases l:cb st (wl (days y) i) with
    |none=>rfl
    |some r=>
     cases e:r.1 with
     |false=>
      show(cond (!r.1) (some (Sum.inl r.2)) _:Option (σ⊕σ))=(cond r.1 _ (some (false,r.2)):Option (Bool×σ)).bind _;rw[e];rfl
     |true=>
      show cond (!r.1) _ ((i64 ((i:Int)+1)).bind _)=(cond r.1 (run cb _ r.2) _:Option (Bool×σ)).bind _;rw[e,nt,Cm (by omega) (by omega),EH];exact ih m (i+1) _ r.2 (by omega) (by omega) (Gi _ _)
theorem JV{σ:Type}{K:Nat}(cb:σ→List Bool→Option (Bool×σ))(y:Aq)(h0:0≤y.Aj)(h9:y.Aj≤9)(hK:2000≤K)(st:σ):
  C6 K cb y st=(run cb (Dr y) st).bind fun r=>some r.2:=by
 have a:days y≤10:=by unfold days;omega
 have c:=JF _ a;unfold C6;rw[Cm (by omega) (by omega),Mi (by omega) (by omega) (by omega)];have b:MJ (1:Int) ((List.replicate (y.Aj+1).toNat false).length:Int)=some ():=by
  rw[List.length_replicate];refine if_pos ⟨by omega,by omega,?_,?_⟩
  ·have:(0:Int)≤1*2^((days y:Nat):Int).toNat:=by rw[Int.one_mul];exact Int.le_of_lt (Int.pow_pos (by omega))
   exact Int.le_trans (by omega) this
  ·rw[Int.one_mul,Int.toNat_natCast];have:((2^days y:Nat):Int)≤1024:=by omega
   rw[Int.natCast_pow] at this;exact Int.le_trans this (by omega)
 rw[bd b];have:=MU (K:=K) cb y a hK (2^days y) K 0 (List.replicate (y.Aj+1).toNat false) st (by omega) (by omega) (by rw[List.length_replicate];rfl);rw[Int.natCast_zero] at this;rw[this,Dr,List.range_eq_range',Option.bind_assoc]
 congr 1;funext r
 cases r.1<;>rfl
end Go.Proofs.Ytkljfdkmjdjpfaa
end
section
namespace Go.Proofs.Ytkljfdkmjdjpfaa
def FZ(y:Aq)(l:AE):Bool:=decide (0≤l.Av)&&(decide (l.Av≤l.AD)&&(decide (l.AD≤y.Aj)&&(FQ l.AJ 1 5&&(FQ l.BA 1 5&&FQ l.BU 0 y.Aj))))
def Dk(l:AE):Int:=l.AD-l.Av+1
def Ga:List AE→Int
 |[]=>1
 |l::r=>Dk l*Ga r
def JW (y:Aq):Int:=((Dr y).length:Int)*Ga y.Ac
def check(y:Aq):Int:=
 if 9<y.Aj∨2<y.Ai∨4<(y.Ac.length:Int) then 3
 else if y.Aj<0∨y.Ai<1∨FQ y.Ak 0 (y.Aj+1)=false∨FQ y.AB 0 (y.Aj+1)=false∨y.Ac.all (FZ y)=false then 1
 else if 1000<JW y then 3 else 0
theorem IS{y:Aq}{l:AE}:FZ y l=true↔0≤l.Av∧l.Av≤l.AD∧l.AD≤y.Aj∧(1≤l.AJ∧l.AJ≤5)∧(1≤l.BA∧l.BA≤5)∧0≤l.BU∧l.BU≤y.Aj:=by
 unfold FZ;simp only[Bool.and_eq_true,decide_eq_true_eq,FY]
theorem Q1(K:Nat)(y:Aq)(l:AE):Ee K y l=some (FZ y l):=by
 unfold Ee FZ FM FH;rw[Gf,Gf,Gf];cases decide ((0:Int)≤l.Av)<;>cases decide (l.Av≤l.AD)<;>cases decide (l.AD≤y.Aj)<;>cases FQ l.AJ 1 5<;>cases FQ l.BA 1 5<;>rfl
theorem PR{K:Nat}(hK:2<K)(a b:Int):Fu K [a,b]=some (min a b):=by
 obtain⟨k,rfl⟩:∃k,K=k+3:=⟨K-3,by omega⟩;unfold Fu FE;rw[cf (df (by simp)),show(0:Int)=((0:Nat):Int) from rfl,Eb (by simp),show(1:Int)=((1:Nat):Int) from rfl,DQ.eq_2,ct (dt (by simp)),Eb (by simp),Cm (by omega) (by omega),DQ.eq_2,cf (df (by simp))];rfl
theorem Nq(K:Nat)(l:AE)(h0:0≤l.Av)(a:l.Av≤l.AD)(b:l.AD≤9):Ek K (⟨l.Av,l.AD⟩:Fq)=some (Dk l):=by
 unfold Ek;show(i64 (l.AD-l.Av)).bind _=_;rw[Cm (by omega) (by omega)];show(i64 (l.AD-l.Av+1)).bind _=_;rw[Cm (by omega) (by omega)];rfl
def Lq(c:Int):Int→List AE→Int
 |n,[]=>n
 |n,l::r=>Lq c (min (n*Dk l) c) r
def sized(l:AE):Prop:=1≤Dk l∧Dk l≤10
theorem Lr{y:Aq}{l:AE}(h9:y.Aj≤9)(h:FZ y l=true):sized l:=by
 obtain⟨a,b,c,_⟩:=IS.1 h;unfold sized Dk;omega
theorem KE:∀{ls:List AE},(∀l∈ls,sized l)→1≤Ga ls
 |[],_=>Int.le_refl _
 |l::r,h=>by
  have a:=(h l (List.mem_cons_self ..)).1;have b:=KE (ls:=r) fun x c=>h x (List.mem_cons_of_mem _ c);have:=Int.mul_le_mul a b (by omega) (by omega);unfold Ga;omega
theorem Mk{c:Int}(e:1000<c):∀{ls:List AE} (n:Int),0≤n→(∀l∈ls,sized l)→(1000<Lq c n ls↔1000<n*Ga ls)
 |[],n,_,_=>by simp[Lq,Ga]
 |l::r,n,f,h=>by
  have g:=h l (List.mem_cons_self ..);have b:∀x∈r,sized x:=fun x i=>h x (List.mem_cons_of_mem _ i);have d:=KE b;have h0:0≤n*Dk l:=Int.mul_nonneg f (by have:=g.1;omega);unfold Lq Ga;rw[Mk e _ (by omega) b,←Int.mul_assoc];rcases Int.le_total (n*Dk l) c with a|a
  ·rw[Int.min_eq_left a]
  ·rw[Int.min_eq_right a];have k:c*1≤c*Ga r:=Int.mul_le_mul_of_nonneg_left d (by omega);have m:(n*Dk l)*1≤n*Dk l*Ga r:=Int.mul_le_mul_of_nonneg_left d h0;constructor<;>intro _<;>omega
theorem O2(y:Aq)(o:y.Ac.length≤4)(b:∀l∈y.Ac,sized l∧0≤l.Av∧l.AD≤9){K:Nat}(hK:2000≤K):∀(k m i:Nat) (n:Int),y.Ac.length=i+k→k<m→0≤n→n≤3000→
  Du K y m (i:Int) n=some (Lq 1001 n (y.Ac.drop i)):=by
 intro k
 induction k with
 |zero=>
  intro m i n h hm h0 a;cases m with
  |zero=>omega
  |succ m=>rw[Du.eq_2,cf (df (by omega)),List.drop_eq_nil_of_le (by omega)];rfl
 |succ k ih=>
  intro m i n h hm h0 a;cases m with
  |zero=>omega
  |succ m=>
   have hi:i<y.Ac.length:=by omega
   obtain⟨⟨s1,s2⟩,c,d⟩:=b y.Ac[i] (List.getElem_mem hi);have e:1≤Dk y.Ac[i]∧Dk y.Ac[i]≤10:=⟨s1,s2⟩;have f:0≤n*Dk y.Ac[i]:=Int.mul_nonneg h0 (by omega);have g:n*Dk y.Ac[i]≤3000*10:=Int.mul_le_mul a s2 (by omega) (by omega);rw[Du.eq_2,ct (dt (by omega)),Eb hi,bd (Nq K _ c (by unfold Dk at s1;omega) d),Cm (by omega) (by omega),bd (PR (by omega) _ _),Cm (by omega) (by omega),EH];rw[ih m (i+1) _ (by omega) (by omega) (by omega) (by omega),List.drop_eq_getElem_cons hi];rfl
theorem KF{α:Type}:∀(l:List α) (n:Int),0≤n→n+l.length≤100000→run (fun(st:Int) (_:α)=>(i64 (st+1)).bind fun _=>some (true,st+1)) l n=some (true,n+l.length)
 |[],n,_,_=>by simp[run]
 |x::l,n,h0,a=>by
  simp only[List.length_cons] at a⊢;rw[run,Cm (by omega) (by omega)];show run _ l (n+1)=_;rw[KF l (n+1) (by omega) (by omega)]
  congr 2;omega
theorem Ls(y:Aq)(h:days y≤10):(Dr y).length≤1024:=by
 have a:=JF _ h;have:(Dr y).length≤((List.range (2^days y)).map (wl (days y))).length:=List.length_filter_le ..;simp at this;omega
theorem KG{K:Nat}(y:Aq):∀(l:List AE),run (fun(st:Unit) (x:AE)=>(Ee K y x).bind fun r=>some (r,())) l ()=some (l.all (FZ y),())
 |[]=>rfl
 |x::l=>by
  rw[run,Q1];show cond (FZ y x) (run _ l ()) (some (false,()))=_;rw[KG y l,List.all_cons];cases FZ y x<;>rfl
theorem El{K:Nat}(hK:2000≤K)(y:Aq):Bh K y=some (check y):=by
 unfold Bh check
 by_cases g:9<y.Aj
 ·rw[ct (dt g),if_pos (.inl g)]
 rw[cf (df g)]
 by_cases i:2<y.Ai
 ·rw[ct (dt i),if_pos (.inr (.inl i))]
 rw[cf (df i)]
 by_cases k:4<(y.Ac.length:Int)
 ·rw[ct (dt k),if_pos (.inr (.inr k))]
 rw[cf (df k),if_neg (by omega)]
 by_cases b:y.Aj<0
 ·rw[ct (dt b),if_pos (.inl b)]
 rw[cf (df b)]
 by_cases d:y.Ai<1
 ·rw[ct (dt d),if_pos (.inr (.inl d))]
 rw[cf (df d),Cm (by omega) (by omega),bd (Gf ..)];cases s:FQ y.Ak 0 (y.Aj+1) with
 |false=>rw[nf,if_pos (.inr (.inr (.inl rfl)))]
 |true=>
  rw[nt,Cm (by omega) (by omega),bd (Gf ..)];cases t:FQ y.AB 0 (y.Aj+1) with
  |false=>rw[nf,if_pos (.inr (.inr (.inr (.inl rfl))))]
  |true=>
   rw[nt,Np _ _ _ (by omega) (by omega),bd (KG y y.Ac)];cases p:y.Ac.all (FZ y) with
   |false=>rw[nf,if_pos (.inr (.inr (.inr (.inr rfl))))]
   |true=>
    rw[nt,if_neg (by simp[b,d])];have q:days y≤10:=by unfold days;omega
    have hw:=Ls y q;have n:∀l∈y.Ac,sized l∧0≤l.Av∧l.AD≤9:=fun l m=>by
     have o:=List.all_eq_true.1 p l m;have:=IS.1 o;exact⟨Lr (by omega) o,this.1,by omega⟩
    have r:C6 K (fun(st:Int) (x:List Bool)=>Ef st x) y (0:Int)=some ((Dr y).length:Int):=by
     rw[JV _ y (by omega) (by omega) hK];show(run (fun(st:Int) (_:List Bool)=>(i64 (st+1)).bind fun _=>some (true,st+1)) (Dr y) 0).bind _=_;rw[KF _ 0 (by omega) (by omega)];simp
    have a:=O2 y (by omega) n hK y.Ac.length K 0 ((Dr y).length:Int) (by omega) (by omega) (by omega) (by omega);rw[Int.natCast_zero,List.drop_zero] at a;rw[bd r,bd a];have f:=Mk (c:=1001) (by omega) ((Dr y).length:Int) (by omega) fun l m=>(n l m).1;unfold JW
    by_cases e:1000<((Dr y).length:Int)*Ga y.Ac
    ·rw[ct (dt (f.2 e)),if_pos e]
    ·rw[cf (df fun h=>e (f.1 h)),if_neg e]
end Go.Proofs.Ytkljfdkmjdjpfaa
end
section
namespace Go.Proofs.Ytkljfdkmjdjpfaa
def DT:List AE→List (List Int)
 |[]=>[[]]
 |l::r=>(List.range (Dk l).toNat).flatMap fun(n:Nat)=>(DT r).map fun c=>(l.Av+(n:Int))::c
def B9(y:Aq):List AT:=(Dr y).flatMap fun w=>(DT y.Ac).map fun c=>⟨c,w⟩
section
variable{σ:Type}{K:Nat}(cb:σ→AT→Option (Bool×σ))(y:Aq)(w:List Bool)
def Tr (k i:Nat):Prop:=∀(c:List Int) (st:σ),c.length=y.Ac.length→
 (BE K cb k (i:Int) c w y st).map (fun z=>(z.1,z.2.2))=run (fun s d=>cb s ⟨c.take i++d,w⟩) (DT (y.Ac.drop i)) st∧
 ∀z,BE K cb k (i:Int) c w y st=some z→z.2.1.length=y.Ac.length∧z.2.1.take i=c.take i
def Ol{α β:Type}:(Bool×α×β)⊕(α×β)→Bool×β
 |.inl x=>(false,x.2.2)
 |.inr x=>(true,x.2)
def PS{α β:Type}:(Bool×α×β)⊕(α×β)→α
 |.inl x=>x.2.1
 |.inr x=>x.1
theorem Om(k i:Nat)(hi:i<y.Ac.length)(aL:y.Ac.length≤4)(aD:∀l∈y.Ac,sized l∧0≤l.Av∧l.AD≤9)(ih:Tr (K:=K) cb y w k (i+1)):
  ∀(n m j:Nat) (c:List Int) (st:σ),(Dk y.Ac[i]).toNat=j+n→n<m→c.length=y.Ac.length→
  (BW (BE K cb k) (i:Int) w y (Dk y.Ac[i]) m (j:Int) c st).map Ol=run (fun s d=>cb s ⟨c.take i++d,w⟩) ((List.range' j n).flatMap fun(q:Nat)=>(DT (y.Ac.drop (i+1))).map fun d=>(y.Ac[i].Av+(q:Int))::d) st∧
  ∀z,BW (BE K cb k) (i:Int) w y (Dk y.Ac[i]) m (j:Int) c st=some z→(PS z).length=y.Ac.length∧(PS z).take i=c.take i∧(∀x,z=.inl x→x.1=false):=by
 obtain⟨⟨s1,s2⟩,aM,aN⟩:=aD y.Ac[i] (List.getElem_mem hi);have aJ:1≤Dk y.Ac[i]∧Dk y.Ac[i]≤10:=⟨s1,s2⟩;intro n
 induction n with
 |zero=>
  intro m j c st h hm o;cases m with
  |zero=>omega
  |succ m=>
   rw[BW.eq_2,cf (df (by omega))];exact⟨rfl,fun z b=>by cases b;exact⟨o,rfl,fun x p=>by cases p⟩⟩
 |succ n u=>
  intro m j c st h hm o;cases m with
  |zero=>omega
  |succ m=>
   have f:i<c.length:=by omega
   have aK:y.Ac[i].Av≤9:=by unfold Dk at s1;omega
   rw[BW.eq_2,ct (dt (by omega)),Eb hi,Cm (by omega) (by omega),Eb f,Cm (by omega) (by omega),EH i,Int.toNat_natCast];have v:(c.set i (y.Ac[i].Av+(j:Int))).length=y.Ac.length:=by rw[List.length_set];exact o
   have g:(c.set i (y.Ac[i].Av+(j:Int))).take (i+1)=c.take i++[y.Ac[i].Av+(j:Int)]:=by
    rw[List.take_add_one,List.getElem?_set_self f,List.take_set_of_le (Nat.le_refl _)];rfl
   obtain⟨t,aE⟩:=ih _ st v;rw[g] at t;rw[List.range'_succ,List.flatMap_cons,Gr,run_map];have aF:run (fun s d=>cb s ⟨c.take i++[y.Ac[i].Av+(j:Int)]++d,w⟩) (DT (y.Ac.drop (i+1))) st=run (fun s d=>cb s ⟨c.take i++(y.Ac[i].Av+(j:Int))::d,w⟩) (DT (y.Ac.drop (i+1))) st:=by
    congr 1;funext s d;rw[List.append_assoc];rfl
   rw[aF] at t;rw[←t];cases aG:BE K cb k ((i+1:Nat):Int) (c.set i (y.Ac[i].Av+(j:Int))) w y st with
   |none=>exact⟨rfl,fun z b=>by cases b⟩
   |some r=>
    obtain⟨aA,aH⟩:=aE r aG;have aB:r.2.1.take i=c.take i:=by
     have:=congrArg (List.take i) aH;rw[List.take_take,Nat.min_eq_left (by omega),g,List.take_append_of_le_length (by rw[List.length_take];omega),List.take_take,Nat.min_self] at this;exact this
    obtain⟨aI,rc,e⟩:=r;cases aI with
    |false=>
     refine⟨rfl,fun z b=>?_⟩;have aC:some (Sum.inl (false,rc,e))=some z:=b;cases aC;exact⟨aA,aB,fun x p=>by cases p;rfl⟩
    |true=>
     have key:(Option.bind (some (true,rc,e)) fun a=>cond (!a.1) (some (Sum.inl (false,a.2.1,a.2.2))) ((i64 ((j:Int)+1)).bind fun _=>BW (BE K cb k) (i:Int) w y (Dk y.Ac[i]) m ((j:Int)+1) a.2.1 a.2.2))=BW (BE K cb k) (i:Int) w y (Dk y.Ac[i]) m ((j+1:Nat):Int) rc e:=by
      rw[Option.bind_some,nt,Cm (by omega) (by omega),EH j]
     have:=u m (j+1) rc e (by omega) (by omega) aA;rw[aB] at this;rw[key];exact this
theorem MV(u:y.Ac.length≤4)(g:∀l∈y.Ac,sized l∧0≤l.Av∧l.AD≤9)(hK:2000≤K):∀(n k i:Nat),y.Ac.length=i+n→n<k→Tr (K:=K) cb y w k i:=by
 intro n
 induction n with
 |zero=>
  intro k i h v c st f;cases k with
  |zero=>omega
  |succ k=>
   rw[BE.eq_2,ct (by rw[f,h];simp),List.drop_eq_nil_of_le (by omega)];have m:c.take i=c:=List.take_of_length_le (by omega);rw[m];simp only[DT,run,List.append_nil];cases cb st ⟨c,w⟩ with
   |none=>exact⟨rfl,fun z a=>by cases a⟩
   |some r=>
    obtain⟨b,s⟩:=r;refine⟨by cases b<;>rfl,fun z a=>?_⟩;have e:some (b,c,s)=some z:=a;cases e;exact⟨f,m⟩
 |succ n ih=>
  intro k i h v c st f;cases k with
  |zero=>omega
  |succ k=>
   have hi:i<y.Ac.length:=by omega
   obtain⟨⟨s1,s2⟩,aA,aB⟩:=g y.Ac[i] (List.getElem_mem hi);rw[BE.eq_2,cf (by rw[f];simp;omega),Eb hi,bd (Nq K _ aA (by unfold Dk at s1;omega) aB)];obtain⟨o,p⟩:=Om cb y w k i hi u g (ih k (i+1) (by omega) (by omega)) (Dk y.Ac[i]).toNat K 0 c st (by omega) (by omega) f;rw[Int.natCast_zero] at o p;rw[List.drop_eq_getElem_cons hi,DT,List.range_eq_range',←o];cases aC:BW (BE K cb k) (i:Int) w y (Dk y.Ac[i]) K 0 c st with
   |none=>exact⟨rfl,fun z a=>by cases a⟩
   |some r=>
    obtain⟨q,t,aD⟩:=p r aC;cases r with
    |inl x=>
     obtain⟨b,d,s⟩:=x;obtain rfl:=aD _ rfl;refine⟨rfl,fun z a=>?_⟩;have e:some (false,d,s)=some z:=a;cases e;exact⟨q,t⟩
    |inr x=>
     obtain⟨d,s⟩:=x;refine⟨rfl,fun z a=>?_⟩;have e:some (true,d,s)=some z:=a;cases e;exact⟨q,t⟩
end
theorem KH{σ:Type}{K:Nat}(cb:σ→AT→Option (Bool×σ))(y:Aq)(e:y.Ac.length≤4)(f:∀l∈y.Ac,sized l∧0≤l.Av∧l.AD≤9)(hK:2000≤K):∀(ws:List (List Bool)) (c:List Int) (st:σ),c.length=y.Ac.length→
  (run (fun(st:(List Int)×σ×Bool) (x:(List Bool))=>cond st.2.2 none (CU cb K y st.1 st.2.1 x)) ws (c,st,false)).bind (fun a=>cond (a.2.2.2) (some (a.2.2.1)) (some (a.2.2.1)))=
  (run cb (ws.flatMap fun w=>(DT y.Ac).map fun c=>(⟨c,w⟩:AT)) st).bind fun r=>some r.2
 |[],c,st,_=>rfl
 |w::ws,c,st,i=>by
  obtain⟨g,h⟩:=MV cb y w e f hK y.Ac.length K 0 (by omega) (by omega) c st i;rw[Int.natCast_zero,List.drop_zero,List.take_zero] at g;rw[Int.natCast_zero] at h;rw[List.flatMap_cons,Gr,run_map];have k:run (fun s d=>cb s ⟨[]++d,w⟩) (DT y.Ac) st=run (fun s d=>cb s (⟨d,w⟩:AT)) (DT y.Ac) st:=rfl;rw[←k,←g,run];show(Option.bind (CU cb K y c st w) _:Option _).bind _=_;unfold CU;cases m:BE K cb K 0 c w y st with
  |none=>rfl
  |some r=>
   obtain⟨n,o⟩:=h r m;obtain⟨b,d,s⟩:=r;cases b with
   |false=>rfl
   |true=>
    show(run _ ws (d,s,false)).bind _=(run cb _ s).bind _;exact KH cb y e f hK ws d s n
theorem Oo{σ:Type}{K:Nat}(cb:σ→AT→Option (Bool×σ))(y:Aq)(h0:0≤y.Aj)(h9:y.Aj≤9)(a:y.Ac.length≤4)(b:∀l∈y.Ac,sized l∧0≤l.Av∧l.AD≤9)(hK:2000≤K)(st:σ):
  Eg K cb y st=(run cb (B9 y) st).bind fun r=>some r.2:=by
 unfold Eg;rw[Mi (by omega) (by omega) (by omega),JV _ y h0 h9 hK,Option.bind_assoc];exact KH cb y a b hK (Dr y) (List.replicate (y.Ac.length:Int).toNat (0:Int)) st (by rw[List.length_replicate];omega)
end Go.Proofs.Ytkljfdkmjdjpfaa
end
section
namespace Go.Proofs.Ytkljfdkmjdjpfaa
def GW:AE:=⟨0,0,0,0,0⟩
def Ff(y:Aq)(i:Int):AE:=y.Ac.getD i.toNat GW
def E5(c:List Int)(i:Int):Int:=c.getD i.toNat 0
def FR (l:AE) (d0:Int):List Bool→Int→Int→Int→Ao
 |[],_,_,_=>⟨d0,-1,false⟩
 |true::ws,d,Eo,run=>cond (Eo==l.AJ) ⟨d0,d,Eo==l.AJ⟩ (cond (run+1==l.BA) ⟨d0,d,Eo==l.AJ⟩ (FR l d0 ws (d+1) Eo (run+1)))
 |false::ws,d,Eo,run=>cond (Eo+1==l.AJ) ⟨d0,d,Eo+1==l.AJ⟩ (cond ((0:Int)==l.BA) ⟨d0,d,Eo+1==l.AJ⟩ (FR l d0 ws (d+1) (Eo+1) 0))
def Eh(y:Aq)(w:List Bool)(l:AE)(d:Int):Ao:=if y.Aj<d then ⟨-1,-1,false⟩ else FR l d (w.drop d.toNat) d 0 0
def wk(y:Aq)(w:List Bool)(m:List (List Int×Ao)):Cg:=⟨y.Aj,y.Ai,y.Ak,y.AB,y.Ac,w,m⟩
theorem Q2(y:Aq)(w:List Bool)(mm:List (List Int×Ao))(p:Gq)(l:AE)(h9:y.Aj≤9)(hw:(w.length:Int)=y.Aj+1)(b0 f:Int)(g:Bool):∀(k m d:Nat) (Eo r:Int),y.Aj+1=d+k→k<m→0≤Eo→Eo≤d→0≤r→r≤d→
  (Dp (wk y w mm) p l m Eo r (d:Int) b0 f g).bind (fun z=>Sum.elim (fun a=>some ((⟨a.1,a.2.1,a.2.2⟩:Ao))) (fun a=>some ((⟨p.day,(-1),false⟩:Ao))) z)=some (FR l p.day (w.drop d) (d:Int) Eo r):=by
 intro k
 induction k with
 |zero=>
  intro m d Eo r h hm h0 i n o;cases m with
  |zero=>omega
  |succ m=>
   rw[Dp.eq_2,cf (df (by show¬(d:Int)≤y.Aj;omega)),List.drop_eq_nil_of_le (by omega)];rfl
 |succ k ih=>
  intro m d Eo r h hm h0 i n o;cases m with
  |zero=>omega
  |succ m=>
   have b:d<w.length:=by omega
   have c:d<(wk y w mm).CN.length:=b;rw[Dp.eq_2,ct (dt (by show(d:Int)≤y.Aj;omega)),Eb c,List.drop_eq_getElem_cons b];have e:(wk y w mm).CN[d]=w[d]:=rfl;rw[e];cases t:w[d] with
   |true=>
    rw[ct rfl,Cm (by omega) (by omega),FR];cases q:(Eo==l.AJ) with
    |true=>rw[ct rfl,ct rfl];rfl
    |false=>
     rw[cf rfl,cf rfl];cases s:(r+1==l.BA) with
     |true=>rw[ct rfl,ct rfl];rfl
     |false=>
      rw[cf rfl,cf rfl,Cm (by omega) (by omega),EH];exact ih m (d+1) Eo (r+1) (by omega) (by omega) h0 (by omega) (by omega) (by omega)
   |false=>
    rw[cf rfl,Cm (by omega) (by omega),FR];cases q:(Eo+1==l.AJ) with
    |true=>rw[ct rfl,ct rfl];rfl
    |false=>
     rw[cf rfl,cf rfl];cases s:((0:Int)==l.BA) with
     |true=>rw[ct rfl,ct rfl];rfl
     |false=>
      rw[cf rfl,cf rfl,Cm (by omega) (by omega),EH];exact ih m (d+1) (Eo+1) 0 (by omega) (by omega) (by omega) (by omega) (by omega) (by omega)
theorem Q3{K:Nat}(y:Aq)(w:List Bool)(mm:List (List Int×Ao))(i d:Int)(h9:y.Aj≤9)(hw:(w.length:Int)=y.Aj+1)(a:0≤i)(hi:i<(y.Ac.length:Int))(c:0≤d)(hK:2000≤K):
  EG K (wk y w mm) ⟨i,d⟩=some (Eh y w (Ff y i) d):=by
 unfold EG Eh;show cond (decide (y.Aj<d)) _ ((idx y.Ac i).bind _)=_
 by_cases h:y.Aj<d
 ·rw[ct (dt h),if_pos h]
 rw[cf (df h),if_neg h];obtain⟨i,rfl⟩:=Int.eq_ofNat_of_zero_le a;obtain⟨d,rfl⟩:=Int.eq_ofNat_of_zero_le c;have b:i<y.Ac.length:=by omega
 rw[Eb b];have e:y.Ac[i]=Ff y (i:Int):=by
  show y.Ac[i]=y.Ac.getD ((i:Int)).toNat GW;rw[Int.toNat_natCast,List.getD_eq_getElem?_getD,List.getElem?_eq_getElem (by omega)];rfl
 rw[e,Int.toNat_natCast];exact Q2 y w mm ⟨(i:Int),(d:Int)⟩ _ h9 hw 0 0 false (y.Aj+1-d).toNat K d 0 0 (by omega) (by omega) (by omega) (by omega) (by omega) (by omega)
def Fv (y:Aq) (w:List Bool) (m:List (List Int×Ao)):Prop:=∀(i d:Int) (s:Ao),Bv m [i,d]=some s→s=Eh y w (Ff y i) d
theorem Lt(y:Aq)(w:List Bool):Fv y w []:=fun i d s h=>by cases h
theorem PT{K:Nat}(y:Aq)(w:List Bool)(mm:List (List Int×Ao))(i d:Int)(h9:y.Aj≤9)(hw:(w.length:Int)=y.Aj+1)(e:0≤i)(hi:i<(y.Ac.length:Int))(k:0≤d)(hK:2000≤K)(hm:Fv y w mm):
  ∃c,Ex K (wk y w mm) ⟨i,d⟩=some (Eh y w (Ff y i) d,c)∧Fv y w c:=by
 unfold Ex;show∃c,cond (!(Bv mm [i,d]).isSome) ((EG K (wk y w mm) ⟨i,d⟩).bind _) _=_∧_;cases f:Bv mm [i,d] with
 |none=>
  rw[bd (Q3 y w mm i d h9 hw e hi k hK)];refine⟨_,rfl,fun i2 d2 s h=>?_⟩;have a:Bv (Gm mm [i,d] (Eh y w (Ff y i) d)) [i2,d2]=some s:=h;rw[L3] at a;split at a
  ·rename_i he
   have b:=List.cons.inj he;have g:=List.cons.inj b.2;rw[b.1,g.1];exact(Option.some.inj a).symm
  ·exact hm i2 d2 s a
 |some s=>
  refine⟨mm,?_,hm⟩;show some ((Bv mm [i,d]).getD ⟨0,0,false⟩,mm)=_;rw[f,hm i d s f];rfl
def Gs (y:Aq) (w:List Bool) (c:List Int):List Int→Int→List Ao→List Ao
 |[],_,out=>out
 |i::r,free,out=>
  let s:=Eh y w (Ff y i) (max free (E5 c i))
  Gs y w c r (cond (s.Be==-1) (y.Aj+1) (s.Be+1)) (out.set i.toNat s)
def Gt(y:Aq)(w:List Bool)(c:List Int):List (List Int)→List Ao→List Ao
 |[],out=>out
 |l::r,out=>Gt y w c r (Gs y w c l 0 out)
def Ij:Ao:=⟨0,0,false⟩
def FF(y:Aq)(w:List Bool)(order:List (List Int))(c:List Int):List Ao:=Gt y w c order (List.replicate y.Ac.length Ij)
theorem Hq(y:Aq)(w:List Bool)(c:List Int):∀(l:List Int) (free:Int) (out:List Ao),(Gs y w c l free out).length=out.length
 |[],_,_=>rfl
 |i::r,free,out=>by rw[Gs,Hq y w c r];simp
theorem IT(y:Aq)(w:List Bool)(c:List Int):∀(l:List (List Int)) (out:List Ao),(Gt y w c l out).length=out.length
 |[],_=>rfl
 |i::r,out=>by rw[Gt,IT y w c r,Hq]
theorem JG(l:AE)(d0:Int):∀(ws:List Bool) (d Eo r:Int),0≤d→(FR l d0 ws d Eo r).Be=-1∨(d≤(FR l d0 ws d Eo r).Be∧(FR l d0 ws d Eo r).Be<d+ws.length)
 |[],d,Eo,r,_=>.inl rfl
 |true::ws,d,Eo,r,h=>by
  rw[FR];cases (Eo==l.AJ) with
  |true=>right;simp;omega
  |false=>
   cases (r+1==l.BA) with
   |true=>right;simp;omega
   |false=>
    rcases JG l d0 ws (d+1) Eo (r+1) (by omega) with a|a
    ·exact .inl a
    ·right;simp only[List.length_cons,cond_false];omega
 |false::ws,d,Eo,r,h=>by
  rw[FR];cases (Eo+1==l.AJ) with
  |true=>right;simp;omega
  |false=>
   cases ((0:Int)==l.BA) with
   |true=>right;simp;omega
   |false=>
    rcases JG l d0 ws (d+1) (Eo+1) 0 (by omega) with a|a
    ·exact .inl a
    ·right;simp only[List.length_cons,cond_false];omega
theorem Nr(y:Aq)(w:List Bool)(l:AE)(d:Int)(b:0≤d)(hw:(w.length:Int)=y.Aj+1):(Eh y w l d).Be=-1∨(d≤(Eh y w l d).Be∧(Eh y w l d).Be≤y.Aj):=by
 unfold Eh
 by_cases h:y.Aj<d
 ·rw[if_pos h];exact .inl rfl
 ·rw[if_neg h];rcases JG l d (w.drop d.toNat) d 0 0 b with a|a
  ·exact .inl a
  ·right;rw[List.length_drop] at a;omega
theorem O3{K:Nat}(y:Aq)(w:List Bool)(a:List (List Int×Ao))(c l:List Int)(h0:0≤y.Aj)(h9:y.Aj≤9)(hw:(w.length:Int)=y.Aj+1)(hK:2000≤K)(x:∀i∈l,0≤i∧i<(y.Ac.length:Int))(aE:c.length=y.Ac.length)(aC:l.length≤1000):
  ∀(k m j:Nat) (free:Int) (out:List Ao) (mm:List (List Int×Ao)),l.length=j+k→k<m→0≤free→out.length=y.Ac.length→Fv y w mm→
  ∃b,Db K (wk y w a) c l m free (j:Int) out mm=some (Gs y w c (l.drop j) free out,b)∧Fv y w b:=by
 intro k
 induction k with
 |zero=>
  intro m j free out mm h hm z f g;cases m with
  |zero=>omega
  |succ m=>rw[Db.eq_2,cf (df (by omega)),List.drop_eq_nil_of_le (by omega)];exact⟨mm,rfl,g⟩
 |succ k ih=>
  intro m j free out mm h hm z f g;cases m with
  |zero=>omega
  |succ m=>
   have n:j<l.length:=by omega
   obtain⟨d,p⟩:=x l[j] (List.getElem_mem n);obtain⟨i,hi⟩:=Int.eq_ofNat_of_zero_le d;have e:i<c.length:=by omega
   have q:i<out.length:=by omega
   have r:c[i]=E5 c l[j]:=by
    rw[hi];unfold E5;rw[Int.toNat_natCast,List.getD_eq_getElem?_getD,List.getElem?_eq_getElem e];rfl
   rw[Db.eq_2,ct (dt (by omega)),Eb n,List.drop_eq_getElem_cons n,Gs];have s:idx c l[j]=some (E5 c l[j]):=by rw[←r];rw[hi];exact idx_eq e
   rw[bd s];obtain⟨b,aA,t⟩:=PT (K:=K) y w mm l[j] (max free (E5 c l[j])) h9 hw d p (by omega) hK g;have u:Ex K (⟨(wk y w a).Bw,(wk y w a).BJ,(wk y w a).B0,(wk y w a).B1,(wk y w a).AS,(wk y w a).CN,mm⟩:Cg) (⟨l[j],max free (E5 c l[j])⟩:Gq)=some (Eh y w (Ff y l[j]) (max free (E5 c l[j])),b):=aA;have o:idx out l[j]=some out[i]:=by rw[hi];exact idx_eq q
   have aB:=Nr y w (Ff y l[j]) (max free (E5 c l[j])) (by omega) hw;have aD:-1≤(Eh y w (Ff y l[j]) (max free (E5 c l[j]))).Be∧(Eh y w (Ff y l[j]) (max free (E5 c l[j]))).Be≤9:=by omega
   rw[bd u,bd o];show∃v,(i64 ((Eh y w (Ff y l[j]) (max free (E5 c l[j]))).Be+1)).bind _=_∧_;rw[Cm (by omega) (by omega)];show∃v,cond ((Eh y w (Ff y l[j]) (max free (E5 c l[j]))).Be==-1) ((i64 (y.Aj+1)).bind _) _=_∧_;cases aF:((Eh y w (Ff y l[j]) (max free (E5 c l[j]))).Be==-1) with
   |true=>
    rw[ct rfl,ct rfl,Cm (by omega) (by omega),Cm (by omega) (by omega),EH];exact ih m (j+1) (y.Aj+1) _ b (by omega) (by omega) (by omega) (by rw[List.length_set];exact f) t
   |false=>
    rw[cf rfl,cf rfl,Cm (by omega) (by omega),EH];exact ih m (j+1) ((Eh y w (Ff y l[j]) (max free (E5 c l[j]))).Be+1) _ b (by omega) (by omega) (by omega) (by rw[List.length_set];exact f) t
theorem O4{K:Nat}(y:Aq)(w:List Bool)(b:List (List Int×Ao))(c:List Int)(order:List (List Int))(h0:0≤y.Aj)(h9:y.Aj≤9)(hw:(w.length:Int)=y.Aj+1)(hK:2000≤K)(p:∀l∈order,l.length≤1000∧∀i∈l,0≤i∧i<(y.Ac.length:Int))(q:c.length=y.Ac.length)(s:order.length≤1000):
  ∀(k m j:Nat) (out:List Ao) (mm:List (List Int×Ao)),order.length=j+k→k<m→out.length=y.Ac.length→Fv y w mm→
  ∃a,CS K (wk y w b) order c m (j:Int) out mm=some (Gt y w c (order.drop j) out,a)∧Fv y w a:=by
 intro k
 induction k with
 |zero=>
  intro m j out mm h hm d e;cases m with
  |zero=>omega
  |succ m=>rw[CS.eq_2,cf (df (by omega)),List.drop_eq_nil_of_le (by omega)];exact⟨mm,rfl,e⟩
 |succ k ih=>
  intro m j out mm h hm d e;cases m with
  |zero=>omega
  |succ m=>
   have f:j<order.length:=by omega
   obtain⟨g,n⟩:=p order[j] (List.getElem_mem f);obtain⟨a,o,r⟩:=O3 (K:=K) y w b c order[j] h0 h9 hw hK n q g order[j].length K 0 0 out mm (by omega) (by omega) (by omega) d e;rw[Int.natCast_zero,List.drop_zero] at o;rw[CS.eq_2,ct (dt (by omega)),Eb f,List.drop_eq_getElem_cons f,Gt,bd o,Cm (by omega) (by omega),EH];exact ih m (j+1) _ a (by omega) (by omega) (by rw[Hq];exact d) r
theorem Ns{K:Nat}(y:Aq)(w:List Bool)(mm:List (List Int×Ao))(c:List Int)(order:List (List Int))(h0:0≤y.Aj)(h9:y.Aj≤9)(m:y.Ac.length≤4)(hw:(w.length:Int)=y.Aj+1)(hK:2000≤K)(e:∀l∈order,l.length≤1000∧∀i∈l,0≤i∧i<(y.Ac.length:Int))(f:c.length=y.Ac.length)(b:order.length≤1000)(g:Fv y w mm):
  ∃a,CB K (wk y w mm) order c=some (FF y w order c,a)∧Fv y w a:=by
 unfold CB;show∃a,(IJ (y.Ac.length:Int) 24).bind _=_∧_;rw[Mi (by omega) (by omega) (by omega)];obtain⟨a,d,h⟩:=O4 (K:=K) y w mm c order h0 h9 hw hK e f b order.length K 0 (List.replicate y.Ac.length Ij) mm (by omega) (by omega) (by rw[List.length_replicate]) g;rw[Int.natCast_zero,List.drop_zero] at d;have k:CS K (wk y w mm) order c K (0:Int) (List.replicate ((wk y w mm).AS.length:Int).toNat (⟨0,0,false⟩:Ao)) (wk y w mm).known=some (Gt y w c order (List.replicate y.Ac.length Ij),a):=by
  show CS K (wk y w mm) order c K (0:Int) (List.replicate (y.Ac.length:Int).toNat Ij) mm=_;rw[Int.toNat_natCast];exact d
 exact⟨a,bd k,h⟩
end Go.Proofs.Ytkljfdkmjdjpfaa
end
section
namespace Go.Proofs.Ytkljfdkmjdjpfaa
def iota(n:Nat):List Int:=(List.range n).map fun(i:Nat)=>(i:Int)
theorem F8(n:Nat):(iota n).length=n:=by simp[iota]
theorem Lu(n i:Nat)(h:i<n):(iota n)[i]?=some (i:Int):=by simp[iota,h]
def Dj(y:Aq)(o:List (List Int)):Bool:=((o.length:Int)==y.Ai)&&(CM o.flatten==iota y.Ac.length)
theorem PU(o:List (List Int))(c:o.flatten.length≤100000):∀(k m i:Nat) (acc:List Int),o.length=i+k→k<m→o.length≤100000→acc++(o.drop i).flatten=o.flatten→
  C8 o m acc (i:Int)=some o.flatten:=by
 intro k
 induction k with
 |zero=>
  intro m i acc h hm b a;cases m with
  |zero=>omega
  |succ m=>
   rw[C8.eq_2,cf (df (by omega))];rw[List.drop_eq_nil_of_le (by omega)] at a;rw[←a];simp
 |succ k ih=>
  intro m i acc h hm b a;cases m with
  |zero=>omega
  |succ m=>
   have hi:i<o.length:=by omega
   rw[List.drop_eq_getElem_cons hi,List.flatten_cons,←List.append_assoc] at a;have hlen:acc.length+o[i].length≤100000:=by
    have:=congrArg List.length a;rw[List.length_append,List.length_append] at this;omega
   rw[C8.eq_2,ct (dt (by omega)),Eb hi,GV (by omega),Cm (by omega) (by omega),EH];exact ih m (i+1) (acc++o[i]) (by omega) (by omega) b a
theorem Oq(y:Aq)(z:List Int)(l:y.Ac.length≤4):∀(k m i:Nat),y.Ac.length=i+k→k<m→(∀j,j<i→(CM z).length=y.Ac.length∧(CM z)[j]?=some (j:Int))→
  CX y z m (i:Int)=some (cond ((CM z==iota y.Ac.length)||decide (y.Ac.length=0)) (.inr ()) (.inl false)):=by
 intro k
 induction k with
 |zero=>
  intro m i h hm a;cases m with
  |zero=>omega
  |succ m=>
   rw[CX.eq_2,cf (df (by omega))];have:((CM z==iota y.Ac.length)||decide (y.Ac.length=0))=true:=by
    rw[Bool.or_eq_true];rcases Nat.eq_zero_or_pos i with h0|h0
    ·right;exact dt (by omega)
    ·left;rw[beq_iff_eq];have d:=(a 0 h0).1;apply List.ext_getElem?;intro j
     by_cases f:j<y.Ac.length
     ·rw[(a j (by omega)).2,Lu _ _ f]
     ·rw[List.getElem?_eq_none (by omega),List.getElem?_eq_none (by rw[F8];omega)]
   rw[this];rfl
 |succ k ih=>
  intro m i h hm a;cases m with
  |zero=>omega
  |succ m=>
   rw[CX.eq_2,ct (dt (by omega))];have c:decide (y.Ac.length=0)=false:=df (by omega)
   by_cases d:(CM z).length=y.Ac.length
   ·rw[cf (by rw[d];simp)];have hi:i<(CM z).length:=by omega
    rw[Eb hi]
    by_cases b:(CM z)[i]=(i:Int)
    ·rw[b,cf (by simp),Cm (by omega) (by omega),EH];refine ih m (i+1) (by omega) (by omega) fun j f=>?_
     by_cases g:j=i
     ·subst g;exact⟨d,by rw[List.getElem?_eq_getElem hi,b]⟩
     ·exact a j (by omega)
    ·rw[ct (by simpa using b)];have:((CM z==iota y.Ac.length)||decide (y.Ac.length=0))=false:=by
      rw[c,Bool.or_false,beq_eq_false_iff_ne];intro e;have:(CM z)[i]?=(iota y.Ac.length)[i]?:=by rw[e]
      rw[List.getElem?_eq_getElem hi,Lu _ _ (by omega)] at this;exact b (Option.some.inj this)
     rw[this];rfl
   ·rw[ct (by simp;omega)];have:((CM z==iota y.Ac.length)||decide (y.Ac.length=0))=false:=by
     rw[c,Bool.or_false,beq_eq_false_iff_ne];intro e;have:=congrArg List.length e;rw[F8] at this;omega
    rw[this];rfl
theorem IU{K:Nat}(y:Aq)(o:List (List Int))(f:y.Ac.length≤4)(hK:2000≤K)(k:o.length≤1000)(m:o.flatten.length≤1000):Dz K y o=some (Dj y o):=by
 unfold Dz;have c:=PU o (by omega) o.length K 0 [] (by omega) (by omega) (by omega) (by simp);have d:=Oq y o.flatten f y.Ac.length K 0 (by omega) (by omega) fun j g=>absurd g (by omega);rw[Int.natCast_zero] at c d;rw[bd c,GV (by omega),bd d];unfold Dj
 by_cases b:y.Ac.length=0
 ·rw[show((CM o.flatten==iota y.Ac.length)||decide (y.Ac.length=0))=true by rw[Bool.or_eq_true];exact .inr (dt b)];show cond ((o.length:Int)==y.Ai) (some (((CM o.flatten).length:Int)==(y.Ac.length:Int))) (some false)=_;have h:(((CM o.flatten).length:Int)==(y.Ac.length:Int))=(CM o.flatten==iota y.Ac.length):=by
   rw[b];cases e:CM o.flatten with
   |nil=>rfl
   |cons a l=>
    have i:(((a::l).length:Int)==((0:Nat):Int))=false:=by simp;omega
    rw[i];rfl
  rw[h];cases ((o.length:Int)==y.Ai)<;>rfl
 ·rw[show decide (y.Ac.length=0)=false from df b,Bool.or_false];cases e:(CM o.flatten==iota y.Ac.length) with
  |false=>show some false=_;rw[Bool.and_false]
  |true=>
   show cond ((o.length:Int)==y.Ai) (some (((CM o.flatten).length:Int)==(y.Ac.length:Int))) (some false)=_;rw[eq_of_beq e,F8];cases ((o.length:Int)==y.Ai)<;>simp
theorem EU{y:Aq}{o:List (List Int)}:Dj y o=true↔(o.length:Int)=y.Ai∧o.flatten.Perm (iota y.Ac.length):=by
 unfold Dj;rw[Bool.and_eq_true,beq_iff_eq,beq_iff_eq];refine and_congr_right fun _=>⟨fun h=>?_,fun h=>?_⟩
 ·rw[←h];exact(List.mergeSort_perm _ _).symm
 ·have d:(CM o.flatten).Pairwise (fun a b:Int=>a≤b):=by
   have:=List.pairwise_mergeSort (le:=fun x y:Int=>decide (x≤y)) (fun a b c d e=>by simp at*;omega) (fun a b=>by simp;omega) o.flatten;exact this.imp fun h=>by simpa using h
  have e:(iota y.Ac.length).Pairwise (fun a b:Int=>a≤b):=by
   unfold iota;rw[List.pairwise_map];exact List.pairwise_lt_range.imp fun h=>by omega
  exact List.Perm.eq_of_pairwise (le:=fun a b:Int=>a≤b) (fun a b _ _ h f=>by omega) d e ((List.mergeSort_perm _ _).trans h)
theorem Ot{n:Nat}{i:Int}:i∈iota n↔0≤i∧i<n:=by
 unfold iota;rw[List.mem_map];constructor
 ·rintro⟨k,a,rfl⟩;rw[List.mem_range] at a;omega
 ·rintro⟨h0,b⟩;exact⟨i.toNat,by rw[List.mem_range];omega,by omega⟩
theorem Kb{y:Aq}{o:List (List Int)}(h:Dj y o=true):∀l∈o,l.length≤y.Ac.length∧∀i∈l,0≤i∧i<(y.Ac.length:Int):=by
 intro l a;have b:=(EU.1 h).2;constructor
 ·have c:=b.length_eq;rw[F8] at c;have:=(List.sublist_flatten_of_mem a).length_le;omega
 ·intro i hi;exact Ot.1 (b.mem_iff.1 (List.mem_flatten.2 ⟨l,a,hi⟩))
def DU:List AE→List Int→Bool
 |[],[]=>true
 |l::ls,c::cs=>FQ c l.Av l.AD&&DU ls cs
 |_,_=>false
def Ei(y:Aq)(t:AT):Bool:=decide ((t.Ak.length:Int)=y.Aj+1)&&(HI y t.Ak&&DU y.Ac t.Comes)
theorem Gu:∀{ls:List AE} {cs:List Int},DU ls cs=true→cs.length=ls.length
 |[],[],_=>rfl
 |_::ls,_::cs,h=>by
  rw[DU,Bool.and_eq_true] at h;rw[List.length_cons,List.length_cons,Gu h.2]
 |[],_::_,h=>by cases h
 |_::_,[],h=>by cases h
theorem Nt(K:Nat)(y:Aq)(t:AT)(b:y.Ac.length≤4)(c:t.Comes.length=y.Ac.length):∀(k m i:Nat),y.Ac.length=i+k→k<m→
  CV K y t m (i:Int)=some (cond (DU (y.Ac.drop i) (t.Comes.drop i)) (.inr ()) (.inl false)):=by
 intro k
 induction k with
 |zero=>
  intro m i h hm;cases m with
  |zero=>omega
  |succ m=>rw[CV.eq_2,cf (df (by omega)),List.drop_eq_nil_of_le (by omega),List.drop_eq_nil_of_le (by omega)];rfl
 |succ k ih=>
  intro m i h hm;cases m with
  |zero=>omega
  |succ m=>
   have hi:i<y.Ac.length:=by omega
   have a:i<t.Comes.length:=by omega
   rw[CV.eq_2,ct (dt (by omega)),Eb hi,Eb a,bd (Gf ..),List.drop_eq_getElem_cons hi,List.drop_eq_getElem_cons a,DU];cases d:FQ t.Comes[i] y.Ac[i].Av y.Ac[i].AD with
   |false=>rw[nf];rfl
   |true=>rw[nt,Cm (by omega) (by omega),EH,Bool.true_and];exact ih m (i+1) (by omega) (by omega)
theorem Nu{K:Nat}(y:Aq)(t:AT)(h0:0≤y.Aj)(h9:y.Aj≤9)(b:y.Ac.length≤4)(hK:2000≤K):Et K y t=some (Ei y t):=by
 unfold Et Ei
 by_cases a:t.Comes.length=y.Ac.length
 ·rw[cf (by rw[a];simp),Cm (by omega) (by omega)]
  by_cases hw:(t.Ak.length:Int)=y.Aj+1
  ·rw[cf (by rw[hw];simp),bd (KD y t.Ak (by omega) (by omega)),dt hw,Bool.true_and];show cond (!(HI y t.Ak)) _ _=_;cases HI y t.Ak with
   |false=>rw[nf];rfl
   |true=>
    have:=Nt K y t b a y.Ac.length K 0 (by omega) (by omega);rw[Int.natCast_zero,List.drop_zero,List.drop_zero] at this;rw[nt,bd this,Bool.true_and];cases DU y.Ac t.Comes<;>rfl
  ·rw[ct (by simpa using hw),df hw];rfl
 ·rw[ct (by simp;omega)];cases c:DU y.Ac t.Comes with
  |false=>rw[Bool.and_false,Bool.and_false]
  |true=>exact absurd (Gu c) a
theorem Gv{c:List Int}:∀{ls:List AE},c∈DT ls↔DU ls c=true
 |[]=>by
  cases c with
  |nil=>simp[DT,DU]
  |cons a l=>simp[DT,DU]
 |l::r=>by
  rw[DT,List.mem_flatMap];constructor
  ·rintro⟨n,b,e⟩;obtain⟨d,f,rfl⟩:=List.mem_map.1 e;rw[DU,Bool.and_eq_true];rw[List.mem_range] at b;unfold Dk at b;exact⟨FY.2 (by omega),Gv.1 f⟩
  ·intro h;cases c with
   |nil=>simp[DU] at h
   |cons a d=>
    rw[DU,Bool.and_eq_true] at h;have g:=FY.1 h.1;refine⟨(a-l.Av).toNat,?_,List.mem_map.2 ⟨d,Gv.2 h.2,?_⟩⟩
    ·rw[List.mem_range];unfold Dk;omega
    ·congr 1;omega
def bitsOf:List Bool→Nat
 |[]=>0
 |b::l=>(cond b 1 0)+2*bitsOf l
theorem Ju:∀(l:List Bool) (d:Nat),(bitsOf l).testBit d=l.getD d false
 |[],d=>by simp[bitsOf]
 |b::l,0=>by rw[bitsOf,Nat.testBit_zero];cases b<;>simp<;>omega
 |b::l,d+1=>by
  rw[Nat.testBit_succ,bitsOf];have:((cond b 1 0)+2*bitsOf l)/2=bitsOf l:=by cases b<;>simp<;>omega
  rw[this,Ju l d];rfl
theorem KI:∀(l:List Bool),bitsOf l<2^l.length
 |[]=>by simp[bitsOf]
 |b::l=>by
  have:=KI l;rw[bitsOf,List.length_cons,Nat.pow_succ];cases b<;>simp<;>omega
theorem Nv(l:List Bool):wl l.length (bitsOf l)=l:=by
 apply List.ext_getElem?;intro i;unfold wl;rw[List.getElem?_map]
 by_cases h:i<l.length
 ·rw[List.getElem?_range h,List.getElem?_eq_getElem h];show some ((bitsOf l).testBit i)=_;rw[Ju,List.getD_eq_getElem?_getD,List.getElem?_eq_getElem h];rfl
 ·rw[List.getElem?_eq_none (by simp;omega),List.getElem?_eq_none (by omega)];rfl
theorem GX{y:Aq}{w:List Bool}:w∈Dr y↔w.length=days y∧HI y w=true:=by
 unfold Dr;rw[List.mem_filter,List.mem_map];constructor
 ·rintro⟨⟨b,_,rfl⟩,h⟩;exact⟨Gi _ _,h⟩
 ·rintro⟨a,c⟩;exact⟨⟨bitsOf w,by rw[List.mem_range,←a];exact KI w,by rw[←a];exact Nv w⟩,c⟩
theorem GN{y:Aq}(h0:0≤y.Aj){t:AT}:t∈B9 y↔Ei y t=true:=by
 unfold B9 Ei;rw[List.mem_flatMap,Bool.and_eq_true,Bool.and_eq_true,decide_eq_true_eq];constructor
 ·rintro⟨w,hw,d⟩;obtain⟨c,e,rfl⟩:=List.mem_map.1 d;obtain⟨b,a⟩:=GX.1 hw;unfold days at b;exact⟨by show(w.length:Int)=_;omega,a,Gv.1 e⟩
 ·rintro⟨b,a,f⟩;exact⟨t.Ak,GX.2 ⟨by unfold days;omega,a⟩,List.mem_map.2 ⟨t.Comes,Gv.2 f,rfl⟩⟩
theorem Q4(a b:List Bool)(l:a.length≤1000)(g:a.length=b.length):∀(k m i:Nat),a.length=i+k→k<m→C7 a b m (i:Int)=some (cond (a.drop i==b.drop i) (.inr ()) (.inl false)):=by
 intro k
 induction k with
 |zero=>
  intro m i h hm;cases m with
  |zero=>omega
  |succ m=>rw[C7.eq_2,cf (df (by omega)),List.drop_eq_nil_of_le (by omega),List.drop_eq_nil_of_le (by omega)];rfl
 |succ k ih=>
  intro m i h hm;cases m with
  |zero=>omega
  |succ m=>
   have c:i<a.length:=by omega
   have d:i<b.length:=by omega
   rw[C7.eq_2,ct (dt (by omega)),Eb c,Eb d,List.drop_eq_getElem_cons c,List.drop_eq_getElem_cons d];cases f:(a[i] !=b[i]) with
   |true=>
    rw[ct rfl];have:(a[i]::a.drop (i+1)==b[i]::b.drop (i+1))=false:=by
     rw[List.cons_beq_cons];have:(a[i]==b[i])=false:=by simpa[bne] using f
     rw[this,Bool.false_and]
    rw[this];rfl
   |false=>
    have e:a[i]=b[i]:=by simpa[bne] using f
    rw[cf rfl,Cm (by omega) (by omega),EH,ih m (i+1) (by omega) (by omega),List.cons_beq_cons,e,beq_self_eq_true,Bool.true_and]
theorem Q5{K:Nat}(a b:List Bool)(c:a.length≤1000)(hK:2000≤K):DR K a b=some (a==b):=by
 unfold DR
 by_cases h:a.length=b.length
 ·have:=Q4 a b c h a.length K 0 (by omega) (by omega);rw[Int.natCast_zero,List.drop_zero,List.drop_zero] at this;rw[cf (by rw[h];simp),bd this];cases (a==b)<;>rfl
 ·rw[ct (by simp;omega)];have:(a==b)=false:=by
   rw[beq_eq_false_iff_ne];intro e;exact h (by rw[e])
  rw[this]
structure Fg(y:Aq):Prop where
 h0:0≤y.Aj
 h9:y.Aj≤9
 r1:1≤y.Ai
 r2:y.Ai≤2
 n4:y.Ac.length≤4
 w0:0≤y.Ak
 w1:y.Ak≤y.Aj+1
 u0:0≤y.AB
 u1:y.AB≤y.Aj+1
 RB:∀l∈y.Ac,FZ y l=true
 many:JW y≤1000
theorem F9{y:Aq}(h:check y=0):Fg y:=by
 unfold check at h;split at h
 ·cases h
 ·rename_i d
  split at h
  ·cases h
  ·rename_i b
   split at h
   ·cases h
   ·rename_i f
    rw[not_or,not_or] at d;rw[not_or,not_or,not_or,not_or] at b;have hw:FQ y.Ak 0 (y.Aj+1)=true:=by cases a:FQ y.Ak 0 (y.Aj+1) with|true=>rfl|false=>exact absurd a b.2.2.1
    have c:FQ y.AB 0 (y.Aj+1)=true:=by cases a:FQ y.AB 0 (y.Aj+1) with|true=>rfl|false=>exact absurd a b.2.2.2.1
    have e:y.Ac.all (FZ y)=true:=by cases a:y.Ac.all (FZ y) with|true=>rfl|false=>exact absurd a b.2.2.2.2
    rw[FY] at hw c;exact⟨by omega,by omega,by omega,by omega,by omega,hw.1,hw.2,c.1,c.2,List.all_eq_true.1 e,by omega⟩
theorem Fg.sz{y:Aq}(h:Fg y):∀l∈y.Ac,sized l∧0≤l.Av∧l.AD≤9:=fun l b=>by
 have a:=h.RB l b;have:=IS.1 a;have:=h.h9;exact⟨Lr h.h9 a,by omega,by omega⟩
def Q6(y:Aq):Option Cg→Prop
 |none=>True
 |some x=>∃w m,x=wk y w m∧(w.length:Int)=y.Aj+1∧Fv y w m
theorem Nw{σ:Type}{K:Nat}(cb:σ→AT×List Ao→Option (Bool×σ))(y:Aq)(f:Fg y)(o:List (List Int))(z:Dj y o=true)(hK:2000≤K):∀(d:List AT) (h:Option Cg) (s:σ),(∀t∈d,Ei y t=true)→Q6 y h→
  (run (fun(st:(Option Cg)×σ×Bool) (x:AT)=>cond st.2.2 none (Dd cb K y o st.1 st.2.1 x)) d (h,s,false)).bind (fun g=>cond g.2.2.2 (some g.2.2.1) (some g.2.2.1))=(run (fun s t=>cb s (t,FF y t.Ak o t.Comes)) d s).bind fun r=>some r.2
 |[],h,s,_,_=>rfl
 |t::d,h,s,aB,aI=>by
  have k:=aB t (List.mem_cons_self ..);have aC:∀x∈d,Ei y x=true:=fun x aJ=>aB x (List.mem_cons_of_mem _ aJ);unfold Ei at k;rw[Bool.and_eq_true,Bool.and_eq_true,decide_eq_true_eq] at k;obtain⟨hw,_,aK⟩:=k;have aD:=Gu aK;have u:=Kb z;have aE:o.length≤1000:=by have:=(EU.1 z).1;have:=f.r2;omega
  have aA:∀l∈o,l.length≤1000∧∀i∈l,0≤i∧i<(y.Ac.length:Int):=fun l aF=>⟨by have:=(u l aF).1;have:=f.n4;omega,(u l aF).2⟩;rw[run,run];show(Option.bind (Dd cb K y o h s t) _:Option _).bind _=_
  
  have key:∀(m:List (List Int×Ao)),Fv y t.Ak m→∃c,Fv y t.Ak c∧CB K (wk y t.Ak m) o t.Comes=some (FF y t.Ak o t.Comes,c):=fun m hm=>by
   obtain⟨c,aL,aM⟩:=Ns (K:=K) y t.Ak m t.Comes o f.h0 f.h9 f.n4 hw hK aA aD aE hm;exact⟨c,aM,aL⟩
  have fin:∀(c:List (List Int×Ao)),Fv y t.Ak c→
    (Option.bind ((cb s (t,FF y t.Ak o t.Comes)).bind fun a=>cond (!a.1) (some (false,(some (wk y t.Ak c)),a.2,true)) (some (true,(some (wk y t.Ak c)),a.2,false))) fun r=>cond r.1 (run (fun(st:(Option Cg)×σ×Bool) (x:AT)=>cond st.2.2 none (Dd cb K y o st.1 st.2.1 x)) d r.2) (some (false,r.2))).bind (fun g=>cond g.2.2.2 (some g.2.2.1) (some g.2.2.1))=
    (Option.bind (cb s (t,FF y t.Ak o t.Comes)) fun r=>cond r.1 (run (fun s t=>cb s (t,FF y t.Ak o t.Comes)) d r.2) (some (false,r.2))).bind fun r=>some r.2:=fun c n=>by
   cases cb s (t,FF y t.Ak o t.Comes) with
   |none=>rfl
   |some r=>
    obtain⟨b,s2⟩:=r;cases b with
    |false=>rfl
    |true=>exact Nw cb y f o z hK d (some (wk y t.Ak c)) s2 aC ⟨t.Ak,c,rfl,hw,n⟩
  unfold Dd;obtain⟨p,v,aN⟩:=key [] (Lt _ _);have aQ:=f.h9;have e:(GA (((0+t.Ak.length:Nat):Int)≤140737488355328/1)).bind (fun _=>(CB K (⟨y.Aj,y.Ai,y.Ak,y.AB,y.Ac,t.Ak,[]⟩:Cg) o t.Comes).bind fun q=>(cb s (t,q.1)).bind fun a=>cond (!a.1) (some (false,(some (⟨y.Aj,y.Ai,y.Ak,y.AB,y.Ac,t.Ak,q.2⟩:Cg)),a.2,true)) (some (true,(some (⟨y.Aj,y.Ai,y.Ak,y.AB,y.Ac,t.Ak,q.2⟩:Cg)),a.2,false)))=
    (cb s (t,FF y t.Ak o t.Comes)).bind fun a=>cond (!a.1) (some (false,(some (wk y t.Ak p)),a.2,true)) (some (true,(some (wk y t.Ak p)),a.2,false)):=by
   have aG:CB K (⟨y.Aj,y.Ai,y.Ak,y.AB,y.Ac,t.Ak,[]⟩:Cg) o t.Comes=some (FF y t.Ak o t.Comes,p):=aN;rw[GV (by omega),bd aG];rfl
  cases h with
  |none=>
   show(Option.bind ((GA _).bind _) _:Option _).bind _=_;rw[e];exact fin p v
  |some x=>
   obtain⟨w,m,rfl,aR,aH⟩:=aI;show(Option.bind ((DR K w t.Ak).bind _) _:Option _).bind _=_;rw[bd (Q5 w t.Ak (by omega) hK)];cases aO:(w==t.Ak) with
   |false=>
    rw[nf,e];exact fin p v
   |true=>
    obtain rfl:=eq_of_beq aO;obtain⟨c,n,aP⟩:=key m aH;rw[nt,bd aP];exact fin c n
theorem Nx{σ:Type}{K:Nat}(cb:σ→AT×List Ao→Option (Bool×σ))(y:Aq)(a:Fg y)(o:List (List Int))(b:Dj y o=true)(hK:2000≤K)(s:σ):
  Ey K cb y o s=(run (fun s t=>cb s (t,FF y t.Ak o t.Comes)) (B9 y) s).bind fun r=>some r.2:=by
 unfold Ey;rw[Oo _ y a.h0 a.h9 a.n4 a.sz hK,Option.bind_assoc];exact Nw cb y a o b hK (B9 y) none s (fun t c=>(GN a.h0).1 c) trivial
end Go.Proofs.Ytkljfdkmjdjpfaa
end
section
namespace Go.Proofs.Ytkljfdkmjdjpfaa
def Fw(l:AE)(s:Ao):Bool:=s.AJ&&decide (s.Be≤l.BU)
theorem Kd(K:Nat)(l:AE)(s:Ao):CP K l s=some (Fw l s):=by unfold CP Fw;cases s.AJ<;>rfl
theorem Ml(K:Nat)(l:AE)(s:Ao):DD K l s=some (!Fw l s):=by unfold DD;rw[bd (Kd ..)]
def F5 (p:AE→Ao→Bool):List AE→List Ao→Nat
 |l::ls,s::ss=>(cond (p l s) 1 0)+F5 p ls ss
 |_,_=>0
def Dl(l:AE)(s:Ao):Bool:= !Fw l s
def Dv(y:Aq)(ss:List Ao):Nat:=F5 Dl y.Ac ss
theorem Ke(p:AE→Ao→Bool):∀(ls:List AE) (ss:List Ao),F5 p ls ss≤ls.length
 |l::ls,s::ss=>by
  have:=Ke p ls ss;rw[F5,List.length_cons];cases p l s<;>simp<;>omega
 |[],_=>by simp[F5]
 |_::_,[]=>by simp[F5]
theorem PV{K:Nat}(y:Aq)(ss:List Ao)(d:y.Ac.length≤4)(e:ss.length=y.Ac.length):∀(k m i:Nat) (a:Int),ss.length=i+k→k<m→0≤a→a≤i→
  Dc K y ss m a (i:Int)=some (a+(F5 Dl (y.Ac.drop i) (ss.drop i):Nat)):=by
 intro k
 induction k with
 |zero=>
  intro m i a h hm h0 c;cases m with
  |zero=>omega
  |succ m=>
   rw[Dc.eq_2,cf (df (by omega)),List.drop_eq_nil_of_le («as»:=y.Ac) (by omega),F5]
   ·simp
   ·intro _ _ _ _ h;cases h
 |succ k ih=>
  intro m i a h hm h0 c;cases m with
  |zero=>omega
  |succ m=>
   have hi:i<ss.length:=by omega
   have b:i<y.Ac.length:=by omega
   rw[Dc.eq_2,ct (dt (by omega)),Eb hi,Eb b,bd (Ml ..),List.drop_eq_getElem_cons hi,List.drop_eq_getElem_cons b,F5];show cond (Dl y.Ac[i] ss[i]) _ _=_;cases f:Dl y.Ac[i] ss[i] with
   |true=>
    rw[ct rfl,Cm (by omega) (by omega),Cm (by omega) (by omega),EH,ih m (i+1) (a+1) (by omega) (by omega) (by omega) (by omega)]
    congr 1
    show a+1+_=a+((1+F5 Dl _ _:Nat):Int);omega
   |false=>
    rw[cf rfl,Cm (by omega) (by omega),EH,ih m (i+1) a (by omega) (by omega) (by omega) (by omega)]
    congr 1
    show a+_=a+((0+F5 Dl _ _:Nat):Int);omega
theorem Ny{K:Nat}(y:Aq)(ss:List Ao)(a:y.Ac.length≤4)(b:ss.length=y.Ac.length)(hK:2000≤K):D4 K y ss=some (Dv y ss:Int):=by
 unfold D4;have:=PV (K:=K) y ss a b ss.length K 0 0 (by omega) (by omega) (by omega) (by omega);rw[Int.natCast_zero,List.drop_zero,List.drop_zero] at this;rw[bd this];simp[Dv]
theorem Gw(y:Aq)(w:List Bool)(o:List (List Int))(c:List Int):(FF y w o c).length=y.Ac.length:=by unfold FF;rw[IT,List.length_replicate]
def B3 (y:Aq) (o:List (List Int)) (t:AT):List Ao:=FF y t.Ak o t.Comes
theorem IV{K:Nat}(y:Aq)(o:List (List Int))(t:AT)(hK:2000≤K)(d:o.length≤1000)(g:o.flatten.length≤1000):
  CL K y o t=some (if check y≠0 then ([],check y) else if Dj y o=false∨Ei y t=false then ([],2) else (B3 y o t,0)):=by
 unfold CL;rw[bd (El hK y)]
 by_cases h:check y=0
 ·rw[h,cf (by decide),if_neg (by simp)];have a:=F9 h;rw[bd (IU y o a.n4 hK d g)];cases i:Dj y o with
  |false=>rw[nf,if_pos (.inl rfl)]
  |true=>
   rw[nt,bd (Nu y t a.h0 a.h9 a.n4 hK)];cases k:Ei y t with
   |false=>rw[nf,if_pos (.inr rfl)]
   |true=>
    rw[nt,if_neg (by simp)];have b:=k;unfold Ei at b;rw[Bool.and_eq_true,Bool.and_eq_true,decide_eq_true_eq] at b;have c:=Kb i;obtain⟨m,e,_⟩:=Ns (K:=K) y t.Ak [] t.Comes o a.h0 a.h9 a.n4 b.1 hK (fun l f=>⟨by have:=(c l f).1;have:=a.n4;omega,(c l f).2⟩) (Gu b.2.2) d (Lt _ _);have n:CB K (⟨y.Aj,y.Ai,y.Ak,y.AB,y.Ac,t.Ak,[]⟩:Cg) o t.Comes=some (FF y t.Ak o t.Comes,m):=e;rw[bd n];rfl
 ·rw[ct (by simpa using h),if_pos h]
def G7 (y:Aq) (o:List (List Int)):List AT→Int×AT→Int×AT
 |[],s=>s
 |t::a,s=>
  let s2:=if s.1<(Dv y (B3 y o t):Int) then ((Dv y (B3 y o t):Int),t) else s
  cond (decide (s2.1<(y.Ac.length:Int))) (G7 y o a s2) s2
def Cz(y:Aq)(o:List (List Int)):Int×AT:=G7 y o (B9 y) (-1,⟨[],[]⟩)
theorem Lv{K:Nat}(y:Aq)(b:Fg y)(o:List (List Int))(hK:2000≤K):∀(a:List AT) (s:Int×AT),(∀t∈a,Ei y t=true)→
  (run (fun(st:Int×AT) t=>(D6 K t (B3 y o t) y st.1 st.2).bind fun r=>some (r.1,(r.2.1,r.2.2))) a s).bind (fun r=>some r.2)=some (G7 y o a s)
 |[],s,_=>rfl
 |t::a,s,d=>by
  have c:=d t (List.mem_cons_self ..);unfold Ei at c;rw[Bool.and_eq_true,Bool.and_eq_true,decide_eq_true_eq] at c;have f:=Gu c.2.2;have g:=b.n4;have h9:=b.h9;rw[run,G7];unfold D6;rw[bd (Ny y (B3 y o t) b.n4 (Gw ..) hK)]
  by_cases h:s.1<(Dv y (B3 y o t):Int)
  ·rw[ct (dt h),GV (by omega),GV (by omega),if_pos h];show(cond (decide ((Dv y (B3 y o t):Int)<(y.Ac.length:Int))) _ _:Option (Bool×Int×AT)).bind _=some (cond (decide ((Dv y (B3 y o t):Int)<(y.Ac.length:Int))) _ _);cases decide ((Dv y (B3 y o t):Int)<(y.Ac.length:Int)) with
   |false=>rfl
   |true=>exact Lv y b o hK a _ fun x e=>d x (List.mem_cons_of_mem _ e)
  ·rw[cf (df h),if_neg h];show(cond (decide (s.1<(y.Ac.length:Int))) _ _:Option (Bool×Int×AT)).bind _=some (cond (decide (s.1<(y.Ac.length:Int))) _ _);cases decide (s.1<(y.Ac.length:Int)) with
   |false=>rfl
   |true=>exact Lv y b o hK a s fun x e=>d x (List.mem_cons_of_mem _ e)
theorem Nz{K:Nat}(y:Aq)(a:Fg y)(o:List (List Int))(b:Dj y o=true)(hK:2000≤K):Ez K y o=some (Cz y o):=by
 unfold Ez;rw[Nx _ y a o b hK];have:=Lv y a o hK (B9 y) (-1,⟨[],[]⟩) fun t c=>(GN a.h0).1 c;exact Eq.trans (bd this) rfl
theorem Lw{K:Nat}(y:Aq)(o:List (List Int))(hK:2000≤K)(b:o.length≤1000)(c:o.flatten.length≤1000):
  EB K y o=some (if check y≠0 then (0,⟨[],[]⟩,check y) else if Dj y o=false then (0,⟨[],[]⟩,2) else ((Cz y o).1,(Cz y o).2,0)):=by
 unfold EB;rw[bd (El hK y)]
 by_cases h:check y=0
 ·rw[h,cf (by decide),if_neg (by simp)];have a:=F9 h;rw[bd (IU y o a.n4 hK b c)];cases d:Dj y o with
  |false=>rw[nf,if_pos rfl]
  |true=>rw[nt,if_neg (by simp),bd (Nz y a o d hK)]
 ·rw[ct (by simpa using h),if_pos h]
theorem IW{K:Nat}(y:Aq)(o:List (List Int))(n:Int)(hK:2000≤K)(a:o.length≤1000)(b:o.flatten.length≤1000):
  Cf K y o n=some (decide (check y=0)&&(Dj y o&&decide ((Cz y o).1≤n))):=by
 unfold Cf;rw[bd (Lw y o hK a b)]
 by_cases h:check y=0
 ·rw[if_neg (by simp[h]),dt h];cases c:Dj y o with
  |false=>rw[if_pos rfl];rfl
  |true=>rw[if_neg (by simp)];rfl
 ·rw[if_pos h,df h,cf (by simpa using h)];rfl
theorem Jv{K:Nat}(y:Aq)(o:List (List Int))(t:AT)(n:Int)(hK:2000≤K)(a:o.length≤1000)(b:o.flatten.length≤1000):
  CD K y o t n=some (decide (check y=0)&&(Dj y o&&(Ei y t&&decide (n≤(Dv y (B3 y o t):Int))))):=by
 unfold CD;rw[bd (IV y o t hK a b)]
 by_cases h:check y=0
 ·rw[if_neg (by simp[h]),dt h];cases c:Dj y o with
  |false=>rw[if_pos (.inl rfl)];rfl
  |true=>
   cases d:Ei y t with
   |false=>rw[if_pos (.inr rfl)];rfl
   |true=>
    rw[if_neg (by simp)];show(D4 K y (B3 y o t)).bind _=_;rw[bd (Ny y (B3 y o t) (F9 h).n4 (Gw ..) hK)];rfl
 ·rw[if_pos h,df h,cf (by simpa using h)];rfl
def F6(p:AE→Ao→Bool):List AE→List Ao→List Int→List Int
 |l::ls,s::ss,a::b=>(cond (p l s) (a+1) a)::F6 p ls ss b
 |_,_,b=>b
theorem OI(x:By)(k:Nat)(v:Int)(h:k<4):(x.set k v).l=x.l.set k v:=by
 match k,h with
 |0,_=>rfl
 |1,_=>rfl
 |2,_=>rfl
 |3,_=>rfl
theorem JH(p:AE→Ao→Bool)(ss:List Ao)(a:List Int):F6 p [] ss a=a:=by cases a<;>rfl
theorem O5{K:Nat}(p:AE→Ao→Bool)(y:Aq)(ss:List Ao)(r:y.Ac.length≤4)(s:ss.length=y.Ac.length):∀(k m i:Nat) (a:By),ss.length=i+k→k<m→(∀x∈a.l.drop i,0≤x∧x≤100000)→
  ∃b:By,Cp (fun(st:Unit) (x:AE×Ao)=>some (p x.1 x.2,())) ss y m (i:Int) a.a0 a.a1 a.a2 a.a3 ()=some (b.a0,b.a1,b.a2,b.a3,())∧b.l=a.l.take i++F6 p (y.Ac.drop i) (ss.drop i) (a.l.drop i):=by
 intro k
 induction k with
 |zero=>
  intro m i a h hm e;cases m with
  |zero=>omega
  |succ m=>
   rw[Cp.eq_2,cf (df (by omega)),List.drop_eq_nil_of_le («as»:=y.Ac) (by omega),JH];exact⟨a,rfl,(List.take_append_drop ..).symm⟩
 |succ k ih=>
  intro m i a h hm e;cases m with
  |zero=>omega
  |succ m=>
   have hi:i<ss.length:=by omega
   have f:i<y.Ac.length:=by omega
   have c:i<a.l.length:=by show i<4;omega
   rw[Cp.eq_2,ct (dt (by omega)),Eb hi,Eb f,Option.bind_some,List.drop_eq_getElem_cons hi,List.drop_eq_getElem_cons f,List.drop_eq_getElem_cons c,F6];cases t:p y.Ac[i] ss[i] with
   |true=>
    have u:=e a.l[i] (by rw[List.drop_eq_getElem_cons c];exact List.mem_cons_self ..);have g:idx [a.a0,a.a1,a.a2,a.a3] (i:Int)=some a.l[i]:=idx_eq c;rw[ct rfl,bd g,Cm (by omega) (by omega),bd g,Cm (by omega) (by omega),EH,Int.toNat_natCast];obtain⟨b,n,o⟩:=ih m (i+1) (a.set i (a.l[i]+1)) (by omega) (by omega) (fun x d=>by
     rw[OI _ _ _ (by omega),List.drop_set_of_lt (by omega)] at d;exact e x (by rw[List.drop_eq_getElem_cons c];exact List.mem_cons_of_mem _ d))
    refine⟨b,n,?_⟩;rw[o,OI _ _ _ (by omega),List.take_add_one,List.getElem?_set_self c,List.take_set_of_le (Nat.le_refl _),List.drop_set_of_lt (by omega)];simp
   |false=>
    rw[cf rfl,Cm (by omega) (by omega),EH];obtain⟨b,n,o⟩:=ih m (i+1) a (by omega) (by omega) fun x d=>e x (by rw[List.drop_eq_getElem_cons c];exact List.mem_cons_of_mem _ d);refine⟨b,n,?_⟩;have q:a.l.take (i+1)=a.l.take i++[a.l[i]]:=by rw[List.take_add_one,List.getElem?_eq_getElem c];rfl
    rw[o,q,List.append_assoc];rfl
theorem Ou{K:Nat}(p:AE→Ao→Bool)(y:Aq)(t:AT)(ss:List Ao)(e:y.Ac.length≤4)(f:ss.length=y.Ac.length)(hK:2000≤K)(n:Int)(a:By)(h:0≤n∧n≤100000)(g:∀x∈a.l,0≤x∧x≤100000):
  ∃b:By,CF K (fun(st:Unit) (x:AE×Ao)=>some (p x.1 x.2,())) t ss n y a ()=some (true,n+1,b,())∧b.l=F6 p y.Ac ss a.l:=by
 unfold CF;obtain⟨b,c,d⟩:=O5 (K:=K) p y ss e f ss.length K 0 a (by omega) (by omega) (by rw[List.drop_zero];exact g);rw[Int.natCast_zero] at c;rw[List.take_zero,List.drop_zero,List.drop_zero,List.drop_zero,List.nil_append] at d;rw[Cm (by omega) (by omega),bd c];exact⟨b,rfl,d⟩
theorem Mm(p:AE→Ao→Bool)(B:Int):∀(ls:List AE) (ss:List Ao) (c:List Int),(∀x∈c,0≤x∧x≤B)→∀x∈F6 p ls ss c,0≤x∧x≤B+1
 |l::ls,s::ss,a::c,h,x,b=>by
  rw[F6] at b;rcases List.mem_cons.1 b with rfl|b
  ·have:=h a (List.mem_cons_self ..);cases p l s<;>simp<;>omega
  ·exact Mm p B ls ss c (fun z d=>h z (List.mem_cons_of_mem _ d)) x b
 |[],_,c,h,x,b=>by
  rw[JH] at b;have:=h x b;omega
 |l::ls,[],c,h,x,b=>by
  have e:F6 p (l::ls) [] c=c:=by cases c<;>rfl
  rw[e] at b;have:=h x b;omega
 |l::ls,s::ss,[],h,x,b=>by
  have e:F6 p (l::ls) (s::ss) []=[]:=rfl;rw[e] at b;cases b
def Kf (p:AE→Ao→Bool) (y:Aq) (o:List (List Int)):List AT→List Int→List Int
 |[],a=>a
 |t::b,a=>Kf p y o b (F6 p y.Ac (B3 y o t) a)
theorem Ly{K:Nat}(p:AE→Ao→Bool)(y:Aq)(d:Fg y)(o:List (List Int))(hK:2000≤K):∀(c:List AT) (n:Int) (a:By) (B:Int),0≤n→n+c.length≤100000→B+c.length≤100000→(∀x∈a.l,0≤x∧x≤B)→
  ∃b:By,run (fun(st:Int×By×Unit) t=>(CF K (fun(st:Unit) (x:AE×Ao)=>some (p x.1 x.2,())) t (B3 y o t) st.1 y st.2.1 st.2.2).bind fun r=>some (r.1,(r.2.1,r.2.2.1,r.2.2.2))) c (n,a,())=some (true,n+c.length,b,())∧b.l=Kf p y o c a.l
 |[],n,a,B,_,_,_,_=>⟨a,by simp[run],rfl⟩
 |t::c,n,a,B,h0,g,h,e=>by
  rw[List.length_cons] at g h;obtain⟨b,i,f⟩:=Ou (K:=K) p y t (B3 y o t) d.n4 (Gw ..) hK n a (by omega) (fun x k=>by have:=e x k;omega);obtain⟨m,q,s⟩:=Ly p y d o hK c (n+1) b (B+1) (by omega) (by omega) (by omega) (by rw[f];exact Mm p B _ _ _ e);refine⟨m,?_,by rw[s,f];rfl⟩;rw[run];show Option.bind ((CF K _ t (B3 y o t) n y a ()).bind _) _=_;rw[bd i];show run _ c (n+1,b,())=_;rw[q,List.length_cons]
  congr 3;omega
theorem Kg(y:Aq)(b:Fg y):((B9 y).length:Int)=JW y:=by
 have d:∀ls:List AE,(∀l∈ls,sized l)→((DT ls).length:Int)=Ga ls:=by
  intro ls
  induction ls with
  |nil=>intro _;rfl
  |cons l r ih=>
   intro h;have a:=(h l (List.mem_cons_self ..)).1;rw[DT,Ga,List.length_flatMap,←ih fun x e=>h x (List.mem_cons_of_mem _ e)];have:((List.range (Dk l).toNat).map fun(n:Nat)=>((DT r).map fun c=>(l.Av+(n:Int))::c).length)=List.replicate (Dk l).toNat (DT r).length:=by
    apply List.ext_getElem
    ·simp
    ·intro i a f;simp
   rw[this,List.sum_replicate_nat,Int.natCast_mul]
   congr 1;omega
 unfold B9 JW;rw[List.length_flatMap,←d y.Ac fun l g=>(b.sz l g).1];have:((Dr y).map fun w=>((DT y.Ac).map fun c=>(⟨c,w⟩:AT)).length)=List.replicate (Dr y).length (DT y.Ac).length:=by
  apply List.ext_getElem
  ·simp
  ·intro i a f;simp
 rw[this,List.sum_replicate_nat,Int.natCast_mul]
def C0 (p:AE→Ao→Bool) (y:Aq) (o:List (List Int)):List Int:=Kf p y o (B9 y) [0,0,0,0]
theorem Kh{K:Nat}(p:AE→Ao→Bool)(y:Aq)(a:Fg y)(o:List (List Int))(c:Dj y o=true)(hK:2000≤K):
  ∃b:By,Ch K (fun(st:Unit) (x:AE×Ao)=>some (p x.1 x.2,())) y o ()=some (b,((B9 y).length:Int),())∧b.l=C0 p y o:=by
 unfold Ch;rw[Nx _ y a o c hK];have g:=Kg y a;have:=a.many;obtain⟨b,d,e⟩:=Ly (K:=K) p y a o hK (B9 y) 0 ⟨0,0,0,0⟩ 0 (by omega) (by omega) (by omega) (by intro x f;simp[By.l] at f;omega);refine⟨b,?_,e⟩;refine Eq.trans (congrArg (fun z=>Option.bind (Option.bind z _) _) d) ?_;rw[Int.zero_add];rfl
end Go.Proofs.Ytkljfdkmjdjpfaa
end
section
namespace Go.Proofs.Ytkljfdkmjdjpfaa
def EK(y:Aq)(i:Nat):AE:=y.Ac.getD i GW
def KU(y:Aq)(o:List (List Int))(t:AT)(i:Nat):Ao:=(B3 y o t).getD i Ij
def IX (y:Aq) (o:List (List Int)) (i:Nat) (t:AT):Bool:=Fw (EK y i) (KU y o t i)
theorem LA(p:AE→Ao→Bool):∀(ls:List AE) (ss:List Ao) (b:List Int) (i:Nat),i<ls.length→i<ss.length→i<b.length→
  (F6 p ls ss b).getD i 0=b.getD i 0+(cond (p (ls.getD i GW) (ss.getD i Ij)) 1 0)
 |l::ls,s::ss,a::b,0,_,_,_=>by
  rw[F6];show cond (p l s) (a+1) a=a+cond (p l s) 1 0;cases p l s<;>simp
 |l::ls,s::ss,a::b,i+1,c,d,e=>by
  rw[F6];exact LA p ls ss b i (by simpa using c) (by simpa using d) (by simpa using e)
theorem Jw(p:AE→Ao→Bool):∀(ls:List AE) (ss:List Ao) (b:List Int),(F6 p ls ss b).length=b.length
 |l::ls,s::ss,a::b=>by rw[F6,List.length_cons,Jw p ls ss b,List.length_cons]
 |[],ss,b=>by rw[JH]
 |l::ls,[],b=>by
  have e:F6 p (l::ls) [] b=b:=by cases b<;>rfl
  rw[e]
 |l::ls,s::ss,[]=>rfl
theorem LB(p:AE→Ao→Bool)(y:Aq)(o:List (List Int))(i:Nat)(hi:i<y.Ac.length):∀(b:List AT) (a:List Int),i<a.length→
  (Kf p y o b a).getD i 0=a.getD i 0+(b.countP (fun t=>p (EK y i) (KU y o t i)):Nat)
 |[],a,_=>by simp[Kf]
 |t::b,a,h=>by
  rw[Kf,LB p y o i hi b _ (by rw[Jw];exact h),LA p _ _ _ i hi (by rw[B3,Gw];exact hi) h,List.countP_cons];unfold EK KU;cases p (y.Ac.getD i GW) ((B3 y o t).getD i Ij)<;>simp<;>omega
theorem JX(p:AE→Ao→Bool)(y:Aq)(a:Fg y)(o:List (List Int))(i:Nat)(hi:i<y.Ac.length):(C0 p y o).getD i 0=((B9 y).countP (fun t=>p (EK y i) (KU y o t i)):Nat):=by
 unfold C0;have b:=a.n4;rw[LB p y o i hi _ _ (by show i<4;omega)];have:([0,0,0,0]:List Int).getD i 0=0:=by
  match i,(show i<4 by omega) with
  |0,_=>rfl
  |1,_=>rfl
  |2,_=>rfl
  |3,_=>rfl
 rw[this,Int.zero_add]
theorem KV(b:By)(i:Nat)(h:i<4):idx [b.a0,b.a1,b.a2,b.a3] (i:Int)=some (b.l.getD i 0):=by
 have:i<[b.a0,b.a1,b.a2,b.a3].length:=h;rw[idx_eq this];show some b.l[i]=_;rw[List.getD_eq_getElem?_getD,List.getElem?_eq_getElem (show i<b.l.length from h)];rfl
def verdict (y:Aq) (o:List (List Int)) (i:Nat):Int:=cond ((B9 y).all (IX y o i)) 1 (cond ((B9 y).all fun t=> !IX y o i t) 2 3)
theorem KJ{α:Type}(p:α→Bool)(l:List α):((((l.countP p:Nat):Int)==(l.length:Int)))=l.all p:=by
 rw[Bool.eq_iff_iff,beq_iff_eq,List.all_eq_true,Int.ofNat_inj,List.countP_eq_length]
theorem MW{α:Type}(p:α→Bool)(l:List α):((((l.countP p:Nat):Int)==0))=l.all fun t=> !p t:=by
 rw[Bool.eq_iff_iff,beq_iff_eq,List.all_eq_true,show(0:Int)=((0:Nat):Int) from rfl,Int.ofNat_inj,List.countP_eq_zero];simp
theorem Mn{K:Nat}(y:Aq)(o:List (List Int))(n:Int)(hK:2000≤K)(e:o.length≤1000)(f:o.flatten.length≤1000):
  CQ K y o n=some (if check y≠0 then (0,check y) else if Dj y o=false∨FQ n 0 ((y.Ac.length:Int)-1)=false then (0,2) else (verdict y o n.toNat,0)):=by
 unfold CQ;rw[bd (El hK y)]
 by_cases h:check y=0
 ·rw[h,cf (by decide),if_neg (by simp)];have a:=F9 h;have p:=a.n4;rw[bd (IU y o a.n4 hK e f)];cases g:Dj y o with
  |false=>rw[nf,if_pos (.inl rfl)]
  |true=>
   have k:EM K y n=some (FQ n 0 ((y.Ac.length:Int)-1)):=by
    unfold EM;rw[Cm (by omega) (by omega),bd (Gf ..)]
   rw[nt,bd k];cases c:FQ n 0 ((y.Ac.length:Int)-1) with
   |false=>rw[nf,if_pos (.inr rfl)]
   |true=>
    rw[nt,if_neg (by simp)];rw[FY] at c;obtain⟨i,rfl⟩:=Int.eq_ofNat_of_zero_le c.1;have hi:i<y.Ac.length:=by omega
    obtain⟨b,l,m⟩:=Kh (K:=K) Fw y a o g hK;have d:Ch K (fun(st:Unit) (x:AE×Ao)=>(CP K x.1 x.2).bind fun r=>some (r,())) y o ()=some (b,((B9 y).length:Int),()):=by
     rw[←l];congr 1;funext st x;rw[bd (Kd ..)]
    rw[bd d,bd (KV b i (by omega)),m,JX Fw y a o i hi,Int.toNat_natCast];unfold verdict;show cond ((((B9 y).countP (IX y o i):Nat):Int)==((B9 y).length:Int)) _ (cond ((((B9 y).countP (IX y o i):Nat):Int)==0) _ _)=_;rw[KJ,MW];cases (B9 y).all (IX y o i)<;>cases (B9 y).all (fun t=> !IX y o i t)<;>rfl
 ·rw[ct (by simpa using h),if_pos h]
theorem Ik(y:Aq)(o:List (List Int)):∀(a:List AT) (s:Int×AT),s.1<(y.Ac.length:Int)∨a=[]→
  (∀t∈a,(Dv y (B3 y o t):Int)≤(G7 y o a s).1)∧s.1≤(G7 y o a s).1∧((G7 y o a s)=s∨∃t∈a,(G7 y o a s)=((Dv y (B3 y o t):Int),t))
 |[],s,_=>⟨fun t k=>(by cases k),Int.le_refl _,.inl rfl⟩
 |t::a,s,h=>by
  have g:s.1<(y.Ac.length:Int):=by
   rcases h with h|h
   ·exact h
   ·cases h
  have hle:∀x,(Dv y (B3 y o x):Int)≤(y.Ac.length:Int):=fun x=>by
   have:=Ke Dl y.Ac (B3 y o x);unfold Dv;omega
  rw[G7]
  by_cases i:s.1<(Dv y (B3 y o t):Int)
  ·rw[if_pos i];show(∀x∈t::a,_≤(cond (decide ((Dv y (B3 y o t):Int)<(y.Ac.length:Int))) _ _:Int×AT).1)∧_
   by_cases e:(Dv y (B3 y o t):Int)<(y.Ac.length:Int)
   ·rw[ct (dt e)];obtain⟨f,d,b⟩:=Ik y o a ((Dv y (B3 y o t):Int),t) (.inl e);refine⟨fun x c=>?_,by have l:(Dv y (B3 y o t):Int)≤_:=d;omega,.inr ?_⟩
    ·rcases List.mem_cons.1 c with rfl|c
     ·exact d
     ·exact f x c
    ·rcases b with b|⟨x,c,b⟩
     ·exact⟨t,List.mem_cons_self ..,b⟩
     ·exact⟨x,List.mem_cons_of_mem _ c,b⟩
   ·rw[cf (df e)];exact⟨fun x _=>Int.le_trans (hle x) (by show(y.Ac.length:Int)≤(Dv y (B3 y o t):Int);omega),by show s.1≤(Dv y (B3 y o t):Int);omega,.inr ⟨t,List.mem_cons_self ..,rfl⟩⟩
  ·rw[if_neg i];show(∀x∈t::a,_≤(cond (decide (s.1<(y.Ac.length:Int))) _ _:Int×AT).1)∧_;rw[ct (dt g)];obtain⟨f,d,b⟩:=Ik y o a s (.inl g);refine⟨fun x c=>?_,d,?_⟩
   ·rcases List.mem_cons.1 c with rfl|c
    ·omega
    ·exact f x c
   ·rcases b with b|⟨x,c,b⟩
    ·exact .inl b
    ·exact .inr ⟨x,List.mem_cons_of_mem _ c,b⟩
theorem MX{y:Aq}(f:Fg y):B9 y≠[]:=by
 have g:wl (days y) 0∈Dr y:=by
  refine GX.2 ⟨Gi _ _,?_⟩;have key:∀(l:List Bool) (s r:Int),(∀b∈l,b=false)→okW y.Ak y.AB l s r=true:=by
   intro l
   induction l with
   |nil=>intros;rfl
   |cons b l ih=>
    intro s r h;have a:=h b (List.mem_cons_self ..);subst a;rw[okW];exact ih s 0 fun x c=>h x (List.mem_cons_of_mem _ c)
  refine key _ 0 0 fun b a=>?_;unfold wl at a;obtain⟨d,_,rfl⟩:=List.mem_map.1 a;exact Nat.zero_testBit d
 have i:DU y.Ac (y.Ac.map (·.Av))=true:=by
  have key:∀ls:List AE,(∀l∈ls,sized l)→DU ls (ls.map (·.Av))=true:=by
   intro ls
   induction ls with
   |nil=>intro _;rfl
   |cons l r ih=>
    intro h;have:=(h l (List.mem_cons_self ..)).1;rw[List.map_cons,DU,Bool.and_eq_true];exact⟨FY.2 (by unfold Dk at this;omega),ih fun x c=>h x (List.mem_cons_of_mem _ c)⟩
  exact key _ fun l k=>(f.sz l k).1
 intro e;have:(⟨y.Ac.map (·.Av),wl (days y) 0⟩:AT)∈B9 y:=by
  unfold B9;exact List.mem_flatMap.2 ⟨_,g,List.mem_map.2 ⟨_,Gv.2 i,rfl⟩⟩
 rw[e] at this;cases this
theorem G8 {y:Aq} (c:Fg y) (o:List (List Int)):(∀t,Ei y t=true→(Dv y (B3 y o t):Int)≤(Cz y o).1)∧Ei y (Cz y o).2=true∧(Cz y o).1=(Dv y (B3 y o (Cz y o).2):Int):=by
 obtain⟨d,e,a⟩:=Ik y o (B9 y) (-1,⟨[],[]⟩) (.inl (by show(-1:Int)<_;omega));refine⟨fun t b=>d t ((GN c.h0).2 b),?_⟩;rcases a with a|⟨t,b,a⟩
 ·exfalso;obtain⟨t,b⟩:=List.exists_mem_of_ne_nil _ (MX c);have:=d t b;rw[a] at this;have f:(Dv y (B3 y o t):Int)≤-1:=this;omega
 ·unfold Cz;rw[a];exact⟨(GN c.h0).1 b,rfl⟩
end Go.Proofs.Ytkljfdkmjdjpfaa
end
section
namespace Go.Proofs.Ytkljfdkmjdjpfaa
def DK:Nat→Nat→List (List Int)→List (List (List Int))
 |0,_,o=>[o]
 |k+1,i,o=>(List.range o.length).flatMap fun r=>(List.range ((o.getD r []).length+1)).flatMap fun(a:Nat)=>DK k (i+1) (o.set r (Cx (o.getD r []) (a:Int) (i:Int)))
def Fx(y:Aq):List (List (List Int)):=DK y.Ac.length 0 (List.replicate y.Ai.toNat [])
section
variable{σ:Type}{K:Nat}(cb:σ→List (List Int)→Option (Bool×σ))(y:Aq)
def Or(n k i:Nat):Prop:=∀(o:List (List Int)) (st:σ),(∀l∈o,l.length≤i)→o.length≤1000→
 (Bn K cb k (i:Int) y o st).map (fun z=>(z.1,z.2.2))=run cb (DK n i o) st∧
 ∀z,Bn K cb k (i:Int) y o st=some z→z.1=true→z.2.1=o
theorem LC{l:List (List Int)}{r:Nat}(h:r<l.length):l.set r (l.getD r [])=l:=by
 rw[List.getD_eq_getElem?_getD,List.getElem?_eq_getElem h];exact List.set_getElem_self h
theorem NA(n k i r:Nat)(hi:i≤10)(o:List (List Int))(t:r<o.length)(w:o.length≤1000)(hlen:∀l∈o,l.length≤i)(ih:Or (K:=K) cb y n k (i+1)):
  ∀(c m a:Nat) (q:List (List Int)) (st:σ),(o.getD r []).length+1=a+c→c<m→q.length=o.length→q.set r (o.getD r [])=o→
  (B2 (Bn K cb k) (i:Int) y (r:Int) (o.getD r []) m (a:Int) q st).map Ol=run cb ((List.range' a c).flatMap fun(a:Nat)=>DK n (i+1) (o.set r (Cx (o.getD r []) (a:Int) (i:Int)))) st∧
  ∀z,B2 (Bn K cb k) (i:Int) y (r:Int) (o.getD r []) m (a:Int) q st=some z→(∀x,z=.inl x→x.1=false)∧(∀x,z=.inr x→x.1.length=o.length∧x.1.set r (o.getD r [])=o):=by
 have aI:(o.getD r []).length≤i:=by
  rw[List.getD_eq_getElem?_getD,List.getElem?_eq_getElem t];exact hlen _ (List.getElem_mem t)
 intro c
 induction c with
 |zero=>
  intro m a q st h hm aA f;cases m with
  |zero=>omega
  |succ m=>
   rw[B2.eq_2,cf (df (by omega))];exact⟨rfl,fun z g=>by cases g;exact⟨fun x e=>(by cases e),fun x e=>by cases e;exact⟨aA,f⟩⟩⟩
 |succ c aB=>
  intro m a q st h hm aA f;cases m with
  |zero=>omega
  |succ m=>
   have aC:r<q.length:=by omega
   have u:q.set r (Cx (o.getD r []) (a:Int) (i:Int))=o.set r (Cx (o.getD r []) (a:Int) (i:Int)):=by
    have h:(q.set r (o.getD r [])).set r (Cx (o.getD r []) (a:Int) (i:Int))=o.set r (Cx (o.getD r []) (a:Int) (i:Int)):=by rw[f]
    rw[List.set_set] at h;exact h
   rw[B2.eq_2,ct (dt (by omega)),GV (by omega),GV (by omega),Eb aC,Cm (by omega) (by omega),EH i,Int.toNat_natCast,u];obtain⟨aE,aF⟩:=ih (o.set r (Cx (o.getD r []) (a:Int) (i:Int))) st (fun l aG=>by
    rcases List.mem_or_eq_of_mem_set aG with v|v
    ·have:=hlen l v;omega
    ·rw[v,Jt];omega) (by rw[List.length_set];exact w)
   rw[List.range'_succ,List.flatMap_cons,Gr,←aE];cases aH:Bn K cb k ((i+1:Nat):Int) y (o.set r (Cx (o.getD r []) (a:Int) (i:Int))) st with
   |none=>exact⟨rfl,fun z g=>by cases g⟩
   |some z0=>
    obtain⟨b,p,s2⟩:=z0;cases b with
    |false=>
     refine⟨rfl,fun z g=>?_⟩;have aD:some (Sum.inl (false,p,s2))=some z:=g;cases aD;exact⟨fun x e=>by cases e;rfl,fun x e=>by cases e⟩
    |true=>
     have s:p=o.set r (Cx (o.getD r []) (a:Int) (i:Int)):=aF _ aH rfl;have key:(Option.bind (some (true,p,s2)) fun d=>cond (!d.1) (some (Sum.inl (false,d.2.1,d.2.2))) ((i64 ((a:Int)+1)).bind fun _=>B2 (Bn K cb k) (i:Int) y (r:Int) (o.getD r []) m ((a:Int)+1) d.2.1 d.2.2))=B2 (Bn K cb k) (i:Int) y (r:Int) (o.getD r []) m ((a+1:Nat):Int) p s2:=by
      rw[Option.bind_some,nt,Cm (by omega) (by omega),EH a]
     rw[key];exact aB m (a+1) p s2 (by omega) (by omega) (by rw[s,List.length_set]) (by rw[s,List.set_set];exact LC t)
theorem NB(n k i:Nat)(hi:i≤10)(hK:2000≤K)(o:List (List Int))(q:o.length≤1000)(hlen:∀l∈o,l.length≤i)(ih:Or (K:=K) cb y n k (i+1)):
  ∀(c m r:Nat) (st:σ),o.length=r+c→c<m→
  (BX (Bn K cb k) K (i:Int) y o m (r:Int) o st).map Ol=run cb ((List.range' r c).flatMap fun r=>(List.range ((o.getD r []).length+1)).flatMap fun(a:Nat)=>DK n (i+1) (o.set r (Cx (o.getD r []) (a:Int) (i:Int)))) st∧
  ∀z,BX (Bn K cb k) K (i:Int) y o m (r:Int) o st=some z→(∀x,z=.inl x→x.1=false)∧(∀x,z=.inr x→x.1=o):=by
 intro c
 induction c with
 |zero=>
  intro m r st h hm;cases m with
  |zero=>omega
  |succ m=>
   rw[BX.eq_2,cf (df (by omega))];exact⟨rfl,fun z p=>by cases p;exact⟨fun x f=>(by cases f),fun x f=>by cases f;rfl⟩⟩
 |succ c s=>
  intro m r st h hm;cases m with
  |zero=>omega
  |succ m=>
   have g:r<o.length:=by omega
   have aG:(o.getD r []).length≤i:=by
    rw[List.getD_eq_getElem?_getD,List.getElem?_eq_getElem g];exact hlen _ (List.getElem_mem g)
   have t:o[r]=o.getD r []:=by rw[List.getD_eq_getElem?_getD,List.getElem?_eq_getElem g];rfl
   rw[BX.eq_2,ct (dt (by omega)),Eb g,t,Cm (by omega) (by omega)];obtain⟨u,v⟩:=NA cb y n k i r hi o g q hlen ih ((o.getD r []).length+1) K 0 o st (by omega) (by omega) rfl (LC g);rw[Int.natCast_zero] at u v;rw[List.range'_succ,List.flatMap_cons,Gr,List.range_eq_range',←u];cases aB:B2 (Bn K cb k) (i:Int) y (r:Int) (o.getD r []) K 0 o st with
   |none=>exact⟨rfl,fun z p=>by cases p⟩
   |some z0=>
    obtain⟨aC,aD⟩:=v _ aB;cases z0 with
    |inl x=>
     obtain⟨b,e,s2⟩:=x;obtain rfl:b=false:=aC _ rfl;refine⟨rfl,fun z p=>?_⟩;have w:some (Sum.inl (false,e,s2))=some z:=p;cases w;exact⟨fun x f=>by cases f;rfl,fun x f=>by cases f⟩
    |inr x=>
     obtain⟨e,s2⟩:=x;obtain⟨aE,aF⟩:=aD _ rfl;have aH:e.length=o.length:=aE;have aA:e.set r (o.getD r [])=o:=aF;have key:(Option.bind (some (Sum.inr (e,s2):(Bool×List (List Int)×σ)⊕(List (List Int)×σ))) fun z=>Sum.elim (fun d=>some (Sum.inl (d.1,d.2.1,d.2.2))) (fun d=>(idx d.1 (r:Int)).bind fun _=>(i64 ((r:Int)+1)).bind fun _=>BX (Bn K cb k) K (i:Int) y o m ((r:Int)+1) (d.1.set (r:Int).toNat (o.getD r [])) d.2) z)=BX (Bn K cb k) K (i:Int) y o m ((r+1:Nat):Int) o s2:=by
      rw[Option.bind_some];show(idx e (r:Int)).bind _=_;rw[Eb (show r<e.length by omega),Cm (by omega) (by omega),EH r];show BX _ K _ y o m _ (e.set (r:Int).toNat (o.getD r [])) s2=_;rw[Int.toNat_natCast,aA]
     rw[key];exact s m (r+1) s2 (by omega) (by omega)
theorem NC(u:y.Ac.length≤4)(hK:2000≤K):∀(n k i:Nat),y.Ac.length=i+n→n<k→Or (K:=K) cb y n k i:=by
 intro n
 induction n with
 |zero=>
  intro k i h m o st hlen e;cases k with
  |zero=>omega
  |succ k=>
   rw[Bn.eq_2,ct (by rw[h];simp)];rw[DK,run];cases cb st o with
   |none=>exact⟨rfl,fun z a=>by cases a⟩
   |some r=>
    obtain⟨b,s⟩:=r;refine⟨by cases b<;>rfl,fun z a _=>?_⟩;have c:some (b,o,s)=some z:=a;cases c;rfl
 |succ n ih=>
  intro k i h m o st hlen e;cases k with
  |zero=>omega
  |succ k=>
   rw[Bn.eq_2,cf (by simp;omega)];obtain⟨f,g⟩:=NB cb y n k i (by omega) hK o e hlen (ih k (i+1) (by omega) (by omega)) o.length K 0 st (by omega) (by omega);rw[Int.natCast_zero] at f g;rw[DK,List.range_eq_range',←f];cases p:BX (Bn K cb k) K (i:Int) y o K 0 o st with
   |none=>exact⟨rfl,fun z a=>by cases a⟩
   |some z0=>
    obtain⟨q,t⟩:=g _ p;cases z0 with
    |inl x=>
     obtain⟨b,d,s2⟩:=x;obtain rfl:b=false:=q _ rfl;refine⟨rfl,fun z a l=>?_⟩;have c:some (false,d,s2)=some z:=a;cases c;cases l
    |inr x=>
     obtain⟨d,s2⟩:=x;obtain rfl:d=o:=t _ rfl;refine⟨rfl,fun z a l=>?_⟩;have c:some (true,d,s2)=some z:=a;cases c;rfl
end
theorem LD{σ:Type}{K:Nat}(cb:σ→List (List Int)→Option (Bool×σ))(y:Aq)(a:Fg y)(hK:2000≤K)(st:σ):D9 K cb y st=(run cb (Fx y) st).bind fun r=>some r.2:=by
 unfold D9;have:=a.r1;have:=a.r2;rw[Mi (by omega) (by omega) (by omega)];obtain⟨b,_⟩:=NC cb y a.n4 hK y.Ac.length K 0 (by omega) (by have:=a.n4;omega) (List.replicate y.Ai.toNat []) st (fun l c=>by rw[(List.mem_replicate.1 c).2];exact Nat.le_refl _) (by rw[List.length_replicate];omega);rw[Int.natCast_zero] at b;unfold Fx;rw[←b];cases Bn K cb K 0 y (List.replicate y.Ai.toNat []) st with
 |none=>rfl
 |some z=>rfl
end Go.Proofs.Ytkljfdkmjdjpfaa
end
section
namespace Go.Proofs.Ytkljfdkmjdjpfaa
theorem ND(l:List Int)(a i:Int):(Cx l a i).Perm (i::l):=by
 unfold Cx;refine List.perm_middle.trans (List.Perm.cons _ ?_);rw[List.take_append_drop]
theorem Hr(v:Int):∀(o:List (List Int)) (r:Nat) (a:Int),r<o.length→(o.set r (Cx (o.getD r []) a v)).flatten.Perm (v::o.flatten)
 |l::o,0,a,_=>by
  show(Cx l a v++o.flatten).Perm (v::(l++o.flatten));exact(ND l a v).append_right _
 |l::o,r+1,a,h=>by
  show(l++(o.set r (Cx (o.getD r []) a v)).flatten).Perm (v::(l++o.flatten));exact((Hr v o r a (by simpa using h)).append_left l).trans List.perm_middle
theorem IY(n:Nat):iota (n+1)=iota n++[(n:Int)]:=by simp[iota,List.range_succ]
theorem JY:∀(k i:Nat) (c o:List (List Int)),c.flatten.Perm (iota i)→o∈DK k i c→o.length=c.length∧o.flatten.Perm (iota (i+k))
 |0,i,c,o,h,b=>by
  rw[DK,List.mem_singleton] at b;subst b;exact⟨rfl,h⟩
 |k+1,i,c,o,h,b=>by
  rw[DK,List.mem_flatMap] at b;obtain⟨r,d,b⟩:=b;obtain⟨a,_,b⟩:=List.mem_flatMap.1 b;rw[List.mem_range] at d;obtain⟨e,f⟩:=JY k (i+1) _ o (by
   rw[IY];exact((Hr (i:Int) c r (a:Int) d).trans (h.cons _)).trans (List.perm_append_singleton _ _).symm) b
  rw[List.length_set] at e;exact⟨e,by rw[show i+(k+1)=i+1+k by omega];exact f⟩
theorem G9{y:Aq}(a:Fg y){o:List (List Int)}(h:o∈Fx y):Dj y o=true:=by
 have:=JY _ 0 _ o (by
  have:(List.replicate y.Ai.toNat ([]:List Int)).flatten=[]:=by simp
  rw[this];exact List.Perm.refl _) h
 rw[List.length_replicate,Nat.zero_add] at this;refine EU.2 ⟨?_,this.2⟩;have:=a.r1;omega
theorem IZ:∀(k i:Nat) (c o:List (List Int)) (r a:Nat),o∈DK k i c→r<o.length→a≤(o.getD r []).length→o.set r (Cx (o.getD r []) (a:Int) ((i+k:Nat):Int))∈DK (k+1) i c
 |0,i,c,o,r,a,b,d,e=>by
  rw[DK,List.mem_singleton] at b;subst b;rw[DK,List.mem_flatMap];refine⟨r,List.mem_range.2 d,List.mem_flatMap.2 ⟨a,List.mem_range.2 (by omega),?_⟩⟩;rw[DK,List.mem_singleton];rfl
 |k+1,i,c,o,r,a,b,d,e=>by
  rw[DK,List.mem_flatMap] at b;obtain⟨r1,f,b⟩:=b;obtain⟨a1,g,b⟩:=List.mem_flatMap.1 b;rw[DK,List.mem_flatMap];refine⟨r1,f,List.mem_flatMap.2 ⟨a1,g,?_⟩⟩;have:=IZ k (i+1) _ o r a b d e;rw[show i+1+k=i+(k+1) by omega] at this;exact this
theorem JZ (v:Int):∀(o:List (List Int)),v∈o.flatten→∃(o':List (List Int)) (r a:Nat),r<o'.length∧a≤(o'.getD r []).length∧o=o'.set r (Cx (o'.getD r []) (a:Int) v)∧o.flatten.Perm (v::o'.flatten)∧o'.length=o.length
 |[],h=>by cases h
 |l::o,h=>by
  by_cases b:v∈l
  ·obtain⟨s,t,rfl⟩:=List.append_of_mem b;refine⟨(s++t)::o,0,s.length,by simp,by simp,?_,?_,by simp⟩
   ·show _=Cx (s++t) (s.length:Int) v::o;unfold Cx;rw[Int.toNat_natCast,List.take_left,List.drop_left]
   ·show((s++v::t)++o.flatten).Perm (v::((s++t)++o.flatten));exact(List.perm_middle (a:=v) (l₁:=s) (l₂:=t)).append_right _
  ·have c:v∈o.flatten:=by
    rw[List.flatten_cons,List.mem_append] at h;exact h.resolve_left b
   obtain⟨o',r,a,d,e,f,g,i⟩:=JZ v o c;refine⟨l::o',r+1,a,by simpa using d,e,?_,?_,by simp[i]⟩
   ·show l::o=l::o'.set r (Cx (o'.getD r []) (a:Int) v);rw[←f]
   ·show(l++o.flatten).Perm (v::(l++o'.flatten));exact(g.append_left l).trans List.perm_middle
theorem Jx(J0:Nat):∀(n:Nat) (o:List (List Int)),o.length=J0→o.flatten.Perm (iota n)→o∈DK n 0 (List.replicate J0 [])
 |0,o,c,b=>by
  rw[DK,List.mem_singleton];have he:o.flatten=[]:=b.eq_nil;rw[List.flatten_eq_nil_iff] at he;exact List.eq_replicate_iff.2 ⟨c,he⟩
 |n+1,o,c,b=>by
  have e:(n:Int)∈o.flatten:=b.mem_iff.2 (by rw[IY];simp);obtain⟨o',r,a,f,g,h,i,l⟩:=JZ (n:Int) o e;have d:o'.flatten.Perm (iota n):=by
   have k:(iota (n+1)).Perm ((n:Int)::iota n):=by rw[IY];exact List.perm_append_singleton _ _
   exact(List.perm_cons _).1 ((i.symm.trans b).trans k)
  have:=IZ n 0 _ o' r a (Jx J0 n o' (by omega) d) f g;rw[Nat.zero_add] at this;rw[h];exact this
theorem Jy{y:Aq}(a:Fg y){o:List (List Int)}:o∈Fx y↔Dj y o=true:=by
 refine⟨G9 a,fun h=>?_⟩;have b:=EU.1 h;exact Jx _ _ o (by omega) b.2
theorem MY{y:Aq}(a:Fg y):Fx y≠[]:=by
 have:((iota y.Ac.length)::List.replicate (y.Ai.toNat-1) [])∈Fx y:=by
  refine(Jy a).2 (EU.2 ⟨?_,?_⟩)
  ·have:=a.r1;simp;omega
  ·simp
 intro e;rw[e] at this;cases this
theorem Ov(p:List (List Int))(c:p.length≤1000)(a:∀l∈p,l.length≤1000):∀(k m i:Nat),p.length=i+k→k<m→D5 p m (i:Int) p=some p:=by
 intro k
 induction k with
 |zero=>
  intro m i h hm;cases m with
  |zero=>omega
  |succ m=>rw[D5.eq_2,cf (df (by omega))]
 |succ k ih=>
  intro m i h hm;cases m with
  |zero=>omega
  |succ m=>
   have hi:i<p.length:=by omega
   have b:=a p[i] (List.getElem_mem hi);rw[D5.eq_2,ct (dt (by omega)),Eb hi,GV (by omega),Eb hi,Cm (by omega) (by omega),EH,Int.toNat_natCast,List.set_getElem_self hi];exact ih m (i+1) (by omega) (by omega)
theorem LF{K:Nat}(p:List (List Int))(a:p.length≤1000)(b:∀l∈p,l.length≤1000)(hK:2000≤K):En K p=some p:=by
 unfold En;have:=Ov p a b p.length K 0 (by omega) (by omega);rw[Int.natCast_zero] at this;rw[GV (by omega),bd this]
theorem I0{y:Aq}(a:Fg y){o:List (List Int)}(h:Dj y o=true):o.length≤1000∧(∀l∈o,l.length≤1000)∧o.flatten.length≤1000:=by
 have b:=EU.1 h;have c:=Kb h;have:=a.r2;have:=a.n4;have d:=b.2.length_eq;rw[F8] at d;exact⟨by omega,fun l e=>by have:=(c l e).1;omega,by omega⟩
def GO(y:Aq):List (List (List Int))→Int×List (List Int)→Int×List (List Int)
 |[],s=>s
 |o::os,s=>
  let s2:=if (Cz y o).1<s.1 then ((Cz y o).1,o) else s
  cond (decide (0<s2.1)) (GO y os s2) s2
def Gb(y:Aq):Int×List (List Int):=GO y (Fx y) ((y.Ac.length:Int)+1,[])
theorem LG{K:Nat}(y:Aq)(a:Fg y)(hK:2000≤K):∀(os:List (List (List Int))) (s:Int×List (List Int)),(∀o∈os,Dj y o=true)→
  (run (fun(st:Int×(List (List Int))) (x:(List (List Int)))=>(Fb K x y st.1 st.2).bind fun r=>some (r.1,(r.2.1,r.2.2))) os s).bind (fun r=>some r.2)=some (GO y os s)
 |[],s,_=>rfl
 |o::os,s,h=>by
  have d:=h o (List.mem_cons_self ..);obtain⟨e,f,_⟩:=I0 a d;rw[run,GO];unfold Fb;rw[bd (Nz y a o d hK)]
  by_cases b:(Cz y o).1<s.1
  ·rw[ct (dt b),bd (LF o e f hK),if_pos b];show(cond (decide (0<(Cz y o).1)) _ _:Option (Bool×Int×List (List Int))).bind _=some (cond (decide (0<(Cz y o).1)) _ _);cases decide (0<(Cz y o).1) with
   |false=>rfl
   |true=>exact LG y a hK os _ fun x c=>h x (List.mem_cons_of_mem _ c)
  ·rw[cf (df b),if_neg b];show(cond (decide (0<s.1)) _ _:Option (Bool×Int×List (List Int))).bind _=some (cond (decide (0<s.1)) _ _);cases decide (0<s.1) with
   |false=>rfl
   |true=>exact LG y a hK os s fun x c=>h x (List.mem_cons_of_mem _ c)
theorem PW{K:Nat}(y:Aq)(hK:2000≤K):ES K y=some (if check y≠0 then ([],0,check y) else ((Gb y).2,(Gb y).1,0)):=by
 unfold ES;rw[bd (El hK y)]
 by_cases h:check y=0
 ·rw[h,cf (by decide),if_neg (by simp)];have a:=F9 h;have c:=a.n4;rw[Cm (by omega) (by omega),LD _ y a hK];exact Eq.trans (bd (LG y a hK (Fx y) _ fun o b=>G9 a b)) rfl
 ·rw[ct (by simpa using h),if_pos h]
theorem LH{y:Aq}(a:Fg y)(o:List (List Int)):0≤(Cz y o).1∧(Cz y o).1≤(y.Ac.length:Int):=by
 obtain⟨_,_,e⟩:=G8 a o;have:=Ke Dl y.Ac (B3 y o (Cz y o).2);rw[e];unfold Dv;omega
theorem Il(y:Aq)(d:Fg y):∀(os:List (List (List Int))) (s:Int×List (List Int)),0<s.1∨os=[]→
  (∀o∈os,(GO y os s).1≤(Cz y o).1)∧(GO y os s).1≤s.1∧((GO y os s)=s∨∃o∈os,(GO y os s)=((Cz y o).1,o))
 |[],s,_=>⟨fun o k=>(by cases k),Int.le_refl _,.inl rfl⟩
 |o::os,s,h=>by
  have g:0<s.1:=by
   rcases h with h|h
   ·exact h
   ·cases h
  rw[GO]
  by_cases i:(Cz y o).1<s.1
  ·rw[if_pos i];show(∀x∈o::os,(cond (decide (0<(Cz y o).1)) _ _:Int×List (List Int)).1≤_)∧_
   by_cases e:0<(Cz y o).1
   ·rw[ct (dt e)];obtain⟨f,c,a⟩:=Il y d os ((Cz y o).1,o) (.inl e);have l:(GO y os ((Cz y o).1,o)).1≤(Cz y o).1:=c;refine⟨fun x b=>?_,by omega,.inr ?_⟩
    ·rcases List.mem_cons.1 b with rfl|b
     ·exact c
     ·exact f x b
    ·rcases a with a|⟨x,b,a⟩
     ·exact⟨o,List.mem_cons_self ..,a⟩
     ·exact⟨x,List.mem_cons_of_mem _ b,a⟩
   ·rw[cf (df e)];refine⟨fun x _=>?_,by show(Cz y o).1≤s.1;omega,.inr ⟨o,List.mem_cons_self ..,rfl⟩⟩;have:=(LH d x).1;show(Cz y o).1≤_;omega
  ·rw[if_neg i];show(∀x∈o::os,(cond (decide (0<s.1)) _ _:Int×List (List Int)).1≤_)∧_;rw[ct (dt g)];obtain⟨f,c,a⟩:=Il y d os s (.inl g);refine⟨fun x b=>?_,c,?_⟩
   ·rcases List.mem_cons.1 b with rfl|b
    ·omega
    ·exact f x b
   ·rcases a with a|⟨x,b,a⟩
    ·exact .inl a
    ·exact .inr ⟨x,List.mem_cons_of_mem _ b,a⟩
theorem MZ {y:Aq} (a:Fg y):(∀o,Dj y o=true→(Gb y).1≤(Cz y o).1)∧Dj y (Gb y).2=true∧(Gb y).1=(Cz y (Gb y).2).1:=by
 obtain⟨d,e,b⟩:=Il y a (Fx y) ((y.Ac.length:Int)+1,[]) (.inl (by show(0:Int)<_+1;omega));refine⟨fun o c=>d o ((Jy a).2 c),?_⟩;rcases b with b|⟨o,c,b⟩
 ·exfalso;obtain⟨o,c⟩:=List.exists_mem_of_ne_nil _ (MY a);have:=d o c;rw[b] at this;have f:(y.Ac.length:Int)+1≤(Cz y o).1:=this;have:=(LH a o).2;omega
 ·unfold Gb;rw[b];exact⟨G9 a c,rfl⟩
end Go.Proofs.Ytkljfdkmjdjpfaa
end
section
namespace Go.Proofs.Ytkljfdkmjdjpfaa
def FT(y:Aq)(yes:List Int):Nat:=(List.range y.Ac.length).countP fun i=>yes.getD i 0==0
theorem O6(y:Aq)(r:By×Int×Unit)(c:y.Ac.length≤4):∀(k m i:Nat) (a:Int),y.Ac.length=i+k→k<m→0≤a→a≤i→
  DE y r m a (i:Int)=some (a+((List.range' i k).countP (fun i=>r.1.l.getD i 0==0):Nat)):=by
 intro k
 induction k with
 |zero=>
  intro m i a h hm h0 b;cases m with
  |zero=>omega
  |succ m=>rw[DE.eq_2,cf (df (by omega))];simp
 |succ k ih=>
  intro m i a h hm h0 b;cases m with
  |zero=>omega
  |succ m=>
   rw[DE.eq_2,ct (dt (by omega)),bd (KV r.1 i (by omega)),List.range'_succ,List.countP_cons];cases d:(r.1.l.getD i 0==0) with
   |true=>
    rw[ct rfl,Cm (by omega) (by omega),Cm (by omega) (by omega),EH,ih m (i+1) (a+1) (by omega) (by omega) (by omega) (by omega)]
    congr 1;simp;omega
   |false=>
    rw[cf rfl,Cm (by omega) (by omega),EH,ih m (i+1) a (by omega) (by omega) (by omega) (by omega)]
    congr 1
theorem Ow(y:Aq)(r:By×Int×Unit)(c:y.Ac.length≤4):∀(k m i:Nat) (a:Int),y.Ac.length=i+k→k<m→0≤a→a≤i→
  Dy y r m a (i:Int)=some (a+((List.range' i k).countP (fun i=>r.1.l.getD i 0==0):Nat)):=by
 intro k
 induction k with
 |zero=>
  intro m i a h hm h0 b;cases m with
  |zero=>omega
  |succ m=>rw[Dy.eq_2,cf (df (by omega))];simp
 |succ k ih=>
  intro m i a h hm h0 b;cases m with
  |zero=>omega
  |succ m=>
   rw[Dy.eq_2,ct (dt (by omega)),bd (KV r.1 i (by omega)),List.range'_succ,List.countP_cons];cases d:(r.1.l.getD i 0==0) with
   |true=>
    rw[ct rfl,Cm (by omega) (by omega),Cm (by omega) (by omega),EH,ih m (i+1) (a+1) (by omega) (by omega) (by omega) (by omega)]
    congr 1;simp;omega
   |false=>
    rw[cf rfl,Cm (by omega) (by omega),EH,ih m (i+1) a (by omega) (by omega) (by omega) (by omega)]
    congr 1
def GP(y:Aq):List (List (List Int))→Int×List Int×List (List Int)→Int×List Int×List (List Int)
  |[],s=>s
  |o::os,s=>
    cond (decide (0≤s.1)&&(C0 Dl y o==s.2.1)) (GP y os s)
      (let s2:=if s.1<(FT y (C0 Dl y o):Int) then ((FT y (C0 Dl y o):Int),C0 Dl y o,o) else (s.1,C0 Dl y o,s.2.2)
       cond (decide (s2.1<(y.Ac.length:Int))) (GP y os s2) s2)
def Im(y:Aq):Int×List Int×List (List Int):=GP y (Fx y) (-1,[0,0,0,0],[])
theorem LI{K:Nat}(y:Aq)(e:Fg y)(hK:2000≤K):∀(os:List (List (List Int))) (n:Int) (a:By) (q:List (List Int)),(∀o∈os,Dj y o=true)→
    ∃(b:Bool) (a2:By),run (fun(st:Int×By×(List (List Int))) (x:(List (List Int)))=>(D0 K x y st.1 st.2.1 st.2.2).bind fun r=>some (r.1,(r.2.1,r.2.2.1,r.2.2.2))) os (n,a,q)=some (b,(GP y os (n,a.l,q)).1,a2,(GP y os (n,a.l,q)).2.2)
  |[],n,a,q,_=>⟨true,a,rfl⟩
  |o::os,n,a,q,h=>by
    have t:=h o (List.mem_cons_self ..);have s:∀x∈os,Dj y x=true:=fun x aD=>h x (List.mem_cons_of_mem _ aD);obtain⟨aE,aF,_⟩:=I0 e t;have u:=e.n4;obtain⟨b,aG,m⟩:=Kh (K:=K) Dl y e o t hK;have v:Ch K (fun(st:Unit) (x:AE×Ao)=>(DD K x.1 x.2).bind fun r=>some (r,())) y o ()=some (b,((B9 y).length:Int),()):=by
      rw[←aG];congr 1;funext st x;rw[bd (Ml ..)];rfl
    have h9:=O6 y (b,((B9 y).length:Int),()) u y.Ac.length K 0 0 (by omega) (by omega) (by omega) (by omega);have f:=Ow y (b,((B9 y).length:Int),()) u y.Ac.length K 0 0 (by omega) (by omega) (by omega) (by omega);rw[Int.natCast_zero,Int.zero_add] at h9 f;have w:((List.range' 0 y.Ac.length).countP (fun i=>(b,((B9 y).length:Int),()).1.l.getD i 0==0))=FT y (C0 Dl y o):=by
      rw[←List.range_eq_range',←m];rfl
    rw[w] at h9 f;have c:∀(l:Int×By×List (List Int)) (z:Int×List Int×List (List Int)),(l.1,l.2.1.l,l.2.2)=z→
        ∃(d:Bool) (a2:By),cond (decide (l.1<(y.Ac.length:Int))) (run (fun(st:Int×By×(List (List Int))) (x:(List (List Int)))=>(D0 K x y st.1 st.2.1 st.2.2).bind fun r=>some (r.1,(r.2.1,r.2.2.1,r.2.2.2))) os l) (some (false,l))=some (d,(cond (decide (z.1<(y.Ac.length:Int))) (GP y os z) z).1,a2,(cond (decide (z.1<(y.Ac.length:Int))) (GP y os z) z).2.2):=by
      rintro⟨g,aA,aH⟩ z rfl;show∃(d:Bool) (a2:By),cond (decide (g<(y.Ac.length:Int))) _ _=some (d,(cond (decide (g<(y.Ac.length:Int))) _ _:Int×List Int×List (List Int)).1,a2,(cond (decide (g<(y.Ac.length:Int))) _ _:Int×List Int×List (List Int)).2.2);cases decide (g<(y.Ac.length:Int)) with
      |false=>exact⟨false,aA,rfl⟩
      |true=>exact LI y e hK os g aA aH s
    have main:∀z9:Int,z9=(FT y (C0 Dl y o):Int)→∃(d:Bool) (a2:By),
        (((cond (decide (n<z9)) ((En K o).bind fun aB=>some ((decide (z9<(y.Ac.length:Int)),z9,b,aB))) (some ((decide (n<(y.Ac.length:Int)),n,b,q))):Option (Bool×Int×By×List (List Int))).bind fun r=>some (r.1,(r.2.1,r.2.2.1,r.2.2.2))).bind fun r=>cond r.1 (run (fun(st:Int×By×(List (List Int))) (x:(List (List Int)))=>(D0 K x y st.1 st.2.1 st.2.2).bind fun r=>some (r.1,(r.2.1,r.2.2.1,r.2.2.2))) os r.2) (some (false,r.2)))=
        some (d,(let s2:=if n<(FT y (C0 Dl y o):Int) then ((FT y (C0 Dl y o):Int),C0 Dl y o,o) else (n,C0 Dl y o,q)
       cond (decide (s2.1<(y.Ac.length:Int))) (GP y os s2) s2).1,a2,(let s2:=if n<(FT y (C0 Dl y o):Int) then ((FT y (C0 Dl y o):Int),C0 Dl y o,o) else (n,C0 Dl y o,q)
       cond (decide (s2.1<(y.Ac.length:Int))) (GP y os s2) s2).2.2):=by
      rintro z9 rfl
      by_cases k:n<(FT y (C0 Dl y o):Int)
      · rw[ct (dt k),bd (LF o aE aF hK)];simp only[if_pos k];exact c ((FT y (C0 Dl y o):Int),b,o) ((FT y (C0 Dl y o):Int),C0 Dl y o,o) (by show(_,b.l,o)=_;rw[m])
      · rw[cf (df k)];simp only[if_neg k];exact c (n,b,q) (n,C0 Dl y o,q) (by show(_,b.l,q)=_;rw[m])
    rw[run,GP];show∃(d:Bool) (a2:By),Option.bind ((D0 K o y n a q).bind _) _=_;unfold D0;rw[bd v]
    by_cases p:0≤n
    · rw[ct (dt p),dt p,Bool.true_and];have aC:([b.a0,b.a1,b.a2,b.a3]==[a.a0,a.a1,a.a2,a.a3])=(C0 Dl y o==a.l):=by rw[←m];rfl
      rw[aC];cases k:(C0 Dl y o==a.l) with
      |true=>
        rw[ct rfl,ct rfl];exact LI y e hK os n a q s
      |false=>
        rw[cf rfl,cf rfl,bd h9];exact main _ rfl
    · rw[cf (df p),df p,Bool.false_and,cf rfl,bd f];exact main _ rfl
theorem PX{K:Nat}(y:Aq)(hK:2000≤K):ET K y=some (if check y≠0 then ([],0,check y) else ((Im y).2.2,(Im y).1,0)):=by
 unfold ET;rw[bd (El hK y)]
 by_cases h:check y=0
 ·rw[h,cf (by decide),if_neg (by simp)];have a:=F9 h;rw[LD _ y a hK];obtain⟨b,a2,e⟩:=LI (K:=K) y a hK (Fx y) (-1) ⟨0,0,0,0⟩ [] fun o c=>G9 a c;exact Eq.trans (congrArg (fun z=>Option.bind (Option.bind z _) _) e) rfl
 ·rw[ct (by simpa using h),if_pos h]
end Go.Proofs.Ytkljfdkmjdjpfaa
end
section
namespace Go.Proofs.Ytkljfdkmjdjpfaa
def F1(n i k:Nat):List Int:=((List.range' k (n-k)).filter fun j=>j !=i).map fun j:Nat=>(j:Int)
def Fy (y:Aq) (i:Nat):List (List Int):=((i:Int)::F1 y.Ac.length i 0)::List.replicate (y.Ai.toNat-1) []
theorem PY{α:Type}(x:α)(r:List α):idx (x::r) (0:Int)=some x:=idx_eq (xs:=x::r) (k:=0) (by simp)
theorem Q7(n i:Nat)(f:n≤4):∀(d m k:Nat) (x:List Int) (r:List (List Int)),n=k+d→d<m→x.length≤1+k→
  HH (n:Int) (i:Int) m (k:Int) (x::r)=some ((x++F1 n i k)::r):=by
 intro d
 induction d with
 |zero=>
  intro m k x r h hm e;cases m with
  |zero=>omega
  |succ m=>
   rw[HH,cf (df (by omega))];unfold F1;rw[show n-k=0 by omega];simp
 |succ d ih=>
  intro m k x r h hm e;cases m with
  |zero=>omega
  |succ m=>
   have b:idx (x::r) (0:Int)=some x:=PY x r;have c:F1 n i k=cond (k !=i) ((k:Int)::F1 n i (k+1)) (F1 n i (k+1)):=by
    unfold F1;rw[show n-k=(n-(k+1))+1 by omega,List.range'_succ,List.filter_cons];cases g:(k !=i) with
    |true=>rfl
    |false=>rfl
   rw[HH,ct (dt (by omega))]
   by_cases a:k=i
   ·have:((k:Int) !=(i:Int))=false:=by rw[a];exact bne_self_eq_false ..
    rw[this,cf rfl,Cm (by omega) (by omega),EH,ih m (k+1) x r (by omega) (by omega) (by omega),c,show(k !=i)=false by rw[a];exact bne_self_eq_false ..];rfl
   ·have:((k:Int) !=(i:Int))=true:=by rw[bne_iff_ne];omega
    rw[this,ct rfl,bd b,GV (by simp;omega),bd b,Cm (by omega) (by omega),EH];show HH _ _ m _ ((x++[(k:Int)])::r)=_;rw[ih m (k+1) (x++[(k:Int)]) r (by omega) (by omega) (by simp;omega),c,show(k !=i)=true by rw[bne_iff_ne];exact a];simp
theorem NF{y:Aq}(b:Fg y){i:Nat}(hi:i<y.Ac.length):Dj y (Fy y i)=true:=by
 have c:=b.r1;rw[EU];refine⟨by unfold Fy;simp;omega,?_⟩;have e:(Fy y i).flatten=(i:Int)::F1 y.Ac.length i 0:=by
  unfold Fy;rw[List.flatten_cons];have:(List.replicate (y.Ai.toNat-1) ([]:List Int)).flatten=[]:=by
   simp
  rw[this,List.append_nil]
 rw[e];unfold F1 iota;rw[←List.range_eq_range',Nat.sub_zero];have:((i:Int)::((List.range y.Ac.length).filter fun j=>j !=i).map fun j:Nat=>(j:Int))=(i::((List.range y.Ac.length).filter fun j=>j !=i)).map fun j:Nat=>(j:Int):=rfl;rw[this];refine List.Perm.map _ ?_;have hm:i∈List.range y.Ac.length:=List.mem_range.2 hi;have a:=List.perm_cons_erase hm;rw[List.Nodup.erase_eq_filter List.nodup_range] at a;exact a.symm
def EV(y:Aq)(k d:Nat):List Int:=((List.range' k d).filter fun i=> !(B9 y).all (IX y (Fy y i) i)).map fun i:Nat=>(i:Int)
theorem M0{K:Nat}(y:Aq)(c:Fg y)(hK:2000≤K):∀(d m i:Nat) (a:List Int),y.Ac.length=i+d→d<m→a.length≤i→
  Dq K y m a (i:Int)=some (a++EV y i d):=by
 have g:=c.n4;have t:=c.r1;have u:=c.r2;intro d
 induction d with
 |zero=>
  intro m i a h hm k;cases m with
  |zero=>omega
  |succ m=>rw[Dq.eq_2,cf (df (by omega))];simp[EV]
 |succ d ih=>
  intro m i a h hm k;cases m with
  |zero=>omega
  |succ m=>
   have hi:i<y.Ac.length:=by omega
   have n:=NF c hi;obtain⟨b,o,p⟩:=Kh (K:=K) Fw y c (Fy y i) n hK;have e:Ch K (fun(st:Unit) (x:AE×Ao)=>(CP K x.1 x.2).bind fun r=>some (r,())) y (Fy y i) ()=some (b,((B9 y).length:Int),()):=by
    rw[←o];congr 1;funext st x;rw[bd (Kd ..)]
   have er:List.replicate y.Ai.toNat ([]:List Int)=[]::List.replicate (y.Ai.toNat-1) []:=by
    rw[←List.replicate_succ];congr 1;omega
   have f:=Q7 y.Ac.length i g y.Ac.length K 0 [(i:Int)] (List.replicate (y.Ai.toNat-1) []) (by omega) (by omega) (by simp);rw[Dq.eq_2,ct (dt (by omega)),Mi (by omega) (by omega) (by omega),er];rw[bd (show idx (([]:List Int)::List.replicate (y.Ai.toNat-1) []) (0:Int)=some [] from PY _ _)];rw[Int.natCast_zero] at f;show(HH _ _ K (0:Int) ([(i:Int)]::List.replicate (y.Ai.toNat-1) [])).bind _=_;rw[bd f];show(Ch K _ y (Fy y i) ()).bind _=_;rw[bd e,bd (KV b i (by omega))];have q:((b.l.getD i 0)==((B9 y).length:Int))=(B9 y).all (IX y (Fy y i) i):=by
    rw[p,JX Fw y c (Fy y i) i hi,KJ];rfl
   show cond ((b.l.getD i 0)==((B9 y).length:Int)) _ _=_;rw[q];have s:EV y i (d+1)=cond ((B9 y).all (IX y (Fy y i) i)) (EV y (i+1) d) ((i:Int)::EV y (i+1) d):=by
    unfold EV;rw[List.range'_succ,List.filter_cons];cases (B9 y).all (IX y (Fy y i) i)<;>rfl
   rw[s];cases (B9 y).all (IX y (Fy y i) i) with
   |true=>
    rw[ct rfl,Cm (by omega) (by omega),EH,ih m (i+1) a (by omega) (by omega) (by omega)];rfl
   |false=>
    rw[cf rfl,GV (by simp;omega),Cm (by omega) (by omega),EH,ih m (i+1) (a++[(i:Int)]) (by omega) (by omega) (by simp;omega)];simp
theorem M3{K:Nat}(y:Aq)(hK:2000≤K):DO K y=some (if check y≠0 then ([],check y) else (EV y 0 y.Ac.length,0)):=by
 unfold DO;rw[bd (El hK y)]
 by_cases h:check y=0
 ·rw[h,if_neg (by simp)];have e:=M0 (K:=K) y (F9 h) hK y.Ac.length K 0 [] (by omega) (by have:=(F9 h).n4;omega) (by simp);rw[Int.natCast_zero] at e;show cond false _ _=_;rw[cf rfl,bd e,List.nil_append]
 ·rw[ct (by simpa using h),if_pos h]
end Go.Proofs.Ytkljfdkmjdjpfaa
end
section
namespace Go.Proofs.Ytkljfdkmjdjpfaa
theorem I1{W R W' R':Int}(a:W≤W')(b:R≤R'):∀(l:List Bool) (s r:Int),okW W R l s r=true→okW W' R' l s r=true
 |[],_,_,_=>rfl
 |false::l,s,r,h=>I1 a b l s 0 h
 |true::l,s,r,h=>by
  rw[okW,Bool.and_eq_true,Bool.and_eq_true,decide_eq_true_eq,decide_eq_true_eq] at h⊢;exact⟨by omega,by omega,I1 a b l _ _ h.2.2⟩
theorem Io{y:Aq}{t:AT}:Ei y t=true↔(t.Ak.length:Int)=y.Aj+1∧HI y t.Ak=true∧DU y.Ac t.Comes=true:=by
 unfold Ei;rw[Bool.and_eq_true,Bool.and_eq_true,decide_eq_true_eq]
end Go.Proofs.Ytkljfdkmjdjpfaa
end
section
namespace Go.Proofs.Ytkljfdkmjdjpfaa
structure Alike (y x:Aq):Prop where
 last:x.Aj=y.Aj
 len:x.Ac.length=y.Ac.length
 Eo:∀i:Nat,(EK x i).AJ=(EK y i).AJ
 RF:∀i:Nat,(EK x i).BA=(EK y i).BA
theorem Ip{l c:AE}(a:c.AJ=l.AJ)(b:c.BA=l.BA)(d0:Int):∀(ws:List Bool) (d Eo r:Int),FR c d0 ws d Eo r=FR l d0 ws d Eo r
 |[],_,_,_=>rfl
 |true::ws,d,Eo,r=>by rw[FR,FR,a,b,Ip a b d0 ws]
 |false::ws,d,Eo,r=>by rw[FR,FR,a,b,Ip a b d0 ws]
theorem L5{y x:Aq}(h:x.Aj=y.Aj){l a:AE}(b:a.AJ=l.AJ)(c:a.BA=l.BA)(w:List Bool)(d:Int):Eh x w a d=Eh y w l d:=by
 unfold Eh;rw[h,Ip b c]
theorem Alike.at{y x:Aq}(h:Alike y x)(w:List Bool)(i d:Int):Eh x w (Ff x i) d=Eh y w (Ff y i) d:=L5 h.last (h.Eo i.toNat) (h.RF i.toNat) w d
theorem Jz{y x:Aq}(h:Alike y x)(w:List Bool)(c:List Int):∀(l:List Int) (f:Int) (out:List Ao),Gs x w c l f out=Gs y w c l f out
 |[],_,_=>rfl
 |i::r,f,out=>by
  rw[Gs,Gs];show Gs x w c r (cond ((Eh x w (Ff x i) (max f (E5 c i))).Be==-1) (x.Aj+1) _) _=_;rw[h.at,h.last,Jz h w c r]
theorem JA{y x:Aq}(h:Alike y x)(w:List Bool)(c:List Int):∀(o:List (List Int)) (out:List Ao),Gt x w c o out=Gt y w c o out
 |[],_=>rfl
 |l::o,out=>by rw[Gt,Gt,Jz h,JA h w c o]
theorem L6{y x:Aq}(h:Alike y x)(o:List (List Int))(t:AT):B3 x o t=B3 y o t:=by
 unfold B3 FF;rw[h.len,JA h]
theorem KK{p b:AE→Ao→Bool}:∀(ls a:List AE) (ss:List Ao),ls.length=a.length→(∀i s,i<ls.length→p (ls.getD i GW) s=true→b (a.getD i GW) s=true)→F5 p ls ss≤F5 b a ss
 |[],[],ss,_,_=>Nat.le_refl _
 |[],_::_,_,h,_=>by cases h
 |_::_,[],_,h,_=>by cases h
 |l::ls,c::a,[],_,_=>by simp[F5]
 |l::ls,c::a,s::ss,d,h=>by
  have g:=KK ls a ss (by simpa using d) fun i s hi=>h (i+1) s (by simpa using hi);have e:p l s=true→b c s=true:=h 0 s (by simp);rw[F5,F5];cases f:p l s with
  |false=>simp only[cond_false];omega
  |true=>rw[e f];simp only[cond_true];omega
theorem M4 {l b:AE} (h:l.BU≤b.BU) {s:Ao} (a:Fw l s=true):Fw b s=true:=by
 unfold Fw at a⊢;rw[Bool.and_eq_true,decide_eq_true_eq] at a⊢;exact⟨a.1,by omega⟩
theorem NG{y x:Aq}(a:x.Ac.length=y.Ac.length)(b:∀i:Nat,(EK x i).BU≤(EK y i).BU)(ss:List Ao):Dv y ss≤Dv x ss:=by
 unfold Dv;refine KK _ _ ss a.symm fun i s _ h=>?_;unfold Dl at h⊢;cases c:Fw (x.Ac.getD i GW) s with
 |false=>rfl
 |true=>
  have:=M4 (b i) c;unfold EK at this;rw[this] at h;cases h
theorem O7{y x:Aq}(a:Fg y)(b:Fg x){o o':List (List Int)}(h:∀t,Ei y t=true→Ei x t=true∧Dv y (B3 y o t)≤Dv x (B3 x o' t)):(Cz y o).1≤(Cz x o').1:=by
 obtain⟨_,c,f⟩:=G8 a o;obtain⟨d,_,_⟩:=G8 b o';obtain⟨e,g⟩:=h _ c;have:=d _ e;omega
structure OJ(y x:Aq):Prop extends Alike y x where
 J0:x.Ai=y.Ai
 due:∀i:Nat,(EK x i).BU=(EK y i).BU
 comes:∀i:Nat,(EK x i).Av≤(EK y i).Av∧(EK y i).AD≤(EK x i).AD
 CN:y.Ak≤x.Ak
 run:y.AB≤x.AB
theorem Gx:∀{ls a:List AE} {cs:List Int},a.length=ls.length→(∀i:Nat,(a.getD i GW).Av≤(ls.getD i GW).Av∧(ls.getD i GW).AD≤(a.getD i GW).AD)→DU ls cs=true→DU a cs=true
 |[],[],cs,_,_,h=>h
 |[],_::_,_,h,_,_=>by cases h
 |_::_,[],_,h,_,_=>by cases h
 |l::ls,b::a,[],_,_,h=>by cases h
 |l::ls,b::a,c::cs,d,hw,h=>by
  rw[DU,Bool.and_eq_true] at h⊢;have e:=FY.1 h.1;have f:b.Av≤l.Av∧l.AD≤b.AD:=hw 0;exact⟨FY.2 (by omega),Gx (by simpa using d) (fun i=>hw (i+1)) h.2⟩
theorem OJ.OK{y x:Aq}(h:OJ y x){t:AT}(a:Ei y t=true):Ei x t=true:=by
 obtain⟨b,c,d⟩:=Io.1 a;exact Io.2 ⟨by rw[h.last];exact b,I1 h.CN h.run _ _ _ c,Gx h.len h.comes d⟩
structure KW(y z:Aq):Prop extends Alike y z where
 J0:z.Ai=y.Ai
 due:∀i:Nat,(EK y i).BU≤(EK z i).BU
 comes:∀i:Nat,(EK z i).Av=(EK y i).Av∧(EK y i).AD=(EK z i).AD
 CN:y.Ak=z.Ak
 run:y.AB=z.AB
theorem KW.OK{y z:Aq}(h:KW y z){t:AT}:Ei z t=true↔Ei y t=true:=by
 rw[Io,Io,h.last];unfold HI;rw[h.CN,h.run];refine and_congr_right fun _=>and_congr_right fun _=>⟨fun a=>Gx h.len.symm (fun i=>?_) a,fun a=>Gx h.len (fun i=>?_) a⟩
 ·have:=h.comes i;unfold EK at this;omega
 ·have:=h.comes i;unfold EK at this;omega
theorem KW.R6{y z:Aq}(h:KW y z)(a:Fg y)(b:Fg z)(o:List (List Int)):(Cz z o).1≤(Cz y o).1:=
 O7 b a fun t c=>⟨h.OK.1 c,by rw[L6 h.toAlike];exact NG h.len.symm h.due _⟩
end Go.Proofs.Ytkljfdkmjdjpfaa
end
section
namespace Go.Proofs.Ytkljfdkmjdjpfaa
theorem O8(a:List Int)(h:a.length≤1000):∀(k m i:Nat),a.length=i+k→k<m→Dh a a m (i:Int)=some (.inr ()):=by
 intro k
 induction k with
 |zero=>
  intro m i hi hm;cases m with
  |zero=>omega
  |succ m=>rw[Dh.eq_2,cf (df (by omega))]
 |succ k ih=>
  intro m i hi hm;cases m with
  |zero=>omega
  |succ m=>
   have b:i<a.length:=by omega
   rw[Dh.eq_2,ct (dt (by omega)),Eb b,Eb b,cf (by simp),Cm (by omega) (by omega),EH];exact ih m (i+1) (by omega) (by omega)
theorem O9{K:Nat}(hK:2000≤K)(a:List Int)(h:a.length≤1000):EF K a a=some true:=by
 unfold EF;have:=O8 a h a.length K 0 (by omega) (by omega);rw[Int.natCast_zero] at this;rw[cf (by simp),bd this];rfl
end Go.Proofs.Ytkljfdkmjdjpfaa
end
section
namespace Go.Proofs.Ytkljfdkmjdjpfaa
section
variable{K:Nat}(hK:2000≤K){y:Aq}(h:check y=0)
theorem I2{o:List (List Int)}(h:check y=0)(a:Dj y o=true):o.length≤1000∧(∀l∈o,l.length≤1000)∧o.flatten.length≤1000:=I0 (F9 h) a
include hK h
theorem LJ{o:List (List Int)}(a:Dj y o=true){t:AT}(b:Ei y t=true):CL K y o t=some (B3 y o t,0):=by
 obtain⟨c,_,d⟩:=I2 h a;rw[IV y o t hK c d,if_neg (by simp[h]),if_neg (by simp[a,b])]
theorem Jd{o:List (List Int)}(a:Dj y o=true){i:Nat}(hi:i<y.Ac.length):CQ K y o (i:Int)=some (verdict y o i,0):=by
 obtain⟨b,_,c⟩:=I2 h a;have d:FQ (i:Int) 0 ((y.Ac.length:Int)-1)=true:=FY.2 (by omega);rw[Mn y o i hK b c,if_neg (by simp[h]),if_neg (by simp[a,d]),Int.toNat_natCast]
theorem PZ{o:List (List Int)}(a:Dj y o=true):EB K y o=some ((Cz y o).1,(Cz y o).2,0):=by
 obtain⟨b,_,c⟩:=I2 h a;rw[Lw y o hK b c,if_neg (by simp[h]),if_neg (by simp[a])]
theorem NH:ES K y=some ((Gb y).2,(Gb y).1,0):=by rw[PW y hK,if_neg (by simp[h])]
theorem NI:ET K y=some ((Im y).2.2,(Im y).1,0):=by rw[PX y hK,if_neg (by simp[h])]
theorem J1:DO K y=some (EV y 0 y.Ac.length,0):=by rw[M3 y hK,if_neg (by simp[h])]
theorem Gy{o:List (List Int)}(a:Dj y o=true)(n:Int):Cf K y o n=some (decide ((Cz y o).1≤n)):=by
 obtain⟨b,_,c⟩:=I2 h a;rw[IW y o n hK b c,dt h,a];rfl
theorem HJ{o:List (List Int)}(a:Dj y o=true){t:AT}(b:Ei y t=true)(n:Int):CD K y o t n=some (decide (n≤(Dv y (B3 y o t):Int))):=by
 obtain⟨c,_,d⟩:=I2 h a;rw[Jv y o t n hK c d,dt h,a,b];rfl
end
def y1:Aq:=⟨5,1,1,1,[⟨0,0,2,2,2⟩,⟨1,1,2,1,5⟩]⟩
def t3:AT:=⟨[0,1],[false,false,false,true,false,false]⟩
theorem Ej:check y1=0:=by decide+kernel
theorem Hz:Dj y1 [[0,1]]=true:=EU.2 ⟨rfl,by decide⟩
theorem Je:Dj y1 [[1,0]]=true:=EU.2 ⟨rfl,by decide⟩
theorem Q8:Ei y1 t3=true:=by decide+kernel
theorem Q9:B3 y1 [[0,1]] t3=[⟨0,1,true⟩,⟨2,3,false⟩]:=by
 have h:∀(a b:List Ao),a.map (fun s=>(s.On,s.Be,s.AJ))=b.map (fun s=>(s.On,s.Be,s.AJ))→a=b:=by
  intro a
  induction a with
  |nil=>intro b h;cases b with|nil=>rfl|cons x l=>cases h
  |cons x l ih=>
   intro b h;cases b with
   |nil=>cases h
   |cons x2 d=>
    have c:=List.cons.inj h;obtain⟨a1,a2,a3⟩:=x;obtain⟨e,f,g⟩:=x2;have i:a1=e∧a2=f∧a3=g:=by simpa using c.1
    obtain⟨rfl,rfl,rfl⟩:=i;rw[ih d c.2]
 exact h _ _ (by decide+kernel)
theorem M5{K:Nat}(hK:2000≤K):Eu K=some true:=by
 unfold Eu;have a:AQ K 1=some y1:=rfl;have c:Cl K 3=some t3:=rfl;have d:CQ K y1 [[0,1]] 1=some (verdict y1 [[0,1]] 1,0):=Jd hK Ej Hz (i:=1) (by decide);have e:CQ K y1 [[1,0]] 0=some (verdict y1 [[1,0]] 0,0):=Jd hK Ej Je (i:=0) (by decide);have b:=F9 Ej;obtain⟨_,f,k⟩:=G8 b [[1,0]];obtain⟨_,g,l⟩:=MZ b;have v1:verdict y1 [[0,1]] 1=3:=by decide+kernel
 have v2:verdict y1 [[1,0]] 0=2:=by decide+kernel
 have v3:(Cz y1 [[1,0]]).1=2:=by decide+kernel
 have v4:(Gb y1).1=1:=by decide+kernel
 have v5:(Im y1).1=1:=by decide+kernel
 have v6:EV y1 0 y1.Ac.length=[1]:=by decide+kernel
 rw[bd a,bd c,bd (LJ hK Ej Hz Q8),bd a,bd d,bd a,bd e,bd a,bd (PZ hK Ej Je),bd a,bd (NH hK Ej),bd a,bd (NI hK Ej),bd a,bd (J1 hK Ej),Q9];rw[ct (by rfl)];have s1:Cy K 0 1 true=some ⟨0,1,true⟩:=rfl;have s2:Cy K 2 3 false=some ⟨2,3,false⟩:=rfl;have h:Dx K [⟨0,1,true⟩,⟨2,3,false⟩] ⟨0,1,true⟩ ⟨2,3,false⟩=some true:=rfl;rw[bd s1,bd s2,bd h,ct (by rfl),ct (by rfl),v1,ct (by rfl),ct (by rfl),v2,ct (by rfl),ct (by rfl),v3,ct (by rfl),bd a,bd (HJ hK Ej Je f 2),ct (dt (by omega)),ct (by rfl),v4,ct (by rfl),bd a,bd (Gy hK Ej g 1),ct (dt (by omega)),ct (by rfl),v5,ct (by rfl),ct (by rfl),v6,bd (O9 hK [1] (by decide))]
end Go.Proofs.Ytkljfdkmjdjpfaa
end
section
namespace Go.Proofs.Ytkljfdkmjdjpfaa
namespace HF
theorem mixed:Try.prog.follows .mixedOrders=true:=by kernel_rfl
theorem Jf(b:Nat)(w:World):(Instr.fieldAt 51 (.pointer (some ⟨b,0,none⟩)) 1).run Try.prog w=.ok (.pointer (some ⟨b,1,none⟩)) w:=by kernel_rfl
theorem Bg:One Try.prog 3:=by unfold One;exact⟨by kernel_rfl,by kernel_rfl⟩
theorem Jg(b:Nat)(w:World):(Instr.fieldAt 51 (.pointer (some ⟨b,0,none⟩)) 0).run Try.prog w=.ok (.pointer (some ⟨b,0,none⟩)) w:=by kernel_rfl
theorem HR:Bm Try.prog 36:=by unfold Bm;kernel_rfl
theorem GF:(Try.prog.info? 44).bind (·.zero)=some (.agg #[I 0,I 0,.bool false]):=by kernel_rfl
theorem EC:(Try.prog.info? 44).map (·.size)=some 3:=by kernel_rfl
theorem DV:DH Try.prog 44 3:=by unfold DH;exact⟨by kernel_rfl,by kernel_rfl⟩
theorem Cu(b:Nat)(w:World):(Instr.fieldAt 28 (.pointer (some ⟨b,0,none⟩)) 4).run Try.prog w=.ok (.pointer (some ⟨b,4,none⟩)) w:=by kernel_rfl
theorem CR:One Try.prog 26:=by unfold One;exact⟨by kernel_rfl,by kernel_rfl⟩
theorem Pb(b:Nat)(w:World):(Instr.fieldAt 44 (.pointer (some ⟨b,0,none⟩)) 2).run Try.prog w=.ok (.pointer (some ⟨b,2,none⟩)) w:=by kernel_rfl
theorem Jh:One Try.prog 4:=by unfold One;exact⟨by kernel_rfl,by kernel_rfl⟩
theorem Ki(b:Nat)(w:World):(Instr.fieldAt 44 (.pointer (some ⟨b,0,none⟩)) 1).run Try.prog w=.ok (.pointer (some ⟨b,1,none⟩)) w:=by kernel_rfl
theorem Mo(b:Nat)(w:World):(Instr.fieldAt 53 (.pointer (some ⟨b,0,none⟩)) 3).run Try.prog w=.ok (.pointer (some ⟨b,4,none⟩)) w:=by kernel_rfl
theorem GU:DH Try.prog 53 5:=by unfold DH;exact⟨by kernel_rfl,by kernel_rfl⟩
theorem LK:Bm Try.prog 26:=by unfold Bm;kernel_rfl
theorem I3:(Try.prog.info? 3).map (fun i=>(i.zero,i.size,i.bytes))=some (some (I 0),1,8):=by kernel_rfl
theorem Ji(b:Nat)(w:World):(Instr.fieldAt 53 (.pointer (some ⟨b,0,none⟩)) 0).run Try.prog w=.ok (.pointer (some ⟨b,0,none⟩)) w:=by kernel_rfl
theorem LL:DH Try.prog 51 2:=by unfold DH;exact⟨by kernel_rfl,by kernel_rfl⟩
theorem F2(b:Nat)(w:World):(Instr.fieldAt 28 (.pointer (some ⟨b,0,none⟩)) 0).run Try.prog w=.ok (.pointer (some ⟨b,0,none⟩)) w:=by kernel_rfl
theorem P0:Bm Try.prog 56:=by unfold Bm;kernel_rfl
theorem GG(b:Nat)(w:World):(Instr.fieldAt 53 (.pointer (some ⟨b,0,none⟩)) 1).run Try.prog w=.ok (.pointer (some ⟨b,2,none⟩)) w:=by kernel_rfl
theorem NJ:Bm Try.prog 57:=by unfold Bm;kernel_rfl
theorem Kj(b:Nat)(w:World):(Instr.fieldAt 53 (.pointer (some ⟨b,0,none⟩)) 2).run Try.prog w=.ok (.pointer (some ⟨b,3,none⟩)) w:=by kernel_rfl
theorem CY:(Try.prog.info? 3).map (·.size)=some 1:=by kernel_rfl
theorem Fz:(Try.prog.info? 28).bind (·.zero)=some (.agg #[I 0,I 0,I 0,I 0,.slice none 0 0]):=by kernel_rfl
theorem Gz:(Try.prog.info? 28).map (·.size)=some 5:=by kernel_rfl
theorem B4:DH Try.prog 28 5:=by unfold DH;exact⟨by kernel_rfl,by kernel_rfl⟩
theorem F3:(Try.prog.info? 34).bind (·.zero)=some (.agg #[.slice none 0 0,.slice none 0 0]):=by kernel_rfl
theorem LM:(Try.prog.info? 4).map (fun i=>(i.zero,i.size,i.bytes))=some (some (.bool false),1,1):=by kernel_rfl
theorem F4:(Try.prog.info? 34).map (·.size)=some 2:=by kernel_rfl
theorem Gj(b:Nat)(w:World):(Instr.fieldAt 34 (.pointer (some ⟨b,0,none⟩)) 1).run Try.prog w=.ok (.pointer (some ⟨b,1,none⟩)) w:=by kernel_rfl
theorem FV:One Try.prog 32:=by unfold One;exact⟨by kernel_rfl,by kernel_rfl⟩
theorem I4:(Try.prog.info? 4).map (·.size)=some 1:=by kernel_rfl
theorem Fh:DH Try.prog 34 2:=by unfold DH;exact⟨by kernel_rfl,by kernel_rfl⟩
theorem LN:Try.prog.eqGuardType Try.prog.depth 44=false:=by kernel_rfl
theorem Kk:Of Try.prog 44 [true,true,false]:=L4 Try.underlying44 (by kernel_rfl) (by kernel_rfl) Bg Try.underlying3 Jh Try.underlying4
theorem Ra:(Try.prog.info? 51).map (·.size)=some 2:=by kernel_rfl
theorem Pc:(Try.prog.info? 53).map (fun i=>(i.zero,i.size,i.bytes))=some (some (.agg #[I 0,I 0,I 0,I 0,I 0]),5,40):=by kernel_rfl
theorem Rb:(Try.prog.info? 26).map (·.size)=some 1:=by kernel_rfl
theorem P1:One Try.prog 88:=by unfold One;exact⟨by kernel_rfl,by kernel_rfl⟩
theorem FO:(Try.prog.info? 53).map (·.size)=some 5:=by kernel_rfl
theorem P2:Bm Try.prog 73:=by unfold Bm;kernel_rfl
theorem P3:Bm Try.prog 59:=by unfold Bm;kernel_rfl
theorem P4:Bm Try.prog 58:=by unfold Bm;kernel_rfl
theorem Pd:One Try.prog 114:=by unfold One;exact⟨by kernel_rfl,by kernel_rfl⟩
theorem Pe:Bm Try.prog 100:=by unfold Bm;kernel_rfl
theorem P5:Bm Try.prog 89:=by unfold Bm;kernel_rfl
theorem P6:Bm Try.prog 88:=by unfold Bm;kernel_rfl
theorem Kl(b:Nat)(w:World):(Instr.fieldAt 28 (.pointer (some ⟨b,0,none⟩)) 2).run Try.prog w=.ok (.pointer (some ⟨b,2,none⟩)) w:=by kernel_rfl
theorem Km(b:Nat)(w:World):(Instr.fieldAt 28 (.pointer (some ⟨b,0,none⟩)) 3).run Try.prog w=.ok (.pointer (some ⟨b,3,none⟩)) w:=by kernel_rfl
theorem Hs:(Try.prog.info? 3).bind (·.zero)=some (I 0):=by kernel_rfl
theorem P7:Bm Try.prog 67:=by unfold Bm;kernel_rfl
theorem P8:Bm Try.prog 66:=by unfold Bm;kernel_rfl
theorem P9:Bm Try.prog 61:=by unfold Bm;kernel_rfl
theorem NK:Bm Try.prog 46:=by unfold Bm;kernel_rfl
theorem Hd(b:Nat)(w:World):(Instr.fieldAt 28 (.pointer (some ⟨b,0,none⟩)) 1).run Try.prog w=.ok (.pointer (some ⟨b,1,none⟩)) w:=by kernel_rfl
theorem Qa:Bm Try.prog 35:=by unfold Bm;kernel_rfl
theorem Qb:Bm Try.prog 37:=by unfold Bm;kernel_rfl
theorem NL:Bm Try.prog 38:=by unfold Bm;kernel_rfl
theorem NM:Bm Try.prog 60:=by unfold Bm;kernel_rfl
theorem Ko:(Try.prog.info? 53).bind (·.zero)=some (.agg #[I 0,I 0,I 0,I 0,I 0]):=by kernel_rfl
theorem NN:Bm Try.prog 40:=by unfold Bm;kernel_rfl
theorem Qc:Bm Try.prog 39:=by unfold Bm;kernel_rfl
theorem E6:One Try.prog 30:=by unfold One;exact⟨by kernel_rfl,by kernel_rfl⟩
theorem Qd:One Try.prog 68:=by unfold One;exact⟨by kernel_rfl,by kernel_rfl⟩
theorem Kp(b o:Nat)(w:World):(Instr.fieldAt 53 (.pointer (some ⟨b,o,none⟩)) 0).run Try.prog w=.ok (.pointer (some ⟨b,o,none⟩)) w:=by kernel_rfl
theorem Pf(b o:Nat)(w:World):(Instr.fieldAt 51 (.pointer (some ⟨b,o,none⟩)) 0).run Try.prog w=.ok (.pointer (some ⟨b,o,none⟩)) w:=by kernel_rfl
theorem J2:One Try.prog 74:=by unfold One;exact⟨by kernel_rfl,by kernel_rfl⟩
theorem NO:Bm Try.prog 91:=by unfold Bm;kernel_rfl
theorem Pg:(Try.prog.info? 30).bind (·.zero)=some (.slice none 0 0):=by kernel_rfl
theorem Fk:(Try.prog.info? 30).map (·.size)=some 1:=by kernel_rfl
theorem Ph:(Try.prog.info? 32).bind (·.zero)=some (.slice none 0 0):=by kernel_rfl
theorem Rc:(Try.prog.info? 32).map (·.size)=some 1:=by kernel_rfl
theorem Mp:(Try.prog.info? 74).bind (·.zero)=some (.nilFunc):=by kernel_rfl
theorem OL:(Try.prog.info? 74).map (·.size)=some 1:=by kernel_rfl
theorem Pj(w:World):(Op.equal 30 (.slice none 0 0) (.slice none 0 0)).run Try.prog w=.ok true w:=by kernel_rfl
theorem Pk(ad:Addr)(n c:Nat)(w:World):(Op.equal 30 (.slice (some ad) n c) (.slice none 0 0)).run Try.prog w=.ok false w:=by kernel_rfl
theorem LO:Bm Try.prog 52:=by unfold Bm;kernel_rfl
theorem Pl(w:World):(Op.equal 32 (.slice none 0 0) (.slice none 0 0)).run Try.prog w=.ok true w:=by kernel_rfl
theorem Pm(ad:Addr)(n c:Nat)(w:World):(Op.equal 32 (.slice (some ad) n c) (.slice none 0 0)).run Try.prog w=.ok false w:=by kernel_rfl
theorem LP:Bm Try.prog 54:=by unfold Bm;kernel_rfl
theorem Kq:(Try.prog.info? 30).map (fun i=>(i.zero,i.size,i.bytes))=some (some (.slice none 0 0),1,24):=by kernel_rfl
theorem Pn(w:World):(Op.equal 31 (.slice none 0 0) (.slice none 0 0)).run Try.prog w=.ok true w:=by kernel_rfl
theorem Po(ad:Addr)(n c:Nat)(w:World):(Op.equal 31 (.slice (some ad) n c) (.slice none 0 0)).run Try.prog w=.ok false w:=by kernel_rfl
theorem Qe:Bm Try.prog 55:=by unfold Bm;kernel_rfl
theorem Re:∀(b c:Bool) (w:World),(Op.equal 4 (.bool b) (.bool c)).run Try.prog w=.ok (b==c) w:=by intro b c w;cases b<;>cases c<;>kernel_rfl
theorem GH(b:Nat)(w:World):(Instr.fieldAt 34 (.pointer (some ⟨b,0,none⟩)) 0).run Try.prog w=.ok (.pointer (some ⟨b,0,none⟩)) w:=by kernel_rfl
theorem Mq:Jr Try.prog 102 2:=MG 2 Try.underlying102 (by kernel_rfl) rfl rfl Bg Try.underlying3
theorem LQ:Lb Try.prog 102 2:=LZ 2 Try.underlying102 rfl rfl Bg Try.underlying3
theorem KL:H7 Try.prog 102:=by unfold H7;kernel_rfl
theorem Rf:(Try.prog.info? 44).bind (·.zero)=some (.agg #[I 0,I 0,.bool false]):=by kernel_rfl
theorem Gg(b:Nat)(w:World):(Instr.fieldAt 102 (.pointer (some ⟨b,0,none⟩)) 1).run Try.prog w=.ok (.pointer (some ⟨b,1,none⟩)) w:=by kernel_rfl
theorem HS(b o:Nat)(w:World):(Instr.fieldAt 72 (.pointer (some ⟨b,o,none⟩)) 0).run Try.prog w=.ok (.pointer (some ⟨b,o,none⟩)) w:=by kernel_rfl
theorem Kr(b o:Nat)(w:World):(Instr.fieldAt 28 (.pointer (some ⟨b,o,none⟩)) 0).run Try.prog w=.ok (.pointer (some ⟨b,o,none⟩)) w:=by kernel_rfl
theorem Mr(b o:Nat)(w:World):(Instr.fieldAt 28 (.pointer (some ⟨b,o,none⟩)) 4).run Try.prog w=.ok (.pointer (some ⟨b,o+4,none⟩)) w:=by kernel_rfl
theorem Ox(b:Nat)(w:World):(Instr.fieldAt 102 (.pointer (some ⟨b,0,none⟩)) 0).run Try.prog w=.ok (.pointer (some ⟨b,0,none⟩)) w:=by kernel_rfl
theorem Ms(b o:Nat)(w:World):(Instr.fieldAt 72 (.pointer (some ⟨b,o,none⟩)) 1).run Try.prog w=.ok (.pointer (some ⟨b,o+5,none⟩)) w:=by kernel_rfl
theorem Mt(b o:Nat)(w:World):(Instr.fieldAt 72 (.pointer (some ⟨b,o,none⟩)) 2).run Try.prog w=.ok (.pointer (some ⟨b,o+6,none⟩)) w:=by kernel_rfl
theorem NP:One Try.prog 70:=by unfold One;exact⟨by kernel_rfl,by kernel_rfl⟩
theorem Ks:DH Try.prog 102 2:=by unfold DH;exact⟨by kernel_rfl,by kernel_rfl⟩
theorem Qf:Bm Try.prog 68:=by unfold Bm;kernel_rfl
theorem Pp:(Try.prog.info? 44).map (fun i=>(i.zero,i.size,i.bytes))=some (some (.agg #[I 0,I 0,.bool false]),3,24):=by kernel_rfl
theorem Qg:Bm Try.prog 47:=by unfold Bm;kernel_rfl
theorem Qh:Bm Try.prog 45:=by unfold Bm;kernel_rfl
theorem EN:Bm Try.prog 17:=by unfold Bm;kernel_rfl
theorem LR:Bm Try.prog 22:=by unfold Bm;kernel_rfl
theorem Qi:Bm Try.prog 23:=by unfold Bm;kernel_rfl
theorem J3:Bm Try.prog 24:=by unfold Bm;kernel_rfl
theorem Mu:(Try.prog.info? 81).bind (·.zero)=some (.agg #[.nilFunc]):=by kernel_rfl
theorem OM:(Try.prog.info? 81).map (·.size)=some 1:=by kernel_rfl
theorem Mw(b:Nat)(w:World):(Instr.fieldAt 81 (.pointer (some ⟨b,0,none⟩)) 0).run Try.prog w=.ok (.pointer (some ⟨b,0,none⟩)) w:=by kernel_rfl
theorem NQ:One Try.prog 78:=by unfold One;exact⟨by kernel_rfl,by kernel_rfl⟩
theorem NR:Bm Try.prog 32:=by unfold Bm;kernel_rfl
theorem NS:Bm Try.prog 34:=by unfold Bm;kernel_rfl
theorem Pq:(Try.prog.info? 69).bind (·.zero)=some (.pointer none):=by kernel_rfl
theorem Qj:Bm Try.prog 69:=by unfold Bm;kernel_rfl
theorem HT:One Try.prog 69:=by unfold One;exact⟨by kernel_rfl,by kernel_rfl⟩
theorem Oy(w:World):(Op.equal 69 (.pointer none) (.pointer none)).run Try.prog w=.ok true w:=by kernel_rfl
theorem ON:(Try.prog.info? 69).map (·.size)=some 1:=by kernel_rfl
theorem Ku:One Try.prog 104:=by unfold One;exact⟨by kernel_rfl,by kernel_rfl⟩
theorem Fi:One Try.prog 31:=by unfold One;exact⟨by kernel_rfl,by kernel_rfl⟩
theorem Oz(ad:Addr)(w:World):(Op.equal 69 (.pointer (some ad)) (.pointer none)).run Try.prog w=.ok false w:=by kernel_rfl
theorem Qk:Bm Try.prog 70:=by unfold Bm;kernel_rfl
theorem Ql:Bm Try.prog 90:=by unfold Bm;kernel_rfl
theorem HU:(Try.prog.info? 76).bind (·.zero)=some (.agg #[I 0,I 0,I 0,I 0]):=by kernel_rfl
theorem Qm:Bm Try.prog 49:=by unfold Bm;kernel_rfl
theorem NT:Bm Try.prog 48:=by unfold Bm;kernel_rfl
theorem HV:DH Try.prog 76 4:=by unfold DH;exact⟨by kernel_rfl,by kernel_rfl⟩
theorem Jj:(Try.prog.info? 76).map (·.size)=some 4:=by kernel_rfl
theorem Qn:Bm Try.prog 53:=by unfold Bm;kernel_rfl
theorem Qo:Bm Try.prog 25:=by unfold Bm;kernel_rfl
theorem LS:Bm Try.prog 27:=by unfold Bm;kernel_rfl
theorem NU:Bm Try.prog 30:=by unfold Bm;kernel_rfl
theorem LU:Bm Try.prog 16:=by unfold Bm;kernel_rfl
theorem Iq:Bm Try.prog 5:=by unfold Bm;kernel_rfl
theorem Qp:Bm Try.prog 51:=by unfold Bm;kernel_rfl
theorem LW:Bm Try.prog 31:=by unfold Bm;kernel_rfl
theorem HA:(Try.prog.info? 31).map (·.size)=some 1:=by kernel_rfl
theorem Qq:DH Try.prog 81 1:=by unfold DH;exact⟨by kernel_rfl,by kernel_rfl⟩
theorem Qr:Try.prog.eqGuardType Try.prog.depth 76=false:=by kernel_rfl
theorem Qs:Jr Try.prog 76 4:=M9 Try.underlying76 Bg Try.underlying3
theorem Qt:One Try.prog 67:=by unfold One;exact⟨by kernel_rfl,by kernel_rfl⟩
theorem NV:Bm Try.prog 50:=by unfold Bm;kernel_rfl
theorem Kw:(Try.prog.info? 31).bind (·.zero)=some (.slice none 0 0):=by kernel_rfl
theorem Qu:Bm Try.prog 29:=by unfold Bm;kernel_rfl
theorem NW:Bm Try.prog 28:=by unfold Bm;kernel_rfl
theorem Qv:Bm Try.prog 33:=by unfold Bm;kernel_rfl
theorem C4:Bm Try.prog 6:=by unfold Bm;kernel_rfl
theorem Ha:Bm Try.prog 7:=by unfold Bm;kernel_rfl
theorem J4:Bm Try.prog 8:=by unfold Bm;kernel_rfl
theorem OO:Bm Try.prog 9:=by unfold Bm;kernel_rfl
theorem NX:Bm Try.prog 10:=by unfold Bm;kernel_rfl
theorem NY:Bm Try.prog 11:=by unfold Bm;kernel_rfl
theorem HW:Bm Try.prog 13:=by unfold Bm;kernel_rfl
theorem LX:Bm Try.prog 12:=by unfold Bm;kernel_rfl
theorem J5:Bm Try.prog 15:=by unfold Bm;kernel_rfl
theorem I5:Bm Try.prog 14:=by unfold Bm;kernel_rfl
theorem Qw:Bm Try.prog 41:=by unfold Bm;kernel_rfl
theorem Pr(b o:Nat)(w:World):(Instr.fieldAt 53 (.pointer (some ⟨b,o,none⟩)) 3).run Try.prog w=.ok (.pointer (some ⟨b,o+4,none⟩)) w:=by kernel_rfl
theorem Ps(b o:Nat)(w:World):(Instr.fieldAt 53 (.pointer (some ⟨b,o,none⟩)) 1).run Try.prog w=.ok (.pointer (some ⟨b,o+2,none⟩)) w:=by kernel_rfl
theorem Qx:Bm Try.prog 18:=by unfold Bm;kernel_rfl
end HF
end Go.Proofs.Ytkljfdkmjdjpfaa
end
