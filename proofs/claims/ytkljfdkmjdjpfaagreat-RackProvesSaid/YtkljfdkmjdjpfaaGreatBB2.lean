import Derived.Test.YtkljfdkmjdjpfaaGreatBB1
import Derived.WalkKit
import Derived.KernelRfl
import Derived.WalkSpells
import Derived.WalkLawsBesides
import Derived.Maps.AppendAt
import Derived.OrdersIn
import Derived.RangeFuncIn
import Derived.RangeFuncLeaves
import Derived.RangeFuncRecord
import Derived.RangeFuncSeq
import Derived.Scope
import Derived.DeepKeys3
import Derived.Laws.CopyRow
import Derived.Laws.OwnMore
import Derived.Laws.MakeOwn
import Derived.Laws.IdiomCopy
/-
  The contracts of the functions of the program and of the reference, and the logic that they are proved in: the base that several claims of this seat share.
-/
set_option linter.all false
section
namespace Go.Proofs.YtkljfdkmjdjpfaaGreat
open Go.RowKit Go.WideShapes
theorem Wf{f:Operand→Value}{i0 i1 i2 i3 i4:Nat}{a x1 x2 b c:Operand}{v0 v1 v2 v3 v4:Value}(h0:f a=v0)(d:f x1=v1)(e:f x2=v2)(g:f b=v3)(h:f c=v4): #[(i0,a),(i1,x1),(i2,x2),(i3,b),(i4,c)].map (fun(i,x)=>(i,f x))= #[(i0,v0),(i1,v1),(i2,v2),(i3,v3),(i4,v4)]:=by simp[h0,d,e,g,h]
section
variable{F F' F0:Nat→Prop}{B:List (Option Nat)}{w0 w w' w1 w2:World}{Z Z':Nat→Prop}{L L' M C:List (Option Nat)}{D:Nat→Prop}
theorem BV(a:List Nat)(h:Gz L a M):∀x∈M,x∈L:=h.sub
theorem AQ(a:List Nat)(h:Gz L a M)(b:∀k,F' k→F k):∀k,FU F' M k→F k∨some k∈L:=T3 h.sub b
theorem C0(h:∀k,F0 k→F k):∀k,FU F0 C k→F k∨some k∈C:=fun k a=>a.imp (h k) id
theorem Gp{k:Nat}{o:Obj}{r:Option Nat}(h:w.heap[k]?=some o)(g:w.grownBy w' r)(a:some k≠r):w'.heap[k]?=some o:=(g.block k (Array.getElem?_eq_some_iff.1 h).1 a).trans h
theorem Fh{k:Nat}{o:Obj}(h:w.heap[k]?=some o)(g:Bo D w w')(a:¬D k):w'.heap[k]?=some o:=(g.block k (Array.getElem?_eq_some_iff.1 h).1 a).trans h
theorem Cs.BG{α:Type}{ev:α→Value}{r n:Nat}{a:List (List Int×α)}(h:Cs ev w r n a)(g:Bo D w w')(b:¬D r):Cs ev w' r n a:=h.of (g.block r h.lt b)
theorem Cs.Gd{α:Type}{ev:α→Value}{r n:Nat}{a:List (List Int×α)}(h:Cs ev w r n a)(e:w'.heap[r]?=w.heap[r]?):Cs ev w' r n a:=h.of e
theorem Bk.Gd{b:Nat}{t:TypeId}{cs:Array Value}(h:Bk w b t cs)(e:w'.heap[b]?=w.heap[b]?):Bk w' b t cs:=e.trans h
theorem Hp.zz(h:Hp F B w0 L w)(a c:List Nat)(d:Gz L a M)(e:Gz L c C)(f:∀k,F' k→F k∨some k∈C):∀b,ZZ F B Z w0.heap.size L b→¬F' b∧some b∉M:=h.zc d.sub fun k g=>(f k g).imp id (e.sub _)
theorem Hp.mz(h:Hp F B w0 L w)(a b:List Nat)(c:Gz L a M)(d:Gz L b C)(e:∀k,F' k→F k∨some k∈C):Mv w (ZZ F B Z w0.heap.size L) w (ZC F' M):=Su (h.zz a b c d e)
theorem OW{i:Nat}{a b:List Nat}(h:((a++b).all fun j=> !Nat.beq i j)=true):(a.all fun j=> !Nat.beq i j)=true∧(b.all fun j=> !Nat.beq i j)=true:=by
 rw[List.all_append,Bool.and_eq_true] at h;exact h
theorem Hp.bz(h:Hp F B w0 L w)(i:Nat){b:Nat}(hi:L[i]?=some (some b))(a c:List Nat)(e:Gz L a M)(f:Gz L c C)(g:∀k,F' k→F k∨some k∈C)(d:((a++c).all fun j=> !Nat.beq i j)=true):ZC F' M b:=by
 have l:=h.BF (F':=F) i hi a (OW d).1 e (fun _ h=>h);have m:=h.BF (F':=F) i hi c (OW d).2 f (fun _ h=>h);exact⟨fun n=>m ((g b n).imp id id),fun hm=>l (.inr hm)⟩
theorem Hp.rz{α:Type}{e:El α}{t:TypeId}{n0:Nat}{A:Option Addr}{c:Nat}{xs:List α}(h:Hp F B w0 L w)(i:Nat)(hi:L[i]?=some (ob A))(a b:List Nat)(d:Gz L a M)(f:Gz L b C)(g:∀k,F' k→F k∨some k∈C)(l:((a++b).all fun j=> !Nat.beq i j)=true)
  (m:AJ e t n0 w (ZZ F B Z w0.heap.size L) A c xs):Sl e w (ZC F' M) A c xs:=
 (m.up (h.mz a b d f g)).sl fun k n _=>h.bz i (by rw[hi,n]) a b d f g l
theorem Bf{Z:Nat→Prop}(w:World):Mv w Z w (ZZ FN [] Z w.heap.size L):=Bh (fun _ _=>⟨id,by simp⟩) w
theorem Jv(h:Mv w Z w' Z):Mv w Z w' (ZZ FN [] Z w.heap.size M):=⟨h.size,fun b a c=>⟨.inl ⟨c,a,id,by simp⟩,(h.stay b a c).2⟩⟩
theorem K6{n:Nat}:Mv w (ZZ FN [] Z n M) w (ZZ FN [] Z n [none]):=G8 fun b a _=>a.imp id fun⟨c,_⟩=>⟨c,by simp⟩
theorem LD{n:Nat}{o:Option Nat}(h:o∈M:=by simp):Mv w (ZZ FN [] Z n M) w (ZZ FN [] Z n [o]):=G8 fun b a _=>a.imp id fun⟨c,d⟩=>⟨c,fun hm=>by
 rw[List.mem_singleton] at hm;exact d (by rw[hm];exact h)⟩
theorem KA(g:Bo D w w')(h:∀b,Z b→¬D b):Mv w Z w' Z:=⟨g.size,fun b a c=>⟨a,g.block b c (h b a)⟩⟩
theorem JS{b:Nat}{o:Option Nat}(h:¬FU FN C b∧some b≠o):¬FU FN C b:=h.1
theorem Ql{b:Nat}{o:Option Nat}(h:¬FU F C b∧some b≠o):¬FU F (C++[o]) b:=by
 rintro(a|a)
 ·exact h.1 (.inl a)
 ·rcases List.mem_append.1 a with c|c
  ·exact h.1 (.inr c)
  ·exact h.2 (by simpa using c)
theorem ES{b:Nat}{o:Option Nat}(h:¬FU F C b)(k:some b≠o):¬F b∧some b∉C++[o]:=
 ⟨fun a=>h (.inl a),fun a=>by
  rcases List.mem_append.1 a with c|c
  ·exact h (.inr c)
  ·exact k (by simpa using c)⟩
theorem Bo.lf{o:Option Nat}(g:Bo (FU F (C++[o])) w w'):Bo (FU (FU F C) [o]) w w':=g.mono fun k h=>by
 rcases h with h|h
 ·exact .inl (.inl h)
 ·rcases List.mem_append.1 h with a|a
  ·exact .inl (.inr a)
  ·exact .inr a
theorem Bo.Qm{o:Option Nat}(g:Bo (FU F C) w w'):Bo (FU (FU F C) [o]) w w':=g.mono fun _ h=>.inl h
theorem Bo.cl{M1 M2:List (Option Nat)}(g:Bo (FU (FU F M1) M2) w w'):Bo (FU F (M1++M2)) w w':=g.fl
theorem Hp.I7(h:Hp F B w0 L w)(b:List Nat)(c:Gz L b C)(d:∀k,F0 k→F k):∀k,FU F0 C k→k<w.heap.size:=fun k a=>by
 rcases a with a|a
 ·exact Nat.lt_of_lt_of_le (h.ff k (d k a)) h.sz
 ·exact(h.lo k (c.sub _ a)).1
theorem Hp.Sx(h:Hp F B w0 L w)(i:Nat){k:Nat}(hi:L[i]?=some (some k))(a:List Nat)(b:(a.all fun j=> !Nat.beq i j)=true)(c:Gz L a C):k<w.heap.size∧¬FU F C k:=
 ⟨(h.lo k (List.mem_of_getElem? hi)).1,h.BF (F':=F) i hi a b c fun _ h=>h⟩
theorem Hp.C9{x d:Option Nat}(h:Hp F B w0 L w)(i:Nat)(hi:L[i]?=some x)(a:List Nat)(g:(a.all fun j=> !Nat.beq i j)=true)(l:Gz L a M)(m:∀y∈B,y=d∨y∈M):∀k,x=some k→(d=some k∨w0.heap.size≤k)∧k<w.heap.size:=fun k e=>by
 have f:=h.lo k (List.mem_of_getElem? (by rw[hi,e]));refine⟨?_,f.1⟩;rcases Nat.lt_or_ge k w0.heap.size with b|b
 ·left;rcases m _ (f.2.2 b) with c|c
  ·exact c.symm
  ·exact absurd (.inr c) (h.BF (F':=F) i (by rw[hi,e]) a g l fun _ h=>h)
 ·exact .inr b
theorem BM.snoc{o:Option Nat}(h:BM F C w)(l:∀k,o=some k→k<w.heap.size∧¬FU F C k):BM F (C++[o]) w:=by
 refine⟨fun k q=>?_,fun i j x m hi f=>?_,h.ff⟩
 ·rcases List.mem_append.1 q with d|d
  ·exact h.lt k d
  ·have c:=l k (by rw[List.mem_singleton] at d;exact d.symm);exact⟨c.1,fun r=>c.2 (.inl r)⟩
 ·have key:∀(a b:Nat),a<C.length→¬b<C.length→(C++[o])[a]?=some (some x)→(C++[o])[b]?=some (some x)→False:=fun a b s t d c=>by
   rw[List.getElem?_append_left s] at d;rw[List.getElem?_append_right (by omega)] at c;have n:b-C.length=0:=by
    rcases Nat.eq_zero_or_pos (b-C.length) with h|h
    ·exact h
    ·rw[List.getElem?_eq_none (by simp;omega)] at c;cases c
   rw[n] at c;have p:o=some x:=by simpa using c
   exact(l x p).2 (.inr (List.mem_of_getElem? d))
  by_cases g:i<C.length
  ·by_cases e:j<C.length
   ·rw[List.getElem?_append_left g] at hi;rw[List.getElem?_append_left e] at f;exact h.ap i j x m hi f
   ·exact key i j g e hi f
  ·by_cases e:j<C.length
   ·exact key j i e g f hi
   ·have u:(C++[o]).length=C.length+1:=by simp
    have d:=(List.getElem?_eq_some_iff.1 hi).1;have c:=(List.getElem?_eq_some_iff.1 f).1;omega
theorem BM.keep{o o':Option Nat}(h:BM F C w)(g:w.heap.size≤w1.heap.size)(c:∀k,o=some k→k<w1.heap.size∧¬FU F C k)(d:∀k,o'=some k→(o=some k∨w1.heap.size≤k)∧k<w2.heap.size):∀k,o'=some k→k<w2.heap.size∧¬FU F C k:=fun k e=>by
 obtain⟨a,f⟩:=d k e;refine⟨f,?_⟩;rcases a with a|a
 ·exact(c k a).2
 ·rintro(b|b)
  ·have:=h.ff k b;omega
  ·have:=(h.lt k b).1;omega
def VC(L:List (Option Nat))(n:Nat):List (Option Nat)→Prop
 |[]=>True
 |x::M=>((∃j:Nat,L[j]?=some x)∨∀k,x=some k→some k∈L∨n≤k)∧VC L n M
theorem Cz{n:Nat}:∀{M:List (Option Nat)},VC L n M→∀k,some k∈M→some k∈L∨n≤k
 |[],_,_,h=>by cases h
 |x::M,h,k,a=>by
  rcases List.mem_cons.1 a with e|a
  ·rcases h.1 with⟨j,b⟩|c
   ·left;rw[e];exact List.mem_of_getElem? b
   ·exact c k e.symm
  ·exact Cz h.2 k a
theorem DY{y:Option Nat}(i:Nat)(h:y∈M):∀x∈L.set i y,x∈L∨x∈M:=fun x a=>by
 rcases List.mem_or_eq_of_mem_set a with b|e
 ·exact .inl b
 ·exact .inr (by rw[e];exact h)
theorem IQ{o:Option Nat}:∀b,ZC F [o] b→¬F b∧some b≠o:=fun _ h=>⟨h.1,fun e=>h.2 (by rw[e];exact List.mem_singleton_self _)⟩
end
theorem OX{F:Nat→Prop}{B L:List (Option Nat)}{n:Nat}{Z Z':Nat→Prop}(h:∀b,Z b→Z' b):∀b,ZZ F B Z n L b→ZZ F B Z' n L b:=fun b a=>a.imp (fun⟨c,d,e⟩=>⟨c,h b d,e⟩) id
def I8{α:Type}(e:El α)(w:World)(Z:Nat→Prop)(A:Option Addr)(c:Nat)(xs:List α):Prop:=
 xs.length≤c∧(A=none→c=0)∧∃Bm,R2 e w Z Bm xs∧Rz w ZA A Bm.flatten
section
variable{α:Type}{e:El α}{t:TypeId}{n0:Nat}{w w':World}{Z Z':Nat→Prop}{A:Option Addr}{c:Nat}{xs:List α}
theorem I8.ext(h:I8 e w Z A c xs)(g:Ext w w')(hm:Mv w Z w' Z'):I8 e w' Z' A c xs:=⟨h.1,h.2.1,h.2.2.imp fun _ h=>⟨h.1.mv hm,h.2.mv (Ai g)⟩⟩
theorem AJ.n(h:AJ e t n0 w Z A c xs):I8 e w Z A c xs:=by
 have a:=h.all;obtain⟨Bm,b,d⟩:=h;refine⟨a.1,a.2.1,Bm,b,?_⟩;have f:=d.rd;exact NP f fun _ _ _=>trivial
theorem Sl.n(h:Sl e w Z A c xs):I8 e w Z A c xs:=⟨h.1,h.2.1,h.2.2.imp fun _ h=>⟨h.1,h.2.mv Kx⟩⟩
theorem Sl.H6(a:∀w Z w' Z' cs x,e.R w Z cs x→e.R w' Z' cs x)(h:Sl e w Z A c xs):I8 e w Z' A c xs:=⟨h.1,h.2.1,h.2.2.imp fun _ h=>⟨h.1.free a,h.2.mv Kx⟩⟩
theorem AJ.H6(a:∀w Z w' Z' cs x,e.R w Z cs x→e.R w' Z' cs x)(h:AJ e t n0 w Z A c xs):I8 e w Z' A c xs:=h.all.H6 a
end
section
variable{P:Program}{a:Act}{w:World}{dst:Option Tmp}{ty:TypeId}{pos:String}{Cf:Array Edge}{g:Option (Nat×Bool)}
theorem Hc{α:Type}{e:El α}{s x:Operand}{t j:TypeId}{z:Value}{sz bytes:Nat}(y:P.underlying t=some (.slice j))(hi:(P.info? j).map (fun i=>(i.zero,i.size,i.bytes))=some (some z,sz,bytes))(l:z.cells.size=sz)(m:e.sz=sz)(h0:0<sz)
  {n0:Nat}{Z:Nat→Prop}{A B:Option Addr}{c d n:Nat}{xs ys:List α}(aA:a.eval s=.slice A n c)(aB:xs.length=n)(aC:a.eval x=.slice B ys.length d)(h:AJ e j n0 w Z A c xs)(r:I8 e w Z B d ys)
  (o:xs.length+ys.length≤maxLen)(b:(xs.length+ys.length)*bytes≤140737488355328)(f:n0≤w.heap.size):
  BO P ⟨dst,.call {callee:=.builtin .append,args:= #[s,x],argTypes:= #[t,t]},ty,pos,Cf,g⟩ a w (fun v w'=>∃u aD,v=.slice u (xs++ys).length aD∧w.grownBy w' (ob A)∧(∀k,ob u=some k→(ob A=some k∨w.heap.size≤k)∧k<w'.heap.size)∧
   ∃Bm p,R2 e w Z Bm xs∧R2 e w Z p ys∧D9 w' n0 j e.sz u (xs++ys).length aD (Bm++p).flatten):=by
 by_cases q:ys=[]
 ·refine T9 y hi l m h0 aA aB aC h ?_ o b f;subst q;exact⟨r.1,r.2.1,[],trivial,.inl rfl⟩
 ·obtain⟨_,_,Bm,aE,aF⟩:=r;exact Ju y hi l m h0 aA aB aC h ⟨Bm,aE,aF⟩ o b f q
end
section
variable{α:Type}{e:El α}{t:TypeId}{n0:Nat}{w w':World}{Z Z':Nat→Prop}{A:Option Addr}{c:Nat}{xs:List α}
theorem AJ.PG(a:∀w Z w' Z' cs x,e.R w Z cs x→e.R w' Z' cs x)(h:AJ e t n0 w Z A c xs):AJ e t n0 w Z' A c xs:=by
 obtain⟨Bm,b,d⟩:=h;exact⟨Bm,b.free a,d⟩
theorem AJ.PH(h:AJ e t n0 w Z A c xs):A=none→c=0:=h.all.2.1
theorem AJ.keep(h:AJ e t n0 w Z A c xs)(hm:Mv w Z w' Z')(d:∀k,ob A=some k→w'.heap[k]?=w.heap[k]?):AJ e t n0 w' Z' A c xs:=by
 obtain⟨Bm,f,a⟩:=h;refine⟨Bm,f.mv hm,a.1,a.2.imp id ?_⟩;rintro⟨b,cap,cur,g,i,j,l⟩;cases g;exact⟨b,_,cur,rfl,i,(d b rfl).trans j,l⟩
end
def KB(n:Int)(b:Nat):Option Unit:=if 0≤n∧n*b≤140737488355328∧n≤140737488355328 then some () else none
theorem Hq{α:Type}{n:Int}{b:Nat}{f:Unit→Option α}{r:α}(h:(KB n b).bind f=some r):(0≤n∧n*b≤140737488355328∧n≤140737488355328)∧f ()=some r:=by
 unfold KB at h;split at h
 ·exact⟨by assumption,h⟩
 ·cases h
theorem KC(z:Array Value):∀m:Nat,(madeCells z (m*z.size)).toList=(List.replicate m z.toList).flatten
 |0=>by simp[madeCells]
 |m+1=>by
  have ih:=KC z m;have e:∀k,(madeCells z k).toList=(List.range k).map (z[· %z.size]!):=fun k=>by simp[madeCells]
  rw[e] at ih⊢;rw[Nat.add_mul,Nat.one_mul,List.range_add,List.map_append,ih,List.replicate_succ',List.flatten_append]
  congr 1
  simp only[List.map_map,List.flatten_cons,List.flatten_nil,List.append_nil];refine List.ext_getElem (by simp) fun i b a=>?_;simp only[List.getElem_map,List.getElem_range,Function.comp];have hi:i<z.size:=by simpa using a
  rw[Nat.add_comm,Nat.add_mul_mod_self_right,Nat.mod_eq_of_lt hi];simp[hi]
theorem R2.VD{α:Type}{e:El α}{w:World}{Z:Nat→Prop}{c:List Value}{x:α}(h:e.R w Z c x):∀m:Nat,R2 e w Z (List.replicate m c) (List.replicate m x)
 |0=>trivial
 |m+1=>⟨h,R2.VD h m⟩
section
variable{P:Program}{a:Act}{w:World}{dst:Option Tmp}{ty:TypeId}{pos:String}{Cf:Array Edge}{g:Option (Nat×Bool)}
theorem HY{α:Type}{e:El α}{z:α}{zc:List Value}{n0:Nat}{t j:TypeId}{d:Value}{sz bytes:Nat}{n:Int}{x y:Operand}{m o:IntKind}{b':Nat}(aB:P.underlying t=some (.slice j))(hi:(P.info? j).map (fun i=>(i.zero,i.size,i.bytes))=some (some d,sz,bytes))
  (p:d.cells.toList=zc)(c:e.sz=sz)(aC:a.eval x=.int m n)(aD:a.eval y=.int o n)(hm:0≤n∧n*b'≤140737488355328∧n≤140737488355328)(q:∀w Z,e.R w Z zc z)(aE:n0≤w.heap.size)(aJ:bytes≤b'):
  BO P ⟨dst,.makeSlice t x y,ty,pos,Cf,g⟩ a w (fun u w'=>∃b,u=.slice (some ⟨b,0,none⟩) (List.replicate n.toNat z).length n.toNat∧w.heap.size≤b∧b<w'.heap.size∧Ext w w'∧∀Z,AJ e j n0 w' Z (some ⟨b,0,none⟩) n.toNat (List.replicate n.toNat z)):=by
 subst p;subst c;cases f:P.info? j with
 |none=>simp[f] at hi
 |some i=>
  rw[f] at hi;simp only[Option.map_some,Option.some.injEq,Prod.mk.injEq] at hi;obtain⟨aF,r,aG⟩:=hi;obtain⟨s,aK,aL⟩:=hm;have v:d.cells.toList.length=e.sz:=e.len (q w ZA);have c:d.cells.size=e.sz:=by simpa using v
  have aA:(i.bytes:Int)*n≤281474976710656:=by
   rw[aG];have aH:(bytes:Int)*n≤(b':Int)*n:=Int.mul_le_mul_of_nonneg_right (by omega) s;rw[Int.mul_comm (b':Int)] at aH;omega
  have aI:=run_make (P:=P) w t j i d aB f aF m o n n s (Int.le_refl _) aA (by omega);refine(JD (S:=Instr.makeSlice t (a.eval x) (a.eval y)) rfl (by rw[aC,aD];exact aI)).mono fun u w' h=>?_;obtain⟨rfl,rfl⟩:=h;have l:=It w j (madeCells d.cells (n.toNat*i.size));refine⟨w.heap.size,by rw[List.length_replicate],Nat.le_refl _,by rw[l.sz];exact Nat.lt_succ_self _,l.gr,fun Z=>⟨_,R2.VD (q _ Z) n.toNat,?_⟩⟩;rw[List.length_replicate];have k:(List.replicate n.toNat d.cells.toList).flatten.length=n.toNat*e.sz:=by rw[←KC,←c];simp[size_madeCells]
  refine⟨k,.inr ⟨w.heap.size,n.toNat,_,rfl,aE,l.bk,Nat.le_refl _,by simp only[maxLen];omega,by rw[size_madeCells,r],?_⟩⟩;rw[r,←c,KC,List.take_of_length_le (by rw[k,c];exact Nat.le_refl _)]
end
def KD:Int⊕Bool→Value
 |.inl n=>.int .i64 n
 |.inr b=>.bool b
def L7(l:List (Int⊕Bool)):Value:=.agg (l.map KD).toArray
def Lm:Int⊕Bool→Bool
 |.inl _=>true
 |.inr _=>false
def HM:List (Int⊕Bool)→List (Int⊕Bool)→Bool
 |[],[]=>true
 |.inl a::l,.inl b::m=>a==b&&HM l m
 |.inr a::l,.inr b::m=>a==b&&HM l m
 |_,_=>false
def RB(P:Program)(t:TypeId)(a:List Bool):Prop:=∀(w:World) (x y:List (Int⊕Bool)),x.map Lm=a→y.map Lm=a→(Op.equal t (L7 x) (L7 y)).run P w=.ok (HM x y) w
def Mw(a b:TypeId):Nat→List Field→List Bool→Bool
 |_,[],[]=>true
 |i,f::c,k::d=>f.name !="_"&&Nat.beq f.type (cond k a b)&&Nat.beq f.offset i&&Mw a b (i+1) c d
 |_,_,_=>false
section
variable{P:Program}{w:World}
theorem JT{e:TypeId}(he:One P e){cs:Array Value}{i:Nat}{v:Value}(h:cs[i]?=some v):(part e cs i).run P w=.ok v w:=by
 simp only[part,Sem.run_bind,Ji he,Result.andThen_ok,h];rfl
theorem M5{l o:TypeId}(v:One P l)(u1:P.underlying l=some (.int .i64))(z:One P o)(aA:P.underlying o=some .bool)(d:Nat):∀(p:List Field) (c:List Bool) (x y b e:List (Int⊕Bool)),b.length=e.length→Mw l o b.length p c=true→x.map Lm=c→y.map Lm=c→
  (Op.eqFields (d+1) ((b++x).map KD).toArray ((e++y).map KD).toArray p).run P w=.ok (HM x y) w
 |[],[],[],[],_,_,_,_,_,_=>by simp[Op.eqFields,HM]
 |[],_::_,_,_,_,_,_,h,_,_=>by simp[Mw] at h
 |_::_,[],_,_,_,_,_,h,_,_=>by simp[Mw] at h
 |[],[],_::_,_,_,_,_,_,h,_=>by simp at h
 |[],[],_,_::_,_,_,_,_,_,h=>by simp at h
 |_::_,_::_,[],_,_,_,_,_,h,_=>by simp at h
 |_::_,_::_,_,[],_,_,_,_,_,h=>by simp at h
 |f::p,k::c,g::x,i::y,b,e,aB,aC,r,s=>by
  simp only[Mw,Bool.and_eq_true] at aC;obtain⟨⟨⟨t,a⟩,u⟩,aF⟩:=aC;have t:f.name≠"_":=by simpa using t
  have a:=Nat.eq_of_beq_eq_true a;have u:=Nat.eq_of_beq_eq_true u;simp only[List.map_cons,List.cons.injEq] at r s;have ih:=M5 v u1 z aA d p c x y (b++[g]) (e++[i]) (by simp[aB]) (by simpa using aF) r.2 s.2;rw[List.append_assoc,List.append_assoc] at ih;simp only[List.singleton_append] at ih;have aD:((b++g::x).map KD).toArray[f.offset]?=some (KD g):=by rw[u];simp
  have aE:((e++i::y).map KD).toArray[f.offset]?=some (KD i):=by rw[u,aB];simp
  cases k with
  |true=>
   cases g with
   |inr _=>simp[Lm] at r
   |inl m=>
    cases i with
    |inr _=>simp[Lm] at s
    |inl n=>
     have a:f.type=l:=a;have j:One P f.type:=by rw[a];exact v
     have q:=run_equalIn_int (P:=P) w d f.type .i64 .i64 m n (by rw[a];exact u1);simp only[Op.eqFields,t,ne_eq,not_false_eq_true,if_true,Sem.run_bind,JT j aD,JT j aE,KD,q,Result.andThen_ok,HM];cases aG:(m==n)
     ·simp
     ·simpa using ih
  |false=>
   cases g with
   |inl _=>simp[Lm] at r
   |inr m=>
    cases i with
    |inl _=>simp[Lm] at s
    |inr n=>
     have a:f.type=o:=a;have j:One P f.type:=by rw[a];exact z
     have q:=run_equalIn_bool (P:=P) w d f.type m n (by rw[a];exact aA);simp only[Op.eqFields,t,ne_eq,not_false_eq_true,if_true,Sem.run_bind,JT j aD,JT j aE,KD,q,Result.andThen_ok,HM];cases aG:(m==n)
     ·simp
     ·simpa using ih
theorem OO{K c d:Nat}{a:Array Field}{e:List Bool}(hK:P.underlying K=some (.struct a))(f:P.stoodInHeld K=false)(g:Mw c d 0 a.toList e=true)(i:One P c)(u1:P.underlying c=some (.int .i64))(j:One P d)(l:P.underlying d=some .bool):RB P K e:=by
 intro w x y m n;have b:P.fieldsOf K=a:=by simp[Program.fieldsOf,hK]
 have h:=run_equalIn_struct (P:=P) w 9999 K (x.map KD).toArray (y.map KD).toArray (by rw[b];exact hK) f;have k:=M5 (P:=P) (w:=w) i u1 j l 9998 a.toList e x y [] [] rfl g m n;simp only[List.nil_append] at k;rw[b,k] at h;exact h
end
section
variable{P:Program}{a:Act}{w:World}{dst:Option Tmp}{ty:TypeId}{pos:String}{Cf:Array Edge}{g:Option (Nat×Bool)}
theorem PI{x y:Operand}{v1 v2:Value}{x1 x2:List (Int⊕Bool)}{b:List Bool}{t d:TypeId}(e:RB P t b)(c:P.eqGuardType P.depth t=false)(f:a.eval x=v1)(h:a.eval y=v2)(i:v1=L7 x1)(j:v2=L7 x2)(k:x1.map Lm=b)(l:x2.map Lm=b):
  BO P ⟨dst,.binOp .eql t x y d,ty,pos,Cf,g⟩ a w (fun u w'=>u=.bool (HM x1 x2)∧w'=w):=by
 refine Nt f h ?_;subst i;subst j;have m:=e w x1 x2 k l;have n:(eqGuard .eql t x y (L7 x1) (L7 x2)).run P w=.ok () w:=by
  simp[eqGuard,L7,program,Sem.run,c]
 simp only[Sem.run_bind,n,Result.andThen_ok];show(do pure (Value.bool (←Op.equal t (L7 x1) (L7 x2))):Sem Value).run P w=_;simp only[Sem.run_bind,m,Result.andThen_ok,Sem.run_pure]
theorem Sy{x y:Operand}{p q:Option Addr}{t u:TypeId}{b:Bool}(c:a.eval x=.pointer p)(d:a.eval y=.pointer q)(e:(Op.equal t (.pointer p) (.pointer q)).run P w=.ok b w):BO P ⟨dst,.binOp .eql t x y u,ty,pos,Cf,g⟩ a w (fun v w'=>v=.bool b∧w'=w):=
 Ct (by simp[execOp,c,d,binOp,e,eqGuard])
theorem LF {α:Type} {e:El α} {aA t:TypeId} {x y:Operand} {b o k p c:Nat} {v:Value} {n0:Nat} {Z:Nat→Prop} {A:Option Addr} {xs:List α} {z z':α} {l:List Value} {n:Nat}
  (aB:AJ e aA n0 w Z A c xs) (aD:xs[k]?=some z) (aM:A=some ⟨b,o,none⟩) (aN:p=o+k*e.sz) (aO:a.eval x=.pointer (some ⟨b,p,none⟩)) (aP:a.eval y=v) (aQ:(P.info? t).map (·.size)=some n) (aR:v.cells.toList=l) (aS:l.length=n)
  (aT:∀u∈l,u.oneCell'=true) (aE:e.R w Z l z'):
  BO P ⟨dst,.store t x y,ty,pos,Cf,g⟩ a w (fun _ w'=>w.grownBy w' (ob A)∧∃Bm,R2 e w Z Bm (xs.set k z')∧D9 w' n0 aA e.sz A (xs.set k z').length c Bm.flatten):=by
 obtain⟨Bm,f,aU⟩:=aB;obtain⟨a4,aY,aF,aZ⟩:=f.get aD;have a0:=e.len aF;have aG:=e.len aE;subst aM;subst aN;have aH:k<xs.length:=(List.getElem?_eq_some_iff.1 aD).1;have hlen:=f.len;have h:=f.lens;rcases aU.2 with⟨aI,h0⟩|⟨a5,cap,cur,aI,aJ,aV,q,aK,aC,i⟩
 ·omega
 ·cases aI;have a2:k*e.sz+e.sz≤xs.length*e.sz:=by
   have:(k+1)*e.sz≤xs.length*e.sz:=Nat.mul_le_mul_right _ aH;rw[Nat.add_mul,Nat.one_mul] at this;exact this
  have a3:xs.length*e.sz≤c*e.sz:=Nat.mul_le_mul_right _ q;have aL:Bk w b aA cur:=aV;refine(Bi (B5:=setCells cur (0+k*e.sz) l) aO aP aQ aL aR aS (by omega) aT rfl).mono ?_;rintro _ w' ⟨s1,s2,aW⟩;have d:=f.set aE k;refine⟨aW,_,d,by rw[d.Jk],.inr ⟨b,c,setCells cur (0+k*e.sz) l,rfl,aJ,s2,by rw[List.length_set];exact q,aK,by rw[Ey 0];exact aC,?_⟩⟩;rw[List.length_set];rcases Nat.eq_zero_or_pos e.sz with h0|h0
  ·have aX:(Bm.set k l).flatten=[]:=List.eq_nil_of_length_eq_zero (by rw[d.Jk,h0,Nat.mul_zero]);rw[aX,h0,Nat.mul_zero,List.take_zero]
  ·refine List.ext_getElem? fun j=>?_;rw[LC aG h0 k Bm j h (by omega),List.getElem?_take,Array.getElem?_toList,FM _ _ _ _ (by omega)];have r:∀j:Nat,Bm.flatten[j]?=if j<xs.length*e.sz then cur[j]? else none:=fun j=>by
    rw[←i,List.getElem?_take,Array.getElem?_toList]
   by_cases m:j<xs.length*e.sz
   ·rw[if_pos m]
    by_cases s:k*e.sz≤j∧j<k*e.sz+e.sz
    ·rw[if_pos (by omega),if_pos s,show j-(0+k*e.sz)=j-k*e.sz by omega]
    ·rw[if_neg (by omega),if_neg s,r,if_pos m]
   ·rw[if_neg m,if_neg (by omega),r,if_neg m]
theorem GQ{α:Type}{e:El α}{f t:TypeId}{x y:Operand}{b o k p c:Nat}{v:Value}{n0:Nat}{Z:Nat→Prop}{A:Option Addr}{xs:List α}{z z':α}{l:List Value}{n:Nat}
  (d:AJ e f n0 w Z A c xs)(i:xs[k]?=some z)(j:A=some ⟨b,o,none⟩)(m:p=o+k)(q:a.eval x=.pointer (some ⟨b,p,none⟩))(r:a.eval y=v)(s:(P.info? t).map (·.size)=some n)(aA:v.cells.toList=l)(aB:l.length=n)
  (aC:∀u∈l,u.oneCell'=true)(aD:e.R w Z l z')(h:e.sz=1:=by rfl):
  BO P ⟨dst,.store t x y,ty,pos,Cf,g⟩ a w (fun _ w'=>w.grownBy w' (ob A)∧∃Bm,R2 e w Z Bm (xs.set k z')∧D9 w' n0 f e.sz A (xs.set k z').length c Bm.flatten):=
 LF d i j (by rw[h,Nat.mul_one];exact m) q r s aA aB aC aD
end
theorem KE{l:List Int}{i:Nat}{x:Int}(h:l[i]?=some x):(l.map fun n=>Value.int .i64 n)[i]?=some (.int .i64 x):=by rw[List.getElem?_map,h];rfl
theorem AJ.Ve {α:Type} {e:El α} {t:TypeId} {n0:Nat} {w:World} {Z:Nat→Prop} {A:Option Addr} {c k:Nat} {xs:List α} {x:α} (h:AJ e t n0 w Z A c xs) (h0:0<e.sz) (f:xs[k]?=some x):
  ∃b o cs,A=some ⟨b,o,none⟩∧e.R w Z cs x∧Rz w ZA (some ⟨b,o+k*e.sz,none⟩) cs:=by
 obtain⟨Bm,g,i⟩:=h;have q:Sl e w ZA A c xs:=AJ.all (t:=t) (n0:=n0) (Z:=Z) ⟨Bm,g,i⟩;obtain⟨b,o,B5,l,y,aB⟩:=q.elem h0 f;obtain⟨m,z,a,n⟩:=g.get f;refine⟨b,o,m,l,a,?_⟩;have hlen:m.length=e.sz:=e.len a;have r:=i.rd;rcases r.2 with s|⟨b',o',d,_,p,v⟩
 ·have:=g.Jk;rw[s] at this;have aA:k<xs.length:=(List.getElem?_eq_some_iff.1 f).1;have aC:0<xs.length*e.sz:=Nat.mul_pos (by omega) h0;simp at this;omega
 ·rw[l] at d;cases d;refine .inr ⟨b,_,rfl,trivial,p,fun j u hu=>?_⟩;rw[Nat.add_assoc];refine v _ _ ?_;rw[←n,List.getElem?_take] at hu;split at hu
  ·simpa using hu
  ·cases hu
theorem AJ.Ih{α:Type}{e:El α}{t:TypeId}{n0:Nat}{w:World}{Z:Nat→Prop}{A:Option Addr}{c k:Nat}{xs:List α}{x:α}(h:AJ e t n0 w Z A c xs)(d:e.sz=1)(f:xs[k]?=some x):
  ∃b o cs,A=some ⟨b,o,none⟩∧e.R w Z cs x∧Rz w ZA (some ⟨b,o+k,none⟩) cs:=by
 obtain⟨b,o,cs,g,i,a⟩:=h.Ve (by omega) f;rw[d,Nat.mul_one] at a;exact⟨b,o,cs,g,i,a⟩
def TC(w:World)(D:Nat→Prop)(M:World→Prop):Nat→World→Prop
 |0,w'=>Ext w w'
 |_+1,w'=>Bo D w w'∧M w'
section
variable{w w' By:World}{D:Nat→Prop}{M:World→Prop}{ph:Nat}
theorem Ge(h:TC w D M ph w'):Bo D w w':=by
 cases ph with
 |zero=>exact Gm h
 |succ=>exact h.1
theorem BK(h:TC w D M ph w')(a:ph=0):Ext w w':=by subst a;exact h
theorem HN(c:∀a b,M a→Ext a b→M b)(h:TC w D M ph w')(g:Ext w' By):TC w D M ph By:=by
 cases ph with
 |zero=>exact Ext.trans h g
 |succ=>exact⟨(show Bo D w w' from h.1).trans (Gm g),c _ _ h.2 g⟩
theorem Iw(h:TC w D M ph w')(a:ph=0)(g:Bo D w' By)(b:M By):TC w D M (ph+1) By:=by
 subst a;exact⟨(Gm h).trans g,b⟩
theorem ID{r:Option Nat}(g:w.grownBy w' r):Bo (FU FN [r]) w w':=IN g fun k e=>.inr (by rw[e];exact List.mem_singleton_self _)
end
section
variable{F F':Nat→Prop}{B:List (Option Nat)}{w0 w w':World}{L M:List (Option Nat)}
theorem Hp.PJ{Z:Nat→Prop}{a:Nat}(h:Hp F B w0 L w)(c:w.heap.size≤a):Mv w' (ZZ FN [] FN a []) w' (ZZ F B Z w0.heap.size L):=G8 fun b d _=>by
 rcases d with⟨_,e,_⟩|⟨f,_⟩
 ·exact e.elim
 ·refine .inr ⟨Nat.le_trans h.sz (Nat.le_trans c f),fun hm=>?_⟩;have:=(h.lo b hm).1;omega
theorem Hp.Sz{α:Type}{e:El α}{t:TypeId}{A:Option Addr}{c:Nat}{xs:List α}{Z Z':Nat→Prop}(h:Hp F B w0 L w)(b:∀w Z w' Z' cs x,e.R w Z cs x→e.R w' Z' cs x)(a:AJ e t w.heap.size w' Z' A c xs):AJ e t w0.heap.size w' Z A c xs:=
 AJ.PG b (a.base (n1:=w0.heap.size) fun k d=>Nat.le_trans h.sz (a.ge k d))
theorem Hp.L8{α:Type}{e:El α}{t:TypeId}{A:Option Addr}{c:Nat}{xs:List α}{Z a:Nat→Prop}(h:Hp F B w0 L w)(b:∀w Z w' Z' cs x,e.R w Z cs x→e.R w' Z' cs x)(d:AJ e t w.heap.size w' a A c xs):Sl e w' (ZZ F B Z w0.heap.size L) A c xs:=
 (AJ.PG b d).sl fun k _ h0=>h.kn h0
theorem Hp.Mx (h:Hp F B w0 L w) (f:Hp F B w0 L w') {b:Nat} (p:w.heap.size≤b) (l:b<w'.heap.size):Hp F B w0 (some b::L) w':=by
 refine⟨f.ch,fun k a=>?_,?_,h.ff⟩
 ·rcases List.mem_cons.1 a with e|a
  ·cases e;exact⟨l,fun m=>absurd (h.ff _ m) (by have:=h.sz;omega),fun n=>absurd n (by have:=h.sz;omega)⟩
  ·exact f.lo k a
 ·have key:∀(j:Nat) (x:Nat),L[j]?=some (some x)→x≠b:=fun j x o e=>by
   have:=(h.lo x (List.mem_of_getElem? o)).1;omega
  intro i j x g hi c;cases i with
  |zero=>
   cases j with
   |zero=>exact g rfl
   |succ j=>
    have d:b=x:=by simpa using hi
    exact key j x (by simpa using c) d.symm
  |succ i=>
   cases j with
   |zero=>
    have d:b=x:=by simpa using c
    exact key i x (by simpa using hi) d.symm
   |succ j=>exact h.ap i j x (by omega) (by simpa using hi) (by simpa using c)
theorem Ga{Z:Nat→Prop}{n0:Nat}{b:Nat}(hm:Mv w (ZZ F B Z n0 L) w' (ZZ F B Z n0 L))(h:w.heap.size≤b):Mv w (ZZ F B Z n0 L) w' (ZZ F B Z n0 (some b::L)):=
 ⟨hm.size,fun k c d=>⟨(hm.stay k c d).1.imp id fun⟨f,g⟩=>⟨f,fun a=>by
  rcases List.mem_cons.1 a with e|a
  ·cases e;omega
  ·exact g a⟩,(hm.stay k c d).2⟩⟩
end
def PK (w:World) (R:World→Value→World→Prop):Ke Ext:=
 ⟨fun v a=>∃w1 w2,Ext w w1∧R w1 v w2∧Ext w2 a,fun _ _ _ ⟨w1,w2,b,c,d⟩ g=>⟨w1,w2,b,c,Ext.trans d g⟩⟩
def I9(w:World)(R:World→Value→World→Prop)(a:World):Prop:=∃v w1 w2,Ext w w1∧R w1 v w2∧Ext w2 a
theorem HC{w:World}{R:World→Value→World→Prop}:∀a b,I9 w R a→Ext a b→I9 w R b:=fun _ _ ⟨v,w1,w2,c,d,e⟩ g=>⟨v,w1,w2,c,d,Ext.trans e g⟩
def L9(_:World):Prop:=True
theorem KF:∀a b,L9 a→Ext a b→L9 b:=fun _ _ _ _=>trivial
def Hr(n:Nat)(w:World):List Nat→Prop
 |[]=>True
 |b::l=>n≤b∧b<w.heap.size∧(l.all fun x=> !Nat.beq b x)=true∧Hr n w l
section
variable{F F':Nat→Prop}{B:List (Option Nat)}{w0 w w':World}{L M:List (Option Nat)}{Z:Nat→Prop}
theorem Hr.mem{n:Nat}:∀{l:List Nat},Hr n w l→∀b∈l,n≤b∧b<w.heap.size
 |[],_,_,h=>by cases h
 |x::l,h,b,a=>by
  rcases List.mem_cons.1 a with rfl|a
  ·exact⟨h.1,h.2.1⟩
  ·exact Hr.mem h.2.2.2 b a
theorem Hr.grow{n a:Nat}(b:a≤n)(c:w.heap.size≤w'.heap.size):∀{l:List Nat},Hr n w l→Hr a w' l
 |[],_=>trivial
 |_::_,h=>⟨Nat.le_trans b h.1,Nat.lt_of_lt_of_le h.2.1 c,h.2.2.1,Hr.grow b c h.2.2.2⟩
theorem Hp.N0(h:Hp F B w0 L w):∀{l:List Nat},Hp F B w0 L w'→Hr w.heap.size w' l→Hp F B w0 (l.map some++L) w'
 |[],c,_=>c
 |b::l,c,a=>by
  have d:=Hp.N0 h c a.2.2.2;refine⟨d.ch,fun k f=>?_,?_,h.ff⟩
  ·rcases List.mem_cons.1 f with e|f
   ·cases e;exact⟨a.2.1,fun p=>absurd (h.ff _ p) (by have:=h.sz;have:=a.1;omega),fun n=>absurd n (by have:=h.sz;have:=a.1;omega)⟩
   ·exact d.lo k f
  ·have key:∀(j:Nat) (x:Nat),(l.map some++L)[j]?=some (some x)→x≠b:=fun j x q e=>by
    subst e;have hm:=List.mem_of_getElem? q;rcases List.mem_append.1 hm with hm|hm
    ·obtain⟨y,r,e⟩:=List.mem_map.1 hm;cases e;have:=List.all_eq_true.1 a.2.2.1 x r;rw[Nat.beq_refl] at this;cases this
    ·have:=(h.lo x hm).1;have:=a.1;omega
   intro i j x o hi g;cases i with
   |zero=>
    cases j with
    |zero=>exact o rfl
    |succ j=>
     have m:b=x:=by simpa using hi
     exact key j x (by simpa using g) m.symm
   |succ i=>
    cases j with
    |zero=>
     have m:b=x:=by simpa using g
     exact key i x (by simpa using hi) m.symm
    |succ j=>exact d.ap i j x (by omega) (by simpa using hi) (by simpa using g)
theorem Hp.My(h:Hp F B w0 L w)(g:Ext w w'){l:List Nat}(a:Hr w.heap.size w' l):Hp F B w0 (l.map some++L) w':=h.N0 (h.ext g) a
theorem Fi{n0:Nat}{l:List Nat}(hm:Mv w (ZZ F B Z n0 L) w' (ZZ F B Z n0 L))(d:Hr w.heap.size w' l):Mv w (ZZ F B Z n0 L) w' (ZZ F B Z n0 (l.map some++L)):=
 ⟨hm.size,fun k c b=>⟨(hm.stay k c b).1.imp id fun⟨f,g⟩=>⟨f,fun a=>by
  rcases List.mem_append.1 a with a|a
  ·obtain⟨y,h,e⟩:=List.mem_map.1 a;cases e;have:=(d.mem k h).1;omega
  ·exact g a⟩,(hm.stay k c b).2⟩⟩
theorem PL{b c:Nat}(f:w.heap.size≤b)(a:b<w'.heap.size)(g:w.heap.size≤c)(d:c<w'.heap.size)(e:b≠c):Hr w.heap.size w' [b,c]:=
 ⟨f,a,by
  have:Nat.beq b c=false:=by
   cases h:Nat.beq b c with
   |false=>rfl
   |true=>exact absurd (Nat.eq_of_beq_eq_true h) e
  simp[this],g,d,rfl,trivial⟩
theorem Hp.RC (h:Hp F B w0 L w):∀(l:List Nat) (c:List Nat),Gz L c (l.map some)→Jt c=true→(∀b∈l,w0.heap.size≤b)→Hr w0.heap.size w l
 |[],_,_,_,_=>trivial
 |b::l,[],a,_,_=>a.elim
 |b::l,j::c,a,e,d=>by
  simp only[Jt,Bool.and_eq_true] at e;refine⟨d b (List.mem_cons_self ..),(h.lo b (List.mem_of_getElem? a.1)).1,?_,h.RC l c a.2 e.2 fun x f=>d x (List.mem_cons_of_mem _ f)⟩;rw[List.all_eq_true];intro x f;cases i:Nat.beq b x with
  |false=>rfl
  |true=>
   have g:=Nat.eq_of_beq_eq_true i;subst g;have k:=h.BF (F':=FN) j a.1 c e.1 a.2 (fun _ h=>h.elim);exact absurd (.inr (List.mem_map.2 ⟨b,f,rfl⟩)) k
end
section
variable{P:Program}{N:Nat}{Q:Exit→Act→World→Prop}{a:Act}{l:Env}{w:World}
def Mz(a:Act):Act:={a with defers:=[]}
theorem KG(a:Act):∀l:Env,B2 (Mz a) l=Mz (B2 a l)
 |[]=>rfl
 |(d,v)::l=>by simp only[B2,KG a l];rfl
theorem Ma{D:Nat}{fn:Func}{R:Value→World→Prop}(c:w.heap[D]?=some (.deferred (some [])))(h:∀w',GP D w w'→LV X0 N (bodyPost P fn (fun e w'=>∃v,e=.returned v∧R v w')) .ret (Mz a) l w'):
  LV (X1 D) N (PM P fn R) .ret a l w:=fun s=>by
 have d:St X0 N (Mz a) l:=⟨s.sz,rfl,s.lt⟩;obtain⟨_,v,b,f⟩:=h _ (GR w D (.deferred none)) d;show LeavesInM Fence.wide 0 P fn _ _ (B2 a l).defers .returning w;rw[DI,show a.defers=mark D from s.df];refine⟨by simp,.inl ⟨D,_,rfl,run_takeDeferred c,?_⟩⟩;rw[KG] at b;exact⟨v,b,f⟩
theorem OY{D:Nat}{fn:Func}{R:Value→World→Prop}(c:w.heap[D]?=some (.deferred (some [])))(h:∀w',GP D w w'→LV X0 N (bodyPost P fn (fun e w'=>∃v,e=.returned v∧R v w')) .normal (Mz a) l w'):
  LV (X1 D) N (PM P fn R) .normal a l w:=fun s=>by
 have d:St X0 N (Mz a) l:=⟨s.sz,rfl,s.lt⟩;obtain⟨_,v,b,f⟩:=h _ (GR w D (.deferred none)) d;show LeavesInM Fence.wide 0 P fn _ _ (B2 a l).defers .returning w;rw[DI,show a.defers=mark D from s.df];refine⟨by simp,.inl ⟨D,_,rfl,run_takeDeferred c,?_⟩⟩;rw[KG] at b;exact⟨v,b,f⟩
end
theorem OZ{α:Type}{b:Bool}{x:Option α}{r:α}(h:cond b none x=some r):b=false∧x=some r:=by
 cases b with
 |true=>cases h
 |false=>exact⟨rfl,h⟩
def De(xs:List Int):List Int:=xs.mergeSort fun x y=>decide (x≤y)
theorem IS(xs:List Int):(De xs).length=xs.length:=List.length_mergeSort _
theorem Qn{w:World}{Z:Nat→Prop}:∀{Bm:List (List Value)} {xs:List Int},R2 (AB .i64) w Z Bm xs→Bm.flatten=Cr xs
 |[],[],_=>rfl
 |c::Bm,x::xs,h=>by
  have a:c=[.int .i64 x]:=h.1;rw[List.flatten_cons,Qn h.2,a];rfl
 |[],_::_,h=>h.elim
 |_::_,[],h=>h.elim
theorem Qo{w:World}{Z:Nat→Prop}:∀xs:List Int,R2 (AB .i64) w Z (xs.map fun x=>[.int .i64 x]) xs
 |[]=>trivial
 |_::xs=>⟨rfl,Qo xs⟩
theorem RD(xs:List Int):(xs.map fun x=>[Value.int .i64 x]).flatten=Cr xs:=by
 induction xs with
 |nil=>rfl
 |cons x xs ih=>rw[List.map_cons,List.flatten_cons,ih];rfl
theorem PN{t:TypeId}{n0:Nat}{w:World}{Z:Nat→Prop}{A:Option Addr}{c:Nat}{xs:List Int}(h:AJ (AB .i64) t n0 w Z A c xs):D9 w n0 t 1 A xs.length c (Cr xs):=by
 obtain⟨Bm,a,b⟩:=h;rw[←Qn a];exact b
theorem K7{t:TypeId}{n0:Nat}{w:World}{Z:Nat→Prop}{A:Option Addr}{c:Nat}{xs:List Int}(h:D9 w n0 t 1 A xs.length c (Cr xs)):AJ (AB .i64) t n0 w Z A c xs:=
 ⟨_,Qo xs,by rw[RD];exact h⟩
theorem Vf{α β:Type}{x:Option β}{f:α→Option β}{r:β}(h:Option.elim none x f=some r):x=some r:=h
theorem Vg{α β:Type}{a:α}{x:Option β}{f:α→Option β}{r:β}(h:Option.elim (some a) x f=some r):f a=some r:=h
theorem JU{F:Nat→Prop}{b:Nat}{L:List (Option Nat)}(h:¬F b∧some b∉L):¬F b∧some b∉L++[none]:=⟨h.1,fun hm=>by
 rcases List.mem_append.1 hm with a|a
 ·exact h.2 a
 ·simp at a⟩
theorem Bo.O0{F:Nat→Prop}{C:List (Option Nat)}{o:Option Nat}{w w':World}(g:Bo (FU F (C++[o]++[none])) w w'):Bo (FU (FU F C) [o]) w w':=g.mono fun k h=>by
 rcases h with h|h
 ·exact .inl (.inl h)
 ·rcases List.mem_append.1 h with a|a
  ·rcases List.mem_append.1 a with b|b
   ·exact .inl (.inr b)
   ·exact .inr b
  ·simp at a
theorem Sl.SA{α β:Type}{e:El α}{ev:β→Value}{F:Nat→Prop}{B L:List (Option Nat)}{Z:Nat→Prop}{n0 r n:Nat}{w:World}{i:List (List Int×β)}{A:Option Addr}{c:Nat}{xs:List α}
  (j:∀w Z w' Z' cs x,e.R w Z cs x→e.R w' Z' cs x)(hm:Cs ev w r n i)(h:Sl e w (ZZ F B Z n0 L) A c xs):Sl e w (ZZ F B Z n0 (some r::L)) A c xs:=by
 obtain⟨k,m,Bm,p,d⟩:=h;refine⟨k,m,Bm,p.free j,?_⟩;rcases d with d|⟨b,o,q,s,t,f⟩
 ·exact .inl d
 ·cases g:Bm.flatten with
  |nil=>exact .inl rfl
  |cons u l=>
   rw[g] at f;refine .inr ⟨b,o,q,s.imp id fun⟨v,y⟩=>⟨v,fun a=>?_⟩,t,f⟩;rcases List.mem_cons.1 a with e|a
   ·cases e;obtain⟨es,aA,z,_⟩:=hm;have:=f 0 u rfl;unfold World.cell? at this;simp[z] at this
   ·exact y a
section
variable{P:Program}{N:Nat}{a:Act}{l:Env}{w:World}
theorem Hs{fn:Func}{r1 r2 n:ResultVar}{v v' Jg:Value}{R:Value→World→Prop}(g:fn.results= #[r1,r2,n])(x:NU P a l w r1 v)(q:NU P a l w r2 v')(i:NU P a l w n Jg)(h:R (.tuple #[v,v',Jg]) w):
  LV X0 N (bodyPost P fn (fun e w'=>∃v,e=.returned v∧R v w')) .ret a l w:=fun s=>by
 refine bodyPost_ret (v:=.tuple #[v,v',Jg]) ?_ (by rw[DI,s.df]) ⟨_,rfl,h⟩;cases r1 with
 |tmp t0=>
  have d:(B2 a l).tmps.getD t0 undef=v:=ee s x;simp only[Array.getD_eq_getD_getElem?] at d;cases r2 with
  |tmp t1=>
   have c:(B2 a l).tmps.getD t1 undef=v':=ee s q;simp only[Array.getD_eq_getD_getElem?] at c;cases n with
   |tmp t2=>
    have b:(B2 a l).tmps.getD t2 undef=Jg:=ee s i;simp only[Array.getD_eq_getD_getElem?] at b;simp[results,g,d,c,b]
   |cell j t2=>
    obtain⟨f,k,m⟩:=i;have b:(B2 a l).tmps.getD j undef=.pointer (some f):=ee s k;simp only[Array.getD_eq_getD_getElem?] at b;simp[results,g,d,c,b,asAddr,m]
  |cell t t1=>
   obtain⟨o,u,p⟩:=q;have c:(B2 a l).tmps.getD t undef=.pointer (some o):=ee s u;simp only[Array.getD_eq_getD_getElem?] at c;cases n with
   |tmp t2=>
    have b:(B2 a l).tmps.getD t2 undef=Jg:=ee s i;simp only[Array.getD_eq_getD_getElem?] at b;simp[results,g,d,c,asAddr,p,b]
   |cell j t2=>
    obtain⟨f,k,m⟩:=i;have b:(B2 a l).tmps.getD j undef=.pointer (some f):=ee s k;simp only[Array.getD_eq_getD_getElem?] at b;simp[results,g,d,c,asAddr,p,b,asAddr,m]
 |cell z t0=>
  obtain⟨y,aA,r⟩:=x;have d:(B2 a l).tmps.getD z undef=.pointer (some y):=ee s aA;simp only[Array.getD_eq_getD_getElem?] at d;cases r2 with
  |tmp t1=>
   have c:(B2 a l).tmps.getD t1 undef=v':=ee s q;simp only[Array.getD_eq_getD_getElem?] at c;cases n with
   |tmp t2=>
    have b:(B2 a l).tmps.getD t2 undef=Jg:=ee s i;simp only[Array.getD_eq_getD_getElem?] at b;simp[results,g,d,asAddr,r,c,b]
   |cell j t2=>
    obtain⟨f,k,m⟩:=i;have b:(B2 a l).tmps.getD j undef=.pointer (some f):=ee s k;simp only[Array.getD_eq_getD_getElem?] at b;simp[results,g,d,asAddr,r,c,b,asAddr,m]
  |cell t t1=>
   obtain⟨o,u,p⟩:=q;have c:(B2 a l).tmps.getD t undef=.pointer (some o):=ee s u;simp only[Array.getD_eq_getD_getElem?] at c;cases n with
   |tmp t2=>
    have b:(B2 a l).tmps.getD t2 undef=Jg:=ee s i;simp only[Array.getD_eq_getD_getElem?] at b;simp[results,g,d,asAddr,r,c,asAddr,p,b]
   |cell j t2=>
    obtain⟨f,k,m⟩:=i;have b:(B2 a l).tmps.getD j undef=.pointer (some f):=ee s k;simp only[Array.getD_eq_getD_getElem?] at b;simp[results,g,d,asAddr,r,c,asAddr,p,b,asAddr,m]
end
theorem Ua{w w':World}{Z Z' Q:Nat→Prop}(h:Mv w Z w' Z'):Mv w (fun b=>Z b∧Q b) w' (fun b=>Z' b∧Q b):=⟨h.size,fun b a c=>⟨⟨(h.stay b a.1 c).1,a.2⟩,(h.stay b a.1 c).2⟩⟩
def eF(n:Nat):El (Bool×List Int):=
 ⟨1,fun w Z cs x=>∃A c,cs=[.slice A x.2.length c]∧Sl (AB .i64) w (fun b=>Z b∧(x.1=true→n≤b)) A c x.2,fun⟨_,_,h,_⟩=>by rw[h];rfl,fun⟨_,_,h,_⟩=>by rw[h];simp[Value.oneCell'],
  fun⟨A,c,a,d⟩ g=>⟨A,c,a,d.mv (Ua g)⟩⟩
theorem Ub{n:Nat}{w:World}{Z:Nat→Prop}:∀{Bm:List (List Value)} {xs:List (List Int)},R2 (BD (AB .i64)) w Z Bm xs→R2 (eF n) w Z Bm (xs.map fun x=>(false,x))
 |[],[],_=>trivial
 |_::_,_::_,⟨⟨A,c,a,b⟩,h⟩=>⟨⟨A,c,a,b.mv (G8 fun _ d _=>⟨d,fun e=>by cases e⟩)⟩,Ub h⟩
 |[],_::_,h=>h.elim
 |_::_,[],h=>h.elim
theorem Uc{n:Nat}{w:World}{Z:Nat→Prop}:∀{Bm:List (List Value)} {xs:List (Bool×List Int)},(∀y∈xs,y.1=true)→R2 (eF n) w Z Bm xs→R2 (BD (AB .i64)) w (fun b=>n≤b) Bm (xs.map Prod.snd)
 |[],[],_,_=>trivial
 |_::_,x::_,a,⟨⟨A,c,d,e⟩,h⟩=>⟨⟨A,c,d,e.mv (G8 fun _ f _=>f.2 (a x (List.mem_cons_self ..)))⟩,Uc (fun y g=>a y (List.mem_cons_of_mem _ g)) h⟩
 |[],_::_,_,h=>h.elim
 |_::_,[],_,h=>h.elim
theorem Vh{t n0 n:Nat}{w:World}{Z:Nat→Prop}{A:Option Addr}{c:Nat}{xs:List (List Int)}(h:AJ (BD (AB .i64)) t n0 w Z A c xs):AJ (eF n) t n0 w Z A c (xs.map fun x=>(false,x)):=by
 obtain⟨Bm,a,b⟩:=h;exact⟨Bm,Ub a,by rw[List.length_map];exact b⟩
theorem Vi{t n0 n:Nat}{w:World}{Z:Nat→Prop}{A:Option Addr}{c:Nat}{xs:List (Bool×List Int)}(a:∀y∈xs,y.1=true)(h:AJ (eF n) t n0 w Z A c xs):AJ (BD (AB .i64)) t n0 w (fun b=>n≤b) A c (xs.map Prod.snd):=by
 obtain⟨Bm,d,e⟩:=h;exact⟨Bm,Uc a d,by rw[List.length_map];exact e⟩
theorem Ud{a:List (Bool×List Int)}{k:Nat}{x:List Int}(h:(a.map Prod.snd)[k]?=some x):∃b,a[k]?=some (b,x):=by
 rw[List.getElem?_map] at h;cases c:a[k]? with
 |none=>rw[c] at h;cases h
 |some y=>rw[c] at h;cases h;exact⟨y.1,rfl⟩
end Go.Proofs.YtkljfdkmjdjpfaaGreat
end
section
namespace Go.Proofs.YtkljfdkmjdjpfaaGreat
open Go.RowKit
theorem G3{b:Nat}{t:TypeId}:∀(l:List Value) (o:Nat) {w:World} {cs:Array Value},Bk w b t cs→Bk (w.setCells b o l) b t (setCells cs o l)∧w.grownBy (w.setCells b o l) (some b)
 |[],o,w,cs,h=>⟨h,World.grownBy.refl w _⟩
 |v::l,o,w,cs,h=>by
  have c:Bk (w.setCell ⟨b,o,none⟩ v) b t (cs.setIfInBounds o v):=by
   unfold Bk at h⊢;simp[World.setCell,Array.getElem?_modify,h]
  have g1:GP b w (w.setCell ⟨b,o,none⟩ v):=⟨rfl,rfl,rfl,by simp,fun k _ a=>Below.heap_setCell w ⟨b,o,none⟩ v k (by simpa using a)⟩;have ih:=G3 l (o+1) c;exact⟨ih.1,World.grownBy.trans g1 ih.2⟩
def C1 (xs:List Int) (i:Int) (x:Int):List Int:=xs.take i.toNat++x::xs.drop i.toNat
theorem Ln(xs:List Int)(i:Int)(x:Int):(C1 xs i x).length=xs.length+1:=by
 unfold C1;simp;omega
theorem RE{w w':World}{b:Nat}{o:Obj}(a:b=w.heap.size)(g:World.grownBy (w.alloc o) w' (some b)):Ext w w':=
 ⟨g.os,g.tape,g.output,by have:=g.size;simp at this;omega,fun k c _=>by
  have d:=g.block k (by simp;omega) (by rw[a];intro e;cases e;omega);rw[d];exact(World.grownBy_alloc w o none).block k c (by simp)⟩
theorem Ix{w:World}{base t g c:Nat}{cur:Array Value}{l:List Value}(a:base≤g)(d:Bk w g t cur)(e:l.length≤c)(f:c≤maxLen)(i:cur.size=c)(h:∀j,j<l.length→cur[j]?=l[j]?):D9 w base t 1 (some ⟨g,0,none⟩) l.length c l:=by
 refine⟨by simp,.inr ⟨g,c,cur,rfl,a,d,e,f,by simp[i],?_⟩⟩;rw[Nat.mul_one];apply List.ext_getElem?;intro j;rw[List.getElem?_take];split
 ·rename_i b
  rw[←h j b];simp
 ·rename_i b
  rw[List.getElem?_eq_none (by omega)]
theorem Ue{b:Bool}(h:b=true→False):b=false:=by cases b<;>simp_all
theorem PO{b:Bool}(h:b=false)(k:b=true):False:=by rw[h] at k;cases k
section
variable{F F':Nat→Prop}{B:List (Option Nat)}{w0 w w' By:World}{Z:Nat→Prop}{L M:List (Option Nat)}
theorem N1(h:Ext w w'){r:Option Nat}(g:w'.grownBy By r)(b:∀k,r=some k→w.heap.size≤k):Ext w By:=
 ⟨g.os.trans h.os,g.tape.trans h.tape,g.output.trans h.output,Nat.le_trans h.size g.size,fun k a _=>(g.block k (Nat.lt_of_lt_of_le a h.size) (fun e=>by have:=b k e.symm;omega)).trans (h.block k a (by simp))⟩
theorem IT{D:Nat→Prop}(h:Bo D w w'){r:Option Nat}(g:w'.grownBy By r)(d:∀k,r=some k→D k∨w.heap.size≤k):Bo D w By:=
 ⟨g.os.trans h.os,g.tape.trans h.tape,g.output.trans h.output,Nat.le_trans h.size g.size,fun k a b=>(g.block k (Nat.lt_of_lt_of_le a h.size) (fun e=>by
  rcases d k e.symm with c|c
  ·exact b c
  ·omega)).trans (h.block k a b)⟩
theorem HZ{x y:Option Nat}{n:Nat}(a:∀k,x=some k→n≤k)(b:n≤w'.heap.size)(c:∀k,y=some k→(x=some k∨w'.heap.size≤k)∧k<By.heap.size):∀k,y=some k→n≤k:=fun k d=>
 (c k d).1.elim (a k) (fun h=>Nat.le_trans b h)
theorem RF{x y a:Option Nat}{n:Nat}(b:∀k,x=some k→a=some k∨n≤k)(c:n≤w'.heap.size)(d:∀k,y=some k→(x=some k∨w'.heap.size≤k)∧k<By.heap.size):∀k,y=some k→a=some k∨n≤k:=fun k e=>
 (d k e).1.elim (b k) (fun h=>.inr (Nat.le_trans c h))
theorem Mb{b:Nat}{t:TypeId}{cs:Array Value}(nb:Jh w' By b t cs):∀k,ob (some ⟨b,0,none⟩)=some k→((none:Option Nat)=some k∨w'.heap.size≤k)∧k<By.heap.size:=fun k e=>by
 cases e;exact⟨.inr (Nat.le_of_eq nb.EX.symm),nb.bk.lt⟩
theorem Uf{α:Type}{e:El α}{t:TypeId}{A:Option Addr}{c:Nat}{xs:List α}{Z:Nat→Prop}(h:AJ e t w'.heap.size By Z A c xs):∀k,ob A=some k→((none:Option Nat)=some k∨w'.heap.size≤k)∧k<By.heap.size:=fun k e=>⟨.inr (h.ge k e),h.Kf k e⟩
end
def eT:El (Bool×(Option Addr×Nat)×List Int):=
 ⟨1,fun w Z cs x=>∃A c,cs=[.slice A x.2.2.length c]∧(x.1=true→A=x.2.1.1∧c=x.2.1.2)∧(x.1=false→Sl (AB .i64) w Z A c x.2.2),fun⟨_,_,h,_⟩=>by rw[h];rfl,fun⟨_,_,h,_⟩=>by rw[h];simp[Value.oneCell'],
  fun⟨A,c,a,b,d⟩ g=>⟨A,c,a,b,fun e=>(d e).mv g⟩⟩
theorem Ug{w:World}{Z:Nat→Prop}:∀{Bm:List (List Value)} {xs:List (List Int)},R2 (BD (AB .i64)) w Z Bm xs→R2 eT w Z Bm (xs.map fun x=>(false,(none,0),x))
 |[],[],_=>trivial
 |_::_,_::_,⟨⟨A,c,a,b⟩,h⟩=>⟨⟨A,c,a,fun e=>(by cases e),fun _=>b⟩,Ug h⟩
 |[],_::_,h=>h.elim
 |_::_,[],h=>h.elim
theorem Uh{w:World}{Z:Nat→Prop}:∀{Bm:List (List Value)} {xs:List (Bool×(Option Addr×Nat)×List Int)},(∀y∈xs,y.1=true→Sl (AB .i64) w Z y.2.1.1 y.2.1.2 y.2.2)→R2 eT w Z Bm xs→R2 (BD (AB .i64)) w Z Bm (xs.map fun y=>y.2.2)
  |[],[],_,_=>trivial
  |_::_,x::_,b,⟨⟨A,c,d,e,f⟩,h⟩=>⟨by
      cases a:x.1 with
      |true=>
        obtain⟨rfl,rfl⟩:=e a;exact⟨_,_,d,b x (List.mem_cons_self ..) a⟩
      |false=>exact⟨A,c,d,f a⟩,Uh (fun y g=>b y (List.mem_cons_of_mem _ g)) h⟩
  |[],_::_,_,h=>h.elim
  |_::_,[],_,h=>h.elim
theorem Vj{t n0:Nat}{w:World}{Z:Nat→Prop}{A:Option Addr}{c:Nat}{xs:List (List Int)}(h:AJ (BD (AB .i64)) t n0 w Z A c xs):AJ eT t n0 w Z A c (xs.map fun x=>(false,(none,0),x)):=by
 obtain⟨Bm,a,b⟩:=h;exact⟨Bm,Ug a,by rw[List.length_map];exact b⟩
theorem Vk{t n0:Nat}{w:World}{Z:Nat→Prop}{A:Option Addr}{c:Nat}{xs:List (Bool×(Option Addr×Nat)×List Int)}(a:∀y∈xs,y.1=true→Sl (AB .i64) w Z y.2.1.1 y.2.1.2 y.2.2)(h:AJ eT t n0 w Z A c xs):AJ (BD (AB .i64)) t n0 w Z A c (xs.map fun y=>y.2.2):=by
 obtain⟨Bm,b,d⟩:=h;exact⟨Bm,Uh a b,by rw[List.length_map];exact d⟩
def Jm (N i:Int):Nat→Int→List (List Int)→Option (List (List Int))
  |0,_,_=>none
  |a+1,k,s=>cond (decide (k<N)) (cond (k !=i) ((idx s (0:Int)).bind fun x=>(FT (((x.length+([k]:List Int).length:Nat):Int)≤140737488355328/8)).bind fun _=>(idx s (0:Int)).bind fun _=>(i64 (k+1)).bind fun _=>Jm N i a (k+1) (s.set 0 (x++[k])))
      ((i64 (k+1)).bind fun _=>Jm N i a (k+1) s)) (some s)
theorem qz{X:Ctx}{N:Nat}{a:Act}{l:Env}(st:St X N a l):(B2 a l).tmps.size=N:=(Ie _ _).trans st.sz
theorem qd{X:Ctx}{N:Nat}{a:Act}{l:Env}(st:St X N a l):(B2 a l).defers=X.ds:=(DI _ _).trans st.df
theorem sp{X:Ctx}{N:Nat}{a:Act}{l:Env}(st:St X N a l)(k:Nat){v:Value}(h:lk (sl a k) l k=v):sl (B2 a l) k=v:=(HW st k).trans h
theorem Hp.nb{F:Nat→Prop}{B L:List (Option Nat)}{w0 w w':World}{b:Nat}{t:TypeId}{cs:Array Value}(h:Hp F B w0 L w)(n:Jh w w' b t cs):Hp F B w0 (some b::L) w':=h.new n.gr (Nat.le_of_eq n.EX.symm) (Nat.lt_of_lt_of_eq (Nat.lt_succ_self _) n.sz.symm)
theorem Hp.BL{F:Nat→Prop}{B L:List (Option Nat)}{w0 w w':World}{b:Nat}{t:TypeId}{cs:Array Value}(h:Hp F B w0 L w)(n:Jh w w' b t cs):w0.heap.size≤b:=by rw[n.EX];exact h.sz
theorem Ax{F:Nat→Prop}{B L:List (Option Nat)}{Z:Nat→Prop}{w w':World}{n0 b:Nat}{t:TypeId}{cs:Array Value}(n:Jh w w' b t cs):Mv w (ZZ F B Z n0 L) w' (ZZ F B Z n0 (some b::L)):=Eh n.gr (Nat.le_of_eq n.EX.symm)
theorem X2{b c:Sort _}{p:b→c→Prop}{C:Prop}(h:∃a x1,p a x1)(k:∀a x1,p a x1→C):C:=h.elim fun a h=>h.elim fun x1 h=>k a x1 h
theorem X4{c d e f:Sort _}{p:c→d→e→f→Prop}{C:Prop}(h:∃a x1 x2 b,p a x1 x2 b)(k:∀a x1 x2 b,p a x1 x2 b→C):C:=h.elim fun a h=>h.elim fun x1 h=>h.elim fun x2 h=>h.elim fun b h=>k a x1 x2 b h
theorem Y2{a0 a1 r C:Prop}(h:a0∧a1∧r)(k:a0→a1→r→C):C:=h.elim fun a h=>h.elim fun x1 h=>k a x1 h
theorem Y4{a0 a1 a2 a3 r C:Prop}(h:a0∧a1∧a2∧a3∧r)(k:a0→a1→a2→a3→r→C):C:=h.elim fun a h=>h.elim fun x1 h=>h.elim fun x2 h=>h.elim fun b h=>k a x1 x2 b h
theorem Y8{a0 a1 a2 a3 a4 a5 a6 a r C:Prop}(h:a0∧a1∧a2∧a3∧a4∧a5∧a6∧a∧r)(k:a0→a1→a2→a3→a4→a5→a6→a→r→C):C:=h.elim fun b h=>h.elim fun x1 h=>h.elim fun x2 h=>h.elim fun c h=>h.elim fun d h=>h.elim fun e h=>h.elim fun f h=>h.elim fun g h=>k b x1 x2 c d e f g h
end Go.Proofs.YtkljfdkmjdjpfaaGreat
end
section
set_option linter.unusedVariables false
set_option linter.unusedSimpArgs false
namespace Go.Proofs.YtkljfdkmjdjpfaaGreat
open Go.RowKit Go.WideShapes
structure CK where
 Lo:Int
 Hi:Int
structure Ah where
 On:Int
 AF:Int
 Aq:Bool
structure Be where
 Au:Int
 AH:Int
 Aq:Int
 B1:Int
 Cj:Int
structure Ar where
 Am:Int
 Ak:Int
 Ao:Int
 Ay:Int
 Ad:List Be
structure AT where
 Comes:List Int
 Ao:List Bool
structure CB where
 BJ:Int
 B3:Int
 Cl:Int
 Cm:Int
 Ba:List Be
 Df:List Bool
 known:List (List Int×Ah)
structure HO where
 Cu:Int
 day:Int
structure BQ where
 a0:Int
 a1:Int
 a2:Int
 a3:Int
def BQ.set(x:BQ)(k:Nat)(v:Int):BQ:=⟨if k=0 then v else x.a0,if k=1 then v else x.a1,if k=2 then v else x.a2,if k=3 then v else x.a3⟩
def BQ.l(x:BQ):List Int:=[x.a0,x.a1,x.a2,x.a3]
theorem BQ.VU(x:BQ)(k:Nat)(v:Int)(h:k<4): #[.int .i64 (x.set k v).a0,.int .i64 (x.set k v).a1,.int .i64 (x.set k v).a2,.int .i64 (x.set k v).a3]=setCells #[.int .i64 x.a0,.int .i64 x.a1,.int .i64 x.a2,.int .i64 x.a3] k [.int .i64 v]:=by
 match k,h with
 |0,_=>rfl
 |1,_=>rfl
 |2,_=>rfl
 |3,_=>rfl
 |k+4,h=>omega
def BC:El Ah:=⟨3,fun _ _ cs x=>cs=[.int .i64 x.On,.int .i64 x.AF,.bool x.Aq],fun h=>by rw[h];rfl,fun h=>by rw[h];simp[Value.oneCell'],fun h _=>h⟩
def AP:El Be:=⟨5,fun _ _ cs x=>cs=[.int .i64 x.Au,.int .i64 x.AH,.int .i64 x.Aq,.int .i64 x.B1,.int .i64 x.Cj],fun h=>by rw[h];rfl,fun h=>by rw[h];simp[Value.oneCell'],fun h _=>h⟩
def Eu:El Ar:=⟨5,fun w Z cs x=>∃a b,cs=[.int .i64 x.Am,.int .i64 x.Ak,.int .i64 x.Ao,.int .i64 x.Ay,.slice a x.Ad.length b]∧Sl AP w Z a b x.Ad,fun⟨_,_,h,_⟩=>by rw[h];rfl,fun⟨_,_,h,_⟩=>by rw[h];simp[Value.oneCell'],fun⟨a,b,h,c⟩ g=>⟨a,b,h,c.mv g⟩⟩
def CA:El AT:=⟨2,fun w Z cs x=>∃a b c d,cs=[.slice a x.Comes.length b,.slice c x.Ao.length d]∧Sl (AB .i64) w Z a b x.Comes∧Sl Bu w Z c d x.Ao,fun⟨_,_,_,_,h,_⟩=>by rw[h];rfl,fun⟨_,_,_,_,h,_⟩=>by rw[h];simp[Value.oneCell'],fun⟨a,b,c,d,h,h0,e⟩ g=>⟨a,b,c,d,h,h0.mv g,e.mv g⟩⟩
def O1:El CK:=⟨2,fun _ _ cs x=>cs=[.int .i64 x.Lo,.int .i64 x.Hi],fun h=>by rw[h];rfl,fun h=>by rw[h];simp[Value.oneCell'],fun h _=>h⟩
def Vl:El BQ:=⟨4,fun _ _ cs x=>cs=[.int .i64 x.a0,.int .i64 x.a1,.int .i64 x.a2,.int .i64 x.a3],fun h=>by rw[h];rfl,fun h=>by rw[h];simp[Value.oneCell'],fun h _=>h⟩
def Mc(w:World)(Z:Nat→Prop)(q:Nat)(o:Option Nat):Option CB→Prop
 |none=>Bk w q 162 #[.pointer none]∧o=none
 |some x=>∃(b r:Nat) (a:Option Addr) (c:Nat) (d:Option Addr) (e:Nat),Bk w q 162 #[pt b 0]∧Rz w Z (some ⟨b,0,none⟩) [I x.BJ,I x.B3,I x.Cl,I x.Cm,.slice a x.Ba.length c,.slice d x.Df.length e,.map (some r)]∧Sl AP w Z a c x.Ba∧Sl Bu w Z d e x.Df∧Cs (fun x:Ah=>.agg #[I x.On,I x.AF,.bool x.Aq]) w r 2 x.known∧o=some r
theorem Mc.keep{w w':World}{Z Z':Nat→Prop}{q:Nat}{o:Option Nat}:∀{x:Option CB},Mc w Z q o x→Mv w Z w' Z'→w'.heap[q]?=w.heap[q]?→(∀k,o=some k→w'.heap[k]?=w.heap[k]?)→Mc w' Z' q o x
 |none,h,_,a,_=>⟨h.1.Gd a,h.2⟩
 |some x,⟨b,r,e,f,g,i,j,l,h0,m,hm,d⟩,c,a,n=>⟨b,r,e,f,g,i,j.Gd a,l.mv c,h0.mv c,m.mv c,hm.Gd (n r d),d⟩
end Go.Proofs.YtkljfdkmjdjpfaaGreat
end
section
set_option linter.unusedVariables false
set_option linter.unusedSimpArgs false
namespace Go.Proofs.YtkljfdkmjdjpfaaGreat
open Go.RowKit Go.WideShapes
def Ez(d:Nat)(a:Int)(b:Int)(c:Int):Option (Bool):=
 cond (decide (b≤a)) (some (decide (a≤c))) (some (false))
def Fq(b:Nat)(a:CK):Option (Int):=
 (i64 (a.Hi-a.Lo)).bind fun _=>(i64 ((a.Hi-a.Lo)+1)).bind fun _=>some ((a.Hi-a.Lo)+1)
def G9(c:Nat)(a:CK)(b:Int):Option (Bool):=
 cond (decide ((0:Int)≤a.Lo)) (cond (decide (a.Lo≤a.Hi)) (some (decide (a.Hi≤b))) (some (false))) (some (false))
def GY(a:Nat)(b:Int):Option (Bool):=
 (Ez a b 1 5).bind fun r1=>some (r1)
def Di(d:Nat)(a:Int)(b:Int)(c:Int):Option (Bool):=
 cond (decide (b≤a)) (some (decide (a≤c))) (some (false))
def Ev(b:Nat)(a:CK):Option (Int):=
 (i64 (a.Hi-a.Lo)).bind fun _=>(i64 ((a.Hi-a.Lo)+1)).bind fun _=>some ((a.Hi-a.Lo)+1)
def DW(c:Nat)(b:Int)(a:Int):Option (Bool):=
 (L4 .u64 a).bind fun _=>(NW b a).bind fun _=>(rem (FE b a) (2:Int)).bind fun _=>some (((FE b a)%2)==1)
def E3(d:Nat)(a:Int)(b:Int)(c:Bool):Option (Ah):=
 some ((⟨a,b,c⟩:Ah))
def F3(b:Nat)(a:Ar)(c:Int):Option (Bool):=
 (i64 ((a.Ad.length:Int)-1)).bind fun _=>(Ez b c 0 ((a.Ad.length:Int)-1)).bind fun d=>some (d)
def Dj(c:Nat)(b:Be)(a:Ah):Option (Bool):=
 cond (a.Aq) (some (decide (a.AF≤b.Cj))) (some (false))
def Ew(a:Nat)(b:Be)(c:Ah):Option (Bool):=
 (Dj a b c).bind fun d=>some (!d)
end Go.Proofs.YtkljfdkmjdjpfaaGreat
end
section
set_option linter.unusedVariables false
set_option linter.unusedSimpArgs false
namespace Go.Proofs.YtkljfdkmjdjpfaaGreat
open Go.RowKit Go.WideShapes
def Cy(e:Nat)(c:Ar)(f:Int)(b:Int):Nat→Bool→Int→Option (Bool)
 |0,_,_=>none
 |g+1,d,a=>(i64 (b+c.Ay)).bind fun _=>cond (decide (a≤(b+c.Ay))) (cond (d) (cond (decide (a≤c.Am)) ((DW e f a).bind fun h=>(i64 (a+1)).bind fun _=>Cy e c f b g h (a+1)) ((i64 (a+1)).bind fun _=>Cy e c f b g false (a+1))) ((i64 (a+1)).bind fun _=>Cy e c f b g false (a+1))) (some (d))
def Cv(e:Nat)(d:Ar)(f:Int)(b:Int):Nat→Bool→Int→Option (Bool)
 |0,_,_=>none
 |g+1,c,a=>(i64 (b+d.Ay)).bind fun _=>cond (decide (a≤(b+d.Ay))) (cond (c) (cond (decide (a≤d.Am)) ((DW e f a).bind fun h=>(i64 (a+1)).bind fun _=>Cv e d f b g h (a+1)) ((i64 (a+1)).bind fun _=>Cv e d f b g false (a+1))) ((i64 (a+1)).bind fun _=>Cv e d f b g false (a+1))) (some (c))
def CM(c:Nat)(d:Ar)(e:Int):Nat→Int→Int→Option ((Bool)⊕(Int))
 |0,_,_=>none
 |f+1,b,a=>cond (decide (a≤d.Am)) ((DW c e a).bind fun g=>cond (g) ((i64 (b+1)).bind fun _=>(Cy c d e a c true a).bind fun h=>cond (h) (some (.inl false)) ((i64 (a+1)).bind fun _=>CM c d e f (b+1) (a+1))) ((Cv c d e a c true a).bind fun z20=>cond (z20) (some (.inl false)) ((i64 (a+1)).bind fun _=>CM c d e f b (a+1)))) (some (.inr b))
def Ed(b:Nat)(c:Ar)(d:Int):Option (Bool):=
 (CM b c d b (0:Int) (0:Int)).bind fun z=>Sum.elim (fun a=>some (a)) (fun a=>some (decide (a≤c.Ao))) z
def CR(d:Nat)(c:Ar):Nat→(List Int)→Int→Option ((List Int))
 |0,_,_=>none
 |e+1,b,a=>(i64 (c.Am+1)).bind fun _=>(L4 .u64 (c.Am+1)).bind fun _=>(Jl (1:Int) (c.Am+1)).bind fun _=>cond (decide (a<(Fw (1:Int) (c.Am+1)))) ((Ed d c a).bind fun f=>cond (f) ((FT (((b.length+[a].length:Nat):Int)≤140737488355328/8)).bind fun _=>(i64 (a+1)).bind fun _=>CR d c e (b++[a]) (a+1)) ((i64 (a+1)).bind fun _=>CR d c e b (a+1))) (some (b))
def Ej(a:Nat)(b:Ar):Option ((List Int)):=
 (CR a b a ([]:List Int) (0:Int)).bind fun z2=>some (z2)
def DZ(d:Nat)(c:Ar):Nat→Int→Int→Option (Int)
 |0,_,_=>none
 |g+1,b,a=>cond (decide (a<(c.Ad.length:Int))) ((idx c.Ad a).bind fun e=>(Ev d (⟨e.Au,e.AH⟩:CK)).bind fun f=>(i64 (b*f)).bind fun _=>(i64 (a+1)).bind fun _=>DZ d c g (min (3000:Int) (b*f)) (a+1)) (some (b))
def DE(a:Nat)(b:Ar):Option (Int):=
 (Ej a b).bind fun r2=>(DZ a b a (r2.length:Int) (0:Int)).bind fun z4=>some (z4)
def Dv(d:Nat)(c:Ar):Nat→Int→Option ((Int)⊕(Unit))
 |0,_=>none
 |h+1,a=>cond (decide (a<(c.Ad.length:Int))) ((idx c.Ad a).bind fun b=>cond (decide (b.Au<0)) (some (.inl (1:Int))) (cond (decide (b.AH<b.Au)) (some (.inl (1:Int))) (cond (decide (c.Am<b.AH)) (some (.inl (1:Int))) ((Di d b.Aq 1 5).bind fun e=>cond (!e) (some (.inl (1:Int))) ((Di d b.B1 1 5).bind fun f=>cond (!f) (some (.inl (1:Int))) ((Di d b.Cj 0 c.Am).bind fun g=>cond (!g) (some (.inl (1:Int))) ((i64 (a+1)).bind fun _=>Dv d c h (a+1)))))))) (some (.inr ()))
def EI(b:Nat)(a:Ar):Option (Int):=
 cond (decide ((9:Int)<a.Am)) (some (3)) (cond (decide ((2:Int)<a.Ak)) (some (3)) (cond (decide ((4:Int)<(a.Ad.length:Int))) (some (3)) (cond (decide (a.Am<0)) (some (1)) (cond (decide (a.Ak<1)) (some (1)) ((i64 (a.Am+1)).bind fun _=>(Di b a.Ao 0 (a.Am+1)).bind fun f=>cond (!f) (some (1)) ((i64 (a.Am+1)).bind fun _=>(Di b a.Ay 0 (a.Am+1)).bind fun d=>cond (!d) (some (1)) ((Dv b a b (0:Int)).bind fun z=>Sum.elim (fun c=>some (c)) (fun c=>(DE b a).bind fun e=>cond (decide ((1000:Int)<e)) (some (3)) (some (0))) z)))))))
def Fj(b:Nat)(c:Ar)(a:Be):Option (Bool):=
 (G9 b (⟨a.Au,a.AH⟩:CK) c.Am).bind fun e=>cond (e) ((GY b a.Aq).bind fun f=>cond (f) ((GY b a.B1).bind fun g=>cond (g) ((Ez b a.Cj 0 c.Am).bind fun d=>some (d)) (some (false))) (some (false))) (some (false))
def D0(b:List Int)(c:List Int):Nat→Int→Option ((Bool)⊕(Unit))
 |0,_=>none
 |d+1,a=>cond (decide (a<(b.length:Int))) ((idx b a).bind fun e=>(idx c a).bind fun f=>cond (e !=f) (some (.inl false)) ((i64 (a+1)).bind fun _=>D0 b c d (a+1))) (some (.inr ()))
def FO(d:Nat)(b:List Int)(c:List Int):Option (Bool):=
 cond ((b.length:Int) !=(c.length:Int)) (some (false)) ((D0 b c d (0:Int)).bind fun z=>Sum.elim (fun a=>some (a)) (fun a=>some (true)) z)
def CN(b:Nat)(a:Int):Option (Ar):=
 some ((⟨5,1,a,1,[(⟨0,0,2,2,2⟩:Be),(⟨1,1,2,1,5⟩:Be)]⟩:Ar))
def GB(b:Nat)(a:Int):Option (AT):=
 (KB (6:Int) 1).bind fun _=>(idx (List.replicate (6:Int).toNat false) a).bind fun c=>some ((⟨[0,1],(List.replicate (6:Int).toNat false).set a.toNat true⟩:AT))
def GC(f:Nat)(a:List Ah)(b:Ah)(c:Ah):Option (Bool):=
 cond ((a.length:Int)==2) ((idx a (0:Int)).bind fun d=>cond (HM [.inl d.On,.inl d.AF,.inr d.Aq] [.inl b.On,.inl b.AF,.inr b.Aq]) ((idx a (1:Int)).bind fun e=>some (HM [.inl e.On,.inl e.AF,.inr e.Aq] [.inl c.On,.inl c.AF,.inr c.Aq])) (some (false))) (some (false))
def GS(b:Nat)(a:CK):Option (CK):=
 some (a)
def D1(f:Nat)(e:Ar):Nat→Int→(List Be)→Option ((List Be))
 |0,_,_=>none
 |g+1,b,a=>cond (decide (b<(e.Ad.length:Int))) ((idx e.Ad b).bind fun c=>(GS f (⟨c.Au,c.AH⟩:CK)).bind fun d=>(FT (((a.length+[(⟨d.Lo,d.Hi,c.Aq,c.B1,c.Cj⟩:Be)].length:Nat):Int)≤140737488355328/40)).bind fun _=>(i64 (b+1)).bind fun _=>D1 f e g (b+1) (a++[(⟨d.Lo,d.Hi,c.Aq,c.B1,c.Cj⟩:Be)])) (some (a))
def CO(b:Nat)(a:Ar):Option (Ar):=
 (D1 b a b (0:Int) ([]:List Be)).bind fun z5=>some ((⟨a.Am,a.Ak,a.Ao,a.Ay,z5⟩:Ar))
def Fz(a:Nat)(b:Ar):Option (Int):=
 (EI a b).bind fun r2=>some (r2)
def FP(b:Nat)(a:Ar):Option (Bool):=
 cond (decide ((a.Ad.length:Int)≤6)) ((EI b a).bind fun c=>cond (c !=0) (some (true)) ((DE b a).bind fun d=>some (decide (d≤60)))) (some (false))
end Go.Proofs.YtkljfdkmjdjpfaaGreat
end
section
set_option linter.unusedVariables false
set_option linter.unusedSimpArgs false
namespace Go.Proofs.YtkljfdkmjdjpfaaGreat
open Go.RowKit Go.WideShapes
def E0{a:Type}(e:Nat)(b:a→Be→Option (Bool×a))(c:Be)(d:a):Option (Bool×a):=
 (b d c).bind fun r2=>some ((!r2.1,r2.2))
def Dc{c:Type}(d:c→Be→Option (Bool×c))(e:List Be):Nat→Int→c→Option ((Int×c)⊕(c))
 |0,_,_=>none
 |g+1,a,b=>cond (decide (a<(e.length:Int))) ((idx e a).bind fun h=>(d b h).bind fun f=>cond (f.1) (some (.inl (a,f.2))) ((i64 (a+1)).bind fun _=>Dc d e g (a+1) f.2)) (some (.inr b))
def FL{b:Type}(d:Nat)(c:b→Be→Option (Bool×b))(e:List Be)(f:b):Option (Int×b):=
 (Dc c e d (0:Int) f).bind fun z=>Sum.elim (fun a=>some ((a.1,a.2))) (fun a=>some (((-1),a))) z
def Ff{a:Type}(c:Nat)(b:a→Be→Option (Bool×a))(d:List Be)(e:a):Option (Bool×a):=
 (FL c b d e).bind fun r1=>some ((decide ((0:Int)≤r1.1),r1.2))
def GH{a:Type}(b:Nat)(c:a→Be→Option (Bool×a))(d:List Be)(e:a):Option (Bool×a):=
 (Ff b (fun(st:a) (x:Be)=>(E0 b c x st).bind fun r=>some (r.1,r.2)) d e).bind fun r2=>some ((!r2.1,r2.2))
def EG{a:Type}(e:Nat)(b:a→Bool→Option (Bool×a))(c:Bool)(d:a):Option (Bool×a):=
 (b d c).bind fun r1=>some ((!r1.1,r1.2))
def C4{c:Type}(d:c→Bool→Option (Bool×c))(e:List Bool):Nat→Int→c→Option ((Int×c)⊕(c))
 |0,_,_=>none
 |g+1,a,b=>cond (decide (a<(e.length:Int))) ((idx e a).bind fun h=>(d b h).bind fun f=>cond (f.1) (some (.inl (a,f.2))) ((i64 (a+1)).bind fun _=>C4 d e g (a+1) f.2)) (some (.inr b))
def Fy{b:Type}(d:Nat)(c:b→Bool→Option (Bool×b))(e:List Bool)(f:b):Option (Int×b):=
 (C4 c e d (0:Int) f).bind fun z=>Sum.elim (fun a=>some ((a.1,a.2))) (fun a=>some (((-1),a))) z
def ET{a:Type}(c:Nat)(b:a→Bool→Option (Bool×a))(d:List Bool)(e:a):Option (Bool×a):=
 (Fy c b d e).bind fun r1=>some ((decide ((0:Int)≤r1.1),r1.2))
def Gq{a:Type}(b:Nat)(c:a→Bool→Option (Bool×a))(d:List Bool)(e:a):Option (Bool×a):=
 (ET b (fun(st:a) (x:Bool)=>(EG b c x st).bind fun r=>some (r.1,r.2)) d e).bind fun r2=>some ((!r2.1,r2.2))
def D2(e:Nat)(d:Bool)(b:Int)(a:Int)(c:Ar):Option (Bool×Int×Int):=
 cond (!d) (some ((true,0,a))) ((i64 (a+1)).bind fun _=>(i64 (b+1)).bind fun _=>cond (decide ((a+1)≤c.Ao)) (some ((decide ((b+1)≤c.Ay),b+1,a+1))) (some ((false,b+1,a+1))))
def EJ(a:Nat)(b:Ar)(c:List Bool):Option (Bool):=
 (Gq a (fun(st:Int×Int) (x:Bool)=>(D2 a x st.1 st.2 b).bind fun r=>some (r.1,(r.2.1,r.2.2))) c (0,0)).bind fun d=>some (d.1)
end Go.Proofs.YtkljfdkmjdjpfaaGreat
end
section
set_option linter.unusedVariables false
set_option linter.unusedSimpArgs false
namespace Go.Proofs.YtkljfdkmjdjpfaaGreat
open Go.RowKit Go.WideShapes
def EK(c:List Int):Nat→Int→Int→Option (Int)
 |0,_,_=>none
 |d+1,b,a=>cond (decide (a<(c.length:Int))) ((idx c a).bind fun e=>(i64 (a+1)).bind fun _=>EK c d (min b e) (a+1)) (some (b))
def GU(b:Nat)(a:List Int):Option (Int):=
 cond (decide ((a.length:Int)<1)) (none) ((idx a (0:Int)).bind fun x2=>(EK a b x2 (1:Int)).bind fun z3=>some (z3))
def GI(a:Nat)(b:List Int):Option (Int):=
 (GU a b).bind fun r1=>some (r1)
def CS(b:Int)(d:List Bool):Nat→Int→(List Bool)→Option ((List Bool))
 |0,_,_=>none
 |e+1,a,c=>cond (decide (a<(d.length:Int))) ((NW b a).bind fun _=>(rem (FE b a) (2:Int)).bind fun _=>(idx c a).bind fun f=>(i64 (a+1)).bind fun _=>CS b d e (a+1) (c.set a.toNat (((FE b a)%2)==1))) (some (c))
def CT{c:Type}(d:c→(List Bool)→Option (Bool×c))(g:Nat)(h:Ar):Nat→Int→(List Bool)→c→Option ((c)⊕(c))
 |0,_,_,_=>none
 |j+1,a,e,b=>cond (decide (a<(Fw (1:Int) ((List.replicate (h.Am+1).toNat false).length:Int)))) ((CS a e g (0:Int) e).bind fun i=>(EJ g h i).bind fun k=>cond (k) ((d b i).bind fun f=>cond (!f.1) (some (.inl f.2)) ((i64 (a+1)).bind fun _=>CT d g h j (a+1) i f.2)) ((i64 (a+1)).bind fun _=>CT d g h j (a+1) i b)) (some (.inr b))
def DJ{c:Type}(d:Nat)(e:c→(List Bool)→Option (Bool×c))(a:Ar)(f:c):Option (c):=
 (i64 (a.Am+1)).bind fun _=>(KB (a.Am+1) 1).bind fun _=>(Jl (1:Int) ((List.replicate (a.Am+1).toNat false).length:Int)).bind fun _=>(CT e d a d (0:Int) (List.replicate (a.Am+1).toNat false) f).bind fun z=>Sum.elim (fun b=>some (b)) (fun b=>some (b)) z
end Go.Proofs.YtkljfdkmjdjpfaaGreat
end
section
set_option linter.unusedVariables false
set_option linter.unusedSimpArgs false
namespace Go.Proofs.YtkljfdkmjdjpfaaGreat
open Go.RowKit Go.WideShapes
def Fk(a:Int)(b:(List Bool)):Option (Bool×Int):=
 (i64 (a+1)).bind fun _=>some (true,a+1)
def Ee(e:Nat)(f:Ar):Nat→Int→Int→Option (Int)
 |0,_,_=>none
 |h+1,b,a=>cond (decide (b<(f.Ad.length:Int))) ((idx f.Ad b).bind fun c=>(Fq e (⟨c.Au,c.AH⟩:CK)).bind fun d=>(i64 (a*d)).bind fun _=>(GI e [a*d,1001]).bind fun g=>(i64 (b+1)).bind fun _=>Ee e f h (b+1) g) (some (a))
def DK(b:Nat)(a:Ar):Option (Int):=
 cond (decide ((9:Int)<a.Am)) (some (3)) (cond (decide ((2:Int)<a.Ak)) (some (3)) (cond (decide ((4:Int)<(a.Ad.length:Int))) (some (3)) (cond (decide (a.Am<0)) (some (1)) (cond (decide (a.Ak<1)) (some (1)) ((i64 (a.Am+1)).bind fun _=>(Ez b a.Ao 0 (a.Am+1)).bind fun g=>cond (!g) (some (1)) ((i64 (a.Am+1)).bind fun _=>(Ez b a.Ay 0 (a.Am+1)).bind fun c=>cond (!c) (some (1)) ((GH b (fun(st:Unit) (x:Be)=>(Fj b a x).bind fun r=>some (r,())) a.Ad ()).bind fun d=>cond (!d.1) (some (1)) ((DJ b (fun(st:Int) (x:(List Bool))=>Fk st x) a (0:Int)).bind fun e=>(Ee b a b (0:Int) e).bind fun f=>cond (decide ((1000:Int)<f)) (some (3)) (some (0))))))))))
end Go.Proofs.YtkljfdkmjdjpfaaGreat
end
section
set_option linter.unusedVariables false
set_option linter.unusedSimpArgs false
namespace Go.Proofs.YtkljfdkmjdjpfaaGreat
open Go.RowKit Go.WideShapes
def Ch{f:Type}(g:Int→(List Int)→(List Bool)→Ar→f→Option (Bool×(List Int)×f))(e:Int)(j:List Bool)(i:Ar)(k:Int):Nat→Int→(List Int)→f→Option ((Bool×(List Int)×f)⊕((List Int)×f))
 |0,_,_,_=>none
 |l+1,a,b,d=>cond (decide (a<k)) ((idx i.Ad e).bind fun h=>(i64 (h.Au+a)).bind fun _=>(idx b e).bind fun m=>(i64 (e+1)).bind fun _=>(g (e+1) (b.set e.toNat (h.Au+a)) j i d).bind fun c=>cond (!c.1) (some (.inl (false,c.2.1,c.2.2))) ((i64 (a+1)).bind fun _=>Ch g e j i k l (a+1) c.2.1 c.2.2)) (some (.inr (b,d)))
def BT{b:Type}(e:Nat)(d:b→AT→Option (Bool×b)):Nat→Int→(List Int)→(List Bool)→Ar→b→Option (Bool×(List Int)×b)
 |0,_,_,_,_,_=>none
 |k+1,f,c,g,h,i=>cond (f==(c.length:Int)) ((d i (⟨c,g⟩:AT)).bind fun r2=>some ((r2.1,c,r2.2))) ((idx h.Ad f).bind fun j=>(Fq e (⟨j.Au,j.AH⟩:CK)).bind fun l=>(Ch (BT e d k) f g h l e (0:Int) c i).bind fun z=>Sum.elim (fun a=>some ((a.1,a.2.1,a.2.2))) (fun a=>some ((true,a.1,a.2))) z)
end Go.Proofs.YtkljfdkmjdjpfaaGreat
end
section
set_option linter.unusedVariables false
set_option linter.unusedSimpArgs false
namespace Go.Proofs.YtkljfdkmjdjpfaaGreat
open Go.RowKit Go.WideShapes
def Dw{c:Type}(e:c→AT→Option (Bool×c))(f:Nat)(g:Ar)(b:List Int)(d:c)(h:(List Bool)):Option (Bool×((List Int)×c×Bool)):=
 (BT f e f 0 b h g d).bind fun a=>cond (!a.1) (some (false,a.2.1,a.2.2,true)) (some (true,a.2.1,a.2.2,false))
def Fl{a:Type}(d:Nat)(e:a→AT→Option (Bool×a))(b:Ar)(f:a):Option (a):=
 (KB (b.Ad.length:Int) 8).bind fun _=>(DJ d (fun(st:(List Int)×a×Bool) (x:(List Bool))=>cond st.2.2 none (Dw e d b st.1 st.2.1 x)) b (List.replicate (b.Ad.length:Int).toNat (0:Int),f,false)).bind fun c=>cond (c.2.2) (some (c.2.1)) (some (c.2.1))
end Go.Proofs.YtkljfdkmjdjpfaaGreat
end
section
set_option linter.unusedVariables false
set_option linter.unusedSimpArgs false
namespace Go.Proofs.YtkljfdkmjdjpfaaGreat
open Go.RowKit Go.WideShapes
def DL(b:List Bool)(c:List Bool):Nat→Int→Option ((Bool)⊕(Unit))
 |0,_=>none
 |d+1,a=>cond (decide (a<(b.length:Int))) ((idx b a).bind fun e=>(idx c a).bind fun f=>cond (e !=f) (some (.inl false)) ((i64 (a+1)).bind fun _=>DL b c d (a+1))) (some (.inr ()))
def EL(d:Nat)(b:List Bool)(c:List Bool):Option (Bool):=
 cond ((b.length:Int) !=(c.length:Int)) (some (false)) ((DL b c d (0:Int)).bind fun z=>Sum.elim (fun a=>some (a)) (fun a=>some (true)) z)
def Dx(d:Nat)(c:Ar)(e:AT):Nat→Int→Option ((Bool)⊕(Unit))
 |0,_=>none
 |h+1,a=>cond (decide (a<(c.Ad.length:Int))) ((idx c.Ad a).bind fun b=>(idx e.Comes a).bind fun f=>(Ez d f b.Au b.AH).bind fun g=>cond (!g) (some (.inl false)) ((i64 (a+1)).bind fun _=>Dx d c e h (a+1))) (some (.inr ()))
def FA(d:Nat)(a:Ar)(c:AT):Option (Bool):=
 cond ((c.Comes.length:Int) !=(a.Ad.length:Int)) (some (false)) ((i64 (a.Am+1)).bind fun _=>cond ((c.Ao.length:Int) !=(a.Am+1)) (some (false)) ((EJ d a c.Ao).bind fun e=>cond (!e) (some (false)) ((Dx d a c d (0:Int)).bind fun z=>Sum.elim (fun b=>some (b)) (fun b=>some (true)) z)))
def Eb(i:CB)(h:HO)(f:Be):Nat→Int→Int→Int→Int→Int→Bool→Option ((Int×Int×Bool)⊕(Int×Int×Bool))
 |0,_,_,_,_,_,_=>none
 |j+1,b,g,a,c,d,e=>cond (decide (a≤i.BJ)) ((idx i.Df a).bind fun k=>cond (k) ((i64 (g+1)).bind fun _=>cond (b==f.Aq) (some (.inl (h.day,a,b==f.Aq))) (cond ((g+1)==f.B1) (some (.inl (h.day,a,b==f.Aq))) ((i64 (a+1)).bind fun _=>Eb i h f j b (g+1) (a+1) c d e))) ((i64 (b+1)).bind fun _=>cond ((b+1)==f.Aq) (some (.inl (h.day,a,(b+1)==f.Aq))) (cond ((0:Int)==f.B1) (some (.inl (h.day,a,(b+1)==f.Aq))) ((i64 (a+1)).bind fun _=>Eb i h f j (b+1) (0:Int) (a+1) c d e)))) (some (.inr (c,d,e)))
def FV(d:Nat)(c:CB)(b:HO):Option (Ah):=
 cond (decide (c.BJ<b.day)) (some ((⟨(-1),(-1),false⟩:Ah))) ((idx c.Ba b.Cu).bind fun e=>(Eb c b e d (0:Int) (0:Int) b.day (0:Int) (0:Int) false).bind fun z=>Sum.elim (fun a=>some ((⟨a.1,a.2.1,a.2.2⟩:Ah))) (fun a=>some ((⟨b.day,(-1),false⟩:Ah))) z)
def FG(d:Nat)(b:CB)(a:HO):Option (Ah×(List (List Int×Ah))):=
 cond (!((BI b.known [a.Cu,a.day]).isSome)) ((FV d b a).bind fun c=>some ((c,HL b.known [a.Cu,a.day] c))) (some ((((BI b.known [a.Cu,a.day]).getD (⟨0,0,false⟩:Ah)),b.known)))
def DR(i:Nat)(c:CB)(j:List Int)(g:List Int):Nat→Int→Int→(List Ah)→(List (List Int×Ah))→Option ((List Ah)×(List (List Int×Ah)))
 |0,_,_,_,_=>none
 |k+1,h,a,d,e=>cond (decide (a<(g.length:Int))) ((idx g a).bind fun f=>(idx j f).bind fun l=>(FG i (⟨c.BJ,c.B3,c.Cl,c.Cm,c.Ba,c.Df,e⟩:CB) (⟨f,max h l⟩:HO)).bind fun b=>(idx d f).bind fun m=>(i64 (b.1.AF+1)).bind fun _=>cond (b.1.AF==(-1)) ((i64 (c.BJ+1)).bind fun _=>(i64 (a+1)).bind fun _=>DR i c j g k (c.BJ+1) (a+1) (d.set f.toNat b.1) b.2) ((i64 (a+1)).bind fun _=>DR i c j g k (b.1.AF+1) (a+1) (d.set f.toNat b.1) b.2)) (some ((d,e)))
def Dp(d:Nat)(f:CB)(e:List (List Int))(g:List Int):Nat→Int→(List Ah)→(List (List Int×Ah))→Option ((List Ah)×(List (List Int×Ah)))
 |0,_,_,_=>none
 |i+1,a,c,b=>cond (decide (a<(e.length:Int))) ((idx e a).bind fun j=>(DR d f g j d (0:Int) (0:Int) c b).bind fun h=>(i64 (a+1)).bind fun _=>Dp d f e g i (a+1) h.1 h.2) (some ((c,b)))
def C5(b:Nat)(a:CB)(c:List (List Int))(d:List Int):Option ((List Ah)×(List (List Int×Ah))):=
 (KB (a.Ba.length:Int) 24).bind fun _=>(Dp b a c d b (0:Int) (List.replicate (a.Ba.length:Int).toNat (⟨0,0,false⟩:Ah)) a.known).bind fun z3=>some ((z3.1,z3.2))
end Go.Proofs.YtkljfdkmjdjpfaaGreat
end
section
set_option linter.unusedVariables false
set_option linter.unusedSimpArgs false
namespace Go.Proofs.YtkljfdkmjdjpfaaGreat
open Go.RowKit Go.WideShapes
def DM(c:List (List Int)):Nat→(List Int)→Int→Option ((List Int))
 |0,_,_=>none
 |e+1,b,a=>cond (decide (a<(c.length:Int))) ((idx c a).bind fun d=>(FT (((b.length+d.length:Nat):Int)≤140737488355328/8)).bind fun _=>(i64 (a+1)).bind fun _=>DM c e (b++d) (a+1)) (some (b))
def Dy(b:Ar)(z2:(List Int)):Nat→Int→Option ((Bool)⊕(Unit))
 |0,_=>none
 |d+1,a=>cond (decide (a<(b.Ad.length:Int))) (cond (((De z2).length:Int) !=(b.Ad.length:Int)) (some (.inl false)) ((idx (De z2) a).bind fun c=>cond (c !=a) (some (.inl false)) ((i64 (a+1)).bind fun _=>Dy b z2 d (a+1)))) (some (.inr ()))
def Eo(c:Nat)(b:Ar)(d:List (List Int)):Option (Bool):=
 (DM d c ([]:List Int) (0:Int)).bind fun z2=>(FT ((z2.length:Int)≤100000)).bind fun _=>(Dy b z2 c (0:Int)).bind fun z=>Sum.elim (fun a=>some (a)) (fun a=>cond ((d.length:Int)==b.Ak) (some (((De z2).length:Int)==(b.Ad.length:Int))) (some (false))) z
def Gw(b:Nat)(a:Ar)(d:List (List Int))(c:AT):Option ((List Ah)×Int):=
 (DK b a).bind fun e=>cond (e !=0) (some ((([]:List Ah),e))) ((Eo b a d).bind fun h=>cond (!h) (some ((([]:List Ah),2))) ((FA b a c).bind fun f=>cond (!f) (some ((([]:List Ah),2))) ((C5 b (⟨a.Am,a.Ak,a.Ao,a.Ay,a.Ad,c.Ao,[]⟩:CB) d c.Comes).bind fun g=>some ((g.1,0)))))
end Go.Proofs.YtkljfdkmjdjpfaaGreat
end
section
set_option linter.unusedVariables false
set_option linter.unusedSimpArgs false
namespace Go.Proofs.YtkljfdkmjdjpfaaGreat
open Go.RowKit Go.WideShapes
def DS(d:Nat)(e:Ar)(c:List Ah):Nat→Int→Int→Option (Int)
 |0,_,_=>none
 |f+1,b,a=>cond (decide (a<(c.length:Int))) ((idx c a).bind fun i=>(idx e.Ad a).bind fun g=>(Ew d g i).bind fun h=>cond (h) ((i64 (b+1)).bind fun _=>(i64 (a+1)).bind fun _=>DS d e c f (b+1) (a+1)) ((i64 (a+1)).bind fun _=>DS d e c f b (a+1))) (some (b))
def E1(a:Nat)(b:Ar)(c:List Ah):Option (Int):=
 (DS a b c a (0:Int) (0:Int)).bind fun z4=>some (z4)
def E4(d:Nat)(a:AT)(e:List Ah)(b:Ar)(c:Int)(f:AT):Option (Bool×Int×AT):=
 (E1 d b e).bind fun r2=>cond (decide (c<r2)) ((FT (((0+a.Comes.length:Nat):Int)≤140737488355328/8)).bind fun _=>(FT (((0+a.Ao.length:Nat):Int)≤140737488355328/1)).bind fun _=>some ((decide (r2<(b.Ad.length:Int)),r2,a))) (some ((decide (c<(b.Ad.length:Int)),c,f)))
def CP{j:Type}(h:j→(Be×Ah)→Option (Bool×j))(k:List Ah)(l:Ar):Nat→Int→Int→Int→Int→Int→j→Option (Int×Int×Int×Int×j)
 |0,_,_,_,_,_,_=>none
 |m+1,a,b,c,d,e,g=>cond (decide (a<(k.length:Int))) ((idx k a).bind fun o=>(idx l.Ad a).bind fun n=>(h g (n,o)).bind fun i=>cond (i.1) ((idx ([b,c,d,e]:List Int) a).bind fun f=>(i64 (f+1)).bind fun _=>(idx ([b,c,d,e]:List Int) a).bind fun p=>(i64 (a+1)).bind fun _=>CP h k l m (a+1) (((⟨b,c,d,e⟩:BQ).set a.toNat (f+1)).a0) (((⟨b,c,d,e⟩:BQ).set a.toNat (f+1)).a1) (((⟨b,c,d,e⟩:BQ).set a.toNat (f+1)).a2) (((⟨b,c,d,e⟩:BQ).set a.toNat (f+1)).a3) i.2) ((i64 (a+1)).bind fun _=>CP h k l m (a+1) b c d e i.2)) (some ((b,c,d,e,g)))
def C7{a:Type}(e:Nat)(c:a→(Be×Ah)→Option (Bool×a))(i:AT)(f:List Ah)(d:Int)(g:Ar)(b:BQ)(h:a):Option (Bool×Int×BQ×a):=
 (i64 (d+1)).bind fun _=>(CP c f g e (0:Int) b.a0 b.a1 b.a2 b.a3 h).bind fun z4=>some ((true,d+1,(⟨z4.1,z4.2.1,z4.2.2.1,z4.2.2.2.1⟩:BQ),z4.2.2.2.2))
end Go.Proofs.YtkljfdkmjdjpfaaGreat
end
section
set_option linter.unusedVariables false
set_option linter.unusedSimpArgs false
namespace Go.Proofs.YtkljfdkmjdjpfaaGreat
open Go.RowKit Go.WideShapes
def DT{m:Type}(f:m→(AT×(List Ah))→Option (Bool×m))(n:Nat)(a:Ar)(o:List (List Int))(e:Option CB)(d:m)(c:AT):Option (Bool×((Option CB)×m×Bool)):=
 Option.elim e ((FT (((0+c.Ao.length:Nat):Int)≤140737488355328/1)).bind fun _=>(C5 n (⟨a.Am,a.Ak,a.Ao,a.Ay,a.Ad,c.Ao,[]⟩:CB) o c.Comes).bind fun g=>(f d (c,g.1)).bind fun h=>cond (!h.1) (some (false,(some (⟨a.Am,a.Ak,a.Ao,a.Ay,a.Ad,c.Ao,g.2⟩:CB)),h.2,true)) (some (true,(some (⟨a.Am,a.Ak,a.Ao,a.Ay,a.Ad,c.Ao,g.2⟩:CB)),h.2,false))) (fun b=>(EL n b.Df c.Ao).bind fun p=>cond (!p) ((FT (((0+c.Ao.length:Nat):Int)≤140737488355328/1)).bind fun _=>(C5 n (⟨a.Am,a.Ak,a.Ao,a.Ay,a.Ad,c.Ao,[]⟩:CB) o c.Comes).bind fun i=>(f d (c,i.1)).bind fun j=>cond (!j.1) (some (false,(some (⟨a.Am,a.Ak,a.Ao,a.Ay,a.Ad,c.Ao,i.2⟩:CB)),j.2,true)) (some (true,(some (⟨a.Am,a.Ak,a.Ao,a.Ay,a.Ad,c.Ao,i.2⟩:CB)),j.2,false))) ((C5 n b o c.Comes).bind fun k=>(f d (c,k.1)).bind fun l=>cond (!l.1) (some (false,(some (⟨b.BJ,b.B3,b.Cl,b.Cm,b.Ba,b.Df,k.2⟩:CB)),l.2,true)) (some (true,(some (⟨b.BJ,b.B3,b.Cl,b.Cm,b.Ba,b.Df,k.2⟩:CB)),l.2,false))))
def FH{a:Type}(c:Nat)(d:a→(AT×(List Ah))→Option (Bool×a))(e:Ar)(f:List (List Int))(g:a):Option (a):=
 (Fl c (fun(st:(Option CB)×a×Bool) (x:AT)=>cond st.2.2 none (DT d c e f st.1 st.2.1 x)) e (none,g,false)).bind fun b=>cond (b.2.2) (some (b.2.1)) (some (b.2.1))
end Go.Proofs.YtkljfdkmjdjpfaaGreat
end
section
set_option linter.unusedVariables false
set_option linter.unusedSimpArgs false
namespace Go.Proofs.YtkljfdkmjdjpfaaGreat
open Go.RowKit Go.WideShapes
def CD{a:Type}(c:Nat)(d:a→(Be×Ah)→Option (Bool×a))(e:Ar)(f:List (List Int))(g:a):Option (BQ×Int×a):=
 (FH c (fun(st:Int×BQ×a) (x:AT×(List Ah))=>(C7 c d x.1 x.2 st.1 e st.2.1 st.2.2).bind fun r=>some (r.1,(r.2.1,r.2.2.1,r.2.2.2))) e f (0,(⟨0,0,0,0⟩:BQ),g)).bind fun b=>some ((b.2.1,b.1,b.2.2))
def FI(a:Nat)(b:Ar)(d:List (List Int)):Option (Int×AT):=
 (FH a (fun(st:Int×AT) (x:AT×(List Ah))=>(E4 a x.1 x.2 b st.1 st.2).bind fun r=>some (r.1,(r.2.1,r.2.2))) b d ((-1),(⟨([]:List Int),([]:List Bool)⟩:AT))).bind fun c=>some ((c.1,c.2))
def Fm(b:Nat)(c:Ar)(e:List (List Int))(f:Int):Option (Int×Int):=
 (DK b c).bind fun r2=>cond (r2 !=0) (some ((0,r2))) ((Eo b c e).bind fun h=>cond (!h) (some ((0,2))) ((F3 b c f).bind fun g=>cond (!g) (some ((0,2))) ((CD b (fun(st:Unit) (x:Be×Ah)=>(Dj b x.1 x.2).bind fun r=>some (r,())) c e ()).bind fun a=>(idx ([a.1.a0,a.1.a1,a.1.a2,a.1.a3]:List Int) f).bind fun d=>cond (d==a.2.1) (some ((1,0))) (cond (d==0) (some ((2,0))) (some ((3,0)))))))
def Gx(b:Nat)(c:Ar)(d:List (List Int)):Option (Int×AT×Int):=
 (DK b c).bind fun e=>cond (e !=0) (some ((0,(⟨([]:List Int),([]:List Bool)⟩:AT),e))) ((Eo b c d).bind fun f=>cond (!f) (some ((0,(⟨([]:List Int),([]:List Bool)⟩:AT),2))) ((FI b c d).bind fun a=>some ((a.1,a.2,0))))
def CL(a:Nat)(b:Ar)(c:List (List Int))(d:Int):Option (Bool):=
 (Gx a b c).bind fun r2=>cond (r2.2.2==0) (some (decide (r2.1≤d))) (some (false))
def CJ(a:Nat)(b:Ar)(d:List (List Int))(e:AT)(f:Int):Option (Bool):=
 (Gw a b d e).bind fun c=>cond (c.2==0) ((E1 a b c.1).bind fun g=>some (decide (f≤g))) (some (false))
end Go.Proofs.YtkljfdkmjdjpfaaGreat
end
section
set_option linter.unusedVariables false
set_option linter.unusedSimpArgs false
namespace Go.Proofs.YtkljfdkmjdjpfaaGreat
open Go.RowKit Go.WideShapes
def E2(c:List (List Int)):Nat→Int→(List (List Int))→Option ((List (List Int)))
 |0,_,_=>none
 |e+1,a,b=>cond (decide (a<(c.length:Int))) ((idx b a).bind fun d=>(FT (((0+d.length:Nat):Int)≤140737488355328/8)).bind fun _=>(idx b a).bind fun f=>(i64 (a+1)).bind fun _=>E2 c e (a+1) (b.set a.toNat d)) (some (b))
def Fu(b:Nat)(a:List (List Int)):Option ((List (List Int))):=
 (FT (((0+a.length:Nat):Int)≤140737488355328/24)).bind fun _=>(E2 a b (0:Int) a).bind fun z4=>some (z4)
end Go.Proofs.YtkljfdkmjdjpfaaGreat
end
section
set_option linter.unusedVariables false
set_option linter.unusedSimpArgs false
namespace Go.Proofs.YtkljfdkmjdjpfaaGreat
open Go.RowKit Go.WideShapes
def Gn(b:Nat)(c:List (List Int))(d:Ar)(a:Int)(e:List (List Int)):Option (Bool×Int×(List (List Int))):=
 (FI b d c).bind fun r1=>cond (decide (r1.1<a)) ((Fu b c).bind fun f=>some ((decide ((0:Int)<r1.1),r1.1,f))) (some ((decide ((0:Int)<a),a,e)))
def Ex(c:Ar)(r1:BQ×Int×Unit):Nat→Int→Int→Option (Int)
 |0,_,_=>none
 |d+1,b,a=>cond (decide (a<(c.Ad.length:Int))) ((idx ([r1.1.a0,r1.1.a1,r1.1.a2,r1.1.a3]:List Int) a).bind fun e=>cond (e==0) ((i64 (b+1)).bind fun _=>(i64 (a+1)).bind fun _=>Ex c r1 d (b+1) (a+1)) ((i64 (a+1)).bind fun _=>Ex c r1 d b (a+1))) (some (b))
def En(c:Ar)(r1:BQ×Int×Unit):Nat→Int→Int→Option (Int)
 |0,_,_=>none
 |d+1,b,a=>cond (decide (a<(c.Ad.length:Int))) ((idx ([r1.1.a0,r1.1.a1,r1.1.a2,r1.1.a3]:List Int) a).bind fun e=>cond (e==0) ((i64 (b+1)).bind fun _=>(i64 (a+1)).bind fun _=>En c r1 d (b+1) (a+1)) ((i64 (a+1)).bind fun _=>En c r1 d b (a+1))) (some (b))
def EU(c:Nat)(e:List (List Int))(b:Ar)(a:Int)(d:BQ)(f:List (List Int)):Option (Bool×Int×BQ×(List (List Int))):=
 (CD c (fun(st:Unit) (x:Be×Ah)=>(Ew c x.1 x.2).bind fun r=>some (r,())) b e ()).bind fun r1=>cond (decide ((0:Int)≤a)) (cond ([r1.1.a0,r1.1.a1,r1.1.a2,r1.1.a3]==[d.a0,d.a1,d.a2,d.a3]) (some ((true,a,d,f))) ((Ex b r1 c (0:Int) (0:Int)).bind fun z9=>cond (decide (a<z9)) ((Fu c e).bind fun g=>some ((decide (z9<(b.Ad.length:Int)),z9,r1.1,g))) (some ((decide (a<(b.Ad.length:Int)),a,r1.1,f))))) ((En b r1 c (0:Int) (0:Int)).bind fun z22=>cond (decide (a<z22)) ((Fu c e).bind fun h=>some ((decide (z22<(b.Ad.length:Int)),z22,r1.1,h))) (some ((decide (a<(b.Ad.length:Int)),a,r1.1,f))))
end Go.Proofs.YtkljfdkmjdjpfaaGreat
end
section
set_option linter.unusedVariables false
set_option linter.unusedSimpArgs false
namespace Go.Proofs.YtkljfdkmjdjpfaaGreat
open Go.RowKit Go.WideShapes
def Cp{g:Type}(h:Int→Ar→(List (List Int))→g→Option (Bool×(List (List Int))×g))(i:Int)(j:Ar)(c:Int)(f:List Int):Nat→Int→(List (List Int))→g→Option ((Bool×(List (List Int))×g)⊕((List (List Int))×g))
 |0,_,_,_=>none
 |k+1,a,b,e=>cond (decide (a<((f.length:Int)+1))) ((FT (((0+f.length:Nat):Int)≤140737488355328/8)).bind fun _=>(FT (0≤a∧a≤(f.length:Int)∧((f.length:Int)+1)*8≤140737488355328)).bind fun _=>(idx b c).bind fun l=>(i64 (i+1)).bind fun _=>(h (i+1) j (b.set c.toNat (C1 f a i)) e).bind fun d=>cond (!d.1) (some (.inl (false,d.2.1,d.2.2))) ((i64 (a+1)).bind fun _=>Cp h i j c f k (a+1) d.2.1 d.2.2)) (some (.inr (b,e)))
def Ci{e:Type}(f:Int→Ar→(List (List Int))→e→Option (Bool×(List (List Int))×e))(h:Nat)(i:Int)(j:Ar)(k:List (List Int)):Nat→Int→(List (List Int))→e→Option ((Bool×(List (List Int))×e)⊕((List (List Int))×e))
 |0,_,_,_=>none
 |l+1,a,b,d=>cond (decide (a<(k.length:Int))) ((idx b a).bind fun g=>(i64 ((g.length:Int)+1)).bind fun _=>(Cp f i j a g h (0:Int) b d).bind fun z=>Sum.elim (fun c=>some (.inl (c.1,c.2.1,c.2.2))) (fun c=>(idx c.1 a).bind fun m=>(i64 (a+1)).bind fun _=>Ci f h i j k l (a+1) (c.1.set a.toNat g) c.2) z) (some (.inr (b,d)))
def BE{b:Type}(e:Nat)(d:b→(List (List Int))→Option (Bool×b)):Nat→Int→Ar→(List (List Int))→b→Option (Bool×(List (List Int))×b)
 |0,_,_,_,_=>none
 |i+1,f,g,c,h=>cond (f==(g.Ad.length:Int)) ((d h c).bind fun r2=>some ((r2.1,c,r2.2))) ((Ci (BE e d i) e f g c e (0:Int) c h).bind fun z=>Sum.elim (fun a=>some ((a.1,a.2.1,a.2.2))) (fun a=>some ((true,a.1,a.2))) z)
end Go.Proofs.YtkljfdkmjdjpfaaGreat
end
section
set_option linter.unusedVariables false
set_option linter.unusedSimpArgs false
namespace Go.Proofs.YtkljfdkmjdjpfaaGreat
open Go.RowKit Go.WideShapes
def E5{a:Type}(c:Nat)(d:a→(List (List Int))→Option (Bool×a))(b:Ar)(e:a):Option (a):=
 (KB b.Ak 24).bind fun _=>(BE c d c 0 b (List.replicate b.Ak.toNat ([]:List Int)) e).bind fun f=>some (f.2.2)
end Go.Proofs.YtkljfdkmjdjpfaaGreat
end
section
set_option linter.unusedVariables false
set_option linter.unusedSimpArgs false
namespace Go.Proofs.YtkljfdkmjdjpfaaGreat
open Go.RowKit Go.WideShapes
def G4(c:Nat)(a:Ar):Option ((List (List Int))×Int×Int):=
 (DK c a).bind fun d=>cond (d !=0) (some ((([]:List (List Int)),0,d))) ((i64 ((a.Ad.length:Int)+1)).bind fun _=>(E5 c (fun(st:Int×(List (List Int))) (x:(List (List Int)))=>(Gn c x a st.1 st.2).bind fun r=>some (r.1,(r.2.1,r.2.2))) a ((a.Ad.length:Int)+1,([]:List (List Int)))).bind fun b=>some ((b.2,b.1,0)))
def G5(b:Nat)(c:Ar):Option ((List (List Int))×Int×Int):=
 (DK b c).bind fun d=>cond (d !=0) (some ((([]:List (List Int)),0,d))) ((E5 b (fun(st:Int×BQ×(List (List Int))) (x:(List (List Int)))=>(EU b x c st.1 st.2.1 st.2.2).bind fun r=>some (r.1,(r.2.1,r.2.2.1,r.2.2.2))) c ((-1),(⟨0,0,0,0⟩:BQ),([]:List (List Int)))).bind fun a=>some ((a.2.2,a.1,0)))
end Go.Proofs.YtkljfdkmjdjpfaaGreat
end
section
set_option linter.unusedVariables false
set_option linter.unusedSimpArgs false
namespace Go.Proofs.YtkljfdkmjdjpfaaGreat
open Go.RowKit Go.WideShapes
def Ec(e:Nat)(c:Ar):Nat→(List Int)→Int→Option ((List Int))
 |0,_,_=>none
 |f+1,b,a=>cond (decide (a<(c.Ad.length:Int))) ((KB c.Ak 24).bind fun _=>(idx (List.replicate c.Ak.toNat ([]:List Int)) (0:Int)).bind fun _=>(Jm (c.Ad.length:Int) a e (0:Int) ((List.replicate c.Ak.toNat ([]:List Int)).set 0 [a])).bind fun g=>(CD e (fun(st:Unit) (x:Be×Ah)=>(Dj e x.1 x.2).bind fun r=>some (r,())) c g ()).bind fun d=>(idx ([d.1.a0,d.1.a1,d.1.a2,d.1.a3]:List Int) a).bind fun h=>cond (h==d.2.1) ((i64 (a+1)).bind fun _=>Ec e c f b (a+1)) ((FT (((b.length+[a].length:Nat):Int)≤140737488355328/8)).bind fun _=>(i64 (a+1)).bind fun _=>Ec e c f (b++[a]) (a+1))) (some (b))
def FW(a:Nat)(b:Ar):Option ((List Int)×Int):=
 (DK a b).bind fun r2=>cond (r2 !=0) (some ((([]:List Int),r2))) ((Ec a b a ([]:List Int) (0:Int)).bind fun z5=>some ((z5,0)))
end Go.Proofs.YtkljfdkmjdjpfaaGreat
end
section
set_option linter.unusedVariables false
set_option linter.unusedSimpArgs false
namespace Go.Proofs.YtkljfdkmjdjpfaaGreat
open Go.RowKit Go.WideShapes
def Ef(g:Nat)(h:Ar):Nat→Int→Int→(List Int)→Option ((List Int))
 |0,_,_,_=>none
 |i+1,a,d,b=>cond (decide (d<(h.Ad.length:Int))) ((idx h.Ad d).bind fun c=>(Ev g (⟨c.Au,c.AH⟩:CK)).bind fun e=>(rem a e).bind fun _=>(i64 (c.Au+(a%e))).bind fun _=>(FT (((b.length+[c.Au+(a%e)].length:Nat):Int)≤140737488355328/8)).bind fun _=>(Ev g (⟨c.Au,c.AH⟩:CK)).bind fun f=>(quo a f).bind fun _=>(i64 (a/f)).bind fun _=>(i64 (d+1)).bind fun _=>Ef g h i (a/f) (d+1) (b++[c.Au+(a%e)])) (some (b))
def D4(d:Nat)(e:Ar)(f:Int):Nat→Int→(List Bool)→Option ((List Bool))
 |0,_,_=>none
 |g+1,a,b=>cond (decide (a≤e.Am)) ((DW d f a).bind fun c=>(FT (((b.length+[c].length:Nat):Int)≤140737488355328/1)).bind fun _=>(i64 (a+1)).bind fun _=>D4 d e f g (a+1) (b++[c])) (some (b))
def F4(c:Nat)(d:Ar)(a:List Int)(b:Int):Option (AT):=
 (rem b (a.length:Int)).bind fun _=>(idx a (b%(a.length:Int))).bind fun e=>(quo b (a.length:Int)).bind fun _=>(i64 (b/(a.length:Int))).bind fun _=>(Ef c d c (b/(a.length:Int)) (0:Int) ([]:List Int)).bind fun f=>(D4 c d e c (0:Int) ([]:List Bool)).bind fun z23=>some ((⟨f,z23⟩:AT))
def Dz(c:Nat)(d:Ar)(r2:(List Int)):Nat→(List AT)→Int→Option ((List AT))
 |0,_,_=>none
 |f+1,b,a=>(DE c d).bind fun g=>cond (decide (a<g)) ((F4 c d r2 a).bind fun e=>(FT (((b.length+[e].length:Nat):Int)≤140737488355328/48)).bind fun _=>(i64 (a+1)).bind fun _=>Dz c d r2 f (b++[e]) (a+1)) (some (b))
def EC(a:Nat)(b:Ar):Option ((List AT)):=
 (Ej a b).bind fun r2=>(Dz a b r2 a ([]:List AT) (0:Int)).bind fun z4=>some (z4)
def Dk(d:Nat)(b:Ar)(c:AT):Nat→Int→Option ((Bool)⊕(Unit))
 |0,_=>none
 |h+1,a=>cond (decide (a<(c.Comes.length:Int))) ((idx c.Comes a).bind fun i=>(idx b.Ad a).bind fun e=>(idx b.Ad a).bind fun f=>(Di d i e.Au f.AH).bind fun g=>cond (!g) (some (.inl false)) ((i64 (a+1)).bind fun _=>Dk d b c h (a+1))) (some (.inr ()))
def Cq(c:AT):Nat→Int→Int→Option (Int)
 |0,_,_=>none
 |d+1,b,a=>cond (decide (a<(c.Ao.length:Int))) ((idx c.Ao a).bind fun e=>cond (e) ((L4 .u64 a).bind fun _=>(Jl (1:Int) a).bind fun _=>(NX b (Fw (1:Int) a)).bind fun _=>(i64 (a+1)).bind fun _=>Cq c d (L3 b (Fw (1:Int) a)) (a+1)) ((i64 (a+1)).bind fun _=>Cq c d b (a+1))) (some (b))
def E6(b:Nat)(a:Ar)(c:AT):Option (Bool):=
 cond ((c.Comes.length:Int) !=(a.Ad.length:Int)) (some (false)) ((i64 (a.Am+1)).bind fun _=>cond ((c.Ao.length:Int) !=(a.Am+1)) (some (false)) ((Dk b a c b (0:Int)).bind fun z=>Sum.elim (fun d=>some (d)) (fun d=>(Cq c b (0:Int) (0:Int)).bind fun e=>(Ed b a e).bind fun f=>some (f)) z))
def Dl(e:Nat)(f:Ar)(g:List (List Int))(c:Int):Nat→Int→Int→Option ((Bool)⊕(Int))
 |0,_,_=>none
 |j+1,a,b=>(idx g c).bind fun k=>cond (decide (b<(k.length:Int))) ((idx g c).bind fun l=>(idx l b).bind fun d=>(i64 ((f.Ad.length:Int)-1)).bind fun _=>(Di e d 0 ((f.Ad.length:Int)-1)).bind fun h=>cond (!h) (some (.inl false)) ((DW e a d).bind fun i=>cond (i) (some (.inl false)) ((L4 .u64 d).bind fun _=>(Jl (1:Int) d).bind fun _=>(NX a (Fw (1:Int) d)).bind fun _=>(i64 (b+1)).bind fun _=>Dl e f g c j (L3 a (Fw (1:Int) d)) (b+1)))) (some (.inr a))
def Dm(d:Nat)(f:Ar)(e:List (List Int)):Nat→Int→Int→Option ((Bool)⊕(Int))
 |0,_,_=>none
 |g+1,b,a=>cond (decide (a<(e.length:Int))) ((Dl d f e a d b (0:Int)).bind fun z=>Sum.elim (fun c=>some (.inl c)) (fun c=>(i64 (a+1)).bind fun _=>Dm d f e g c (a+1)) z) (some (.inr b))
def E7(c:Nat)(a:Ar)(d:List (List Int)):Option (Bool):=
 cond ((d.length:Int) !=a.Ak) (some (false)) ((Dm c a d c (0:Int) (0:Int)).bind fun z=>Sum.elim (fun b=>some (b)) (fun b=>(L4 .u64 (a.Ad.length:Int)).bind fun _=>(Jl (1:Int) (a.Ad.length:Int)).bind fun _=>(i64 ((Fw (1:Int) (a.Ad.length:Int))-1)).bind fun _=>some (b==((Fw (1:Int) (a.Ad.length:Int))-1))) z)
def Dr:Nat→Int→(List Ah)→Option ((List Ah))
 |0,_,_=>none
 |c+1,a,b=>cond (decide (a<(b.length:Int))) ((idx b a).bind fun d=>(i64 (a+1)).bind fun _=>Dr c (a+1) (b.set a.toNat (⟨(-1),(-1),false⟩:Ah))) (some (b))
def Bw(i:Ar)(k:List (List Int))(l:AT)(f:Int):Nat→Int→Int→Int→Int→Int→(List Ah)→Option ((List Ah))
 |0,_,_,_,_,_,_=>none
 |m+1,d,c,h,j,a,b=>cond (decide (a≤i.Am)) (cond (decide (c<0)) ((idx k f).bind fun aE=>cond (decide (d<(aE.length:Int))) ((idx k f).bind fun aF=>(idx aF d).bind fun aG=>(idx l.Comes aG).bind fun aH=>cond (decide (aH≤a)) ((idx k f).bind fun aI=>(idx aI d).bind fun e=>(idx b e).bind fun g=>(i64 (d+1)).bind fun _=>cond (decide (e<0)) ((i64 (a+1)).bind fun _=>Bw i k l f m (d+1) e (0:Int) (0:Int) (a+1) (b.set e.toNat (⟨a,g.AF,g.Aq⟩:Ah))) ((idx l.Ao a).bind fun aJ=>cond (aJ) ((idx i.Ad e).bind fun aK=>cond ((0:Int)==aK.Aq) ((idx (b.set e.toNat (⟨a,g.AF,g.Aq⟩:Ah)) e).bind fun p=>(idx ((b.set e.toNat (⟨a,g.AF,g.Aq⟩:Ah)).set e.toNat (⟨p.On,a,p.Aq⟩:Ah)) e).bind fun v=>(i64 (a+1)).bind fun _=>Bw i k l f m (d+1) (-1) (0:Int) ((0:Int)+(1:Int)) (a+1) (((b.set e.toNat (⟨a,g.AF,g.Aq⟩:Ah)).set e.toNat (⟨p.On,a,p.Aq⟩:Ah)).set e.toNat (⟨v.On,v.AF,true⟩:Ah))) ((idx i.Ad e).bind fun aL=>cond (((0:Int)+(1:Int))==aL.B1) ((idx (b.set e.toNat (⟨a,g.AF,g.Aq⟩:Ah)) e).bind fun w=>(i64 (a+1)).bind fun _=>Bw i k l f m (d+1) (-1) (0:Int) ((0:Int)+(1:Int)) (a+1) ((b.set e.toNat (⟨a,g.AF,g.Aq⟩:Ah)).set e.toNat (⟨w.On,a,w.Aq⟩:Ah))) ((i64 (a+1)).bind fun _=>Bw i k l f m (d+1) e (0:Int) ((0:Int)+(1:Int)) (a+1) (b.set e.toNat (⟨a,g.AF,g.Aq⟩:Ah))))) ((idx i.Ad e).bind fun aM=>cond (((0:Int)+(1:Int))==aM.Aq) ((idx (b.set e.toNat (⟨a,g.AF,g.Aq⟩:Ah)) e).bind fun q=>(idx ((b.set e.toNat (⟨a,g.AF,g.Aq⟩:Ah)).set e.toNat (⟨q.On,a,q.Aq⟩:Ah)) e).bind fun x=>(i64 (a+1)).bind fun _=>Bw i k l f m (d+1) (-1) ((0:Int)+(1:Int)) (0:Int) (a+1) (((b.set e.toNat (⟨a,g.AF,g.Aq⟩:Ah)).set e.toNat (⟨q.On,a,q.Aq⟩:Ah)).set e.toNat (⟨x.On,x.AF,true⟩:Ah))) ((idx i.Ad e).bind fun aN=>cond ((0:Int)==aN.B1) ((idx (b.set e.toNat (⟨a,g.AF,g.Aq⟩:Ah)) e).bind fun y=>(i64 (a+1)).bind fun _=>Bw i k l f m (d+1) (-1) ((0:Int)+(1:Int)) (0:Int) (a+1) ((b.set e.toNat (⟨a,g.AF,g.Aq⟩:Ah)).set e.toNat (⟨y.On,a,y.Aq⟩:Ah))) ((i64 (a+1)).bind fun _=>Bw i k l f m (d+1) e ((0:Int)+(1:Int)) (0:Int) (a+1) (b.set e.toNat (⟨a,g.AF,g.Aq⟩:Ah))))))) ((i64 (a+1)).bind fun _=>Bw i k l f m d c h j (a+1) b)) ((i64 (a+1)).bind fun _=>Bw i k l f m d c h j (a+1) b)) ((idx l.Ao a).bind fun z=>cond (z) ((i64 (j+1)).bind fun _=>(idx i.Ad c).bind fun aA=>cond (h==aA.Aq) ((idx b c).bind fun n=>(idx (b.set c.toNat (⟨n.On,a,n.Aq⟩:Ah)) c).bind fun r=>(i64 (a+1)).bind fun _=>Bw i k l f m d (-1) h (j+1) (a+1) ((b.set c.toNat (⟨n.On,a,n.Aq⟩:Ah)).set c.toNat (⟨r.On,r.AF,true⟩:Ah))) ((idx i.Ad c).bind fun aB=>cond ((j+1)==aB.B1) ((idx b c).bind fun s=>(i64 (a+1)).bind fun _=>Bw i k l f m d (-1) h (j+1) (a+1) (b.set c.toNat (⟨s.On,a,s.Aq⟩:Ah))) ((i64 (a+1)).bind fun _=>Bw i k l f m d c h (j+1) (a+1) b))) ((i64 (h+1)).bind fun _=>(idx i.Ad c).bind fun aC=>cond ((h+1)==aC.Aq) ((idx b c).bind fun o=>(idx (b.set c.toNat (⟨o.On,a,o.Aq⟩:Ah)) c).bind fun t=>(i64 (a+1)).bind fun _=>Bw i k l f m d (-1) (h+1) (0:Int) (a+1) ((b.set c.toNat (⟨o.On,a,o.Aq⟩:Ah)).set c.toNat (⟨t.On,t.AF,true⟩:Ah))) ((idx i.Ad c).bind fun aD=>cond ((0:Int)==aD.B1) ((idx b c).bind fun u=>(i64 (a+1)).bind fun _=>Bw i k l f m d (-1) (h+1) (0:Int) (a+1) (b.set c.toNat (⟨u.On,a,u.Aq⟩:Ah))) ((i64 (a+1)).bind fun _=>Bw i k l f m d c (h+1) (0:Int) (a+1) b))))) (some (b))
def DN(d:Nat)(e:Ar)(c:List (List Int))(f:AT):Nat→Int→(List Ah)→Option ((List Ah))
 |0,_,_=>none
 |h+1,a,b=>cond (decide (a<(c.length:Int))) ((Bw e c f a d (0:Int) (-1) (0:Int) (0:Int) (0:Int) b).bind fun g=>(i64 (a+1)).bind fun _=>DN d e c f h (a+1) g) (some (b))
def E8(a:Nat)(b:Ar)(d:List (List Int))(e:AT):Option ((List Ah)):=
 (KB (b.Ad.length:Int) 24).bind fun _=>(Dr a (0:Int) (List.replicate (b.Ad.length:Int).toNat (⟨0,0,false⟩:Ah))).bind fun z5=>(DN a b d e a (0:Int) z5).bind fun c=>some (c)
def E9(c:Nat)(b:Be)(a:Ah):Option (Bool):=
 cond (a.Aq) (some (decide (a.AF≤b.Cj))) (some (false))
def Ds(d:Nat)(e:Ar)(c:List Ah):Nat→Int→Int→Option (Int)
 |0,_,_=>none
 |f+1,b,a=>cond (decide (a<(c.length:Int))) ((idx e.Ad a).bind fun g=>(idx c a).bind fun h=>(E9 d g h).bind fun i=>cond (!i) ((i64 (b+1)).bind fun _=>(i64 (a+1)).bind fun _=>Ds d e c f (b+1) (a+1)) ((i64 (a+1)).bind fun _=>Ds d e c f b (a+1))) (some (b))
def Fa(a:Nat)(b:Ar)(c:List Ah):Option (Int):=
 (Ds a b c a (0:Int) (0:Int)).bind fun z2=>some (z2)
def D5(c:Nat)(d:Ar)(e:List AT)(f:List (List Int)):Nat→Int→Int→Option (Int)
 |0,_,_=>none
 |g+1,b,a=>cond (decide (a<(e.length:Int))) ((idx e a).bind fun h=>(E8 c d f h).bind fun i=>(Fa c d i).bind fun j=>(i64 (a+1)).bind fun _=>D5 c d e f g (max b j) (a+1)) (some (b))
def Fb(a:Nat)(b:Ar)(c:List AT)(d:List (List Int)):Option (Int):=
 (D5 a b c d a (0:Int) (0:Int)).bind fun z2=>some (z2)
end Go.Proofs.YtkljfdkmjdjpfaaGreat
end
section
set_option linter.unusedVariables false
set_option linter.unusedSimpArgs false
namespace Go.Proofs.YtkljfdkmjdjpfaaGreat
open Go.RowKit Go.WideShapes
def DO(c:List (List Int)):Nat→(List (List Int))→Int→Option ((List (List Int)))
 |0,_,_=>none
 |e+1,b,a=>cond (decide (a<(c.length:Int))) ((idx c a).bind fun d=>(FT (((([]:List Int).length+d.length:Nat):Int)≤140737488355328/8)).bind fun _=>(FT (((b.length+[([]:List Int)++d].length:Nat):Int)≤140737488355328/24)).bind fun _=>(i64 (a+1)).bind fun _=>DO c e (b++[([]:List Int)++d]) (a+1)) (some (b))
def CE(a:Nat)(b:List (List Int)):Option ((List (List Int))):=
 (DO b a ([]:List (List Int)) (0:Int)).bind fun z2=>some (z2)
def DU(b:Nat)(a:AT):Option (AT):=
 (FT (((([]:List Int).length+a.Comes.length:Nat):Int)≤140737488355328/8)).bind fun _=>(FT (((([]:List Bool).length+a.Ao.length:Nat):Int)≤140737488355328/1)).bind fun _=>some ((⟨([]:List Int)++a.Comes,([]:List Bool)++a.Ao⟩:AT))
def DP(b:List (List Int)):Nat→Int→Option ((Bool)⊕(Unit))
 |0,_=>none
 |c+1,a=>cond (decide (a<(b.length:Int))) (cond (decide (a<5)) ((idx b a).bind fun d=>cond (decide ((6:Int)<(d.length:Int))) (some (.inl false)) ((i64 (a+1)).bind fun _=>DP b c (a+1))) (some (.inr ()))) (some (.inr ()))
def FB(c:Nat)(b:List (List Int)):Option (Bool):=
 (DP b c (0:Int)).bind fun z=>Sum.elim (fun a=>some (a)) (fun a=>some (decide ((b.length:Int)≤4))) z
end Go.Proofs.YtkljfdkmjdjpfaaGreat
end
section
set_option linter.unusedVariables false
set_option linter.unusedSimpArgs false
namespace Go.Proofs.YtkljfdkmjdjpfaaGreat
open Go.RowKit Go.WideShapes
def CF(a:Nat):Option (Bool):=
 (CN a 1).bind fun r1=>(GB a 3).bind fun v=>(Gw a r1 [[0,1]] v).bind fun h=>(CN a 1).bind fun w=>(Fm a w [[0,1]] 1).bind fun d=>(CN a 1).bind fun i=>(Fm a i [[1,0]] 0).bind fun e=>(CN a 1).bind fun j=>(Gx a j [[1,0]]).bind fun b=>(CN a 1).bind fun k=>(G4 a k).bind fun c=>(CN a 1).bind fun l=>(G5 a l).bind fun f=>(CN a 1).bind fun m=>(FW a m).bind fun g=>cond (h.2==0) ((E3 a 0 1 true).bind fun n=>(E3 a 2 3 false).bind fun o=>(GC a h.1 n o).bind fun p=>cond (p) (cond (d.2==0) (cond (d.1==3) (cond (e.2==0) (cond (e.1==2) (cond (b.2.2==0) (cond (b.1==2) ((CN a 1).bind fun q=>(CJ a q [[1,0]] b.2.1 2).bind fun r=>cond (r) (cond (c.2.2==0) (cond (c.2.1==1) ((CN a 1).bind fun s=>(CL a s c.1 1).bind fun t=>cond (t) (cond (f.2.2==0) (cond (f.2.1==1) (cond (g.2==0) ((FO a g.1 [1]).bind fun u=>some (u)) (some (false))) (some (false))) (some (false))) (some (false))) (some (false))) (some (false))) (some (false))) (some (false))) (some (false))) (some (false))) (some (false))) (some (false))) (some (false))) (some (false))) (some (false))
end Go.Proofs.YtkljfdkmjdjpfaaGreat
end
section
namespace Go.Proofs.YtkljfdkmjdjpfaaGreat
theorem bd{α β:Type}{x:Option α}{a:α}{f:α→Option β}(h:x=some a):x.bind f=f a:=by rw[h];rfl
theorem BB{β:Type}{x:Int}{f:Int→Option β}(h0:-9223372036854775808≤x)(a:x≤9223372036854775807):(i64 x).bind f=f x:=bd (T7 h0 a)
theorem Ca{α β:Type}{xs:List α}{k:Nat}{f:α→Option β}(h:k<xs.length):(idx xs (k:Int)).bind f=f xs[k]:=bd (idx_eq h)
theorem Fx{β:Type}{p:Prop}[Decidable p]{f:Unit→Option β}(h:p):(FT p).bind f=f ():=bd (if_pos h)
theorem PQ{β:Type}{a b:Int}{f:Int→Option β}(h0:0≤a)(c:1≤b):(rem a b).bind f=f (a%b):=bd (if_pos ⟨h0,c⟩)
theorem Ui{β:Type}{a b:Int}{f:Int→Option β}(h0:0≤a)(c:1≤b):(quo a b).bind f=f (a/b):=bd (if_pos ⟨h0,c⟩)
theorem O2{β:Type}{n:Int}{b:Nat}{f:Unit→Option β}(h0:0≤n)(a:n*b≤140737488355328)(c:n≤140737488355328):(KB n b).bind f=f ():=bd (if_pos ⟨h0,a,c⟩)
theorem ct{α:Type}{b:Bool}{x y:α}(h:b=true):cond b x y=x:=by rw[h];rfl
theorem cf{α:Type}{b:Bool}{x y:α}(h:b=false):cond b x y=y:=by rw[h];rfl
theorem nt{α:Type}{x y:α}:cond (!true) x y=y:=rfl
theorem nf{α:Type}{x y:α}:cond (!false) x y=x:=rfl
theorem dt{p:Prop}[Decidable p](h:p):decide p=true:=decide_eq_true h
theorem df{p:Prop}[Decidable p](h:¬p):decide p=false:=decide_eq_false h
theorem C2(i:Nat):(i:Int)+1=((i+1:Nat):Int):=by omega
def FK(n a b:Int):Bool:=decide (a≤n)&&decide (n≤b)
theorem Fs{n a b:Int}:FK n a b=true↔a≤n∧n≤b:=by simp[FK]
theorem LG(K:Nat)(n a b:Int):Di K n a b=some (FK n a b):=by unfold Di FK;cases decide (a≤n)<;>rfl
theorem Ht(K:Nat)(n a b:Int):Ez K n a b=some (FK n a b):=by unfold Ez FK;cases decide (a≤n)<;>rfl
def run {σ α:Type} (cb:σ→α→Option (Bool×σ)):List α→σ→Option (Bool×σ)
 |[],s=>some (true,s)
 |x::l,s=>(cb s x).bind fun r=>cond r.1 (run cb l r.2) (some (false,r.2))
theorem HP{σ α:Type}(cb:σ→α→Option (Bool×σ))(a:List α):∀(b:List α) (s:σ),run cb (b++a) s=(run cb b s).bind fun r=>cond r.1 (run cb a r.2) (some (false,r.2))
 |[],s=>rfl
 |x::l,s=>by
  simp only[List.cons_append,run];cases cb s x with
  |none=>rfl
  |some r=>
   simp only[Option.bind_some];cases h:r.1 with
   |false=>simp
   |true=>simpa using HP cb a l r.2
theorem run_map{σ α β:Type}(cb:σ→β→Option (Bool×σ))(f:α→β):∀(l:List α) (s:σ),run cb (l.map f) s=run (fun s x=>cb s (f x)) l s
 |[],s=>rfl
 |x::l,s=>by simp only[List.map_cons,run,run_map cb f l]
theorem PR{σ:Type}(K:Nat)(cb:σ→Bool→Option (Bool×σ))(p:List Bool)(a:p.length≤5000):∀(n m i:Nat) (s:σ),p.length=i+n→n<m→
  (C4 (fun(st:σ) (x:Bool)=>(EG K cb x st).bind fun r=>some (r.1,r.2)) p m (i:Int) s).bind (fun z=>Sum.elim (fun q=>some (decide ((0:Int)≤q.1),q.2)) (fun q=>some (false,q)) z)=(run cb (p.drop i) s).bind fun r=>some (!r.1,r.2):=by
 intro n
 induction n with
 |zero=>
  intro m i s h hm;cases m with
  |zero=>omega
  |succ m=>
   rw[C4.eq_2,cf (df (by omega)),List.drop_eq_nil_of_le (by omega)];rfl
 |succ n ih=>
  intro m i s h hm;cases m with
  |zero=>omega
  |succ m=>
   have hi:i<p.length:=by omega
   rw[C4.eq_2,ct (dt (by omega)),Ca hi,List.drop_eq_getElem_cons hi];simp only[run];have e:(EG K cb p[i] s).bind (fun r=>some (r.1,r.2))=(cb s p[i]).bind fun r=>some (!r.1,r.2):=by
    unfold EG;cases cb s p[i]<;>rfl
   rw[e];cases b:cb s p[i] with
   |none=>rfl
   |some r=>
    simp only[Option.bind_some];cases c:r.1 with
    |false=>
     show some (decide ((0:Int)≤(i:Int)),r.2)=some (!false,r.2);rw[dt (by omega)];rfl
    |true=>
     rw[nt,BB (by omega) (by omega),C2];exact ih m (i+1) r.2 (by omega) (by omega)
theorem PS{σ:Type}{K:Nat}(cb:σ→Bool→Option (Bool×σ))(p:List Bool)(s:σ)(b:p.length≤5000)(hK:p.length<K):Gq K cb p s=run cb p s:=by
 unfold Gq ET Fy;have h:=PR K cb p b p.length K 0 s (by omega) hK;rw[List.drop_zero,Int.natCast_zero] at h;have e:∀(z:(Int×σ)⊕σ),(Sum.elim (fun a=>some ((a.1,a.2))) (fun a=>some (((-1),a))) z:Option (Int×σ)).bind (fun r1=>some ((decide ((0:Int)≤r1.1),r1.2)))=Sum.elim (fun q=>some (decide ((0:Int)≤q.1),q.2)) (fun q=>some (false,q)) z:=by
  intro z;cases z<;>rfl
 refine Eq.trans (congrArg (fun z=>Option.bind z _) ((Option.bind_assoc _ _ _).trans ((congrArg (fun f=>Option.bind _ f) (funext e)).trans h))) ?_;cases run cb p s with
 |none=>rfl
 |some r=>show some (!(!r.1),r.2)=some r;rw[Bool.not_not]
theorem Qp{σ:Type}(K:Nat)(cb:σ→Be→Option (Bool×σ))(p:List Be)(a:p.length≤5000):∀(n m i:Nat) (s:σ),p.length=i+n→n<m→
  (Dc (fun(st:σ) (x:Be)=>(E0 K cb x st).bind fun r=>some (r.1,r.2)) p m (i:Int) s).bind (fun z=>Sum.elim (fun q=>some (decide ((0:Int)≤q.1),q.2)) (fun q=>some (false,q)) z)=(run cb (p.drop i) s).bind fun r=>some (!r.1,r.2):=by
 intro n
 induction n with
 |zero=>
  intro m i s h hm;cases m with
  |zero=>omega
  |succ m=>
   rw[Dc.eq_2,cf (df (by omega)),List.drop_eq_nil_of_le (by omega)];rfl
 |succ n ih=>
  intro m i s h hm;cases m with
  |zero=>omega
  |succ m=>
   have hi:i<p.length:=by omega
   rw[Dc.eq_2,ct (dt (by omega)),Ca hi,List.drop_eq_getElem_cons hi];simp only[run];have e:(E0 K cb p[i] s).bind (fun r=>some (r.1,r.2))=(cb s p[i]).bind fun r=>some (!r.1,r.2):=by
    unfold E0;cases cb s p[i]<;>rfl
   rw[e];cases b:cb s p[i] with
   |none=>rfl
   |some r=>
    simp only[Option.bind_some];cases c:r.1 with
    |false=>
     show some (decide ((0:Int)≤(i:Int)),r.2)=some (!false,r.2);rw[dt (by omega)];rfl
    |true=>
     rw[nt,BB (by omega) (by omega),C2];exact ih m (i+1) r.2 (by omega) (by omega)
theorem Qq{σ:Type}{K:Nat}(cb:σ→Be→Option (Bool×σ))(p:List Be)(s:σ)(b:p.length≤5000)(hK:p.length<K):GH K cb p s=run cb p s:=by
 unfold GH Ff FL;have h:=Qp K cb p b p.length K 0 s (by omega) hK;rw[List.drop_zero,Int.natCast_zero] at h;have e:∀(z:(Int×σ)⊕σ),(Sum.elim (fun a=>some ((a.1,a.2))) (fun a=>some (((-1),a))) z:Option (Int×σ)).bind (fun r1=>some ((decide ((0:Int)≤r1.1),r1.2)))=Sum.elim (fun q=>some (decide ((0:Int)≤q.1),q.2)) (fun q=>some (false,q)) z:=by
  intro z;cases z<;>rfl
 refine Eq.trans (congrArg (fun z=>Option.bind z _) ((Option.bind_assoc _ _ _).trans ((congrArg (fun f=>Option.bind _ f) (funext e)).trans h))) ?_;cases run cb p s with
 |none=>rfl
 |some r=>show some (!(!r.1),r.2)=some r;rw[Bool.not_not]
def okW (W R:Int):List Bool→Int→Int→Bool
 |[],_,_=>true
 |false::l,s,_=>okW W R l s 0
 |true::l,s,r=>decide (s+1≤W)&&(decide (r+1≤R)&&okW W R l (s+1) (r+1))
theorem JV(K:Nat)(y:Ar):∀(l:List Bool) (r s:Int),0≤r→0≤s→r+l.length≤5000→s+l.length≤5000→
  (run (fun(st:Int×Int) (x:Bool)=>(D2 K x st.1 st.2 y).bind fun r=>some (r.1,(r.2.1,r.2.2))) l (r,s)).bind (fun d=>some (d.1))=some (okW y.Ao y.Ay l s r)
 |[],r,s,_,_,_,_=>rfl
 |false::l,r,s,e,c,a,b=>by
  simp only[run,okW];unfold D2;simp only[Bool.not_false,cond_true,Option.bind_some];exact JV K y l 0 s (by omega) c (by simp at a;omega) (by simp at b;omega)
 |true::l,r,s,e,c,a,b=>by
  simp only[List.length_cons] at a b;simp only[run,okW];unfold D2;simp only[Bool.not_true,cond_false];rw[BB (by omega) (by omega),BB (by omega) (by omega)];cases f:decide (s+1≤y.Ao) with
  |false=>simp
  |true=>
   simp only[cond_true,Option.bind_some];cases g:decide (r+1≤y.Ay) with
   |false=>simp
   |true=>
    simp only[cond_true,Bool.true_and];exact JV K y l (r+1) (s+1) (by omega) (by omega) (by omega) (by omega)
theorem M6{K:Nat}(y:Ar)(l:List Bool)(a:l.length≤4000)(hK:l.length<K):EJ K y l=some (okW y.Ao y.Ay l 0 0):=by
 unfold EJ;rw[PS _ l _ (by omega) hK];exact JV K y l 0 0 (by omega) (by omega) (by omega) (by omega)
end Go.Proofs.YtkljfdkmjdjpfaaGreat
end
section
namespace Go.Proofs.YtkljfdkmjdjpfaaGreat
theorem O3(s x:Nat):FE (s:Int) (x:Int)=((s/2^x:Nat):Int):=by
 unfold FE;rw[Int.toNat_natCast,Int.natCast_ediv,Int.natCast_pow];rfl
theorem SU(s x:Nat):FE (s:Int) (x:Int)%2=((s/2^x%2:Nat):Int):=by rw[O3];simp
theorem Qr(b d:Nat):(FE (b:Int) (d:Int)%2==1)=b.testBit d:=by
 rw[SU,Nat.testBit_eq_decide_div_mod_eq];cases h:decide (b/2^d%2=1) with
 |true=>rw[of_decide_eq_true h];rfl
 |false=>
  have:=of_decide_eq_false h;simp only[beq_eq_false_iff_ne,ne_eq];omega
theorem Qs(b d:Nat)(h:d<64):NW (b:Int) (d:Int)=some ():=if_pos ⟨by omega,by omega⟩
theorem Uj(b d:Nat):0≤FE (b:Int) (d:Int):=by rw[O3];exact Int.natCast_nonneg _
def wl (n b:Nat):List Bool:=(List.range n).map b.testBit
theorem FQ(n b:Nat):(wl n b).length=n:=by simp[wl]
theorem Vm(b n:Nat)(a:List Bool)(h0:a.length=n)(d:n≤63):∀(k m i:Nat) (s:List Bool),n=i+k→k<m→s.length=n→
  CS (b:Int) a m (i:Int) s=some (s.take i++(List.range' i k).map b.testBit):=by
 intro k
 induction k with
 |zero=>
  intro m i s h hm c;cases m with
  |zero=>omega
  |succ m=>
   rw[CS.eq_2,cf (df (by omega)),List.take_of_length_le (by omega)];simp
 |succ k ih=>
  intro m i s h hm c;cases m with
  |zero=>omega
  |succ m=>
   have hi:i<s.length:=by omega
   rw[CS.eq_2,ct (dt (by omega)),bd (Qs b i (by omega)),PQ (Uj b i) (by omega),Ca hi,BB (by omega) (by omega),C2,Qr,Int.toNat_natCast];rw[ih m (i+1) (s.set i (b.testBit i)) (by omega) (by omega) (by rw[List.length_set];exact c)]
   congr 1
   rw[List.range'_succ,List.map_cons,List.take_add_one,List.getElem?_set_self hi,List.take_set_of_le (Nat.le_refl _)];simp
theorem Vn(b n:Nat)(s:List Bool)(c:n≤63){K:Nat}(hK:n<K)(a:s.length=n):CS (b:Int) s K 0 s=some (wl n b):=by
 have:=Vm b n s a c n K 0 s (by omega) hK a;rw[Int.natCast_zero] at this;rw[this,wl,List.range_eq_range'];rfl
def Hu (y:Ar) (l:List Bool):Bool:=okW y.Ao y.Ay l 0 0
def days(y:Ar):Nat:=(y.Am+1).toNat
def Bx(y:Ar):List (List Bool):=((List.range (2^days y)).map (wl (days y))).filter (Hu y)
theorem IU:∀n:Nat,n≤10→2^n≤1024:=by decide
theorem PT{σ:Type}{K:Nat}(cb:σ→List Bool→Option (Bool×σ))(y:Ar)(f:days y≤10)(hK:2000≤K):∀(k m i:Nat) (a:List Bool) (st:σ),2^days y=i+k→k<m→a.length=days y→
  CT cb K y m (i:Int) a st=(run cb (((List.range' i k).map (wl (days y))).filter (Hu y)) st).bind fun r=>some (cond r.1 (.inr r.2) (.inl r.2)):=by
 intro k;have g:=IU _ f;have b:Fw (1:Int) ((List.replicate (y.Am+1).toNat false).length:Int)=((2^days y:Nat):Int):=by
  unfold Fw;rw[Int.one_mul,Int.toNat_natCast,List.length_replicate,Int.natCast_pow];rfl
 induction k with
 |zero=>
  intro m i a st h hm c;cases m with
  |zero=>omega
  |succ m=>
   rw[CT.eq_2,b,cf (df (by omega))];rfl
 |succ k ih=>
  intro m i a st h hm c;cases m with
  |zero=>omega
  |succ m=>
   rw[CT.eq_2,b,ct (dt (by omega)),bd (Vn i (days y) a (by omega) (by omega) c),bd (M6 y (wl (days y) i) (by rw[FQ];omega) (by rw[FQ];omega))];rw[List.range'_succ,List.map_cons];show cond (Hu y (wl (days y) i)) _ _=_;cases d:Hu y (wl (days y) i) with
   |false=>
    rw[List.filter_cons_of_neg (by rw[d];decide),cf rfl,BB (by omega) (by omega),C2];exact ih m (i+1) _ st (by omega) (by omega) (FQ _ _)
   |true=>
    rw[List.filter_cons_of_pos d,ct rfl];show _=(Option.bind _ _:Option (Bool×σ)).bind _;cases j:cb st (wl (days y) i) with
    |none=>rfl
    |some r=>
     cases e:r.1 with
     |false=>
      show(cond (!r.1) (some (Sum.inl r.2)) _:Option (σ⊕σ))=(cond r.1 _ (some (false,r.2)):Option (Bool×σ)).bind _;rw[e];rfl
     |true=>
      show cond (!r.1) _ ((i64 ((i:Int)+1)).bind _)=(cond r.1 (run cb _ r.2) _:Option (Bool×σ)).bind _;rw[e,nt,BB (by omega) (by omega),C2];exact ih m (i+1) _ r.2 (by omega) (by omega) (FQ _ _)
theorem Md{σ:Type}{K:Nat}(cb:σ→List Bool→Option (Bool×σ))(y:Ar)(h0:0≤y.Am)(h9:y.Am≤9)(hK:2000≤K)(st:σ):
  DJ K cb y st=(run cb (Bx y) st).bind fun r=>some r.2:=by
 have a:days y≤10:=by unfold days;omega
 have c:=IU _ a;unfold DJ;rw[BB (by omega) (by omega),O2 (by omega) (by omega) (by omega)];have b:Jl (1:Int) ((List.replicate (y.Am+1).toNat false).length:Int)=some ():=by
  rw[List.length_replicate];refine if_pos ⟨by omega,by omega,?_,?_⟩
  ·have:(0:Int)≤1*2^((days y:Nat):Int).toNat:=by rw[Int.one_mul];exact Int.le_of_lt (Int.pow_pos (by omega))
   exact Int.le_trans (by omega) this
  ·rw[Int.one_mul,Int.toNat_natCast];have:((2^days y:Nat):Int)≤1024:=by omega
   rw[Int.natCast_pow] at this;exact Int.le_trans this (by omega)
 rw[bd b];have:=PT (K:=K) cb y a hK (2^days y) K 0 (List.replicate (y.Am+1).toNat false) st (by omega) (by omega) (by rw[List.length_replicate];rfl);rw[Int.natCast_zero] at this;rw[this,Bx,List.range_eq_range',Option.bind_assoc]
 congr 1;funext r
 cases r.1<;>rfl
end Go.Proofs.YtkljfdkmjdjpfaaGreat
end
section
namespace Go.Proofs.YtkljfdkmjdjpfaaGreat
def Gr(y:Ar)(l:Be):Bool:=decide (0≤l.Au)&&(decide (l.Au≤l.AH)&&(decide (l.AH≤y.Am)&&(FK l.Aq 1 5&&(FK l.B1 1 5&&FK l.Cj 0 y.Am))))
def B4(l:Be):Int:=l.AH-l.Au+1
def Fg:List Be→Int
 |[]=>1
 |l::r=>B4 l*Fg r
def F8 (y:Ar):Int:=((Bx y).length:Int)*Fg y.Ad
def check(y:Ar):Int:=
 if 9<y.Am∨2<y.Ak∨4<(y.Ad.length:Int) then 3
 else if y.Am<0∨y.Ak<1∨FK y.Ao 0 (y.Am+1)=false∨FK y.Ay 0 (y.Am+1)=false∨y.Ad.all (Gr y)=false then 1
 else if 1000<F8 y then 3 else 0
theorem Ja{y:Ar}{l:Be}:Gr y l=true↔0≤l.Au∧l.Au≤l.AH∧l.AH≤y.Am∧(1≤l.Aq∧l.Aq≤5)∧(1≤l.B1∧l.B1≤5)∧0≤l.Cj∧l.Cj≤y.Am:=by
 unfold Gr;simp only[Bool.and_eq_true,decide_eq_true_eq,Fs]
theorem Vo(K:Nat)(y:Ar)(l:Be):Fj K y l=some (Gr y l):=by
 unfold Fj Gr G9 GY;rw[Ht,Ht,Ht];cases decide ((0:Int)≤l.Au)<;>cases decide (l.Au≤l.AH)<;>cases decide (l.AH≤y.Am)<;>cases FK l.Aq 1 5<;>cases FK l.B1 1 5<;>rfl
theorem Uk{K:Nat}(hK:2<K)(a b:Int):GI K [a,b]=some (min a b):=by
 obtain⟨k,rfl⟩:∃k,K=k+3:=⟨K-3,by omega⟩;unfold GI GU;rw[cf (df (by simp)),show(0:Int)=((0:Nat):Int) from rfl,Ca (by simp),show(1:Int)=((1:Nat):Int) from rfl,EK.eq_2,ct (dt (by simp)),Ca (by simp),BB (by omega) (by omega),EK.eq_2,cf (df (by simp))];rfl
theorem Qt(K:Nat)(l:Be)(h0:0≤l.Au)(a:l.Au≤l.AH)(b:l.AH≤9):Fq K (⟨l.Au,l.AH⟩:CK)=some (B4 l):=by
 unfold Fq;show(i64 (l.AH-l.Au)).bind _=_;rw[BB (by omega) (by omega)];show(i64 (l.AH-l.Au+1)).bind _=_;rw[BB (by omega) (by omega)];rfl
theorem Qu(K:Nat)(l:Be)(h0:0≤l.Au)(a:l.Au≤l.AH)(b:l.AH≤9):Ev K (⟨l.Au,l.AH⟩:CK)=some (B4 l):=by
 unfold Ev;show(i64 (l.AH-l.Au)).bind _=_;rw[BB (by omega) (by omega)];show(i64 (l.AH-l.Au+1)).bind _=_;rw[BB (by omega) (by omega)];rfl
def Jn(c:Int):Int→List Be→Int
 |n,[]=>n
 |n,l::r=>Jn c (min (n*B4 l) c) r
def sized(l:Be):Prop:=1≤B4 l∧B4 l≤10
theorem LH{y:Ar}{l:Be}(h9:y.Am≤9)(h:Gr y l=true):sized l:=by
 obtain⟨a,b,c,_⟩:=Ja.1 h;unfold sized B4;omega
theorem Jb:∀{ls:List Be},(∀l∈ls,sized l)→1≤Fg ls
 |[],_=>Int.le_refl _
 |l::r,h=>by
  have a:=(h l (List.mem_cons_self ..)).1;have b:=Jb (ls:=r) fun x c=>h x (List.mem_cons_of_mem _ c);have:=Int.mul_le_mul a b (by omega) (by omega);unfold Fg;omega
theorem MA{c:Int}(e:1000<c):∀{ls:List Be} (n:Int),0≤n→(∀l∈ls,sized l)→(1000<Jn c n ls↔1000<n*Fg ls)
 |[],n,_,_=>by simp[Jn,Fg]
 |l::r,n,f,h=>by
  have g:=h l (List.mem_cons_self ..);have b:∀x∈r,sized x:=fun x i=>h x (List.mem_cons_of_mem _ i);have d:=Jb b;have h0:0≤n*B4 l:=Int.mul_nonneg f (by have:=g.1;omega);unfold Jn Fg;rw[MA e _ (by omega) b,←Int.mul_assoc];rcases Int.le_total (n*B4 l) c with a|a
  ·rw[Int.min_eq_left a]
  ·rw[Int.min_eq_right a];have j:c*1≤c*Fg r:=Int.mul_le_mul_of_nonneg_left d (by omega);have k:(n*B4 l)*1≤n*B4 l*Fg r:=Int.mul_le_mul_of_nonneg_left d h0;constructor<;>intro _<;>omega
theorem O4{c:Int}(b:1000<c):∀{ls:List Be} (n:Int),0≤n→(∀l∈ls,sized l)→n*Fg ls≤1000→Jn c n ls=n*Fg ls
 |[],n,_,_,_=>by simp[Jn,Fg]
 |l::r,n,d,h,hle=>by
  have e:=h l (List.mem_cons_self ..);have a:∀x∈r,sized x:=fun x f=>h x (List.mem_cons_of_mem _ f);have g:=Jb a;have h0:0≤n*B4 l:=Int.mul_nonneg d (by have:=e.1;omega);rw[Fg,←Int.mul_assoc] at hle;rw[Jn,Fg,←Int.mul_assoc];have i:(n*B4 l)*1≤n*B4 l*Fg r:=Int.mul_le_mul_of_nonneg_left g h0;rw[Int.min_eq_left (by omega),O4 b _ h0 a hle]
theorem SV(y:Ar)(j:y.Ad.length≤4)(b:∀l∈y.Ad,sized l∧0≤l.Au∧l.AH≤9){K:Nat}(hK:2000≤K):∀(k m i:Nat) (n:Int),y.Ad.length=i+k→k<m→0≤n→n≤3000→
  Ee K y m (i:Int) n=some (Jn 1001 n (y.Ad.drop i)):=by
 intro k
 induction k with
 |zero=>
  intro m i n h hm h0 a;cases m with
  |zero=>omega
  |succ m=>rw[Ee.eq_2,cf (df (by omega)),List.drop_eq_nil_of_le (by omega)];rfl
 |succ k ih=>
  intro m i n h hm h0 a;cases m with
  |zero=>omega
  |succ m=>
   have hi:i<y.Ad.length:=by omega
   obtain⟨⟨s1,s2⟩,c,d⟩:=b y.Ad[i] (List.getElem_mem hi);have e:1≤B4 y.Ad[i]∧B4 y.Ad[i]≤10:=⟨s1,s2⟩;have f:0≤n*B4 y.Ad[i]:=Int.mul_nonneg h0 (by omega);have g:n*B4 y.Ad[i]≤3000*10:=Int.mul_le_mul a s2 (by omega) (by omega);rw[Ee.eq_2,ct (dt (by omega)),Ca hi,bd (Qt K _ c (by unfold B4 at s1;omega) d),BB (by omega) (by omega),bd (Uk (by omega) _ _),BB (by omega) (by omega),C2];rw[ih m (i+1) _ (by omega) (by omega) (by omega) (by omega),List.drop_eq_getElem_cons hi];rfl
theorem Ul(y:Ar)(j:y.Ad.length≤4)(b:∀l∈y.Ad,sized l∧0≤l.Au∧l.AH≤9){K:Nat}:∀(k m i:Nat) (n:Int),y.Ad.length=i+k→k<m→0≤n→n≤3000→
  DZ K y m n (i:Int)=some (Jn 3000 n (y.Ad.drop i)):=by
 intro k
 induction k with
 |zero=>
  intro m i n h hm h0 a;cases m with
  |zero=>omega
  |succ m=>rw[DZ.eq_2,cf (df (by omega)),List.drop_eq_nil_of_le (by omega)];rfl
 |succ k ih=>
  intro m i n h hm h0 a;cases m with
  |zero=>omega
  |succ m=>
   have hi:i<y.Ad.length:=by omega
   obtain⟨⟨s1,s2⟩,c,d⟩:=b y.Ad[i] (List.getElem_mem hi);have e:1≤B4 y.Ad[i]∧B4 y.Ad[i]≤10:=⟨s1,s2⟩;have f:0≤n*B4 y.Ad[i]:=Int.mul_nonneg h0 (by omega);have g:n*B4 y.Ad[i]≤3000*10:=Int.mul_le_mul a s2 (by omega) (by omega);rw[DZ.eq_2,ct (dt (by omega)),Ca hi,bd (Qu K _ c (by unfold B4 at s1;omega) d),BB (by omega) (by omega),BB (by omega) (by omega),C2,Int.min_comm];rw[ih m (i+1) _ (by omega) (by omega) (by omega) (by omega),List.drop_eq_getElem_cons hi];rfl
theorem M7{α:Type}:∀(l:List α) (n:Int),0≤n→n+l.length≤100000→run (fun(st:Int) (_:α)=>(i64 (st+1)).bind fun _=>some (true,st+1)) l n=some (true,n+l.length)
 |[],n,_,_=>by simp[run]
 |x::l,n,h0,a=>by
  simp only[List.length_cons] at a⊢;rw[run,BB (by omega) (by omega)];show run _ l (n+1)=_;rw[M7 l (n+1) (by omega) (by omega)]
  congr 2;omega
theorem KH(y:Ar)(h:days y≤10):(Bx y).length≤1024:=by
 have a:=IU _ h;have:(Bx y).length≤((List.range (2^days y)).map (wl (days y))).length:=List.length_filter_le ..;simp at this;omega
theorem M8{K:Nat}(y:Ar):∀(l:List Be),run (fun(st:Unit) (x:Be)=>(Fj K y x).bind fun r=>some (r,())) l ()=some (l.all (Gr y),())
 |[]=>rfl
 |x::l=>by
  rw[run,Vo];show cond (Gr y x) (run _ l ()) (some (false,()))=_;rw[M8 y l,List.all_cons];cases Gr y x<;>rfl
theorem IE{K:Nat}(hK:2000≤K)(y:Ar):DK K y=some (check y):=by
 unfold DK check
 by_cases g:9<y.Am
 ·rw[ct (dt g),if_pos (.inl g)]
 rw[cf (df g)]
 by_cases i:2<y.Ak
 ·rw[ct (dt i),if_pos (.inr (.inl i))]
 rw[cf (df i)]
 by_cases j:4<(y.Ad.length:Int)
 ·rw[ct (dt j),if_pos (.inr (.inr j))]
 rw[cf (df j),if_neg (by omega)]
 by_cases b:y.Am<0
 ·rw[ct (dt b),if_pos (.inl b)]
 rw[cf (df b)]
 by_cases d:y.Ak<1
 ·rw[ct (dt d),if_pos (.inr (.inl d))]
 rw[cf (df d),BB (by omega) (by omega),bd (Ht ..)];cases r:FK y.Ao 0 (y.Am+1) with
 |false=>rw[nf,if_pos (.inr (.inr (.inl rfl)))]
 |true=>
  rw[nt,BB (by omega) (by omega),bd (Ht ..)];cases s:FK y.Ay 0 (y.Am+1) with
  |false=>rw[nf,if_pos (.inr (.inr (.inr (.inl rfl))))]
  |true=>
   rw[nt,Qq _ _ _ (by omega) (by omega),bd (M8 y y.Ad)];cases o:y.Ad.all (Gr y) with
   |false=>rw[nf,if_pos (.inr (.inr (.inr (.inr rfl))))]
   |true=>
    rw[nt,if_neg (by simp[b,d])];have p:days y≤10:=by unfold days;omega
    have hw:=KH y p;have m:∀l∈y.Ad,sized l∧0≤l.Au∧l.AH≤9:=fun l k=>by
     have n:=List.all_eq_true.1 o l k;have:=Ja.1 n;exact⟨LH (by omega) n,this.1,by omega⟩
    have q:DJ K (fun(st:Int) (x:List Bool)=>Fk st x) y (0:Int)=some ((Bx y).length:Int):=by
     rw[Md _ y (by omega) (by omega) hK];show(run (fun(st:Int) (_:List Bool)=>(i64 (st+1)).bind fun _=>some (true,st+1)) (Bx y) 0).bind _=_;rw[M7 _ 0 (by omega) (by omega)];simp
    have a:=SV y (by omega) m hK y.Ad.length K 0 ((Bx y).length:Int) (by omega) (by omega) (by omega) (by omega);rw[Int.natCast_zero,List.drop_zero] at a;rw[bd q,bd a];have f:=MA (c:=1001) (by omega) ((Bx y).length:Int) (by omega) fun l k=>(m l k).1;unfold F8
    by_cases e:1000<((Bx y).length:Int)*Fg y.Ad
    ·rw[ct (dt (f.2 e)),if_pos e]
    ·rw[cf (df fun h=>e (f.1 h)),if_neg e]
end Go.Proofs.YtkljfdkmjdjpfaaGreat
end
section
namespace Go.Proofs.YtkljfdkmjdjpfaaGreat
def EN:List Be→List (List Int)
 |[]=>[[]]
 |l::r=>(List.range (B4 l).toNat).flatMap fun(n:Nat)=>(EN r).map fun c=>(l.Au+(n:Int))::c
def Cn(y:Ar):List AT:=(Bx y).flatMap fun w=>(EN y.Ad).map fun c=>⟨c,w⟩
section
variable{σ:Type}{K:Nat}(cb:σ→AT→Option (Bool×σ))(y:Ar)(w:List Bool)
def Tr (k i:Nat):Prop:=∀(c:List Int) (st:σ),c.length=y.Ad.length→
 (BT K cb k (i:Int) c w y st).map (fun z=>(z.1,z.2.2))=run (fun s d=>cb s ⟨c.take i++d,w⟩) (EN (y.Ad.drop i)) st∧
 ∀z,BT K cb k (i:Int) c w y st=some z→z.2.1.length=y.Ad.length∧z.2.1.take i=c.take i
def RG{α β:Type}:(Bool×α×β)⊕(α×β)→Bool×β
 |.inl x=>(false,x.2.2)
 |.inr x=>(true,x.2)
def Um{α β:Type}:(Bool×α×β)⊕(α×β)→α
 |.inl x=>x.2.1
 |.inr x=>x.1
theorem RH(k i:Nat)(hi:i<y.Ad.length)(aL:y.Ad.length≤4)(aD:∀l∈y.Ad,sized l∧0≤l.Au∧l.AH≤9)(ih:Tr (K:=K) cb y w k (i+1)):
  ∀(n m j:Nat) (c:List Int) (st:σ),(B4 y.Ad[i]).toNat=j+n→n<m→c.length=y.Ad.length→
  (Ch (BT K cb k) (i:Int) w y (B4 y.Ad[i]) m (j:Int) c st).map RG=run (fun s d=>cb s ⟨c.take i++d,w⟩) ((List.range' j n).flatMap fun(q:Nat)=>(EN (y.Ad.drop (i+1))).map fun d=>(y.Ad[i].Au+(q:Int))::d) st∧
  ∀z,Ch (BT K cb k) (i:Int) w y (B4 y.Ad[i]) m (j:Int) c st=some z→(Um z).length=y.Ad.length∧(Um z).take i=c.take i∧(∀x,z=.inl x→x.1=false):=by
 obtain⟨⟨s1,s2⟩,aM,aN⟩:=aD y.Ad[i] (List.getElem_mem hi);have aJ:1≤B4 y.Ad[i]∧B4 y.Ad[i]≤10:=⟨s1,s2⟩;intro n
 induction n with
 |zero=>
  intro m j c st h hm o;cases m with
  |zero=>omega
  |succ m=>
   rw[Ch.eq_2,cf (df (by omega))];exact⟨rfl,fun z b=>by cases b;exact⟨o,rfl,fun x p=>by cases p⟩⟩
 |succ n u=>
  intro m j c st h hm o;cases m with
  |zero=>omega
  |succ m=>
   have f:i<c.length:=by omega
   have aK:y.Ad[i].Au≤9:=by unfold B4 at s1;omega
   rw[Ch.eq_2,ct (dt (by omega)),Ca hi,BB (by omega) (by omega),Ca f,BB (by omega) (by omega),C2 i,Int.toNat_natCast];have v:(c.set i (y.Ad[i].Au+(j:Int))).length=y.Ad.length:=by rw[List.length_set];exact o
   have g:(c.set i (y.Ad[i].Au+(j:Int))).take (i+1)=c.take i++[y.Ad[i].Au+(j:Int)]:=by
    rw[List.take_add_one,List.getElem?_set_self f,List.take_set_of_le (Nat.le_refl _)];rfl
   obtain⟨t,aE⟩:=ih _ st v;rw[g] at t;rw[List.range'_succ,List.flatMap_cons,HP,run_map];have aF:run (fun s d=>cb s ⟨c.take i++[y.Ad[i].Au+(j:Int)]++d,w⟩) (EN (y.Ad.drop (i+1))) st=run (fun s d=>cb s ⟨c.take i++(y.Ad[i].Au+(j:Int))::d,w⟩) (EN (y.Ad.drop (i+1))) st:=by
    congr 1;funext s d;rw[List.append_assoc];rfl
   rw[aF] at t;rw[←t];cases aG:BT K cb k ((i+1:Nat):Int) (c.set i (y.Ad[i].Au+(j:Int))) w y st with
   |none=>exact⟨rfl,fun z b=>by cases b⟩
   |some r=>
    obtain⟨aA,aH⟩:=aE r aG;have aB:r.2.1.take i=c.take i:=by
     have:=congrArg (List.take i) aH;rw[List.take_take,Nat.min_eq_left (by omega),g,List.take_append_of_le_length (by rw[List.length_take];omega),List.take_take,Nat.min_self] at this;exact this
    obtain⟨aI,rc,e⟩:=r;cases aI with
    |false=>
     refine⟨rfl,fun z b=>?_⟩;have aC:some (Sum.inl (false,rc,e))=some z:=b;cases aC;exact⟨aA,aB,fun x p=>by cases p;rfl⟩
    |true=>
     have key:(Option.bind (some (true,rc,e)) fun a=>cond (!a.1) (some (Sum.inl (false,a.2.1,a.2.2))) ((i64 ((j:Int)+1)).bind fun _=>Ch (BT K cb k) (i:Int) w y (B4 y.Ad[i]) m ((j:Int)+1) a.2.1 a.2.2))=Ch (BT K cb k) (i:Int) w y (B4 y.Ad[i]) m ((j+1:Nat):Int) rc e:=by
      rw[Option.bind_some,nt,BB (by omega) (by omega),C2 j]
     have:=u m (j+1) rc e (by omega) (by omega) aA;rw[aB] at this;rw[key];exact this
theorem PU(t:y.Ad.length≤4)(g:∀l∈y.Ad,sized l∧0≤l.Au∧l.AH≤9)(hK:2000≤K):∀(n k i:Nat),y.Ad.length=i+n→n<k→Tr (K:=K) cb y w k i:=by
 intro n
 induction n with
 |zero=>
  intro k i h u c st f;cases k with
  |zero=>omega
  |succ k=>
   rw[BT.eq_2,ct (by rw[f,h];simp),List.drop_eq_nil_of_le (by omega)];have j:c.take i=c:=List.take_of_length_le (by omega);rw[j];simp only[EN,run,List.append_nil];cases cb st ⟨c,w⟩ with
   |none=>exact⟨rfl,fun z a=>by cases a⟩
   |some r=>
    obtain⟨b,s⟩:=r;refine⟨by cases b<;>rfl,fun z a=>?_⟩;have e:some (b,c,s)=some z:=a;cases e;exact⟨f,j⟩
 |succ n ih=>
  intro k i h u c st f;cases k with
  |zero=>omega
  |succ k=>
   have hi:i<y.Ad.length:=by omega
   obtain⟨⟨s1,s2⟩,v,aA⟩:=g y.Ad[i] (List.getElem_mem hi);rw[BT.eq_2,cf (by rw[f];simp;omega),Ca hi,bd (Qt K _ v (by unfold B4 at s1;omega) aA)];obtain⟨m,o⟩:=RH cb y w k i hi t g (ih k (i+1) (by omega) (by omega)) (B4 y.Ad[i]).toNat K 0 c st (by omega) (by omega) f;rw[Int.natCast_zero] at m o;rw[List.drop_eq_getElem_cons hi,EN,List.range_eq_range',←m];cases aB:Ch (BT K cb k) (i:Int) w y (B4 y.Ad[i]) K 0 c st with
   |none=>exact⟨rfl,fun z a=>by cases a⟩
   |some r=>
    obtain⟨p,q,aC⟩:=o r aB;cases r with
    |inl x=>
     obtain⟨b,d,s⟩:=x;obtain rfl:=aC _ rfl;refine⟨rfl,fun z a=>?_⟩;have e:some (false,d,s)=some z:=a;cases e;exact⟨p,q⟩
    |inr x=>
     obtain⟨d,s⟩:=x;refine⟨rfl,fun z a=>?_⟩;have e:some (true,d,s)=some z:=a;cases e;exact⟨p,q⟩
end
theorem M9{σ:Type}{K:Nat}(cb:σ→AT→Option (Bool×σ))(y:Ar)(e:y.Ad.length≤4)(f:∀l∈y.Ad,sized l∧0≤l.Au∧l.AH≤9)(hK:2000≤K):∀(ws:List (List Bool)) (c:List Int) (st:σ),c.length=y.Ad.length→
  (run (fun(st:(List Int)×σ×Bool) (x:(List Bool))=>cond st.2.2 none (Dw cb K y st.1 st.2.1 x)) ws (c,st,false)).bind (fun a=>cond (a.2.2.2) (some (a.2.2.1)) (some (a.2.2.1)))=
  (run cb (ws.flatMap fun w=>(EN y.Ad).map fun c=>(⟨c,w⟩:AT)) st).bind fun r=>some r.2
 |[],c,st,_=>rfl
 |w::ws,c,st,i=>by
  obtain⟨g,h⟩:=PU cb y w e f hK y.Ad.length K 0 (by omega) (by omega) c st i;rw[Int.natCast_zero,List.drop_zero,List.take_zero] at g;rw[Int.natCast_zero] at h;rw[List.flatMap_cons,HP,run_map];have j:run (fun s d=>cb s ⟨[]++d,w⟩) (EN y.Ad) st=run (fun s d=>cb s (⟨d,w⟩:AT)) (EN y.Ad) st:=rfl;rw[←j,←g,run];show(Option.bind (Dw cb K y c st w) _:Option _).bind _=_;unfold Dw;cases k:BT K cb K 0 c w y st with
  |none=>rfl
  |some r=>
   obtain⟨m,n⟩:=h r k;obtain⟨b,d,s⟩:=r;cases b with
   |false=>rfl
   |true=>
    show(run _ ws (d,s,false)).bind _=(run cb _ s).bind _;exact M9 cb y e f hK ws d s m
theorem RI{σ:Type}{K:Nat}(cb:σ→AT→Option (Bool×σ))(y:Ar)(h0:0≤y.Am)(h9:y.Am≤9)(a:y.Ad.length≤4)(b:∀l∈y.Ad,sized l∧0≤l.Au∧l.AH≤9)(hK:2000≤K)(st:σ):
  Fl K cb y st=(run cb (Cn y) st).bind fun r=>some r.2:=by
 unfold Fl;rw[O2 (by omega) (by omega) (by omega),Md _ y h0 h9 hK,Option.bind_assoc];exact M9 cb y a b hK (Bx y) (List.replicate (y.Ad.length:Int).toNat (0:Int)) st (by rw[List.length_replicate];omega)
end Go.Proofs.YtkljfdkmjdjpfaaGreat
end
section
namespace Go.Proofs.YtkljfdkmjdjpfaaGreat
def Ip:Be:=⟨0,0,0,0,0⟩
def ED(y:Ar)(i:Int):Be:=y.Ad.getD i.toNat Ip
def EO(c:List Int)(i:Int):Int:=c.getD i.toNat 0
def FJ (l:Be) (d0:Int):List Bool→Int→Int→Int→Ah
 |[],_,_,_=>⟨d0,-1,false⟩
 |true::ws,d,DV,run=>cond (DV==l.Aq) ⟨d0,d,DV==l.Aq⟩ (cond (run+1==l.B1) ⟨d0,d,DV==l.Aq⟩ (FJ l d0 ws (d+1) DV (run+1)))
 |false::ws,d,DV,run=>cond (DV+1==l.Aq) ⟨d0,d,DV+1==l.Aq⟩ (cond ((0:Int)==l.B1) ⟨d0,d,DV+1==l.Aq⟩ (FJ l d0 ws (d+1) (DV+1) 0))
def EV(y:Ar)(w:List Bool)(l:Be)(d:Int):Ah:=if y.Am<d then ⟨-1,-1,false⟩ else FJ l d (w.drop d.toNat) d 0 0
def wk(y:Ar)(w:List Bool)(m:List (List Int×Ah)):CB:=⟨y.Am,y.Ak,y.Ao,y.Ay,y.Ad,w,m⟩
theorem Vp(y:Ar)(w:List Bool)(mm:List (List Int×Ah))(p:HO)(l:Be)(h9:y.Am≤9)(hw:(w.length:Int)=y.Am+1)(b0 f:Int)(g:Bool):∀(k m d:Nat) (DV r:Int),y.Am+1=d+k→k<m→0≤DV→DV≤d→0≤r→r≤d→
  (Eb (wk y w mm) p l m DV r (d:Int) b0 f g).bind (fun z=>Sum.elim (fun a=>some ((⟨a.1,a.2.1,a.2.2⟩:Ah))) (fun a=>some ((⟨p.day,(-1),false⟩:Ah))) z)=some (FJ l p.day (w.drop d) (d:Int) DV r):=by
 intro k
 induction k with
 |zero=>
  intro m d DV r h hm h0 i j n;cases m with
  |zero=>omega
  |succ m=>
   rw[Eb.eq_2,cf (df (by show¬(d:Int)≤y.Am;omega)),List.drop_eq_nil_of_le (by omega)];rfl
 |succ k ih=>
  intro m d DV r h hm h0 i j n;cases m with
  |zero=>omega
  |succ m=>
   have b:d<w.length:=by omega
   have c:d<(wk y w mm).Df.length:=b;rw[Eb.eq_2,ct (dt (by show(d:Int)≤y.Am;omega)),Ca c,List.drop_eq_getElem_cons b];have e:(wk y w mm).Df[d]=w[d]:=rfl;rw[e];cases s:w[d] with
   |true=>
    rw[ct rfl,BB (by omega) (by omega),FJ];cases o:(DV==l.Aq) with
    |true=>rw[ct rfl,ct rfl];rfl
    |false=>
     rw[cf rfl,cf rfl];cases q:(r+1==l.B1) with
     |true=>rw[ct rfl,ct rfl];rfl
     |false=>
      rw[cf rfl,cf rfl,BB (by omega) (by omega),C2];exact ih m (d+1) DV (r+1) (by omega) (by omega) h0 (by omega) (by omega) (by omega)
   |false=>
    rw[cf rfl,BB (by omega) (by omega),FJ];cases o:(DV+1==l.Aq) with
    |true=>rw[ct rfl,ct rfl];rfl
    |false=>
     rw[cf rfl,cf rfl];cases q:((0:Int)==l.B1) with
     |true=>rw[ct rfl,ct rfl];rfl
     |false=>
      rw[cf rfl,cf rfl,BB (by omega) (by omega),C2];exact ih m (d+1) (DV+1) 0 (by omega) (by omega) (by omega) (by omega) (by omega) (by omega)
theorem Vq{K:Nat}(y:Ar)(w:List Bool)(mm:List (List Int×Ah))(i d:Int)(h9:y.Am≤9)(hw:(w.length:Int)=y.Am+1)(a:0≤i)(hi:i<(y.Ad.length:Int))(c:0≤d)(hK:2000≤K):
  FV K (wk y w mm) ⟨i,d⟩=some (EV y w (ED y i) d):=by
 unfold FV EV;show cond (decide (y.Am<d)) _ ((idx y.Ad i).bind _)=_
 by_cases h:y.Am<d
 ·rw[ct (dt h),if_pos h]
 rw[cf (df h),if_neg h];obtain⟨i,rfl⟩:=Int.eq_ofNat_of_zero_le a;obtain⟨d,rfl⟩:=Int.eq_ofNat_of_zero_le c;have b:i<y.Ad.length:=by omega
 rw[Ca b];have e:y.Ad[i]=ED y (i:Int):=by
  show y.Ad[i]=y.Ad.getD ((i:Int)).toNat Ip;rw[Int.toNat_natCast,List.getD_eq_getElem?_getD,List.getElem?_eq_getElem (by omega)];rfl
 rw[e,Int.toNat_natCast];exact Vp y w mm ⟨(i:Int),(d:Int)⟩ _ h9 hw 0 0 false (y.Am+1-d).toNat K d 0 0 (by omega) (by omega) (by omega) (by omega) (by omega) (by omega)
def GJ (y:Ar) (w:List Bool) (m:List (List Int×Ah)):Prop:=∀(i d:Int) (s:Ah),BI m [i,d]=some s→s=EV y w (ED y i) d
theorem N2(y:Ar)(w:List Bool):GJ y w []:=fun i d s h=>by cases h
theorem Un{K:Nat}(y:Ar)(w:List Bool)(mm:List (List Int×Ah))(i d:Int)(h9:y.Am≤9)(hw:(w.length:Int)=y.Am+1)(e:0≤i)(hi:i<(y.Ad.length:Int))(j:0≤d)(hK:2000≤K)(hm:GJ y w mm):
  ∃c,FG K (wk y w mm) ⟨i,d⟩=some (EV y w (ED y i) d,c)∧GJ y w c:=by
 unfold FG;show∃c,cond (!(BI mm [i,d]).isSome) ((FV K (wk y w mm) ⟨i,d⟩).bind _) _=_∧_;cases f:BI mm [i,d] with
 |none=>
  rw[bd (Vq y w mm i d h9 hw e hi j hK)];refine⟨_,rfl,fun i2 d2 s h=>?_⟩;have a:BI (HL mm [i,d] (EV y w (ED y i) d)) [i2,d2]=some s:=h;rw[ON] at a;split at a
  ·rename_i he
   have b:=List.cons.inj he;have g:=List.cons.inj b.2;rw[b.1,g.1];exact(Option.some.inj a).symm
  ·exact hm i2 d2 s a
 |some s=>
  refine⟨mm,?_,hm⟩;show some ((BI mm [i,d]).getD ⟨0,0,false⟩,mm)=_;rw[f,hm i d s f];rfl
def Ep (y:Ar) (w:List Bool) (c:List Int):List Int→Int→List Ah→List Ah
 |[],_,out=>out
 |i::r,free,out=>
  let s:=EV y w (ED y i) (max free (EO c i))
  Ep y w c r (cond (s.AF==-1) (y.Am+1) (s.AF+1)) (out.set i.toNat s)
def Gs(y:Ar)(w:List Bool)(c:List Int):List (List Int)→List Ah→List Ah
 |[],out=>out
 |l::r,out=>Gs y w c r (Ep y w c l 0 out)
def Jc:Ah:=⟨0,0,false⟩
def GD(y:Ar)(w:List Bool)(order:List (List Int))(c:List Int):List Ah:=Gs y w c order (List.replicate y.Ad.length Jc)
theorem GK(y:Ar)(w:List Bool)(c:List Int):∀(l:List Int) (free:Int) (out:List Ah),(Ep y w c l free out).length=out.length
 |[],_,_=>rfl
 |i::r,free,out=>by rw[Ep,GK y w c r];simp
theorem KI(y:Ar)(w:List Bool)(c:List Int):∀(l:List (List Int)) (out:List Ah),(Gs y w c l out).length=out.length
 |[],_=>rfl
 |i::r,out=>by rw[Gs,KI y w c r,GK]
theorem LI(l:Be)(d0:Int):∀(ws:List Bool) (d DV r:Int),0≤d→(FJ l d0 ws d DV r).AF=-1∨(d≤(FJ l d0 ws d DV r).AF∧(FJ l d0 ws d DV r).AF<d+ws.length)
 |[],d,DV,r,_=>.inl rfl
 |true::ws,d,DV,r,h=>by
  rw[FJ];cases (DV==l.Aq) with
  |true=>right;simp;omega
  |false=>
   cases (r+1==l.B1) with
   |true=>right;simp;omega
   |false=>
    rcases LI l d0 ws (d+1) DV (r+1) (by omega) with a|a
    ·exact .inl a
    ·right;simp only[List.length_cons,cond_false];omega
 |false::ws,d,DV,r,h=>by
  rw[FJ];cases (DV+1==l.Aq) with
  |true=>right;simp;omega
  |false=>
   cases ((0:Int)==l.B1) with
   |true=>right;simp;omega
   |false=>
    rcases LI l d0 ws (d+1) (DV+1) 0 (by omega) with a|a
    ·exact .inl a
    ·right;simp only[List.length_cons,cond_false];omega
theorem Qv(y:Ar)(w:List Bool)(l:Be)(d:Int)(b:0≤d)(hw:(w.length:Int)=y.Am+1):(EV y w l d).AF=-1∨(d≤(EV y w l d).AF∧(EV y w l d).AF≤y.Am):=by
 unfold EV
 by_cases h:y.Am<d
 ·rw[if_pos h];exact .inl rfl
 ·rw[if_neg h];rcases LI l d (w.drop d.toNat) d 0 0 b with a|a
  ·exact .inl a
  ·right;rw[List.length_drop] at a;omega
theorem SW{K:Nat}(y:Ar)(w:List Bool)(a:List (List Int×Ah))(c l:List Int)(h0:0≤y.Am)(h9:y.Am≤9)(hw:(w.length:Int)=y.Am+1)(hK:2000≤K)(x:∀i∈l,0≤i∧i<(y.Ad.length:Int))(aE:c.length=y.Ad.length)(aC:l.length≤1000):
  ∀(k m j:Nat) (free:Int) (out:List Ah) (mm:List (List Int×Ah)),l.length=j+k→k<m→0≤free→out.length=y.Ad.length→GJ y w mm→
  ∃b,DR K (wk y w a) c l m free (j:Int) out mm=some (Ep y w c (l.drop j) free out,b)∧GJ y w b:=by
 intro k
 induction k with
 |zero=>
  intro m j free out mm h hm z f g;cases m with
  |zero=>omega
  |succ m=>rw[DR.eq_2,cf (df (by omega)),List.drop_eq_nil_of_le (by omega)];exact⟨mm,rfl,g⟩
 |succ k ih=>
  intro m j free out mm h hm z f g;cases m with
  |zero=>omega
  |succ m=>
   have n:j<l.length:=by omega
   obtain⟨d,p⟩:=x l[j] (List.getElem_mem n);obtain⟨i,hi⟩:=Int.eq_ofNat_of_zero_le d;have e:i<c.length:=by omega
   have q:i<out.length:=by omega
   have r:c[i]=EO c l[j]:=by
    rw[hi];unfold EO;rw[Int.toNat_natCast,List.getD_eq_getElem?_getD,List.getElem?_eq_getElem e];rfl
   rw[DR.eq_2,ct (dt (by omega)),Ca n,List.drop_eq_getElem_cons n,Ep];have s:idx c l[j]=some (EO c l[j]):=by rw[←r];rw[hi];exact idx_eq e
   rw[bd s];obtain⟨b,aA,t⟩:=Un (K:=K) y w mm l[j] (max free (EO c l[j])) h9 hw d p (by omega) hK g;have u:FG K (⟨(wk y w a).BJ,(wk y w a).B3,(wk y w a).Cl,(wk y w a).Cm,(wk y w a).Ba,(wk y w a).Df,mm⟩:CB) (⟨l[j],max free (EO c l[j])⟩:HO)=some (EV y w (ED y l[j]) (max free (EO c l[j])),b):=aA;have o:idx out l[j]=some out[i]:=by rw[hi];exact idx_eq q
   have aB:=Qv y w (ED y l[j]) (max free (EO c l[j])) (by omega) hw;have aD:-1≤(EV y w (ED y l[j]) (max free (EO c l[j]))).AF∧(EV y w (ED y l[j]) (max free (EO c l[j]))).AF≤9:=by omega
   rw[bd u,bd o];show∃v,(i64 ((EV y w (ED y l[j]) (max free (EO c l[j]))).AF+1)).bind _=_∧_;rw[BB (by omega) (by omega)];show∃v,cond ((EV y w (ED y l[j]) (max free (EO c l[j]))).AF==-1) ((i64 (y.Am+1)).bind _) _=_∧_;cases aF:((EV y w (ED y l[j]) (max free (EO c l[j]))).AF==-1) with
   |true=>
    rw[ct rfl,ct rfl,BB (by omega) (by omega),BB (by omega) (by omega),C2];exact ih m (j+1) (y.Am+1) _ b (by omega) (by omega) (by omega) (by rw[List.length_set];exact f) t
   |false=>
    rw[cf rfl,cf rfl,BB (by omega) (by omega),C2];exact ih m (j+1) ((EV y w (ED y l[j]) (max free (EO c l[j]))).AF+1) _ b (by omega) (by omega) (by omega) (by rw[List.length_set];exact f) t
theorem SX{K:Nat}(y:Ar)(w:List Bool)(b:List (List Int×Ah))(c:List Int)(order:List (List Int))(h0:0≤y.Am)(h9:y.Am≤9)(hw:(w.length:Int)=y.Am+1)(hK:2000≤K)(p:∀l∈order,l.length≤1000∧∀i∈l,0≤i∧i<(y.Ad.length:Int))(q:c.length=y.Ad.length)(s:order.length≤1000):
  ∀(k m j:Nat) (out:List Ah) (mm:List (List Int×Ah)),order.length=j+k→k<m→out.length=y.Ad.length→GJ y w mm→
  ∃a,Dp K (wk y w b) order c m (j:Int) out mm=some (Gs y w c (order.drop j) out,a)∧GJ y w a:=by
 intro k
 induction k with
 |zero=>
  intro m j out mm h hm d e;cases m with
  |zero=>omega
  |succ m=>rw[Dp.eq_2,cf (df (by omega)),List.drop_eq_nil_of_le (by omega)];exact⟨mm,rfl,e⟩
 |succ k ih=>
  intro m j out mm h hm d e;cases m with
  |zero=>omega
  |succ m=>
   have f:j<order.length:=by omega
   obtain⟨g,n⟩:=p order[j] (List.getElem_mem f);obtain⟨a,o,r⟩:=SW (K:=K) y w b c order[j] h0 h9 hw hK n q g order[j].length K 0 0 out mm (by omega) (by omega) (by omega) d e;rw[Int.natCast_zero,List.drop_zero] at o;rw[Dp.eq_2,ct (dt (by omega)),Ca f,List.drop_eq_getElem_cons f,Gs,bd o,BB (by omega) (by omega),C2];exact ih m (j+1) _ a (by omega) (by omega) (by rw[GK];exact d) r
theorem Qw{K:Nat}(y:Ar)(w:List Bool)(mm:List (List Int×Ah))(c:List Int)(order:List (List Int))(h0:0≤y.Am)(h9:y.Am≤9)(k:y.Ad.length≤4)(hw:(w.length:Int)=y.Am+1)(hK:2000≤K)(e:∀l∈order,l.length≤1000∧∀i∈l,0≤i∧i<(y.Ad.length:Int))(f:c.length=y.Ad.length)(b:order.length≤1000)(g:GJ y w mm):
  ∃a,C5 K (wk y w mm) order c=some (GD y w order c,a)∧GJ y w a:=by
 unfold C5;show∃a,(KB (y.Ad.length:Int) 24).bind _=_∧_;rw[O2 (by omega) (by omega) (by omega)];obtain⟨a,d,h⟩:=SX (K:=K) y w mm c order h0 h9 hw hK e f b order.length K 0 (List.replicate y.Ad.length Jc) mm (by omega) (by omega) (by rw[List.length_replicate]) g;rw[Int.natCast_zero,List.drop_zero] at d;have j:Dp K (wk y w mm) order c K (0:Int) (List.replicate ((wk y w mm).Ba.length:Int).toNat (⟨0,0,false⟩:Ah)) (wk y w mm).known=some (Gs y w c order (List.replicate y.Ad.length Jc),a):=by
  show Dp K (wk y w mm) order c K (0:Int) (List.replicate (y.Ad.length:Int).toNat Jc) mm=_;rw[Int.toNat_natCast];exact d
 exact⟨a,bd j,h⟩
end Go.Proofs.YtkljfdkmjdjpfaaGreat
end
section
namespace Go.Proofs.YtkljfdkmjdjpfaaGreat
def iota(n:Nat):List Int:=(List.range n).map fun(i:Nat)=>(i:Int)
theorem Hm(n:Nat):(iota n).length=n:=by simp[iota]
theorem N3(n i:Nat)(h:i<n):(iota n)[i]?=some (i:Int):=by simp[iota,h]
def D6(y:Ar)(o:List (List Int)):Bool:=((o.length:Int)==y.Ak)&&(De o.flatten==iota y.Ad.length)
theorem Uo(o:List (List Int))(c:o.flatten.length≤100000):∀(k m i:Nat) (acc:List Int),o.length=i+k→k<m→o.length≤100000→acc++(o.drop i).flatten=o.flatten→
  DM o m acc (i:Int)=some o.flatten:=by
 intro k
 induction k with
 |zero=>
  intro m i acc h hm b a;cases m with
  |zero=>omega
  |succ m=>
   rw[DM.eq_2,cf (df (by omega))];rw[List.drop_eq_nil_of_le (by omega)] at a;rw[←a];simp
 |succ k ih=>
  intro m i acc h hm b a;cases m with
  |zero=>omega
  |succ m=>
   have hi:i<o.length:=by omega
   rw[List.drop_eq_getElem_cons hi,List.flatten_cons,←List.append_assoc] at a;have hlen:acc.length+o[i].length≤100000:=by
    have:=congrArg List.length a;rw[List.length_append,List.length_append] at this;omega
   rw[DM.eq_2,ct (dt (by omega)),Ca hi,Fx (by omega),BB (by omega) (by omega),C2];exact ih m (i+1) (acc++o[i]) (by omega) (by omega) b a
theorem RJ(y:Ar)(z:List Int)(l:y.Ad.length≤4):∀(k m i:Nat),y.Ad.length=i+k→k<m→(∀j,j<i→(De z).length=y.Ad.length∧(De z)[j]?=some (j:Int))→
  Dy y z m (i:Int)=some (cond ((De z==iota y.Ad.length)||decide (y.Ad.length=0)) (.inr ()) (.inl false)):=by
 intro k
 induction k with
 |zero=>
  intro m i h hm a;cases m with
  |zero=>omega
  |succ m=>
   rw[Dy.eq_2,cf (df (by omega))];have:((De z==iota y.Ad.length)||decide (y.Ad.length=0))=true:=by
    rw[Bool.or_eq_true];rcases Nat.eq_zero_or_pos i with h0|h0
    ·right;exact dt (by omega)
    ·left;rw[beq_iff_eq];have d:=(a 0 h0).1;apply List.ext_getElem?;intro j
     by_cases f:j<y.Ad.length
     ·rw[(a j (by omega)).2,N3 _ _ f]
     ·rw[List.getElem?_eq_none (by omega),List.getElem?_eq_none (by rw[Hm];omega)]
   rw[this];rfl
 |succ k ih=>
  intro m i h hm a;cases m with
  |zero=>omega
  |succ m=>
   rw[Dy.eq_2,ct (dt (by omega))];have c:decide (y.Ad.length=0)=false:=df (by omega)
   by_cases d:(De z).length=y.Ad.length
   ·rw[cf (by rw[d];simp)];have hi:i<(De z).length:=by omega
    rw[Ca hi]
    by_cases b:(De z)[i]=(i:Int)
    ·rw[b,cf (by simp),BB (by omega) (by omega),C2];refine ih m (i+1) (by omega) (by omega) fun j f=>?_
     by_cases g:j=i
     ·subst g;exact⟨d,by rw[List.getElem?_eq_getElem hi,b]⟩
     ·exact a j (by omega)
    ·rw[ct (by simpa using b)];have:((De z==iota y.Ad.length)||decide (y.Ad.length=0))=false:=by
      rw[c,Bool.or_false,beq_eq_false_iff_ne];intro e;have:(De z)[i]?=(iota y.Ad.length)[i]?:=by rw[e]
      rw[List.getElem?_eq_getElem hi,N3 _ _ (by omega)] at this;exact b (Option.some.inj this)
     rw[this];rfl
   ·rw[ct (by simp;omega)];have:((De z==iota y.Ad.length)||decide (y.Ad.length=0))=false:=by
     rw[c,Bool.or_false,beq_eq_false_iff_ne];intro e;have:=congrArg List.length e;rw[Hm] at this;omega
    rw[this];rfl
theorem KJ{K:Nat}(y:Ar)(o:List (List Int))(f:y.Ad.length≤4)(hK:2000≤K)(k:o.length≤1000)(m:o.flatten.length≤1000):Eo K y o=some (D6 y o):=by
 unfold Eo;have c:=Uo o (by omega) o.length K 0 [] (by omega) (by omega) (by omega) (by simp);have d:=RJ y o.flatten f y.Ad.length K 0 (by omega) (by omega) fun j g=>absurd g (by omega);rw[Int.natCast_zero] at c d;rw[bd c,Fx (by omega),bd d];unfold D6
 by_cases b:y.Ad.length=0
 ·rw[show((De o.flatten==iota y.Ad.length)||decide (y.Ad.length=0))=true by rw[Bool.or_eq_true];exact .inr (dt b)];show cond ((o.length:Int)==y.Ak) (some (((De o.flatten).length:Int)==(y.Ad.length:Int))) (some false)=_;have h:(((De o.flatten).length:Int)==(y.Ad.length:Int))=(De o.flatten==iota y.Ad.length):=by
   rw[b];cases e:De o.flatten with
   |nil=>rfl
   |cons a l=>
    have i:(((a::l).length:Int)==((0:Nat):Int))=false:=by simp;omega
    rw[i];rfl
  rw[h];cases ((o.length:Int)==y.Ak)<;>rfl
 ·rw[show decide (y.Ad.length=0)=false from df b,Bool.or_false];cases e:(De o.flatten==iota y.Ad.length) with
  |false=>show some false=_;rw[Bool.and_false]
  |true=>
   show cond ((o.length:Int)==y.Ak) (some (((De o.flatten).length:Int)==(y.Ad.length:Int))) (some false)=_;rw[eq_of_beq e,Hm];cases ((o.length:Int)==y.Ak)<;>simp
theorem Fc{y:Ar}{o:List (List Int)}:D6 y o=true↔(o.length:Int)=y.Ak∧o.flatten.Perm (iota y.Ad.length):=by
 unfold D6;rw[Bool.and_eq_true,beq_iff_eq,beq_iff_eq];refine and_congr_right fun _=>⟨fun h=>?_,fun h=>?_⟩
 ·rw[←h];exact(List.mergeSort_perm _ _).symm
 ·have d:(De o.flatten).Pairwise (fun a b:Int=>a≤b):=by
   have:=List.pairwise_mergeSort (le:=fun x y:Int=>decide (x≤y)) (fun a b c d e=>by simp at*;omega) (fun a b=>by simp;omega) o.flatten;exact this.imp fun h=>by simpa using h
  have e:(iota y.Ad.length).Pairwise (fun a b:Int=>a≤b):=by
   unfold iota;rw[List.pairwise_map];exact List.pairwise_lt_range.imp fun h=>by omega
  exact List.Perm.eq_of_pairwise (le:=fun a b:Int=>a≤b) (fun a b _ _ h f=>by omega) d e ((List.mergeSort_perm _ _).trans h)
theorem H0{n:Nat}{i:Int}:i∈iota n↔0≤i∧i<n:=by
 unfold iota;rw[List.mem_map];constructor
 ·rintro⟨k,a,rfl⟩;rw[List.mem_range] at a;omega
 ·rintro⟨h0,b⟩;exact⟨i.toNat,by rw[List.mem_range];omega,by omega⟩
theorem MB{y:Ar}{o:List (List Int)}(h:D6 y o=true):∀l∈o,l.length≤y.Ad.length∧∀i∈l,0≤i∧i<(y.Ad.length:Int):=by
 intro l a;have b:=(Fc.1 h).2;constructor
 ·have c:=b.length_eq;rw[Hm] at c;have:=(List.sublist_flatten_of_mem a).length_le;omega
 ·intro i hi;exact H0.1 (b.mem_iff.1 (List.mem_flatten.2 ⟨l,a,hi⟩))
def DF:List Be→List Int→Bool
 |[],[]=>true
 |l::ls,c::cs=>FK c l.Au l.AH&&DF ls cs
 |_,_=>false
def Er(y:Ar)(t:AT):Bool:=decide ((t.Ao.length:Int)=y.Am+1)&&(Hu y t.Ao&&DF y.Ad t.Comes)
theorem GV:∀{ls:List Be} {cs:List Int},DF ls cs=true→cs.length=ls.length
 |[],[],_=>rfl
 |_::ls,_::cs,h=>by
  rw[DF,Bool.and_eq_true] at h;rw[List.length_cons,List.length_cons,GV h.2]
 |[],_::_,h=>by cases h
 |_::_,[],h=>by cases h
theorem Qx(K:Nat)(y:Ar)(t:AT)(b:y.Ad.length≤4)(c:t.Comes.length=y.Ad.length):∀(k m i:Nat),y.Ad.length=i+k→k<m→
  Dx K y t m (i:Int)=some (cond (DF (y.Ad.drop i) (t.Comes.drop i)) (.inr ()) (.inl false)):=by
 intro k
 induction k with
 |zero=>
  intro m i h hm;cases m with
  |zero=>omega
  |succ m=>rw[Dx.eq_2,cf (df (by omega)),List.drop_eq_nil_of_le (by omega),List.drop_eq_nil_of_le (by omega)];rfl
 |succ k ih=>
  intro m i h hm;cases m with
  |zero=>omega
  |succ m=>
   have hi:i<y.Ad.length:=by omega
   have a:i<t.Comes.length:=by omega
   rw[Dx.eq_2,ct (dt (by omega)),Ca hi,Ca a,bd (Ht ..),List.drop_eq_getElem_cons hi,List.drop_eq_getElem_cons a,DF];cases d:FK t.Comes[i] y.Ad[i].Au y.Ad[i].AH with
   |false=>rw[nf];rfl
   |true=>rw[nt,BB (by omega) (by omega),C2,Bool.true_and];exact ih m (i+1) (by omega) (by omega)
theorem Qy{K:Nat}(y:Ar)(t:AT)(h0:0≤y.Am)(h9:y.Am≤9)(b:y.Ad.length≤4)(hK:2000≤K):FA K y t=some (Er y t):=by
 unfold FA Er
 by_cases a:t.Comes.length=y.Ad.length
 ·rw[cf (by rw[a];simp),BB (by omega) (by omega)]
  by_cases hw:(t.Ao.length:Int)=y.Am+1
  ·rw[cf (by rw[hw];simp),bd (M6 y t.Ao (by omega) (by omega)),dt hw,Bool.true_and];show cond (!(Hu y t.Ao)) _ _=_;cases Hu y t.Ao with
   |false=>rw[nf];rfl
   |true=>
    have:=Qx K y t b a y.Ad.length K 0 (by omega) (by omega);rw[Int.natCast_zero,List.drop_zero,List.drop_zero] at this;rw[nt,bd this,Bool.true_and];cases DF y.Ad t.Comes<;>rfl
  ·rw[ct (by simpa using hw),df hw];rfl
 ·rw[ct (by simp;omega)];cases c:DF y.Ad t.Comes with
  |false=>rw[Bool.and_false,Bool.and_false]
  |true=>exact absurd (GV c) a
theorem GW{c:List Int}:∀{ls:List Be},c∈EN ls↔DF ls c=true
 |[]=>by
  cases c with
  |nil=>simp[EN,DF]
  |cons a l=>simp[EN,DF]
 |l::r=>by
  rw[EN,List.mem_flatMap];constructor
  ·rintro⟨n,b,e⟩;obtain⟨d,f,rfl⟩:=List.mem_map.1 e;rw[DF,Bool.and_eq_true];rw[List.mem_range] at b;unfold B4 at b;exact⟨Fs.2 (by omega),GW.1 f⟩
  ·intro h;cases c with
   |nil=>simp[DF] at h
   |cons a d=>
    rw[DF,Bool.and_eq_true] at h;have g:=Fs.1 h.1;refine⟨(a-l.Au).toNat,?_,List.mem_map.2 ⟨d,GW.2 h.2,?_⟩⟩
    ·rw[List.mem_range];unfold B4;omega
    ·congr 1;omega
def bitsOf:List Bool→Nat
 |[]=>0
 |b::l=>(cond b 1 0)+2*bitsOf l
theorem Hn:∀(l:List Bool) (d:Nat),(bitsOf l).testBit d=l.getD d false
 |[],d=>by simp[bitsOf]
 |b::l,0=>by rw[bitsOf,Nat.testBit_zero];cases b<;>simp<;>omega
 |b::l,d+1=>by
  rw[Nat.testBit_succ,bitsOf];have:((cond b 1 0)+2*bitsOf l)/2=bitsOf l:=by cases b<;>simp<;>omega
  rw[this,Hn l d];rfl
theorem KK:∀(l:List Bool),bitsOf l<2^l.length
 |[]=>by simp[bitsOf]
 |b::l=>by
  have:=KK l;rw[bitsOf,List.length_cons,Nat.pow_succ];cases b<;>simp<;>omega
theorem Na(l:List Bool):wl l.length (bitsOf l)=l:=by
 apply List.ext_getElem?;intro i;unfold wl;rw[List.getElem?_map]
 by_cases h:i<l.length
 ·rw[List.getElem?_range h,List.getElem?_eq_getElem h];show some ((bitsOf l).testBit i)=_;rw[Hn,List.getD_eq_getElem?_getD,List.getElem?_eq_getElem h];rfl
 ·rw[List.getElem?_eq_none (by simp;omega),List.getElem?_eq_none (by omega)];rfl
theorem Iq{y:Ar}{w:List Bool}:w∈Bx y↔w.length=days y∧Hu y w=true:=by
 unfold Bx;rw[List.mem_filter,List.mem_map];constructor
 ·rintro⟨⟨b,_,rfl⟩,h⟩;exact⟨FQ _ _,h⟩
 ·rintro⟨a,c⟩;exact⟨⟨bitsOf w,by rw[List.mem_range,←a];exact KK w,by rw[←a];exact Na w⟩,c⟩
theorem G6{y:Ar}(h0:0≤y.Am){t:AT}:t∈Cn y↔Er y t=true:=by
 unfold Cn Er;rw[List.mem_flatMap,Bool.and_eq_true,Bool.and_eq_true,decide_eq_true_eq];constructor
 ·rintro⟨w,hw,d⟩;obtain⟨c,e,rfl⟩:=List.mem_map.1 d;obtain⟨b,a⟩:=Iq.1 hw;unfold days at b;exact⟨by show(w.length:Int)=_;omega,a,GW.1 e⟩
 ·rintro⟨b,a,f⟩;exact⟨t.Ao,Iq.2 ⟨by unfold days;omega,a⟩,List.mem_map.2 ⟨t.Comes,GW.2 f,rfl⟩⟩
theorem Vr(a b:List Bool)(j:a.length≤1000)(g:a.length=b.length):∀(k m i:Nat),a.length=i+k→k<m→DL a b m (i:Int)=some (cond (a.drop i==b.drop i) (.inr ()) (.inl false)):=by
 intro k
 induction k with
 |zero=>
  intro m i h hm;cases m with
  |zero=>omega
  |succ m=>rw[DL.eq_2,cf (df (by omega)),List.drop_eq_nil_of_le (by omega),List.drop_eq_nil_of_le (by omega)];rfl
 |succ k ih=>
  intro m i h hm;cases m with
  |zero=>omega
  |succ m=>
   have c:i<a.length:=by omega
   have d:i<b.length:=by omega
   rw[DL.eq_2,ct (dt (by omega)),Ca c,Ca d,List.drop_eq_getElem_cons c,List.drop_eq_getElem_cons d];cases f:(a[i] !=b[i]) with
   |true=>
    rw[ct rfl];have:(a[i]::a.drop (i+1)==b[i]::b.drop (i+1))=false:=by
     rw[List.cons_beq_cons];have:(a[i]==b[i])=false:=by simpa[bne] using f
     rw[this,Bool.false_and]
    rw[this];rfl
   |false=>
    have e:a[i]=b[i]:=by simpa[bne] using f
    rw[cf rfl,BB (by omega) (by omega),C2,ih m (i+1) (by omega) (by omega),List.cons_beq_cons,e,beq_self_eq_true,Bool.true_and]
theorem Vs{K:Nat}(a b:List Bool)(c:a.length≤1000)(hK:2000≤K):EL K a b=some (a==b):=by
 unfold EL
 by_cases h:a.length=b.length
 ·have:=Vr a b c h a.length K 0 (by omega) (by omega);rw[Int.natCast_zero,List.drop_zero,List.drop_zero] at this;rw[cf (by rw[h];simp),bd this];cases (a==b)<;>rfl
 ·rw[ct (by simp;omega)];have:(a==b)=false:=by
   rw[beq_eq_false_iff_ne];intro e;exact h (by rw[e])
  rw[this]
structure Fe(y:Ar):Prop where
 h0:0≤y.Am
 h9:y.Am≤9
 r1:1≤y.Ak
 r2:y.Ak≤2
 n4:y.Ad.length≤4
 w0:0≤y.Ao
 w1:y.Ao≤y.Am+1
 u0:0≤y.Ay
 u1:y.Ay≤y.Am+1
 N4:∀l∈y.Ad,Gr y l=true
 many:F8 y≤1000
theorem GZ{y:Ar}(h:check y=0):Fe y:=by
 unfold check at h;split at h
 ·cases h
 ·rename_i d
  split at h
  ·cases h
  ·rename_i b
   split at h
   ·cases h
   ·rename_i f
    rw[not_or,not_or] at d;rw[not_or,not_or,not_or,not_or] at b;have hw:FK y.Ao 0 (y.Am+1)=true:=by cases a:FK y.Ao 0 (y.Am+1) with|true=>rfl|false=>exact absurd a b.2.2.1
    have c:FK y.Ay 0 (y.Am+1)=true:=by cases a:FK y.Ay 0 (y.Am+1) with|true=>rfl|false=>exact absurd a b.2.2.2.1
    have e:y.Ad.all (Gr y)=true:=by cases a:y.Ad.all (Gr y) with|true=>rfl|false=>exact absurd a b.2.2.2.2
    rw[Fs] at hw c;exact⟨by omega,by omega,by omega,by omega,by omega,hw.1,hw.2,c.1,c.2,List.all_eq_true.1 e,by omega⟩
theorem Fe.sz{y:Ar}(h:Fe y):∀l∈y.Ad,sized l∧0≤l.Au∧l.AH≤9:=fun l b=>by
 have a:=h.N4 l b;have:=Ja.1 a;have:=h.h9;exact⟨LH h.h9 a,by omega,by omega⟩
def Vt(y:Ar):Option CB→Prop
 |none=>True
 |some x=>∃w m,x=wk y w m∧(w.length:Int)=y.Am+1∧GJ y w m
theorem Qz{σ:Type}{K:Nat}(cb:σ→AT×List Ah→Option (Bool×σ))(y:Ar)(f:Fe y)(o:List (List Int))(v:D6 y o=true)(hK:2000≤K):∀(d:List AT) (h:Option CB) (s:σ),(∀t∈d,Er y t=true)→Vt y h→
  (run (fun(st:(Option CB)×σ×Bool) (x:AT)=>cond st.2.2 none (DT cb K y o st.1 st.2.1 x)) d (h,s,false)).bind (fun g=>cond g.2.2.2 (some g.2.2.1) (some g.2.2.1))=(run (fun s t=>cb s (t,GD y t.Ao o t.Comes)) d s).bind fun r=>some r.2
 |[],h,s,_,_=>rfl
 |t::d,h,s,aA,aH=>by
  have j:=aA t (List.mem_cons_self ..);have aB:∀x∈d,Er y x=true:=fun x aI=>aA x (List.mem_cons_of_mem _ aI);unfold Er at j;rw[Bool.and_eq_true,Bool.and_eq_true,decide_eq_true_eq] at j;obtain⟨hw,_,aJ⟩:=j;have aC:=GV aJ;have q:=MB v;have aD:o.length≤1000:=by have:=(Fc.1 v).1;have:=f.r2;omega
  have z:∀l∈o,l.length≤1000∧∀i∈l,0≤i∧i<(y.Ad.length:Int):=fun l aE=>⟨by have:=(q l aE).1;have:=f.n4;omega,(q l aE).2⟩;rw[run,run];show(Option.bind (DT cb K y o h s t) _:Option _).bind _=_
  
  have key:∀(m:List (List Int×Ah)),GJ y t.Ao m→∃c,GJ y t.Ao c∧C5 K (wk y t.Ao m) o t.Comes=some (GD y t.Ao o t.Comes,c):=fun m hm=>by
   obtain⟨c,aK,aL⟩:=Qw (K:=K) y t.Ao m t.Comes o f.h0 f.h9 f.n4 hw hK z aC aD hm;exact⟨c,aL,aK⟩
  have fin:∀(c:List (List Int×Ah)),GJ y t.Ao c→
    (Option.bind ((cb s (t,GD y t.Ao o t.Comes)).bind fun a=>cond (!a.1) (some (false,(some (wk y t.Ao c)),a.2,true)) (some (true,(some (wk y t.Ao c)),a.2,false))) fun r=>cond r.1 (run (fun(st:(Option CB)×σ×Bool) (x:AT)=>cond st.2.2 none (DT cb K y o st.1 st.2.1 x)) d r.2) (some (false,r.2))).bind (fun g=>cond g.2.2.2 (some g.2.2.1) (some g.2.2.1))=
    (Option.bind (cb s (t,GD y t.Ao o t.Comes)) fun r=>cond r.1 (run (fun s t=>cb s (t,GD y t.Ao o t.Comes)) d r.2) (some (false,r.2))).bind fun r=>some r.2:=fun c k=>by
   cases cb s (t,GD y t.Ao o t.Comes) with
   |none=>rfl
   |some r=>
    obtain⟨b,s2⟩:=r;cases b with
    |false=>rfl
    |true=>exact Qz cb y f o v hK d (some (wk y t.Ao c)) s2 aB ⟨t.Ao,c,rfl,hw,k⟩
  unfold DT;obtain⟨n,u,aM⟩:=key [] (N2 _ _);have aP:=f.h9;have e:(FT (((0+t.Ao.length:Nat):Int)≤140737488355328/1)).bind (fun _=>(C5 K (⟨y.Am,y.Ak,y.Ao,y.Ay,y.Ad,t.Ao,[]⟩:CB) o t.Comes).bind fun p=>(cb s (t,p.1)).bind fun a=>cond (!a.1) (some (false,(some (⟨y.Am,y.Ak,y.Ao,y.Ay,y.Ad,t.Ao,p.2⟩:CB)),a.2,true)) (some (true,(some (⟨y.Am,y.Ak,y.Ao,y.Ay,y.Ad,t.Ao,p.2⟩:CB)),a.2,false)))=
    (cb s (t,GD y t.Ao o t.Comes)).bind fun a=>cond (!a.1) (some (false,(some (wk y t.Ao n)),a.2,true)) (some (true,(some (wk y t.Ao n)),a.2,false)):=by
   have aF:C5 K (⟨y.Am,y.Ak,y.Ao,y.Ay,y.Ad,t.Ao,[]⟩:CB) o t.Comes=some (GD y t.Ao o t.Comes,n):=aM;rw[Fx (by omega),bd aF];rfl
  cases h with
  |none=>
   show(Option.bind ((FT _).bind _) _:Option _).bind _=_;rw[e];exact fin n u
  |some x=>
   obtain⟨w,m,rfl,aQ,aG⟩:=aH;show(Option.bind ((EL K w t.Ao).bind _) _:Option _).bind _=_;rw[bd (Vs w t.Ao (by omega) hK)];cases aN:(w==t.Ao) with
   |false=>
    rw[nf,e];exact fin n u
   |true=>
    obtain rfl:=eq_of_beq aN;obtain⟨c,k,aO⟩:=key m aG;rw[nt,bd aO];exact fin c k
theorem QA{σ:Type}{K:Nat}(cb:σ→AT×List Ah→Option (Bool×σ))(y:Ar)(a:Fe y)(o:List (List Int))(b:D6 y o=true)(hK:2000≤K)(s:σ):
  FH K cb y o s=(run (fun s t=>cb s (t,GD y t.Ao o t.Comes)) (Cn y) s).bind fun r=>some r.2:=by
 unfold FH;rw[RI _ y a.h0 a.h9 a.n4 a.sz hK,Option.bind_assoc];exact Qz cb y a o b hK (Cn y) none s (fun t c=>(G6 a.h0).1 c) trivial
end Go.Proofs.YtkljfdkmjdjpfaaGreat
end
section
namespace Go.Proofs.YtkljfdkmjdjpfaaGreat
def Gf(l:Be)(s:Ah):Bool:=s.Aq&&decide (s.AF≤l.Cj)
theorem MC(K:Nat)(l:Be)(s:Ah):Dj K l s=some (Gf l s):=by unfold Dj Gf;cases s.Aq<;>rfl
theorem O5(K:Nat)(l:Be)(s:Ah):Ew K l s=some (!Gf l s):=by unfold Ew;rw[bd (MC ..)]
def Gy (p:Be→Ah→Bool):List Be→List Ah→Nat
 |l::ls,s::ss=>(cond (p l s) 1 0)+Gy p ls ss
 |_,_=>0
def Dq(l:Be)(s:Ah):Bool:= !Gf l s
def C8(y:Ar)(ss:List Ah):Nat:=Gy Dq y.Ad ss
theorem MD(p:Be→Ah→Bool):∀(ls:List Be) (ss:List Ah),Gy p ls ss≤ls.length
 |l::ls,s::ss=>by
  have:=MD p ls ss;rw[Gy,List.length_cons];cases p l s<;>simp<;>omega
 |[],_=>by simp[Gy]
 |_::_,[]=>by simp[Gy]
theorem Up{K:Nat}(y:Ar)(ss:List Ah)(d:y.Ad.length≤4)(e:ss.length=y.Ad.length):∀(k m i:Nat) (a:Int),ss.length=i+k→k<m→0≤a→a≤i→
  DS K y ss m a (i:Int)=some (a+(Gy Dq (y.Ad.drop i) (ss.drop i):Nat)):=by
 intro k
 induction k with
 |zero=>
  intro m i a h hm h0 c;cases m with
  |zero=>omega
  |succ m=>
   rw[DS.eq_2,cf (df (by omega)),List.drop_eq_nil_of_le («as»:=y.Ad) (by omega),Gy]
   ·simp
   ·intro _ _ _ _ h;cases h
 |succ k ih=>
  intro m i a h hm h0 c;cases m with
  |zero=>omega
  |succ m=>
   have hi:i<ss.length:=by omega
   have b:i<y.Ad.length:=by omega
   rw[DS.eq_2,ct (dt (by omega)),Ca hi,Ca b,bd (O5 ..),List.drop_eq_getElem_cons hi,List.drop_eq_getElem_cons b,Gy];show cond (Dq y.Ad[i] ss[i]) _ _=_;cases f:Dq y.Ad[i] ss[i] with
   |true=>
    rw[ct rfl,BB (by omega) (by omega),BB (by omega) (by omega),C2,ih m (i+1) (a+1) (by omega) (by omega) (by omega) (by omega)]
    congr 1
    show a+1+_=a+((1+Gy Dq _ _:Nat):Int);omega
   |false=>
    rw[cf rfl,BB (by omega) (by omega),C2,ih m (i+1) a (by omega) (by omega) (by omega) (by omega)]
    congr 1
    show a+_=a+((0+Gy Dq _ _:Nat):Int);omega
theorem QB{K:Nat}(y:Ar)(ss:List Ah)(a:y.Ad.length≤4)(b:ss.length=y.Ad.length)(hK:2000≤K):E1 K y ss=some (C8 y ss:Int):=by
 unfold E1;have:=Up (K:=K) y ss a b ss.length K 0 0 (by omega) (by omega) (by omega) (by omega);rw[Int.natCast_zero,List.drop_zero,List.drop_zero] at this;rw[bd this];simp[C8]
theorem GL(y:Ar)(w:List Bool)(o:List (List Int))(c:List Int):(GD y w o c).length=y.Ad.length:=by unfold GD;rw[KI,List.length_replicate]
def B6 (y:Ar) (o:List (List Int)) (t:AT):List Ah:=GD y t.Ao o t.Comes
theorem QC{K:Nat}(y:Ar)(o:List (List Int))(t:AT)(hK:2000≤K)(d:o.length≤1000)(g:o.flatten.length≤1000):
  Gw K y o t=some (if check y≠0 then ([],check y) else if D6 y o=false∨Er y t=false then ([],2) else (B6 y o t,0)):=by
 unfold Gw;rw[bd (IE hK y)]
 by_cases h:check y=0
 ·rw[h,cf (by decide),if_neg (by simp)];have a:=GZ h;rw[bd (KJ y o a.n4 hK d g)];cases i:D6 y o with
  |false=>rw[nf,if_pos (.inl rfl)]
  |true=>
   rw[nt,bd (Qy y t a.h0 a.h9 a.n4 hK)];cases j:Er y t with
   |false=>rw[nf,if_pos (.inr rfl)]
   |true=>
    rw[nt,if_neg (by simp)];have b:=j;unfold Er at b;rw[Bool.and_eq_true,Bool.and_eq_true,decide_eq_true_eq] at b;have c:=MB i;obtain⟨k,e,_⟩:=Qw (K:=K) y t.Ao [] t.Comes o a.h0 a.h9 a.n4 b.1 hK (fun l f=>⟨by have:=(c l f).1;have:=a.n4;omega,(c l f).2⟩) (GV b.2.2) d (N2 _ _);have m:C5 K (⟨y.Am,y.Ak,y.Ao,y.Ay,y.Ad,t.Ao,[]⟩:CB) o t.Comes=some (GD y t.Ao o t.Comes,k):=e;rw[bd m];rfl
 ·rw[ct (by simpa using h),if_pos h]
def Iy (y:Ar) (o:List (List Int)):List AT→Int×AT→Int×AT
 |[],s=>s
 |t::a,s=>
  let s2:=if s.1<(C8 y (B6 y o t):Int) then ((C8 y (B6 y o t):Int),t) else s
  cond (decide (s2.1<(y.Ad.length:Int))) (Iy y o a s2) s2
def CX(y:Ar)(o:List (List Int)):Int×AT:=Iy y o (Cn y) (-1,⟨[],[]⟩)
theorem N5{K:Nat}(y:Ar)(b:Fe y)(o:List (List Int))(hK:2000≤K):∀(a:List AT) (s:Int×AT),(∀t∈a,Er y t=true)→
  (run (fun(st:Int×AT) t=>(E4 K t (B6 y o t) y st.1 st.2).bind fun r=>some (r.1,(r.2.1,r.2.2))) a s).bind (fun r=>some r.2)=some (Iy y o a s)
 |[],s,_=>rfl
 |t::a,s,d=>by
  have c:=d t (List.mem_cons_self ..);unfold Er at c;rw[Bool.and_eq_true,Bool.and_eq_true,decide_eq_true_eq] at c;have f:=GV c.2.2;have g:=b.n4;have h9:=b.h9;rw[run,Iy];unfold E4;rw[bd (QB y (B6 y o t) b.n4 (GL ..) hK)]
  by_cases h:s.1<(C8 y (B6 y o t):Int)
  ·rw[ct (dt h),Fx (by omega),Fx (by omega),if_pos h];show(cond (decide ((C8 y (B6 y o t):Int)<(y.Ad.length:Int))) _ _:Option (Bool×Int×AT)).bind _=some (cond (decide ((C8 y (B6 y o t):Int)<(y.Ad.length:Int))) _ _);cases decide ((C8 y (B6 y o t):Int)<(y.Ad.length:Int)) with
   |false=>rfl
   |true=>exact N5 y b o hK a _ fun x e=>d x (List.mem_cons_of_mem _ e)
  ·rw[cf (df h),if_neg h];show(cond (decide (s.1<(y.Ad.length:Int))) _ _:Option (Bool×Int×AT)).bind _=some (cond (decide (s.1<(y.Ad.length:Int))) _ _);cases decide (s.1<(y.Ad.length:Int)) with
   |false=>rfl
   |true=>exact N5 y b o hK a s fun x e=>d x (List.mem_cons_of_mem _ e)
theorem QD{K:Nat}(y:Ar)(a:Fe y)(o:List (List Int))(b:D6 y o=true)(hK:2000≤K):FI K y o=some (CX y o):=by
 unfold FI;rw[QA _ y a o b hK];have:=N5 y a o hK (Cn y) (-1,⟨[],[]⟩) fun t c=>(G6 a.h0).1 c;exact Eq.trans (bd this) rfl
theorem QE{K:Nat}(y:Ar)(o:List (List Int))(hK:2000≤K)(b:o.length≤1000)(c:o.flatten.length≤1000):
  Gx K y o=some (if check y≠0 then (0,⟨[],[]⟩,check y) else if D6 y o=false then (0,⟨[],[]⟩,2) else ((CX y o).1,(CX y o).2,0)):=by
 unfold Gx;rw[bd (IE hK y)]
 by_cases h:check y=0
 ·rw[h,cf (by decide),if_neg (by simp)];have a:=GZ h;rw[bd (KJ y o a.n4 hK b c)];cases d:D6 y o with
  |false=>rw[nf,if_pos rfl]
  |true=>rw[nt,if_neg (by simp),bd (QD y a o d hK)]
 ·rw[ct (by simpa using h),if_pos h]
theorem KL{K:Nat}(y:Ar)(o:List (List Int))(n:Int)(hK:2000≤K)(a:o.length≤1000)(b:o.flatten.length≤1000):
  CL K y o n=some (decide (check y=0)&&(D6 y o&&decide ((CX y o).1≤n))):=by
 unfold CL;rw[bd (QE y o hK a b)]
 by_cases h:check y=0
 ·rw[if_neg (by simp[h]),dt h];cases c:D6 y o with
  |false=>rw[if_pos rfl];rfl
  |true=>rw[if_neg (by simp)];rfl
 ·rw[if_pos h,df h,cf (by simpa using h)];rfl
theorem Lp{K:Nat}(y:Ar)(o:List (List Int))(t:AT)(n:Int)(hK:2000≤K)(a:o.length≤1000)(b:o.flatten.length≤1000):
  CJ K y o t n=some (decide (check y=0)&&(D6 y o&&(Er y t&&decide (n≤(C8 y (B6 y o t):Int))))):=by
 unfold CJ;rw[bd (QC y o t hK a b)]
 by_cases h:check y=0
 ·rw[if_neg (by simp[h]),dt h];cases c:D6 y o with
  |false=>rw[if_pos (.inl rfl)];rfl
  |true=>
   cases d:Er y t with
   |false=>rw[if_pos (.inr rfl)];rfl
   |true=>
    rw[if_neg (by simp)];show(E1 K y (B6 y o t)).bind _=_;rw[bd (QB y (B6 y o t) (GZ h).n4 (GL ..) hK)];rfl
 ·rw[if_pos h,df h,cf (by simpa using h)];rfl
def Hl(p:Be→Ah→Bool):List Be→List Ah→List Int→List Int
 |l::ls,s::ss,a::as=>(cond (p l s) (a+1) a)::Hl p ls ss as
 |_,_,as=>as
theorem SB(x:BQ)(k:Nat)(v:Int)(h:k<4):(x.set k v).l=x.l.set k v:=by
 match k,h with
 |0,_=>rfl
 |1,_=>rfl
 |2,_=>rfl
 |3,_=>rfl
theorem LJ(p:Be→Ah→Bool)(ss:List Ah)(as:List Int):Hl p [] ss as=as:=by cases as<;>rfl
theorem SY{K:Nat}(p:Be→Ah→Bool)(y:Ar)(ss:List Ah)(q:y.Ad.length≤4)(r:ss.length=y.Ad.length):∀(k m i:Nat) (a:BQ),ss.length=i+k→k<m→(∀x∈a.l.drop i,0≤x∧x≤100000)→
  ∃b:BQ,CP (fun(st:Unit) (x:Be×Ah)=>some (p x.1 x.2,())) ss y m (i:Int) a.a0 a.a1 a.a2 a.a3 ()=some (b.a0,b.a1,b.a2,b.a3,())∧b.l=a.l.take i++Hl p (y.Ad.drop i) (ss.drop i) (a.l.drop i):=by
 intro k
 induction k with
 |zero=>
  intro m i a h hm e;cases m with
  |zero=>omega
  |succ m=>
   rw[CP.eq_2,cf (df (by omega)),List.drop_eq_nil_of_le («as»:=y.Ad) (by omega),LJ];exact⟨a,rfl,(List.take_append_drop ..).symm⟩
 |succ k ih=>
  intro m i a h hm e;cases m with
  |zero=>omega
  |succ m=>
   have hi:i<ss.length:=by omega
   have f:i<y.Ad.length:=by omega
   have c:i<a.l.length:=by show i<4;omega
   rw[CP.eq_2,ct (dt (by omega)),Ca hi,Ca f,Option.bind_some,List.drop_eq_getElem_cons hi,List.drop_eq_getElem_cons f,List.drop_eq_getElem_cons c,Hl];cases s:p y.Ad[i] ss[i] with
   |true=>
    have t:=e a.l[i] (by rw[List.drop_eq_getElem_cons c];exact List.mem_cons_self ..);have g:idx [a.a0,a.a1,a.a2,a.a3] (i:Int)=some a.l[i]:=idx_eq c;rw[ct rfl,bd g,BB (by omega) (by omega),bd g,BB (by omega) (by omega),C2,Int.toNat_natCast];obtain⟨b,j,n⟩:=ih m (i+1) (a.set i (a.l[i]+1)) (by omega) (by omega) (fun x d=>by
     rw[SB _ _ _ (by omega),List.drop_set_of_lt (by omega)] at d;exact e x (by rw[List.drop_eq_getElem_cons c];exact List.mem_cons_of_mem _ d))
    refine⟨b,j,?_⟩;rw[n,SB _ _ _ (by omega),List.take_add_one,List.getElem?_set_self c,List.take_set_of_le (Nat.le_refl _),List.drop_set_of_lt (by omega)];simp
   |false=>
    rw[cf rfl,BB (by omega) (by omega),C2];obtain⟨b,j,n⟩:=ih m (i+1) a (by omega) (by omega) fun x d=>e x (by rw[List.drop_eq_getElem_cons c];exact List.mem_cons_of_mem _ d);refine⟨b,j,?_⟩;have o:a.l.take (i+1)=a.l.take i++[a.l[i]]:=by rw[List.take_add_one,List.getElem?_eq_getElem c];rfl
    rw[n,o,List.append_assoc];rfl
theorem RK{K:Nat}(p:Be→Ah→Bool)(y:Ar)(t:AT)(ss:List Ah)(e:y.Ad.length≤4)(f:ss.length=y.Ad.length)(hK:2000≤K)(n:Int)(a:BQ)(h:0≤n∧n≤100000)(g:∀x∈a.l,0≤x∧x≤100000):
  ∃b:BQ,C7 K (fun(st:Unit) (x:Be×Ah)=>some (p x.1 x.2,())) t ss n y a ()=some (true,n+1,b,())∧b.l=Hl p y.Ad ss a.l:=by
 unfold C7;obtain⟨b,c,d⟩:=SY (K:=K) p y ss e f ss.length K 0 a (by omega) (by omega) (by rw[List.drop_zero];exact g);rw[Int.natCast_zero] at c;rw[List.take_zero,List.drop_zero,List.drop_zero,List.drop_zero,List.nil_append] at d;rw[BB (by omega) (by omega),bd c];exact⟨b,rfl,d⟩
theorem O6(p:Be→Ah→Bool)(B:Int):∀(ls:List Be) (ss:List Ah) (as:List Int),(∀x∈as,0≤x∧x≤B)→∀x∈Hl p ls ss as,0≤x∧x≤B+1
 |l::ls,s::ss,a::as,h,x,b=>by
  rw[Hl] at b;rcases List.mem_cons.1 b with rfl|b
  ·have:=h a (List.mem_cons_self ..);cases p l s<;>simp<;>omega
  ·exact O6 p B ls ss as (fun z c=>h z (List.mem_cons_of_mem _ c)) x b
 |[],_,as,h,x,b=>by
  rw[LJ] at b;have:=h x b;omega
 |l::ls,[],as,h,x,b=>by
  have e:Hl p (l::ls) [] as=as:=by cases as<;>rfl
  rw[e] at b;have:=h x b;omega
 |l::ls,s::ss,[],h,x,b=>by
  have e:Hl p (l::ls) (s::ss) []=[]:=rfl;rw[e] at b;cases b
def ME (p:Be→Ah→Bool) (y:Ar) (o:List (List Int)):List AT→List Int→List Int
 |[],a=>a
 |t::b,a=>ME p y o b (Hl p y.Ad (B6 y o t) a)
theorem N6{K:Nat}(p:Be→Ah→Bool)(y:Ar)(d:Fe y)(o:List (List Int))(hK:2000≤K):∀(c:List AT) (n:Int) (a:BQ) (B:Int),0≤n→n+c.length≤100000→B+c.length≤100000→(∀x∈a.l,0≤x∧x≤B)→
  ∃b:BQ,run (fun(st:Int×BQ×Unit) t=>(C7 K (fun(st:Unit) (x:Be×Ah)=>some (p x.1 x.2,())) t (B6 y o t) st.1 y st.2.1 st.2.2).bind fun r=>some (r.1,(r.2.1,r.2.2.1,r.2.2.2))) c (n,a,())=some (true,n+c.length,b,())∧b.l=ME p y o c a.l
 |[],n,a,B,_,_,_,_=>⟨a,by simp[run],rfl⟩
 |t::c,n,a,B,h0,g,h,e=>by
  rw[List.length_cons] at g h;obtain⟨b,i,f⟩:=RK (K:=K) p y t (B6 y o t) d.n4 (GL ..) hK n a (by omega) (fun x j=>by have:=e x j;omega);obtain⟨k,m,q⟩:=N6 p y d o hK c (n+1) b (B+1) (by omega) (by omega) (by omega) (by rw[f];exact O6 p B _ _ _ e);refine⟨k,?_,by rw[q,f];rfl⟩;rw[run];show Option.bind ((C7 K _ t (B6 y o t) n y a ()).bind _) _=_;rw[bd i];show run _ c (n+1,b,())=_;rw[m,List.length_cons]
  congr 3;omega
theorem MF(y:Ar)(b:Fe y):((Cn y).length:Int)=F8 y:=by
 have d:∀ls:List Be,(∀l∈ls,sized l)→((EN ls).length:Int)=Fg ls:=by
  intro ls
  induction ls with
  |nil=>intro _;rfl
  |cons l r ih=>
   intro h;have a:=(h l (List.mem_cons_self ..)).1;rw[EN,Fg,List.length_flatMap,←ih fun x e=>h x (List.mem_cons_of_mem _ e)];have:((List.range (B4 l).toNat).map fun(n:Nat)=>((EN r).map fun c=>(l.Au+(n:Int))::c).length)=List.replicate (B4 l).toNat (EN r).length:=by
    apply List.ext_getElem
    ·simp
    ·intro i a f;simp
   rw[this,List.sum_replicate_nat,Int.natCast_mul]
   congr 1;omega
 unfold Cn F8;rw[List.length_flatMap,←d y.Ad fun l g=>(b.sz l g).1];have:((Bx y).map fun w=>((EN y.Ad).map fun c=>(⟨c,w⟩:AT)).length)=List.replicate (Bx y).length (EN y.Ad).length:=by
  apply List.ext_getElem
  ·simp
  ·intro i a f;simp
 rw[this,List.sum_replicate_nat,Int.natCast_mul]
def DA (p:Be→Ah→Bool) (y:Ar) (o:List (List Int)):List Int:=ME p y o (Cn y) [0,0,0,0]
theorem MG{K:Nat}(p:Be→Ah→Bool)(y:Ar)(a:Fe y)(o:List (List Int))(c:D6 y o=true)(hK:2000≤K):
  ∃b:BQ,CD K (fun(st:Unit) (x:Be×Ah)=>some (p x.1 x.2,())) y o ()=some (b,((Cn y).length:Int),())∧b.l=DA p y o:=by
 unfold CD;rw[QA _ y a o c hK];have g:=MF y a;have:=a.many;obtain⟨b,d,e⟩:=N6 (K:=K) p y a o hK (Cn y) 0 ⟨0,0,0,0⟩ 0 (by omega) (by omega) (by omega) (by intro x f;simp[BQ.l] at f;omega);refine⟨b,?_,e⟩;refine Eq.trans (congrArg (fun z=>Option.bind (Option.bind z _) _) d) ?_;rw[Int.zero_add];rfl
end Go.Proofs.YtkljfdkmjdjpfaaGreat
end
section
namespace Go.Proofs.YtkljfdkmjdjpfaaGreat
def F2(y:Ar)(i:Nat):Be:=y.Ad.getD i Ip
def Nw(y:Ar)(o:List (List Int))(t:AT)(i:Nat):Ah:=(B6 y o t).getD i Jc
def KM (y:Ar) (o:List (List Int)) (i:Nat) (t:AT):Bool:=Gf (F2 y i) (Nw y o t i)
theorem N7(p:Be→Ah→Bool):∀(ls:List Be) (ss:List Ah) (as:List Int) (i:Nat),i<ls.length→i<ss.length→i<as.length→
  (Hl p ls ss as).getD i 0=as.getD i 0+(cond (p (ls.getD i Ip) (ss.getD i Jc)) 1 0)
 |l::ls,s::ss,a::as,0,_,_,_=>by
  rw[Hl];show cond (p l s) (a+1) a=a+cond (p l s) 1 0;cases p l s<;>simp
 |l::ls,s::ss,a::as,i+1,b,c,d=>by
  rw[Hl];exact N7 p ls ss as i (by simpa using b) (by simpa using c) (by simpa using d)
theorem Lq(p:Be→Ah→Bool):∀(ls:List Be) (ss:List Ah) (as:List Int),(Hl p ls ss as).length=as.length
 |l::ls,s::ss,a::as=>by rw[Hl,List.length_cons,Lq p ls ss as,List.length_cons]
 |[],ss,as=>by rw[LJ]
 |l::ls,[],as=>by
  have e:Hl p (l::ls) [] as=as:=by cases as<;>rfl
  rw[e]
 |l::ls,s::ss,[]=>rfl
theorem N8(p:Be→Ah→Bool)(y:Ar)(o:List (List Int))(i:Nat)(hi:i<y.Ad.length):∀(a:List AT) (as:List Int),i<as.length→
  (ME p y o a as).getD i 0=as.getD i 0+(a.countP (fun t=>p (F2 y i) (Nw y o t i)):Nat)
 |[],as,_=>by simp[ME]
 |t::a,as,h=>by
  rw[ME,N8 p y o i hi a _ (by rw[Lq];exact h),N7 p _ _ _ i hi (by rw[B6,GL];exact hi) h,List.countP_cons];unfold F2 Nw;cases p (y.Ad.getD i Ip) ((B6 y o t).getD i Jc)<;>simp<;>omega
theorem Me(p:Be→Ah→Bool)(y:Ar)(a:Fe y)(o:List (List Int))(i:Nat)(hi:i<y.Ad.length):(DA p y o).getD i 0=((Cn y).countP (fun t=>p (F2 y i) (Nw y o t i)):Nat):=by
 unfold DA;have b:=a.n4;rw[N8 p y o i hi _ _ (by show i<4;omega)];have:([0,0,0,0]:List Int).getD i 0=0:=by
  match i,(show i<4 by omega) with
  |0,_=>rfl
  |1,_=>rfl
  |2,_=>rfl
  |3,_=>rfl
 rw[this,Int.zero_add]
theorem Nx(b:BQ)(i:Nat)(h:i<4):idx [b.a0,b.a1,b.a2,b.a3] (i:Int)=some (b.l.getD i 0):=by
 have:i<[b.a0,b.a1,b.a2,b.a3].length:=h;rw[idx_eq this];show some b.l[i]=_;rw[List.getD_eq_getElem?_getD,List.getElem?_eq_getElem (show i<b.l.length from h)];rfl
def verdict (y:Ar) (o:List (List Int)) (i:Nat):Int:=cond ((Cn y).all (KM y o i)) 1 (cond ((Cn y).all fun t=> !KM y o i t) 2 3)
theorem Nb{α:Type}(p:α→Bool)(l:List α):((((l.countP p:Nat):Int)==(l.length:Int)))=l.all p:=by
 rw[Bool.eq_iff_iff,beq_iff_eq,List.all_eq_true,Int.ofNat_inj,List.countP_eq_length]
theorem PV{α:Type}(p:α→Bool)(l:List α):((((l.countP p:Nat):Int)==0))=l.all fun t=> !p t:=by
 rw[Bool.eq_iff_iff,beq_iff_eq,List.all_eq_true,show(0:Int)=((0:Nat):Int) from rfl,Int.ofNat_inj,List.countP_eq_zero];simp
theorem SZ{K:Nat}(y:Ar)(o:List (List Int))(n:Int)(hK:2000≤K)(e:o.length≤1000)(f:o.flatten.length≤1000):
  Fm K y o n=some (if check y≠0 then (0,check y) else if D6 y o=false∨FK n 0 ((y.Ad.length:Int)-1)=false then (0,2) else (verdict y o n.toNat,0)):=by
 unfold Fm;rw[bd (IE hK y)]
 by_cases h:check y=0
 ·rw[h,cf (by decide),if_neg (by simp)];have a:=GZ h;have m:=a.n4;rw[bd (KJ y o a.n4 hK e f)];cases g:D6 y o with
  |false=>rw[nf,if_pos (.inl rfl)]
  |true=>
   have j:F3 K y n=some (FK n 0 ((y.Ad.length:Int)-1)):=by
    unfold F3;rw[BB (by omega) (by omega),bd (Ht ..)]
   rw[nt,bd j];cases c:FK n 0 ((y.Ad.length:Int)-1) with
   |false=>rw[nf,if_pos (.inr rfl)]
   |true=>
    rw[nt,if_neg (by simp)];rw[Fs] at c;obtain⟨i,rfl⟩:=Int.eq_ofNat_of_zero_le c.1;have hi:i<y.Ad.length:=by omega
    obtain⟨b,k,l⟩:=MG (K:=K) Gf y a o g hK;have d:CD K (fun(st:Unit) (x:Be×Ah)=>(Dj K x.1 x.2).bind fun r=>some (r,())) y o ()=some (b,((Cn y).length:Int),()):=by
     rw[←k];congr 1;funext st x;rw[bd (MC ..)]
    rw[bd d,bd (Nx b i (by omega)),l,Me Gf y a o i hi,Int.toNat_natCast];unfold verdict;show cond ((((Cn y).countP (KM y o i):Nat):Int)==((Cn y).length:Int)) _ (cond ((((Cn y).countP (KM y o i):Nat):Int)==0) _ _)=_;rw[Nb,PV];cases (Cn y).all (KM y o i)<;>cases (Cn y).all (fun t=> !KM y o i t)<;>rfl
 ·rw[ct (by simpa using h),if_pos h]
theorem JW(y:Ar)(o:List (List Int)):∀(a:List AT) (s:Int×AT),s.1<(y.Ad.length:Int)∨a=[]→
  (∀t∈a,(C8 y (B6 y o t):Int)≤(Iy y o a s).1)∧s.1≤(Iy y o a s).1∧((Iy y o a s)=s∨∃t∈a,(Iy y o a s)=((C8 y (B6 y o t):Int),t))
 |[],s,_=>⟨fun t j=>(by cases j),Int.le_refl _,.inl rfl⟩
 |t::a,s,h=>by
  have g:s.1<(y.Ad.length:Int):=by
   rcases h with h|h
   ·exact h
   ·cases h
  have hle:∀x,(C8 y (B6 y o x):Int)≤(y.Ad.length:Int):=fun x=>by
   have:=MD Dq y.Ad (B6 y o x);unfold C8;omega
  rw[Iy]
  by_cases i:s.1<(C8 y (B6 y o t):Int)
  ·rw[if_pos i];show(∀x∈t::a,_≤(cond (decide ((C8 y (B6 y o t):Int)<(y.Ad.length:Int))) _ _:Int×AT).1)∧_
   by_cases e:(C8 y (B6 y o t):Int)<(y.Ad.length:Int)
   ·rw[ct (dt e)];obtain⟨f,d,b⟩:=JW y o a ((C8 y (B6 y o t):Int),t) (.inl e);refine⟨fun x c=>?_,by have k:(C8 y (B6 y o t):Int)≤_:=d;omega,.inr ?_⟩
    ·rcases List.mem_cons.1 c with rfl|c
     ·exact d
     ·exact f x c
    ·rcases b with b|⟨x,c,b⟩
     ·exact⟨t,List.mem_cons_self ..,b⟩
     ·exact⟨x,List.mem_cons_of_mem _ c,b⟩
   ·rw[cf (df e)];exact⟨fun x _=>Int.le_trans (hle x) (by show(y.Ad.length:Int)≤(C8 y (B6 y o t):Int);omega),by show s.1≤(C8 y (B6 y o t):Int);omega,.inr ⟨t,List.mem_cons_self ..,rfl⟩⟩
  ·rw[if_neg i];show(∀x∈t::a,_≤(cond (decide (s.1<(y.Ad.length:Int))) _ _:Int×AT).1)∧_;rw[ct (dt g)];obtain⟨f,d,b⟩:=JW y o a s (.inl g);refine⟨fun x c=>?_,d,?_⟩
   ·rcases List.mem_cons.1 c with rfl|c
    ·omega
    ·exact f x c
   ·rcases b with b|⟨x,c,b⟩
    ·exact .inl b
    ·exact .inr ⟨x,List.mem_cons_of_mem _ c,b⟩
theorem Mf{y:Ar}(f:Fe y):Cn y≠[]:=by
 have g:wl (days y) 0∈Bx y:=by
  refine Iq.2 ⟨FQ _ _,?_⟩;have key:∀(l:List Bool) (s r:Int),(∀b∈l,b=false)→okW y.Ao y.Ay l s r=true:=by
   intro l
   induction l with
   |nil=>intros;rfl
   |cons b l ih=>
    intro s r h;have a:=h b (List.mem_cons_self ..);subst a;rw[okW];exact ih s 0 fun x c=>h x (List.mem_cons_of_mem _ c)
  refine key _ 0 0 fun b a=>?_;unfold wl at a;obtain⟨d,_,rfl⟩:=List.mem_map.1 a;exact Nat.zero_testBit d
 have i:DF y.Ad (y.Ad.map (·.Au))=true:=by
  have key:∀ls:List Be,(∀l∈ls,sized l)→DF ls (ls.map (·.Au))=true:=by
   intro ls
   induction ls with
   |nil=>intro _;rfl
   |cons l r ih=>
    intro h;have:=(h l (List.mem_cons_self ..)).1;rw[List.map_cons,DF,Bool.and_eq_true];exact⟨Fs.2 (by unfold B4 at this;omega),ih fun x c=>h x (List.mem_cons_of_mem _ c)⟩
  exact key _ fun l j=>(f.sz l j).1
 intro e;have:(⟨y.Ad.map (·.Au),wl (days y) 0⟩:AT)∈Cn y:=by
  unfold Cn;exact List.mem_flatMap.2 ⟨_,g,List.mem_map.2 ⟨_,GW.2 i,rfl⟩⟩
 rw[e] at this;cases this
theorem HQ {y:Ar} (c:Fe y) (o:List (List Int)):(∀t,Er y t=true→(C8 y (B6 y o t):Int)≤(CX y o).1)∧Er y (CX y o).2=true∧(CX y o).1=(C8 y (B6 y o (CX y o).2):Int):=by
 obtain⟨d,e,a⟩:=JW y o (Cn y) (-1,⟨[],[]⟩) (.inl (by show(-1:Int)<_;omega));refine⟨fun t b=>d t ((G6 c.h0).2 b),?_⟩;rcases a with a|⟨t,b,a⟩
 ·exfalso;obtain⟨t,b⟩:=List.exists_mem_of_ne_nil _ (Mf c);have:=d t b;rw[a] at this;have f:(C8 y (B6 y o t):Int)≤-1:=this;omega
 ·unfold CX;rw[a];exact⟨(G6 c.h0).1 b,rfl⟩
theorem RL{y:Ar}(d:Fe y)(o:List (List Int))(n:Int)(f:∀t,Er y t=true→(C8 y (B6 y o t):Int)≤n)(g:∃t,Er y t=true∧(C8 y (B6 y o t):Int)=n):(CX y o).1=n:=by
 obtain⟨a,b,c⟩:=HQ d o;obtain⟨t,h,e⟩:=g;have:=a t h;have:=f _ b;omega
end Go.Proofs.YtkljfdkmjdjpfaaGreat
end
section
namespace Go.Proofs.YtkljfdkmjdjpfaaGreat
def EE:Nat→Nat→List (List Int)→List (List (List Int))
 |0,_,o=>[o]
 |k+1,i,o=>(List.range o.length).flatMap fun r=>(List.range ((o.getD r []).length+1)).flatMap fun(a:Nat)=>EE k (i+1) (o.set r (C1 (o.getD r []) (a:Int) (i:Int)))
def GM(y:Ar):List (List (List Int)):=EE y.Ad.length 0 (List.replicate y.Ak.toNat [])
section
variable{σ:Type}{K:Nat}(cb:σ→List (List Int)→Option (Bool×σ))(y:Ar)
def Or(n k i:Nat):Prop:=∀(o:List (List Int)) (st:σ),(∀l∈o,l.length≤i)→o.length≤1000→
 (BE K cb k (i:Int) y o st).map (fun z=>(z.1,z.2.2))=run cb (EE n i o) st∧
 ∀z,BE K cb k (i:Int) y o st=some z→z.1=true→z.2.1=o
theorem N9{l:List (List Int)}{r:Nat}(h:r<l.length):l.set r (l.getD r [])=l:=by
 rw[List.getD_eq_getElem?_getD,List.getElem?_eq_getElem h];exact List.set_getElem_self h
theorem QF(n k i r:Nat)(hi:i≤10)(o:List (List Int))(s:r<o.length)(v:o.length≤1000)(hlen:∀l∈o,l.length≤i)(ih:Or (K:=K) cb y n k (i+1)):
  ∀(c m a:Nat) (q:List (List Int)) (st:σ),(o.getD r []).length+1=a+c→c<m→q.length=o.length→q.set r (o.getD r [])=o→
  (Cp (BE K cb k) (i:Int) y (r:Int) (o.getD r []) m (a:Int) q st).map RG=run cb ((List.range' a c).flatMap fun(a:Nat)=>EE n (i+1) (o.set r (C1 (o.getD r []) (a:Int) (i:Int)))) st∧
  ∀z,Cp (BE K cb k) (i:Int) y (r:Int) (o.getD r []) m (a:Int) q st=some z→(∀x,z=.inl x→x.1=false)∧(∀x,z=.inr x→x.1.length=o.length∧x.1.set r (o.getD r [])=o):=by
 have aH:(o.getD r []).length≤i:=by
  rw[List.getD_eq_getElem?_getD,List.getElem?_eq_getElem s];exact hlen _ (List.getElem_mem s)
 intro c
 induction c with
 |zero=>
  intro m a q st h hm w f;cases m with
  |zero=>omega
  |succ m=>
   rw[Cp.eq_2,cf (df (by omega))];exact⟨rfl,fun z g=>by cases g;exact⟨fun x e=>(by cases e),fun x e=>by cases e;exact⟨w,f⟩⟩⟩
 |succ c aA=>
  intro m a q st h hm w f;cases m with
  |zero=>omega
  |succ m=>
   have aB:r<q.length:=by omega
   have t:q.set r (C1 (o.getD r []) (a:Int) (i:Int))=o.set r (C1 (o.getD r []) (a:Int) (i:Int)):=by
    have h:(q.set r (o.getD r [])).set r (C1 (o.getD r []) (a:Int) (i:Int))=o.set r (C1 (o.getD r []) (a:Int) (i:Int)):=by rw[f]
    rw[List.set_set] at h;exact h
   rw[Cp.eq_2,ct (dt (by omega)),Fx (by omega),Fx (by omega),Ca aB,BB (by omega) (by omega),C2 i,Int.toNat_natCast,t];obtain⟨aD,aE⟩:=ih (o.set r (C1 (o.getD r []) (a:Int) (i:Int))) st (fun l aF=>by
    rcases List.mem_or_eq_of_mem_set aF with u|u
    ·have:=hlen l u;omega
    ·rw[u,Ln];omega) (by rw[List.length_set];exact v)
   rw[List.range'_succ,List.flatMap_cons,HP,←aD];cases aG:BE K cb k ((i+1:Nat):Int) y (o.set r (C1 (o.getD r []) (a:Int) (i:Int))) st with
   |none=>exact⟨rfl,fun z g=>by cases g⟩
   |some z0=>
    obtain⟨b,j,s2⟩:=z0;cases b with
    |false=>
     refine⟨rfl,fun z g=>?_⟩;have aC:some (Sum.inl (false,j,s2))=some z:=g;cases aC;exact⟨fun x e=>by cases e;rfl,fun x e=>by cases e⟩
    |true=>
     have p:j=o.set r (C1 (o.getD r []) (a:Int) (i:Int)):=aE _ aG rfl;have key:(Option.bind (some (true,j,s2)) fun d=>cond (!d.1) (some (Sum.inl (false,d.2.1,d.2.2))) ((i64 ((a:Int)+1)).bind fun _=>Cp (BE K cb k) (i:Int) y (r:Int) (o.getD r []) m ((a:Int)+1) d.2.1 d.2.2))=Cp (BE K cb k) (i:Int) y (r:Int) (o.getD r []) m ((a+1:Nat):Int) j s2:=by
      rw[Option.bind_some,nt,BB (by omega) (by omega),C2 a]
     rw[key];exact aA m (a+1) j s2 (by omega) (by omega) (by rw[p,List.length_set]) (by rw[p,List.set_set];exact N9 s)
theorem QG(n k i:Nat)(hi:i≤10)(hK:2000≤K)(o:List (List Int))(p:o.length≤1000)(hlen:∀l∈o,l.length≤i)(ih:Or (K:=K) cb y n k (i+1)):
  ∀(c m r:Nat) (st:σ),o.length=r+c→c<m→
  (Ci (BE K cb k) K (i:Int) y o m (r:Int) o st).map RG=run cb ((List.range' r c).flatMap fun r=>(List.range ((o.getD r []).length+1)).flatMap fun(a:Nat)=>EE n (i+1) (o.set r (C1 (o.getD r []) (a:Int) (i:Int)))) st∧
  ∀z,Ci (BE K cb k) K (i:Int) y o m (r:Int) o st=some z→(∀x,z=.inl x→x.1=false)∧(∀x,z=.inr x→x.1=o):=by
 intro c
 induction c with
 |zero=>
  intro m r st h hm;cases m with
  |zero=>omega
  |succ m=>
   rw[Ci.eq_2,cf (df (by omega))];exact⟨rfl,fun z j=>by cases j;exact⟨fun x f=>(by cases f),fun x f=>by cases f;rfl⟩⟩
 |succ c q=>
  intro m r st h hm;cases m with
  |zero=>omega
  |succ m=>
   have g:r<o.length:=by omega
   have aF:(o.getD r []).length≤i:=by
    rw[List.getD_eq_getElem?_getD,List.getElem?_eq_getElem g];exact hlen _ (List.getElem_mem g)
   have s:o[r]=o.getD r []:=by rw[List.getD_eq_getElem?_getD,List.getElem?_eq_getElem g];rfl
   rw[Ci.eq_2,ct (dt (by omega)),Ca g,s,BB (by omega) (by omega)];obtain⟨t,u⟩:=QF cb y n k i r hi o g p hlen ih ((o.getD r []).length+1) K 0 o st (by omega) (by omega) rfl (N9 g);rw[Int.natCast_zero] at t u;rw[List.range'_succ,List.flatMap_cons,HP,List.range_eq_range',←t];cases aA:Cp (BE K cb k) (i:Int) y (r:Int) (o.getD r []) K 0 o st with
   |none=>exact⟨rfl,fun z j=>by cases j⟩
   |some z0=>
    obtain⟨aB,aC⟩:=u _ aA;cases z0 with
    |inl x=>
     obtain⟨b,e,s2⟩:=x;obtain rfl:b=false:=aB _ rfl;refine⟨rfl,fun z j=>?_⟩;have v:some (Sum.inl (false,e,s2))=some z:=j;cases v;exact⟨fun x f=>by cases f;rfl,fun x f=>by cases f⟩
    |inr x=>
     obtain⟨e,s2⟩:=x;obtain⟨aD,aE⟩:=aC _ rfl;have aG:e.length=o.length:=aD;have w:e.set r (o.getD r [])=o:=aE;have key:(Option.bind (some (Sum.inr (e,s2):(Bool×List (List Int)×σ)⊕(List (List Int)×σ))) fun z=>Sum.elim (fun d=>some (Sum.inl (d.1,d.2.1,d.2.2))) (fun d=>(idx d.1 (r:Int)).bind fun _=>(i64 ((r:Int)+1)).bind fun _=>Ci (BE K cb k) K (i:Int) y o m ((r:Int)+1) (d.1.set (r:Int).toNat (o.getD r [])) d.2) z)=Ci (BE K cb k) K (i:Int) y o m ((r+1:Nat):Int) o s2:=by
      rw[Option.bind_some];show(idx e (r:Int)).bind _=_;rw[Ca (show r<e.length by omega),BB (by omega) (by omega),C2 r];show Ci _ K _ y o m _ (e.set (r:Int).toNat (o.getD r [])) s2=_;rw[Int.toNat_natCast,w]
     rw[key];exact q m (r+1) s2 (by omega) (by omega)
theorem QH(t:y.Ad.length≤4)(hK:2000≤K):∀(n k i:Nat),y.Ad.length=i+n→n<k→Or (K:=K) cb y n k i:=by
 intro n
 induction n with
 |zero=>
  intro k i h l o st hlen e;cases k with
  |zero=>omega
  |succ k=>
   rw[BE.eq_2,ct (by rw[h];simp)];rw[EE,run];cases cb st o with
   |none=>exact⟨rfl,fun z a=>by cases a⟩
   |some r=>
    obtain⟨b,s⟩:=r;refine⟨by cases b<;>rfl,fun z a _=>?_⟩;have c:some (b,o,s)=some z:=a;cases c;rfl
 |succ n ih=>
  intro k i h l o st hlen e;cases k with
  |zero=>omega
  |succ k=>
   rw[BE.eq_2,cf (by simp;omega)];obtain⟨f,g⟩:=QG cb y n k i (by omega) hK o e hlen (ih k (i+1) (by omega) (by omega)) o.length K 0 st (by omega) (by omega);rw[Int.natCast_zero] at f g;rw[EE,List.range_eq_range',←f];cases m:Ci (BE K cb k) K (i:Int) y o K 0 o st with
   |none=>exact⟨rfl,fun z a=>by cases a⟩
   |some z0=>
    obtain⟨p,q⟩:=g _ m;cases z0 with
    |inl x=>
     obtain⟨b,d,s2⟩:=x;obtain rfl:b=false:=p _ rfl;refine⟨rfl,fun z a j=>?_⟩;have c:some (false,d,s2)=some z:=a;cases c;cases j
    |inr x=>
     obtain⟨d,s2⟩:=x;obtain rfl:d=o:=q _ rfl;refine⟨rfl,fun z a j=>?_⟩;have c:some (true,d,s2)=some z:=a;cases c;rfl
end
theorem Oa{σ:Type}{K:Nat}(cb:σ→List (List Int)→Option (Bool×σ))(y:Ar)(a:Fe y)(hK:2000≤K)(st:σ):E5 K cb y st=(run cb (GM y) st).bind fun r=>some r.2:=by
 unfold E5;have:=a.r1;have:=a.r2;rw[O2 (by omega) (by omega) (by omega)];obtain⟨b,_⟩:=QH cb y a.n4 hK y.Ad.length K 0 (by omega) (by have:=a.n4;omega) (List.replicate y.Ak.toNat []) st (fun l c=>by rw[(List.mem_replicate.1 c).2];exact Nat.le_refl _) (by rw[List.length_replicate];omega);rw[Int.natCast_zero] at b;unfold GM;rw[←b];cases BE K cb K 0 y (List.replicate y.Ak.toNat []) st with
 |none=>rfl
 |some z=>rfl
end Go.Proofs.YtkljfdkmjdjpfaaGreat
end
section
namespace Go.Proofs.YtkljfdkmjdjpfaaGreat
theorem QI(l:List Int)(a i:Int):(C1 l a i).Perm (i::l):=by
 unfold C1;refine List.perm_middle.trans (List.Perm.cons _ ?_);rw[List.take_append_drop]
theorem IV(v:Int):∀(o:List (List Int)) (r:Nat) (a:Int),r<o.length→(o.set r (C1 (o.getD r []) a v)).flatten.Perm (v::o.flatten)
 |l::o,0,a,_=>by
  show(C1 l a v++o.flatten).Perm (v::(l++o.flatten));exact(QI l a v).append_right _
 |l::o,r+1,a,h=>by
  show(l++(o.set r (C1 (o.getD r []) a v)).flatten).Perm (v::(l++o.flatten));exact((IV v o r a (by simpa using h)).append_left l).trans List.perm_middle
theorem KN(n:Nat):iota (n+1)=iota n++[(n:Int)]:=by simp[iota,List.range_succ]
theorem Mg:∀(k i:Nat) (c o:List (List Int)),c.flatten.Perm (iota i)→o∈EE k i c→o.length=c.length∧o.flatten.Perm (iota (i+k))
 |0,i,c,o,h,b=>by
  rw[EE,List.mem_singleton] at b;subst b;exact⟨rfl,h⟩
 |k+1,i,c,o,h,b=>by
  rw[EE,List.mem_flatMap] at b;obtain⟨r,d,b⟩:=b;obtain⟨a,_,b⟩:=List.mem_flatMap.1 b;rw[List.mem_range] at d;obtain⟨e,f⟩:=Mg k (i+1) _ o (by
   rw[KN];exact((IV (i:Int) c r (a:Int) d).trans (h.cons _)).trans (List.perm_append_singleton _ _).symm) b
  rw[List.length_set] at e;exact⟨e,by rw[show i+(k+1)=i+1+k by omega];exact f⟩
theorem Iz{y:Ar}(a:Fe y){o:List (List Int)}(h:o∈GM y):D6 y o=true:=by
 have:=Mg _ 0 _ o (by
  have:(List.replicate y.Ak.toNat ([]:List Int)).flatten=[]:=by simp
  rw[this];exact List.Perm.refl _) h
 rw[List.length_replicate,Nat.zero_add] at this;refine Fc.2 ⟨?_,this.2⟩;have:=a.r1;omega
theorem KO:∀(k i:Nat) (c o:List (List Int)) (r a:Nat),o∈EE k i c→r<o.length→a≤(o.getD r []).length→o.set r (C1 (o.getD r []) (a:Int) ((i+k:Nat):Int))∈EE (k+1) i c
 |0,i,c,o,r,a,b,d,e=>by
  rw[EE,List.mem_singleton] at b;subst b;rw[EE,List.mem_flatMap];refine⟨r,List.mem_range.2 d,List.mem_flatMap.2 ⟨a,List.mem_range.2 (by omega),?_⟩⟩;rw[EE,List.mem_singleton];rfl
 |k+1,i,c,o,r,a,b,d,e=>by
  rw[EE,List.mem_flatMap] at b;obtain⟨r1,f,b⟩:=b;obtain⟨a1,g,b⟩:=List.mem_flatMap.1 b;rw[EE,List.mem_flatMap];refine⟨r1,f,List.mem_flatMap.2 ⟨a1,g,?_⟩⟩;have:=KO k (i+1) _ o r a b d e;rw[show i+1+k=i+(k+1) by omega] at this;exact this
theorem Mh (v:Int):∀(o:List (List Int)),v∈o.flatten→∃(o':List (List Int)) (r a:Nat),r<o'.length∧a≤(o'.getD r []).length∧o=o'.set r (C1 (o'.getD r []) (a:Int) v)∧o.flatten.Perm (v::o'.flatten)∧o'.length=o.length
 |[],h=>by cases h
 |l::o,h=>by
  by_cases b:v∈l
  ·obtain⟨s,t,rfl⟩:=List.append_of_mem b;refine⟨(s++t)::o,0,s.length,by simp,by simp,?_,?_,by simp⟩
   ·show _=C1 (s++t) (s.length:Int) v::o;unfold C1;rw[Int.toNat_natCast,List.take_left,List.drop_left]
   ·show((s++v::t)++o.flatten).Perm (v::((s++t)++o.flatten));exact(List.perm_middle (a:=v) (l₁:=s) (l₂:=t)).append_right _
  ·have c:v∈o.flatten:=by
    rw[List.flatten_cons,List.mem_append] at h;exact h.resolve_left b
   obtain⟨o',r,a,d,e,f,g,i⟩:=Mh v o c;refine⟨l::o',r+1,a,by simpa using d,e,?_,?_,by simp[i]⟩
   ·show l::o=l::o'.set r (C1 (o'.getD r []) (a:Int) v);rw[←f]
   ·show(l++o.flatten).Perm (v::(l++o'.flatten));exact(g.append_left l).trans List.perm_middle
theorem Lr(Mn:Nat):∀(n:Nat) (o:List (List Int)),o.length=Mn→o.flatten.Perm (iota n)→o∈EE n 0 (List.replicate Mn [])
 |0,o,c,b=>by
  rw[EE,List.mem_singleton];have he:o.flatten=[]:=b.eq_nil;rw[List.flatten_eq_nil_iff] at he;exact List.eq_replicate_iff.2 ⟨c,he⟩
 |n+1,o,c,b=>by
  have e:(n:Int)∈o.flatten:=b.mem_iff.2 (by rw[KN];simp);obtain⟨o',r,a,f,g,h,i,k⟩:=Mh (n:Int) o e;have d:o'.flatten.Perm (iota n):=by
   have j:(iota (n+1)).Perm ((n:Int)::iota n):=by rw[KN];exact List.perm_append_singleton _ _
   exact(List.perm_cons _).1 ((i.symm.trans b).trans j)
  have:=KO n 0 _ o' r a (Lr Mn n o' (by omega) d) f g;rw[Nat.zero_add] at this;rw[h];exact this
theorem Ls{y:Ar}(a:Fe y){o:List (List Int)}:o∈GM y↔D6 y o=true:=by
 refine⟨Iz a,fun h=>?_⟩;have b:=Fc.1 h;exact Lr _ _ o (by omega) b.2
theorem PW{y:Ar}(a:Fe y):GM y≠[]:=by
 have:((iota y.Ad.length)::List.replicate (y.Ak.toNat-1) [])∈GM y:=by
  refine(Ls a).2 (Fc.2 ⟨?_,?_⟩)
  ·have:=a.r1;simp;omega
  ·simp
 intro e;rw[e] at this;cases this
theorem RM(p:List (List Int))(c:p.length≤1000)(a:∀l∈p,l.length≤1000):∀(k m i:Nat),p.length=i+k→k<m→E2 p m (i:Int) p=some p:=by
 intro k
 induction k with
 |zero=>
  intro m i h hm;cases m with
  |zero=>omega
  |succ m=>rw[E2.eq_2,cf (df (by omega))]
 |succ k ih=>
  intro m i h hm;cases m with
  |zero=>omega
  |succ m=>
   have hi:i<p.length:=by omega
   have b:=a p[i] (List.getElem_mem hi);rw[E2.eq_2,ct (dt (by omega)),Ca hi,Fx (by omega),Ca hi,BB (by omega) (by omega),C2,Int.toNat_natCast,List.set_getElem_self hi];exact ih m (i+1) (by omega) (by omega)
theorem Ob{K:Nat}(p:List (List Int))(a:p.length≤1000)(b:∀l∈p,l.length≤1000)(hK:2000≤K):Fu K p=some p:=by
 unfold Fu;have:=RM p a b p.length K 0 (by omega) (by omega);rw[Int.natCast_zero] at this;rw[Fx (by omega),bd this]
theorem Jd{y:Ar}(a:Fe y){o:List (List Int)}(h:D6 y o=true):o.length≤1000∧(∀l∈o,l.length≤1000)∧o.flatten.length≤1000:=by
 have b:=Fc.1 h;have c:=MB h;have:=a.r2;have:=a.n4;have d:=b.2.length_eq;rw[Hm] at d;exact⟨by omega,fun l e=>by have:=(c l e).1;omega,by omega⟩
def H7(y:Ar):List (List (List Int))→Int×List (List Int)→Int×List (List Int)
 |[],s=>s
 |o::os,s=>
  let s2:=if (CX y o).1<s.1 then ((CX y o).1,o) else s
  cond (decide (0<s2.1)) (H7 y os s2) s2
def H8(y:Ar):Int×List (List Int):=H7 y (GM y) ((y.Ad.length:Int)+1,[])
theorem Oc{K:Nat}(y:Ar)(a:Fe y)(hK:2000≤K):∀(os:List (List (List Int))) (s:Int×List (List Int)),(∀o∈os,D6 y o=true)→
  (run (fun(st:Int×(List (List Int))) (x:(List (List Int)))=>(Gn K x y st.1 st.2).bind fun r=>some (r.1,(r.2.1,r.2.2))) os s).bind (fun r=>some r.2)=some (H7 y os s)
 |[],s,_=>rfl
 |o::os,s,h=>by
  have d:=h o (List.mem_cons_self ..);obtain⟨e,f,_⟩:=Jd a d;rw[run,H7];unfold Gn;rw[bd (QD y a o d hK)]
  by_cases b:(CX y o).1<s.1
  ·rw[ct (dt b),bd (Ob o e f hK),if_pos b];show(cond (decide (0<(CX y o).1)) _ _:Option (Bool×Int×List (List Int))).bind _=some (cond (decide (0<(CX y o).1)) _ _);cases decide (0<(CX y o).1) with
   |false=>rfl
   |true=>exact Oc y a hK os _ fun x c=>h x (List.mem_cons_of_mem _ c)
  ·rw[cf (df b),if_neg b];show(cond (decide (0<s.1)) _ _:Option (Bool×Int×List (List Int))).bind _=some (cond (decide (0<s.1)) _ _);cases decide (0<s.1) with
   |false=>rfl
   |true=>exact Oc y a hK os s fun x c=>h x (List.mem_cons_of_mem _ c)
theorem Uq{K:Nat}(y:Ar)(hK:2000≤K):G4 K y=some (if check y≠0 then ([],0,check y) else ((H8 y).2,(H8 y).1,0)):=by
 unfold G4;rw[bd (IE hK y)]
 by_cases h:check y=0
 ·rw[h,cf (by decide),if_neg (by simp)];have a:=GZ h;have c:=a.n4;rw[BB (by omega) (by omega),Oa _ y a hK];exact Eq.trans (bd (Oc y a hK (GM y) _ fun o b=>Iz a b)) rfl
 ·rw[ct (by simpa using h),if_pos h]
theorem Od{y:Ar}(a:Fe y)(o:List (List Int)):0≤(CX y o).1∧(CX y o).1≤(y.Ad.length:Int):=by
 obtain⟨_,_,e⟩:=HQ a o;have:=MD Dq y.Ad (B6 y o (CX y o).2);rw[e];unfold C8;omega
theorem JX(y:Ar)(d:Fe y):∀(os:List (List (List Int))) (s:Int×List (List Int)),0<s.1∨os=[]→
  (∀o∈os,(H7 y os s).1≤(CX y o).1)∧(H7 y os s).1≤s.1∧((H7 y os s)=s∨∃o∈os,(H7 y os s)=((CX y o).1,o))
 |[],s,_=>⟨fun o j=>(by cases j),Int.le_refl _,.inl rfl⟩
 |o::os,s,h=>by
  have g:0<s.1:=by
   rcases h with h|h
   ·exact h
   ·cases h
  rw[H7]
  by_cases i:(CX y o).1<s.1
  ·rw[if_pos i];show(∀x∈o::os,(cond (decide (0<(CX y o).1)) _ _:Int×List (List Int)).1≤_)∧_
   by_cases e:0<(CX y o).1
   ·rw[ct (dt e)];obtain⟨f,c,a⟩:=JX y d os ((CX y o).1,o) (.inl e);have k:(H7 y os ((CX y o).1,o)).1≤(CX y o).1:=c;refine⟨fun x b=>?_,by omega,.inr ?_⟩
    ·rcases List.mem_cons.1 b with rfl|b
     ·exact c
     ·exact f x b
    ·rcases a with a|⟨x,b,a⟩
     ·exact⟨o,List.mem_cons_self ..,a⟩
     ·exact⟨x,List.mem_cons_of_mem _ b,a⟩
   ·rw[cf (df e)];refine⟨fun x _=>?_,by show(CX y o).1≤s.1;omega,.inr ⟨o,List.mem_cons_self ..,rfl⟩⟩;have:=(Od d x).1;show(CX y o).1≤_;omega
  ·rw[if_neg i];show(∀x∈o::os,(cond (decide (0<s.1)) _ _:Int×List (List Int)).1≤_)∧_;rw[ct (dt g)];obtain⟨f,c,a⟩:=JX y d os s (.inl g);refine⟨fun x b=>?_,c,?_⟩
   ·rcases List.mem_cons.1 b with rfl|b
    ·omega
    ·exact f x b
   ·rcases a with a|⟨x,b,a⟩
    ·exact .inl a
    ·exact .inr ⟨x,List.mem_cons_of_mem _ b,a⟩
theorem PX {y:Ar} (a:Fe y):(∀o,D6 y o=true→(H8 y).1≤(CX y o).1)∧D6 y (H8 y).2=true∧(H8 y).1=(CX y (H8 y).2).1:=by
 obtain⟨d,e,b⟩:=JX y a (GM y) ((y.Ad.length:Int)+1,[]) (.inl (by show(0:Int)<_+1;omega));refine⟨fun o c=>d o ((Ls a).2 c),?_⟩;rcases b with b|⟨o,c,b⟩
 ·exfalso;obtain⟨o,c⟩:=List.exists_mem_of_ne_nil _ (PW a);have:=d o c;rw[b] at this;have f:(y.Ad.length:Int)+1≤(CX y o).1:=this;have:=(Od a o).2;omega
 ·unfold H8;rw[b];exact⟨Iz a c,rfl⟩
end Go.Proofs.YtkljfdkmjdjpfaaGreat
end
section
namespace Go.Proofs.YtkljfdkmjdjpfaaGreat
def Hd(y:Ar)(yes:List Int):Nat:=(List.range y.Ad.length).countP fun i=>yes.getD i 0==0
theorem S0(y:Ar)(r:BQ×Int×Unit)(c:y.Ad.length≤4):∀(k m i:Nat) (a:Int),y.Ad.length=i+k→k<m→0≤a→a≤i→
  Ex y r m a (i:Int)=some (a+((List.range' i k).countP (fun i=>r.1.l.getD i 0==0):Nat)):=by
 intro k
 induction k with
 |zero=>
  intro m i a h hm h0 b;cases m with
  |zero=>omega
  |succ m=>rw[Ex.eq_2,cf (df (by omega))];simp
 |succ k ih=>
  intro m i a h hm h0 b;cases m with
  |zero=>omega
  |succ m=>
   rw[Ex.eq_2,ct (dt (by omega)),bd (Nx r.1 i (by omega)),List.range'_succ,List.countP_cons];cases d:(r.1.l.getD i 0==0) with
   |true=>
    rw[ct rfl,BB (by omega) (by omega),BB (by omega) (by omega),C2,ih m (i+1) (a+1) (by omega) (by omega) (by omega) (by omega)]
    congr 1;simp;omega
   |false=>
    rw[cf rfl,BB (by omega) (by omega),C2,ih m (i+1) a (by omega) (by omega) (by omega) (by omega)]
    congr 1
theorem RN(y:Ar)(r:BQ×Int×Unit)(c:y.Ad.length≤4):∀(k m i:Nat) (a:Int),y.Ad.length=i+k→k<m→0≤a→a≤i→
  En y r m a (i:Int)=some (a+((List.range' i k).countP (fun i=>r.1.l.getD i 0==0):Nat)):=by
 intro k
 induction k with
 |zero=>
  intro m i a h hm h0 b;cases m with
  |zero=>omega
  |succ m=>rw[En.eq_2,cf (df (by omega))];simp
 |succ k ih=>
  intro m i a h hm h0 b;cases m with
  |zero=>omega
  |succ m=>
   rw[En.eq_2,ct (dt (by omega)),bd (Nx r.1 i (by omega)),List.range'_succ,List.countP_cons];cases d:(r.1.l.getD i 0==0) with
   |true=>
    rw[ct rfl,BB (by omega) (by omega),BB (by omega) (by omega),C2,ih m (i+1) (a+1) (by omega) (by omega) (by omega) (by omega)]
    congr 1;simp;omega
   |false=>
    rw[cf rfl,BB (by omega) (by omega),C2,ih m (i+1) a (by omega) (by omega) (by omega) (by omega)]
    congr 1
def H9(y:Ar):List (List (List Int))→Int×List Int×List (List Int)→Int×List Int×List (List Int)
  |[],s=>s
  |o::os,s=>
    cond (decide (0≤s.1)&&(DA Dq y o==s.2.1)) (H9 y os s)
      (let s2:=if s.1<(Hd y (DA Dq y o):Int) then ((Hd y (DA Dq y o):Int),DA Dq y o,o) else (s.1,DA Dq y o,s.2.2)
       cond (decide (s2.1<(y.Ad.length:Int))) (H9 y os s2) s2)
def Mi(y:Ar):Int×List Int×List (List Int):=H9 y (GM y) (-1,[0,0,0,0],[])
theorem Oe{K:Nat}(y:Ar)(e:Fe y)(hK:2000≤K):∀(os:List (List (List Int))) (n:Int) (a:BQ) (q:List (List Int)),(∀o∈os,D6 y o=true)→
    ∃(b:Bool) (a2:BQ),run (fun(st:Int×BQ×(List (List Int))) (x:(List (List Int)))=>(EU K x y st.1 st.2.1 st.2.2).bind fun r=>some (r.1,(r.2.1,r.2.2.1,r.2.2.2))) os (n,a,q)=some (b,(H9 y os (n,a.l,q)).1,a2,(H9 y os (n,a.l,q)).2.2)
  |[],n,a,q,_=>⟨true,a,rfl⟩
  |o::os,n,a,q,h=>by
    have s:=h o (List.mem_cons_self ..);have p:∀x∈os,D6 y x=true:=fun x aC=>h x (List.mem_cons_of_mem _ aC);obtain⟨aD,aE,_⟩:=Jd e s;have t:=e.n4;obtain⟨b,aF,k⟩:=MG (K:=K) Dq y e o s hK;have u:CD K (fun(st:Unit) (x:Be×Ah)=>(Ew K x.1 x.2).bind fun r=>some (r,())) y o ()=some (b,((Cn y).length:Int),()):=by
      rw[←aF];congr 1;funext st x;rw[bd (O5 ..)];rfl
    have h9:=S0 y (b,((Cn y).length:Int),()) t y.Ad.length K 0 0 (by omega) (by omega) (by omega) (by omega);have f:=RN y (b,((Cn y).length:Int),()) t y.Ad.length K 0 0 (by omega) (by omega) (by omega) (by omega);rw[Int.natCast_zero,Int.zero_add] at h9 f;have v:((List.range' 0 y.Ad.length).countP (fun i=>(b,((Cn y).length:Int),()).1.l.getD i 0==0))=Hd y (DA Dq y o):=by
      rw[←List.range_eq_range',←k];rfl
    rw[v] at h9 f;have c:∀(l:Int×BQ×List (List Int)) (z:Int×List Int×List (List Int)),(l.1,l.2.1.l,l.2.2)=z→
        ∃(d:Bool) (a2:BQ),cond (decide (l.1<(y.Ad.length:Int))) (run (fun(st:Int×BQ×(List (List Int))) (x:(List (List Int)))=>(EU K x y st.1 st.2.1 st.2.2).bind fun r=>some (r.1,(r.2.1,r.2.2.1,r.2.2.2))) os l) (some (false,l))=some (d,(cond (decide (z.1<(y.Ad.length:Int))) (H9 y os z) z).1,a2,(cond (decide (z.1<(y.Ad.length:Int))) (H9 y os z) z).2.2):=by
      rintro⟨g,w,aG⟩ z rfl;show∃(d:Bool) (a2:BQ),cond (decide (g<(y.Ad.length:Int))) _ _=some (d,(cond (decide (g<(y.Ad.length:Int))) _ _:Int×List Int×List (List Int)).1,a2,(cond (decide (g<(y.Ad.length:Int))) _ _:Int×List Int×List (List Int)).2.2);cases decide (g<(y.Ad.length:Int)) with
      |false=>exact⟨false,w,rfl⟩
      |true=>exact Oe y e hK os g w aG p
    have main:∀z9:Int,z9=(Hd y (DA Dq y o):Int)→∃(d:Bool) (a2:BQ),
        (((cond (decide (n<z9)) ((Fu K o).bind fun aA=>some ((decide (z9<(y.Ad.length:Int)),z9,b,aA))) (some ((decide (n<(y.Ad.length:Int)),n,b,q))):Option (Bool×Int×BQ×List (List Int))).bind fun r=>some (r.1,(r.2.1,r.2.2.1,r.2.2.2))).bind fun r=>cond r.1 (run (fun(st:Int×BQ×(List (List Int))) (x:(List (List Int)))=>(EU K x y st.1 st.2.1 st.2.2).bind fun r=>some (r.1,(r.2.1,r.2.2.1,r.2.2.2))) os r.2) (some (false,r.2)))=
        some (d,(let s2:=if n<(Hd y (DA Dq y o):Int) then ((Hd y (DA Dq y o):Int),DA Dq y o,o) else (n,DA Dq y o,q)
       cond (decide (s2.1<(y.Ad.length:Int))) (H9 y os s2) s2).1,a2,(let s2:=if n<(Hd y (DA Dq y o):Int) then ((Hd y (DA Dq y o):Int),DA Dq y o,o) else (n,DA Dq y o,q)
       cond (decide (s2.1<(y.Ad.length:Int))) (H9 y os s2) s2).2.2):=by
      rintro z9 rfl
      by_cases j:n<(Hd y (DA Dq y o):Int)
      · rw[ct (dt j),bd (Ob o aD aE hK)];simp only[if_pos j];exact c ((Hd y (DA Dq y o):Int),b,o) ((Hd y (DA Dq y o):Int),DA Dq y o,o) (by show(_,b.l,o)=_;rw[k])
      · rw[cf (df j)];simp only[if_neg j];exact c (n,b,q) (n,DA Dq y o,q) (by show(_,b.l,q)=_;rw[k])
    rw[run,H9];show∃(d:Bool) (a2:BQ),Option.bind ((EU K o y n a q).bind _) _=_;unfold EU;rw[bd u]
    by_cases m:0≤n
    · rw[ct (dt m),dt m,Bool.true_and];have aB:([b.a0,b.a1,b.a2,b.a3]==[a.a0,a.a1,a.a2,a.a3])=(DA Dq y o==a.l):=by rw[←k];rfl
      rw[aB];cases j:(DA Dq y o==a.l) with
      |true=>
        rw[ct rfl,ct rfl];exact Oe y e hK os n a q p
      |false=>
        rw[cf rfl,cf rfl,bd h9];exact main _ rfl
    · rw[cf (df m),df m,Bool.false_and,cf rfl,bd f];exact main _ rfl
theorem Ur{K:Nat}(y:Ar)(hK:2000≤K):G5 K y=some (if check y≠0 then ([],0,check y) else ((Mi y).2.2,(Mi y).1,0)):=by
 unfold G5;rw[bd (IE hK y)]
 by_cases h:check y=0
 ·rw[h,cf (by decide),if_neg (by simp)];have a:=GZ h;rw[Oa _ y a hK];obtain⟨b,a2,e⟩:=Oe (K:=K) y a hK (GM y) (-1) ⟨0,0,0,0⟩ [] fun o c=>Iz a c;exact Eq.trans (congrArg (fun z=>Option.bind (Option.bind z _) _) e) rfl
 ·rw[ct (by simpa using h),if_pos h]
end Go.Proofs.YtkljfdkmjdjpfaaGreat
end
section
namespace Go.Proofs.YtkljfdkmjdjpfaaGreat
def Hj(n i k:Nat):List Int:=((List.range' k (n-k)).filter fun j=>j !=i).map fun j:Nat=>(j:Int)
def GN (y:Ar) (i:Nat):List (List Int):=((i:Int)::Hj y.Ad.length i 0)::List.replicate (y.Ak.toNat-1) []
theorem Us{α:Type}(x:α)(r:List α):idx (x::r) (0:Int)=some x:=idx_eq (xs:=x::r) (k:=0) (by simp)
theorem Vu(n i:Nat)(f:n≤4):∀(d m k:Nat) (x:List Int) (r:List (List Int)),n=k+d→d<m→x.length≤1+k→
  Jm (n:Int) (i:Int) m (k:Int) (x::r)=some ((x++Hj n i k)::r):=by
 intro d
 induction d with
 |zero=>
  intro m k x r h hm e;cases m with
  |zero=>omega
  |succ m=>
   rw[Jm,cf (df (by omega))];unfold Hj;rw[show n-k=0 by omega];simp
 |succ d ih=>
  intro m k x r h hm e;cases m with
  |zero=>omega
  |succ m=>
   have b:idx (x::r) (0:Int)=some x:=Us x r;have c:Hj n i k=cond (k !=i) ((k:Int)::Hj n i (k+1)) (Hj n i (k+1)):=by
    unfold Hj;rw[show n-k=(n-(k+1))+1 by omega,List.range'_succ,List.filter_cons];cases g:(k !=i) with
    |true=>rfl
    |false=>rfl
   rw[Jm,ct (dt (by omega))]
   by_cases a:k=i
   ·have:((k:Int) !=(i:Int))=false:=by rw[a];exact bne_self_eq_false ..
    rw[this,cf rfl,BB (by omega) (by omega),C2,ih m (k+1) x r (by omega) (by omega) (by omega),c,show(k !=i)=false by rw[a];exact bne_self_eq_false ..];rfl
   ·have:((k:Int) !=(i:Int))=true:=by rw[bne_iff_ne];omega
    rw[this,ct rfl,bd b,Fx (by simp;omega),bd b,BB (by omega) (by omega),C2];show Jm _ _ m _ ((x++[(k:Int)])::r)=_;rw[ih m (k+1) (x++[(k:Int)]) r (by omega) (by omega) (by simp;omega),c,show(k !=i)=true by rw[bne_iff_ne];exact a];simp
theorem QJ{y:Ar}(b:Fe y){i:Nat}(hi:i<y.Ad.length):D6 y (GN y i)=true:=by
 have c:=b.r1;rw[Fc];refine⟨by unfold GN;simp;omega,?_⟩;have e:(GN y i).flatten=(i:Int)::Hj y.Ad.length i 0:=by
  unfold GN;rw[List.flatten_cons];have:(List.replicate (y.Ak.toNat-1) ([]:List Int)).flatten=[]:=by
   simp
  rw[this,List.append_nil]
 rw[e];unfold Hj iota;rw[←List.range_eq_range',Nat.sub_zero];have:((i:Int)::((List.range y.Ad.length).filter fun j=>j !=i).map fun j:Nat=>(j:Int))=(i::((List.range y.Ad.length).filter fun j=>j !=i)).map fun j:Nat=>(j:Int):=rfl;rw[this];refine List.Perm.map _ ?_;have hm:i∈List.range y.Ad.length:=List.mem_range.2 hi;have a:=List.perm_cons_erase hm;rw[List.Nodup.erase_eq_filter List.nodup_range] at a;exact a.symm
def Gt(y:Ar)(k d:Nat):List Int:=((List.range' k d).filter fun i=> !(Cn y).all (KM y (GN y i) i)).map fun i:Nat=>(i:Int)
theorem PY{K:Nat}(y:Ar)(c:Fe y)(hK:2000≤K):∀(d m i:Nat) (a:List Int),y.Ad.length=i+d→d<m→a.length≤i→
  Ec K y m a (i:Int)=some (a++Gt y i d):=by
 have g:=c.n4;have s:=c.r1;have t:=c.r2;intro d
 induction d with
 |zero=>
  intro m i a h hm j;cases m with
  |zero=>omega
  |succ m=>rw[Ec.eq_2,cf (df (by omega))];simp[Gt]
 |succ d ih=>
  intro m i a h hm j;cases m with
  |zero=>omega
  |succ m=>
   have hi:i<y.Ad.length:=by omega
   have k:=QJ c hi;obtain⟨b,n,o⟩:=MG (K:=K) Gf y c (GN y i) k hK;have e:CD K (fun(st:Unit) (x:Be×Ah)=>(Dj K x.1 x.2).bind fun r=>some (r,())) y (GN y i) ()=some (b,((Cn y).length:Int),()):=by
    rw[←n];congr 1;funext st x;rw[bd (MC ..)]
   have er:List.replicate y.Ak.toNat ([]:List Int)=[]::List.replicate (y.Ak.toNat-1) []:=by
    rw[←List.replicate_succ];congr 1;omega
   have f:=Vu y.Ad.length i g y.Ad.length K 0 [(i:Int)] (List.replicate (y.Ak.toNat-1) []) (by omega) (by omega) (by simp);rw[Ec.eq_2,ct (dt (by omega)),O2 (by omega) (by omega) (by omega),er];rw[bd (show idx (([]:List Int)::List.replicate (y.Ak.toNat-1) []) (0:Int)=some [] from Us _ _)];rw[Int.natCast_zero] at f;show(Jm _ _ K (0:Int) ([(i:Int)]::List.replicate (y.Ak.toNat-1) [])).bind _=_;rw[bd f];show(CD K _ y (GN y i) ()).bind _=_;rw[bd e,bd (Nx b i (by omega))];have p:((b.l.getD i 0)==((Cn y).length:Int))=(Cn y).all (KM y (GN y i) i):=by
    rw[o,Me Gf y c (GN y i) i hi,Nb];rfl
   show cond ((b.l.getD i 0)==((Cn y).length:Int)) _ _=_;rw[p];have q:Gt y i (d+1)=cond ((Cn y).all (KM y (GN y i) i)) (Gt y (i+1) d) ((i:Int)::Gt y (i+1) d):=by
    unfold Gt;rw[List.range'_succ,List.filter_cons];cases (Cn y).all (KM y (GN y i) i)<;>rfl
   rw[q];cases (Cn y).all (KM y (GN y i) i) with
   |true=>
    rw[ct rfl,BB (by omega) (by omega),C2,ih m (i+1) a (by omega) (by omega) (by omega)];rfl
   |false=>
    rw[cf rfl,Fx (by simp;omega),BB (by omega) (by omega),C2,ih m (i+1) (a++[(i:Int)]) (by omega) (by omega) (by simp;omega)];simp
theorem PZ{K:Nat}(y:Ar)(hK:2000≤K):FW K y=some (if check y≠0 then ([],check y) else (Gt y 0 y.Ad.length,0)):=by
 unfold FW;rw[bd (IE hK y)]
 by_cases h:check y=0
 ·rw[h,if_neg (by simp)];have e:=PY (K:=K) y (GZ h) hK y.Ad.length K 0 [] (by omega) (by have:=(GZ h).n4;omega) (by simp);rw[Int.natCast_zero] at e;show cond false _ _=_;rw[cf rfl,bd e,List.nil_append]
 ·rw[ct (by simpa using h),if_pos h]
end Go.Proofs.YtkljfdkmjdjpfaaGreat
end
