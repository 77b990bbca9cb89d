import Derived.Test.YtkljfdkmjdjpfaaBD1
import Derived.WalkKit
import Derived.KernelRfl
import Derived.WalkSpells
import Derived.WalkLawsBesides
import Derived.Maps.AppendAt
import Derived.OrdersIn
import Derived.RangeFuncIn
import Derived.RangeFuncLeaves
import Derived.RangeFuncRecord
import Derived.RangeFuncSeq
import Derived.Scope
import Derived.DeepKeys3
import Derived.Laws.CopyRow
import Derived.Laws.OwnMore
import Derived.Laws.MakeOwn
import Derived.Laws.IdiomCopy
/-
  The contracts of the functions of the program and of the reference, and the logic that they are proved in: the base that several claims of this seat share.
-/
set_option linter.all false
section
namespace Go.Proofs.Ytkljfdkmjdjpfaa
open Go.RowKit Go.WideShapes
theorem Ul{f:Operand→Value}{i0 i1 i2 i3 i4:Nat}{a x1 x2 b c:Operand}{v0 v1 v2 v3 v4:Value}(h0:f a=v0)(d:f x1=v1)(e:f x2=v2)(g:f b=v3)(h:f c=v4): #[(i0,a),(i1,x1),(i2,x2),(i3,b),(i4,c)].map (fun(i,x)=>(i,f x))= #[(i0,v0),(i1,v1),(i2,v2),(i3,v3),(i4,v4)]:=by simp[h0,d,e,g,h]
section
variable{F F' F0:Nat→Prop}{B:List (Option Nat)}{w0 w w' w1 w2:World}{Z Z':Nat→Prop}{L L' M C:List (Option Nat)}{D:Nat→Prop}
theorem BJ(a:List Nat)(h:FR L a M):∀x∈M,x∈L:=h.sub
theorem AG(a:List Nat)(h:FR L a M)(b:∀k,F' k→F k):∀k,FU F' M k→F k∨some k∈L:=RX h.sub b
theorem CH(h:∀k,F0 k→F k):∀k,FU F0 C k→F k∨some k∈C:=fun k a=>a.imp (h k) id
theorem FI{k:Nat}{o:Obj}{r:Option Nat}(h:w.heap[k]?=some o)(g:w.grownBy w' r)(a:some k≠r):w'.heap[k]?=some o:=(g.block k (Array.getElem?_eq_some_iff.1 h).1 a).trans h
theorem ED{k:Nat}{o:Obj}(h:w.heap[k]?=some o)(g:Bd D w w')(a:¬D k):w'.heap[k]?=some o:=(g.block k (Array.getElem?_eq_some_iff.1 h).1 a).trans h
theorem Cc.Bw{α:Type}{ev:α→Value}{r n:Nat}{a:List (List Int×α)}(h:Cc ev w r n a)(g:Bd D w w')(b:¬D r):Cc ev w' r n a:=h.of (g.block r h.lt b)
theorem Cc.Fv{α:Type}{ev:α→Value}{r n:Nat}{a:List (List Int×α)}(h:Cc ev w r n a)(e:w'.heap[r]?=w.heap[r]?):Cc ev w' r n a:=h.of e
theorem Bk.Fv{b:Nat}{t:TypeId}{cs:Array Value}(h:Bk w b t cs)(e:w'.heap[b]?=w.heap[b]?):Bk w' b t cs:=e.trans h
theorem Hp.zz(h:Hp F B w0 L w)(a c:List Nat)(d:FR L a M)(e:FR L c C)(f:∀k,F' k→F k∨some k∈C):∀b,ZZ F B Z w0.heap.size L b→¬F' b∧some b∉M:=h.zc d.sub fun k g=>(f k g).imp id (e.sub _)
theorem Hp.mz(h:Hp F B w0 L w)(a b:List Nat)(c:FR L a M)(d:FR L b C)(e:∀k,F' k→F k∨some k∈C):Mv w (ZZ F B Z w0.heap.size L) w (ZC F' M):=QM (h.zz a b c d e)
theorem NH{i:Nat}{a b:List Nat}(h:((a++b).all fun j=> !Nat.beq i j)=true):(a.all fun j=> !Nat.beq i j)=true∧(b.all fun j=> !Nat.beq i j)=true:=by
 rw[List.all_append,Bool.and_eq_true] at h;exact h
theorem Hp.bz(h:Hp F B w0 L w)(i:Nat){b:Nat}(hi:L[i]?=some (some b))(a c:List Nat)(e:FR L a M)(f:FR L c C)(g:∀k,F' k→F k∨some k∈C)(d:((a++c).all fun j=> !Nat.beq i j)=true):ZC F' M b:=by
 have l:=h.Bu (F':=F) i hi a (NH d).1 e (fun _ h=>h);have m:=h.Bu (F':=F) i hi c (NH d).2 f (fun _ h=>h);exact⟨fun n=>m ((g b n).imp id id),fun hm=>l (.inr hm)⟩
theorem Hp.rz{α:Type}{e:DS α}{t:TypeId}{n0:Nat}{A:Option Addr}{c:Nat}{xs:List α}(h:Hp F B w0 L w)(i:Nat)(hi:L[i]?=some (ob A))(a b:List Nat)(d:FR L a M)(f:FR L b C)(g:∀k,F' k→F k∨some k∈C)(l:((a++b).all fun j=> !Nat.beq i j)=true)
  (m:AN e t n0 w (ZZ F B Z w0.heap.size L) A c xs):Sl e w (ZC F' M) A c xs:=
 (m.up (h.mz a b d f g)).sl fun k n _=>h.bz i (by rw[hi,n]) a b d f g l
theorem Bn{Z:Nat→Prop}(w:World):Mv w Z w (ZZ FN [] Z w.heap.size L):=A8 (fun _ _=>⟨id,by simp⟩) w
theorem IJ(h:Mv w Z w' Z):Mv w Z w' (ZZ FN [] Z w.heap.size M):=⟨h.size,fun b a c=>⟨.inl ⟨c,a,id,by simp⟩,(h.stay b a c).2⟩⟩
theorem J7{n:Nat}:Mv w (ZZ FN [] Z n M) w (ZZ FN [] Z n [none]):=Gu fun b a _=>a.imp id fun⟨c,_⟩=>⟨c,by simp⟩
theorem KF{n:Nat}{o:Option Nat}(h:o∈M:=by simp):Mv w (ZZ FN [] Z n M) w (ZZ FN [] Z n [o]):=Gu fun b a _=>a.imp id fun⟨c,d⟩=>⟨c,fun hm=>by
 rw[List.mem_singleton] at hm;exact d (by rw[hm];exact h)⟩
theorem JJ(g:Bd D w w')(h:∀b,Z b→¬D b):Mv w Z w' Z:=⟨g.size,fun b a c=>⟨a,g.block b c (h b a)⟩⟩
theorem Jd{b:Nat}{o:Option Nat}(h:¬FU FN C b∧some b≠o):¬FU FN C b:=h.1
theorem O7{b:Nat}{o:Option Nat}(h:¬FU F C b∧some b≠o):¬FU F (C++[o]) b:=by
 rintro(a|a)
 ·exact h.1 (.inl a)
 ·rcases List.mem_append.1 a with c|c
  ·exact h.1 (.inr c)
  ·exact h.2 (by simpa using c)
theorem Eo{b:Nat}{o:Option Nat}(h:¬FU F C b)(k:some b≠o):¬F b∧some b∉C++[o]:=
 ⟨fun a=>h (.inl a),fun a=>by
  rcases List.mem_append.1 a with c|c
  ·exact h (.inr c)
  ·exact k (by simpa using c)⟩
theorem Bd.lf{o:Option Nat}(g:Bd (FU F (C++[o])) w w'):Bd (FU (FU F C) [o]) w w':=g.mono fun k h=>by
 rcases h with h|h
 ·exact .inl (.inl h)
 ·rcases List.mem_append.1 h with a|a
  ·exact .inl (.inr a)
  ·exact .inr a
theorem Bd.O8{o:Option Nat}(g:Bd (FU F C) w w'):Bd (FU (FU F C) [o]) w w':=g.mono fun _ h=>.inl h
theorem Bd.cl{M1 M2:List (Option Nat)}(g:Bd (FU (FU F M1) M2) w w'):Bd (FU F (M1++M2)) w w':=g.fl
theorem Hp.Im(h:Hp F B w0 L w)(b:List Nat)(c:FR L b C)(d:∀k,F0 k→F k):∀k,FU F0 C k→k<w.heap.size:=fun k a=>by
 rcases a with a|a
 ·exact Nat.lt_of_lt_of_le (h.ff k (d k a)) h.sz
 ·exact(h.lo k (c.sub _ a)).1
theorem Hp.QP(h:Hp F B w0 L w)(i:Nat){k:Nat}(hi:L[i]?=some (some k))(a:List Nat)(b:(a.all fun j=> !Nat.beq i j)=true)(c:FR L a C):k<w.heap.size∧¬FU F C k:=
 ⟨(h.lo k (List.mem_of_getElem? hi)).1,h.Bu (F':=F) i hi a b c fun _ h=>h⟩
theorem Hp.CT{x d:Option Nat}(h:Hp F B w0 L w)(i:Nat)(hi:L[i]?=some x)(a:List Nat)(g:(a.all fun j=> !Nat.beq i j)=true)(l:FR L a M)(m:∀y∈B,y=d∨y∈M):∀k,x=some k→(d=some k∨w0.heap.size≤k)∧k<w.heap.size:=fun k e=>by
 have f:=h.lo k (List.mem_of_getElem? (by rw[hi,e]));refine⟨?_,f.1⟩;rcases Nat.lt_or_ge k w0.heap.size with b|b
 ·left;rcases m _ (f.2.2 b) with c|c
  ·exact c.symm
  ·exact absurd (.inr c) (h.Bu (F':=F) i (by rw[hi,e]) a g l fun _ h=>h)
 ·exact .inr b
theorem BK.snoc{o:Option Nat}(h:BK F C w)(l:∀k,o=some k→k<w.heap.size∧¬FU F C k):BK F (C++[o]) w:=by
 refine⟨fun k q=>?_,fun i j x m hi f=>?_,h.ff⟩
 ·rcases List.mem_append.1 q with d|d
  ·exact h.lt k d
  ·have c:=l k (by rw[List.mem_singleton] at d;exact d.symm);exact⟨c.1,fun r=>c.2 (.inl r)⟩
 ·have key:∀(a b:Nat),a<C.length→¬b<C.length→(C++[o])[a]?=some (some x)→(C++[o])[b]?=some (some x)→False:=fun a b s t d c=>by
   rw[List.getElem?_append_left s] at d;rw[List.getElem?_append_right (by omega)] at c;have n:b-C.length=0:=by
    rcases Nat.eq_zero_or_pos (b-C.length) with h|h
    ·exact h
    ·rw[List.getElem?_eq_none (by simp;omega)] at c;cases c
   rw[n] at c;have p:o=some x:=by simpa using c
   exact(l x p).2 (.inr (List.mem_of_getElem? d))
  by_cases g:i<C.length
  ·by_cases e:j<C.length
   ·rw[List.getElem?_append_left g] at hi;rw[List.getElem?_append_left e] at f;exact h.ap i j x m hi f
   ·exact key i j g e hi f
  ·by_cases e:j<C.length
   ·exact key j i e g f hi
   ·have u:(C++[o]).length=C.length+1:=by simp
    have d:=(List.getElem?_eq_some_iff.1 hi).1;have c:=(List.getElem?_eq_some_iff.1 f).1;omega
theorem BK.keep{o o':Option Nat}(h:BK F C w)(g:w.heap.size≤w1.heap.size)(c:∀k,o=some k→k<w1.heap.size∧¬FU F C k)(d:∀k,o'=some k→(o=some k∨w1.heap.size≤k)∧k<w2.heap.size):∀k,o'=some k→k<w2.heap.size∧¬FU F C k:=fun k e=>by
 obtain⟨a,f⟩:=d k e;refine⟨f,?_⟩;rcases a with a|a
 ·exact(c k a).2
 ·rintro(b|b)
  ·have:=h.ff k b;omega
  ·have:=(h.lt k b).1;omega
def TX(L:List (Option Nat))(n:Nat):List (Option Nat)→Prop
 |[]=>True
 |x::M=>((∃j:Nat,L[j]?=some x)∨∀k,x=some k→some k∈L∨n≤k)∧TX L n M
theorem Ck{n:Nat}:∀{M:List (Option Nat)},TX L n M→∀k,some k∈M→some k∈L∨n≤k
 |[],_,_,h=>by cases h
 |x::M,h,k,a=>by
  rcases List.mem_cons.1 a with e|a
  ·rcases h.1 with⟨j,b⟩|c
   ·left;rw[e];exact List.mem_of_getElem? b
   ·exact c k e.symm
  ·exact Ck h.2 k a
theorem Dy{y:Option Nat}(i:Nat)(h:y∈M):∀x∈L.set i y,x∈L∨x∈M:=fun x a=>by
 rcases List.mem_or_eq_of_mem_set a with b|e
 ·exact .inl b
 ·exact .inr (by rw[e];exact h)
theorem H5{o:Option Nat}:∀b,ZC F [o] b→¬F b∧some b≠o:=fun _ h=>⟨h.1,fun e=>h.2 (by rw[e];exact List.mem_singleton_self _)⟩
end
theorem NI{F:Nat→Prop}{B L:List (Option Nat)}{n:Nat}{Z Z':Nat→Prop}(h:∀b,Z b→Z' b):∀b,ZZ F B Z n L b→ZZ F B Z' n L b:=fun b a=>a.imp (fun⟨c,d,e⟩=>⟨c,h b d,e⟩) id
def Io{α:Type}(e:DS α)(w:World)(Z:Nat→Prop)(A:Option Addr)(c:Nat)(xs:List α):Prop:=
 xs.length≤c∧(A=none→c=0)∧∃Bc,R2 e w Z Bc xs∧Rz w ZA A Bc.flatten
section
variable{α:Type}{e:DS α}{t:TypeId}{n0:Nat}{w w':World}{Z Z':Nat→Prop}{A:Option Addr}{c:Nat}{xs:List α}
theorem Io.ext(h:Io e w Z A c xs)(g:Ext w w')(hm:Mv w Z w' Z'):Io e w' Z' A c xs:=⟨h.1,h.2.1,h.2.2.imp fun _ h=>⟨h.1.mv hm,h.2.mv (Aj g)⟩⟩
theorem AN.n(h:AN e t n0 w Z A c xs):Io e w Z A c xs:=by
 have a:=h.all;obtain⟨Bc,b,d⟩:=h;refine⟨a.1,a.2.1,Bc,b,?_⟩;have f:=d.rd;exact Mw f fun _ _ _=>trivial
theorem Sl.n(h:Sl e w Z A c xs):Io e w Z A c xs:=⟨h.1,h.2.1,h.2.2.imp fun _ h=>⟨h.1,h.2.mv JG⟩⟩
theorem Sl.HL(a:∀w Z w' Z' cs x,e.R w Z cs x→e.R w' Z' cs x)(h:Sl e w Z A c xs):Io e w Z' A c xs:=⟨h.1,h.2.1,h.2.2.imp fun _ h=>⟨h.1.free a,h.2.mv JG⟩⟩
theorem AN.HL(a:∀w Z w' Z' cs x,e.R w Z cs x→e.R w' Z' cs x)(h:AN e t n0 w Z A c xs):Io e w Z' A c xs:=h.all.HL a
end
section
variable{P:Program}{a:Act}{w:World}{dst:Option Tmp}{ty:TypeId}{pos:String}{BV:Array Edge}{g:Option (Nat×Bool)}
theorem H6{α:Type}{e:DS α}{s x:Operand}{t j:TypeId}{z:Value}{sz bytes:Nat}(y:P.underlying t=some (.slice j))(hi:(P.info? j).map (fun i=>(i.zero,i.size,i.bytes))=some (some z,sz,bytes))(l:z.cells.size=sz)(m:e.sz=sz)(h0:0<sz)
  {n0:Nat}{Z:Nat→Prop}{A B:Option Addr}{c d n:Nat}{xs ys:List α}(aA:a.eval s=.slice A n c)(aB:xs.length=n)(aC:a.eval x=.slice B ys.length d)(h:AN e j n0 w Z A c xs)(r:Io e w Z B d ys)
  (o:xs.length+ys.length≤maxLen)(b:(xs.length+ys.length)*bytes≤140737488355328)(f:n0≤w.heap.size):
  BF P ⟨dst,.call {callee:=.builtin .append,args:= #[s,x],argTypes:= #[t,t]},ty,pos,BV,g⟩ a w (fun v w'=>∃u aD,v=.slice u (xs++ys).length aD∧w.grownBy w' (ob A)∧(∀k,ob u=some k→(ob A=some k∨w.heap.size≤k)∧k<w'.heap.size)∧
   ∃Bc p,R2 e w Z Bc xs∧R2 e w Z p ys∧DG w' n0 j e.sz u (xs++ys).length aD (Bc++p).flatten):=by
 by_cases q:ys=[]
 ·refine R3 y hi l m h0 aA aB aC h ?_ o b f;subst q;exact⟨r.1,r.2.1,[],trivial,.inl rfl⟩
 ·obtain⟨_,_,Bc,aE,aF⟩:=r;exact KV y hi l m h0 aA aB aC h ⟨Bc,aE,aF⟩ o b f q
end
section
variable{α:Type}{e:DS α}{t:TypeId}{n0:Nat}{w w':World}{Z Z':Nat→Prop}{A:Option Addr}{c:Nat}{xs:List α}
theorem AN.Oy(a:∀w Z w' Z' cs x,e.R w Z cs x→e.R w' Z' cs x)(h:AN e t n0 w Z A c xs):AN e t n0 w Z' A c xs:=by
 obtain⟨Bc,b,d⟩:=h;exact⟨Bc,b.free a,d⟩
theorem AN.Oz(h:AN e t n0 w Z A c xs):A=none→c=0:=h.all.2.1
theorem AN.keep(h:AN e t n0 w Z A c xs)(hm:Mv w Z w' Z')(d:∀k,ob A=some k→w'.heap[k]?=w.heap[k]?):AN e t n0 w' Z' A c xs:=by
 obtain⟨Bc,f,a⟩:=h;refine⟨Bc,f.mv hm,a.1,a.2.imp id ?_⟩;rintro⟨b,cap,cur,g,i,j,l⟩;cases g;exact⟨b,_,cur,rfl,i,(d b rfl).trans j,l⟩
end
def Ks(n:Int)(b:Nat):Option Unit:=if 0≤n∧n*b≤140737488355328∧n≤140737488355328 then some () else none
theorem Hl{α:Type}{n:Int}{b:Nat}{f:Unit→Option α}{r:α}(h:(Ks n b).bind f=some r):(0≤n∧n*b≤140737488355328∧n≤140737488355328)∧f ()=some r:=by
 unfold Ks at h;split at h
 ·exact⟨by assumption,h⟩
 ·cases h
theorem JK(z:Array Value):∀m:Nat,(madeCells z (m*z.size)).toList=(List.replicate m z.toList).flatten
 |0=>by simp[madeCells]
 |m+1=>by
  have ih:=JK z m;have e:∀k,(madeCells z k).toList=(List.range k).map (z[· %z.size]!):=fun k=>by simp[madeCells]
  rw[e] at ih⊢;rw[Nat.add_mul,Nat.one_mul,List.range_add,List.map_append,ih,List.replicate_succ',List.flatten_append]
  congr 1
  simp only[List.map_map,List.flatten_cons,List.flatten_nil,List.append_nil];refine List.ext_getElem (by simp) fun i b a=>?_;simp only[List.getElem_map,List.getElem_range,Function.comp];have hi:i<z.size:=by simpa using a
  rw[Nat.add_comm,Nat.add_mul_mod_self_right,Nat.mod_eq_of_lt hi];simp[hi]
theorem R2.TY{α:Type}{e:DS α}{w:World}{Z:Nat→Prop}{c:List Value}{x:α}(h:e.R w Z c x):∀m:Nat,R2 e w Z (List.replicate m c) (List.replicate m x)
 |0=>trivial
 |m+1=>⟨h,R2.TY h m⟩
section
variable{P:Program}{a:Act}{w:World}{dst:Option Tmp}{ty:TypeId}{pos:String}{BV:Array Edge}{g:Option (Nat×Bool)}
theorem HT{α:Type}{e:DS α}{z:α}{zc:List Value}{n0:Nat}{t j:TypeId}{d:Value}{sz bytes:Nat}{n:Int}{x y:Operand}{m o:IntKind}{b':Nat}(aB:P.underlying t=some (.slice j))(hi:(P.info? j).map (fun i=>(i.zero,i.size,i.bytes))=some (some d,sz,bytes))
  (p:d.cells.toList=zc)(c:e.sz=sz)(aC:a.eval x=.int m n)(aD:a.eval y=.int o n)(hm:0≤n∧n*b'≤140737488355328∧n≤140737488355328)(q:∀w Z,e.R w Z zc z)(aE:n0≤w.heap.size)(aJ:bytes≤b'):
  BF P ⟨dst,.makeSlice t x y,ty,pos,BV,g⟩ a w (fun u w'=>∃b,u=.slice (some ⟨b,0,none⟩) (List.replicate n.toNat z).length n.toNat∧w.heap.size≤b∧b<w'.heap.size∧Ext w w'∧∀Z,AN e j n0 w' Z (some ⟨b,0,none⟩) n.toNat (List.replicate n.toNat z)):=by
 subst p;subst c;cases f:P.info? j with
 |none=>simp[f] at hi
 |some i=>
  rw[f] at hi;simp only[Option.map_some,Option.some.injEq,Prod.mk.injEq] at hi;obtain⟨aF,r,aG⟩:=hi;obtain⟨s,aK,aL⟩:=hm;have v:d.cells.toList.length=e.sz:=e.len (q w ZA);have c:d.cells.size=e.sz:=by simpa using v
  have aA:(i.bytes:Int)*n≤281474976710656:=by
   rw[aG];have aH:(bytes:Int)*n≤(b':Int)*n:=Int.mul_le_mul_of_nonneg_right (by omega) s;rw[Int.mul_comm (b':Int)] at aH;omega
  have aI:=run_make (P:=P) w t j i d aB f aF m o n n s (Int.le_refl _) aA (by omega);refine(IY (S:=Instr.makeSlice t (a.eval x) (a.eval y)) rfl (by rw[aC,aD];exact aI)).mono fun u w' h=>?_;obtain⟨rfl,rfl⟩:=h;have l:=HI w j (madeCells d.cells (n.toNat*i.size));refine⟨w.heap.size,by rw[List.length_replicate],Nat.le_refl _,by rw[l.sz];exact Nat.lt_succ_self _,l.gr,fun Z=>⟨_,R2.TY (q _ Z) n.toNat,?_⟩⟩;rw[List.length_replicate];have k:(List.replicate n.toNat d.cells.toList).flatten.length=n.toNat*e.sz:=by rw[←JK,←c];simp[size_madeCells]
  refine⟨k,.inr ⟨w.heap.size,n.toNat,_,rfl,aE,l.bk,Nat.le_refl _,by simp only[maxLen];omega,by rw[size_madeCells,r],?_⟩⟩;rw[r,←c,JK,List.take_of_length_le (by rw[k,c];exact Nat.le_refl _)]
end
def JL:Int⊕Bool→Value
 |.inl n=>.int .i64 n
 |.inr b=>.bool b
def KY(l:List (Int⊕Bool)):Value:=.agg (l.map JL).toArray
def Ku:Int⊕Bool→Bool
 |.inl _=>true
 |.inr _=>false
def G4:List (Int⊕Bool)→List (Int⊕Bool)→Bool
 |[],[]=>true
 |.inl a::l,.inl b::m=>a==b&&G4 l m
 |.inr a::l,.inr b::m=>a==b&&G4 l m
 |_,_=>false
def Qk(P:Program)(t:TypeId)(a:List Bool):Prop:=∀(w:World) (x y:List (Int⊕Bool)),x.map Ku=a→y.map Ku=a→(Op.equal t (KY x) (KY y)).run P w=.ok (G4 x y) w
def Lk(a b:TypeId):Nat→List Field→List Bool→Bool
 |_,[],[]=>true
 |i,f::c,k::d=>f.name !="_"&&Nat.beq f.type (cond k a b)&&Nat.beq f.offset i&&Lk a b (i+1) c d
 |_,_,_=>false
section
variable{P:Program}{w:World}
theorem Je{e:TypeId}(he:One P e){cs:Array Value}{i:Nat}{v:Value}(h:cs[i]?=some v):(part e cs i).run P w=.ok v w:=by
 simp only[part,Sem.run_bind,Iu he,Result.andThen_ok,h];rfl
theorem LY{j l:TypeId}(u:One P j)(u1:P.underlying j=some (.int .i64))(v:One P l)(z:P.underlying l=some .bool)(d:Nat):∀(o:List Field) (c:List Bool) (x y b e:List (Int⊕Bool)),b.length=e.length→Lk j l b.length o c=true→x.map Ku=c→y.map Ku=c→
  (Op.eqFields (d+1) ((b++x).map JL).toArray ((e++y).map JL).toArray o).run P w=.ok (G4 x y) w
 |[],[],[],[],_,_,_,_,_,_=>by simp[Op.eqFields,G4]
 |[],_::_,_,_,_,_,_,h,_,_=>by simp[Lk] at h
 |_::_,[],_,_,_,_,_,h,_,_=>by simp[Lk] at h
 |[],[],_::_,_,_,_,_,_,h,_=>by simp at h
 |[],[],_,_::_,_,_,_,_,_,h=>by simp at h
 |_::_,_::_,[],_,_,_,_,_,h,_=>by simp at h
 |_::_,_::_,_,[],_,_,_,_,_,h=>by simp at h
 |f::o,k::c,g::x,i::y,b,e,aA,aB,p,r=>by
  simp only[Lk,Bool.and_eq_true] at aB;obtain⟨⟨⟨s,a⟩,t⟩,aE⟩:=aB;have s:f.name≠"_":=by simpa using s
  have a:=Nat.eq_of_beq_eq_true a;have t:=Nat.eq_of_beq_eq_true t;simp only[List.map_cons,List.cons.injEq] at p r;have ih:=LY u u1 v z d o c x y (b++[g]) (e++[i]) (by simp[aA]) (by simpa using aE) p.2 r.2;rw[List.append_assoc,List.append_assoc] at ih;simp only[List.singleton_append] at ih;have aC:((b++g::x).map JL).toArray[f.offset]?=some (JL g):=by rw[t];simp
  have aD:((e++i::y).map JL).toArray[f.offset]?=some (JL i):=by rw[t,aA];simp
  cases k with
  |true=>
   cases g with
   |inr _=>simp[Ku] at p
   |inl m=>
    cases i with
    |inr _=>simp[Ku] at r
    |inl n=>
     have a:f.type=j:=a;have o1:One P f.type:=by rw[a];exact u
     have q:=run_equalIn_int (P:=P) w d f.type .i64 .i64 m n (by rw[a];exact u1);simp only[Op.eqFields,s,ne_eq,not_false_eq_true,if_true,Sem.run_bind,Je o1 aC,Je o1 aD,JL,q,Result.andThen_ok,G4];cases aF:(m==n)
     ·simp
     ·simpa using ih
  |false=>
   cases g with
   |inl _=>simp[Ku] at p
   |inr m=>
    cases i with
    |inl _=>simp[Ku] at r
    |inr n=>
     have a:f.type=l:=a;have o1:One P f.type:=by rw[a];exact v
     have q:=run_equalIn_bool (P:=P) w d f.type m n (by rw[a];exact z);simp only[Op.eqFields,s,ne_eq,not_false_eq_true,if_true,Sem.run_bind,Je o1 aC,Je o1 aD,JL,q,Result.andThen_ok,G4];cases aF:(m==n)
     ·simp
     ·simpa using ih
theorem Nw{K c d:Nat}{a:Array Field}{e:List Bool}(hK:P.underlying K=some (.struct a))(f:P.stoodInHeld K=false)(g:Lk c d 0 a.toList e=true)(i:One P c)(u1:P.underlying c=some (.int .i64))(j:One P d)(l:P.underlying d=some .bool):Qk P K e:=by
 intro w x y m n;have b:P.fieldsOf K=a:=by simp[Program.fieldsOf,hK]
 have h:=run_equalIn_struct (P:=P) w 9999 K (x.map JL).toArray (y.map JL).toArray (by rw[b];exact hK) f;have k:=LY (P:=P) (w:=w) i u1 j l 9998 a.toList e x y [] [] rfl g m n;simp only[List.nil_append] at k;rw[b,k] at h;exact h
end
section
variable{P:Program}{a:Act}{w:World}{dst:Option Tmp}{ty:TypeId}{pos:String}{BV:Array Edge}{g:Option (Nat×Bool)}
theorem OA{x y:Operand}{v1 v2:Value}{x1 x2:List (Int⊕Bool)}{b:List Bool}{t d:TypeId}(e:Qk P t b)(c:P.eqGuardType P.depth t=false)(f:a.eval x=v1)(h:a.eval y=v2)(i:v1=KY x1)(j:v2=KY x2)(k:x1.map Ku=b)(l:x2.map Ku=b):
  BF P ⟨dst,.binOp .eql t x y d,ty,pos,BV,g⟩ a w (fun u w'=>u=.bool (G4 x1 x2)∧w'=w):=by
 refine Oo f h ?_;subst i;subst j;have m:=e w x1 x2 k l;have n:(eqGuard .eql t x y (KY x1) (KY x2)).run P w=.ok () w:=by
  simp[eqGuard,KY,program,Sem.run,c]
 simp only[Sem.run_bind,n,Result.andThen_ok];show(do pure (Value.bool (←Op.equal t (KY x1) (KY x2))):Sem Value).run P w=_;simp only[Sem.run_bind,m,Result.andThen_ok,Sem.run_pure]
theorem QQ{x y:Operand}{p q:Option Addr}{t u:TypeId}{b:Bool}(c:a.eval x=.pointer p)(d:a.eval y=.pointer q)(e:(Op.equal t (.pointer p) (.pointer q)).run P w=.ok b w):BF P ⟨dst,.binOp .eql t x y u,ty,pos,BV,g⟩ a w (fun v w'=>v=.bool b∧w'=w):=
 Ci (by simp[execOp,c,d,binOp,e,eqGuard])
theorem MH {α:Type} {e:DS α} {aA t:TypeId} {x y:Operand} {b o k p c:Nat} {v:Value} {n0:Nat} {Z:Nat→Prop} {A:Option Addr} {xs:List α} {z z':α} {l:List Value} {n:Nat}
  (aB:AN e aA n0 w Z A c xs) (aD:xs[k]?=some z) (aM:A=some ⟨b,o,none⟩) (aN:p=o+k*e.sz) (aO:a.eval x=.pointer (some ⟨b,p,none⟩)) (aP:a.eval y=v) (aQ:(P.info? t).map (·.size)=some n) (aR:v.cells.toList=l) (aS:l.length=n)
  (aT:∀u∈l,u.oneCell'=true) (aE:e.R w Z l z'):
  BF P ⟨dst,.store t x y,ty,pos,BV,g⟩ a w (fun _ w'=>w.grownBy w' (ob A)∧∃Bc,R2 e w Z Bc (xs.set k z')∧DG w' n0 aA e.sz A (xs.set k z').length c Bc.flatten):=by
 obtain⟨Bc,f,aU⟩:=aB;obtain⟨a4,aY,aF,aZ⟩:=f.get aD;have a0:=e.len aF;have aG:=e.len aE;subst aM;subst aN;have aH:k<xs.length:=(List.getElem?_eq_some_iff.1 aD).1;have hlen:=f.len;have h:=f.lens;rcases aU.2 with⟨aI,h0⟩|⟨a5,cap,cur,aI,aJ,aV,q,aK,aC,i⟩
 ·omega
 ·cases aI;have a2:k*e.sz+e.sz≤xs.length*e.sz:=by
   have:(k+1)*e.sz≤xs.length*e.sz:=Nat.mul_le_mul_right _ aH;rw[Nat.add_mul,Nat.one_mul] at this;exact this
  have a3:xs.length*e.sz≤c*e.sz:=Nat.mul_le_mul_right _ q;have aL:Bk w b aA cur:=aV;refine(Bb (B1:=setCells cur (0+k*e.sz) l) aO aP aQ aL aR aS (by omega) aT rfl).mono ?_;rintro _ w' ⟨s1,s2,aW⟩;have d:=f.set aE k;refine⟨aW,_,d,by rw[d.Iw],.inr ⟨b,c,setCells cur (0+k*e.sz) l,rfl,aJ,s2,by rw[List.length_set];exact q,aK,by rw[D1 0];exact aC,?_⟩⟩;rw[List.length_set];rcases Nat.eq_zero_or_pos e.sz with h0|h0
  ·have aX:(Bc.set k l).flatten=[]:=List.eq_nil_of_length_eq_zero (by rw[d.Iw,h0,Nat.mul_zero]);rw[aX,h0,Nat.mul_zero,List.take_zero]
  ·refine List.ext_getElem? fun j=>?_;rw[KE aG h0 k Bc j h (by omega),List.getElem?_take,Array.getElem?_toList,E6 _ _ _ _ (by omega)];have r:∀j:Nat,Bc.flatten[j]?=if j<xs.length*e.sz then cur[j]? else none:=fun j=>by
    rw[←i,List.getElem?_take,Array.getElem?_toList]
   by_cases m:j<xs.length*e.sz
   ·rw[if_pos m]
    by_cases s:k*e.sz≤j∧j<k*e.sz+e.sz
    ·rw[if_pos (by omega),if_pos s,show j-(0+k*e.sz)=j-k*e.sz by omega]
    ·rw[if_neg (by omega),if_neg s,r,if_pos m]
   ·rw[if_neg m,if_neg (by omega),r,if_neg m]
theorem Gg{α:Type}{e:DS α}{f t:TypeId}{x y:Operand}{b o k p c:Nat}{v:Value}{n0:Nat}{Z:Nat→Prop}{A:Option Addr}{xs:List α}{z z':α}{l:List Value}{n:Nat}
  (d:AN e f n0 w Z A c xs)(i:xs[k]?=some z)(j:A=some ⟨b,o,none⟩)(m:p=o+k)(q:a.eval x=.pointer (some ⟨b,p,none⟩))(r:a.eval y=v)(s:(P.info? t).map (·.size)=some n)(aA:v.cells.toList=l)(aB:l.length=n)
  (aC:∀u∈l,u.oneCell'=true)(aD:e.R w Z l z')(h:e.sz=1:=by rfl):
  BF P ⟨dst,.store t x y,ty,pos,BV,g⟩ a w (fun _ w'=>w.grownBy w' (ob A)∧∃Bc,R2 e w Z Bc (xs.set k z')∧DG w' n0 f e.sz A (xs.set k z').length c Bc.flatten):=
 MH d i j (by rw[h,Nat.mul_one];exact m) q r s aA aB aC aD
end
theorem JM{l:List Int}{i:Nat}{x:Int}(h:l[i]?=some x):(l.map fun n=>Value.int .i64 n)[i]?=some (.int .i64 x):=by rw[List.getElem?_map,h];rfl
theorem AN.Tp {α:Type} {e:DS α} {t:TypeId} {n0:Nat} {w:World} {Z:Nat→Prop} {A:Option Addr} {c k:Nat} {xs:List α} {x:α} (h:AN e t n0 w Z A c xs) (h0:0<e.sz) (f:xs[k]?=some x):
  ∃b o cs,A=some ⟨b,o,none⟩∧e.R w Z cs x∧Rz w ZA (some ⟨b,o+k*e.sz,none⟩) cs:=by
 obtain⟨Bc,g,i⟩:=h;have q:Sl e w ZA A c xs:=AN.all (t:=t) (n0:=n0) (Z:=Z) ⟨Bc,g,i⟩;obtain⟨b,o,B1,l,y,aB⟩:=q.elem h0 f;obtain⟨m,z,a,n⟩:=g.get f;refine⟨b,o,m,l,a,?_⟩;have hlen:m.length=e.sz:=e.len a;have r:=i.rd;rcases r.2 with s|⟨b',o',d,_,p,v⟩
 ·have:=g.Iw;rw[s] at this;have aA:k<xs.length:=(List.getElem?_eq_some_iff.1 f).1;have aC:0<xs.length*e.sz:=Nat.mul_pos (by omega) h0;simp at this;omega
 ·rw[l] at d;cases d;refine .inr ⟨b,_,rfl,trivial,p,fun j u hu=>?_⟩;rw[Nat.add_assoc];refine v _ _ ?_;rw[←n,List.getElem?_take] at hu;split at hu
  ·simpa using hu
  ·cases hu
theorem AN.HB{α:Type}{e:DS α}{t:TypeId}{n0:Nat}{w:World}{Z:Nat→Prop}{A:Option Addr}{c k:Nat}{xs:List α}{x:α}(h:AN e t n0 w Z A c xs)(d:e.sz=1)(f:xs[k]?=some x):
  ∃b o cs,A=some ⟨b,o,none⟩∧e.R w Z cs x∧Rz w ZA (some ⟨b,o+k,none⟩) cs:=by
 obtain⟨b,o,cs,g,i,a⟩:=h.Tp (by omega) f;rw[d,Nat.mul_one] at a;exact⟨b,o,cs,g,i,a⟩
def TC(w:World)(D:Nat→Prop)(M:World→Prop):Nat→World→Prop
 |0,w'=>Ext w w'
 |_+1,w'=>Bd D w w'∧M w'
section
variable{w w' Br:World}{D:Nat→Prop}{M:World→Prop}{ph:Nat}
theorem Fh(h:TC w D M ph w'):Bd D w w':=by
 cases ph with
 |zero=>exact F6 h
 |succ=>exact h.1
theorem Bt(h:TC w D M ph w')(a:ph=0):Ext w w':=by subst a;exact h
theorem GM(c:∀a b,M a→Ext a b→M b)(h:TC w D M ph w')(g:Ext w' Br):TC w D M ph Br:=by
 cases ph with
 |zero=>exact Ext.trans h g
 |succ=>exact⟨(show Bd D w w' from h.1).trans (F6 g),c _ _ h.2 g⟩
theorem Hu(h:TC w D M ph w')(a:ph=0)(g:Bd D w' Br)(b:M Br):TC w D M (ph+1) Br:=by
 subst a;exact⟨(F6 h).trans g,b⟩
theorem Hm{r:Option Nat}(g:w.grownBy w' r):Bd (FU FN [r]) w w':=H3 g fun k e=>.inr (by rw[e];exact List.mem_singleton_self _)
end
section
variable{F F':Nat→Prop}{B:List (Option Nat)}{w0 w w':World}{L M:List (Option Nat)}
theorem Hp.OB{Z:Nat→Prop}{a:Nat}(h:Hp F B w0 L w)(c:w.heap.size≤a):Mv w' (ZZ FN [] FN a []) w' (ZZ F B Z w0.heap.size L):=Gu fun b d _=>by
 rcases d with⟨_,e,_⟩|⟨f,_⟩
 ·exact e.elim
 ·refine .inr ⟨Nat.le_trans h.sz (Nat.le_trans c f),fun hm=>?_⟩;have:=(h.lo b hm).1;omega
theorem Hp.QR{α:Type}{e:DS α}{t:TypeId}{A:Option Addr}{c:Nat}{xs:List α}{Z Z':Nat→Prop}(h:Hp F B w0 L w)(b:∀w Z w' Z' cs x,e.R w Z cs x→e.R w' Z' cs x)(a:AN e t w.heap.size w' Z' A c xs):AN e t w0.heap.size w' Z A c xs:=
 AN.Oy b (a.base (n1:=w0.heap.size) fun k d=>Nat.le_trans h.sz (a.ge k d))
theorem Hp.KZ{α:Type}{e:DS α}{t:TypeId}{A:Option Addr}{c:Nat}{xs:List α}{Z a:Nat→Prop}(h:Hp F B w0 L w)(b:∀w Z w' Z' cs x,e.R w Z cs x→e.R w' Z' cs x)(d:AN e t w.heap.size w' a A c xs):Sl e w' (ZZ F B Z w0.heap.size L) A c xs:=
 (AN.Oy b d).sl fun k _ h0=>h.kn h0
theorem Hp.Ll (h:Hp F B w0 L w) (f:Hp F B w0 L w') {b:Nat} (p:w.heap.size≤b) (l:b<w'.heap.size):Hp F B w0 (some b::L) w':=by
 refine⟨f.ch,fun k a=>?_,?_,h.ff⟩
 ·rcases List.mem_cons.1 a with e|a
  ·cases e;exact⟨l,fun m=>absurd (h.ff _ m) (by have:=h.sz;omega),fun n=>absurd n (by have:=h.sz;omega)⟩
  ·exact f.lo k a
 ·have key:∀(j:Nat) (x:Nat),L[j]?=some (some x)→x≠b:=fun j x o e=>by
   have:=(h.lo x (List.mem_of_getElem? o)).1;omega
  intro i j x g hi c;cases i with
  |zero=>
   cases j with
   |zero=>exact g rfl
   |succ j=>
    have d:b=x:=by simpa using hi
    exact key j x (by simpa using c) d.symm
  |succ i=>
   cases j with
   |zero=>
    have d:b=x:=by simpa using c
    exact key i x (by simpa using hi) d.symm
   |succ j=>exact h.ap i j x (by omega) (by simpa using hi) (by simpa using c)
theorem Fp{Z:Nat→Prop}{n0:Nat}{b:Nat}(hm:Mv w (ZZ F B Z n0 L) w' (ZZ F B Z n0 L))(h:w.heap.size≤b):Mv w (ZZ F B Z n0 L) w' (ZZ F B Z n0 (some b::L)):=
 ⟨hm.size,fun k c d=>⟨(hm.stay k c d).1.imp id fun⟨f,g⟩=>⟨f,fun a=>by
  rcases List.mem_cons.1 a with e|a
  ·cases e;omega
  ·exact g a⟩,(hm.stay k c d).2⟩⟩
end
def OC (w:World) (R:World→Value→World→Prop):Jp Ext:=
 ⟨fun v a=>∃w1 w2,Ext w w1∧R w1 v w2∧Ext w2 a,fun _ _ _ ⟨w1,w2,b,c,d⟩ g=>⟨w1,w2,b,c,Ext.trans d g⟩⟩
def HM(w:World)(R:World→Value→World→Prop)(a:World):Prop:=∃v w1 w2,Ext w w1∧R w1 v w2∧Ext w2 a
theorem Gz{w:World}{R:World→Value→World→Prop}:∀a b,HM w R a→Ext a b→HM w R b:=fun _ _ ⟨v,w1,w2,c,d,e⟩ g=>⟨v,w1,w2,c,d,Ext.trans e g⟩
def K0(_:World):Prop:=True
theorem JN:∀a b,K0 a→Ext a b→K0 b:=fun _ _ _ _=>trivial
def GU(n:Nat)(w:World):List Nat→Prop
 |[]=>True
 |b::l=>n≤b∧b<w.heap.size∧(l.all fun x=> !Nat.beq b x)=true∧GU n w l
section
variable{F F':Nat→Prop}{B:List (Option Nat)}{w0 w w':World}{L M:List (Option Nat)}{Z:Nat→Prop}
theorem GU.mem{n:Nat}:∀{l:List Nat},GU n w l→∀b∈l,n≤b∧b<w.heap.size
 |[],_,_,h=>by cases h
 |x::l,h,b,a=>by
  rcases List.mem_cons.1 a with rfl|a
  ·exact⟨h.1,h.2.1⟩
  ·exact GU.mem h.2.2.2 b a
theorem GU.grow{n a:Nat}(b:a≤n)(c:w.heap.size≤w'.heap.size):∀{l:List Nat},GU n w l→GU a w' l
 |[],_=>trivial
 |_::_,h=>⟨Nat.le_trans b h.1,Nat.lt_of_lt_of_le h.2.1 c,h.2.2.1,GU.grow b c h.2.2.2⟩
theorem Hp.MI(h:Hp F B w0 L w):∀{l:List Nat},Hp F B w0 L w'→GU w.heap.size w' l→Hp F B w0 (l.map some++L) w'
 |[],c,_=>c
 |b::l,c,a=>by
  have d:=Hp.MI h c a.2.2.2;refine⟨d.ch,fun k f=>?_,?_,h.ff⟩
  ·rcases List.mem_cons.1 f with e|f
   ·cases e;exact⟨a.2.1,fun p=>absurd (h.ff _ p) (by have:=h.sz;have:=a.1;omega),fun n=>absurd n (by have:=h.sz;have:=a.1;omega)⟩
   ·exact d.lo k f
  ·have key:∀(j:Nat) (x:Nat),(l.map some++L)[j]?=some (some x)→x≠b:=fun j x q e=>by
    subst e;have hm:=List.mem_of_getElem? q;rcases List.mem_append.1 hm with hm|hm
    ·obtain⟨y,r,e⟩:=List.mem_map.1 hm;cases e;have:=List.all_eq_true.1 a.2.2.1 x r;rw[Nat.beq_refl] at this;cases this
    ·have:=(h.lo x hm).1;have:=a.1;omega
   intro i j x o hi g;cases i with
   |zero=>
    cases j with
    |zero=>exact o rfl
    |succ j=>
     have m:b=x:=by simpa using hi
     exact key j x (by simpa using g) m.symm
   |succ i=>
    cases j with
    |zero=>
     have m:b=x:=by simpa using g
     exact key i x (by simpa using hi) m.symm
    |succ j=>exact d.ap i j x (by omega) (by simpa using hi) (by simpa using g)
theorem Hp.Lm(h:Hp F B w0 L w)(g:Ext w w'){l:List Nat}(a:GU w.heap.size w' l):Hp F B w0 (l.map some++L) w':=h.MI (h.ext g) a
theorem EE{n0:Nat}{l:List Nat}(hm:Mv w (ZZ F B Z n0 L) w' (ZZ F B Z n0 L))(d:GU w.heap.size w' l):Mv w (ZZ F B Z n0 L) w' (ZZ F B Z n0 (l.map some++L)):=
 ⟨hm.size,fun k c b=>⟨(hm.stay k c b).1.imp id fun⟨f,g⟩=>⟨f,fun a=>by
  rcases List.mem_append.1 a with a|a
  ·obtain⟨y,h,e⟩:=List.mem_map.1 a;cases e;have:=(d.mem k h).1;omega
  ·exact g a⟩,(hm.stay k c b).2⟩⟩
theorem OD{b c:Nat}(f:w.heap.size≤b)(a:b<w'.heap.size)(g:w.heap.size≤c)(d:c<w'.heap.size)(e:b≠c):GU w.heap.size w' [b,c]:=
 ⟨f,a,by
  have:Nat.beq b c=false:=by
   cases h:Nat.beq b c with
   |false=>rfl
   |true=>exact absurd (Nat.eq_of_beq_eq_true h) e
  simp[this],g,d,rfl,trivial⟩
theorem Hp.Ql (h:Hp F B w0 L w):∀(l:List Nat) (c:List Nat),FR L c (l.map some)→II c=true→(∀b∈l,w0.heap.size≤b)→GU w0.heap.size w l
 |[],_,_,_,_=>trivial
 |b::l,[],a,_,_=>a.elim
 |b::l,j::c,a,e,d=>by
  simp only[II,Bool.and_eq_true] at e;refine⟨d b (List.mem_cons_self ..),(h.lo b (List.mem_of_getElem? a.1)).1,?_,h.Ql l c a.2 e.2 fun x f=>d x (List.mem_cons_of_mem _ f)⟩;rw[List.all_eq_true];intro x f;cases i:Nat.beq b x with
  |false=>rfl
  |true=>
   have g:=Nat.eq_of_beq_eq_true i;subst g;have k:=h.Bu (F':=FN) j a.1 c e.1 a.2 (fun _ h=>h.elim);exact absurd (.inr (List.mem_map.2 ⟨b,f,rfl⟩)) k
end
section
variable{P:Program}{N:Nat}{Q:Exit→Act→World→Prop}{a:Act}{l:Env}{w:World}
def Ln(a:Act):Act:={a with defers:=[]}
theorem JO(a:Act):∀l:Env,BM (Ln a) l=Ln (BM a l)
 |[]=>rfl
 |(d,v)::l=>by simp only[BM,JO a l];rfl
theorem K1{D:Nat}{fn:Func}{R:Value→World→Prop}(c:w.heap[D]?=some (.deferred (some [])))(h:∀w',Gf D w w'→LV X0 N (bodyPost P fn (fun e w'=>∃v,e=.returned v∧R v w')) .ret (Ln a) l w'):
  LV (X1 D) N (PM P fn R) .ret a l w:=fun s=>by
 have d:St X0 N (Ln a) l:=⟨s.sz,rfl,s.lt⟩;obtain⟨_,v,b,f⟩:=h _ (Gi w D (.deferred none)) d;show LeavesInM Fence.wide 0 P fn _ _ (BM a l).defers .returning w;rw[Dn,show a.defers=mark D from s.df];refine⟨by simp,.inl ⟨D,_,rfl,run_takeDeferred c,?_⟩⟩;rw[JO] at b;exact⟨v,b,f⟩
theorem NJ{D:Nat}{fn:Func}{R:Value→World→Prop}(c:w.heap[D]?=some (.deferred (some [])))(h:∀w',Gf D w w'→LV X0 N (bodyPost P fn (fun e w'=>∃v,e=.returned v∧R v w')) .normal (Ln a) l w'):
  LV (X1 D) N (PM P fn R) .normal a l w:=fun s=>by
 have d:St X0 N (Ln a) l:=⟨s.sz,rfl,s.lt⟩;obtain⟨_,v,b,f⟩:=h _ (Gi w D (.deferred none)) d;show LeavesInM Fence.wide 0 P fn _ _ (BM a l).defers .returning w;rw[Dn,show a.defers=mark D from s.df];refine⟨by simp,.inl ⟨D,_,rfl,run_takeDeferred c,?_⟩⟩;rw[JO] at b;exact⟨v,b,f⟩
end
theorem NK{α:Type}{b:Bool}{x:Option α}{r:α}(h:cond b none x=some r):b=false∧x=some r:=by
 cases b with
 |true=>cases h
 |false=>exact⟨rfl,h⟩
def C1(xs:List Int):List Int:=xs.mergeSort fun x y=>decide (x≤y)
theorem H7(xs:List Int):(C1 xs).length=xs.length:=List.length_mergeSort _
theorem O9{w:World}{Z:Nat→Prop}:∀{Bc:List (List Value)} {xs:List Int},R2 (AJ .i64) w Z Bc xs→Bc.flatten=B8 xs
 |[],[],_=>rfl
 |c::Bc,x::xs,h=>by
  have a:c=[.int .i64 x]:=h.1;rw[List.flatten_cons,O9 h.2,a];rfl
 |[],_::_,h=>h.elim
 |_::_,[],h=>h.elim
theorem Pb{w:World}{Z:Nat→Prop}:∀xs:List Int,R2 (AJ .i64) w Z (xs.map fun x=>[.int .i64 x]) xs
 |[]=>trivial
 |_::xs=>⟨rfl,Pb xs⟩
theorem Qm(xs:List Int):(xs.map fun x=>[Value.int .i64 x]).flatten=B8 xs:=by
 induction xs with
 |nil=>rfl
 |cons x xs ih=>rw[List.map_cons,List.flatten_cons,ih];rfl
theorem OE{t:TypeId}{n0:Nat}{w:World}{Z:Nat→Prop}{A:Option Addr}{c:Nat}{xs:List Int}(h:AN (AJ .i64) t n0 w Z A c xs):DG w n0 t 1 A xs.length c (B8 xs):=by
 obtain⟨Bc,a,b⟩:=h;rw[←O9 a];exact b
theorem J8{t:TypeId}{n0:Nat}{w:World}{Z:Nat→Prop}{A:Option Addr}{c:Nat}{xs:List Int}(h:DG w n0 t 1 A xs.length c (B8 xs)):AN (AJ .i64) t n0 w Z A c xs:=
 ⟨_,Pb xs,by rw[Qm];exact h⟩
theorem Tq{α β:Type}{x:Option β}{f:α→Option β}{r:β}(h:Option.elim none x f=some r):x=some r:=h
theorem Ts{α β:Type}{a:α}{x:Option β}{f:α→Option β}{r:β}(h:Option.elim (some a) x f=some r):f a=some r:=h
theorem Jf{F:Nat→Prop}{b:Nat}{L:List (Option Nat)}(h:¬F b∧some b∉L):¬F b∧some b∉L++[none]:=⟨h.1,fun hm=>by
 rcases List.mem_append.1 hm with a|a
 ·exact h.2 a
 ·simp at a⟩
theorem Bd.NL{F:Nat→Prop}{C:List (Option Nat)}{o:Option Nat}{w w':World}(g:Bd (FU F (C++[o]++[none])) w w'):Bd (FU (FU F C) [o]) w w':=g.mono fun k h=>by
 rcases h with h|h
 ·exact .inl (.inl h)
 ·rcases List.mem_append.1 h with a|a
  ·rcases List.mem_append.1 a with b|b
   ·exact .inl (.inr b)
   ·exact .inr b
  ·simp at a
theorem Sl.QS{α β:Type}{e:DS α}{ev:β→Value}{F:Nat→Prop}{B L:List (Option Nat)}{Z:Nat→Prop}{n0 r n:Nat}{w:World}{i:List (List Int×β)}{A:Option Addr}{c:Nat}{xs:List α}
  (j:∀w Z w' Z' cs x,e.R w Z cs x→e.R w' Z' cs x)(hm:Cc ev w r n i)(h:Sl e w (ZZ F B Z n0 L) A c xs):Sl e w (ZZ F B Z n0 (some r::L)) A c xs:=by
 obtain⟨k,m,Bc,p,d⟩:=h;refine⟨k,m,Bc,p.free j,?_⟩;rcases d with d|⟨b,o,q,s,t,f⟩
 ·exact .inl d
 ·cases g:Bc.flatten with
  |nil=>exact .inl rfl
  |cons u l=>
   rw[g] at f;refine .inr ⟨b,o,q,s.imp id fun⟨v,y⟩=>⟨v,fun a=>?_⟩,t,f⟩;rcases List.mem_cons.1 a with e|a
   ·cases e;obtain⟨es,aA,z,_⟩:=hm;have:=f 0 u rfl;unfold World.cell? at this;simp[z] at this
   ·exact y a
section
variable{P:Program}{N:Nat}{a:Act}{l:Env}{w:World}
theorem GV{fn:Func}{r1 r2 n:ResultVar}{v v' Is:Value}{R:Value→World→Prop}(g:fn.results= #[r1,r2,n])(x:MB P a l w r1 v)(q:MB P a l w r2 v')(i:MB P a l w n Is)(h:R (.tuple #[v,v',Is]) w):
  LV X0 N (bodyPost P fn (fun e w'=>∃v,e=.returned v∧R v w')) .ret a l w:=fun s=>by
 refine bodyPost_ret (v:=.tuple #[v,v',Is]) ?_ (by rw[Dn,s.df]) ⟨_,rfl,h⟩;cases r1 with
 |tmp t0=>
  have d:(BM a l).tmps.getD t0 undef=v:=ee s x;simp only[Array.getD_eq_getD_getElem?] at d;cases r2 with
  |tmp t1=>
   have c:(BM a l).tmps.getD t1 undef=v':=ee s q;simp only[Array.getD_eq_getD_getElem?] at c;cases n with
   |tmp t2=>
    have b:(BM a l).tmps.getD t2 undef=Is:=ee s i;simp only[Array.getD_eq_getD_getElem?] at b;simp[results,g,d,c,b]
   |cell j t2=>
    obtain⟨f,k,m⟩:=i;have b:(BM a l).tmps.getD j undef=.pointer (some f):=ee s k;simp only[Array.getD_eq_getD_getElem?] at b;simp[results,g,d,c,b,asAddr,m]
  |cell t t1=>
   obtain⟨o,u,p⟩:=q;have c:(BM a l).tmps.getD t undef=.pointer (some o):=ee s u;simp only[Array.getD_eq_getD_getElem?] at c;cases n with
   |tmp t2=>
    have b:(BM a l).tmps.getD t2 undef=Is:=ee s i;simp only[Array.getD_eq_getD_getElem?] at b;simp[results,g,d,c,asAddr,p,b]
   |cell j t2=>
    obtain⟨f,k,m⟩:=i;have b:(BM a l).tmps.getD j undef=.pointer (some f):=ee s k;simp only[Array.getD_eq_getD_getElem?] at b;simp[results,g,d,c,asAddr,p,b,asAddr,m]
 |cell z t0=>
  obtain⟨y,aA,r⟩:=x;have d:(BM a l).tmps.getD z undef=.pointer (some y):=ee s aA;simp only[Array.getD_eq_getD_getElem?] at d;cases r2 with
  |tmp t1=>
   have c:(BM a l).tmps.getD t1 undef=v':=ee s q;simp only[Array.getD_eq_getD_getElem?] at c;cases n with
   |tmp t2=>
    have b:(BM a l).tmps.getD t2 undef=Is:=ee s i;simp only[Array.getD_eq_getD_getElem?] at b;simp[results,g,d,asAddr,r,c,b]
   |cell j t2=>
    obtain⟨f,k,m⟩:=i;have b:(BM a l).tmps.getD j undef=.pointer (some f):=ee s k;simp only[Array.getD_eq_getD_getElem?] at b;simp[results,g,d,asAddr,r,c,b,asAddr,m]
  |cell t t1=>
   obtain⟨o,u,p⟩:=q;have c:(BM a l).tmps.getD t undef=.pointer (some o):=ee s u;simp only[Array.getD_eq_getD_getElem?] at c;cases n with
   |tmp t2=>
    have b:(BM a l).tmps.getD t2 undef=Is:=ee s i;simp only[Array.getD_eq_getD_getElem?] at b;simp[results,g,d,asAddr,r,c,asAddr,p,b]
   |cell j t2=>
    obtain⟨f,k,m⟩:=i;have b:(BM a l).tmps.getD j undef=.pointer (some f):=ee s k;simp only[Array.getD_eq_getD_getElem?] at b;simp[results,g,d,asAddr,r,c,asAddr,p,b,asAddr,m]
end
theorem R4{w w':World}{Z Z' Q:Nat→Prop}(h:Mv w Z w' Z'):Mv w (fun b=>Z b∧Q b) w' (fun b=>Z' b∧Q b):=⟨h.size,fun b a c=>⟨⟨(h.stay b a.1 c).1,a.2⟩,(h.stay b a.1 c).2⟩⟩
def eF(n:Nat):DS (Bool×List Int):=
 ⟨1,fun w Z cs x=>∃A c,cs=[.slice A x.2.length c]∧Sl (AJ .i64) w (fun b=>Z b∧(x.1=true→n≤b)) A c x.2,fun⟨_,_,h,_⟩=>by rw[h];rfl,fun⟨_,_,h,_⟩=>by rw[h];simp[Value.oneCell'],
  fun⟨A,c,a,d⟩ g=>⟨A,c,a,d.mv (R4 g)⟩⟩
theorem R5{n:Nat}{w:World}{Z:Nat→Prop}:∀{Bc:List (List Value)} {xs:List (List Int)},R2 (BQ (AJ .i64)) w Z Bc xs→R2 (eF n) w Z Bc (xs.map fun x=>(false,x))
 |[],[],_=>trivial
 |_::_,_::_,⟨⟨A,c,a,b⟩,h⟩=>⟨⟨A,c,a,b.mv (Gu fun _ d _=>⟨d,fun e=>by cases e⟩)⟩,R5 h⟩
 |[],_::_,h=>h.elim
 |_::_,[],h=>h.elim
theorem R6{n:Nat}{w:World}{Z:Nat→Prop}:∀{Bc:List (List Value)} {xs:List (Bool×List Int)},(∀y∈xs,y.1=true)→R2 (eF n) w Z Bc xs→R2 (BQ (AJ .i64)) w (fun b=>n≤b) Bc (xs.map Prod.snd)
 |[],[],_,_=>trivial
 |_::_,x::_,a,⟨⟨A,c,d,e⟩,h⟩=>⟨⟨A,c,d,e.mv (Gu fun _ f _=>f.2 (a x (List.mem_cons_self ..)))⟩,R6 (fun y g=>a y (List.mem_cons_of_mem _ g)) h⟩
 |[],_::_,_,h=>h.elim
 |_::_,[],_,h=>h.elim
theorem Tt{t n0 n:Nat}{w:World}{Z:Nat→Prop}{A:Option Addr}{c:Nat}{xs:List (List Int)}(h:AN (BQ (AJ .i64)) t n0 w Z A c xs):AN (eF n) t n0 w Z A c (xs.map fun x=>(false,x)):=by
 obtain⟨Bc,a,b⟩:=h;exact⟨Bc,R5 a,by rw[List.length_map];exact b⟩
theorem Tu{t n0 n:Nat}{w:World}{Z:Nat→Prop}{A:Option Addr}{c:Nat}{xs:List (Bool×List Int)}(a:∀y∈xs,y.1=true)(h:AN (eF n) t n0 w Z A c xs):AN (BQ (AJ .i64)) t n0 w (fun b=>n≤b) A c (xs.map Prod.snd):=by
 obtain⟨Bc,d,e⟩:=h;exact⟨Bc,R6 a d,by rw[List.length_map];exact e⟩
theorem R7{a:List (Bool×List Int)}{k:Nat}{x:List Int}(h:(a.map Prod.snd)[k]?=some x):∃b,a[k]?=some (b,x):=by
 rw[List.getElem?_map] at h;cases c:a[k]? with
 |none=>rw[c] at h;cases h
 |some y=>rw[c] at h;cases h;exact⟨y.1,rfl⟩
end Go.Proofs.Ytkljfdkmjdjpfaa
end
section
namespace Go.Proofs.Ytkljfdkmjdjpfaa
open Go.RowKit
theorem Gt{b:Nat}{t:TypeId}:∀(l:List Value) (o:Nat) {w:World} {cs:Array Value},Bk w b t cs→Bk (w.setCells b o l) b t (setCells cs o l)∧w.grownBy (w.setCells b o l) (some b)
 |[],o,w,cs,h=>⟨h,World.grownBy.refl w _⟩
 |v::l,o,w,cs,h=>by
  have c:Bk (w.setCell ⟨b,o,none⟩ v) b t (cs.setIfInBounds o v):=by
   unfold Bk at h⊢;simp[World.setCell,Array.getElem?_modify,h]
  have g1:Gf b w (w.setCell ⟨b,o,none⟩ v):=⟨rfl,rfl,rfl,by simp,fun k _ a=>Below.heap_setCell w ⟨b,o,none⟩ v k (by simpa using a)⟩;have ih:=Gt l (o+1) c;exact⟨ih.1,World.grownBy.trans g1 ih.2⟩
def CI (xs:List Int) (i:Int) (x:Int):List Int:=xs.take i.toNat++x::xs.drop i.toNat
theorem Kw(xs:List Int)(i:Int)(x:Int):(CI xs i x).length=xs.length+1:=by
 unfold CI;simp;omega
theorem Qn{w w':World}{b:Nat}{o:Obj}(a:b=w.heap.size)(g:World.grownBy (w.alloc o) w' (some b)):Ext w w':=
 ⟨g.os,g.tape,g.output,by have:=g.size;simp at this;omega,fun k c _=>by
  have d:=g.block k (by simp;omega) (by rw[a];intro e;cases e;omega);rw[d];exact(World.grownBy_alloc w o none).block k c (by simp)⟩
theorem HN{w:World}{base t g c:Nat}{cur:Array Value}{l:List Value}(a:base≤g)(d:Bk w g t cur)(e:l.length≤c)(f:c≤maxLen)(i:cur.size=c)(h:∀j,j<l.length→cur[j]?=l[j]?):DG w base t 1 (some ⟨g,0,none⟩) l.length c l:=by
 refine⟨by simp,.inr ⟨g,c,cur,rfl,a,d,e,f,by simp[i],?_⟩⟩;rw[Nat.mul_one];apply List.ext_getElem?;intro j;rw[List.getElem?_take];split
 ·rename_i b
  rw[←h j b];simp
 ·rename_i b
  rw[List.getElem?_eq_none (by omega)]
theorem Ue{b:Bool}(h:b=false)(k:b=true):False:=by rw[h] at k;cases k
section
variable{F F':Nat→Prop}{B:List (Option Nat)}{w0 w w' Br:World}{Z:Nat→Prop}{L M:List (Option Nat)}
theorem Qo(h:Ext w w'){r:Option Nat}(g:w'.grownBy Br r)(b:∀k,r=some k→w.heap.size≤k):Ext w Br:=
 ⟨g.os.trans h.os,g.tape.trans h.tape,g.output.trans h.output,Nat.le_trans h.size g.size,fun k a _=>(g.block k (Nat.lt_of_lt_of_le a h.size) (fun e=>by have:=b k e.symm;omega)).trans (h.block k a (by simp))⟩
theorem Lp{x y:Option Nat}{n:Nat}(a:∀k,x=some k→n≤k)(b:n≤w'.heap.size)(c:∀k,y=some k→(x=some k∨w'.heap.size≤k)∧k<Br.heap.size):∀k,y=some k→n≤k:=fun k d=>
 (c k d).1.elim (a k) (fun h=>Nat.le_trans b h)
theorem R8{b:Nat}{t:TypeId}{cs:Array Value}(nb:It w' Br b t cs):∀k,ob (some ⟨b,0,none⟩)=some k→((none:Option Nat)=some k∨w'.heap.size≤k)∧k<Br.heap.size:=fun k e=>by
 cases e;exact⟨.inr (Nat.le_of_eq nb.EX.symm),nb.bk.lt⟩
theorem R9{α:Type}{e:DS α}{t:TypeId}{A:Option Addr}{c:Nat}{xs:List α}{Z:Nat→Prop}(h:AN e t w'.heap.size Br Z A c xs):∀k,ob A=some k→((none:Option Nat)=some k∨w'.heap.size≤k)∧k<Br.heap.size:=fun k e=>⟨.inr (h.ge k e),h.Jq k e⟩
end
def eT:DS (Bool×(Option Addr×Nat)×List Int):=
 ⟨1,fun w Z cs x=>∃A c,cs=[.slice A x.2.2.length c]∧(x.1=true→A=x.2.1.1∧c=x.2.1.2)∧(x.1=false→Sl (AJ .i64) w Z A c x.2.2),fun⟨_,_,h,_⟩=>by rw[h];rfl,fun⟨_,_,h,_⟩=>by rw[h];simp[Value.oneCell'],
  fun⟨A,c,a,b,d⟩ g=>⟨A,c,a,b,fun e=>(d e).mv g⟩⟩
theorem Sa{w:World}{Z:Nat→Prop}:∀{Bc:List (List Value)} {xs:List (List Int)},R2 (BQ (AJ .i64)) w Z Bc xs→R2 eT w Z Bc (xs.map fun x=>(false,(none,0),x))
 |[],[],_=>trivial
 |_::_,_::_,⟨⟨A,c,a,b⟩,h⟩=>⟨⟨A,c,a,fun e=>(by cases e),fun _=>b⟩,Sa h⟩
 |[],_::_,h=>h.elim
 |_::_,[],h=>h.elim
theorem Sb{w:World}{Z:Nat→Prop}:∀{Bc:List (List Value)} {xs:List (Bool×(Option Addr×Nat)×List Int)},(∀y∈xs,y.1=true→Sl (AJ .i64) w Z y.2.1.1 y.2.1.2 y.2.2)→R2 eT w Z Bc xs→R2 (BQ (AJ .i64)) w Z Bc (xs.map fun y=>y.2.2)
  |[],[],_,_=>trivial
  |_::_,x::_,b,⟨⟨A,c,d,e,f⟩,h⟩=>⟨by
      cases a:x.1 with
      |true=>
        obtain⟨rfl,rfl⟩:=e a;exact⟨_,_,d,b x (List.mem_cons_self ..) a⟩
      |false=>exact⟨A,c,d,f a⟩,Sb (fun y g=>b y (List.mem_cons_of_mem _ g)) h⟩
  |[],_::_,_,h=>h.elim
  |_::_,[],_,h=>h.elim
theorem Tv{t n0:Nat}{w:World}{Z:Nat→Prop}{A:Option Addr}{c:Nat}{xs:List (List Int)}(h:AN (BQ (AJ .i64)) t n0 w Z A c xs):AN eT t n0 w Z A c (xs.map fun x=>(false,(none,0),x)):=by
 obtain⟨Bc,a,b⟩:=h;exact⟨Bc,Sa a,by rw[List.length_map];exact b⟩
theorem Tw{t n0:Nat}{w:World}{Z:Nat→Prop}{A:Option Addr}{c:Nat}{xs:List (Bool×(Option Addr×Nat)×List Int)}(a:∀y∈xs,y.1=true→Sl (AJ .i64) w Z y.2.1.1 y.2.1.2 y.2.2)(h:AN eT t n0 w Z A c xs):AN (BQ (AJ .i64)) t n0 w Z A c (xs.map fun y=>y.2.2):=by
 obtain⟨Bc,b,d⟩:=h;exact⟨Bc,Sb a b,by rw[List.length_map];exact d⟩
def Ix (N i:Int):Nat→Int→List (List Int)→Option (List (List Int))
  |0,_,_=>none
  |a+1,k,s=>cond (decide (k<N)) (cond (k !=i) ((idx s (0:Int)).bind fun x=>(FH (((x.length+([k]:List Int).length:Nat):Int)≤140737488355328/8)).bind fun _=>(idx s (0:Int)).bind fun _=>(i64 (k+1)).bind fun _=>Ix N i a (k+1) (s.set 0 (x++[k])))
      ((i64 (k+1)).bind fun _=>Ix N i a (k+1) s)) (some s)
theorem qz{X:Ctx}{N:Nat}{a:Act}{l:Env}(st:St X N a l):(BM a l).tmps.size=N:=(Hz _ _).trans st.sz
theorem qd{X:Ctx}{N:Nat}{a:Act}{l:Env}(st:St X N a l):(BM a l).defers=X.ds:=(Dn _ _).trans st.df
theorem sp{X:Ctx}{N:Nat}{a:Act}{l:Env}(st:St X N a l)(k:Nat){v:Value}(h:lk (sl a k) l k=v):sl (BM a l) k=v:=(Hj st k).trans h
theorem Hp.nb{F:Nat→Prop}{B L:List (Option Nat)}{w0 w w':World}{b:Nat}{t:TypeId}{cs:Array Value}(h:Hp F B w0 L w)(n:It w w' b t cs):Hp F B w0 (some b::L) w':=h.new n.gr (Nat.le_of_eq n.EX.symm) (Nat.lt_of_lt_of_eq (Nat.lt_succ_self _) n.sz.symm)
theorem Hp.BL{F:Nat→Prop}{B L:List (Option Nat)}{w0 w w':World}{b:Nat}{t:TypeId}{cs:Array Value}(h:Hp F B w0 L w)(n:It w w' b t cs):w0.heap.size≤b:=by rw[n.EX];exact h.sz
theorem Az{F:Nat→Prop}{B L:List (Option Nat)}{Z:Nat→Prop}{w w':World}{n0 b:Nat}{t:TypeId}{cs:Array Value}(n:It w w' b t cs):Mv w (ZZ F B Z n0 L) w' (ZZ F B Z n0 (some b::L)):=Ei n.gr (Nat.le_of_eq n.EX.symm)
theorem X2{b c:Sort _}{p:b→c→Prop}{C:Prop}(h:∃a x1,p a x1)(k:∀a x1,p a x1→C):C:=h.elim fun a h=>h.elim fun x1 h=>k a x1 h
theorem X4{c d e f:Sort _}{p:c→d→e→f→Prop}{C:Prop}(h:∃a x1 x2 b,p a x1 x2 b)(k:∀a x1 x2 b,p a x1 x2 b→C):C:=h.elim fun a h=>h.elim fun x1 h=>h.elim fun x2 h=>h.elim fun b h=>k a x1 x2 b h
theorem Y2{a0 a1 r C:Prop}(h:a0∧a1∧r)(k:a0→a1→r→C):C:=h.elim fun a h=>h.elim fun x1 h=>k a x1 h
theorem Y4{a0 a1 a2 a3 r C:Prop}(h:a0∧a1∧a2∧a3∧r)(k:a0→a1→a2→a3→r→C):C:=h.elim fun a h=>h.elim fun x1 h=>h.elim fun x2 h=>h.elim fun b h=>k a x1 x2 b h
theorem Y8{a0 a1 a2 a3 a4 a5 a6 a7 r C:Prop}(h:a0∧a1∧a2∧a3∧a4∧a5∧a6∧a7∧r)(k:a0→a1→a2→a3→a4→a5→a6→a7→r→C):C:=h.elim fun a h=>h.elim fun x1 h=>h.elim fun x2 h=>h.elim fun b h=>h.elim fun c h=>h.elim fun d h=>h.elim fun e h=>h.elim fun f h=>k a x1 x2 b c d e f h
end Go.Proofs.Ytkljfdkmjdjpfaa
end
section
set_option linter.unusedVariables false
set_option linter.unusedSimpArgs false
namespace Go.Proofs.Ytkljfdkmjdjpfaa
open Go.RowKit Go.WideShapes
structure CL where
 Lo:Int
 Hi:Int
structure Av where
 On:Int
 Bj:Int
 AF:Bool
structure Au where
 An:Int
 Ar:Int
 AF:Int
 Bi:Int
 Bl:Int
structure Aq where
 Ah:Int
 Ai:Int
 Ap:Int
 Ax:Int
 Ac:List Au
structure A6 where
 Comes:List Int
 Ap:List Bool
structure Cl where
 BA:Int
 BO:Int
 B5:Int
 B6:Int
 AW:List Au
 CU:List Bool
 known:List (List Int×Av)
structure G5 where
 Cd:Int
 day:Int
structure BD where
 a0:Int
 a1:Int
 a2:Int
 a3:Int
def BD.set(x:BD)(k:Nat)(v:Int):BD:=⟨if k=0 then v else x.a0,if k=1 then v else x.a1,if k=2 then v else x.a2,if k=3 then v else x.a3⟩
def BD.l(x:BD):List Int:=[x.a0,x.a1,x.a2,x.a3]
theorem BD.Uf(x:BD)(k:Nat)(v:Int)(h:k<4): #[.int .i64 (x.set k v).a0,.int .i64 (x.set k v).a1,.int .i64 (x.set k v).a2,.int .i64 (x.set k v).a3]=setCells #[.int .i64 x.a0,.int .i64 x.a1,.int .i64 x.a2,.int .i64 x.a3] k [.int .i64 v]:=by
 match k,h with
 |0,_=>rfl
 |1,_=>rfl
 |2,_=>rfl
 |3,_=>rfl
 |k+4,h=>omega
def Cm:DS Av:=⟨3,fun _ _ cs x=>cs=[.int .i64 x.On,.int .i64 x.Bj,.bool x.AF],fun h=>by rw[h];rfl,fun h=>by rw[h];simp[Value.oneCell'],fun h _=>h⟩
def AI:DS Au:=⟨5,fun _ _ cs x=>cs=[.int .i64 x.An,.int .i64 x.Ar,.int .i64 x.AF,.int .i64 x.Bi,.int .i64 x.Bl],fun h=>by rw[h];rfl,fun h=>by rw[h];simp[Value.oneCell'],fun h _=>h⟩
def H8:DS Aq:=⟨5,fun w Z cs x=>∃a b,cs=[.int .i64 x.Ah,.int .i64 x.Ai,.int .i64 x.Ap,.int .i64 x.Ax,.slice a x.Ac.length b]∧Sl AI w Z a b x.Ac,fun⟨_,_,h,_⟩=>by rw[h];rfl,fun⟨_,_,h,_⟩=>by rw[h];simp[Value.oneCell'],fun⟨a,b,h,c⟩ g=>⟨a,b,h,c.mv g⟩⟩
def Ga:DS A6:=⟨2,fun w Z cs x=>∃a b c d,cs=[.slice a x.Comes.length b,.slice c x.Ap.length d]∧Sl (AJ .i64) w Z a b x.Comes∧Sl Bv w Z c d x.Ap,fun⟨_,_,_,_,h,_⟩=>by rw[h];rfl,fun⟨_,_,_,_,h,_⟩=>by rw[h];simp[Value.oneCell'],fun⟨a,b,c,d,h,h0,e⟩ g=>⟨a,b,c,d,h,h0.mv g,e.mv g⟩⟩
def NM:DS CL:=⟨2,fun _ _ cs x=>cs=[.int .i64 x.Lo,.int .i64 x.Hi],fun h=>by rw[h];rfl,fun h=>by rw[h];simp[Value.oneCell'],fun h _=>h⟩
def Tx:DS BD:=⟨4,fun _ _ cs x=>cs=[.int .i64 x.a0,.int .i64 x.a1,.int .i64 x.a2,.int .i64 x.a3],fun h=>by rw[h];rfl,fun h=>by rw[h];simp[Value.oneCell'],fun h _=>h⟩
def Mf(w:World)(Z:Nat→Prop)(q:Nat)(o:Option Nat):Option Cl→Prop
 |none=>Bk w q 69 #[.pointer none]∧o=none
 |some x=>∃(b r:Nat) (a:Option Addr) (c:Nat) (d:Option Addr) (e:Nat),Bk w q 69 #[pt b 0]∧Rz w Z (some ⟨b,0,none⟩) [I x.BA,I x.BO,I x.B5,I x.B6,.slice a x.AW.length c,.slice d x.CU.length e,.map (some r)]∧Sl AI w Z a c x.AW∧Sl Bv w Z d e x.CU∧Cc (fun x:Av=>.agg #[I x.On,I x.Bj,.bool x.AF]) w r 2 x.known∧o=some r
theorem Mf.keep{w w':World}{Z Z':Nat→Prop}{q:Nat}{o:Option Nat}:∀{x:Option Cl},Mf w Z q o x→Mv w Z w' Z'→w'.heap[q]?=w.heap[q]?→(∀k,o=some k→w'.heap[k]?=w.heap[k]?)→Mf w' Z' q o x
 |none,h,_,a,_=>⟨h.1.Fv a,h.2⟩
 |some x,⟨b,r,e,f,g,i,j,l,h0,m,hm,d⟩,c,a,n=>⟨b,r,e,f,g,i,j.Fv a,l.mv c,h0.mv c,m.mv c,hm.Fv (n r d),d⟩
end Go.Proofs.Ytkljfdkmjdjpfaa
end
section
set_option linter.unusedVariables false
set_option linter.unusedSimpArgs false
namespace Go.Proofs.Ytkljfdkmjdjpfaa
open Go.RowKit Go.WideShapes
def D2(d:Nat)(a:Int)(b:Int)(c:Int):Option (Bool):=
 cond (decide (b≤a)) (some (decide (a≤c))) (some (false))
def EM(b:Nat)(a:CL):Option (Int):=
 (i64 (a.Hi-a.Lo)).bind fun _=>(i64 ((a.Hi-a.Lo)+1)).bind fun _=>some ((a.Hi-a.Lo)+1)
def Gv(c:Nat)(a:CL)(b:Int):Option (Bool):=
 cond (decide ((0:Int)≤a.Lo)) (cond (decide (a.Lo≤a.Hi)) (some (decide (a.Hi≤b))) (some (false))) (some (false))
def Gq(a:Nat)(b:Int):Option (Bool):=
 (D2 a b 1 5).bind fun r1=>some (r1)
def DN(d:Nat)(a:Int)(b:Int)(c:Int):Option (Bool):=
 cond (decide (b≤a)) (some (decide (a≤c))) (some (false))
def E7(b:Nat)(a:CL):Option (Int):=
 (i64 (a.Hi-a.Lo)).bind fun _=>(i64 ((a.Hi-a.Lo)+1)).bind fun _=>some ((a.Hi-a.Lo)+1)
def Ec(c:Nat)(b:Int)(a:Int):Option (Bool):=
 (Jr .u64 a).bind fun _=>(MD b a).bind fun _=>(rem (EZ b a) (2:Int)).bind fun _=>some (((EZ b a)%2)==1)
def Ew(d:Nat)(a:Int)(b:Int)(c:Bool):Option (Av):=
 some ((⟨a,b,c⟩:Av))
def Fi(b:Nat)(a:Aq)(c:Int):Option (Bool):=
 (i64 ((a.Ac.length:Int)-1)).bind fun _=>(D2 b c 0 ((a.Ac.length:Int)-1)).bind fun d=>some (d)
def C4(c:Nat)(b:Au)(a:Av):Option (Bool):=
 cond (a.AF) (some (decide (a.Bj≤b.Bl))) (some (false))
def DX(a:Nat)(b:Au)(c:Av):Option (Bool):=
 (C4 a b c).bind fun d=>some (!d)
end Go.Proofs.Ytkljfdkmjdjpfaa
end
section
set_option linter.unusedVariables false
set_option linter.unusedSimpArgs false
namespace Go.Proofs.Ytkljfdkmjdjpfaa
open Go.RowKit Go.WideShapes
def Cj(e:Nat)(c:Aq)(f:Int)(b:Int):Nat→Bool→Int→Option (Bool)
 |0,_,_=>none
 |g+1,d,a=>(i64 (b+c.Ax)).bind fun _=>cond (decide (a≤(b+c.Ax))) (cond (d) (cond (decide (a≤c.Ah)) ((Ec e f a).bind fun h=>(i64 (a+1)).bind fun _=>Cj e c f b g h (a+1)) ((i64 (a+1)).bind fun _=>Cj e c f b g false (a+1))) ((i64 (a+1)).bind fun _=>Cj e c f b g false (a+1))) (some (d))
def Ce(e:Nat)(d:Aq)(f:Int)(b:Int):Nat→Bool→Int→Option (Bool)
 |0,_,_=>none
 |g+1,c,a=>(i64 (b+d.Ax)).bind fun _=>cond (decide (a≤(b+d.Ax))) (cond (c) (cond (decide (a≤d.Ah)) ((Ec e f a).bind fun h=>(i64 (a+1)).bind fun _=>Ce e d f b g h (a+1)) ((i64 (a+1)).bind fun _=>Ce e d f b g false (a+1))) ((i64 (a+1)).bind fun _=>Ce e d f b g false (a+1))) (some (c))
def Cv(c:Nat)(d:Aq)(e:Int):Nat→Int→Int→Option ((Bool)⊕(Int))
 |0,_,_=>none
 |f+1,b,a=>cond (decide (a≤d.Ah)) ((Ec c e a).bind fun g=>cond (g) ((i64 (b+1)).bind fun _=>(Cj c d e a c true a).bind fun h=>cond (h) (some (.inl false)) ((i64 (a+1)).bind fun _=>Cv c d e f (b+1) (a+1))) ((Ce c d e a c true a).bind fun z20=>cond (z20) (some (.inl false)) ((i64 (a+1)).bind fun _=>Cv c d e f b (a+1)))) (some (.inr b))
def D9(b:Nat)(c:Aq)(d:Int):Option (Bool):=
 (Cv b c d b (0:Int) (0:Int)).bind fun z=>Sum.elim (fun a=>some (a)) (fun a=>some (decide (a≤c.Ap))) z
def CA(d:Nat)(c:Aq):Nat→(List Int)→Int→Option ((List Int))
 |0,_,_=>none
 |e+1,b,a=>(i64 (c.Ah+1)).bind fun _=>(Jr .u64 (c.Ah+1)).bind fun _=>(Lj (1:Int) (c.Ah+1)).bind fun _=>cond (decide (a<(GR (1:Int) (c.Ah+1)))) ((D9 d c a).bind fun f=>cond (f) ((FH (((b.length+[a].length:Nat):Int)≤140737488355328/8)).bind fun _=>(i64 (a+1)).bind fun _=>CA d c e (b++[a]) (a+1)) ((i64 (a+1)).bind fun _=>CA d c e b (a+1))) (some (b))
def Ej(a:Nat)(b:Aq):Option ((List Int)):=
 (CA a b a ([]:List Int) (0:Int)).bind fun z2=>some (z2)
def Dz(d:Nat)(c:Aq):Nat→Int→Int→Option (Int)
 |0,_,_=>none
 |g+1,b,a=>cond (decide (a<(c.Ac.length:Int))) ((idx c.Ac a).bind fun e=>(E7 d (⟨e.An,e.Ar⟩:CL)).bind fun f=>(i64 (b*f)).bind fun _=>(i64 (a+1)).bind fun _=>Dz d c g (min (3000:Int) (b*f)) (a+1)) (some (b))
def DJ(a:Nat)(b:Aq):Option (Int):=
 (Ej a b).bind fun r2=>(Dz a b a (r2.length:Int) (0:Int)).bind fun z4=>some (z4)
def Dc(d:Nat)(c:Aq):Nat→Int→Option ((Int)⊕(Unit))
 |0,_=>none
 |h+1,a=>cond (decide (a<(c.Ac.length:Int))) ((idx c.Ac a).bind fun b=>cond (decide (b.An<0)) (some (.inl (1:Int))) (cond (decide (b.Ar<b.An)) (some (.inl (1:Int))) (cond (decide (c.Ah<b.Ar)) (some (.inl (1:Int))) ((DN d b.AF 1 5).bind fun e=>cond (!e) (some (.inl (1:Int))) ((DN d b.Bi 1 5).bind fun f=>cond (!f) (some (.inl (1:Int))) ((DN d b.Bl 0 c.Ah).bind fun g=>cond (!g) (some (.inl (1:Int))) ((i64 (a+1)).bind fun _=>Dc d c h (a+1)))))))) (some (.inr ()))
def Ee(b:Nat)(a:Aq):Option (Int):=
 cond (decide ((9:Int)<a.Ah)) (some (3)) (cond (decide ((2:Int)<a.Ai)) (some (3)) (cond (decide ((4:Int)<(a.Ac.length:Int))) (some (3)) (cond (decide (a.Ah<0)) (some (1)) (cond (decide (a.Ai<1)) (some (1)) ((i64 (a.Ah+1)).bind fun _=>(DN b a.Ap 0 (a.Ah+1)).bind fun f=>cond (!f) (some (1)) ((i64 (a.Ah+1)).bind fun _=>(DN b a.Ax 0 (a.Ah+1)).bind fun d=>cond (!d) (some (1)) ((Dc b a b (0:Int)).bind fun z=>Sum.elim (fun c=>some (c)) (fun c=>(DJ b a).bind fun e=>cond (decide ((1000:Int)<e)) (some (3)) (some (0))) z)))))))
def EF(b:Nat)(c:Aq)(a:Au):Option (Bool):=
 (Gv b (⟨a.An,a.Ar⟩:CL) c.Ah).bind fun e=>cond (e) ((Gq b a.AF).bind fun f=>cond (f) ((Gq b a.Bi).bind fun g=>cond (g) ((D2 b a.Bl 0 c.Ah).bind fun d=>some (d)) (some (false))) (some (false))) (some (false))
def DA(b:List Int)(c:List Int):Nat→Int→Option ((Bool)⊕(Unit))
 |0,_=>none
 |d+1,a=>cond (decide (a<(b.length:Int))) ((idx b a).bind fun e=>(idx c a).bind fun f=>cond (e !=f) (some (.inl false)) ((i64 (a+1)).bind fun _=>DA b c d (a+1))) (some (.inr ()))
def E8(d:Nat)(b:List Int)(c:List Int):Option (Bool):=
 cond ((b.length:Int) !=(c.length:Int)) (some (false)) ((DA b c d (0:Int)).bind fun z=>Sum.elim (fun a=>some (a)) (fun a=>some (true)) z)
def CR(e:List Int)(d:List Int)(b:Int):Nat→Bool→Int→Option (Bool)
 |0,_,_=>none
 |f+1,c,a=>cond (decide (a<(d.length:Int))) (cond (c) ((i64 (a+1)).bind fun _=>CR e d b f true (a+1)) ((idx e b).bind fun g=>(idx d a).bind fun h=>(i64 (a+1)).bind fun _=>CR e d b f (g==h) (a+1))) (some (c))
def Dd(c:Nat)(b:List Int)(d:List Int):Nat→Int→Option ((Bool)⊕(Unit))
 |0,_=>none
 |e+1,a=>cond (decide (a<(b.length:Int))) ((CR b d a c false (0:Int)).bind fun z3=>cond (!z3) (some (.inl false)) ((i64 (a+1)).bind fun _=>Dd c b d e (a+1))) (some (.inr ()))
def Dk(b:Nat)(c:List Int)(d:List Int):Option (Bool):=
 (Dd b c d b (0:Int)).bind fun z=>Sum.elim (fun a=>some (a)) (fun a=>some (true)) z
def Cw(b:Nat)(a:Int):Option (Aq):=
 some ((⟨5,1,a,1,[(⟨0,0,2,2,2⟩:Au),(⟨1,1,2,1,5⟩:Au)]⟩:Aq))
def FV(b:Nat)(a:Int):Option (A6):=
 (Ks (6:Int) 1).bind fun _=>(idx (List.replicate (6:Int).toNat false) a).bind fun c=>some ((⟨[0,1],(List.replicate (6:Int).toNat false).set a.toNat true⟩:A6))
def FW(f:Nat)(a:List Av)(b:Av)(c:Av):Option (Bool):=
 cond ((a.length:Int)==2) ((idx a (0:Int)).bind fun d=>cond (G4 [.inl d.On,.inl d.Bj,.inr d.AF] [.inl b.On,.inl b.Bj,.inr b.AF]) ((idx a (1:Int)).bind fun e=>some (G4 [.inl e.On,.inl e.Bj,.inr e.AF] [.inl c.On,.inl c.Bj,.inr c.AF])) (some (false))) (some (false))
def Gk(b:Nat)(a:CL):Option (CL):=
 some (a)
def DB(f:Nat)(e:Aq):Nat→Int→(List Au)→Option ((List Au))
 |0,_,_=>none
 |g+1,b,a=>cond (decide (b<(e.Ac.length:Int))) ((idx e.Ac b).bind fun c=>(Gk f (⟨c.An,c.Ar⟩:CL)).bind fun d=>(FH (((a.length+[(⟨d.Lo,d.Hi,c.AF,c.Bi,c.Bl⟩:Au)].length:Nat):Int)≤140737488355328/40)).bind fun _=>(i64 (b+1)).bind fun _=>DB f e g (b+1) (a++[(⟨d.Lo,d.Hi,c.AF,c.Bi,c.Bl⟩:Au)])) (some (a))
def Bf(b:Nat)(a:Aq):Option (Aq):=
 (DB b a b (0:Int) ([]:List Au)).bind fun z5=>some ((⟨a.Ah,a.Ai,a.Ap,a.Ax,z5⟩:Aq))
def EU(a:Nat)(b:Aq):Option (Int):=
 (Ee a b).bind fun r2=>some (r2)
def E9(b:Nat)(a:Aq):Option (Bool):=
 cond (decide ((a.Ac.length:Int)≤6)) ((Ee b a).bind fun c=>cond (c !=0) (some (true)) ((DJ b a).bind fun d=>some (decide (d≤60)))) (some (false))
end Go.Proofs.Ytkljfdkmjdjpfaa
end
section
set_option linter.unusedVariables false
set_option linter.unusedSimpArgs false
namespace Go.Proofs.Ytkljfdkmjdjpfaa
open Go.RowKit Go.WideShapes
def Et{a:Type}(e:Nat)(b:a→Au→Option (Bool×a))(c:Au)(d:a):Option (Bool×a):=
 (b d c).bind fun r2=>some ((!r2.1,r2.2))
def CX{c:Type}(d:c→Au→Option (Bool×c))(e:List Au):Nat→Int→c→Option ((Int×c)⊕(c))
 |0,_,_=>none
 |g+1,a,b=>cond (decide (a<(e.length:Int))) ((idx e a).bind fun h=>(d b h).bind fun f=>cond (f.1) (some (.inl (a,f.2))) ((i64 (a+1)).bind fun _=>CX d e g (a+1) f.2)) (some (.inr b))
def E4{b:Type}(d:Nat)(c:b→Au→Option (Bool×b))(e:List Au)(f:b):Option (Int×b):=
 (CX c e d (0:Int) f).bind fun z=>Sum.elim (fun a=>some ((a.1,a.2))) (fun a=>some (((-1),a))) z
def Ez{a:Type}(c:Nat)(b:a→Au→Option (Bool×a))(d:List Au)(e:a):Option (Bool×a):=
 (E4 c b d e).bind fun r1=>some ((decide ((0:Int)≤r1.1),r1.2))
def Gb{a:Type}(b:Nat)(c:a→Au→Option (Bool×a))(d:List Au)(e:a):Option (Bool×a):=
 (Ez b (fun(st:a) (x:Au)=>(Et b c x st).bind fun r=>some (r.1,r.2)) d e).bind fun r2=>some ((!r2.1,r2.2))
def Ed{a:Type}(e:Nat)(b:a→Bool→Option (Bool×a))(c:Bool)(d:a):Option (Bool×a):=
 (b d c).bind fun r1=>some ((!r1.1,r1.2))
def CO{c:Type}(d:c→Bool→Option (Bool×c))(e:List Bool):Nat→Int→c→Option ((Int×c)⊕(c))
 |0,_,_=>none
 |g+1,a,b=>cond (decide (a<(e.length:Int))) ((idx e a).bind fun h=>(d b h).bind fun f=>cond (f.1) (some (.inl (a,f.2))) ((i64 (a+1)).bind fun _=>CO d e g (a+1) f.2)) (some (.inr b))
def ET{b:Type}(d:Nat)(c:b→Bool→Option (Bool×b))(e:List Bool)(f:b):Option (Int×b):=
 (CO c e d (0:Int) f).bind fun z=>Sum.elim (fun a=>some ((a.1,a.2))) (fun a=>some (((-1),a))) z
def Ep{a:Type}(c:Nat)(b:a→Bool→Option (Bool×a))(d:List Bool)(e:a):Option (Bool×a):=
 (ET c b d e).bind fun r1=>some ((decide ((0:Int)≤r1.1),r1.2))
def FJ{a:Type}(b:Nat)(c:a→Bool→Option (Bool×a))(d:List Bool)(e:a):Option (Bool×a):=
 (Ep b (fun(st:a) (x:Bool)=>(Ed b c x st).bind fun r=>some (r.1,r.2)) d e).bind fun r2=>some ((!r2.1,r2.2))
def DC(e:Nat)(d:Bool)(b:Int)(a:Int)(c:Aq):Option (Bool×Int×Int):=
 cond (!d) (some ((true,0,a))) ((i64 (a+1)).bind fun _=>(i64 (b+1)).bind fun _=>cond (decide ((a+1)≤c.Ap)) (some ((decide ((b+1)≤c.Ax),b+1,a+1))) (some ((false,b+1,a+1))))
def Ef(a:Nat)(b:Aq)(c:List Bool):Option (Bool):=
 (FJ a (fun(st:Int×Int) (x:Bool)=>(DC a x st.1 st.2 b).bind fun r=>some (r.1,(r.2.1,r.2.2))) c (0,0)).bind fun d=>some (d.1)
end Go.Proofs.Ytkljfdkmjdjpfaa
end
section
set_option linter.unusedVariables false
set_option linter.unusedSimpArgs false
namespace Go.Proofs.Ytkljfdkmjdjpfaa
open Go.RowKit Go.WideShapes
def Eg(c:List Int):Nat→Int→Int→Option (Int)
 |0,_,_=>none
 |d+1,b,a=>cond (decide (a<(c.length:Int))) ((idx c a).bind fun e=>(i64 (a+1)).bind fun _=>Eg c d (min b e) (a+1)) (some (b))
def Gl(b:Nat)(a:List Int):Option (Int):=
 cond (decide ((a.length:Int)<1)) (none) ((idx a (0:Int)).bind fun x2=>(Eg a b x2 (1:Int)).bind fun z3=>some (z3))
def Gc(a:Nat)(b:List Int):Option (Int):=
 (Gl a b).bind fun r1=>some (r1)
def CB(b:Int)(d:List Bool):Nat→Int→(List Bool)→Option ((List Bool))
 |0,_,_=>none
 |e+1,a,c=>cond (decide (a<(d.length:Int))) ((MD b a).bind fun _=>(rem (EZ b a) (2:Int)).bind fun _=>(idx c a).bind fun f=>(i64 (a+1)).bind fun _=>CB b d e (a+1) (c.set a.toNat (((EZ b a)%2)==1))) (some (c))
def CD{c:Type}(d:c→(List Bool)→Option (Bool×c))(g:Nat)(h:Aq):Nat→Int→(List Bool)→c→Option ((c)⊕(c))
 |0,_,_,_=>none
 |j+1,a,e,b=>cond (decide (a<(GR (1:Int) ((List.replicate (h.Ah+1).toNat false).length:Int)))) ((CB a e g (0:Int) e).bind fun i=>(Ef g h i).bind fun k=>cond (k) ((d b i).bind fun f=>cond (!f.1) (some (.inl f.2)) ((i64 (a+1)).bind fun _=>CD d g h j (a+1) i f.2)) ((i64 (a+1)).bind fun _=>CD d g h j (a+1) i b)) (some (.inr b))
def Dp{c:Type}(d:Nat)(e:c→(List Bool)→Option (Bool×c))(a:Aq)(f:c):Option (c):=
 (i64 (a.Ah+1)).bind fun _=>(Ks (a.Ah+1) 1).bind fun _=>(Lj (1:Int) ((List.replicate (a.Ah+1).toNat false).length:Int)).bind fun _=>(CD e d a d (0:Int) (List.replicate (a.Ah+1).toNat false) f).bind fun z=>Sum.elim (fun b=>some (b)) (fun b=>some (b)) z
end Go.Proofs.Ytkljfdkmjdjpfaa
end
section
set_option linter.unusedVariables false
set_option linter.unusedSimpArgs false
namespace Go.Proofs.Ytkljfdkmjdjpfaa
open Go.RowKit Go.WideShapes
def EG(a:Int)(b:(List Bool)):Option (Bool×Int):=
 (i64 (a+1)).bind fun _=>some (true,a+1)
def DO(e:Nat)(f:Aq):Nat→Int→Int→Option (Int)
 |0,_,_=>none
 |h+1,b,a=>cond (decide (b<(f.Ac.length:Int))) ((idx f.Ac b).bind fun c=>(EM e (⟨c.An,c.Ar⟩:CL)).bind fun d=>(i64 (a*d)).bind fun _=>(Gc e [a*d,1001]).bind fun g=>(i64 (b+1)).bind fun _=>DO e f h (b+1) g) (some (a))
def Dq(b:Nat)(a:Aq):Option (Int):=
 cond (decide ((9:Int)<a.Ah)) (some (3)) (cond (decide ((2:Int)<a.Ai)) (some (3)) (cond (decide ((4:Int)<(a.Ac.length:Int))) (some (3)) (cond (decide (a.Ah<0)) (some (1)) (cond (decide (a.Ai<1)) (some (1)) ((i64 (a.Ah+1)).bind fun _=>(D2 b a.Ap 0 (a.Ah+1)).bind fun g=>cond (!g) (some (1)) ((i64 (a.Ah+1)).bind fun _=>(D2 b a.Ax 0 (a.Ah+1)).bind fun c=>cond (!c) (some (1)) ((Gb b (fun(st:Unit) (x:Au)=>(EF b a x).bind fun r=>some (r,())) a.Ac ()).bind fun d=>cond (!d.1) (some (1)) ((Dp b (fun(st:Int) (x:(List Bool))=>EG st x) a (0:Int)).bind fun e=>(DO b a b (0:Int) e).bind fun f=>cond (decide ((1000:Int)<f)) (some (3)) (some (0))))))))))
end Go.Proofs.Ytkljfdkmjdjpfaa
end
section
set_option linter.unusedVariables false
set_option linter.unusedSimpArgs false
namespace Go.Proofs.Ytkljfdkmjdjpfaa
open Go.RowKit Go.WideShapes
def B0{f:Type}(g:Int→(List Int)→(List Bool)→Aq→f→Option (Bool×(List Int)×f))(e:Int)(j:List Bool)(i:Aq)(k:Int):Nat→Int→(List Int)→f→Option ((Bool×(List Int)×f)⊕((List Int)×f))
 |0,_,_,_=>none
 |l+1,a,b,d=>cond (decide (a<k)) ((idx i.Ac e).bind fun h=>(i64 (h.An+a)).bind fun _=>(idx b e).bind fun m=>(i64 (e+1)).bind fun _=>(g (e+1) (b.set e.toNat (h.An+a)) j i d).bind fun c=>cond (!c.1) (some (.inl (false,c.2.1,c.2.2))) ((i64 (a+1)).bind fun _=>B0 g e j i k l (a+1) c.2.1 c.2.2)) (some (.inr (b,d)))
def BH{b:Type}(e:Nat)(d:b→A6→Option (Bool×b)):Nat→Int→(List Int)→(List Bool)→Aq→b→Option (Bool×(List Int)×b)
 |0,_,_,_,_,_=>none
 |k+1,f,c,g,h,i=>cond (f==(c.length:Int)) ((d i (⟨c,g⟩:A6)).bind fun r2=>some ((r2.1,c,r2.2))) ((idx h.Ac f).bind fun j=>(EM e (⟨j.An,j.Ar⟩:CL)).bind fun l=>(B0 (BH e d k) f g h l e (0:Int) c i).bind fun z=>Sum.elim (fun a=>some ((a.1,a.2.1,a.2.2))) (fun a=>some ((true,a.1,a.2))) z)
end Go.Proofs.Ytkljfdkmjdjpfaa
end
section
set_option linter.unusedVariables false
set_option linter.unusedSimpArgs false
namespace Go.Proofs.Ytkljfdkmjdjpfaa
open Go.RowKit Go.WideShapes
def De{c:Type}(e:c→A6→Option (Bool×c))(f:Nat)(g:Aq)(b:List Int)(d:c)(h:(List Bool)):Option (Bool×((List Int)×c×Bool)):=
 (BH f e f 0 b h g d).bind fun a=>cond (!a.1) (some (false,a.2.1,a.2.2,true)) (some (true,a.2.1,a.2.2,false))
def EH{a:Type}(d:Nat)(e:a→A6→Option (Bool×a))(b:Aq)(f:a):Option (a):=
 (Ks (b.Ac.length:Int) 8).bind fun _=>(Dp d (fun(st:(List Int)×a×Bool) (x:(List Bool))=>cond st.2.2 none (De e d b st.1 st.2.1 x)) b (List.replicate (b.Ac.length:Int).toNat (0:Int),f,false)).bind fun c=>cond (c.2.2) (some (c.2.1)) (some (c.2.1))
end Go.Proofs.Ytkljfdkmjdjpfaa
end
section
set_option linter.unusedVariables false
set_option linter.unusedSimpArgs false
namespace Go.Proofs.Ytkljfdkmjdjpfaa
open Go.RowKit Go.WideShapes
def Dr(b:List Bool)(c:List Bool):Nat→Int→Option ((Bool)⊕(Unit))
 |0,_=>none
 |d+1,a=>cond (decide (a<(b.length:Int))) ((idx b a).bind fun e=>(idx c a).bind fun f=>cond (e !=f) (some (.inl false)) ((i64 (a+1)).bind fun _=>Dr b c d (a+1))) (some (.inr ()))
def Eh(d:Nat)(b:List Bool)(c:List Bool):Option (Bool):=
 cond ((b.length:Int) !=(c.length:Int)) (some (false)) ((Dr b c d (0:Int)).bind fun z=>Sum.elim (fun a=>some (a)) (fun a=>some (true)) z)
def Df(d:Nat)(c:Aq)(e:A6):Nat→Int→Option ((Bool)⊕(Unit))
 |0,_=>none
 |h+1,a=>cond (decide (a<(c.Ac.length:Int))) ((idx c.Ac a).bind fun b=>(idx e.Comes a).bind fun f=>(D2 d f b.An b.Ar).bind fun g=>cond (!g) (some (.inl false)) ((i64 (a+1)).bind fun _=>Df d c e h (a+1))) (some (.inr ()))
def EV(d:Nat)(a:Aq)(c:A6):Option (Bool):=
 cond ((c.Comes.length:Int) !=(a.Ac.length:Int)) (some (false)) ((i64 (a.Ah+1)).bind fun _=>cond ((c.Ap.length:Int) !=(a.Ah+1)) (some (false)) ((Ef d a c.Ap).bind fun e=>cond (!e) (some (false)) ((Df d a c d (0:Int)).bind fun z=>Sum.elim (fun b=>some (b)) (fun b=>some (true)) z)))
def DK(i:Cl)(h:G5)(f:Au):Nat→Int→Int→Int→Int→Int→Bool→Option ((Int×Int×Bool)⊕(Int×Int×Bool))
 |0,_,_,_,_,_,_=>none
 |j+1,b,g,a,c,d,e=>cond (decide (a≤i.BA)) ((idx i.CU a).bind fun k=>cond (k) ((i64 (g+1)).bind fun _=>cond (b==f.AF) (some (.inl (h.day,a,b==f.AF))) (cond ((g+1)==f.Bi) (some (.inl (h.day,a,b==f.AF))) ((i64 (a+1)).bind fun _=>DK i h f j b (g+1) (a+1) c d e))) ((i64 (b+1)).bind fun _=>cond ((b+1)==f.AF) (some (.inl (h.day,a,(b+1)==f.AF))) (cond ((0:Int)==f.Bi) (some (.inl (h.day,a,(b+1)==f.AF))) ((i64 (a+1)).bind fun _=>DK i h f j (b+1) (0:Int) (a+1) c d e)))) (some (.inr (c,d,e)))
def Fc(d:Nat)(c:Cl)(b:G5):Option (Av):=
 cond (decide (c.BA<b.day)) (some ((⟨(-1),(-1),false⟩:Av))) ((idx c.AW b.Cd).bind fun e=>(DK c b e d (0:Int) (0:Int) b.day (0:Int) (0:Int) false).bind fun z=>Sum.elim (fun a=>some ((⟨a.1,a.2.1,a.2.2⟩:Av))) (fun a=>some ((⟨b.day,(-1),false⟩:Av))) z)
def E0(d:Nat)(b:Cl)(a:G5):Option (Av×(List (List Int×Av))):=
 cond (!((Bz b.known [a.Cd,a.day]).isSome)) ((Fc d b a).bind fun c=>some ((c,G3 b.known [a.Cd,a.day] c))) (some ((((Bz b.known [a.Cd,a.day]).getD (⟨0,0,false⟩:Av)),b.known)))
def Dt(i:Nat)(c:Cl)(j:List Int)(g:List Int):Nat→Int→Int→(List Av)→(List (List Int×Av))→Option ((List Av)×(List (List Int×Av)))
 |0,_,_,_,_=>none
 |k+1,h,a,d,e=>cond (decide (a<(g.length:Int))) ((idx g a).bind fun f=>(idx j f).bind fun l=>(E0 i (⟨c.BA,c.BO,c.B5,c.B6,c.AW,c.CU,e⟩:Cl) (⟨f,max h l⟩:G5)).bind fun b=>(idx d f).bind fun m=>(i64 (b.1.Bj+1)).bind fun _=>cond (b.1.Bj==(-1)) ((i64 (c.BA+1)).bind fun _=>(i64 (a+1)).bind fun _=>Dt i c j g k (c.BA+1) (a+1) (d.set f.toNat b.1) b.2) ((i64 (a+1)).bind fun _=>Dt i c j g k (b.1.Bj+1) (a+1) (d.set f.toNat b.1) b.2)) (some ((d,e)))
def C6(d:Nat)(f:Cl)(e:List (List Int))(g:List Int):Nat→Int→(List Av)→(List (List Int×Av))→Option ((List Av)×(List (List Int×Av)))
 |0,_,_,_=>none
 |i+1,a,c,b=>cond (decide (a<(e.length:Int))) ((idx e a).bind fun j=>(Dt d f g j d (0:Int) (0:Int) c b).bind fun h=>(i64 (a+1)).bind fun _=>C6 d f e g i (a+1) h.1 h.2) (some ((c,b)))
def CP(b:Nat)(a:Cl)(c:List (List Int))(d:List Int):Option ((List Av)×(List (List Int×Av))):=
 (Ks (a.AW.length:Int) 24).bind fun _=>(C6 b a c d b (0:Int) (List.replicate (a.AW.length:Int).toNat (⟨0,0,false⟩:Av)) a.known).bind fun z3=>some ((z3.1,z3.2))
end Go.Proofs.Ytkljfdkmjdjpfaa
end
section
set_option linter.unusedVariables false
set_option linter.unusedSimpArgs false
namespace Go.Proofs.Ytkljfdkmjdjpfaa
open Go.RowKit Go.WideShapes
def Ds(c:List (List Int)):Nat→(List Int)→Int→Option ((List Int))
 |0,_,_=>none
 |e+1,b,a=>cond (decide (a<(c.length:Int))) ((idx c a).bind fun d=>(FH (((b.length+d.length:Nat):Int)≤140737488355328/8)).bind fun _=>(i64 (a+1)).bind fun _=>Ds c e (b++d) (a+1)) (some (b))
def Dg(b:Aq)(z2:(List Int)):Nat→Int→Option ((Bool)⊕(Unit))
 |0,_=>none
 |d+1,a=>cond (decide (a<(b.Ac.length:Int))) (cond (((C1 z2).length:Int) !=(b.Ac.length:Int)) (some (.inl false)) ((idx (C1 z2) a).bind fun c=>cond (c !=a) (some (.inl false)) ((i64 (a+1)).bind fun _=>Dg b z2 d (a+1)))) (some (.inr ()))
def DU(c:Nat)(b:Aq)(d:List (List Int)):Option (Bool):=
 (Ds d c ([]:List Int) (0:Int)).bind fun z2=>(FH ((z2.length:Int)≤100000)).bind fun _=>(Dg b z2 c (0:Int)).bind fun z=>Sum.elim (fun a=>some (a)) (fun a=>cond ((d.length:Int)==b.Ai) (some (((C1 z2).length:Int)==(b.Ac.length:Int))) (some (false))) z
def FP(b:Nat)(a:Aq)(d:List (List Int))(c:A6):Option ((List Av)×Int):=
 (Dq b a).bind fun e=>cond (e !=0) (some ((([]:List Av),e))) ((DU b a d).bind fun h=>cond (!h) (some ((([]:List Av),2))) ((EV b a c).bind fun f=>cond (!f) (some ((([]:List Av),2))) ((CP b (⟨a.Ah,a.Ai,a.Ap,a.Ax,a.Ac,c.Ap,[]⟩:Cl) d c.Comes).bind fun g=>some ((g.1,0)))))
end Go.Proofs.Ytkljfdkmjdjpfaa
end
section
set_option linter.unusedVariables false
set_option linter.unusedSimpArgs false
namespace Go.Proofs.Ytkljfdkmjdjpfaa
open Go.RowKit Go.WideShapes
def Du(d:Nat)(e:Aq)(c:List Av):Nat→Int→Int→Option (Int)
 |0,_,_=>none
 |f+1,b,a=>cond (decide (a<(c.length:Int))) ((idx c a).bind fun i=>(idx e.Ac a).bind fun g=>(DX d g i).bind fun h=>cond (h) ((i64 (b+1)).bind fun _=>(i64 (a+1)).bind fun _=>Du d e c f (b+1) (a+1)) ((i64 (a+1)).bind fun _=>Du d e c f b (a+1))) (some (b))
def Eu(a:Nat)(b:Aq)(c:List Av):Option (Int):=
 (Du a b c a (0:Int) (0:Int)).bind fun z4=>some (z4)
def Ex(d:Nat)(a:A6)(e:List Av)(b:Aq)(c:Int)(f:A6):Option (Bool×Int×A6):=
 (Eu d b e).bind fun r2=>cond (decide (c<r2)) ((FH (((0+a.Comes.length:Nat):Int)≤140737488355328/8)).bind fun _=>(FH (((0+a.Ap.length:Nat):Int)≤140737488355328/1)).bind fun _=>some ((decide (r2<(b.Ac.length:Int)),r2,a))) (some ((decide (c<(b.Ac.length:Int)),c,f)))
def Cx{j:Type}(h:j→(Au×Av)→Option (Bool×j))(k:List Av)(l:Aq):Nat→Int→Int→Int→Int→Int→j→Option (Int×Int×Int×Int×j)
 |0,_,_,_,_,_,_=>none
 |m+1,a,b,c,d,e,g=>cond (decide (a<(k.length:Int))) ((idx k a).bind fun o=>(idx l.Ac a).bind fun n=>(h g (n,o)).bind fun i=>cond (i.1) ((idx ([b,c,d,e]:List Int) a).bind fun f=>(i64 (f+1)).bind fun _=>(idx ([b,c,d,e]:List Int) a).bind fun p=>(i64 (a+1)).bind fun _=>Cx h k l m (a+1) (((⟨b,c,d,e⟩:BD).set a.toNat (f+1)).a0) (((⟨b,c,d,e⟩:BD).set a.toNat (f+1)).a1) (((⟨b,c,d,e⟩:BD).set a.toNat (f+1)).a2) (((⟨b,c,d,e⟩:BD).set a.toNat (f+1)).a3) i.2) ((i64 (a+1)).bind fun _=>Cx h k l m (a+1) b c d e i.2)) (some ((b,c,d,e,g)))
def CS{a:Type}(e:Nat)(c:a→(Au×Av)→Option (Bool×a))(i:A6)(f:List Av)(d:Int)(g:Aq)(b:BD)(h:a):Option (Bool×Int×BD×a):=
 (i64 (d+1)).bind fun _=>(Cx c f g e (0:Int) b.a0 b.a1 b.a2 b.a3 h).bind fun z4=>some ((true,d+1,(⟨z4.1,z4.2.1,z4.2.2.1,z4.2.2.2.1⟩:BD),z4.2.2.2.2))
end Go.Proofs.Ytkljfdkmjdjpfaa
end
section
set_option linter.unusedVariables false
set_option linter.unusedSimpArgs false
namespace Go.Proofs.Ytkljfdkmjdjpfaa
open Go.RowKit Go.WideShapes
def Dv{m:Type}(f:m→(A6×(List Av))→Option (Bool×m))(n:Nat)(a:Aq)(o:List (List Int))(e:Option Cl)(d:m)(c:A6):Option (Bool×((Option Cl)×m×Bool)):=
 Option.elim e ((FH (((0+c.Ap.length:Nat):Int)≤140737488355328/1)).bind fun _=>(CP n (⟨a.Ah,a.Ai,a.Ap,a.Ax,a.Ac,c.Ap,[]⟩:Cl) o c.Comes).bind fun g=>(f d (c,g.1)).bind fun h=>cond (!h.1) (some (false,(some (⟨a.Ah,a.Ai,a.Ap,a.Ax,a.Ac,c.Ap,g.2⟩:Cl)),h.2,true)) (some (true,(some (⟨a.Ah,a.Ai,a.Ap,a.Ax,a.Ac,c.Ap,g.2⟩:Cl)),h.2,false))) (fun b=>(Eh n b.CU c.Ap).bind fun p=>cond (!p) ((FH (((0+c.Ap.length:Nat):Int)≤140737488355328/1)).bind fun _=>(CP n (⟨a.Ah,a.Ai,a.Ap,a.Ax,a.Ac,c.Ap,[]⟩:Cl) o c.Comes).bind fun i=>(f d (c,i.1)).bind fun j=>cond (!j.1) (some (false,(some (⟨a.Ah,a.Ai,a.Ap,a.Ax,a.Ac,c.Ap,i.2⟩:Cl)),j.2,true)) (some (true,(some (⟨a.Ah,a.Ai,a.Ap,a.Ax,a.Ac,c.Ap,i.2⟩:Cl)),j.2,false))) ((CP n b o c.Comes).bind fun k=>(f d (c,k.1)).bind fun l=>cond (!l.1) (some (false,(some (⟨b.BA,b.BO,b.B5,b.B6,b.AW,b.CU,k.2⟩:Cl)),l.2,true)) (some (true,(some (⟨b.BA,b.BO,b.B5,b.B6,b.AW,b.CU,k.2⟩:Cl)),l.2,false))))
def E1{a:Type}(c:Nat)(d:a→(A6×(List Av))→Option (Bool×a))(e:Aq)(f:List (List Int))(g:a):Option (a):=
 (EH c (fun(st:(Option Cl)×a×Bool) (x:A6)=>cond st.2.2 none (Dv d c e f st.1 st.2.1 x)) e (none,g,false)).bind fun b=>cond (b.2.2) (some (b.2.1)) (some (b.2.1))
end Go.Proofs.Ytkljfdkmjdjpfaa
end
section
set_option linter.unusedVariables false
set_option linter.unusedSimpArgs false
namespace Go.Proofs.Ytkljfdkmjdjpfaa
open Go.RowKit Go.WideShapes
def Cn{a:Type}(c:Nat)(d:a→(Au×Av)→Option (Bool×a))(e:Aq)(f:List (List Int))(g:a):Option (BD×Int×a):=
 (E1 c (fun(st:Int×BD×a) (x:A6×(List Av))=>(CS c d x.1 x.2 st.1 e st.2.1 st.2.2).bind fun r=>some (r.1,(r.2.1,r.2.2.1,r.2.2.2))) e f (0,(⟨0,0,0,0⟩:BD),g)).bind fun b=>some ((b.2.1,b.1,b.2.2))
def E2(a:Nat)(b:Aq)(d:List (List Int)):Option (Int×A6):=
 (E1 a (fun(st:Int×A6) (x:A6×(List Av))=>(Ex a x.1 x.2 b st.1 st.2).bind fun r=>some (r.1,(r.2.1,r.2.2))) b d ((-1),(⟨([]:List Int),([]:List Bool)⟩:A6))).bind fun c=>some ((c.1,c.2))
def EI(b:Nat)(c:Aq)(e:List (List Int))(f:Int):Option (Int×Int):=
 (Dq b c).bind fun r2=>cond (r2 !=0) (some ((0,r2))) ((DU b c e).bind fun h=>cond (!h) (some ((0,2))) ((Fi b c f).bind fun g=>cond (!g) (some ((0,2))) ((Cn b (fun(st:Unit) (x:Au×Av)=>(C4 b x.1 x.2).bind fun r=>some (r,())) c e ()).bind fun a=>(idx ([a.1.a0,a.1.a1,a.1.a2,a.1.a3]:List Int) f).bind fun d=>cond (d==a.2.1) (some ((1,0))) (cond (d==0) (some ((2,0))) (some ((3,0)))))))
def FQ(b:Nat)(c:Aq)(d:List (List Int)):Option (Int×A6×Int):=
 (Dq b c).bind fun e=>cond (e !=0) (some ((0,(⟨([]:List Int),([]:List Bool)⟩:A6),e))) ((DU b c d).bind fun f=>cond (!f) (some ((0,(⟨([]:List Int),([]:List Bool)⟩:A6),2))) ((E2 b c d).bind fun a=>some ((a.1,a.2,0))))
def EN(a:Nat)(b:Aq)(c:List (List Int))(d:Int):Option (Bool):=
 (FQ a b c).bind fun r2=>cond (r2.2.2==0) (some (decide (r2.1≤d))) (some (false))
def E3(a:Nat)(b:Aq)(d:List (List Int))(e:A6)(f:Int):Option (Bool):=
 (FP a b d e).bind fun c=>cond (c.2==0) ((Eu a b c.1).bind fun g=>some (decide (f≤g))) (some (false))
end Go.Proofs.Ytkljfdkmjdjpfaa
end
section
set_option linter.unusedVariables false
set_option linter.unusedSimpArgs false
namespace Go.Proofs.Ytkljfdkmjdjpfaa
open Go.RowKit Go.WideShapes
def Ev(c:List (List Int)):Nat→Int→(List (List Int))→Option ((List (List Int)))
 |0,_,_=>none
 |e+1,a,b=>cond (decide (a<(c.length:Int))) ((idx b a).bind fun d=>(FH (((0+d.length:Nat):Int)≤140737488355328/8)).bind fun _=>(idx b a).bind fun f=>(i64 (a+1)).bind fun _=>Ev c e (a+1) (b.set a.toNat d)) (some (b))
def EP(b:Nat)(a:List (List Int)):Option ((List (List Int))):=
 (FH (((0+a.length:Nat):Int)≤140737488355328/24)).bind fun _=>(Ev a b (0:Int) a).bind fun z4=>some (z4)
end Go.Proofs.Ytkljfdkmjdjpfaa
end
section
set_option linter.unusedVariables false
set_option linter.unusedSimpArgs false
namespace Go.Proofs.Ytkljfdkmjdjpfaa
open Go.RowKit Go.WideShapes
def FD(b:Nat)(c:List (List Int))(d:Aq)(a:Int)(e:List (List Int)):Option (Bool×Int×(List (List Int))):=
 (E2 b d c).bind fun r1=>cond (decide (r1.1<a)) ((EP b c).bind fun f=>some ((decide ((0:Int)<r1.1),r1.1,f))) (some ((decide ((0:Int)<a),a,e)))
def DY(c:Aq)(r1:BD×Int×Unit):Nat→Int→Int→Option (Int)
 |0,_,_=>none
 |d+1,b,a=>cond (decide (a<(c.Ac.length:Int))) ((idx ([r1.1.a0,r1.1.a1,r1.1.a2,r1.1.a3]:List Int) a).bind fun e=>cond (e==0) ((i64 (b+1)).bind fun _=>(i64 (a+1)).bind fun _=>DY c r1 d (b+1) (a+1)) ((i64 (a+1)).bind fun _=>DY c r1 d b (a+1))) (some (b))
def DT(c:Aq)(r1:BD×Int×Unit):Nat→Int→Int→Option (Int)
 |0,_,_=>none
 |d+1,b,a=>cond (decide (a<(c.Ac.length:Int))) ((idx ([r1.1.a0,r1.1.a1,r1.1.a2,r1.1.a3]:List Int) a).bind fun e=>cond (e==0) ((i64 (b+1)).bind fun _=>(i64 (a+1)).bind fun _=>DT c r1 d (b+1) (a+1)) ((i64 (a+1)).bind fun _=>DT c r1 d b (a+1))) (some (b))
def Er(c:Nat)(e:List (List Int))(b:Aq)(a:Int)(d:BD)(f:List (List Int)):Option (Bool×Int×BD×(List (List Int))):=
 (Cn c (fun(st:Unit) (x:Au×Av)=>(DX c x.1 x.2).bind fun r=>some (r,())) b e ()).bind fun r1=>cond (decide ((0:Int)≤a)) (cond ([r1.1.a0,r1.1.a1,r1.1.a2,r1.1.a3]==[d.a0,d.a1,d.a2,d.a3]) (some ((true,a,d,f))) ((DY b r1 c (0:Int) (0:Int)).bind fun z9=>cond (decide (a<z9)) ((EP c e).bind fun g=>some ((decide (z9<(b.Ac.length:Int)),z9,r1.1,g))) (some ((decide (a<(b.Ac.length:Int)),a,r1.1,f))))) ((DT b r1 c (0:Int) (0:Int)).bind fun z22=>cond (decide (a<z22)) ((EP c e).bind fun h=>some ((decide (z22<(b.Ac.length:Int)),z22,r1.1,h))) (some ((decide (a<(b.Ac.length:Int)),a,r1.1,f))))
end Go.Proofs.Ytkljfdkmjdjpfaa
end
section
set_option linter.unusedVariables false
set_option linter.unusedSimpArgs false
namespace Go.Proofs.Ytkljfdkmjdjpfaa
open Go.RowKit Go.WideShapes
def B7{g:Type}(h:Int→Aq→(List (List Int))→g→Option (Bool×(List (List Int))×g))(i:Int)(j:Aq)(c:Int)(f:List Int):Nat→Int→(List (List Int))→g→Option ((Bool×(List (List Int))×g)⊕((List (List Int))×g))
 |0,_,_,_=>none
 |k+1,a,b,e=>cond (decide (a<((f.length:Int)+1))) ((FH (((0+f.length:Nat):Int)≤140737488355328/8)).bind fun _=>(FH (0≤a∧a≤(f.length:Int)∧((f.length:Int)+1)*8≤140737488355328)).bind fun _=>(idx b c).bind fun l=>(i64 (i+1)).bind fun _=>(h (i+1) j (b.set c.toNat (CI f a i)) e).bind fun d=>cond (!d.1) (some (.inl (false,d.2.1,d.2.2))) ((i64 (a+1)).bind fun _=>B7 h i j c f k (a+1) d.2.1 d.2.2)) (some (.inr (b,e)))
def B2{e:Type}(f:Int→Aq→(List (List Int))→e→Option (Bool×(List (List Int))×e))(h:Nat)(i:Int)(j:Aq)(k:List (List Int)):Nat→Int→(List (List Int))→e→Option ((Bool×(List (List Int))×e)⊕((List (List Int))×e))
 |0,_,_,_=>none
 |l+1,a,b,d=>cond (decide (a<(k.length:Int))) ((idx b a).bind fun g=>(i64 ((g.length:Int)+1)).bind fun _=>(B7 f i j a g h (0:Int) b d).bind fun z=>Sum.elim (fun c=>some (.inl (c.1,c.2.1,c.2.2))) (fun c=>(idx c.1 a).bind fun m=>(i64 (a+1)).bind fun _=>B2 f h i j k l (a+1) (c.1.set a.toNat g) c.2) z) (some (.inr (b,d)))
def Bq{b:Type}(e:Nat)(d:b→(List (List Int))→Option (Bool×b)):Nat→Int→Aq→(List (List Int))→b→Option (Bool×(List (List Int))×b)
 |0,_,_,_,_=>none
 |i+1,f,g,c,h=>cond (f==(g.Ac.length:Int)) ((d h c).bind fun r2=>some ((r2.1,c,r2.2))) ((B2 (Bq e d i) e f g c e (0:Int) c h).bind fun z=>Sum.elim (fun a=>some ((a.1,a.2.1,a.2.2))) (fun a=>some ((true,a.1,a.2))) z)
end Go.Proofs.Ytkljfdkmjdjpfaa
end
section
set_option linter.unusedVariables false
set_option linter.unusedSimpArgs false
namespace Go.Proofs.Ytkljfdkmjdjpfaa
open Go.RowKit Go.WideShapes
def Ey{a:Type}(c:Nat)(d:a→(List (List Int))→Option (Bool×a))(b:Aq)(e:a):Option (a):=
 (Ks b.Ai 24).bind fun _=>(Bq c d c 0 b (List.replicate b.Ai.toNat ([]:List Int)) e).bind fun f=>some (f.2.2)
end Go.Proofs.Ytkljfdkmjdjpfaa
end
section
set_option linter.unusedVariables false
set_option linter.unusedSimpArgs false
namespace Go.Proofs.Ytkljfdkmjdjpfaa
open Go.RowKit Go.WideShapes
def DD(c:Nat)(a:Aq):Option ((List (List Int))×Int×Int):=
 (Dq c a).bind fun d=>cond (d !=0) (some ((([]:List (List Int)),0,d))) ((i64 ((a.Ac.length:Int)+1)).bind fun _=>(Ey c (fun(st:Int×(List (List Int))) (x:(List (List Int)))=>(FD c x a st.1 st.2).bind fun r=>some (r.1,(r.2.1,r.2.2))) a ((a.Ac.length:Int)+1,([]:List (List Int)))).bind fun b=>some ((b.2,b.1,0)))
def DE(b:Nat)(c:Aq):Option ((List (List Int))×Int×Int):=
 (Dq b c).bind fun d=>cond (d !=0) (some ((([]:List (List Int)),0,d))) ((Ey b (fun(st:Int×BD×(List (List Int))) (x:(List (List Int)))=>(Er b x c st.1 st.2.1 st.2.2).bind fun r=>some (r.1,(r.2.1,r.2.2.1,r.2.2.2))) c ((-1),(⟨0,0,0,0⟩:BD),([]:List (List Int)))).bind fun a=>some ((a.2.2,a.1,0)))
end Go.Proofs.Ytkljfdkmjdjpfaa
end
section
set_option linter.unusedVariables false
set_option linter.unusedSimpArgs false
namespace Go.Proofs.Ytkljfdkmjdjpfaa
open Go.RowKit Go.WideShapes
def DL(e:Nat)(c:Aq):Nat→(List Int)→Int→Option ((List Int))
 |0,_,_=>none
 |f+1,b,a=>cond (decide (a<(c.Ac.length:Int))) ((Ks c.Ai 24).bind fun _=>(idx (List.replicate c.Ai.toNat ([]:List Int)) (0:Int)).bind fun _=>(Ix (c.Ac.length:Int) a e (0:Int) ((List.replicate c.Ai.toNat ([]:List Int)).set 0 [a])).bind fun g=>(Cn e (fun(st:Unit) (x:Au×Av)=>(C4 e x.1 x.2).bind fun r=>some (r,())) c g ()).bind fun d=>(idx ([d.1.a0,d.1.a1,d.1.a2,d.1.a3]:List Int) a).bind fun h=>cond (h==d.2.1) ((i64 (a+1)).bind fun _=>DL e c f b (a+1)) ((FH (((b.length+[a].length:Nat):Int)≤140737488355328/8)).bind fun _=>(i64 (a+1)).bind fun _=>DL e c f (b++[a]) (a+1))) (some (b))
def CE(a:Nat)(b:Aq):Option ((List Int)×Int):=
 (Dq a b).bind fun r2=>cond (r2 !=0) (some ((([]:List Int),r2))) ((DL a b a ([]:List Int) (0:Int)).bind fun z5=>some ((z5,0)))
end Go.Proofs.Ytkljfdkmjdjpfaa
end
section
set_option linter.unusedVariables false
set_option linter.unusedSimpArgs false
namespace Go.Proofs.Ytkljfdkmjdjpfaa
open Go.RowKit Go.WideShapes
def C7(a:Nat)(b:Aq):Option (Bool):=
 (E9 a b).bind fun r2=>cond (r2) ((EU a b).bind fun c=>some (c==0)) (some (false))
end Go.Proofs.Ytkljfdkmjdjpfaa
end
section
set_option linter.unusedVariables false
set_option linter.unusedSimpArgs false
namespace Go.Proofs.Ytkljfdkmjdjpfaa
open Go.RowKit Go.WideShapes
def Cg(a:Nat):Option (Bool):=
 (Cw a 1).bind fun r1=>(FV a 3).bind fun v=>(FP a r1 [[0,1]] v).bind fun h=>(Cw a 1).bind fun w=>(EI a w [[0,1]] 1).bind fun d=>(Cw a 1).bind fun i=>(EI a i [[1,0]] 0).bind fun e=>(Cw a 1).bind fun j=>(FQ a j [[1,0]]).bind fun b=>(Cw a 1).bind fun k=>(DD a k).bind fun c=>(Cw a 1).bind fun l=>(DE a l).bind fun f=>(Cw a 1).bind fun m=>(CE a m).bind fun g=>cond (h.2==0) ((Ew a 0 1 true).bind fun n=>(Ew a 2 3 false).bind fun o=>(FW a h.1 n o).bind fun p=>cond (p) (cond (d.2==0) (cond (d.1==3) (cond (e.2==0) (cond (e.1==2) (cond (b.2.2==0) (cond (b.1==2) ((Cw a 1).bind fun q=>(E3 a q [[1,0]] b.2.1 2).bind fun r=>cond (r) (cond (c.2.2==0) (cond (c.2.1==1) ((Cw a 1).bind fun s=>(EN a s c.1 1).bind fun t=>cond (t) (cond (f.2.2==0) (cond (f.2.1==1) (cond (g.2==0) ((E8 a g.1 [1]).bind fun u=>some (u)) (some (false))) (some (false))) (some (false))) (some (false))) (some (false))) (some (false))) (some (false))) (some (false))) (some (false))) (some (false))) (some (false))) (some (false))) (some (false))) (some (false))) (some (false))
end Go.Proofs.Ytkljfdkmjdjpfaa
end
section
namespace Go.Proofs.Ytkljfdkmjdjpfaa
theorem bd{α β:Type}{x:Option α}{a:α}{f:α→Option β}(h:x=some a):x.bind f=f a:=by rw[h];rfl
theorem BG{β:Type}{x:Int}{f:Int→Option β}(h0:-9223372036854775808≤x)(a:x≤9223372036854775807):(i64 x).bind f=f x:=bd (R0 h0 a)
theorem DW{α β:Type}{xs:List α}{k:Nat}{f:α→Option β}(h:k<xs.length):(idx xs (k:Int)).bind f=f xs[k]:=bd (idx_eq h)
theorem GA{β:Type}{p:Prop}[Decidable p]{f:Unit→Option β}(h:p):(FH p).bind f=f ():=bd (if_pos h)
theorem KG{β:Type}{a b:Int}{f:Int→Option β}(h0:0≤a)(c:1≤b):(rem a b).bind f=f (a%b):=bd (if_pos ⟨h0,c⟩)
theorem Ug{β:Type}{a b:Int}{f:Int→Option β}(h0:0≤a)(c:1≤b):(quo a b).bind f=f (a/b):=bd (if_pos ⟨h0,c⟩)
theorem Pc{β:Type}{n:Int}{b:Nat}{f:Unit→Option β}(h0:0≤n)(a:n*b≤140737488355328)(c:n≤140737488355328):(Ks n b).bind f=f ():=bd (if_pos ⟨h0,a,c⟩)
theorem ct{α:Type}{b:Bool}{x y:α}(h:b=true):cond b x y=x:=by rw[h];rfl
theorem cf{α:Type}{b:Bool}{x y:α}(h:b=false):cond b x y=y:=by rw[h];rfl
theorem nt{α:Type}{x y:α}:cond (!true) x y=y:=rfl
theorem nf{α:Type}{x y:α}:cond (!false) x y=x:=rfl
theorem dt{p:Prop}[Decidable p](h:p):decide p=true:=decide_eq_true h
theorem df{p:Prop}[Decidable p](h:¬p):decide p=false:=decide_eq_false h
theorem DQ(i:Nat):(i:Int)+1=((i+1:Nat):Int):=by omega
def Fw(n a b:Int):Bool:=decide (a≤n)&&decide (n≤b)
theorem FE{n a b:Int}:Fw n a b=true↔a≤n∧n≤b:=by simp[Fw]
theorem MJ(K:Nat)(n a b:Int):DN K n a b=some (Fw n a b):=by unfold DN Fw;cases decide (a≤n)<;>rfl
theorem GW(K:Nat)(n a b:Int):D2 K n a b=some (Fw n a b):=by unfold D2 Fw;cases decide (a≤n)<;>rfl
def run {σ α:Type} (cb:σ→α→Option (Bool×σ)):List α→σ→Option (Bool×σ)
 |[],s=>some (true,s)
 |x::l,s=>(cb s x).bind fun r=>cond r.1 (run cb l r.2) (some (false,r.2))
theorem G6{σ α:Type}(cb:σ→α→Option (Bool×σ))(a:List α):∀(b:List α) (s:σ),run cb (b++a) s=(run cb b s).bind fun r=>cond r.1 (run cb a r.2) (some (false,r.2))
 |[],s=>rfl
 |x::l,s=>by
  simp only[List.cons_append,run];cases cb s x with
  |none=>rfl
  |some r=>
   simp only[Option.bind_some];cases h:r.1 with
   |false=>simp
   |true=>simpa using G6 cb a l r.2
theorem run_map{σ α β:Type}(cb:σ→β→Option (Bool×σ))(f:α→β):∀(l:List α) (s:σ),run cb (l.map f) s=run (fun s x=>cb s (f x)) l s
 |[],s=>rfl
 |x::l,s=>by simp only[List.map_cons,run,run_map cb f l]
theorem OF{σ:Type}(K:Nat)(cb:σ→Bool→Option (Bool×σ))(p:List Bool)(a:p.length≤5000):∀(n m i:Nat) (s:σ),p.length=i+n→n<m→
  (CO (fun(st:σ) (x:Bool)=>(Ed K cb x st).bind fun r=>some (r.1,r.2)) p m (i:Int) s).bind (fun z=>Sum.elim (fun q=>some (decide ((0:Int)≤q.1),q.2)) (fun q=>some (false,q)) z)=(run cb (p.drop i) s).bind fun r=>some (!r.1,r.2):=by
 intro n
 induction n with
 |zero=>
  intro m i s h hm;cases m with
  |zero=>omega
  |succ m=>
   rw[CO.eq_2,cf (df (by omega)),List.drop_eq_nil_of_le (by omega)];rfl
 |succ n ih=>
  intro m i s h hm;cases m with
  |zero=>omega
  |succ m=>
   have hi:i<p.length:=by omega
   rw[CO.eq_2,ct (dt (by omega)),DW hi,List.drop_eq_getElem_cons hi];simp only[run];have e:(Ed K cb p[i] s).bind (fun r=>some (r.1,r.2))=(cb s p[i]).bind fun r=>some (!r.1,r.2):=by
    unfold Ed;cases cb s p[i]<;>rfl
   rw[e];cases b:cb s p[i] with
   |none=>rfl
   |some r=>
    simp only[Option.bind_some];cases c:r.1 with
    |false=>
     show some (decide ((0:Int)≤(i:Int)),r.2)=some (!false,r.2);rw[dt (by omega)];rfl
    |true=>
     rw[nt,BG (by omega) (by omega),DQ];exact ih m (i+1) r.2 (by omega) (by omega)
theorem OG{σ:Type}{K:Nat}(cb:σ→Bool→Option (Bool×σ))(p:List Bool)(s:σ)(b:p.length≤5000)(hK:p.length<K):FJ K cb p s=run cb p s:=by
 unfold FJ Ep ET;have h:=OF K cb p b p.length K 0 s (by omega) hK;rw[List.drop_zero,Int.natCast_zero] at h;have e:∀(z:(Int×σ)⊕σ),(Sum.elim (fun a=>some ((a.1,a.2))) (fun a=>some (((-1),a))) z:Option (Int×σ)).bind (fun r1=>some ((decide ((0:Int)≤r1.1),r1.2)))=Sum.elim (fun q=>some (decide ((0:Int)≤q.1),q.2)) (fun q=>some (false,q)) z:=by
  intro z;cases z<;>rfl
 refine Eq.trans (congrArg (fun z=>Option.bind z _) ((Option.bind_assoc _ _ _).trans ((congrArg (fun f=>Option.bind _ f) (funext e)).trans h))) ?_;cases run cb p s with
 |none=>rfl
 |some r=>show some (!(!r.1),r.2)=some r;rw[Bool.not_not]
theorem Pd{σ:Type}(K:Nat)(cb:σ→Au→Option (Bool×σ))(p:List Au)(a:p.length≤5000):∀(n m i:Nat) (s:σ),p.length=i+n→n<m→
  (CX (fun(st:σ) (x:Au)=>(Et K cb x st).bind fun r=>some (r.1,r.2)) p m (i:Int) s).bind (fun z=>Sum.elim (fun q=>some (decide ((0:Int)≤q.1),q.2)) (fun q=>some (false,q)) z)=(run cb (p.drop i) s).bind fun r=>some (!r.1,r.2):=by
 intro n
 induction n with
 |zero=>
  intro m i s h hm;cases m with
  |zero=>omega
  |succ m=>
   rw[CX.eq_2,cf (df (by omega)),List.drop_eq_nil_of_le (by omega)];rfl
 |succ n ih=>
  intro m i s h hm;cases m with
  |zero=>omega
  |succ m=>
   have hi:i<p.length:=by omega
   rw[CX.eq_2,ct (dt (by omega)),DW hi,List.drop_eq_getElem_cons hi];simp only[run];have e:(Et K cb p[i] s).bind (fun r=>some (r.1,r.2))=(cb s p[i]).bind fun r=>some (!r.1,r.2):=by
    unfold Et;cases cb s p[i]<;>rfl
   rw[e];cases b:cb s p[i] with
   |none=>rfl
   |some r=>
    simp only[Option.bind_some];cases c:r.1 with
    |false=>
     show some (decide ((0:Int)≤(i:Int)),r.2)=some (!false,r.2);rw[dt (by omega)];rfl
    |true=>
     rw[nt,BG (by omega) (by omega),DQ];exact ih m (i+1) r.2 (by omega) (by omega)
theorem Pe{σ:Type}{K:Nat}(cb:σ→Au→Option (Bool×σ))(p:List Au)(s:σ)(b:p.length≤5000)(hK:p.length<K):Gb K cb p s=run cb p s:=by
 unfold Gb Ez E4;have h:=Pd K cb p b p.length K 0 s (by omega) hK;rw[List.drop_zero,Int.natCast_zero] at h;have e:∀(z:(Int×σ)⊕σ),(Sum.elim (fun a=>some ((a.1,a.2))) (fun a=>some (((-1),a))) z:Option (Int×σ)).bind (fun r1=>some ((decide ((0:Int)≤r1.1),r1.2)))=Sum.elim (fun q=>some (decide ((0:Int)≤q.1),q.2)) (fun q=>some (false,q)) z:=by
  intro z;cases z<;>rfl
 refine Eq.trans (congrArg (fun z=>Option.bind z _) ((Option.bind_assoc _ _ _).trans ((congrArg (fun f=>Option.bind _ f) (funext e)).trans h))) ?_;cases run cb p s with
 |none=>rfl
 |some r=>show some (!(!r.1),r.2)=some r;rw[Bool.not_not]
def okW (W R:Int):List Bool→Int→Int→Bool
 |[],_,_=>true
 |false::l,s,_=>okW W R l s 0
 |true::l,s,r=>decide (s+1≤W)&&(decide (r+1≤R)&&okW W R l (s+1) (r+1))
theorem Jg(K:Nat)(y:Aq):∀(l:List Bool) (r s:Int),0≤r→0≤s→r+l.length≤5000→s+l.length≤5000→
  (run (fun(st:Int×Int) (x:Bool)=>(DC K x st.1 st.2 y).bind fun r=>some (r.1,(r.2.1,r.2.2))) l (r,s)).bind (fun d=>some (d.1))=some (okW y.Ap y.Ax l s r)
 |[],r,s,_,_,_,_=>rfl
 |false::l,r,s,e,c,a,b=>by
  simp only[run,okW];unfold DC;simp only[Bool.not_false,cond_true,Option.bind_some];exact Jg K y l 0 s (by omega) c (by simp at a;omega) (by simp at b;omega)
 |true::l,r,s,e,c,a,b=>by
  simp only[List.length_cons] at a b;simp only[run,okW];unfold DC;simp only[Bool.not_true,cond_false];rw[BG (by omega) (by omega),BG (by omega) (by omega)];cases f:decide (s+1≤y.Ap) with
  |false=>simp
  |true=>
   simp only[cond_true,Option.bind_some];cases g:decide (r+1≤y.Ax) with
   |false=>simp
   |true=>
    simp only[cond_true,Bool.true_and];exact Jg K y l (r+1) (s+1) (by omega) (by omega) (by omega) (by omega)
theorem LZ{K:Nat}(y:Aq)(l:List Bool)(a:l.length≤4000)(hK:l.length<K):Ef K y l=some (okW y.Ap y.Ax l 0 0):=by
 unfold Ef;rw[OG _ l _ (by omega) hK];exact Jg K y l 0 0 (by omega) (by omega) (by omega) (by omega)
end Go.Proofs.Ytkljfdkmjdjpfaa
end
section
namespace Go.Proofs.Ytkljfdkmjdjpfaa
theorem NN(s x:Nat):EZ (s:Int) (x:Int)=((s/2^x:Nat):Int):=by
 unfold EZ;rw[Int.toNat_natCast,Int.natCast_ediv,Int.natCast_pow];rfl
theorem Rc(s x:Nat):EZ (s:Int) (x:Int)%2=((s/2^x%2:Nat):Int):=by rw[NN];simp
theorem Pf(b d:Nat):(EZ (b:Int) (d:Int)%2==1)=b.testBit d:=by
 rw[Rc,Nat.testBit_eq_decide_div_mod_eq];cases h:decide (b/2^d%2=1) with
 |true=>rw[of_decide_eq_true h];rfl
 |false=>
  have:=of_decide_eq_false h;simp only[beq_eq_false_iff_ne,ne_eq];omega
theorem Pg(b d:Nat)(h:d<64):MD (b:Int) (d:Int)=some ():=if_pos ⟨by omega,by omega⟩
theorem Sc(b d:Nat):0≤EZ (b:Int) (d:Int):=by rw[NN];exact Int.natCast_nonneg _
def wl (n b:Nat):List Bool:=(List.range n).map b.testBit
theorem Fm(n b:Nat):(wl n b).length=n:=by simp[wl]
theorem Ty(b n:Nat)(a:List Bool)(h0:a.length=n)(d:n≤63):∀(k m i:Nat) (s:List Bool),n=i+k→k<m→s.length=n→
  CB (b:Int) a m (i:Int) s=some (s.take i++(List.range' i k).map b.testBit):=by
 intro k
 induction k with
 |zero=>
  intro m i s h hm c;cases m with
  |zero=>omega
  |succ m=>
   rw[CB.eq_2,cf (df (by omega)),List.take_of_length_le (by omega)];simp
 |succ k ih=>
  intro m i s h hm c;cases m with
  |zero=>omega
  |succ m=>
   have hi:i<s.length:=by omega
   rw[CB.eq_2,ct (dt (by omega)),bd (Pg b i (by omega)),KG (Sc b i) (by omega),DW hi,BG (by omega) (by omega),DQ,Pf,Int.toNat_natCast];rw[ih m (i+1) (s.set i (b.testBit i)) (by omega) (by omega) (by rw[List.length_set];exact c)]
   congr 1
   rw[List.range'_succ,List.map_cons,List.take_add_one,List.getElem?_set_self hi,List.take_set_of_le (Nat.le_refl _)];simp
theorem Tz(b n:Nat)(s:List Bool)(c:n≤63){K:Nat}(hK:n<K)(a:s.length=n):CB (b:Int) s K 0 s=some (wl n b):=by
 have:=Ty b n s a c n K 0 s (by omega) hK a;rw[Int.natCast_zero] at this;rw[this,wl,List.range_eq_range'];rfl
def G7 (y:Aq) (l:List Bool):Bool:=okW y.Ap y.Ax l 0 0
def days(y:Aq):Nat:=(y.Ah+1).toNat
def CJ(y:Aq):List (List Bool):=((List.range (2^days y)).map (wl (days y))).filter (G7 y)
theorem H9:∀n:Nat,n≤10→2^n≤1024:=by decide
theorem OH{σ:Type}{K:Nat}(cb:σ→List Bool→Option (Bool×σ))(y:Aq)(f:days y≤10)(hK:2000≤K):∀(k m i:Nat) (a:List Bool) (st:σ),2^days y=i+k→k<m→a.length=days y→
  CD cb K y m (i:Int) a st=(run cb (((List.range' i k).map (wl (days y))).filter (G7 y)) st).bind fun r=>some (cond r.1 (.inr r.2) (.inl r.2)):=by
 intro k;have g:=H9 _ f;have b:GR (1:Int) ((List.replicate (y.Ah+1).toNat false).length:Int)=((2^days y:Nat):Int):=by
  unfold GR;rw[Int.one_mul,Int.toNat_natCast,List.length_replicate,Int.natCast_pow];rfl
 induction k with
 |zero=>
  intro m i a st h hm c;cases m with
  |zero=>omega
  |succ m=>
   rw[CD.eq_2,b,cf (df (by omega))];rfl
 |succ k ih=>
  intro m i a st h hm c;cases m with
  |zero=>omega
  |succ m=>
   rw[CD.eq_2,b,ct (dt (by omega)),bd (Tz i (days y) a (by omega) (by omega) c),bd (LZ y (wl (days y) i) (by rw[Fm];omega) (by rw[Fm];omega))];rw[List.range'_succ,List.map_cons];show cond (G7 y (wl (days y) i)) _ _=_;cases d:G7 y (wl (days y) i) with
   |false=>
    rw[List.filter_cons_of_neg (by rw[d];decide),cf rfl,BG (by omega) (by omega),DQ];exact ih m (i+1) _ st (by omega) (by omega) (Fm _ _)
   |true=>
    rw[List.filter_cons_of_pos d,ct rfl];show _=(Option.bind _ _:Option (Bool×σ)).bind _;cases j:cb st (wl (days y) i) with
    |none=>rfl
    |some r=>
     cases e:r.1 with
     |false=>
      show(cond (!r.1) (some (Sum.inl r.2)) _:Option (σ⊕σ))=(cond r.1 _ (some (false,r.2)):Option (Bool×σ)).bind _;rw[e];rfl
     |true=>
      show cond (!r.1) _ ((i64 ((i:Int)+1)).bind _)=(cond r.1 (run cb _ r.2) _:Option (Bool×σ)).bind _;rw[e,nt,BG (by omega) (by omega),DQ];exact ih m (i+1) _ r.2 (by omega) (by omega) (Fm _ _)
theorem K2{σ:Type}{K:Nat}(cb:σ→List Bool→Option (Bool×σ))(y:Aq)(h0:0≤y.Ah)(h9:y.Ah≤9)(hK:2000≤K)(st:σ):
  Dp K cb y st=(run cb (CJ y) st).bind fun r=>some r.2:=by
 have a:days y≤10:=by unfold days;omega
 have c:=H9 _ a;unfold Dp;rw[BG (by omega) (by omega),Pc (by omega) (by omega) (by omega)];have b:Lj (1:Int) ((List.replicate (y.Ah+1).toNat false).length:Int)=some ():=by
  rw[List.length_replicate];refine if_pos ⟨by omega,by omega,?_,?_⟩
  ·have:(0:Int)≤1*2^((days y:Nat):Int).toNat:=by rw[Int.one_mul];exact Int.le_of_lt (Int.pow_pos (by omega))
   exact Int.le_trans (by omega) this
  ·rw[Int.one_mul,Int.toNat_natCast];have:((2^days y:Nat):Int)≤1024:=by omega
   rw[Int.natCast_pow] at this;exact Int.le_trans this (by omega)
 rw[bd b];have:=OH (K:=K) cb y a hK (2^days y) K 0 (List.replicate (y.Ah+1).toNat false) st (by omega) (by omega) (by rw[List.length_replicate];rfl);rw[Int.natCast_zero] at this;rw[this,CJ,List.range_eq_range',Option.bind_assoc]
 congr 1;funext r
 cases r.1<;>rfl
end Go.Proofs.Ytkljfdkmjdjpfaa
end
section
namespace Go.Proofs.Ytkljfdkmjdjpfaa
def FK(y:Aq)(l:Au):Bool:=decide (0≤l.An)&&(decide (l.An≤l.Ar)&&(decide (l.Ar≤y.Ah)&&(Fw l.AF 1 5&&(Fw l.Bi 1 5&&Fw l.Bl 0 y.Ah))))
def CM(l:Au):Int:=l.Ar-l.An+1
def Fj:List Au→Int
 |[]=>1
 |l::r=>CM l*Fj r
def HO (y:Aq):Int:=((CJ y).length:Int)*Fj y.Ac
def check(y:Aq):Int:=
 if 9<y.Ah∨2<y.Ai∨4<(y.Ac.length:Int) then 3
 else if y.Ah<0∨y.Ai<1∨Fw y.Ap 0 (y.Ah+1)=false∨Fw y.Ax 0 (y.Ah+1)=false∨y.Ac.all (FK y)=false then 1
 else if 1000<HO y then 3 else 0
theorem GZ{y:Aq}{l:Au}:FK y l=true↔0≤l.An∧l.An≤l.Ar∧l.Ar≤y.Ah∧(1≤l.AF∧l.AF≤5)∧(1≤l.Bi∧l.Bi≤5)∧0≤l.Bl∧l.Bl≤y.Ah:=by
 unfold FK;simp only[Bool.and_eq_true,decide_eq_true_eq,FE]
theorem TA(K:Nat)(y:Aq)(l:Au):EF K y l=some (FK y l):=by
 unfold EF FK Gv Gq;rw[GW,GW,GW];cases decide ((0:Int)≤l.An)<;>cases decide (l.An≤l.Ar)<;>cases decide (l.Ar≤y.Ah)<;>cases Fw l.AF 1 5<;>cases Fw l.Bi 1 5<;>rfl
theorem Sd{K:Nat}(hK:2<K)(a b:Int):Gc K [a,b]=some (min a b):=by
 obtain⟨k,rfl⟩:∃k,K=k+3:=⟨K-3,by omega⟩;unfold Gc Gl;rw[cf (df (by simp)),show(0:Int)=((0:Nat):Int) from rfl,DW (by simp),show(1:Int)=((1:Nat):Int) from rfl,Eg.eq_2,ct (dt (by simp)),DW (by simp),BG (by omega) (by omega),Eg.eq_2,cf (df (by simp))];rfl
theorem Ph(K:Nat)(l:Au)(h0:0≤l.An)(a:l.An≤l.Ar)(b:l.Ar≤9):EM K (⟨l.An,l.Ar⟩:CL)=some (CM l):=by
 unfold EM;show(i64 (l.Ar-l.An)).bind _=_;rw[BG (by omega) (by omega)];show(i64 (l.Ar-l.An+1)).bind _=_;rw[BG (by omega) (by omega)];rfl
theorem Se(K:Nat)(l:Au)(h0:0≤l.An)(a:l.An≤l.Ar)(b:l.Ar≤9):E7 K (⟨l.An,l.Ar⟩:CL)=some (CM l):=by
 unfold E7;show(i64 (l.Ar-l.An)).bind _=_;rw[BG (by omega) (by omega)];show(i64 (l.Ar-l.An+1)).bind _=_;rw[BG (by omega) (by omega)];rfl
def Iy(c:Int):Int→List Au→Int
 |n,[]=>n
 |n,l::r=>Iy c (min (n*CM l) c) r
def sized(l:Au):Prop:=1≤CM l∧CM l≤10
theorem KH{y:Aq}{l:Au}(h9:y.Ah≤9)(h:FK y l=true):sized l:=by
 obtain⟨a,b,c,_⟩:=GZ.1 h;unfold sized CM;omega
theorem JP:∀{ls:List Au},(∀l∈ls,sized l)→1≤Fj ls
 |[],_=>Int.le_refl _
 |l::r,h=>by
  have a:=(h l (List.mem_cons_self ..)).1;have b:=JP (ls:=r) fun x c=>h x (List.mem_cons_of_mem _ c);have:=Int.mul_le_mul a b (by omega) (by omega);unfold Fj;omega
theorem Lq{c:Int}(e:1000<c):∀{ls:List Au} (n:Int),0≤n→(∀l∈ls,sized l)→(1000<Iy c n ls↔1000<n*Fj ls)
 |[],n,_,_=>by simp[Iy,Fj]
 |l::r,n,f,h=>by
  have g:=h l (List.mem_cons_self ..);have b:∀x∈r,sized x:=fun x i=>h x (List.mem_cons_of_mem _ i);have d:=JP b;have h0:0≤n*CM l:=Int.mul_nonneg f (by have:=g.1;omega);unfold Iy Fj;rw[Lq e _ (by omega) b,←Int.mul_assoc];rcases Int.le_total (n*CM l) c with a|a
  ·rw[Int.min_eq_left a]
  ·rw[Int.min_eq_right a];have j:c*1≤c*Fj r:=Int.mul_le_mul_of_nonneg_left d (by omega);have k:(n*CM l)*1≤n*CM l*Fj r:=Int.mul_le_mul_of_nonneg_left d h0;constructor<;>intro _<;>omega
theorem NO{c:Int}(b:1000<c):∀{ls:List Au} (n:Int),0≤n→(∀l∈ls,sized l)→n*Fj ls≤1000→Iy c n ls=n*Fj ls
 |[],n,_,_,_=>by simp[Iy,Fj]
 |l::r,n,d,h,hle=>by
  have e:=h l (List.mem_cons_self ..);have a:∀x∈r,sized x:=fun x f=>h x (List.mem_cons_of_mem _ f);have g:=JP a;have h0:0≤n*CM l:=Int.mul_nonneg d (by have:=e.1;omega);rw[Fj,←Int.mul_assoc] at hle;rw[Iy,Fj,←Int.mul_assoc];have i:(n*CM l)*1≤n*CM l*Fj r:=Int.mul_le_mul_of_nonneg_left g h0;rw[Int.min_eq_left (by omega),NO b _ h0 a hle]
theorem Re(y:Aq)(j:y.Ac.length≤4)(b:∀l∈y.Ac,sized l∧0≤l.An∧l.Ar≤9){K:Nat}(hK:2000≤K):∀(k m i:Nat) (n:Int),y.Ac.length=i+k→k<m→0≤n→n≤3000→
  DO K y m (i:Int) n=some (Iy 1001 n (y.Ac.drop i)):=by
 intro k
 induction k with
 |zero=>
  intro m i n h hm h0 a;cases m with
  |zero=>omega
  |succ m=>rw[DO.eq_2,cf (df (by omega)),List.drop_eq_nil_of_le (by omega)];rfl
 |succ k ih=>
  intro m i n h hm h0 a;cases m with
  |zero=>omega
  |succ m=>
   have hi:i<y.Ac.length:=by omega
   obtain⟨⟨s1,s2⟩,c,d⟩:=b y.Ac[i] (List.getElem_mem hi);have e:1≤CM y.Ac[i]∧CM y.Ac[i]≤10:=⟨s1,s2⟩;have f:0≤n*CM y.Ac[i]:=Int.mul_nonneg h0 (by omega);have g:n*CM y.Ac[i]≤3000*10:=Int.mul_le_mul a s2 (by omega) (by omega);rw[DO.eq_2,ct (dt (by omega)),DW hi,bd (Ph K _ c (by unfold CM at s1;omega) d),BG (by omega) (by omega),bd (Sd (by omega) _ _),BG (by omega) (by omega),DQ];rw[ih m (i+1) _ (by omega) (by omega) (by omega) (by omega),List.drop_eq_getElem_cons hi];rfl
theorem Sf(y:Aq)(j:y.Ac.length≤4)(b:∀l∈y.Ac,sized l∧0≤l.An∧l.Ar≤9){K:Nat}:∀(k m i:Nat) (n:Int),y.Ac.length=i+k→k<m→0≤n→n≤3000→
  Dz K y m n (i:Int)=some (Iy 3000 n (y.Ac.drop i)):=by
 intro k
 induction k with
 |zero=>
  intro m i n h hm h0 a;cases m with
  |zero=>omega
  |succ m=>rw[Dz.eq_2,cf (df (by omega)),List.drop_eq_nil_of_le (by omega)];rfl
 |succ k ih=>
  intro m i n h hm h0 a;cases m with
  |zero=>omega
  |succ m=>
   have hi:i<y.Ac.length:=by omega
   obtain⟨⟨s1,s2⟩,c,d⟩:=b y.Ac[i] (List.getElem_mem hi);have e:1≤CM y.Ac[i]∧CM y.Ac[i]≤10:=⟨s1,s2⟩;have f:0≤n*CM y.Ac[i]:=Int.mul_nonneg h0 (by omega);have g:n*CM y.Ac[i]≤3000*10:=Int.mul_le_mul a s2 (by omega) (by omega);rw[Dz.eq_2,ct (dt (by omega)),DW hi,bd (Se K _ c (by unfold CM at s1;omega) d),BG (by omega) (by omega),BG (by omega) (by omega),DQ,Int.min_comm];rw[ih m (i+1) _ (by omega) (by omega) (by omega) (by omega),List.drop_eq_getElem_cons hi];rfl
theorem L0{α:Type}:∀(l:List α) (n:Int),0≤n→n+l.length≤100000→run (fun(st:Int) (_:α)=>(i64 (st+1)).bind fun _=>some (true,st+1)) l n=some (true,n+l.length)
 |[],n,_,_=>by simp[run]
 |x::l,n,h0,a=>by
  simp only[List.length_cons] at a⊢;rw[run,BG (by omega) (by omega)];show run _ l (n+1)=_;rw[L0 l (n+1) (by omega) (by omega)]
  congr 2;omega
theorem JQ(y:Aq)(h:days y≤10):(CJ y).length≤1024:=by
 have a:=H9 _ h;have:(CJ y).length≤((List.range (2^days y)).map (wl (days y))).length:=List.length_filter_le ..;simp at this;omega
theorem L1{K:Nat}(y:Aq):∀(l:List Au),run (fun(st:Unit) (x:Au)=>(EF K y x).bind fun r=>some (r,())) l ()=some (l.all (FK y),())
 |[]=>rfl
 |x::l=>by
  rw[run,TA];show cond (FK y x) (run _ l ()) (some (false,()))=_;rw[L1 y l,List.all_cons];cases FK y x<;>rfl
theorem HU{K:Nat}(hK:2000≤K)(y:Aq):Dq K y=some (check y):=by
 unfold Dq check
 by_cases g:9<y.Ah
 ·rw[ct (dt g),if_pos (.inl g)]
 rw[cf (df g)]
 by_cases i:2<y.Ai
 ·rw[ct (dt i),if_pos (.inr (.inl i))]
 rw[cf (df i)]
 by_cases j:4<(y.Ac.length:Int)
 ·rw[ct (dt j),if_pos (.inr (.inr j))]
 rw[cf (df j),if_neg (by omega)]
 by_cases b:y.Ah<0
 ·rw[ct (dt b),if_pos (.inl b)]
 rw[cf (df b)]
 by_cases d:y.Ai<1
 ·rw[ct (dt d),if_pos (.inr (.inl d))]
 rw[cf (df d),BG (by omega) (by omega),bd (GW ..)];cases r:Fw y.Ap 0 (y.Ah+1) with
 |false=>rw[nf,if_pos (.inr (.inr (.inl rfl)))]
 |true=>
  rw[nt,BG (by omega) (by omega),bd (GW ..)];cases s:Fw y.Ax 0 (y.Ah+1) with
  |false=>rw[nf,if_pos (.inr (.inr (.inr (.inl rfl))))]
  |true=>
   rw[nt,Pe _ _ _ (by omega) (by omega),bd (L1 y y.Ac)];cases o:y.Ac.all (FK y) with
   |false=>rw[nf,if_pos (.inr (.inr (.inr (.inr rfl))))]
   |true=>
    rw[nt,if_neg (by simp[b,d])];have p:days y≤10:=by unfold days;omega
    have hw:=JQ y p;have m:∀l∈y.Ac,sized l∧0≤l.An∧l.Ar≤9:=fun l k=>by
     have n:=List.all_eq_true.1 o l k;have:=GZ.1 n;exact⟨KH (by omega) n,this.1,by omega⟩
    have q:Dp K (fun(st:Int) (x:List Bool)=>EG st x) y (0:Int)=some ((CJ y).length:Int):=by
     rw[K2 _ y (by omega) (by omega) hK];show(run (fun(st:Int) (_:List Bool)=>(i64 (st+1)).bind fun _=>some (true,st+1)) (CJ y) 0).bind _=_;rw[L0 _ 0 (by omega) (by omega)];simp
    have a:=Re y (by omega) m hK y.Ac.length K 0 ((CJ y).length:Int) (by omega) (by omega) (by omega) (by omega);rw[Int.natCast_zero,List.drop_zero] at a;rw[bd q,bd a];have f:=Lq (c:=1001) (by omega) ((CJ y).length:Int) (by omega) fun l k=>(m l k).1;unfold HO
    by_cases e:1000<((CJ y).length:Int)*Fj y.Ac
    ·rw[ct (dt (f.2 e)),if_pos e]
    ·rw[cf (df fun h=>e (f.1 h)),if_neg e]
end Go.Proofs.Ytkljfdkmjdjpfaa
end
section
namespace Go.Proofs.Ytkljfdkmjdjpfaa
def Ek:List Au→List (List Int)
 |[]=>[[]]
 |l::r=>(List.range (CM l).toNat).flatMap fun(n:Nat)=>(Ek r).map fun c=>(l.An+(n:Int))::c
def BS(y:Aq):List A6:=(CJ y).flatMap fun w=>(Ek y.Ac).map fun c=>⟨c,w⟩
section
variable{σ:Type}{K:Nat}(cb:σ→A6→Option (Bool×σ))(y:Aq)(w:List Bool)
def Tr (k i:Nat):Prop:=∀(c:List Int) (st:σ),c.length=y.Ac.length→
 (BH K cb k (i:Int) c w y st).map (fun z=>(z.1,z.2.2))=run (fun s d=>cb s ⟨c.take i++d,w⟩) (Ek (y.Ac.drop i)) st∧
 ∀z,BH K cb k (i:Int) c w y st=some z→z.2.1.length=y.Ac.length∧z.2.1.take i=c.take i
def Qp{α β:Type}:(Bool×α×β)⊕(α×β)→Bool×β
 |.inl x=>(false,x.2.2)
 |.inr x=>(true,x.2)
def Sg{α β:Type}:(Bool×α×β)⊕(α×β)→α
 |.inl x=>x.2.1
 |.inr x=>x.1
theorem Qq(k i:Nat)(hi:i<y.Ac.length)(aL:y.Ac.length≤4)(aD:∀l∈y.Ac,sized l∧0≤l.An∧l.Ar≤9)(ih:Tr (K:=K) cb y w k (i+1)):
  ∀(n m j:Nat) (c:List Int) (st:σ),(CM y.Ac[i]).toNat=j+n→n<m→c.length=y.Ac.length→
  (B0 (BH K cb k) (i:Int) w y (CM y.Ac[i]) m (j:Int) c st).map Qp=run (fun s d=>cb s ⟨c.take i++d,w⟩) ((List.range' j n).flatMap fun(q:Nat)=>(Ek (y.Ac.drop (i+1))).map fun d=>(y.Ac[i].An+(q:Int))::d) st∧
  ∀z,B0 (BH K cb k) (i:Int) w y (CM y.Ac[i]) m (j:Int) c st=some z→(Sg z).length=y.Ac.length∧(Sg z).take i=c.take i∧(∀x,z=.inl x→x.1=false):=by
 obtain⟨⟨s1,s2⟩,aM,aN⟩:=aD y.Ac[i] (List.getElem_mem hi);have aJ:1≤CM y.Ac[i]∧CM y.Ac[i]≤10:=⟨s1,s2⟩;intro n
 induction n with
 |zero=>
  intro m j c st h hm o;cases m with
  |zero=>omega
  |succ m=>
   rw[B0.eq_2,cf (df (by omega))];exact⟨rfl,fun z b=>by cases b;exact⟨o,rfl,fun x p=>by cases p⟩⟩
 |succ n u=>
  intro m j c st h hm o;cases m with
  |zero=>omega
  |succ m=>
   have f:i<c.length:=by omega
   have aK:y.Ac[i].An≤9:=by unfold CM at s1;omega
   rw[B0.eq_2,ct (dt (by omega)),DW hi,BG (by omega) (by omega),DW f,BG (by omega) (by omega),DQ i,Int.toNat_natCast];have v:(c.set i (y.Ac[i].An+(j:Int))).length=y.Ac.length:=by rw[List.length_set];exact o
   have g:(c.set i (y.Ac[i].An+(j:Int))).take (i+1)=c.take i++[y.Ac[i].An+(j:Int)]:=by
    rw[List.take_add_one,List.getElem?_set_self f,List.take_set_of_le (Nat.le_refl _)];rfl
   obtain⟨t,aE⟩:=ih _ st v;rw[g] at t;rw[List.range'_succ,List.flatMap_cons,G6,run_map];have aF:run (fun s d=>cb s ⟨c.take i++[y.Ac[i].An+(j:Int)]++d,w⟩) (Ek (y.Ac.drop (i+1))) st=run (fun s d=>cb s ⟨c.take i++(y.Ac[i].An+(j:Int))::d,w⟩) (Ek (y.Ac.drop (i+1))) st:=by
    congr 1;funext s d;rw[List.append_assoc];rfl
   rw[aF] at t;rw[←t];cases aG:BH K cb k ((i+1:Nat):Int) (c.set i (y.Ac[i].An+(j:Int))) w y st with
   |none=>exact⟨rfl,fun z b=>by cases b⟩
   |some r=>
    obtain⟨aA,aH⟩:=aE r aG;have aB:r.2.1.take i=c.take i:=by
     have:=congrArg (List.take i) aH;rw[List.take_take,Nat.min_eq_left (by omega),g,List.take_append_of_le_length (by rw[List.length_take];omega),List.take_take,Nat.min_self] at this;exact this
    obtain⟨aI,rc,e⟩:=r;cases aI with
    |false=>
     refine⟨rfl,fun z b=>?_⟩;have aC:some (Sum.inl (false,rc,e))=some z:=b;cases aC;exact⟨aA,aB,fun x p=>by cases p;rfl⟩
    |true=>
     have key:(Option.bind (some (true,rc,e)) fun a=>cond (!a.1) (some (Sum.inl (false,a.2.1,a.2.2))) ((i64 ((j:Int)+1)).bind fun _=>B0 (BH K cb k) (i:Int) w y (CM y.Ac[i]) m ((j:Int)+1) a.2.1 a.2.2))=B0 (BH K cb k) (i:Int) w y (CM y.Ac[i]) m ((j+1:Nat):Int) rc e:=by
      rw[Option.bind_some,nt,BG (by omega) (by omega),DQ j]
     have:=u m (j+1) rc e (by omega) (by omega) aA;rw[aB] at this;rw[key];exact this
theorem OI(t:y.Ac.length≤4)(g:∀l∈y.Ac,sized l∧0≤l.An∧l.Ar≤9)(hK:2000≤K):∀(n k i:Nat),y.Ac.length=i+n→n<k→Tr (K:=K) cb y w k i:=by
 intro n
 induction n with
 |zero=>
  intro k i h u c st f;cases k with
  |zero=>omega
  |succ k=>
   rw[BH.eq_2,ct (by rw[f,h];simp),List.drop_eq_nil_of_le (by omega)];have j:c.take i=c:=List.take_of_length_le (by omega);rw[j];simp only[Ek,run,List.append_nil];cases cb st ⟨c,w⟩ with
   |none=>exact⟨rfl,fun z a=>by cases a⟩
   |some r=>
    obtain⟨b,s⟩:=r;refine⟨by cases b<;>rfl,fun z a=>?_⟩;have e:some (b,c,s)=some z:=a;cases e;exact⟨f,j⟩
 |succ n ih=>
  intro k i h u c st f;cases k with
  |zero=>omega
  |succ k=>
   have hi:i<y.Ac.length:=by omega
   obtain⟨⟨s1,s2⟩,v,aA⟩:=g y.Ac[i] (List.getElem_mem hi);rw[BH.eq_2,cf (by rw[f];simp;omega),DW hi,bd (Ph K _ v (by unfold CM at s1;omega) aA)];obtain⟨m,o⟩:=Qq cb y w k i hi t g (ih k (i+1) (by omega) (by omega)) (CM y.Ac[i]).toNat K 0 c st (by omega) (by omega) f;rw[Int.natCast_zero] at m o;rw[List.drop_eq_getElem_cons hi,Ek,List.range_eq_range',←m];cases aB:B0 (BH K cb k) (i:Int) w y (CM y.Ac[i]) K 0 c st with
   |none=>exact⟨rfl,fun z a=>by cases a⟩
   |some r=>
    obtain⟨p,q,aC⟩:=o r aB;cases r with
    |inl x=>
     obtain⟨b,d,s⟩:=x;obtain rfl:=aC _ rfl;refine⟨rfl,fun z a=>?_⟩;have e:some (false,d,s)=some z:=a;cases e;exact⟨p,q⟩
    |inr x=>
     obtain⟨d,s⟩:=x;refine⟨rfl,fun z a=>?_⟩;have e:some (true,d,s)=some z:=a;cases e;exact⟨p,q⟩
end
theorem L2{σ:Type}{K:Nat}(cb:σ→A6→Option (Bool×σ))(y:Aq)(e:y.Ac.length≤4)(f:∀l∈y.Ac,sized l∧0≤l.An∧l.Ar≤9)(hK:2000≤K):∀(ws:List (List Bool)) (c:List Int) (st:σ),c.length=y.Ac.length→
  (run (fun(st:(List Int)×σ×Bool) (x:(List Bool))=>cond st.2.2 none (De cb K y st.1 st.2.1 x)) ws (c,st,false)).bind (fun a=>cond (a.2.2.2) (some (a.2.2.1)) (some (a.2.2.1)))=
  (run cb (ws.flatMap fun w=>(Ek y.Ac).map fun c=>(⟨c,w⟩:A6)) st).bind fun r=>some r.2
 |[],c,st,_=>rfl
 |w::ws,c,st,i=>by
  obtain⟨g,h⟩:=OI cb y w e f hK y.Ac.length K 0 (by omega) (by omega) c st i;rw[Int.natCast_zero,List.drop_zero,List.take_zero] at g;rw[Int.natCast_zero] at h;rw[List.flatMap_cons,G6,run_map];have j:run (fun s d=>cb s ⟨[]++d,w⟩) (Ek y.Ac) st=run (fun s d=>cb s (⟨d,w⟩:A6)) (Ek y.Ac) st:=rfl;rw[←j,←g,run];show(Option.bind (De cb K y c st w) _:Option _).bind _=_;unfold De;cases k:BH K cb K 0 c w y st with
  |none=>rfl
  |some r=>
   obtain⟨m,n⟩:=h r k;obtain⟨b,d,s⟩:=r;cases b with
   |false=>rfl
   |true=>
    show(run _ ws (d,s,false)).bind _=(run cb _ s).bind _;exact L2 cb y e f hK ws d s m
theorem Qr{σ:Type}{K:Nat}(cb:σ→A6→Option (Bool×σ))(y:Aq)(h0:0≤y.Ah)(h9:y.Ah≤9)(a:y.Ac.length≤4)(b:∀l∈y.Ac,sized l∧0≤l.An∧l.Ar≤9)(hK:2000≤K)(st:σ):
  EH K cb y st=(run cb (BS y) st).bind fun r=>some r.2:=by
 unfold EH;rw[Pc (by omega) (by omega) (by omega),K2 _ y h0 h9 hK,Option.bind_assoc];exact L2 cb y a b hK (CJ y) (List.replicate (y.Ac.length:Int).toNat (0:Int)) st (by rw[List.length_replicate];omega)
end Go.Proofs.Ytkljfdkmjdjpfaa
end
section
namespace Go.Proofs.Ytkljfdkmjdjpfaa
def GX:Au:=⟨0,0,0,0,0⟩
def EJ(y:Aq)(i:Int):Au:=y.Ac.getD i.toNat GX
def C9(c:List Int)(i:Int):Int:=c.getD i.toNat 0
def GB (l:Au) (d0:Int):List Bool→Int→Int→Int→Av
 |[],_,_,_=>⟨d0,-1,false⟩
 |true::ws,d,El,run=>cond (El==l.AF) ⟨d0,d,El==l.AF⟩ (cond (run+1==l.Bi) ⟨d0,d,El==l.AF⟩ (GB l d0 ws (d+1) El (run+1)))
 |false::ws,d,El,run=>cond (El+1==l.AF) ⟨d0,d,El+1==l.AF⟩ (cond ((0:Int)==l.Bi) ⟨d0,d,El+1==l.AF⟩ (GB l d0 ws (d+1) (El+1) 0))
def DF(y:Aq)(w:List Bool)(l:Au)(d:Int):Av:=if y.Ah<d then ⟨-1,-1,false⟩ else GB l d (w.drop d.toNat) d 0 0
def wk(y:Aq)(w:List Bool)(m:List (List Int×Av)):Cl:=⟨y.Ah,y.Ai,y.Ap,y.Ax,y.Ac,w,m⟩
theorem TB(y:Aq)(w:List Bool)(mm:List (List Int×Av))(p:G5)(l:Au)(h9:y.Ah≤9)(hw:(w.length:Int)=y.Ah+1)(b0 f:Int)(g:Bool):∀(k m d:Nat) (El r:Int),y.Ah+1=d+k→k<m→0≤El→El≤d→0≤r→r≤d→
  (DK (wk y w mm) p l m El r (d:Int) b0 f g).bind (fun z=>Sum.elim (fun a=>some ((⟨a.1,a.2.1,a.2.2⟩:Av))) (fun a=>some ((⟨p.day,(-1),false⟩:Av))) z)=some (GB l p.day (w.drop d) (d:Int) El r):=by
 intro k
 induction k with
 |zero=>
  intro m d El r h hm h0 i j n;cases m with
  |zero=>omega
  |succ m=>
   rw[DK.eq_2,cf (df (by show¬(d:Int)≤y.Ah;omega)),List.drop_eq_nil_of_le (by omega)];rfl
 |succ k ih=>
  intro m d El r h hm h0 i j n;cases m with
  |zero=>omega
  |succ m=>
   have b:d<w.length:=by omega
   have c:d<(wk y w mm).CU.length:=b;rw[DK.eq_2,ct (dt (by show(d:Int)≤y.Ah;omega)),DW c,List.drop_eq_getElem_cons b];have e:(wk y w mm).CU[d]=w[d]:=rfl;rw[e];cases s:w[d] with
   |true=>
    rw[ct rfl,BG (by omega) (by omega),GB];cases o:(El==l.AF) with
    |true=>rw[ct rfl,ct rfl];rfl
    |false=>
     rw[cf rfl,cf rfl];cases q:(r+1==l.Bi) with
     |true=>rw[ct rfl,ct rfl];rfl
     |false=>
      rw[cf rfl,cf rfl,BG (by omega) (by omega),DQ];exact ih m (d+1) El (r+1) (by omega) (by omega) h0 (by omega) (by omega) (by omega)
   |false=>
    rw[cf rfl,BG (by omega) (by omega),GB];cases o:(El+1==l.AF) with
    |true=>rw[ct rfl,ct rfl];rfl
    |false=>
     rw[cf rfl,cf rfl];cases q:((0:Int)==l.Bi) with
     |true=>rw[ct rfl,ct rfl];rfl
     |false=>
      rw[cf rfl,cf rfl,BG (by omega) (by omega),DQ];exact ih m (d+1) (El+1) 0 (by omega) (by omega) (by omega) (by omega) (by omega) (by omega)
theorem TD{K:Nat}(y:Aq)(w:List Bool)(mm:List (List Int×Av))(i d:Int)(h9:y.Ah≤9)(hw:(w.length:Int)=y.Ah+1)(a:0≤i)(hi:i<(y.Ac.length:Int))(c:0≤d)(hK:2000≤K):
  Fc K (wk y w mm) ⟨i,d⟩=some (DF y w (EJ y i) d):=by
 unfold Fc DF;show cond (decide (y.Ah<d)) _ ((idx y.Ac i).bind _)=_
 by_cases h:y.Ah<d
 ·rw[ct (dt h),if_pos h]
 rw[cf (df h),if_neg h];obtain⟨i,rfl⟩:=Int.eq_ofNat_of_zero_le a;obtain⟨d,rfl⟩:=Int.eq_ofNat_of_zero_le c;have b:i<y.Ac.length:=by omega
 rw[DW b];have e:y.Ac[i]=EJ y (i:Int):=by
  show y.Ac[i]=y.Ac.getD ((i:Int)).toNat GX;rw[Int.toNat_natCast,List.getD_eq_getElem?_getD,List.getElem?_eq_getElem (by omega)];rfl
 rw[e,Int.toNat_natCast];exact TB y w mm ⟨(i:Int),(d:Int)⟩ _ h9 hw 0 0 false (y.Ah+1-d).toNat K d 0 0 (by omega) (by omega) (by omega) (by omega) (by omega) (by omega)
def Gd (y:Aq) (w:List Bool) (m:List (List Int×Av)):Prop:=∀(i d:Int) (s:Av),Bz m [i,d]=some s→s=DF y w (EJ y i) d
theorem MK(y:Aq)(w:List Bool):Gd y w []:=fun i d s h=>by cases h
theorem Sh{K:Nat}(y:Aq)(w:List Bool)(mm:List (List Int×Av))(i d:Int)(h9:y.Ah≤9)(hw:(w.length:Int)=y.Ah+1)(e:0≤i)(hi:i<(y.Ac.length:Int))(j:0≤d)(hK:2000≤K)(hm:Gd y w mm):
  ∃c,E0 K (wk y w mm) ⟨i,d⟩=some (DF y w (EJ y i) d,c)∧Gd y w c:=by
 unfold E0;show∃c,cond (!(Bz mm [i,d]).isSome) ((Fc K (wk y w mm) ⟨i,d⟩).bind _) _=_∧_;cases f:Bz mm [i,d] with
 |none=>
  rw[bd (TD y w mm i d h9 hw e hi j hK)];refine⟨_,rfl,fun i2 d2 s h=>?_⟩;have a:Bz (G3 mm [i,d] (DF y w (EJ y i) d)) [i2,d2]=some s:=h;rw[Nv] at a;split at a
  ·rename_i he
   have b:=List.cons.inj he;have g:=List.cons.inj b.2;rw[b.1,g.1];exact(Option.some.inj a).symm
  ·exact hm i2 d2 s a
 |some s=>
  refine⟨mm,?_,hm⟩;show some ((Bz mm [i,d]).getD ⟨0,0,false⟩,mm)=_;rw[f,hm i d s f];rfl
def FX (y:Aq) (w:List Bool) (c:List Int):List Int→Int→List Av→List Av
 |[],_,out=>out
 |i::r,free,out=>
  let s:=DF y w (EJ y i) (max free (C9 c i))
  FX y w c r (cond (s.Bj==-1) (y.Ah+1) (s.Bj+1)) (out.set i.toNat s)
def FY(y:Aq)(w:List Bool)(c:List Int):List (List Int)→List Av→List Av
 |[],out=>out
 |l::r,out=>FY y w c r (FX y w c l 0 out)
def Jh:Av:=⟨0,0,false⟩
def FZ(y:Aq)(w:List Bool)(order:List (List Int))(c:List Int):List Av:=FY y w c order (List.replicate y.Ac.length Jh)
theorem G8(y:Aq)(w:List Bool)(c:List Int):∀(l:List Int) (free:Int) (out:List Av),(FX y w c l free out).length=out.length
 |[],_,_=>rfl
 |i::r,free,out=>by rw[FX,G8 y w c r];simp
theorem JR(y:Aq)(w:List Bool)(c:List Int):∀(l:List (List Int)) (out:List Av),(FY y w c l out).length=out.length
 |[],_=>rfl
 |i::r,out=>by rw[FY,JR y w c r,G8]
theorem KI(l:Au)(d0:Int):∀(ws:List Bool) (d El r:Int),0≤d→(GB l d0 ws d El r).Bj=-1∨(d≤(GB l d0 ws d El r).Bj∧(GB l d0 ws d El r).Bj<d+ws.length)
 |[],d,El,r,_=>.inl rfl
 |true::ws,d,El,r,h=>by
  rw[GB];cases (El==l.AF) with
  |true=>right;simp;omega
  |false=>
   cases (r+1==l.Bi) with
   |true=>right;simp;omega
   |false=>
    rcases KI l d0 ws (d+1) El (r+1) (by omega) with a|a
    ·exact .inl a
    ·right;simp only[List.length_cons,cond_false];omega
 |false::ws,d,El,r,h=>by
  rw[GB];cases (El+1==l.AF) with
  |true=>right;simp;omega
  |false=>
   cases ((0:Int)==l.Bi) with
   |true=>right;simp;omega
   |false=>
    rcases KI l d0 ws (d+1) (El+1) 0 (by omega) with a|a
    ·exact .inl a
    ·right;simp only[List.length_cons,cond_false];omega
theorem Pj(y:Aq)(w:List Bool)(l:Au)(d:Int)(b:0≤d)(hw:(w.length:Int)=y.Ah+1):(DF y w l d).Bj=-1∨(d≤(DF y w l d).Bj∧(DF y w l d).Bj≤y.Ah):=by
 unfold DF
 by_cases h:y.Ah<d
 ·rw[if_pos h];exact .inl rfl
 ·rw[if_neg h];rcases KI l d (w.drop d.toNat) d 0 0 b with a|a
  ·exact .inl a
  ·right;rw[List.length_drop] at a;omega
theorem Rf{K:Nat}(y:Aq)(w:List Bool)(a:List (List Int×Av))(c l:List Int)(h0:0≤y.Ah)(h9:y.Ah≤9)(hw:(w.length:Int)=y.Ah+1)(hK:2000≤K)(x:∀i∈l,0≤i∧i<(y.Ac.length:Int))(aE:c.length=y.Ac.length)(aC:l.length≤1000):
  ∀(k m j:Nat) (free:Int) (out:List Av) (mm:List (List Int×Av)),l.length=j+k→k<m→0≤free→out.length=y.Ac.length→Gd y w mm→
  ∃b,Dt K (wk y w a) c l m free (j:Int) out mm=some (FX y w c (l.drop j) free out,b)∧Gd y w b:=by
 intro k
 induction k with
 |zero=>
  intro m j free out mm h hm z f g;cases m with
  |zero=>omega
  |succ m=>rw[Dt.eq_2,cf (df (by omega)),List.drop_eq_nil_of_le (by omega)];exact⟨mm,rfl,g⟩
 |succ k ih=>
  intro m j free out mm h hm z f g;cases m with
  |zero=>omega
  |succ m=>
   have n:j<l.length:=by omega
   obtain⟨d,p⟩:=x l[j] (List.getElem_mem n);obtain⟨i,hi⟩:=Int.eq_ofNat_of_zero_le d;have e:i<c.length:=by omega
   have q:i<out.length:=by omega
   have r:c[i]=C9 c l[j]:=by
    rw[hi];unfold C9;rw[Int.toNat_natCast,List.getD_eq_getElem?_getD,List.getElem?_eq_getElem e];rfl
   rw[Dt.eq_2,ct (dt (by omega)),DW n,List.drop_eq_getElem_cons n,FX];have s:idx c l[j]=some (C9 c l[j]):=by rw[←r];rw[hi];exact idx_eq e
   rw[bd s];obtain⟨b,aA,t⟩:=Sh (K:=K) y w mm l[j] (max free (C9 c l[j])) h9 hw d p (by omega) hK g;have u:E0 K (⟨(wk y w a).BA,(wk y w a).BO,(wk y w a).B5,(wk y w a).B6,(wk y w a).AW,(wk y w a).CU,mm⟩:Cl) (⟨l[j],max free (C9 c l[j])⟩:G5)=some (DF y w (EJ y l[j]) (max free (C9 c l[j])),b):=aA;have o:idx out l[j]=some out[i]:=by rw[hi];exact idx_eq q
   have aB:=Pj y w (EJ y l[j]) (max free (C9 c l[j])) (by omega) hw;have aD:-1≤(DF y w (EJ y l[j]) (max free (C9 c l[j]))).Bj∧(DF y w (EJ y l[j]) (max free (C9 c l[j]))).Bj≤9:=by omega
   rw[bd u,bd o];show∃v,(i64 ((DF y w (EJ y l[j]) (max free (C9 c l[j]))).Bj+1)).bind _=_∧_;rw[BG (by omega) (by omega)];show∃v,cond ((DF y w (EJ y l[j]) (max free (C9 c l[j]))).Bj==-1) ((i64 (y.Ah+1)).bind _) _=_∧_;cases aF:((DF y w (EJ y l[j]) (max free (C9 c l[j]))).Bj==-1) with
   |true=>
    rw[ct rfl,ct rfl,BG (by omega) (by omega),BG (by omega) (by omega),DQ];exact ih m (j+1) (y.Ah+1) _ b (by omega) (by omega) (by omega) (by rw[List.length_set];exact f) t
   |false=>
    rw[cf rfl,cf rfl,BG (by omega) (by omega),DQ];exact ih m (j+1) ((DF y w (EJ y l[j]) (max free (C9 c l[j]))).Bj+1) _ b (by omega) (by omega) (by omega) (by rw[List.length_set];exact f) t
theorem Rg{K:Nat}(y:Aq)(w:List Bool)(b:List (List Int×Av))(c:List Int)(order:List (List Int))(h0:0≤y.Ah)(h9:y.Ah≤9)(hw:(w.length:Int)=y.Ah+1)(hK:2000≤K)(p:∀l∈order,l.length≤1000∧∀i∈l,0≤i∧i<(y.Ac.length:Int))(q:c.length=y.Ac.length)(s:order.length≤1000):
  ∀(k m j:Nat) (out:List Av) (mm:List (List Int×Av)),order.length=j+k→k<m→out.length=y.Ac.length→Gd y w mm→
  ∃a,C6 K (wk y w b) order c m (j:Int) out mm=some (FY y w c (order.drop j) out,a)∧Gd y w a:=by
 intro k
 induction k with
 |zero=>
  intro m j out mm h hm d e;cases m with
  |zero=>omega
  |succ m=>rw[C6.eq_2,cf (df (by omega)),List.drop_eq_nil_of_le (by omega)];exact⟨mm,rfl,e⟩
 |succ k ih=>
  intro m j out mm h hm d e;cases m with
  |zero=>omega
  |succ m=>
   have f:j<order.length:=by omega
   obtain⟨g,n⟩:=p order[j] (List.getElem_mem f);obtain⟨a,o,r⟩:=Rf (K:=K) y w b c order[j] h0 h9 hw hK n q g order[j].length K 0 0 out mm (by omega) (by omega) (by omega) d e;rw[Int.natCast_zero,List.drop_zero] at o;rw[C6.eq_2,ct (dt (by omega)),DW f,List.drop_eq_getElem_cons f,FY,bd o,BG (by omega) (by omega),DQ];exact ih m (j+1) _ a (by omega) (by omega) (by rw[G8];exact d) r
theorem Pk{K:Nat}(y:Aq)(w:List Bool)(mm:List (List Int×Av))(c:List Int)(order:List (List Int))(h0:0≤y.Ah)(h9:y.Ah≤9)(k:y.Ac.length≤4)(hw:(w.length:Int)=y.Ah+1)(hK:2000≤K)(e:∀l∈order,l.length≤1000∧∀i∈l,0≤i∧i<(y.Ac.length:Int))(f:c.length=y.Ac.length)(b:order.length≤1000)(g:Gd y w mm):
  ∃a,CP K (wk y w mm) order c=some (FZ y w order c,a)∧Gd y w a:=by
 unfold CP;show∃a,(Ks (y.Ac.length:Int) 24).bind _=_∧_;rw[Pc (by omega) (by omega) (by omega)];obtain⟨a,d,h⟩:=Rg (K:=K) y w mm c order h0 h9 hw hK e f b order.length K 0 (List.replicate y.Ac.length Jh) mm (by omega) (by omega) (by rw[List.length_replicate]) g;rw[Int.natCast_zero,List.drop_zero] at d;have j:C6 K (wk y w mm) order c K (0:Int) (List.replicate ((wk y w mm).AW.length:Int).toNat (⟨0,0,false⟩:Av)) (wk y w mm).known=some (FY y w c order (List.replicate y.Ac.length Jh),a):=by
  show C6 K (wk y w mm) order c K (0:Int) (List.replicate (y.Ac.length:Int).toNat Jh) mm=_;rw[Int.toNat_natCast];exact d
 exact⟨a,bd j,h⟩
end Go.Proofs.Ytkljfdkmjdjpfaa
end
section
namespace Go.Proofs.Ytkljfdkmjdjpfaa
def iota(n:Nat):List Int:=(List.range n).map fun(i:Nat)=>(i:Int)
theorem GN(n:Nat):(iota n).length=n:=by simp[iota]
theorem ML(n i:Nat)(h:i<n):(iota n)[i]?=some (i:Int):=by simp[iota,h]
def CY(y:Aq)(o:List (List Int)):Bool:=((o.length:Int)==y.Ai)&&(C1 o.flatten==iota y.Ac.length)
theorem Si(o:List (List Int))(c:o.flatten.length≤100000):∀(k m i:Nat) (acc:List Int),o.length=i+k→k<m→o.length≤100000→acc++(o.drop i).flatten=o.flatten→
  Ds o m acc (i:Int)=some o.flatten:=by
 intro k
 induction k with
 |zero=>
  intro m i acc h hm b a;cases m with
  |zero=>omega
  |succ m=>
   rw[Ds.eq_2,cf (df (by omega))];rw[List.drop_eq_nil_of_le (by omega)] at a;rw[←a];simp
 |succ k ih=>
  intro m i acc h hm b a;cases m with
  |zero=>omega
  |succ m=>
   have hi:i<o.length:=by omega
   rw[List.drop_eq_getElem_cons hi,List.flatten_cons,←List.append_assoc] at a;have hlen:acc.length+o[i].length≤100000:=by
    have:=congrArg List.length a;rw[List.length_append,List.length_append] at this;omega
   rw[Ds.eq_2,ct (dt (by omega)),DW hi,GA (by omega),BG (by omega) (by omega),DQ];exact ih m (i+1) (acc++o[i]) (by omega) (by omega) b a
theorem Qs(y:Aq)(z:List Int)(l:y.Ac.length≤4):∀(k m i:Nat),y.Ac.length=i+k→k<m→(∀j,j<i→(C1 z).length=y.Ac.length∧(C1 z)[j]?=some (j:Int))→
  Dg y z m (i:Int)=some (cond ((C1 z==iota y.Ac.length)||decide (y.Ac.length=0)) (.inr ()) (.inl false)):=by
 intro k
 induction k with
 |zero=>
  intro m i h hm a;cases m with
  |zero=>omega
  |succ m=>
   rw[Dg.eq_2,cf (df (by omega))];have:((C1 z==iota y.Ac.length)||decide (y.Ac.length=0))=true:=by
    rw[Bool.or_eq_true];rcases Nat.eq_zero_or_pos i with h0|h0
    ·right;exact dt (by omega)
    ·left;rw[beq_iff_eq];have d:=(a 0 h0).1;apply List.ext_getElem?;intro j
     by_cases f:j<y.Ac.length
     ·rw[(a j (by omega)).2,ML _ _ f]
     ·rw[List.getElem?_eq_none (by omega),List.getElem?_eq_none (by rw[GN];omega)]
   rw[this];rfl
 |succ k ih=>
  intro m i h hm a;cases m with
  |zero=>omega
  |succ m=>
   rw[Dg.eq_2,ct (dt (by omega))];have c:decide (y.Ac.length=0)=false:=df (by omega)
   by_cases d:(C1 z).length=y.Ac.length
   ·rw[cf (by rw[d];simp)];have hi:i<(C1 z).length:=by omega
    rw[DW hi]
    by_cases b:(C1 z)[i]=(i:Int)
    ·rw[b,cf (by simp),BG (by omega) (by omega),DQ];refine ih m (i+1) (by omega) (by omega) fun j f=>?_
     by_cases g:j=i
     ·subst g;exact⟨d,by rw[List.getElem?_eq_getElem hi,b]⟩
     ·exact a j (by omega)
    ·rw[ct (by simpa using b)];have:((C1 z==iota y.Ac.length)||decide (y.Ac.length=0))=false:=by
      rw[c,Bool.or_false,beq_eq_false_iff_ne];intro e;have:(C1 z)[i]?=(iota y.Ac.length)[i]?:=by rw[e]
      rw[List.getElem?_eq_getElem hi,ML _ _ (by omega)] at this;exact b (Option.some.inj this)
     rw[this];rfl
   ·rw[ct (by simp;omega)];have:((C1 z==iota y.Ac.length)||decide (y.Ac.length=0))=false:=by
     rw[c,Bool.or_false,beq_eq_false_iff_ne];intro e;have:=congrArg List.length e;rw[GN] at this;omega
    rw[this];rfl
theorem JS{K:Nat}(y:Aq)(o:List (List Int))(f:y.Ac.length≤4)(hK:2000≤K)(k:o.length≤1000)(m:o.flatten.length≤1000):DU K y o=some (CY y o):=by
 unfold DU;have c:=Si o (by omega) o.length K 0 [] (by omega) (by omega) (by omega) (by simp);have d:=Qs y o.flatten f y.Ac.length K 0 (by omega) (by omega) fun j g=>absurd g (by omega);rw[Int.natCast_zero] at c d;rw[bd c,GA (by omega),bd d];unfold CY
 by_cases b:y.Ac.length=0
 ·rw[show((C1 o.flatten==iota y.Ac.length)||decide (y.Ac.length=0))=true by rw[Bool.or_eq_true];exact .inr (dt b)];show cond ((o.length:Int)==y.Ai) (some (((C1 o.flatten).length:Int)==(y.Ac.length:Int))) (some false)=_;have h:(((C1 o.flatten).length:Int)==(y.Ac.length:Int))=(C1 o.flatten==iota y.Ac.length):=by
   rw[b];cases e:C1 o.flatten with
   |nil=>rfl
   |cons a l=>
    have i:(((a::l).length:Int)==((0:Nat):Int))=false:=by simp;omega
    rw[i];rfl
  rw[h];cases ((o.length:Int)==y.Ai)<;>rfl
 ·rw[show decide (y.Ac.length=0)=false from df b,Bool.or_false];cases e:(C1 o.flatten==iota y.Ac.length) with
  |false=>show some false=_;rw[Bool.and_false]
  |true=>
   show cond ((o.length:Int)==y.Ai) (some (((C1 o.flatten).length:Int)==(y.Ac.length:Int))) (some false)=_;rw[eq_of_beq e,GN];cases ((o.length:Int)==y.Ai)<;>simp
theorem Fa{y:Aq}{o:List (List Int)}:CY y o=true↔(o.length:Int)=y.Ai∧o.flatten.Perm (iota y.Ac.length):=by
 unfold CY;rw[Bool.and_eq_true,beq_iff_eq,beq_iff_eq];refine and_congr_right fun _=>⟨fun h=>?_,fun h=>?_⟩
 ·rw[←h];exact(List.mergeSort_perm _ _).symm
 ·have d:(C1 o.flatten).Pairwise (fun a b:Int=>a≤b):=by
   have:=List.pairwise_mergeSort (le:=fun x y:Int=>decide (x≤y)) (fun a b c d e=>by simp at*;omega) (fun a b=>by simp;omega) o.flatten;exact this.imp fun h=>by simpa using h
  have e:(iota y.Ac.length).Pairwise (fun a b:Int=>a≤b):=by
   unfold iota;rw[List.pairwise_map];exact List.pairwise_lt_range.imp fun h=>by omega
  exact List.Perm.eq_of_pairwise (le:=fun a b:Int=>a≤b) (fun a b _ _ h f=>by omega) d e ((List.mergeSort_perm _ _).trans h)
theorem MM{n:Nat}{i:Int}:i∈iota n↔0≤i∧i<n:=by
 unfold iota;rw[List.mem_map];constructor
 ·rintro⟨k,a,rfl⟩;rw[List.mem_range] at a;omega
 ·rintro⟨h0,b⟩;exact⟨i.toNat,by rw[List.mem_range];omega,by omega⟩
theorem Lr{y:Aq}{o:List (List Int)}(h:CY y o=true):∀l∈o,l.length≤y.Ac.length∧∀i∈l,0≤i∧i<(y.Ac.length:Int):=by
 intro l a;have b:=(Fa.1 h).2;constructor
 ·have c:=b.length_eq;rw[GN] at c;have:=(List.sublist_flatten_of_mem a).length_le;omega
 ·intro i hi;exact MM.1 (b.mem_iff.1 (List.mem_flatten.2 ⟨l,a,hi⟩))
def DV:List Au→List Int→Bool
 |[],[]=>true
 |l::ls,c::cs=>Fw c l.An l.Ar&&DV ls cs
 |_,_=>false
def EK(y:Aq)(t:A6):Bool:=decide ((t.Ap.length:Int)=y.Ah+1)&&(G7 y t.Ap&&DV y.Ac t.Comes)
theorem G9:∀{ls:List Au} {cs:List Int},DV ls cs=true→cs.length=ls.length
 |[],[],_=>rfl
 |_::ls,_::cs,h=>by
  rw[DV,Bool.and_eq_true] at h;rw[List.length_cons,List.length_cons,G9 h.2]
 |[],_::_,h=>by cases h
 |_::_,[],h=>by cases h
theorem Pm(K:Nat)(y:Aq)(t:A6)(b:y.Ac.length≤4)(c:t.Comes.length=y.Ac.length):∀(k m i:Nat),y.Ac.length=i+k→k<m→
  Df K y t m (i:Int)=some (cond (DV (y.Ac.drop i) (t.Comes.drop i)) (.inr ()) (.inl false)):=by
 intro k
 induction k with
 |zero=>
  intro m i h hm;cases m with
  |zero=>omega
  |succ m=>rw[Df.eq_2,cf (df (by omega)),List.drop_eq_nil_of_le (by omega),List.drop_eq_nil_of_le (by omega)];rfl
 |succ k ih=>
  intro m i h hm;cases m with
  |zero=>omega
  |succ m=>
   have hi:i<y.Ac.length:=by omega
   have a:i<t.Comes.length:=by omega
   rw[Df.eq_2,ct (dt (by omega)),DW hi,DW a,bd (GW ..),List.drop_eq_getElem_cons hi,List.drop_eq_getElem_cons a,DV];cases d:Fw t.Comes[i] y.Ac[i].An y.Ac[i].Ar with
   |false=>rw[nf];rfl
   |true=>rw[nt,BG (by omega) (by omega),DQ,Bool.true_and];exact ih m (i+1) (by omega) (by omega)
theorem Pn{K:Nat}(y:Aq)(t:A6)(h0:0≤y.Ah)(h9:y.Ah≤9)(b:y.Ac.length≤4)(hK:2000≤K):EV K y t=some (EK y t):=by
 unfold EV EK
 by_cases a:t.Comes.length=y.Ac.length
 ·rw[cf (by rw[a];simp),BG (by omega) (by omega)]
  by_cases hw:(t.Ap.length:Int)=y.Ah+1
  ·rw[cf (by rw[hw];simp),bd (LZ y t.Ap (by omega) (by omega)),dt hw,Bool.true_and];show cond (!(G7 y t.Ap)) _ _=_;cases G7 y t.Ap with
   |false=>rw[nf];rfl
   |true=>
    have:=Pm K y t b a y.Ac.length K 0 (by omega) (by omega);rw[Int.natCast_zero,List.drop_zero,List.drop_zero] at this;rw[nt,bd this,Bool.true_and];cases DV y.Ac t.Comes<;>rfl
  ·rw[ct (by simpa using hw),df hw];rfl
 ·rw[ct (by simp;omega)];cases c:DV y.Ac t.Comes with
  |false=>rw[Bool.and_false,Bool.and_false]
  |true=>exact absurd (G9 c) a
theorem Ha{c:List Int}:∀{ls:List Au},c∈Ek ls↔DV ls c=true
 |[]=>by
  cases c with
  |nil=>simp[Ek,DV]
  |cons a l=>simp[Ek,DV]
 |l::r=>by
  rw[Ek,List.mem_flatMap];constructor
  ·rintro⟨n,b,e⟩;obtain⟨d,f,rfl⟩:=List.mem_map.1 e;rw[DV,Bool.and_eq_true];rw[List.mem_range] at b;unfold CM at b;exact⟨FE.2 (by omega),Ha.1 f⟩
  ·intro h;cases c with
   |nil=>simp[DV] at h
   |cons a d=>
    rw[DV,Bool.and_eq_true] at h;have g:=FE.1 h.1;refine⟨(a-l.An).toNat,?_,List.mem_map.2 ⟨d,Ha.2 h.2,?_⟩⟩
    ·rw[List.mem_range];unfold CM;omega
    ·congr 1;omega
def bitsOf:List Bool→Nat
 |[]=>0
 |b::l=>(cond b 1 0)+2*bitsOf l
theorem Kx:∀(l:List Bool) (d:Nat),(bitsOf l).testBit d=l.getD d false
 |[],d=>by simp[bitsOf]
 |b::l,0=>by rw[bitsOf,Nat.testBit_zero];cases b<;>simp<;>omega
 |b::l,d+1=>by
  rw[Nat.testBit_succ,bitsOf];have:((cond b 1 0)+2*bitsOf l)/2=bitsOf l:=by cases b<;>simp<;>omega
  rw[this,Kx l d];rfl
theorem L3:∀(l:List Bool),bitsOf l<2^l.length
 |[]=>by simp[bitsOf]
 |b::l=>by
  have:=L3 l;rw[bitsOf,List.length_cons,Nat.pow_succ];cases b<;>simp<;>omega
theorem Po(l:List Bool):wl l.length (bitsOf l)=l:=by
 apply List.ext_getElem?;intro i;unfold wl;rw[List.getElem?_map]
 by_cases h:i<l.length
 ·rw[List.getElem?_range h,List.getElem?_eq_getElem h];show some ((bitsOf l).testBit i)=_;rw[Kx,List.getD_eq_getElem?_getD,List.getElem?_eq_getElem h];rfl
 ·rw[List.getElem?_eq_none (by simp;omega),List.getElem?_eq_none (by omega)];rfl
theorem HE{y:Aq}{w:List Bool}:w∈CJ y↔w.length=days y∧G7 y w=true:=by
 unfold CJ;rw[List.mem_filter,List.mem_map];constructor
 ·rintro⟨⟨b,_,rfl⟩,h⟩;exact⟨Fm _ _,h⟩
 ·rintro⟨a,c⟩;exact⟨⟨bitsOf w,by rw[List.mem_range,←a];exact L3 w,by rw[←a];exact Po w⟩,c⟩
theorem Fo{y:Aq}(h0:0≤y.Ah){t:A6}:t∈BS y↔EK y t=true:=by
 unfold BS EK;rw[List.mem_flatMap,Bool.and_eq_true,Bool.and_eq_true,decide_eq_true_eq];constructor
 ·rintro⟨w,hw,d⟩;obtain⟨c,e,rfl⟩:=List.mem_map.1 d;obtain⟨b,a⟩:=HE.1 hw;unfold days at b;exact⟨by show(w.length:Int)=_;omega,a,Ha.1 e⟩
 ·rintro⟨b,a,f⟩;exact⟨t.Ap,HE.2 ⟨by unfold days;omega,a⟩,List.mem_map.2 ⟨t.Comes,Ha.2 f,rfl⟩⟩
theorem TE(a b:List Bool)(j:a.length≤1000)(g:a.length=b.length):∀(k m i:Nat),a.length=i+k→k<m→Dr a b m (i:Int)=some (cond (a.drop i==b.drop i) (.inr ()) (.inl false)):=by
 intro k
 induction k with
 |zero=>
  intro m i h hm;cases m with
  |zero=>omega
  |succ m=>rw[Dr.eq_2,cf (df (by omega)),List.drop_eq_nil_of_le (by omega),List.drop_eq_nil_of_le (by omega)];rfl
 |succ k ih=>
  intro m i h hm;cases m with
  |zero=>omega
  |succ m=>
   have c:i<a.length:=by omega
   have d:i<b.length:=by omega
   rw[Dr.eq_2,ct (dt (by omega)),DW c,DW d,List.drop_eq_getElem_cons c,List.drop_eq_getElem_cons d];cases f:(a[i] !=b[i]) with
   |true=>
    rw[ct rfl];have:(a[i]::a.drop (i+1)==b[i]::b.drop (i+1))=false:=by
     rw[List.cons_beq_cons];have:(a[i]==b[i])=false:=by simpa[bne] using f
     rw[this,Bool.false_and]
    rw[this];rfl
   |false=>
    have e:a[i]=b[i]:=by simpa[bne] using f
    rw[cf rfl,BG (by omega) (by omega),DQ,ih m (i+1) (by omega) (by omega),List.cons_beq_cons,e,beq_self_eq_true,Bool.true_and]
theorem TF{K:Nat}(a b:List Bool)(c:a.length≤1000)(hK:2000≤K):Eh K a b=some (a==b):=by
 unfold Eh
 by_cases h:a.length=b.length
 ·have:=TE a b c h a.length K 0 (by omega) (by omega);rw[Int.natCast_zero,List.drop_zero,List.drop_zero] at this;rw[cf (by rw[h];simp),bd this];cases (a==b)<;>rfl
 ·rw[ct (by simp;omega)];have:(a==b)=false:=by
   rw[beq_eq_false_iff_ne];intro e;exact h (by rw[e])
  rw[this]
structure DZ(y:Aq):Prop where
 h0:0≤y.Ah
 h9:y.Ah≤9
 r1:1≤y.Ai
 r2:y.Ai≤2
 n4:y.Ac.length≤4
 w0:0≤y.Ap
 w1:y.Ap≤y.Ah+1
 u0:0≤y.Ax
 u1:y.Ax≤y.Ah+1
 OJ:∀l∈y.Ac,FK y l=true
 many:HO y≤1000
theorem Fx{y:Aq}(h:check y=0):DZ y:=by
 unfold check at h;split at h
 ·cases h
 ·rename_i d
  split at h
  ·cases h
  ·rename_i b
   split at h
   ·cases h
   ·rename_i f
    rw[not_or,not_or] at d;rw[not_or,not_or,not_or,not_or] at b;have hw:Fw y.Ap 0 (y.Ah+1)=true:=by cases a:Fw y.Ap 0 (y.Ah+1) with|true=>rfl|false=>exact absurd a b.2.2.1
    have c:Fw y.Ax 0 (y.Ah+1)=true:=by cases a:Fw y.Ax 0 (y.Ah+1) with|true=>rfl|false=>exact absurd a b.2.2.2.1
    have e:y.Ac.all (FK y)=true:=by cases a:y.Ac.all (FK y) with|true=>rfl|false=>exact absurd a b.2.2.2.2
    rw[FE] at hw c;exact⟨by omega,by omega,by omega,by omega,by omega,hw.1,hw.2,c.1,c.2,List.all_eq_true.1 e,by omega⟩
theorem DZ.sz{y:Aq}(h:DZ y):∀l∈y.Ac,sized l∧0≤l.An∧l.Ar≤9:=fun l b=>by
 have a:=h.OJ l b;have:=GZ.1 a;have:=h.h9;exact⟨KH h.h9 a,by omega,by omega⟩
def TG(y:Aq):Option Cl→Prop
 |none=>True
 |some x=>∃w m,x=wk y w m∧(w.length:Int)=y.Ah+1∧Gd y w m
theorem Pp{σ:Type}{K:Nat}(cb:σ→A6×List Av→Option (Bool×σ))(y:Aq)(f:DZ y)(o:List (List Int))(v:CY y o=true)(hK:2000≤K):∀(d:List A6) (h:Option Cl) (s:σ),(∀t∈d,EK y t=true)→TG y h→
  (run (fun(st:(Option Cl)×σ×Bool) (x:A6)=>cond st.2.2 none (Dv cb K y o st.1 st.2.1 x)) d (h,s,false)).bind (fun g=>cond g.2.2.2 (some g.2.2.1) (some g.2.2.1))=(run (fun s t=>cb s (t,FZ y t.Ap o t.Comes)) d s).bind fun r=>some r.2
 |[],h,s,_,_=>rfl
 |t::d,h,s,aA,aH=>by
  have j:=aA t (List.mem_cons_self ..);have aB:∀x∈d,EK y x=true:=fun x aI=>aA x (List.mem_cons_of_mem _ aI);unfold EK at j;rw[Bool.and_eq_true,Bool.and_eq_true,decide_eq_true_eq] at j;obtain⟨hw,_,aJ⟩:=j;have aC:=G9 aJ;have q:=Lr v;have aD:o.length≤1000:=by have:=(Fa.1 v).1;have:=f.r2;omega
  have z:∀l∈o,l.length≤1000∧∀i∈l,0≤i∧i<(y.Ac.length:Int):=fun l aE=>⟨by have:=(q l aE).1;have:=f.n4;omega,(q l aE).2⟩;rw[run,run];show(Option.bind (Dv cb K y o h s t) _:Option _).bind _=_
  
  have key:∀(m:List (List Int×Av)),Gd y t.Ap m→∃c,Gd y t.Ap c∧CP K (wk y t.Ap m) o t.Comes=some (FZ y t.Ap o t.Comes,c):=fun m hm=>by
   obtain⟨c,aK,aL⟩:=Pk (K:=K) y t.Ap m t.Comes o f.h0 f.h9 f.n4 hw hK z aC aD hm;exact⟨c,aL,aK⟩
  have fin:∀(c:List (List Int×Av)),Gd y t.Ap c→
    (Option.bind ((cb s (t,FZ y t.Ap o t.Comes)).bind fun a=>cond (!a.1) (some (false,(some (wk y t.Ap c)),a.2,true)) (some (true,(some (wk y t.Ap c)),a.2,false))) fun r=>cond r.1 (run (fun(st:(Option Cl)×σ×Bool) (x:A6)=>cond st.2.2 none (Dv cb K y o st.1 st.2.1 x)) d r.2) (some (false,r.2))).bind (fun g=>cond g.2.2.2 (some g.2.2.1) (some g.2.2.1))=
    (Option.bind (cb s (t,FZ y t.Ap o t.Comes)) fun r=>cond r.1 (run (fun s t=>cb s (t,FZ y t.Ap o t.Comes)) d r.2) (some (false,r.2))).bind fun r=>some r.2:=fun c k=>by
   cases cb s (t,FZ y t.Ap o t.Comes) with
   |none=>rfl
   |some r=>
    obtain⟨b,s2⟩:=r;cases b with
    |false=>rfl
    |true=>exact Pp cb y f o v hK d (some (wk y t.Ap c)) s2 aB ⟨t.Ap,c,rfl,hw,k⟩
  unfold Dv;obtain⟨n,u,aM⟩:=key [] (MK _ _);have aP:=f.h9;have e:(FH (((0+t.Ap.length:Nat):Int)≤140737488355328/1)).bind (fun _=>(CP K (⟨y.Ah,y.Ai,y.Ap,y.Ax,y.Ac,t.Ap,[]⟩:Cl) o t.Comes).bind fun p=>(cb s (t,p.1)).bind fun a=>cond (!a.1) (some (false,(some (⟨y.Ah,y.Ai,y.Ap,y.Ax,y.Ac,t.Ap,p.2⟩:Cl)),a.2,true)) (some (true,(some (⟨y.Ah,y.Ai,y.Ap,y.Ax,y.Ac,t.Ap,p.2⟩:Cl)),a.2,false)))=
    (cb s (t,FZ y t.Ap o t.Comes)).bind fun a=>cond (!a.1) (some (false,(some (wk y t.Ap n)),a.2,true)) (some (true,(some (wk y t.Ap n)),a.2,false)):=by
   have aF:CP K (⟨y.Ah,y.Ai,y.Ap,y.Ax,y.Ac,t.Ap,[]⟩:Cl) o t.Comes=some (FZ y t.Ap o t.Comes,n):=aM;rw[GA (by omega),bd aF];rfl
  cases h with
  |none=>
   show(Option.bind ((FH _).bind _) _:Option _).bind _=_;rw[e];exact fin n u
  |some x=>
   obtain⟨w,m,rfl,aQ,aG⟩:=aH;show(Option.bind ((Eh K w t.Ap).bind _) _:Option _).bind _=_;rw[bd (TF w t.Ap (by omega) hK)];cases aN:(w==t.Ap) with
   |false=>
    rw[nf,e];exact fin n u
   |true=>
    obtain rfl:=eq_of_beq aN;obtain⟨c,k,aO⟩:=key m aG;rw[nt,bd aO];exact fin c k
theorem Pq{σ:Type}{K:Nat}(cb:σ→A6×List Av→Option (Bool×σ))(y:Aq)(a:DZ y)(o:List (List Int))(b:CY y o=true)(hK:2000≤K)(s:σ):
  E1 K cb y o s=(run (fun s t=>cb s (t,FZ y t.Ap o t.Comes)) (BS y) s).bind fun r=>some r.2:=by
 unfold E1;rw[Qr _ y a.h0 a.h9 a.n4 a.sz hK,Option.bind_assoc];exact Pp cb y a o b hK (BS y) none s (fun t c=>(Fo a.h0).1 c) trivial
end Go.Proofs.Ytkljfdkmjdjpfaa
end
section
namespace Go.Proofs.Ytkljfdkmjdjpfaa
def EL(l:Au)(s:Av):Bool:=s.AF&&decide (s.Bj≤l.Bl)
theorem Ls(K:Nat)(l:Au)(s:Av):C4 K l s=some (EL l s):=by unfold C4 EL;cases s.AF<;>rfl
theorem NP(K:Nat)(l:Au)(s:Av):DX K l s=some (!EL l s):=by unfold DX;rw[bd (Ls ..)]
def GJ (p:Au→Av→Bool):List Au→List Av→Nat
 |l::ls,s::ss=>(cond (p l s) 1 0)+GJ p ls ss
 |_,_=>0
def Cq(l:Au)(s:Av):Bool:= !EL l s
def DR(y:Aq)(ss:List Av):Nat:=GJ Cq y.Ac ss
theorem Lt(p:Au→Av→Bool):∀(ls:List Au) (ss:List Av),GJ p ls ss≤ls.length
 |l::ls,s::ss=>by
  have:=Lt p ls ss;rw[GJ,List.length_cons];cases p l s<;>simp<;>omega
 |[],_=>by simp[GJ]
 |_::_,[]=>by simp[GJ]
theorem Sj{K:Nat}(y:Aq)(ss:List Av)(d:y.Ac.length≤4)(e:ss.length=y.Ac.length):∀(k m i:Nat) (a:Int),ss.length=i+k→k<m→0≤a→a≤i→
  Du K y ss m a (i:Int)=some (a+(GJ Cq (y.Ac.drop i) (ss.drop i):Nat)):=by
 intro k
 induction k with
 |zero=>
  intro m i a h hm h0 c;cases m with
  |zero=>omega
  |succ m=>
   rw[Du.eq_2,cf (df (by omega)),List.drop_eq_nil_of_le («as»:=y.Ac) (by omega),GJ]
   ·simp
   ·intro _ _ _ _ h;cases h
 |succ k ih=>
  intro m i a h hm h0 c;cases m with
  |zero=>omega
  |succ m=>
   have hi:i<ss.length:=by omega
   have b:i<y.Ac.length:=by omega
   rw[Du.eq_2,ct (dt (by omega)),DW hi,DW b,bd (NP ..),List.drop_eq_getElem_cons hi,List.drop_eq_getElem_cons b,GJ];show cond (Cq y.Ac[i] ss[i]) _ _=_;cases f:Cq y.Ac[i] ss[i] with
   |true=>
    rw[ct rfl,BG (by omega) (by omega),BG (by omega) (by omega),DQ,ih m (i+1) (a+1) (by omega) (by omega) (by omega) (by omega)]
    congr 1
    show a+1+_=a+((1+GJ Cq _ _:Nat):Int);omega
   |false=>
    rw[cf rfl,BG (by omega) (by omega),DQ,ih m (i+1) a (by omega) (by omega) (by omega) (by omega)]
    congr 1
    show a+_=a+((0+GJ Cq _ _:Nat):Int);omega
theorem Pr{K:Nat}(y:Aq)(ss:List Av)(a:y.Ac.length≤4)(b:ss.length=y.Ac.length)(hK:2000≤K):Eu K y ss=some (DR y ss:Int):=by
 unfold Eu;have:=Sj (K:=K) y ss a b ss.length K 0 0 (by omega) (by omega) (by omega) (by omega);rw[Int.natCast_zero,List.drop_zero,List.drop_zero] at this;rw[bd this];simp[DR]
theorem Hb(y:Aq)(w:List Bool)(o:List (List Int))(c:List Int):(FZ y w o c).length=y.Ac.length:=by unfold FZ;rw[JR,List.length_replicate]
def Cf (y:Aq) (o:List (List Int)) (t:A6):List Av:=FZ y t.Ap o t.Comes
theorem Ps{K:Nat}(y:Aq)(o:List (List Int))(t:A6)(hK:2000≤K)(d:o.length≤1000)(g:o.flatten.length≤1000):
  FP K y o t=some (if check y≠0 then ([],check y) else if CY y o=false∨EK y t=false then ([],2) else (Cf y o t,0)):=by
 unfold FP;rw[bd (HU hK y)]
 by_cases h:check y=0
 ·rw[h,cf (by decide),if_neg (by simp)];have a:=Fx h;rw[bd (JS y o a.n4 hK d g)];cases i:CY y o with
  |false=>rw[nf,if_pos (.inl rfl)]
  |true=>
   rw[nt,bd (Pn y t a.h0 a.h9 a.n4 hK)];cases j:EK y t with
   |false=>rw[nf,if_pos (.inr rfl)]
   |true=>
    rw[nt,if_neg (by simp)];have b:=j;unfold EK at b;rw[Bool.and_eq_true,Bool.and_eq_true,decide_eq_true_eq] at b;have c:=Lr i;obtain⟨k,e,_⟩:=Pk (K:=K) y t.Ap [] t.Comes o a.h0 a.h9 a.n4 b.1 hK (fun l f=>⟨by have:=(c l f).1;have:=a.n4;omega,(c l f).2⟩) (G9 b.2.2) d (MK _ _);have m:CP K (⟨y.Ah,y.Ai,y.Ap,y.Ax,y.Ac,t.Ap,[]⟩:Cl) o t.Comes=some (FZ y t.Ap o t.Comes,k):=e;rw[bd m];rfl
 ·rw[ct (by simpa using h),if_pos h]
def HP (y:Aq) (o:List (List Int)):List A6→Int×A6→Int×A6
 |[],s=>s
 |t::a,s=>
  let s2:=if s.1<(DR y (Cf y o t):Int) then ((DR y (Cf y o t):Int),t) else s
  cond (decide (s2.1<(y.Ac.length:Int))) (HP y o a s2) s2
def CN(y:Aq)(o:List (List Int)):Int×A6:=HP y o (BS y) (-1,⟨[],[]⟩)
theorem MN{K:Nat}(y:Aq)(b:DZ y)(o:List (List Int))(hK:2000≤K):∀(a:List A6) (s:Int×A6),(∀t∈a,EK y t=true)→
  (run (fun(st:Int×A6) t=>(Ex K t (Cf y o t) y st.1 st.2).bind fun r=>some (r.1,(r.2.1,r.2.2))) a s).bind (fun r=>some r.2)=some (HP y o a s)
 |[],s,_=>rfl
 |t::a,s,d=>by
  have c:=d t (List.mem_cons_self ..);unfold EK at c;rw[Bool.and_eq_true,Bool.and_eq_true,decide_eq_true_eq] at c;have f:=G9 c.2.2;have g:=b.n4;have h9:=b.h9;rw[run,HP];unfold Ex;rw[bd (Pr y (Cf y o t) b.n4 (Hb ..) hK)]
  by_cases h:s.1<(DR y (Cf y o t):Int)
  ·rw[ct (dt h),GA (by omega),GA (by omega),if_pos h];show(cond (decide ((DR y (Cf y o t):Int)<(y.Ac.length:Int))) _ _:Option (Bool×Int×A6)).bind _=some (cond (decide ((DR y (Cf y o t):Int)<(y.Ac.length:Int))) _ _);cases decide ((DR y (Cf y o t):Int)<(y.Ac.length:Int)) with
   |false=>rfl
   |true=>exact MN y b o hK a _ fun x e=>d x (List.mem_cons_of_mem _ e)
  ·rw[cf (df h),if_neg h];show(cond (decide (s.1<(y.Ac.length:Int))) _ _:Option (Bool×Int×A6)).bind _=some (cond (decide (s.1<(y.Ac.length:Int))) _ _);cases decide (s.1<(y.Ac.length:Int)) with
   |false=>rfl
   |true=>exact MN y b o hK a s fun x e=>d x (List.mem_cons_of_mem _ e)
theorem Pt{K:Nat}(y:Aq)(a:DZ y)(o:List (List Int))(b:CY y o=true)(hK:2000≤K):E2 K y o=some (CN y o):=by
 unfold E2;rw[Pq _ y a o b hK];have:=MN y a o hK (BS y) (-1,⟨[],[]⟩) fun t c=>(Fo a.h0).1 c;exact Eq.trans (bd this) rfl
theorem Pu{K:Nat}(y:Aq)(o:List (List Int))(hK:2000≤K)(b:o.length≤1000)(c:o.flatten.length≤1000):
  FQ K y o=some (if check y≠0 then (0,⟨[],[]⟩,check y) else if CY y o=false then (0,⟨[],[]⟩,2) else ((CN y o).1,(CN y o).2,0)):=by
 unfold FQ;rw[bd (HU hK y)]
 by_cases h:check y=0
 ·rw[h,cf (by decide),if_neg (by simp)];have a:=Fx h;rw[bd (JS y o a.n4 hK b c)];cases d:CY y o with
  |false=>rw[nf,if_pos rfl]
  |true=>rw[nt,if_neg (by simp),bd (Pt y a o d hK)]
 ·rw[ct (by simpa using h),if_pos h]
theorem MO{K:Nat}(y:Aq)(o:List (List Int))(n:Int)(hK:2000≤K)(a:o.length≤1000)(b:o.flatten.length≤1000):
  EN K y o n=some (decide (check y=0)&&(CY y o&&decide ((CN y o).1≤n))):=by
 unfold EN;rw[bd (Pu y o hK a b)]
 by_cases h:check y=0
 ·rw[if_neg (by simp[h]),dt h];cases c:CY y o with
  |false=>rw[if_pos rfl];rfl
  |true=>rw[if_neg (by simp)];rfl
 ·rw[if_pos h,df h,cf (by simpa using h)];rfl
theorem Nx{K:Nat}(y:Aq)(o:List (List Int))(t:A6)(n:Int)(hK:2000≤K)(a:o.length≤1000)(b:o.flatten.length≤1000):
  E3 K y o t n=some (decide (check y=0)&&(CY y o&&(EK y t&&decide (n≤(DR y (Cf y o t):Int))))):=by
 unfold E3;rw[bd (Ps y o t hK a b)]
 by_cases h:check y=0
 ·rw[if_neg (by simp[h]),dt h];cases c:CY y o with
  |false=>rw[if_pos (.inl rfl)];rfl
  |true=>
   cases d:EK y t with
   |false=>rw[if_pos (.inr rfl)];rfl
   |true=>
    rw[if_neg (by simp)];show(Eu K y (Cf y o t)).bind _=_;rw[bd (Pr y (Cf y o t) (Fx h).n4 (Hb ..) hK)];rfl
 ·rw[if_pos h,df h,cf (by simpa using h)];rfl
def GK(p:Au→Av→Bool):List Au→List Av→List Int→List Int
 |l::ls,s::ss,a::as=>(cond (p l s) (a+1) a)::GK p ls ss as
 |_,_,as=>as
theorem QT(x:BD)(k:Nat)(v:Int)(h:k<4):(x.set k v).l=x.l.set k v:=by
 match k,h with
 |0,_=>rfl
 |1,_=>rfl
 |2,_=>rfl
 |3,_=>rfl
theorem KJ(p:Au→Av→Bool)(ss:List Av)(as:List Int):GK p [] ss as=as:=by cases as<;>rfl
theorem Rh{K:Nat}(p:Au→Av→Bool)(y:Aq)(ss:List Av)(q:y.Ac.length≤4)(r:ss.length=y.Ac.length):∀(k m i:Nat) (a:BD),ss.length=i+k→k<m→(∀x∈a.l.drop i,0≤x∧x≤100000)→
  ∃b:BD,Cx (fun(st:Unit) (x:Au×Av)=>some (p x.1 x.2,())) ss y m (i:Int) a.a0 a.a1 a.a2 a.a3 ()=some (b.a0,b.a1,b.a2,b.a3,())∧b.l=a.l.take i++GK p (y.Ac.drop i) (ss.drop i) (a.l.drop i):=by
 intro k
 induction k with
 |zero=>
  intro m i a h hm e;cases m with
  |zero=>omega
  |succ m=>
   rw[Cx.eq_2,cf (df (by omega)),List.drop_eq_nil_of_le («as»:=y.Ac) (by omega),KJ];exact⟨a,rfl,(List.take_append_drop ..).symm⟩
 |succ k ih=>
  intro m i a h hm e;cases m with
  |zero=>omega
  |succ m=>
   have hi:i<ss.length:=by omega
   have f:i<y.Ac.length:=by omega
   have c:i<a.l.length:=by show i<4;omega
   rw[Cx.eq_2,ct (dt (by omega)),DW hi,DW f,Option.bind_some,List.drop_eq_getElem_cons hi,List.drop_eq_getElem_cons f,List.drop_eq_getElem_cons c,GK];cases s:p y.Ac[i] ss[i] with
   |true=>
    have t:=e a.l[i] (by rw[List.drop_eq_getElem_cons c];exact List.mem_cons_self ..);have g:idx [a.a0,a.a1,a.a2,a.a3] (i:Int)=some a.l[i]:=idx_eq c;rw[ct rfl,bd g,BG (by omega) (by omega),bd g,BG (by omega) (by omega),DQ,Int.toNat_natCast];obtain⟨b,j,n⟩:=ih m (i+1) (a.set i (a.l[i]+1)) (by omega) (by omega) (fun x d=>by
     rw[QT _ _ _ (by omega),List.drop_set_of_lt (by omega)] at d;exact e x (by rw[List.drop_eq_getElem_cons c];exact List.mem_cons_of_mem _ d))
    refine⟨b,j,?_⟩;rw[n,QT _ _ _ (by omega),List.take_add_one,List.getElem?_set_self c,List.take_set_of_le (Nat.le_refl _),List.drop_set_of_lt (by omega)];simp
   |false=>
    rw[cf rfl,BG (by omega) (by omega),DQ];obtain⟨b,j,n⟩:=ih m (i+1) a (by omega) (by omega) fun x d=>e x (by rw[List.drop_eq_getElem_cons c];exact List.mem_cons_of_mem _ d);refine⟨b,j,?_⟩;have o:a.l.take (i+1)=a.l.take i++[a.l[i]]:=by rw[List.take_add_one,List.getElem?_eq_getElem c];rfl
    rw[n,o,List.append_assoc];rfl
theorem Qt{K:Nat}(p:Au→Av→Bool)(y:Aq)(t:A6)(ss:List Av)(e:y.Ac.length≤4)(f:ss.length=y.Ac.length)(hK:2000≤K)(n:Int)(a:BD)(h:0≤n∧n≤100000)(g:∀x∈a.l,0≤x∧x≤100000):
  ∃b:BD,CS K (fun(st:Unit) (x:Au×Av)=>some (p x.1 x.2,())) t ss n y a ()=some (true,n+1,b,())∧b.l=GK p y.Ac ss a.l:=by
 unfold CS;obtain⟨b,c,d⟩:=Rh (K:=K) p y ss e f ss.length K 0 a (by omega) (by omega) (by rw[List.drop_zero];exact g);rw[Int.natCast_zero] at c;rw[List.take_zero,List.drop_zero,List.drop_zero,List.drop_zero,List.nil_append] at d;rw[BG (by omega) (by omega),bd c];exact⟨b,rfl,d⟩
theorem NQ(p:Au→Av→Bool)(B:Int):∀(ls:List Au) (ss:List Av) (as:List Int),(∀x∈as,0≤x∧x≤B)→∀x∈GK p ls ss as,0≤x∧x≤B+1
 |l::ls,s::ss,a::as,h,x,b=>by
  rw[GK] at b;rcases List.mem_cons.1 b with rfl|b
  ·have:=h a (List.mem_cons_self ..);cases p l s<;>simp<;>omega
  ·exact NQ p B ls ss as (fun z c=>h z (List.mem_cons_of_mem _ c)) x b
 |[],_,as,h,x,b=>by
  rw[KJ] at b;have:=h x b;omega
 |l::ls,[],as,h,x,b=>by
  have e:GK p (l::ls) [] as=as:=by cases as<;>rfl
  rw[e] at b;have:=h x b;omega
 |l::ls,s::ss,[],h,x,b=>by
  have e:GK p (l::ls) (s::ss) []=[]:=rfl;rw[e] at b;cases b
def Lu (p:Au→Av→Bool) (y:Aq) (o:List (List Int)):List A6→List Int→List Int
 |[],a=>a
 |t::b,a=>Lu p y o b (GK p y.Ac (Cf y o t) a)
theorem MP{K:Nat}(p:Au→Av→Bool)(y:Aq)(d:DZ y)(o:List (List Int))(hK:2000≤K):∀(c:List A6) (n:Int) (a:BD) (B:Int),0≤n→n+c.length≤100000→B+c.length≤100000→(∀x∈a.l,0≤x∧x≤B)→
  ∃b:BD,run (fun(st:Int×BD×Unit) t=>(CS K (fun(st:Unit) (x:Au×Av)=>some (p x.1 x.2,())) t (Cf y o t) st.1 y st.2.1 st.2.2).bind fun r=>some (r.1,(r.2.1,r.2.2.1,r.2.2.2))) c (n,a,())=some (true,n+c.length,b,())∧b.l=Lu p y o c a.l
 |[],n,a,B,_,_,_,_=>⟨a,by simp[run],rfl⟩
 |t::c,n,a,B,h0,g,h,e=>by
  rw[List.length_cons] at g h;obtain⟨b,i,f⟩:=Qt (K:=K) p y t (Cf y o t) d.n4 (Hb ..) hK n a (by omega) (fun x j=>by have:=e x j;omega);obtain⟨k,m,q⟩:=MP p y d o hK c (n+1) b (B+1) (by omega) (by omega) (by omega) (by rw[f];exact NQ p B _ _ _ e);refine⟨k,?_,by rw[q,f];rfl⟩;rw[run];show Option.bind ((CS K _ t (Cf y o t) n y a ()).bind _) _=_;rw[bd i];show run _ c (n+1,b,())=_;rw[m,List.length_cons]
  congr 3;omega
theorem Lv(y:Aq)(b:DZ y):((BS y).length:Int)=HO y:=by
 have d:∀ls:List Au,(∀l∈ls,sized l)→((Ek ls).length:Int)=Fj ls:=by
  intro ls
  induction ls with
  |nil=>intro _;rfl
  |cons l r ih=>
   intro h;have a:=(h l (List.mem_cons_self ..)).1;rw[Ek,Fj,List.length_flatMap,←ih fun x e=>h x (List.mem_cons_of_mem _ e)];have:((List.range (CM l).toNat).map fun(n:Nat)=>((Ek r).map fun c=>(l.An+(n:Int))::c).length)=List.replicate (CM l).toNat (Ek r).length:=by
    apply List.ext_getElem
    ·simp
    ·intro i a f;simp
   rw[this,List.sum_replicate_nat,Int.natCast_mul]
   congr 1;omega
 unfold BS HO;rw[List.length_flatMap,←d y.Ac fun l g=>(b.sz l g).1];have:((CJ y).map fun w=>((Ek y.Ac).map fun c=>(⟨c,w⟩:A6)).length)=List.replicate (CJ y).length (Ek y.Ac).length:=by
  apply List.ext_getElem
  ·simp
  ·intro i a f;simp
 rw[this,List.sum_replicate_nat,Int.natCast_mul]
def B9 (p:Au→Av→Bool) (y:Aq) (o:List (List Int)):List Int:=Lu p y o (BS y) [0,0,0,0]
theorem Lw{K:Nat}(p:Au→Av→Bool)(y:Aq)(a:DZ y)(o:List (List Int))(c:CY y o=true)(hK:2000≤K):
  ∃b:BD,Cn K (fun(st:Unit) (x:Au×Av)=>some (p x.1 x.2,())) y o ()=some (b,((BS y).length:Int),())∧b.l=B9 p y o:=by
 unfold Cn;rw[Pq _ y a o c hK];have g:=Lv y a;have:=a.many;obtain⟨b,d,e⟩:=MP (K:=K) p y a o hK (BS y) 0 ⟨0,0,0,0⟩ 0 (by omega) (by omega) (by omega) (by intro x f;simp[BD.l] at f;omega);refine⟨b,?_,e⟩;refine Eq.trans (congrArg (fun z=>Option.bind (Option.bind z _) _) d) ?_;rw[Int.zero_add];rfl
end Go.Proofs.Ytkljfdkmjdjpfaa
end
section
namespace Go.Proofs.Ytkljfdkmjdjpfaa
def CF(y:Aq)(i:Nat):Au:=y.Ac.getD i GX
def Ip(y:Aq)(o:List (List Int))(t:A6)(i:Nat):Av:=(Cf y o t).getD i Jh
def Gw (y:Aq) (o:List (List Int)) (i:Nat) (t:A6):Bool:=EL (CF y i) (Ip y o t i)
theorem MQ(p:Au→Av→Bool):∀(ls:List Au) (ss:List Av) (as:List Int) (i:Nat),i<ls.length→i<ss.length→i<as.length→
  (GK p ls ss as).getD i 0=as.getD i 0+(cond (p (ls.getD i GX) (ss.getD i Jh)) 1 0)
 |l::ls,s::ss,a::as,0,_,_,_=>by
  rw[GK];show cond (p l s) (a+1) a=a+cond (p l s) 1 0;cases p l s<;>simp
 |l::ls,s::ss,a::as,i+1,b,c,d=>by
  rw[GK];exact MQ p ls ss as i (by simpa using b) (by simpa using c) (by simpa using d)
theorem Ky(p:Au→Av→Bool):∀(ls:List Au) (ss:List Av) (as:List Int),(GK p ls ss as).length=as.length
 |l::ls,s::ss,a::as=>by rw[GK,List.length_cons,Ky p ls ss as,List.length_cons]
 |[],ss,as=>by rw[KJ]
 |l::ls,[],as=>by
  have e:GK p (l::ls) [] as=as:=by cases as<;>rfl
  rw[e]
 |l::ls,s::ss,[]=>rfl
theorem MR(p:Au→Av→Bool)(y:Aq)(o:List (List Int))(i:Nat)(hi:i<y.Ac.length):∀(a:List A6) (as:List Int),i<as.length→
  (Lu p y o a as).getD i 0=as.getD i 0+(a.countP (fun t=>p (CF y i) (Ip y o t i)):Nat)
 |[],as,_=>by simp[Lu]
 |t::a,as,h=>by
  rw[Lu,MR p y o i hi a _ (by rw[Ky];exact h),MQ p _ _ _ i hi (by rw[Cf,Hb];exact hi) h,List.countP_cons];unfold CF Ip;cases p (y.Ac.getD i GX) ((Cf y o t).getD i Jh)<;>simp<;>omega
theorem Ji(p:Au→Av→Bool)(y:Aq)(a:DZ y)(o:List (List Int))(i:Nat)(hi:i<y.Ac.length):(B9 p y o).getD i 0=((BS y).countP (fun t=>p (CF y i) (Ip y o t i)):Nat):=by
 unfold B9;have b:=a.n4;rw[MR p y o i hi _ _ (by show i<4;omega)];have:([0,0,0,0]:List Int).getD i 0=0:=by
  match i,(show i<4 by omega) with
  |0,_=>rfl
  |1,_=>rfl
  |2,_=>rfl
  |3,_=>rfl
 rw[this,Int.zero_add]
theorem Mg(b:BD)(i:Nat)(h:i<4):idx [b.a0,b.a1,b.a2,b.a3] (i:Int)=some (b.l.getD i 0):=by
 have:i<[b.a0,b.a1,b.a2,b.a3].length:=h;rw[idx_eq this];show some b.l[i]=_;rw[List.getD_eq_getElem?_getD,List.getElem?_eq_getElem (show i<b.l.length from h)];rfl
def verdict (y:Aq) (o:List (List Int)) (i:Nat):Int:=cond ((BS y).all (Gw y o i)) 1 (cond ((BS y).all fun t=> !Gw y o i t) 2 3)
theorem L4{α:Type}(p:α→Bool)(l:List α):((((l.countP p:Nat):Int)==(l.length:Int)))=l.all p:=by
 rw[Bool.eq_iff_iff,beq_iff_eq,List.all_eq_true,Int.ofNat_inj,List.countP_eq_length]
theorem K3{α:Type}(p:α→Bool)(l:List α):((((l.countP p:Nat):Int)==0))=l.all fun t=> !p t:=by
 rw[Bool.eq_iff_iff,beq_iff_eq,List.all_eq_true,show(0:Int)=((0:Nat):Int) from rfl,Int.ofNat_inj,List.countP_eq_zero];simp
theorem Ri{K:Nat}(y:Aq)(o:List (List Int))(n:Int)(hK:2000≤K)(e:o.length≤1000)(f:o.flatten.length≤1000):
  EI K y o n=some (if check y≠0 then (0,check y) else if CY y o=false∨Fw n 0 ((y.Ac.length:Int)-1)=false then (0,2) else (verdict y o n.toNat,0)):=by
 unfold EI;rw[bd (HU hK y)]
 by_cases h:check y=0
 ·rw[h,cf (by decide),if_neg (by simp)];have a:=Fx h;have m:=a.n4;rw[bd (JS y o a.n4 hK e f)];cases g:CY y o with
  |false=>rw[nf,if_pos (.inl rfl)]
  |true=>
   have j:Fi K y n=some (Fw n 0 ((y.Ac.length:Int)-1)):=by
    unfold Fi;rw[BG (by omega) (by omega),bd (GW ..)]
   rw[nt,bd j];cases c:Fw n 0 ((y.Ac.length:Int)-1) with
   |false=>rw[nf,if_pos (.inr rfl)]
   |true=>
    rw[nt,if_neg (by simp)];rw[FE] at c;obtain⟨i,rfl⟩:=Int.eq_ofNat_of_zero_le c.1;have hi:i<y.Ac.length:=by omega
    obtain⟨b,k,l⟩:=Lw (K:=K) EL y a o g hK;have d:Cn K (fun(st:Unit) (x:Au×Av)=>(C4 K x.1 x.2).bind fun r=>some (r,())) y o ()=some (b,((BS y).length:Int),()):=by
     rw[←k];congr 1;funext st x;rw[bd (Ls ..)]
    rw[bd d,bd (Mg b i (by omega)),l,Ji EL y a o i hi,Int.toNat_natCast];unfold verdict;show cond ((((BS y).countP (Gw y o i):Nat):Int)==((BS y).length:Int)) _ (cond ((((BS y).countP (Gw y o i):Nat):Int)==0) _ _)=_;rw[L4,K3];cases (BS y).all (Gw y o i)<;>cases (BS y).all (fun t=> !Gw y o i t)<;>rfl
 ·rw[ct (by simpa using h),if_pos h]
theorem Jj(y:Aq)(o:List (List Int)):∀(a:List A6) (s:Int×A6),s.1<(y.Ac.length:Int)∨a=[]→
  (∀t∈a,(DR y (Cf y o t):Int)≤(HP y o a s).1)∧s.1≤(HP y o a s).1∧((HP y o a s)=s∨∃t∈a,(HP y o a s)=((DR y (Cf y o t):Int),t))
 |[],s,_=>⟨fun t j=>(by cases j),Int.le_refl _,.inl rfl⟩
 |t::a,s,h=>by
  have g:s.1<(y.Ac.length:Int):=by
   rcases h with h|h
   ·exact h
   ·cases h
  have hle:∀x,(DR y (Cf y o x):Int)≤(y.Ac.length:Int):=fun x=>by
   have:=Lt Cq y.Ac (Cf y o x);unfold DR;omega
  rw[HP]
  by_cases i:s.1<(DR y (Cf y o t):Int)
  ·rw[if_pos i];show(∀x∈t::a,_≤(cond (decide ((DR y (Cf y o t):Int)<(y.Ac.length:Int))) _ _:Int×A6).1)∧_
   by_cases e:(DR y (Cf y o t):Int)<(y.Ac.length:Int)
   ·rw[ct (dt e)];obtain⟨f,d,b⟩:=Jj y o a ((DR y (Cf y o t):Int),t) (.inl e);refine⟨fun x c=>?_,by have k:(DR y (Cf y o t):Int)≤_:=d;omega,.inr ?_⟩
    ·rcases List.mem_cons.1 c with rfl|c
     ·exact d
     ·exact f x c
    ·rcases b with b|⟨x,c,b⟩
     ·exact⟨t,List.mem_cons_self ..,b⟩
     ·exact⟨x,List.mem_cons_of_mem _ c,b⟩
   ·rw[cf (df e)];exact⟨fun x _=>Int.le_trans (hle x) (by show(y.Ac.length:Int)≤(DR y (Cf y o t):Int);omega),by show s.1≤(DR y (Cf y o t):Int);omega,.inr ⟨t,List.mem_cons_self ..,rfl⟩⟩
  ·rw[if_neg i];show(∀x∈t::a,_≤(cond (decide (s.1<(y.Ac.length:Int))) _ _:Int×A6).1)∧_;rw[ct (dt g)];obtain⟨f,d,b⟩:=Jj y o a s (.inl g);refine⟨fun x c=>?_,d,?_⟩
   ·rcases List.mem_cons.1 c with rfl|c
    ·omega
    ·exact f x c
   ·rcases b with b|⟨x,c,b⟩
    ·exact .inl b
    ·exact .inr ⟨x,List.mem_cons_of_mem _ c,b⟩
theorem OK{y:Aq}(f:DZ y):BS y≠[]:=by
 have g:wl (days y) 0∈CJ y:=by
  refine HE.2 ⟨Fm _ _,?_⟩;have key:∀(l:List Bool) (s r:Int),(∀b∈l,b=false)→okW y.Ap y.Ax l s r=true:=by
   intro l
   induction l with
   |nil=>intros;rfl
   |cons b l ih=>
    intro s r h;have a:=h b (List.mem_cons_self ..);subst a;rw[okW];exact ih s 0 fun x c=>h x (List.mem_cons_of_mem _ c)
  refine key _ 0 0 fun b a=>?_;unfold wl at a;obtain⟨d,_,rfl⟩:=List.mem_map.1 a;exact Nat.zero_testBit d
 have i:DV y.Ac (y.Ac.map (·.An))=true:=by
  have key:∀ls:List Au,(∀l∈ls,sized l)→DV ls (ls.map (·.An))=true:=by
   intro ls
   induction ls with
   |nil=>intro _;rfl
   |cons l r ih=>
    intro h;have:=(h l (List.mem_cons_self ..)).1;rw[List.map_cons,DV,Bool.and_eq_true];exact⟨FE.2 (by unfold CM at this;omega),ih fun x c=>h x (List.mem_cons_of_mem _ c)⟩
  exact key _ fun l j=>(f.sz l j).1
 intro e;have:(⟨y.Ac.map (·.An),wl (days y) 0⟩:A6)∈BS y:=by
  unfold BS;exact List.mem_flatMap.2 ⟨_,g,List.mem_map.2 ⟨_,Ha.2 i,rfl⟩⟩
 rw[e] at this;cases this
theorem HQ {y:Aq} (c:DZ y) (o:List (List Int)):(∀t,EK y t=true→(DR y (Cf y o t):Int)≤(CN y o).1)∧EK y (CN y o).2=true∧(CN y o).1=(DR y (Cf y o (CN y o).2):Int):=by
 obtain⟨d,e,a⟩:=Jj y o (BS y) (-1,⟨[],[]⟩) (.inl (by show(-1:Int)<_;omega));refine⟨fun t b=>d t ((Fo c.h0).2 b),?_⟩;rcases a with a|⟨t,b,a⟩
 ·exfalso;obtain⟨t,b⟩:=List.exists_mem_of_ne_nil _ (OK c);have:=d t b;rw[a] at this;have f:(DR y (Cf y o t):Int)≤-1:=this;omega
 ·unfold CN;rw[a];exact⟨(Fo c.h0).1 b,rfl⟩
end Go.Proofs.Ytkljfdkmjdjpfaa
end
section
namespace Go.Proofs.Ytkljfdkmjdjpfaa
def D6:Nat→Nat→List (List Int)→List (List (List Int))
 |0,_,o=>[o]
 |k+1,i,o=>(List.range o.length).flatMap fun r=>(List.range ((o.getD r []).length+1)).flatMap fun(a:Nat)=>D6 k (i+1) (o.set r (CI (o.getD r []) (a:Int) (i:Int)))
def FF(y:Aq):List (List (List Int)):=D6 y.Ac.length 0 (List.replicate y.Ai.toNat [])
section
variable{σ:Type}{K:Nat}(cb:σ→List (List Int)→Option (Bool×σ))(y:Aq)
def Or(n k i:Nat):Prop:=∀(o:List (List Int)) (st:σ),(∀l∈o,l.length≤i)→o.length≤1000→
 (Bq K cb k (i:Int) y o st).map (fun z=>(z.1,z.2.2))=run cb (D6 n i o) st∧
 ∀z,Bq K cb k (i:Int) y o st=some z→z.1=true→z.2.1=o
theorem MS{l:List (List Int)}{r:Nat}(h:r<l.length):l.set r (l.getD r [])=l:=by
 rw[List.getD_eq_getElem?_getD,List.getElem?_eq_getElem h];exact List.set_getElem_self h
theorem Pv(n k i r:Nat)(hi:i≤10)(o:List (List Int))(s:r<o.length)(v:o.length≤1000)(hlen:∀l∈o,l.length≤i)(ih:Or (K:=K) cb y n k (i+1)):
  ∀(c m a:Nat) (q:List (List Int)) (st:σ),(o.getD r []).length+1=a+c→c<m→q.length=o.length→q.set r (o.getD r [])=o→
  (B7 (Bq K cb k) (i:Int) y (r:Int) (o.getD r []) m (a:Int) q st).map Qp=run cb ((List.range' a c).flatMap fun(a:Nat)=>D6 n (i+1) (o.set r (CI (o.getD r []) (a:Int) (i:Int)))) st∧
  ∀z,B7 (Bq K cb k) (i:Int) y (r:Int) (o.getD r []) m (a:Int) q st=some z→(∀x,z=.inl x→x.1=false)∧(∀x,z=.inr x→x.1.length=o.length∧x.1.set r (o.getD r [])=o):=by
 have aH:(o.getD r []).length≤i:=by
  rw[List.getD_eq_getElem?_getD,List.getElem?_eq_getElem s];exact hlen _ (List.getElem_mem s)
 intro c
 induction c with
 |zero=>
  intro m a q st h hm w f;cases m with
  |zero=>omega
  |succ m=>
   rw[B7.eq_2,cf (df (by omega))];exact⟨rfl,fun z g=>by cases g;exact⟨fun x e=>(by cases e),fun x e=>by cases e;exact⟨w,f⟩⟩⟩
 |succ c aA=>
  intro m a q st h hm w f;cases m with
  |zero=>omega
  |succ m=>
   have aB:r<q.length:=by omega
   have t:q.set r (CI (o.getD r []) (a:Int) (i:Int))=o.set r (CI (o.getD r []) (a:Int) (i:Int)):=by
    have h:(q.set r (o.getD r [])).set r (CI (o.getD r []) (a:Int) (i:Int))=o.set r (CI (o.getD r []) (a:Int) (i:Int)):=by rw[f]
    rw[List.set_set] at h;exact h
   rw[B7.eq_2,ct (dt (by omega)),GA (by omega),GA (by omega),DW aB,BG (by omega) (by omega),DQ i,Int.toNat_natCast,t];obtain⟨aD,aE⟩:=ih (o.set r (CI (o.getD r []) (a:Int) (i:Int))) st (fun l aF=>by
    rcases List.mem_or_eq_of_mem_set aF with u|u
    ·have:=hlen l u;omega
    ·rw[u,Kw];omega) (by rw[List.length_set];exact v)
   rw[List.range'_succ,List.flatMap_cons,G6,←aD];cases aG:Bq K cb k ((i+1:Nat):Int) y (o.set r (CI (o.getD r []) (a:Int) (i:Int))) st with
   |none=>exact⟨rfl,fun z g=>by cases g⟩
   |some z0=>
    obtain⟨b,j,s2⟩:=z0;cases b with
    |false=>
     refine⟨rfl,fun z g=>?_⟩;have aC:some (Sum.inl (false,j,s2))=some z:=g;cases aC;exact⟨fun x e=>by cases e;rfl,fun x e=>by cases e⟩
    |true=>
     have p:j=o.set r (CI (o.getD r []) (a:Int) (i:Int)):=aE _ aG rfl;have key:(Option.bind (some (true,j,s2)) fun d=>cond (!d.1) (some (Sum.inl (false,d.2.1,d.2.2))) ((i64 ((a:Int)+1)).bind fun _=>B7 (Bq K cb k) (i:Int) y (r:Int) (o.getD r []) m ((a:Int)+1) d.2.1 d.2.2))=B7 (Bq K cb k) (i:Int) y (r:Int) (o.getD r []) m ((a+1:Nat):Int) j s2:=by
      rw[Option.bind_some,nt,BG (by omega) (by omega),DQ a]
     rw[key];exact aA m (a+1) j s2 (by omega) (by omega) (by rw[p,List.length_set]) (by rw[p,List.set_set];exact MS s)
theorem Pw(n k i:Nat)(hi:i≤10)(hK:2000≤K)(o:List (List Int))(p:o.length≤1000)(hlen:∀l∈o,l.length≤i)(ih:Or (K:=K) cb y n k (i+1)):
  ∀(c m r:Nat) (st:σ),o.length=r+c→c<m→
  (B2 (Bq K cb k) K (i:Int) y o m (r:Int) o st).map Qp=run cb ((List.range' r c).flatMap fun r=>(List.range ((o.getD r []).length+1)).flatMap fun(a:Nat)=>D6 n (i+1) (o.set r (CI (o.getD r []) (a:Int) (i:Int)))) st∧
  ∀z,B2 (Bq K cb k) K (i:Int) y o m (r:Int) o st=some z→(∀x,z=.inl x→x.1=false)∧(∀x,z=.inr x→x.1=o):=by
 intro c
 induction c with
 |zero=>
  intro m r st h hm;cases m with
  |zero=>omega
  |succ m=>
   rw[B2.eq_2,cf (df (by omega))];exact⟨rfl,fun z j=>by cases j;exact⟨fun x f=>(by cases f),fun x f=>by cases f;rfl⟩⟩
 |succ c q=>
  intro m r st h hm;cases m with
  |zero=>omega
  |succ m=>
   have g:r<o.length:=by omega
   have aF:(o.getD r []).length≤i:=by
    rw[List.getD_eq_getElem?_getD,List.getElem?_eq_getElem g];exact hlen _ (List.getElem_mem g)
   have s:o[r]=o.getD r []:=by rw[List.getD_eq_getElem?_getD,List.getElem?_eq_getElem g];rfl
   rw[B2.eq_2,ct (dt (by omega)),DW g,s,BG (by omega) (by omega)];obtain⟨t,u⟩:=Pv cb y n k i r hi o g p hlen ih ((o.getD r []).length+1) K 0 o st (by omega) (by omega) rfl (MS g);rw[Int.natCast_zero] at t u;rw[List.range'_succ,List.flatMap_cons,G6,List.range_eq_range',←t];cases aA:B7 (Bq K cb k) (i:Int) y (r:Int) (o.getD r []) K 0 o st with
   |none=>exact⟨rfl,fun z j=>by cases j⟩
   |some z0=>
    obtain⟨aB,aC⟩:=u _ aA;cases z0 with
    |inl x=>
     obtain⟨b,e,s2⟩:=x;obtain rfl:b=false:=aB _ rfl;refine⟨rfl,fun z j=>?_⟩;have v:some (Sum.inl (false,e,s2))=some z:=j;cases v;exact⟨fun x f=>by cases f;rfl,fun x f=>by cases f⟩
    |inr x=>
     obtain⟨e,s2⟩:=x;obtain⟨aD,aE⟩:=aC _ rfl;have aG:e.length=o.length:=aD;have w:e.set r (o.getD r [])=o:=aE;have key:(Option.bind (some (Sum.inr (e,s2):(Bool×List (List Int)×σ)⊕(List (List Int)×σ))) fun z=>Sum.elim (fun d=>some (Sum.inl (d.1,d.2.1,d.2.2))) (fun d=>(idx d.1 (r:Int)).bind fun _=>(i64 ((r:Int)+1)).bind fun _=>B2 (Bq K cb k) K (i:Int) y o m ((r:Int)+1) (d.1.set (r:Int).toNat (o.getD r [])) d.2) z)=B2 (Bq K cb k) K (i:Int) y o m ((r+1:Nat):Int) o s2:=by
      rw[Option.bind_some];show(idx e (r:Int)).bind _=_;rw[DW (show r<e.length by omega),BG (by omega) (by omega),DQ r];show B2 _ K _ y o m _ (e.set (r:Int).toNat (o.getD r [])) s2=_;rw[Int.toNat_natCast,w]
     rw[key];exact q m (r+1) s2 (by omega) (by omega)
theorem Px(t:y.Ac.length≤4)(hK:2000≤K):∀(n k i:Nat),y.Ac.length=i+n→n<k→Or (K:=K) cb y n k i:=by
 intro n
 induction n with
 |zero=>
  intro k i h l o st hlen e;cases k with
  |zero=>omega
  |succ k=>
   rw[Bq.eq_2,ct (by rw[h];simp)];rw[D6,run];cases cb st o with
   |none=>exact⟨rfl,fun z a=>by cases a⟩
   |some r=>
    obtain⟨b,s⟩:=r;refine⟨by cases b<;>rfl,fun z a _=>?_⟩;have c:some (b,o,s)=some z:=a;cases c;rfl
 |succ n ih=>
  intro k i h l o st hlen e;cases k with
  |zero=>omega
  |succ k=>
   rw[Bq.eq_2,cf (by simp;omega)];obtain⟨f,g⟩:=Pw cb y n k i (by omega) hK o e hlen (ih k (i+1) (by omega) (by omega)) o.length K 0 st (by omega) (by omega);rw[Int.natCast_zero] at f g;rw[D6,List.range_eq_range',←f];cases m:B2 (Bq K cb k) K (i:Int) y o K 0 o st with
   |none=>exact⟨rfl,fun z a=>by cases a⟩
   |some z0=>
    obtain⟨p,q⟩:=g _ m;cases z0 with
    |inl x=>
     obtain⟨b,d,s2⟩:=x;obtain rfl:b=false:=p _ rfl;refine⟨rfl,fun z a j=>?_⟩;have c:some (false,d,s2)=some z:=a;cases c;cases j
    |inr x=>
     obtain⟨d,s2⟩:=x;obtain rfl:d=o:=q _ rfl;refine⟨rfl,fun z a j=>?_⟩;have c:some (true,d,s2)=some z:=a;cases c;rfl
end
theorem MT{σ:Type}{K:Nat}(cb:σ→List (List Int)→Option (Bool×σ))(y:Aq)(a:DZ y)(hK:2000≤K)(st:σ):Ey K cb y st=(run cb (FF y) st).bind fun r=>some r.2:=by
 unfold Ey;have:=a.r1;have:=a.r2;rw[Pc (by omega) (by omega) (by omega)];obtain⟨b,_⟩:=Px cb y a.n4 hK y.Ac.length K 0 (by omega) (by have:=a.n4;omega) (List.replicate y.Ai.toNat []) st (fun l c=>by rw[(List.mem_replicate.1 c).2];exact Nat.le_refl _) (by rw[List.length_replicate];omega);rw[Int.natCast_zero] at b;unfold FF;rw[←b];cases Bq K cb K 0 y (List.replicate y.Ai.toNat []) st with
 |none=>rfl
 |some z=>rfl
end Go.Proofs.Ytkljfdkmjdjpfaa
end
section
namespace Go.Proofs.Ytkljfdkmjdjpfaa
theorem Py(l:List Int)(a i:Int):(CI l a i).Perm (i::l):=by
 unfold CI;refine List.perm_middle.trans (List.Perm.cons _ ?_);rw[List.take_append_drop]
theorem Ia(v:Int):∀(o:List (List Int)) (r:Nat) (a:Int),r<o.length→(o.set r (CI (o.getD r []) a v)).flatten.Perm (v::o.flatten)
 |l::o,0,a,_=>by
  show(CI l a v++o.flatten).Perm (v::(l++o.flatten));exact(Py l a v).append_right _
 |l::o,r+1,a,h=>by
  show(l++(o.set r (CI (o.getD r []) a v)).flatten).Perm (v::(l++o.flatten));exact((Ia v o r a (by simpa using h)).append_left l).trans List.perm_middle
theorem JT(n:Nat):iota (n+1)=iota n++[(n:Int)]:=by simp[iota,List.range_succ]
theorem K4:∀(k i:Nat) (c o:List (List Int)),c.flatten.Perm (iota i)→o∈D6 k i c→o.length=c.length∧o.flatten.Perm (iota (i+k))
 |0,i,c,o,h,b=>by
  rw[D6,List.mem_singleton] at b;subst b;exact⟨rfl,h⟩
 |k+1,i,c,o,h,b=>by
  rw[D6,List.mem_flatMap] at b;obtain⟨r,d,b⟩:=b;obtain⟨a,_,b⟩:=List.mem_flatMap.1 b;rw[List.mem_range] at d;obtain⟨e,f⟩:=K4 k (i+1) _ o (by
   rw[JT];exact((Ia (i:Int) c r (a:Int) d).trans (h.cons _)).trans (List.perm_append_singleton _ _).symm) b
  rw[List.length_set] at e;exact⟨e,by rw[show i+(k+1)=i+1+k by omega];exact f⟩
theorem Hc{y:Aq}(a:DZ y){o:List (List Int)}(h:o∈FF y):CY y o=true:=by
 have:=K4 _ 0 _ o (by
  have:(List.replicate y.Ai.toNat ([]:List Int)).flatten=[]:=by simp
  rw[this];exact List.Perm.refl _) h
 rw[List.length_replicate,Nat.zero_add] at this;refine Fa.2 ⟨?_,this.2⟩;have:=a.r1;omega
theorem JU:∀(k i:Nat) (c o:List (List Int)) (r a:Nat),o∈D6 k i c→r<o.length→a≤(o.getD r []).length→o.set r (CI (o.getD r []) (a:Int) ((i+k:Nat):Int))∈D6 (k+1) i c
 |0,i,c,o,r,a,b,d,e=>by
  rw[D6,List.mem_singleton] at b;subst b;rw[D6,List.mem_flatMap];refine⟨r,List.mem_range.2 d,List.mem_flatMap.2 ⟨a,List.mem_range.2 (by omega),?_⟩⟩;rw[D6,List.mem_singleton];rfl
 |k+1,i,c,o,r,a,b,d,e=>by
  rw[D6,List.mem_flatMap] at b;obtain⟨r1,f,b⟩:=b;obtain⟨a1,g,b⟩:=List.mem_flatMap.1 b;rw[D6,List.mem_flatMap];refine⟨r1,f,List.mem_flatMap.2 ⟨a1,g,?_⟩⟩;have:=JU k (i+1) _ o r a b d e;rw[show i+1+k=i+(k+1) by omega] at this;exact this
theorem K5 (v:Int):∀(o:List (List Int)),v∈o.flatten→∃(o':List (List Int)) (r a:Nat),r<o'.length∧a≤(o'.getD r []).length∧o=o'.set r (CI (o'.getD r []) (a:Int) v)∧o.flatten.Perm (v::o'.flatten)∧o'.length=o.length
 |[],h=>by cases h
 |l::o,h=>by
  by_cases b:v∈l
  ·obtain⟨s,t,rfl⟩:=List.append_of_mem b;refine⟨(s++t)::o,0,s.length,by simp,by simp,?_,?_,by simp⟩
   ·show _=CI (s++t) (s.length:Int) v::o;unfold CI;rw[Int.toNat_natCast,List.take_left,List.drop_left]
   ·show((s++v::t)++o.flatten).Perm (v::((s++t)++o.flatten));exact(List.perm_middle (a:=v) (l₁:=s) (l₂:=t)).append_right _
  ·have c:v∈o.flatten:=by
    rw[List.flatten_cons,List.mem_append] at h;exact h.resolve_left b
   obtain⟨o',r,a,d,e,f,g,i⟩:=K5 v o c;refine⟨l::o',r+1,a,by simpa using d,e,?_,?_,by simp[i]⟩
   ·show l::o=l::o'.set r (CI (o'.getD r []) (a:Int) v);rw[←f]
   ·show(l++o.flatten).Perm (v::(l++o'.flatten));exact(g.append_left l).trans List.perm_middle
theorem Kz(Hw:Nat):∀(n:Nat) (o:List (List Int)),o.length=Hw→o.flatten.Perm (iota n)→o∈D6 n 0 (List.replicate Hw [])
 |0,o,c,b=>by
  rw[D6,List.mem_singleton];have he:o.flatten=[]:=b.eq_nil;rw[List.flatten_eq_nil_iff] at he;exact List.eq_replicate_iff.2 ⟨c,he⟩
 |n+1,o,c,b=>by
  have e:(n:Int)∈o.flatten:=b.mem_iff.2 (by rw[JT];simp);obtain⟨o',r,a,f,g,h,i,k⟩:=K5 (n:Int) o e;have d:o'.flatten.Perm (iota n):=by
   have j:(iota (n+1)).Perm ((n:Int)::iota n):=by rw[JT];exact List.perm_append_singleton _ _
   exact(List.perm_cons _).1 ((i.symm.trans b).trans j)
  have:=JU n 0 _ o' r a (Kz Hw n o' (by omega) d) f g;rw[Nat.zero_add] at this;rw[h];exact this
theorem Iz{y:Aq}(a:DZ y){o:List (List Int)}:o∈FF y↔CY y o=true:=by
 refine⟨Hc a,fun h=>?_⟩;have b:=Fa.1 h;exact Kz _ _ o (by omega) b.2
theorem K6{y:Aq}(a:DZ y):FF y≠[]:=by
 have:((iota y.Ac.length)::List.replicate (y.Ai.toNat-1) [])∈FF y:=by
  refine(Iz a).2 (Fa.2 ⟨?_,?_⟩)
  ·have:=a.r1;simp;omega
  ·simp
 intro e;rw[e] at this;cases this
theorem Qu(p:List (List Int))(c:p.length≤1000)(a:∀l∈p,l.length≤1000):∀(k m i:Nat),p.length=i+k→k<m→Ev p m (i:Int) p=some p:=by
 intro k
 induction k with
 |zero=>
  intro m i h hm;cases m with
  |zero=>omega
  |succ m=>rw[Ev.eq_2,cf (df (by omega))]
 |succ k ih=>
  intro m i h hm;cases m with
  |zero=>omega
  |succ m=>
   have hi:i<p.length:=by omega
   have b:=a p[i] (List.getElem_mem hi);rw[Ev.eq_2,ct (dt (by omega)),DW hi,GA (by omega),DW hi,BG (by omega) (by omega),DQ,Int.toNat_natCast,List.set_getElem_self hi];exact ih m (i+1) (by omega) (by omega)
theorem MU{K:Nat}(p:List (List Int))(a:p.length≤1000)(b:∀l∈p,l.length≤1000)(hK:2000≤K):EP K p=some p:=by
 unfold EP;have:=Qu p a b p.length K 0 (by omega) (by omega);rw[Int.natCast_zero] at this;rw[GA (by omega),bd this]
theorem JV{y:Aq}(a:DZ y){o:List (List Int)}(h:CY y o=true):o.length≤1000∧(∀l∈o,l.length≤1000)∧o.flatten.length≤1000:=by
 have b:=Fa.1 h;have c:=Lr h;have:=a.r2;have:=a.n4;have d:=b.2.length_eq;rw[GN] at d;exact⟨by omega,fun l e=>by have:=(c l e).1;omega,by omega⟩
def Hv(y:Aq):List (List (List Int))→Int×List (List Int)→Int×List (List Int)
 |[],s=>s
 |o::os,s=>
  let s2:=if (CN y o).1<s.1 then ((CN y o).1,o) else s
  cond (decide (0<s2.1)) (Hv y os s2) s2
def Gx(y:Aq):Int×List (List Int):=Hv y (FF y) ((y.Ac.length:Int)+1,[])
theorem MV{K:Nat}(y:Aq)(a:DZ y)(hK:2000≤K):∀(os:List (List (List Int))) (s:Int×List (List Int)),(∀o∈os,CY y o=true)→
  (run (fun(st:Int×(List (List Int))) (x:(List (List Int)))=>(FD K x y st.1 st.2).bind fun r=>some (r.1,(r.2.1,r.2.2))) os s).bind (fun r=>some r.2)=some (Hv y os s)
 |[],s,_=>rfl
 |o::os,s,h=>by
  have d:=h o (List.mem_cons_self ..);obtain⟨e,f,_⟩:=JV a d;rw[run,Hv];unfold FD;rw[bd (Pt y a o d hK)]
  by_cases b:(CN y o).1<s.1
  ·rw[ct (dt b),bd (MU o e f hK),if_pos b];show(cond (decide (0<(CN y o).1)) _ _:Option (Bool×Int×List (List Int))).bind _=some (cond (decide (0<(CN y o).1)) _ _);cases decide (0<(CN y o).1) with
   |false=>rfl
   |true=>exact MV y a hK os _ fun x c=>h x (List.mem_cons_of_mem _ c)
  ·rw[cf (df b),if_neg b];show(cond (decide (0<s.1)) _ _:Option (Bool×Int×List (List Int))).bind _=some (cond (decide (0<s.1)) _ _);cases decide (0<s.1) with
   |false=>rfl
   |true=>exact MV y a hK os s fun x c=>h x (List.mem_cons_of_mem _ c)
theorem Sk{K:Nat}(y:Aq)(hK:2000≤K):DD K y=some (if check y≠0 then ([],0,check y) else ((Gx y).2,(Gx y).1,0)):=by
 unfold DD;rw[bd (HU hK y)]
 by_cases h:check y=0
 ·rw[h,cf (by decide),if_neg (by simp)];have a:=Fx h;have c:=a.n4;rw[BG (by omega) (by omega),MT _ y a hK];exact Eq.trans (bd (MV y a hK (FF y) _ fun o b=>Hc a b)) rfl
 ·rw[ct (by simpa using h),if_pos h]
theorem MW{y:Aq}(a:DZ y)(o:List (List Int)):0≤(CN y o).1∧(CN y o).1≤(y.Ac.length:Int):=by
 obtain⟨_,_,e⟩:=HQ a o;have:=Lt Cq y.Ac (Cf y o (CN y o).2);rw[e];unfold DR;omega
theorem Jk(y:Aq)(d:DZ y):∀(os:List (List (List Int))) (s:Int×List (List Int)),0<s.1∨os=[]→
  (∀o∈os,(Hv y os s).1≤(CN y o).1)∧(Hv y os s).1≤s.1∧((Hv y os s)=s∨∃o∈os,(Hv y os s)=((CN y o).1,o))
 |[],s,_=>⟨fun o j=>(by cases j),Int.le_refl _,.inl rfl⟩
 |o::os,s,h=>by
  have g:0<s.1:=by
   rcases h with h|h
   ·exact h
   ·cases h
  rw[Hv]
  by_cases i:(CN y o).1<s.1
  ·rw[if_pos i];show(∀x∈o::os,(cond (decide (0<(CN y o).1)) _ _:Int×List (List Int)).1≤_)∧_
   by_cases e:0<(CN y o).1
   ·rw[ct (dt e)];obtain⟨f,c,a⟩:=Jk y d os ((CN y o).1,o) (.inl e);have k:(Hv y os ((CN y o).1,o)).1≤(CN y o).1:=c;refine⟨fun x b=>?_,by omega,.inr ?_⟩
    ·rcases List.mem_cons.1 b with rfl|b
     ·exact c
     ·exact f x b
    ·rcases a with a|⟨x,b,a⟩
     ·exact⟨o,List.mem_cons_self ..,a⟩
     ·exact⟨x,List.mem_cons_of_mem _ b,a⟩
   ·rw[cf (df e)];refine⟨fun x _=>?_,by show(CN y o).1≤s.1;omega,.inr ⟨o,List.mem_cons_self ..,rfl⟩⟩;have:=(MW d x).1;show(CN y o).1≤_;omega
  ·rw[if_neg i];show(∀x∈o::os,(cond (decide (0<s.1)) _ _:Int×List (List Int)).1≤_)∧_;rw[ct (dt g)];obtain⟨f,c,a⟩:=Jk y d os s (.inl g);refine⟨fun x b=>?_,c,?_⟩
   ·rcases List.mem_cons.1 b with rfl|b
    ·omega
    ·exact f x b
   ·rcases a with a|⟨x,b,a⟩
    ·exact .inl a
    ·exact .inr ⟨x,List.mem_cons_of_mem _ b,a⟩
theorem Jl {y:Aq} (a:DZ y):(∀o,CY y o=true→(Gx y).1≤(CN y o).1)∧CY y (Gx y).2=true∧(Gx y).1=(CN y (Gx y).2).1:=by
 obtain⟨d,e,b⟩:=Jk y a (FF y) ((y.Ac.length:Int)+1,[]) (.inl (by show(0:Int)<_+1;omega));refine⟨fun o c=>d o ((Iz a).2 c),?_⟩;rcases b with b|⟨o,c,b⟩
 ·exfalso;obtain⟨o,c⟩:=List.exists_mem_of_ne_nil _ (K6 a);have:=d o c;rw[b] at this;have f:(y.Ac.length:Int)+1≤(CN y o).1:=this;have:=(MW a o).2;omega
 ·unfold Gx;rw[b];exact⟨Hc a c,rfl⟩
end Go.Proofs.Ytkljfdkmjdjpfaa
end
section
namespace Go.Proofs.Ytkljfdkmjdjpfaa
def D0(y:Aq)(yes:List Int):Nat:=(List.range y.Ac.length).countP fun i=>yes.getD i 0==0
def Gm (y:Aq) (o:List (List Int)):Nat:=(List.range y.Ac.length).countP fun i=>(BS y).all (Gw y o i)
theorem Pz{y:Aq}(a:DZ y)(o:List (List Int)):D0 y (B9 Cq y o)=Gm y o:=by
 unfold D0 Gm;refine List.countP_congr fun i hi=>?_;rw[List.mem_range] at hi;rw[Ji Cq y a o i hi,K3];have:((BS y).all fun t=> !Cq (CF y i) (Ip y o t i))=(BS y).all (Gw y o i):=by
  congr 1;funext t;unfold Cq Gw;rw[Bool.not_not]
 rw[this]
theorem Qv(y:Aq)(o:List (List Int)):Gm y o≤y.Ac.length:=by
 unfold Gm;have:=List.countP_le_length (p:=fun i=>(BS y).all (Gw y o i)) (l:=List.range y.Ac.length);simpa using this
theorem Rj(y:Aq)(r:BD×Int×Unit)(c:y.Ac.length≤4):∀(k m i:Nat) (a:Int),y.Ac.length=i+k→k<m→0≤a→a≤i→
  DY y r m a (i:Int)=some (a+((List.range' i k).countP (fun i=>r.1.l.getD i 0==0):Nat)):=by
 intro k
 induction k with
 |zero=>
  intro m i a h hm h0 b;cases m with
  |zero=>omega
  |succ m=>rw[DY.eq_2,cf (df (by omega))];simp
 |succ k ih=>
  intro m i a h hm h0 b;cases m with
  |zero=>omega
  |succ m=>
   rw[DY.eq_2,ct (dt (by omega)),bd (Mg r.1 i (by omega)),List.range'_succ,List.countP_cons];cases d:(r.1.l.getD i 0==0) with
   |true=>
    rw[ct rfl,BG (by omega) (by omega),BG (by omega) (by omega),DQ,ih m (i+1) (a+1) (by omega) (by omega) (by omega) (by omega)]
    congr 1;simp;omega
   |false=>
    rw[cf rfl,BG (by omega) (by omega),DQ,ih m (i+1) a (by omega) (by omega) (by omega) (by omega)]
    congr 1
theorem Qw(y:Aq)(r:BD×Int×Unit)(c:y.Ac.length≤4):∀(k m i:Nat) (a:Int),y.Ac.length=i+k→k<m→0≤a→a≤i→
  DT y r m a (i:Int)=some (a+((List.range' i k).countP (fun i=>r.1.l.getD i 0==0):Nat)):=by
 intro k
 induction k with
 |zero=>
  intro m i a h hm h0 b;cases m with
  |zero=>omega
  |succ m=>rw[DT.eq_2,cf (df (by omega))];simp
 |succ k ih=>
  intro m i a h hm h0 b;cases m with
  |zero=>omega
  |succ m=>
   rw[DT.eq_2,ct (dt (by omega)),bd (Mg r.1 i (by omega)),List.range'_succ,List.countP_cons];cases d:(r.1.l.getD i 0==0) with
   |true=>
    rw[ct rfl,BG (by omega) (by omega),BG (by omega) (by omega),DQ,ih m (i+1) (a+1) (by omega) (by omega) (by omega) (by omega)]
    congr 1;simp;omega
   |false=>
    rw[cf rfl,BG (by omega) (by omega),DQ,ih m (i+1) a (by omega) (by omega) (by omega) (by omega)]
    congr 1
def FL(y:Aq):List (List (List Int))→Int×List Int×List (List Int)→Int×List Int×List (List Int)
  |[],s=>s
  |o::os,s=>
    cond (decide (0≤s.1)&&(B9 Cq y o==s.2.1)) (FL y os s)
      (let s2:=if s.1<(D0 y (B9 Cq y o):Int) then ((D0 y (B9 Cq y o):Int),B9 Cq y o,o) else (s.1,B9 Cq y o,s.2.2)
       cond (decide (s2.1<(y.Ac.length:Int))) (FL y os s2) s2)
def Gy(y:Aq):Int×List Int×List (List Int):=FL y (FF y) (-1,[0,0,0,0],[])
theorem MX{K:Nat}(y:Aq)(e:DZ y)(hK:2000≤K):∀(os:List (List (List Int))) (n:Int) (a:BD) (q:List (List Int)),(∀o∈os,CY y o=true)→
    ∃(b:Bool) (a2:BD),run (fun(st:Int×BD×(List (List Int))) (x:(List (List Int)))=>(Er K x y st.1 st.2.1 st.2.2).bind fun r=>some (r.1,(r.2.1,r.2.2.1,r.2.2.2))) os (n,a,q)=some (b,(FL y os (n,a.l,q)).1,a2,(FL y os (n,a.l,q)).2.2)
  |[],n,a,q,_=>⟨true,a,rfl⟩
  |o::os,n,a,q,h=>by
    have s:=h o (List.mem_cons_self ..);have p:∀x∈os,CY y x=true:=fun x aC=>h x (List.mem_cons_of_mem _ aC);obtain⟨aD,aE,_⟩:=JV e s;have t:=e.n4;obtain⟨b,aF,k⟩:=Lw (K:=K) Cq y e o s hK;have u:Cn K (fun(st:Unit) (x:Au×Av)=>(DX K x.1 x.2).bind fun r=>some (r,())) y o ()=some (b,((BS y).length:Int),()):=by
      rw[←aF];congr 1;funext st x;rw[bd (NP ..)];rfl
    have h9:=Rj y (b,((BS y).length:Int),()) t y.Ac.length K 0 0 (by omega) (by omega) (by omega) (by omega);have f:=Qw y (b,((BS y).length:Int),()) t y.Ac.length K 0 0 (by omega) (by omega) (by omega) (by omega);rw[Int.natCast_zero,Int.zero_add] at h9 f;have v:((List.range' 0 y.Ac.length).countP (fun i=>(b,((BS y).length:Int),()).1.l.getD i 0==0))=D0 y (B9 Cq y o):=by
      rw[←List.range_eq_range',←k];rfl
    rw[v] at h9 f;have c:∀(l:Int×BD×List (List Int)) (z:Int×List Int×List (List Int)),(l.1,l.2.1.l,l.2.2)=z→
        ∃(d:Bool) (a2:BD),cond (decide (l.1<(y.Ac.length:Int))) (run (fun(st:Int×BD×(List (List Int))) (x:(List (List Int)))=>(Er K x y st.1 st.2.1 st.2.2).bind fun r=>some (r.1,(r.2.1,r.2.2.1,r.2.2.2))) os l) (some (false,l))=some (d,(cond (decide (z.1<(y.Ac.length:Int))) (FL y os z) z).1,a2,(cond (decide (z.1<(y.Ac.length:Int))) (FL y os z) z).2.2):=by
      rintro⟨g,w,aG⟩ z rfl;show∃(d:Bool) (a2:BD),cond (decide (g<(y.Ac.length:Int))) _ _=some (d,(cond (decide (g<(y.Ac.length:Int))) _ _:Int×List Int×List (List Int)).1,a2,(cond (decide (g<(y.Ac.length:Int))) _ _:Int×List Int×List (List Int)).2.2);cases decide (g<(y.Ac.length:Int)) with
      |false=>exact⟨false,w,rfl⟩
      |true=>exact MX y e hK os g w aG p
    have main:∀z9:Int,z9=(D0 y (B9 Cq y o):Int)→∃(d:Bool) (a2:BD),
        (((cond (decide (n<z9)) ((EP K o).bind fun aA=>some ((decide (z9<(y.Ac.length:Int)),z9,b,aA))) (some ((decide (n<(y.Ac.length:Int)),n,b,q))):Option (Bool×Int×BD×List (List Int))).bind fun r=>some (r.1,(r.2.1,r.2.2.1,r.2.2.2))).bind fun r=>cond r.1 (run (fun(st:Int×BD×(List (List Int))) (x:(List (List Int)))=>(Er K x y st.1 st.2.1 st.2.2).bind fun r=>some (r.1,(r.2.1,r.2.2.1,r.2.2.2))) os r.2) (some (false,r.2)))=
        some (d,(let s2:=if n<(D0 y (B9 Cq y o):Int) then ((D0 y (B9 Cq y o):Int),B9 Cq y o,o) else (n,B9 Cq y o,q)
       cond (decide (s2.1<(y.Ac.length:Int))) (FL y os s2) s2).1,a2,(let s2:=if n<(D0 y (B9 Cq y o):Int) then ((D0 y (B9 Cq y o):Int),B9 Cq y o,o) else (n,B9 Cq y o,q)
       cond (decide (s2.1<(y.Ac.length:Int))) (FL y os s2) s2).2.2):=by
      rintro z9 rfl
      by_cases j:n<(D0 y (B9 Cq y o):Int)
      · rw[ct (dt j),bd (MU o aD aE hK)];simp only[if_pos j];exact c ((D0 y (B9 Cq y o):Int),b,o) ((D0 y (B9 Cq y o):Int),B9 Cq y o,o) (by show(_,b.l,o)=_;rw[k])
      · rw[cf (df j)];simp only[if_neg j];exact c (n,b,q) (n,B9 Cq y o,q) (by show(_,b.l,q)=_;rw[k])
    rw[run,FL];show∃(d:Bool) (a2:BD),Option.bind ((Er K o y n a q).bind _) _=_;unfold Er;rw[bd u]
    by_cases m:0≤n
    · rw[ct (dt m),dt m,Bool.true_and];have aB:([b.a0,b.a1,b.a2,b.a3]==[a.a0,a.a1,a.a2,a.a3])=(B9 Cq y o==a.l):=by rw[←k];rfl
      rw[aB];cases j:(B9 Cq y o==a.l) with
      |true=>
        rw[ct rfl,ct rfl];exact MX y e hK os n a q p
      |false=>
        rw[cf rfl,cf rfl,bd h9];exact main _ rfl
    · rw[cf (df m),df m,Bool.false_and,cf rfl,bd f];exact main _ rfl
theorem Sm{K:Nat}(y:Aq)(hK:2000≤K):DE K y=some (if check y≠0 then ([],0,check y) else ((Gy y).2.2,(Gy y).1,0)):=by
 unfold DE;rw[bd (HU hK y)]
 by_cases h:check y=0
 ·rw[h,cf (by decide),if_neg (by simp)];have a:=Fx h;rw[MT _ y a hK];obtain⟨b,a2,e⟩:=MX (K:=K) y a hK (FF y) (-1) ⟨0,0,0,0⟩ [] fun o c=>Hc a c;exact Eq.trans (congrArg (fun z=>Option.bind (Option.bind z _) _) e) rfl
 ·rw[ct (by simpa using h),if_pos h]
theorem HR(y:Aq)(i:DZ y):∀(os:List (List (List Int))) (s:Int×List Int×List (List Int)),s.1<(y.Ac.length:Int)∨0≤s.1→(0≤s.1→(D0 y s.2.1:Int)≤s.1)→s.1≤(y.Ac.length:Int)→
  (∀o∈os,(Gm y o:Int)≤(FL y os s).1)∧s.1≤(FL y os s).1∧(((FL y os s).1=s.1∧(FL y os s).2.2=s.2.2)∨∃o∈os,(FL y os s).1=(Gm y o:Int)∧(FL y os s).2.2=o)
 |[],s,_,_,_=>⟨fun o l=>(by cases l),Int.le_refl _,.inl ⟨rfl,rfl⟩⟩
 |o::os,s,h,hi,hle=>by
  have hlen:∀x,(Gm y x:Int)≤(y.Ac.length:Int):=fun x=>by have:=Qv y x;omega
  have c:=Pz i o;rw[FL]
  by_cases f:(decide (0≤s.1)&&(B9 Cq y o==s.2.1))=true
  ·rw[ct f];rw[Bool.and_eq_true,decide_eq_true_eq] at f;obtain⟨g,d,a⟩:=HR y i os s h hi hle;refine⟨fun x b=>?_,d,?_⟩
   ·rcases List.mem_cons.1 b with rfl|b
    ·have:=hi f.1;rw[←eq_of_beq f.2,c] at this;omega
    ·exact g x b
   ·rcases a with a|⟨x,b,a⟩
    ·exact .inl a
    ·exact .inr ⟨x,List.mem_cons_of_mem _ b,a⟩
  ·rw[cf (by simpa using f)]
   by_cases j:s.1<(D0 y (B9 Cq y o):Int)
   ·simp only[if_pos j]
    by_cases e:(D0 y (B9 Cq y o):Int)<(y.Ac.length:Int)
    ·rw[ct (dt e)];obtain⟨g,d,a⟩:=HR y i os ((D0 y (B9 Cq y o):Int),B9 Cq y o,o) (.inl e) (fun _=>Int.le_refl _) (by show(D0 y (B9 Cq y o):Int)≤_;omega);have k:(D0 y (B9 Cq y o):Int)≤_:=d;refine⟨fun x b=>?_,by omega,.inr ?_⟩
     ·rcases List.mem_cons.1 b with rfl|b
      ·rw[←c];exact d
      ·exact g x b
     ·rcases a with⟨a,m⟩|⟨x,b,a⟩
      ·exact⟨o,List.mem_cons_self ..,by rw[a,←c],m⟩
      ·exact⟨x,List.mem_cons_of_mem _ b,a⟩
    ·rw[cf (df e)];refine⟨fun x _=>?_,by show s.1≤(D0 y (B9 Cq y o):Int);omega,.inr ⟨o,List.mem_cons_self ..,by show(D0 y (B9 Cq y o):Int)=_;rw[c],rfl⟩⟩;have:=hlen x;show _≤(D0 y (B9 Cq y o):Int);omega
   ·simp only[if_neg j];have h0:0≤s.1:=by omega
    by_cases e:s.1<(y.Ac.length:Int)
    ·rw[ct (dt e)];obtain⟨g,d,a⟩:=HR y i os (s.1,B9 Cq y o,s.2.2) (.inl e) (fun _=>by show(D0 y (B9 Cq y o):Int)≤s.1;omega) hle;have k:s.1≤_:=d;refine⟨fun x b=>?_,d,?_⟩
     ·rcases List.mem_cons.1 b with rfl|b
      ·rw[←c];omega
      ·exact g x b
     ·rcases a with a|⟨x,b,a⟩
      ·exact .inl a
      ·exact .inr ⟨x,List.mem_cons_of_mem _ b,a⟩
    ·rw[cf (df e)];refine⟨fun x _=>?_,Int.le_refl _,.inl ⟨rfl,rfl⟩⟩;have:=hlen x;show _≤s.1;omega
theorem K7 {y:Aq} (c:DZ y):(∀o,CY y o=true→(Gm y o:Int)≤(Gy y).1)∧CY y (Gy y).2.2=true∧(Gy y).1=(Gm y (Gy y).2.2:Int):=by
 obtain⟨d,f,a⟩:=HR y c (FF y) (-1,[0,0,0,0],[]) (.inl (by show(-1:Int)<_;omega)) (fun h=>absurd (show(0:Int)≤-1 from h) (by decide)) (by show(-1:Int)≤_;omega);refine⟨fun o b=>d o ((Iz c).2 b),?_⟩;rcases a with⟨a,_⟩|⟨o,b,a,e⟩
 ·exfalso;obtain⟨o,b⟩:=List.exists_mem_of_ne_nil _ (K6 c);have:=d o b;rw[a] at this;have g:(Gm y o:Int)≤-1:=this;omega
 ·unfold Gy;rw[a,e];exact⟨Hc c b,rfl⟩
end Go.Proofs.Ytkljfdkmjdjpfaa
end
section
namespace Go.Proofs.Ytkljfdkmjdjpfaa
def Ge(n i k:Nat):List Int:=((List.range' k (n-k)).filter fun j=>j !=i).map fun j:Nat=>(j:Int)
def Fy (y:Aq) (i:Nat):List (List Int):=((i:Int)::Ge y.Ac.length i 0)::List.replicate (y.Ai.toNat-1) []
theorem Sn{α:Type}(x:α)(r:List α):idx (x::r) (0:Int)=some x:=idx_eq (xs:=x::r) (k:=0) (by simp)
theorem TH(n i:Nat)(f:n≤4):∀(d m k:Nat) (x:List Int) (r:List (List Int)),n=k+d→d<m→x.length≤1+k→
  Ix (n:Int) (i:Int) m (k:Int) (x::r)=some ((x++Ge n i k)::r):=by
 intro d
 induction d with
 |zero=>
  intro m k x r h hm e;cases m with
  |zero=>omega
  |succ m=>
   rw[Ix,cf (df (by omega))];unfold Ge;rw[show n-k=0 by omega];simp
 |succ d ih=>
  intro m k x r h hm e;cases m with
  |zero=>omega
  |succ m=>
   have b:idx (x::r) (0:Int)=some x:=Sn x r;have c:Ge n i k=cond (k !=i) ((k:Int)::Ge n i (k+1)) (Ge n i (k+1)):=by
    unfold Ge;rw[show n-k=(n-(k+1))+1 by omega,List.range'_succ,List.filter_cons];cases g:(k !=i) with
    |true=>rfl
    |false=>rfl
   rw[Ix,ct (dt (by omega))]
   by_cases a:k=i
   ·have:((k:Int) !=(i:Int))=false:=by rw[a];exact bne_self_eq_false ..
    rw[this,cf rfl,BG (by omega) (by omega),DQ,ih m (k+1) x r (by omega) (by omega) (by omega),c,show(k !=i)=false by rw[a];exact bne_self_eq_false ..];rfl
   ·have:((k:Int) !=(i:Int))=true:=by rw[bne_iff_ne];omega
    rw[this,ct rfl,bd b,GA (by simp;omega),bd b,BG (by omega) (by omega),DQ];show Ix _ _ m _ ((x++[(k:Int)])::r)=_;rw[ih m (k+1) (x++[(k:Int)]) r (by omega) (by omega) (by simp;omega),c,show(k !=i)=true by rw[bne_iff_ne];exact a];simp
theorem JW{y:Aq}(b:DZ y){i:Nat}(hi:i<y.Ac.length):CY y (Fy y i)=true:=by
 have c:=b.r1;rw[Fa];refine⟨by unfold Fy;simp;omega,?_⟩;have e:(Fy y i).flatten=(i:Int)::Ge y.Ac.length i 0:=by
  unfold Fy;rw[List.flatten_cons];have:(List.replicate (y.Ai.toNat-1) ([]:List Int)).flatten=[]:=by
   simp
  rw[this,List.append_nil]
 rw[e];unfold Ge iota;rw[←List.range_eq_range',Nat.sub_zero];have:((i:Int)::((List.range y.Ac.length).filter fun j=>j !=i).map fun j:Nat=>(j:Int))=(i::((List.range y.Ac.length).filter fun j=>j !=i)).map fun j:Nat=>(j:Int):=rfl;rw[this];refine List.Perm.map _ ?_;have hm:i∈List.range y.Ac.length:=List.mem_range.2 hi;have a:=List.perm_cons_erase hm;rw[List.Nodup.erase_eq_filter List.nodup_range] at a;exact a.symm
def Dl(y:Aq)(k d:Nat):List Int:=((List.range' k d).filter fun i=> !(BS y).all (Gw y (Fy y i) i)).map fun i:Nat=>(i:Int)
theorem OL{K:Nat}(y:Aq)(c:DZ y)(hK:2000≤K):∀(d m i:Nat) (a:List Int),y.Ac.length=i+d→d<m→a.length≤i→
  DL K y m a (i:Int)=some (a++Dl y i d):=by
 have g:=c.n4;have s:=c.r1;have t:=c.r2;intro d
 induction d with
 |zero=>
  intro m i a h hm j;cases m with
  |zero=>omega
  |succ m=>rw[DL.eq_2,cf (df (by omega))];simp[Dl]
 |succ d ih=>
  intro m i a h hm j;cases m with
  |zero=>omega
  |succ m=>
   have hi:i<y.Ac.length:=by omega
   have k:=JW c hi;obtain⟨b,n,o⟩:=Lw (K:=K) EL y c (Fy y i) k hK;have e:Cn K (fun(st:Unit) (x:Au×Av)=>(C4 K x.1 x.2).bind fun r=>some (r,())) y (Fy y i) ()=some (b,((BS y).length:Int),()):=by
    rw[←n];congr 1;funext st x;rw[bd (Ls ..)]
   have er:List.replicate y.Ai.toNat ([]:List Int)=[]::List.replicate (y.Ai.toNat-1) []:=by
    rw[←List.replicate_succ];congr 1;omega
   have f:=TH y.Ac.length i g y.Ac.length K 0 [(i:Int)] (List.replicate (y.Ai.toNat-1) []) (by omega) (by omega) (by simp);rw[DL.eq_2,ct (dt (by omega)),Pc (by omega) (by omega) (by omega),er];rw[bd (show idx (([]:List Int)::List.replicate (y.Ai.toNat-1) []) (0:Int)=some [] from Sn _ _)];rw[Int.natCast_zero] at f;show(Ix _ _ K (0:Int) ([(i:Int)]::List.replicate (y.Ai.toNat-1) [])).bind _=_;rw[bd f];show(Cn K _ y (Fy y i) ()).bind _=_;rw[bd e,bd (Mg b i (by omega))];have p:((b.l.getD i 0)==((BS y).length:Int))=(BS y).all (Gw y (Fy y i) i):=by
    rw[o,Ji EL y c (Fy y i) i hi,L4];rfl
   show cond ((b.l.getD i 0)==((BS y).length:Int)) _ _=_;rw[p];have q:Dl y i (d+1)=cond ((BS y).all (Gw y (Fy y i) i)) (Dl y (i+1) d) ((i:Int)::Dl y (i+1) d):=by
    unfold Dl;rw[List.range'_succ,List.filter_cons];cases (BS y).all (Gw y (Fy y i) i)<;>rfl
   rw[q];cases (BS y).all (Gw y (Fy y i) i) with
   |true=>
    rw[ct rfl,BG (by omega) (by omega),DQ,ih m (i+1) a (by omega) (by omega) (by omega)];rfl
   |false=>
    rw[cf rfl,GA (by simp;omega),BG (by omega) (by omega),DQ,ih m (i+1) (a++[(i:Int)]) (by omega) (by omega) (by simp;omega)];simp
theorem OM{K:Nat}(y:Aq)(hK:2000≤K):CE K y=some (if check y≠0 then ([],check y) else (Dl y 0 y.Ac.length,0)):=by
 unfold CE;rw[bd (HU hK y)]
 by_cases h:check y=0
 ·rw[h,if_neg (by simp)];have e:=OL (K:=K) y (Fx h) hK y.Ac.length K 0 [] (by omega) (by have:=(Fx h).n4;omega) (by simp);rw[Int.natCast_zero] at e;show cond false _ _=_;rw[cf rfl,bd e,List.nil_append]
 ·rw[ct (by simpa using h),if_pos h]
end Go.Proofs.Ytkljfdkmjdjpfaa
end
