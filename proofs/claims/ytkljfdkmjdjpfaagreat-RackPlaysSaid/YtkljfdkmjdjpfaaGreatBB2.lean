import Derived.Test.YtkljfdkmjdjpfaaGreatBB1
import Derived.WalkKit
import Derived.KernelRfl
import Derived.WalkSpells
import Derived.WalkLawsBesides
import Derived.Maps.AppendAt
import Derived.OrdersIn
import Derived.RangeFuncIn
import Derived.RangeFuncLeaves
import Derived.RangeFuncRecord
import Derived.RangeFuncSeq
import Derived.Scope
import Derived.DeepKeys3
import Derived.Laws.CopyRow
import Derived.Laws.OwnMore
import Derived.Laws.MakeOwn
import Derived.Laws.IdiomCopy
/-
  The contracts of the functions of the program and of the reference, and the logic that they are proved in: the base that several claims of this seat share.
-/
set_option linter.all false
section
namespace Go.Proofs.YtkljfdkmjdjpfaaGreat
open Go.RowKit Go.WideShapes
theorem Ve{f:Operand→Value}{i0 i1 i2 i3 i4:Nat}{a x1 x2 b c:Operand}{v0 v1 v2 v3 v4:Value}(h0:f a=v0)(d:f x1=v1)(e:f x2=v2)(g:f b=v3)(h:f c=v4): #[(i0,a),(i1,x1),(i2,x2),(i3,b),(i4,c)].map (fun(i,x)=>(i,f x))= #[(i0,v0),(i1,v1),(i2,v2),(i3,v3),(i4,v4)]:=by simp[h0,d,e,g,h]
section
variable{F F' F0:Nat→Prop}{B:List (Option Nat)}{w0 w w' w1 w2:World}{Z Z':Nat→Prop}{L L' M C:List (Option Nat)}{D:Nat→Prop}
theorem BP(a:List Nat)(h:Gj L a M):∀x∈M,x∈L:=h.sub
theorem AL(a:List Nat)(h:Gj L a M)(b:∀k,F' k→F k):∀k,FU F' M k→F k∨some k∈L:=S0 h.sub b
theorem CM(h:∀k,F0 k→F k):∀k,FU F0 C k→F k∨some k∈C:=fun k a=>a.imp (h k) id
theorem Gb{k:Nat}{o:Obj}{r:Option Nat}(h:w.heap[k]?=some o)(g:w.grownBy w' r)(a:some k≠r):w'.heap[k]?=some o:=(g.block k (Array.getElem?_eq_some_iff.1 h).1 a).trans h
theorem EW{k:Nat}{o:Obj}(h:w.heap[k]?=some o)(g:Bj D w w')(a:¬D k):w'.heap[k]?=some o:=(g.block k (Array.getElem?_eq_some_iff.1 h).1 a).trans h
theorem Cn.BE{α:Type}{ev:α→Value}{r n:Nat}{a:List (List Int×α)}(h:Cn ev w r n a)(g:Bj D w w')(b:¬D r):Cn ev w' r n a:=h.of (g.block r h.lt b)
theorem Cn.F2{α:Type}{ev:α→Value}{r n:Nat}{a:List (List Int×α)}(h:Cn ev w r n a)(e:w'.heap[r]?=w.heap[r]?):Cn ev w' r n a:=h.of e
theorem Bk.F2{b:Nat}{t:TypeId}{cs:Array Value}(h:Bk w b t cs)(e:w'.heap[b]?=w.heap[b]?):Bk w' b t cs:=e.trans h
theorem Hp.zz(h:Hp F B w0 L w)(a c:List Nat)(d:Gj L a M)(e:Gj L c C)(f:∀k,F' k→F k∨some k∈C):∀b,ZZ F B Z w0.heap.size L b→¬F' b∧some b∉M:=h.zc d.sub fun k g=>(f k g).imp id (e.sub _)
theorem Hp.mz(h:Hp F B w0 L w)(a b:List Nat)(c:Gj L a M)(d:Gj L b C)(e:∀k,F' k→F k∨some k∈C):Mv w (ZZ F B Z w0.heap.size L) w (ZC F' M):=Rs (h.zz a b c d e)
theorem Oe{i:Nat}{a b:List Nat}(h:((a++b).all fun j=> !Nat.beq i j)=true):(a.all fun j=> !Nat.beq i j)=true∧(b.all fun j=> !Nat.beq i j)=true:=by
 rw[List.all_append,Bool.and_eq_true] at h;exact h
theorem Hp.bz(h:Hp F B w0 L w)(i:Nat){b:Nat}(hi:L[i]?=some (some b))(a c:List Nat)(e:Gj L a M)(f:Gj L c C)(g:∀k,F' k→F k∨some k∈C)(d:((a++c).all fun j=> !Nat.beq i j)=true):ZC F' M b:=by
 have l:=h.BC (F':=F) i hi a (Oe d).1 e (fun _ h=>h);have m:=h.BC (F':=F) i hi c (Oe d).2 f (fun _ h=>h);exact⟨fun n=>m ((g b n).imp id id),fun hm=>l (.inr hm)⟩
theorem Hp.rz{α:Type}{e:D4 α}{t:TypeId}{n0:Nat}{A:Option Addr}{c:Nat}{xs:List α}(h:Hp F B w0 L w)(i:Nat)(hi:L[i]?=some (ob A))(a b:List Nat)(d:Gj L a M)(f:Gj L b C)(g:∀k,F' k→F k∨some k∈C)(l:((a++b).all fun j=> !Nat.beq i j)=true)
  (m:AJ e t n0 w (ZZ F B Z w0.heap.size L) A c xs):Sl e w (ZC F' M) A c xs:=
 (m.up (h.mz a b d f g)).sl fun k n _=>h.bz i (by rw[hi,n]) a b d f g l
theorem Bf{Z:Nat→Prop}(w:World):Mv w Z w (ZZ FN [] Z w.heap.size L):=Bc (fun _ _=>⟨id,by simp⟩) w
theorem Jb(h:Mv w Z w' Z):Mv w Z w' (ZZ FN [] Z w.heap.size M):=⟨h.size,fun b a c=>⟨.inl ⟨c,a,id,by simp⟩,(h.stay b a c).2⟩⟩
theorem KB{n:Nat}:Mv w (ZZ FN [] Z n M) w (ZZ FN [] Z n [none]):=GW fun b a _=>a.imp id fun⟨c,_⟩=>⟨c,by simp⟩
theorem K3{n:Nat}{o:Option Nat}(h:o∈M:=by simp):Mv w (ZZ FN [] Z n M) w (ZZ FN [] Z n [o]):=GW fun b a _=>a.imp id fun⟨c,d⟩=>⟨c,fun hm=>by
 rw[List.mem_singleton] at hm;exact d (by rw[hm];exact h)⟩
theorem Ka(g:Bj D w w')(h:∀b,Z b→¬D b):Mv w Z w' Z:=⟨g.size,fun b a c=>⟨a,g.block b c (h b a)⟩⟩
theorem Jx{b:Nat}{o:Option Nat}(h:¬FU FN C b∧some b≠o):¬FU FN C b:=h.1
theorem PE{b:Nat}{o:Option Nat}(h:¬FU F C b∧some b≠o):¬FU F (C++[o]) b:=by
 rintro(a|a)
 ·exact h.1 (.inl a)
 ·rcases List.mem_append.1 a with c|c
  ·exact h.1 (.inr c)
  ·exact h.2 (by simpa using c)
theorem EA{b:Nat}{o:Option Nat}(h:¬FU F C b)(k:some b≠o):¬F b∧some b∉C++[o]:=
 ⟨fun a=>h (.inl a),fun a=>by
  rcases List.mem_append.1 a with c|c
  ·exact h (.inr c)
  ·exact k (by simpa using c)⟩
theorem Bj.lf{o:Option Nat}(g:Bj (FU F (C++[o])) w w'):Bj (FU (FU F C) [o]) w w':=g.mono fun k h=>by
 rcases h with h|h
 ·exact .inl (.inl h)
 ·rcases List.mem_append.1 h with a|a
  ·exact .inl (.inr a)
  ·exact .inr a
theorem Bj.PF{o:Option Nat}(g:Bj (FU F C) w w'):Bj (FU (FU F C) [o]) w w':=g.mono fun _ h=>.inl h
theorem Bj.cl{M1 M2:List (Option Nat)}(g:Bj (FU (FU F M1) M2) w w'):Bj (FU F (M1++M2)) w w':=g.fl
theorem Hp.IM(h:Hp F B w0 L w)(b:List Nat)(c:Gj L b C)(d:∀k,F0 k→F k):∀k,FU F0 C k→k<w.heap.size:=fun k a=>by
 rcases a with a|a
 ·exact Nat.lt_of_lt_of_le (h.ff k (d k a)) h.sz
 ·exact(h.lo k (c.sub _ a)).1
theorem Hp.Rv(h:Hp F B w0 L w)(i:Nat){k:Nat}(hi:L[i]?=some (some k))(a:List Nat)(b:(a.all fun j=> !Nat.beq i j)=true)(c:Gj L a C):k<w.heap.size∧¬FU F C k:=
 ⟨(h.lo k (List.mem_of_getElem? hi)).1,h.BC (F':=F) i hi a b c fun _ h=>h⟩
theorem Hp.CY{x d:Option Nat}(h:Hp F B w0 L w)(i:Nat)(hi:L[i]?=some x)(a:List Nat)(g:(a.all fun j=> !Nat.beq i j)=true)(l:Gj L a M)(m:∀y∈B,y=d∨y∈M):∀k,x=some k→(d=some k∨w0.heap.size≤k)∧k<w.heap.size:=fun k e=>by
 have f:=h.lo k (List.mem_of_getElem? (by rw[hi,e]));refine⟨?_,f.1⟩;rcases Nat.lt_or_ge k w0.heap.size with b|b
 ·left;rcases m _ (f.2.2 b) with c|c
  ·exact c.symm
  ·exact absurd (.inr c) (h.BC (F':=F) i (by rw[hi,e]) a g l fun _ h=>h)
 ·exact .inr b
theorem BM.snoc{o:Option Nat}(h:BM F C w)(l:∀k,o=some k→k<w.heap.size∧¬FU F C k):BM F (C++[o]) w:=by
 refine⟨fun k q=>?_,fun i j x m hi f=>?_,h.ff⟩
 ·rcases List.mem_append.1 q with d|d
  ·exact h.lt k d
  ·have c:=l k (by rw[List.mem_singleton] at d;exact d.symm);exact⟨c.1,fun r=>c.2 (.inl r)⟩
 ·have key:∀(a b:Nat),a<C.length→¬b<C.length→(C++[o])[a]?=some (some x)→(C++[o])[b]?=some (some x)→False:=fun a b s t d c=>by
   rw[List.getElem?_append_left s] at d;rw[List.getElem?_append_right (by omega)] at c;have n:b-C.length=0:=by
    rcases Nat.eq_zero_or_pos (b-C.length) with h|h
    ·exact h
    ·rw[List.getElem?_eq_none (by simp;omega)] at c;cases c
   rw[n] at c;have p:o=some x:=by simpa using c
   exact(l x p).2 (.inr (List.mem_of_getElem? d))
  by_cases g:i<C.length
  ·by_cases e:j<C.length
   ·rw[List.getElem?_append_left g] at hi;rw[List.getElem?_append_left e] at f;exact h.ap i j x m hi f
   ·exact key i j g e hi f
  ·by_cases e:j<C.length
   ·exact key j i e g f hi
   ·have u:(C++[o]).length=C.length+1:=by simp
    have d:=(List.getElem?_eq_some_iff.1 hi).1;have c:=(List.getElem?_eq_some_iff.1 f).1;omega
theorem BM.keep{o o':Option Nat}(h:BM F C w)(g:w.heap.size≤w1.heap.size)(c:∀k,o=some k→k<w1.heap.size∧¬FU F C k)(d:∀k,o'=some k→(o=some k∨w1.heap.size≤k)∧k<w2.heap.size):∀k,o'=some k→k<w2.heap.size∧¬FU F C k:=fun k e=>by
 obtain⟨a,f⟩:=d k e;refine⟨f,?_⟩;rcases a with a|a
 ·exact(c k a).2
 ·rintro(b|b)
  ·have:=h.ff k b;omega
  ·have:=(h.lt k b).1;omega
def UI(L:List (Option Nat))(n:Nat):List (Option Nat)→Prop
 |[]=>True
 |x::M=>((∃j:Nat,L[j]?=some x)∨∀k,x=some k→some k∈L∨n≤k)∧UI L n M
theorem Cw{n:Nat}:∀{M:List (Option Nat)},UI L n M→∀k,some k∈M→some k∈L∨n≤k
 |[],_,_,h=>by cases h
 |x::M,h,k,a=>by
  rcases List.mem_cons.1 a with e|a
  ·rcases h.1 with⟨j,b⟩|c
   ·left;rw[e];exact List.mem_of_getElem? b
   ·exact c k e.symm
  ·exact Cw h.2 k a
theorem DI{y:Option Nat}(i:Nat)(h:y∈M):∀x∈L.set i y,x∈L∨x∈M:=fun x a=>by
 rcases List.mem_or_eq_of_mem_set a with b|e
 ·exact .inl b
 ·exact .inr (by rw[e];exact h)
theorem Iy{o:Option Nat}:∀b,ZC F [o] b→¬F b∧some b≠o:=fun _ h=>⟨h.1,fun e=>h.2 (by rw[e];exact List.mem_singleton_self _)⟩
end
theorem Of{F:Nat→Prop}{B L:List (Option Nat)}{n:Nat}{Z Z':Nat→Prop}(h:∀b,Z b→Z' b):∀b,ZZ F B Z n L b→ZZ F B Z' n L b:=fun b a=>a.imp (fun⟨c,d,e⟩=>⟨c,h b d,e⟩) id
def IN{α:Type}(e:D4 α)(w:World)(Z:Nat→Prop)(A:Option Addr)(c:Nat)(xs:List α):Prop:=
 xs.length≤c∧(A=none→c=0)∧∃Bg,R2 e w Z Bg xs∧Rz w ZA A Bg.flatten
section
variable{α:Type}{e:D4 α}{t:TypeId}{n0:Nat}{w w':World}{Z Z':Nat→Prop}{A:Option Addr}{c:Nat}{xs:List α}
theorem IN.ext(h:IN e w Z A c xs)(g:Ext w w')(hm:Mv w Z w' Z'):IN e w' Z' A c xs:=⟨h.1,h.2.1,h.2.2.imp fun _ h=>⟨h.1.mv hm,h.2.mv (Ai g)⟩⟩
theorem AJ.n(h:AJ e t n0 w Z A c xs):IN e w Z A c xs:=by
 have a:=h.all;obtain⟨Bg,b,d⟩:=h;refine⟨a.1,a.2.1,Bg,b,?_⟩;have f:=d.rd;exact M6 f fun _ _ _=>trivial
theorem Sl.n(h:Sl e w Z A c xs):IN e w Z A c xs:=⟨h.1,h.2.1,h.2.2.imp fun _ h=>⟨h.1,h.2.mv J6⟩⟩
theorem Sl.Ib(a:∀w Z w' Z' cs x,e.R w Z cs x→e.R w' Z' cs x)(h:Sl e w Z A c xs):IN e w Z' A c xs:=⟨h.1,h.2.1,h.2.2.imp fun _ h=>⟨h.1.free a,h.2.mv J6⟩⟩
theorem AJ.Ib(a:∀w Z w' Z' cs x,e.R w Z cs x→e.R w' Z' cs x)(h:AJ e t n0 w Z A c xs):IN e w Z' A c xs:=h.all.Ib a
end
section
variable{P:Program}{a:Act}{w:World}{dst:Option Tmp}{ty:TypeId}{pos:String}{B6:Array Edge}{g:Option (Nat×Bool)}
theorem Hr{α:Type}{e:D4 α}{s x:Operand}{t j:TypeId}{z:Value}{sz bytes:Nat}(y:P.underlying t=some (.slice j))(hi:(P.info? j).map (fun i=>(i.zero,i.size,i.bytes))=some (some z,sz,bytes))(l:z.cells.size=sz)(m:e.sz=sz)(h0:0<sz)
  {n0:Nat}{Z:Nat→Prop}{A B:Option Addr}{c d n:Nat}{xs ys:List α}(aA:a.eval s=.slice A n c)(aB:xs.length=n)(aC:a.eval x=.slice B ys.length d)(h:AJ e j n0 w Z A c xs)(r:IN e w Z B d ys)
  (o:xs.length+ys.length≤maxLen)(b:(xs.length+ys.length)*bytes≤140737488355328)(f:n0≤w.heap.size):
  BJ P ⟨dst,.call {callee:=.builtin .append,args:= #[s,x],argTypes:= #[t,t]},ty,pos,B6,g⟩ a w (fun v w'=>∃u aD,v=.slice u (xs++ys).length aD∧w.grownBy w' (ob A)∧(∀k,ob u=some k→(ob A=some k∨w.heap.size≤k)∧k<w'.heap.size)∧
   ∃Bg p,R2 e w Z Bg xs∧R2 e w Z p ys∧DO w' n0 j e.sz u (xs++ys).length aD (Bg++p).flatten):=by
 by_cases q:ys=[]
 ·refine S6 y hi l m h0 aA aB aC h ?_ o b f;subst q;exact⟨r.1,r.2.1,[],trivial,.inl rfl⟩
 ·obtain⟨_,_,Bg,aE,aF⟩:=r;exact J7 y hi l m h0 aA aB aC h ⟨Bg,aE,aF⟩ o b f q
end
section
variable{α:Type}{e:D4 α}{t:TypeId}{n0:Nat}{w w':World}{Z Z':Nat→Prop}{A:Option Addr}{c:Nat}{xs:List α}
theorem AJ.O0(a:∀w Z w' Z' cs x,e.R w Z cs x→e.R w' Z' cs x)(h:AJ e t n0 w Z A c xs):AJ e t n0 w Z' A c xs:=by
 obtain⟨Bg,b,d⟩:=h;exact⟨Bg,b.free a,d⟩
theorem AJ.O1(h:AJ e t n0 w Z A c xs):A=none→c=0:=h.all.2.1
theorem AJ.keep(h:AJ e t n0 w Z A c xs)(hm:Mv w Z w' Z')(d:∀k,ob A=some k→w'.heap[k]?=w.heap[k]?):AJ e t n0 w' Z' A c xs:=by
 obtain⟨Bg,f,a⟩:=h;refine⟨Bg,f.mv hm,a.1,a.2.imp id ?_⟩;rintro⟨b,cap,cur,g,i,j,l⟩;cases g;exact⟨b,_,cur,rfl,i,(d b rfl).trans j,l⟩
end
def Kb(n:Int)(b:Nat):Option Unit:=if 0≤n∧n*b≤140737488355328∧n≤140737488355328 then some () else none
theorem Hb{α:Type}{n:Int}{b:Nat}{f:Unit→Option α}{r:α}(h:(Kb n b).bind f=some r):(0≤n∧n*b≤140737488355328∧n≤140737488355328)∧f ()=some r:=by
 unfold Kb at h;split at h
 ·exact⟨by assumption,h⟩
 ·cases h
theorem Kd(z:Array Value):∀m:Nat,(madeCells z (m*z.size)).toList=(List.replicate m z.toList).flatten
 |0=>by simp[madeCells]
 |m+1=>by
  have ih:=Kd z m;have e:∀k,(madeCells z k).toList=(List.range k).map (z[· %z.size]!):=fun k=>by simp[madeCells]
  rw[e] at ih⊢;rw[Nat.add_mul,Nat.one_mul,List.range_add,List.map_append,ih,List.replicate_succ',List.flatten_append]
  congr 1
  simp only[List.map_map,List.flatten_cons,List.flatten_nil,List.append_nil];refine List.ext_getElem (by simp) fun i b a=>?_;simp only[List.getElem_map,List.getElem_range,Function.comp];have hi:i<z.size:=by simpa using a
  rw[Nat.add_comm,Nat.add_mul_mod_self_right,Nat.mod_eq_of_lt hi];simp[hi]
theorem R2.UJ{α:Type}{e:D4 α}{w:World}{Z:Nat→Prop}{c:List Value}{x:α}(h:e.R w Z c x):∀m:Nat,R2 e w Z (List.replicate m c) (List.replicate m x)
 |0=>trivial
 |m+1=>⟨h,R2.UJ h m⟩
section
variable{P:Program}{a:Act}{w:World}{dst:Option Tmp}{ty:TypeId}{pos:String}{B6:Array Edge}{g:Option (Nat×Bool)}
theorem HD{α:Type}{e:D4 α}{z:α}{zc:List Value}{n0:Nat}{t j:TypeId}{d:Value}{sz bytes:Nat}{n:Int}{x y:Operand}{m o:IntKind}{b':Nat}(aB:P.underlying t=some (.slice j))(hi:(P.info? j).map (fun i=>(i.zero,i.size,i.bytes))=some (some d,sz,bytes))
  (p:d.cells.toList=zc)(c:e.sz=sz)(aC:a.eval x=.int m n)(aD:a.eval y=.int o n)(hm:0≤n∧n*b'≤140737488355328∧n≤140737488355328)(q:∀w Z,e.R w Z zc z)(aE:n0≤w.heap.size)(aJ:bytes≤b'):
  BJ P ⟨dst,.makeSlice t x y,ty,pos,B6,g⟩ a w (fun u w'=>∃b,u=.slice (some ⟨b,0,none⟩) (List.replicate n.toNat z).length n.toNat∧w.heap.size≤b∧b<w'.heap.size∧Ext w w'∧∀Z,AJ e j n0 w' Z (some ⟨b,0,none⟩) n.toNat (List.replicate n.toNat z)):=by
 subst p;subst c;cases f:P.info? j with
 |none=>simp[f] at hi
 |some i=>
  rw[f] at hi;simp only[Option.map_some,Option.some.injEq,Prod.mk.injEq] at hi;obtain⟨aF,r,aG⟩:=hi;obtain⟨s,aK,aL⟩:=hm;have v:d.cells.toList.length=e.sz:=e.len (q w ZA);have c:d.cells.size=e.sz:=by simpa using v
  have aA:(i.bytes:Int)*n≤281474976710656:=by
   rw[aG];have aH:(bytes:Int)*n≤(b':Int)*n:=Int.mul_le_mul_of_nonneg_right (by omega) s;rw[Int.mul_comm (b':Int)] at aH;omega
  have aI:=run_make (P:=P) w t j i d aB f aF m o n n s (Int.le_refl _) aA (by omega);refine(Ji (S:=Instr.makeSlice t (a.eval x) (a.eval y)) rfl (by rw[aC,aD];exact aI)).mono fun u w' h=>?_;obtain⟨rfl,rfl⟩:=h;have l:=H8 w j (madeCells d.cells (n.toNat*i.size));refine⟨w.heap.size,by rw[List.length_replicate],Nat.le_refl _,by rw[l.sz];exact Nat.lt_succ_self _,l.gr,fun Z=>⟨_,R2.UJ (q _ Z) n.toNat,?_⟩⟩;rw[List.length_replicate];have k:(List.replicate n.toNat d.cells.toList).flatten.length=n.toNat*e.sz:=by rw[←Kd,←c];simp[size_madeCells]
  refine⟨k,.inr ⟨w.heap.size,n.toNat,_,rfl,aE,l.bk,Nat.le_refl _,by simp only[maxLen];omega,by rw[size_madeCells,r],?_⟩⟩;rw[r,←c,Kd,List.take_of_length_le (by rw[k,c];exact Nat.le_refl _)]
end
def Ke:Int⊕Bool→Value
 |.inl n=>.int .i64 n
 |.inr b=>.bool b
def H7(l:List (Int⊕Bool)):Value:=.agg (l.map Ke).toArray
def JQ:Int⊕Bool→Bool
 |.inl _=>true
 |.inr _=>false
def GX:List (Int⊕Bool)→List (Int⊕Bool)→Bool
 |[],[]=>true
 |.inl a::l,.inl b::m=>a==b&&GX l m
 |.inr a::l,.inr b::m=>a==b&&GX l m
 |_,_=>false
def O2(P:Program)(t:TypeId)(a:List Bool):Prop:=∀(w:World) (x y:List (Int⊕Bool)),x.map JQ=a→y.map JQ=a→(Op.equal t (H7 x) (H7 y)).run P w=.ok (GX x y) w
def LX(a b:TypeId):Nat→List Field→List Bool→Bool
 |_,[],[]=>true
 |i,f::c,k::d=>f.name !="_"&&Nat.beq f.type (cond k a b)&&Nat.beq f.offset i&&LX a b (i+1) c d
 |_,_,_=>false
section
variable{P:Program}{w:World}
theorem Jy{e:TypeId}(he:One P e){cs:Array Value}{i:Nat}{v:Value}(h:cs[i]?=some v):(part e cs i).run P w=.ok v w:=by
 simp only[part,Sem.run_bind,IY he,Result.andThen_ok,h];rfl
theorem Mt{l o:TypeId}(v:One P l)(u1:P.underlying l=some (.int .i64))(z:One P o)(aA:P.underlying o=some .bool)(d:Nat):∀(p:List Field) (c:List Bool) (x y b e:List (Int⊕Bool)),b.length=e.length→LX l o b.length p c=true→x.map JQ=c→y.map JQ=c→
  (Op.eqFields (d+1) ((b++x).map Ke).toArray ((e++y).map Ke).toArray p).run P w=.ok (GX x y) w
 |[],[],[],[],_,_,_,_,_,_=>by simp[Op.eqFields,GX]
 |[],_::_,_,_,_,_,_,h,_,_=>by simp[LX] at h
 |_::_,[],_,_,_,_,_,h,_,_=>by simp[LX] at h
 |[],[],_::_,_,_,_,_,_,h,_=>by simp at h
 |[],[],_,_::_,_,_,_,_,_,h=>by simp at h
 |_::_,_::_,[],_,_,_,_,_,h,_=>by simp at h
 |_::_,_::_,_,[],_,_,_,_,_,h=>by simp at h
 |f::p,k::c,g::x,i::y,b,e,aB,aC,r,s=>by
  simp only[LX,Bool.and_eq_true] at aC;obtain⟨⟨⟨t,a⟩,u⟩,aF⟩:=aC;have t:f.name≠"_":=by simpa using t
  have a:=Nat.eq_of_beq_eq_true a;have u:=Nat.eq_of_beq_eq_true u;simp only[List.map_cons,List.cons.injEq] at r s;have ih:=Mt v u1 z aA d p c x y (b++[g]) (e++[i]) (by simp[aB]) (by simpa using aF) r.2 s.2;rw[List.append_assoc,List.append_assoc] at ih;simp only[List.singleton_append] at ih;have aD:((b++g::x).map Ke).toArray[f.offset]?=some (Ke g):=by rw[u];simp
  have aE:((e++i::y).map Ke).toArray[f.offset]?=some (Ke i):=by rw[u,aB];simp
  cases k with
  |true=>
   cases g with
   |inr _=>simp[JQ] at r
   |inl m=>
    cases i with
    |inr _=>simp[JQ] at s
    |inl n=>
     have a:f.type=l:=a;have j:One P f.type:=by rw[a];exact v
     have q:=run_equalIn_int (P:=P) w d f.type .i64 .i64 m n (by rw[a];exact u1);simp only[Op.eqFields,t,ne_eq,not_false_eq_true,if_true,Sem.run_bind,Jy j aD,Jy j aE,Ke,q,Result.andThen_ok,GX];cases aG:(m==n)
     ·simp
     ·simpa using ih
  |false=>
   cases g with
   |inl _=>simp[JQ] at r
   |inr m=>
    cases i with
    |inl _=>simp[JQ] at s
    |inr n=>
     have a:f.type=o:=a;have j:One P f.type:=by rw[a];exact z
     have q:=run_equalIn_bool (P:=P) w d f.type m n (by rw[a];exact aA);simp only[Op.eqFields,t,ne_eq,not_false_eq_true,if_true,Sem.run_bind,Jy j aD,Jy j aE,Ke,q,Result.andThen_ok,GX];cases aG:(m==n)
     ·simp
     ·simpa using ih
theorem N6{K c d:Nat}{a:Array Field}{e:List Bool}(hK:P.underlying K=some (.struct a))(f:P.stoodInHeld K=false)(g:LX c d 0 a.toList e=true)(i:One P c)(u1:P.underlying c=some (.int .i64))(j:One P d)(l:P.underlying d=some .bool):O2 P K e:=by
 intro w x y m n;have b:P.fieldsOf K=a:=by simp[Program.fieldsOf,hK]
 have h:=run_equalIn_struct (P:=P) w 9999 K (x.map Ke).toArray (y.map Ke).toArray (by rw[b];exact hK) f;have k:=Mt (P:=P) (w:=w) i u1 j l 9998 a.toList e x y [] [] rfl g m n;simp only[List.nil_append] at k;rw[b,k] at h;exact h
end
section
variable{P:Program}{a:Act}{w:World}{dst:Option Tmp}{ty:TypeId}{pos:String}{B6:Array Edge}{g:Option (Nat×Bool)}
theorem O3{x y:Operand}{v1 v2:Value}{x1 x2:List (Int⊕Bool)}{b:List Bool}{t d:TypeId}(e:O2 P t b)(c:P.eqGuardType P.depth t=false)(f:a.eval x=v1)(h:a.eval y=v2)(i:v1=H7 x1)(j:v2=H7 x2)(k:x1.map JQ=b)(l:x2.map JQ=b):
  BJ P ⟨dst,.binOp .eql t x y d,ty,pos,B6,g⟩ a w (fun u w'=>u=.bool (GX x1 x2)∧w'=w):=by
 refine MK f h ?_;subst i;subst j;have m:=e w x1 x2 k l;have n:(eqGuard .eql t x y (H7 x1) (H7 x2)).run P w=.ok () w:=by
  simp[eqGuard,H7,program,Sem.run,c]
 simp only[Sem.run_bind,n,Result.andThen_ok];show(do pure (Value.bool (←Op.equal t (H7 x1) (H7 x2))):Sem Value).run P w=_;simp only[Sem.run_bind,m,Result.andThen_ok,Sem.run_pure]
theorem Ui{x y:Operand}{v1 v2:Value}{x1 x2:List (Int⊕Bool)}{b:List Bool}{t d:TypeId}(e:O2 P t b)(c:P.eqGuardType P.depth t=false)(f:a.eval x=v1)(h:a.eval y=v2)(i:v1=H7 x1)(j:v2=H7 x2)(k:x1.map JQ=b)(l:x2.map JQ=b):
  BJ P ⟨dst,.binOp .neq t x y d,ty,pos,B6,g⟩ a w (fun u w'=>u=.bool (!GX x1 x2)∧w'=w):=by
 refine MK f h ?_;subst i;subst j;have m:=e w x1 x2 k l;have n:(eqGuard .neq t x y (H7 x1) (H7 x2)).run P w=.ok () w:=by
  simp[eqGuard,H7,program,Sem.run,c]
 simp only[Sem.run_bind,n,Result.andThen_ok];show(do pure (Value.bool (!(←Op.equal t (H7 x1) (H7 x2)))):Sem Value).run P w=_;simp only[Sem.run_bind,m,Result.andThen_ok,Sem.run_pure]
theorem Rw{x y:Operand}{p q:Option Addr}{t u:TypeId}{b:Bool}(c:a.eval x=.pointer p)(d:a.eval y=.pointer q)(e:(Op.equal t (.pointer p) (.pointer q)).run P w=.ok b w):BJ P ⟨dst,.binOp .eql t x y u,ty,pos,B6,g⟩ a w (fun v w'=>v=.bool b∧w'=w):=
 Cu (by simp[execOp,c,d,binOp,e,eqGuard])
theorem K4 {α:Type} {e:D4 α} {aA t:TypeId} {x y:Operand} {b o k p c:Nat} {v:Value} {n0:Nat} {Z:Nat→Prop} {A:Option Addr} {xs:List α} {z z':α} {l:List Value} {n:Nat}
  (aB:AJ e aA n0 w Z A c xs) (aD:xs[k]?=some z) (aM:A=some ⟨b,o,none⟩) (aN:p=o+k*e.sz) (aO:a.eval x=.pointer (some ⟨b,p,none⟩)) (aP:a.eval y=v) (aQ:(P.info? t).map (·.size)=some n) (aR:v.cells.toList=l) (aS:l.length=n)
  (aT:∀u∈l,u.oneCell'=true) (aE:e.R w Z l z'):
  BJ P ⟨dst,.store t x y,ty,pos,B6,g⟩ a w (fun _ w'=>w.grownBy w' (ob A)∧∃Bg,R2 e w Z Bg (xs.set k z')∧DO w' n0 aA e.sz A (xs.set k z').length c Bg.flatten):=by
 obtain⟨Bg,f,aU⟩:=aB;obtain⟨a4,aY,aF,aZ⟩:=f.get aD;have a0:=e.len aF;have aG:=e.len aE;subst aM;subst aN;have aH:k<xs.length:=(List.getElem?_eq_some_iff.1 aD).1;have hlen:=f.len;have h:=f.lens;rcases aU.2 with⟨aI,h0⟩|⟨a5,cap,cur,aI,aJ,aV,q,aK,aC,i⟩
 ·omega
 ·cases aI;have a2:k*e.sz+e.sz≤xs.length*e.sz:=by
   have:(k+1)*e.sz≤xs.length*e.sz:=Nat.mul_le_mul_right _ aH;rw[Nat.add_mul,Nat.one_mul] at this;exact this
  have a3:xs.length*e.sz≤c*e.sz:=Nat.mul_le_mul_right _ q;have aL:Bk w b aA cur:=aV;refine(Bi (B3:=setCells cur (0+k*e.sz) l) aO aP aQ aL aR aS (by omega) aT rfl).mono ?_;rintro _ w' ⟨s1,s2,aW⟩;have d:=f.set aE k;refine⟨aW,_,d,by rw[d.I0],.inr ⟨b,c,setCells cur (0+k*e.sz) l,rfl,aJ,s2,by rw[List.length_set];exact q,aK,by rw[Eg 0];exact aC,?_⟩⟩;rw[List.length_set];rcases Nat.eq_zero_or_pos e.sz with h0|h0
  ·have aX:(Bg.set k l).flatten=[]:=List.eq_nil_of_length_eq_zero (by rw[d.I0,h0,Nat.mul_zero]);rw[aX,h0,Nat.mul_zero,List.take_zero]
  ·refine List.ext_getElem? fun j=>?_;rw[K2 aG h0 k Bg j h (by omega),List.getElem?_take,Array.getElem?_toList,FA _ _ _ _ (by omega)];have r:∀j:Nat,Bg.flatten[j]?=if j<xs.length*e.sz then cur[j]? else none:=fun j=>by
    rw[←i,List.getElem?_take,Array.getElem?_toList]
   by_cases m:j<xs.length*e.sz
   ·rw[if_pos m]
    by_cases s:k*e.sz≤j∧j<k*e.sz+e.sz
    ·rw[if_pos (by omega),if_pos s,show j-(0+k*e.sz)=j-k*e.sz by omega]
    ·rw[if_neg (by omega),if_neg s,r,if_pos m]
   ·rw[if_neg m,if_neg (by omega),r,if_neg m]
theorem GC{α:Type}{e:D4 α}{f t:TypeId}{x y:Operand}{b o k p c:Nat}{v:Value}{n0:Nat}{Z:Nat→Prop}{A:Option Addr}{xs:List α}{z z':α}{l:List Value}{n:Nat}
  (d:AJ e f n0 w Z A c xs)(i:xs[k]?=some z)(j:A=some ⟨b,o,none⟩)(m:p=o+k)(q:a.eval x=.pointer (some ⟨b,p,none⟩))(r:a.eval y=v)(s:(P.info? t).map (·.size)=some n)(aA:v.cells.toList=l)(aB:l.length=n)
  (aC:∀u∈l,u.oneCell'=true)(aD:e.R w Z l z')(h:e.sz=1:=by rfl):
  BJ P ⟨dst,.store t x y,ty,pos,B6,g⟩ a w (fun _ w'=>w.grownBy w' (ob A)∧∃Bg,R2 e w Z Bg (xs.set k z')∧DO w' n0 f e.sz A (xs.set k z').length c Bg.flatten):=
 K4 d i j (by rw[h,Nat.mul_one];exact m) q r s aA aB aC aD
end
theorem Kf{l:List Int}{i:Nat}{x:Int}(h:l[i]?=some x):(l.map fun n=>Value.int .i64 n)[i]?=some (.int .i64 x):=by rw[List.getElem?_map,h];rfl
theorem AJ.Uj {α:Type} {e:D4 α} {t:TypeId} {n0:Nat} {w:World} {Z:Nat→Prop} {A:Option Addr} {c k:Nat} {xs:List α} {x:α} (h:AJ e t n0 w Z A c xs) (h0:0<e.sz) (f:xs[k]?=some x):
  ∃b o cs,A=some ⟨b,o,none⟩∧e.R w Z cs x∧Rz w ZA (some ⟨b,o+k*e.sz,none⟩) cs:=by
 obtain⟨Bg,g,i⟩:=h;have q:Sl e w ZA A c xs:=AJ.all (t:=t) (n0:=n0) (Z:=Z) ⟨Bg,g,i⟩;obtain⟨b,o,B3,l,y,aB⟩:=q.elem h0 f;obtain⟨m,z,a,n⟩:=g.get f;refine⟨b,o,m,l,a,?_⟩;have hlen:m.length=e.sz:=e.len a;have r:=i.rd;rcases r.2 with s|⟨b',o',d,_,p,v⟩
 ·have:=g.I0;rw[s] at this;have aA:k<xs.length:=(List.getElem?_eq_some_iff.1 f).1;have aC:0<xs.length*e.sz:=Nat.mul_pos (by omega) h0;simp at this;omega
 ·rw[l] at d;cases d;refine .inr ⟨b,_,rfl,trivial,p,fun j u hu=>?_⟩;rw[Nat.add_assoc];refine v _ _ ?_;rw[←n,List.getElem?_take] at hu;split at hu
  ·simpa using hu
  ·cases hu
theorem AJ.HX{α:Type}{e:D4 α}{t:TypeId}{n0:Nat}{w:World}{Z:Nat→Prop}{A:Option Addr}{c k:Nat}{xs:List α}{x:α}(h:AJ e t n0 w Z A c xs)(d:e.sz=1)(f:xs[k]?=some x):
  ∃b o cs,A=some ⟨b,o,none⟩∧e.R w Z cs x∧Rz w ZA (some ⟨b,o+k,none⟩) cs:=by
 obtain⟨b,o,cs,g,i,a⟩:=h.Uj (by omega) f;rw[d,Nat.mul_one] at a;exact⟨b,o,cs,g,i,a⟩
def TC(w:World)(D:Nat→Prop)(M:World→Prop):Nat→World→Prop
 |0,w'=>Ext w w'
 |_+1,w'=>Bj D w w'∧M w'
section
variable{w w' Bz:World}{D:Nat→Prop}{M:World→Prop}{ph:Nat}
theorem F3(h:TC w D M ph w'):Bj D w w':=by
 cases ph with
 |zero=>exact Gq h
 |succ=>exact h.1
theorem BI(h:TC w D M ph w')(a:ph=0):Ext w w':=by subst a;exact h
theorem Hs(c:∀a b,M a→Ext a b→M b)(h:TC w D M ph w')(g:Ext w' Bz):TC w D M ph Bz:=by
 cases ph with
 |zero=>exact Ext.trans h g
 |succ=>exact⟨(show Bj D w w' from h.1).trans (Gq g),c _ _ h.2 g⟩
theorem Ic(h:TC w D M ph w')(a:ph=0)(g:Bj D w' Bz)(b:M Bz):TC w D M (ph+1) Bz:=by
 subst a;exact⟨(Gq h).trans g,b⟩
theorem Ij{r:Option Nat}(g:w.grownBy w' r):Bj (FU FN [r]) w w':=Iw g fun k e=>.inr (by rw[e];exact List.mem_singleton_self _)
end
section
variable{F F':Nat→Prop}{B:List (Option Nat)}{w0 w w':World}{L M:List (Option Nat)}
theorem Hp.O4{Z:Nat→Prop}{a:Nat}(h:Hp F B w0 L w)(c:w.heap.size≤a):Mv w' (ZZ FN [] FN a []) w' (ZZ F B Z w0.heap.size L):=GW fun b d _=>by
 rcases d with⟨_,e,_⟩|⟨f,_⟩
 ·exact e.elim
 ·refine .inr ⟨Nat.le_trans h.sz (Nat.le_trans c f),fun hm=>?_⟩;have:=(h.lo b hm).1;omega
theorem Hp.Rx{α:Type}{e:D4 α}{t:TypeId}{A:Option Addr}{c:Nat}{xs:List α}{Z Z':Nat→Prop}(h:Hp F B w0 L w)(b:∀w Z w' Z' cs x,e.R w Z cs x→e.R w' Z' cs x)(a:AJ e t w.heap.size w' Z' A c xs):AJ e t w0.heap.size w' Z A c xs:=
 AJ.O0 b (a.base (n1:=w0.heap.size) fun k d=>Nat.le_trans h.sz (a.ge k d))
theorem Hp.Lw{α:Type}{e:D4 α}{t:TypeId}{A:Option Addr}{c:Nat}{xs:List α}{Z a:Nat→Prop}(h:Hp F B w0 L w)(b:∀w Z w' Z' cs x,e.R w Z cs x→e.R w' Z' cs x)(d:AJ e t w.heap.size w' a A c xs):Sl e w' (ZZ F B Z w0.heap.size L) A c xs:=
 (AJ.O0 b d).sl fun k _ h0=>h.kn h0
theorem Hp.LY (h:Hp F B w0 L w) (f:Hp F B w0 L w') {b:Nat} (p:w.heap.size≤b) (l:b<w'.heap.size):Hp F B w0 (some b::L) w':=by
 refine⟨f.ch,fun k a=>?_,?_,h.ff⟩
 ·rcases List.mem_cons.1 a with e|a
  ·cases e;exact⟨l,fun m=>absurd (h.ff _ m) (by have:=h.sz;omega),fun n=>absurd n (by have:=h.sz;omega)⟩
  ·exact f.lo k a
 ·have key:∀(j:Nat) (x:Nat),L[j]?=some (some x)→x≠b:=fun j x o e=>by
   have:=(h.lo x (List.mem_of_getElem? o)).1;omega
  intro i j x g hi c;cases i with
  |zero=>
   cases j with
   |zero=>exact g rfl
   |succ j=>
    have d:b=x:=by simpa using hi
    exact key j x (by simpa using c) d.symm
  |succ i=>
   cases j with
   |zero=>
    have d:b=x:=by simpa using c
    exact key i x (by simpa using hi) d.symm
   |succ j=>exact h.ap i j x (by omega) (by simpa using hi) (by simpa using c)
theorem FX{Z:Nat→Prop}{n0:Nat}{b:Nat}(hm:Mv w (ZZ F B Z n0 L) w' (ZZ F B Z n0 L))(h:w.heap.size≤b):Mv w (ZZ F B Z n0 L) w' (ZZ F B Z n0 (some b::L)):=
 ⟨hm.size,fun k c d=>⟨(hm.stay k c d).1.imp id fun⟨f,g⟩=>⟨f,fun a=>by
  rcases List.mem_cons.1 a with e|a
  ·cases e;omega
  ·exact g a⟩,(hm.stay k c d).2⟩⟩
end
def O5 (w:World) (R:World→Value→World→Prop):JO Ext:=
 ⟨fun v a=>∃w1 w2,Ext w w1∧R w1 v w2∧Ext w2 a,fun _ _ _ ⟨w1,w2,b,c,d⟩ g=>⟨w1,w2,b,c,Ext.trans d g⟩⟩
def IP(w:World)(R:World→Value→World→Prop)(a:World):Prop:=∃v w1 w2,Ext w w1∧R w1 v w2∧Ext w2 a
theorem Hk{w:World}{R:World→Value→World→Prop}:∀a b,IP w R a→Ext a b→IP w R b:=fun _ _ ⟨v,w1,w2,c,d,e⟩ g=>⟨v,w1,w2,c,d,Ext.trans e g⟩
def Ly(_:World):Prop:=True
theorem Kg:∀a b,Ly a→Ext a b→Ly b:=fun _ _ _ _=>trivial
def Hc(n:Nat)(w:World):List Nat→Prop
 |[]=>True
 |b::l=>n≤b∧b<w.heap.size∧(l.all fun x=> !Nat.beq b x)=true∧Hc n w l
section
variable{F F':Nat→Prop}{B:List (Option Nat)}{w0 w w':World}{L M:List (Option Nat)}{Z:Nat→Prop}
theorem Hc.mem{n:Nat}:∀{l:List Nat},Hc n w l→∀b∈l,n≤b∧b<w.heap.size
 |[],_,_,h=>by cases h
 |x::l,h,b,a=>by
  rcases List.mem_cons.1 a with rfl|a
  ·exact⟨h.1,h.2.1⟩
  ·exact Hc.mem h.2.2.2 b a
theorem Hc.grow{n a:Nat}(b:a≤n)(c:w.heap.size≤w'.heap.size):∀{l:List Nat},Hc n w l→Hc a w' l
 |[],_=>trivial
 |_::_,h=>⟨Nat.le_trans b h.1,Nat.lt_of_lt_of_le h.2.1 c,h.2.2.1,Hc.grow b c h.2.2.2⟩
theorem Hp.Ni(h:Hp F B w0 L w):∀{l:List Nat},Hp F B w0 L w'→Hc w.heap.size w' l→Hp F B w0 (l.map some++L) w'
 |[],c,_=>c
 |b::l,c,a=>by
  have d:=Hp.Ni h c a.2.2.2;refine⟨d.ch,fun k f=>?_,?_,h.ff⟩
  ·rcases List.mem_cons.1 f with e|f
   ·cases e;exact⟨a.2.1,fun p=>absurd (h.ff _ p) (by have:=h.sz;have:=a.1;omega),fun n=>absurd n (by have:=h.sz;have:=a.1;omega)⟩
   ·exact d.lo k f
  ·have key:∀(j:Nat) (x:Nat),(l.map some++L)[j]?=some (some x)→x≠b:=fun j x q e=>by
    subst e;have hm:=List.mem_of_getElem? q;rcases List.mem_append.1 hm with hm|hm
    ·obtain⟨y,r,e⟩:=List.mem_map.1 hm;cases e;have:=List.all_eq_true.1 a.2.2.1 x r;rw[Nat.beq_refl] at this;cases this
    ·have:=(h.lo x hm).1;have:=a.1;omega
   intro i j x o hi g;cases i with
   |zero=>
    cases j with
    |zero=>exact o rfl
    |succ j=>
     have m:b=x:=by simpa using hi
     exact key j x (by simpa using g) m.symm
   |succ i=>
    cases j with
    |zero=>
     have m:b=x:=by simpa using g
     exact key i x (by simpa using hi) m.symm
    |succ j=>exact d.ap i j x (by omega) (by simpa using hi) (by simpa using g)
theorem Hp.LZ(h:Hp F B w0 L w)(g:Ext w w'){l:List Nat}(a:Hc w.heap.size w' l):Hp F B w0 (l.map some++L) w':=h.Ni (h.ext g) a
theorem EX{n0:Nat}{l:List Nat}(hm:Mv w (ZZ F B Z n0 L) w' (ZZ F B Z n0 L))(d:Hc w.heap.size w' l):Mv w (ZZ F B Z n0 L) w' (ZZ F B Z n0 (l.map some++L)):=
 ⟨hm.size,fun k c b=>⟨(hm.stay k c b).1.imp id fun⟨f,g⟩=>⟨f,fun a=>by
  rcases List.mem_append.1 a with a|a
  ·obtain⟨y,h,e⟩:=List.mem_map.1 a;cases e;have:=(d.mem k h).1;omega
  ·exact g a⟩,(hm.stay k c b).2⟩⟩
theorem O6{b c:Nat}(f:w.heap.size≤b)(a:b<w'.heap.size)(g:w.heap.size≤c)(d:c<w'.heap.size)(e:b≠c):Hc w.heap.size w' [b,c]:=
 ⟨f,a,by
  have:Nat.beq b c=false:=by
   cases h:Nat.beq b c with
   |false=>rfl
   |true=>exact absurd (Nat.eq_of_beq_eq_true h) e
  simp[this],g,d,rfl,trivial⟩
theorem Hp.QI (h:Hp F B w0 L w):∀(l:List Nat) (c:List Nat),Gj L c (l.map some)→Ja c=true→(∀b∈l,w0.heap.size≤b)→Hc w0.heap.size w l
 |[],_,_,_,_=>trivial
 |b::l,[],a,_,_=>a.elim
 |b::l,j::c,a,e,d=>by
  simp only[Ja,Bool.and_eq_true] at e;refine⟨d b (List.mem_cons_self ..),(h.lo b (List.mem_of_getElem? a.1)).1,?_,h.QI l c a.2 e.2 fun x f=>d x (List.mem_cons_of_mem _ f)⟩;rw[List.all_eq_true];intro x f;cases i:Nat.beq b x with
  |false=>rfl
  |true=>
   have g:=Nat.eq_of_beq_eq_true i;subst g;have k:=h.BC (F':=FN) j a.1 c e.1 a.2 (fun _ h=>h.elim);exact absurd (.inr (List.mem_map.2 ⟨b,f,rfl⟩)) k
end
section
variable{P:Program}{N:Nat}{Q:Exit→Act→World→Prop}{a:Act}{l:Env}{w:World}
def L0(a:Act):Act:={a with defers:=[]}
theorem Kh(a:Act):∀l:Env,BU (L0 a) l=L0 (BU a l)
 |[]=>rfl
 |(d,v)::l=>by simp only[BU,Kh a l];rfl
theorem LA{D:Nat}{fn:Func}{R:Value→World→Prop}(c:w.heap[D]?=some (.deferred (some [])))(h:∀w',GB D w w'→LV X0 N (bodyPost P fn (fun e w'=>∃v,e=.returned v∧R v w')) .ret (L0 a) l w'):
  LV (X1 D) N (PM P fn R) .ret a l w:=fun s=>by
 have d:St X0 N (L0 a) l:=⟨s.sz,rfl,s.lt⟩;obtain⟨_,v,b,f⟩:=h _ (GD w D (.deferred none)) d;show LeavesInM Fence.wide 0 P fn _ _ (BU a l).defers .returning w;rw[Dq,show a.defers=mark D from s.df];refine⟨by simp,.inl ⟨D,_,rfl,run_takeDeferred c,?_⟩⟩;rw[Kh] at b;exact⟨v,b,f⟩
theorem Og{D:Nat}{fn:Func}{R:Value→World→Prop}(c:w.heap[D]?=some (.deferred (some [])))(h:∀w',GB D w w'→LV X0 N (bodyPost P fn (fun e w'=>∃v,e=.returned v∧R v w')) .normal (L0 a) l w'):
  LV (X1 D) N (PM P fn R) .normal a l w:=fun s=>by
 have d:St X0 N (L0 a) l:=⟨s.sz,rfl,s.lt⟩;obtain⟨_,v,b,f⟩:=h _ (GD w D (.deferred none)) d;show LeavesInM Fence.wide 0 P fn _ _ (BU a l).defers .returning w;rw[Dq,show a.defers=mark D from s.df];refine⟨by simp,.inl ⟨D,_,rfl,run_takeDeferred c,?_⟩⟩;rw[Kh] at b;exact⟨v,b,f⟩
end
theorem Oh{α:Type}{b:Bool}{x:Option α}{r:α}(h:cond b none x=some r):b=false∧x=some r:=by
 cases b with
 |true=>cases h
 |false=>exact⟨rfl,h⟩
def C3(xs:List Int):List Int:=xs.mergeSort fun x y=>decide (x≤y)
theorem Iz(xs:List Int):(C3 xs).length=xs.length:=List.length_mergeSort _
theorem PG{w:World}{Z:Nat→Prop}:∀{Bg:List (List Value)} {xs:List Int},R2 (AG .i64) w Z Bg xs→Bg.flatten=Cm xs
 |[],[],_=>rfl
 |c::Bg,x::xs,h=>by
  have a:c=[.int .i64 x]:=h.1;rw[List.flatten_cons,PG h.2,a];rfl
 |[],_::_,h=>h.elim
 |_::_,[],h=>h.elim
theorem PH{w:World}{Z:Nat→Prop}:∀xs:List Int,R2 (AG .i64) w Z (xs.map fun x=>[.int .i64 x]) xs
 |[]=>trivial
 |_::xs=>⟨rfl,PH xs⟩
theorem QJ(xs:List Int):(xs.map fun x=>[Value.int .i64 x]).flatten=Cm xs:=by
 induction xs with
 |nil=>rfl
 |cons x xs ih=>rw[List.map_cons,List.flatten_cons,ih];rfl
theorem O7{t:TypeId}{n0:Nat}{w:World}{Z:Nat→Prop}{A:Option Addr}{c:Nat}{xs:List Int}(h:AJ (AG .i64) t n0 w Z A c xs):DO w n0 t 1 A xs.length c (Cm xs):=by
 obtain⟨Bg,a,b⟩:=h;rw[←PG a];exact b
theorem KC{t:TypeId}{n0:Nat}{w:World}{Z:Nat→Prop}{A:Option Addr}{c:Nat}{xs:List Int}(h:DO w n0 t 1 A xs.length c (Cm xs)):AJ (AG .i64) t n0 w Z A c xs:=
 ⟨_,PH xs,by rw[QJ];exact h⟩
theorem Uk{α β:Type}{x:Option β}{f:α→Option β}{r:β}(h:Option.elim none x f=some r):x=some r:=h
theorem Ul{α β:Type}{a:α}{x:Option β}{f:α→Option β}{r:β}(h:Option.elim (some a) x f=some r):f a=some r:=h
theorem Jz{F:Nat→Prop}{b:Nat}{L:List (Option Nat)}(h:¬F b∧some b∉L):¬F b∧some b∉L++[none]:=⟨h.1,fun hm=>by
 rcases List.mem_append.1 hm with a|a
 ·exact h.2 a
 ·simp at a⟩
theorem Bj.Oi{F:Nat→Prop}{C:List (Option Nat)}{o:Option Nat}{w w':World}(g:Bj (FU F (C++[o]++[none])) w w'):Bj (FU (FU F C) [o]) w w':=g.mono fun k h=>by
 rcases h with h|h
 ·exact .inl (.inl h)
 ·rcases List.mem_append.1 h with a|a
  ·rcases List.mem_append.1 a with b|b
   ·exact .inl (.inr b)
   ·exact .inr b
  ·simp at a
theorem Sl.Ry{α β:Type}{e:D4 α}{ev:β→Value}{F:Nat→Prop}{B L:List (Option Nat)}{Z:Nat→Prop}{n0 r n:Nat}{w:World}{i:List (List Int×β)}{A:Option Addr}{c:Nat}{xs:List α}
  (j:∀w Z w' Z' cs x,e.R w Z cs x→e.R w' Z' cs x)(hm:Cn ev w r n i)(h:Sl e w (ZZ F B Z n0 L) A c xs):Sl e w (ZZ F B Z n0 (some r::L)) A c xs:=by
 obtain⟨k,m,Bg,p,d⟩:=h;refine⟨k,m,Bg,p.free j,?_⟩;rcases d with d|⟨b,o,q,s,t,f⟩
 ·exact .inl d
 ·cases g:Bg.flatten with
  |nil=>exact .inl rfl
  |cons u l=>
   rw[g] at f;refine .inr ⟨b,o,q,s.imp id fun⟨v,y⟩=>⟨v,fun a=>?_⟩,t,f⟩;rcases List.mem_cons.1 a with e|a
   ·cases e;obtain⟨es,aA,z,_⟩:=hm;have:=f 0 u rfl;unfold World.cell? at this;simp[z] at this
   ·exact y a
section
variable{P:Program}{N:Nat}{a:Act}{l:Env}{w:World}
theorem Hd{fn:Func}{r1 r2 n:ResultVar}{v v' IW:Value}{R:Value→World→Prop}(g:fn.results= #[r1,r2,n])(x:Nb P a l w r1 v)(q:Nb P a l w r2 v')(i:Nb P a l w n IW)(h:R (.tuple #[v,v',IW]) w):
  LV X0 N (bodyPost P fn (fun e w'=>∃v,e=.returned v∧R v w')) .ret a l w:=fun s=>by
 refine bodyPost_ret (v:=.tuple #[v,v',IW]) ?_ (by rw[Dq,s.df]) ⟨_,rfl,h⟩;cases r1 with
 |tmp t0=>
  have d:(BU a l).tmps.getD t0 undef=v:=ee s x;simp only[Array.getD_eq_getD_getElem?] at d;cases r2 with
  |tmp t1=>
   have c:(BU a l).tmps.getD t1 undef=v':=ee s q;simp only[Array.getD_eq_getD_getElem?] at c;cases n with
   |tmp t2=>
    have b:(BU a l).tmps.getD t2 undef=IW:=ee s i;simp only[Array.getD_eq_getD_getElem?] at b;simp[results,g,d,c,b]
   |cell j t2=>
    obtain⟨f,k,m⟩:=i;have b:(BU a l).tmps.getD j undef=.pointer (some f):=ee s k;simp only[Array.getD_eq_getD_getElem?] at b;simp[results,g,d,c,b,asAddr,m]
  |cell t t1=>
   obtain⟨o,u,p⟩:=q;have c:(BU a l).tmps.getD t undef=.pointer (some o):=ee s u;simp only[Array.getD_eq_getD_getElem?] at c;cases n with
   |tmp t2=>
    have b:(BU a l).tmps.getD t2 undef=IW:=ee s i;simp only[Array.getD_eq_getD_getElem?] at b;simp[results,g,d,c,asAddr,p,b]
   |cell j t2=>
    obtain⟨f,k,m⟩:=i;have b:(BU a l).tmps.getD j undef=.pointer (some f):=ee s k;simp only[Array.getD_eq_getD_getElem?] at b;simp[results,g,d,c,asAddr,p,b,asAddr,m]
 |cell z t0=>
  obtain⟨y,aA,r⟩:=x;have d:(BU a l).tmps.getD z undef=.pointer (some y):=ee s aA;simp only[Array.getD_eq_getD_getElem?] at d;cases r2 with
  |tmp t1=>
   have c:(BU a l).tmps.getD t1 undef=v':=ee s q;simp only[Array.getD_eq_getD_getElem?] at c;cases n with
   |tmp t2=>
    have b:(BU a l).tmps.getD t2 undef=IW:=ee s i;simp only[Array.getD_eq_getD_getElem?] at b;simp[results,g,d,asAddr,r,c,b]
   |cell j t2=>
    obtain⟨f,k,m⟩:=i;have b:(BU a l).tmps.getD j undef=.pointer (some f):=ee s k;simp only[Array.getD_eq_getD_getElem?] at b;simp[results,g,d,asAddr,r,c,b,asAddr,m]
  |cell t t1=>
   obtain⟨o,u,p⟩:=q;have c:(BU a l).tmps.getD t undef=.pointer (some o):=ee s u;simp only[Array.getD_eq_getD_getElem?] at c;cases n with
   |tmp t2=>
    have b:(BU a l).tmps.getD t2 undef=IW:=ee s i;simp only[Array.getD_eq_getD_getElem?] at b;simp[results,g,d,asAddr,r,c,asAddr,p,b]
   |cell j t2=>
    obtain⟨f,k,m⟩:=i;have b:(BU a l).tmps.getD j undef=.pointer (some f):=ee s k;simp only[Array.getD_eq_getD_getElem?] at b;simp[results,g,d,asAddr,r,c,asAddr,p,b,asAddr,m]
end
theorem S7{w w':World}{Z Z' Q:Nat→Prop}(h:Mv w Z w' Z'):Mv w (fun b=>Z b∧Q b) w' (fun b=>Z' b∧Q b):=⟨h.size,fun b a c=>⟨⟨(h.stay b a.1 c).1,a.2⟩,(h.stay b a.1 c).2⟩⟩
def eF(n:Nat):D4 (Bool×List Int):=
 ⟨1,fun w Z cs x=>∃A c,cs=[.slice A x.2.length c]∧Sl (AG .i64) w (fun b=>Z b∧(x.1=true→n≤b)) A c x.2,fun⟨_,_,h,_⟩=>by rw[h];rfl,fun⟨_,_,h,_⟩=>by rw[h];simp[Value.oneCell'],
  fun⟨A,c,a,d⟩ g=>⟨A,c,a,d.mv (S7 g)⟩⟩
theorem S8{n:Nat}{w:World}{Z:Nat→Prop}:∀{Bg:List (List Value)} {xs:List (List Int)},R2 (BF (AG .i64)) w Z Bg xs→R2 (eF n) w Z Bg (xs.map fun x=>(false,x))
 |[],[],_=>trivial
 |_::_,_::_,⟨⟨A,c,a,b⟩,h⟩=>⟨⟨A,c,a,b.mv (GW fun _ d _=>⟨d,fun e=>by cases e⟩)⟩,S8 h⟩
 |[],_::_,h=>h.elim
 |_::_,[],h=>h.elim
theorem S9{n:Nat}{w:World}{Z:Nat→Prop}:∀{Bg:List (List Value)} {xs:List (Bool×List Int)},(∀y∈xs,y.1=true)→R2 (eF n) w Z Bg xs→R2 (BF (AG .i64)) w (fun b=>n≤b) Bg (xs.map Prod.snd)
 |[],[],_,_=>trivial
 |_::_,x::_,a,⟨⟨A,c,d,e⟩,h⟩=>⟨⟨A,c,d,e.mv (GW fun _ f _=>f.2 (a x (List.mem_cons_self ..)))⟩,S9 (fun y g=>a y (List.mem_cons_of_mem _ g)) h⟩
 |[],_::_,_,h=>h.elim
 |_::_,[],_,h=>h.elim
theorem Um{t n0 n:Nat}{w:World}{Z:Nat→Prop}{A:Option Addr}{c:Nat}{xs:List (List Int)}(h:AJ (BF (AG .i64)) t n0 w Z A c xs):AJ (eF n) t n0 w Z A c (xs.map fun x=>(false,x)):=by
 obtain⟨Bg,a,b⟩:=h;exact⟨Bg,S8 a,by rw[List.length_map];exact b⟩
theorem Un{t n0 n:Nat}{w:World}{Z:Nat→Prop}{A:Option Addr}{c:Nat}{xs:List (Bool×List Int)}(a:∀y∈xs,y.1=true)(h:AJ (eF n) t n0 w Z A c xs):AJ (BF (AG .i64)) t n0 w (fun b=>n≤b) A c (xs.map Prod.snd):=by
 obtain⟨Bg,d,e⟩:=h;exact⟨Bg,S9 a d,by rw[List.length_map];exact e⟩
theorem Ta{a:List (Bool×List Int)}{k:Nat}{x:List Int}(h:(a.map Prod.snd)[k]?=some x):∃b,a[k]?=some (b,x):=by
 rw[List.getElem?_map] at h;cases c:a[k]? with
 |none=>rw[c] at h;cases h
 |some y=>rw[c] at h;cases h;exact⟨y.1,rfl⟩
end Go.Proofs.YtkljfdkmjdjpfaaGreat
end
section
namespace Go.Proofs.YtkljfdkmjdjpfaaGreat
open Go.RowKit
theorem GQ{b:Nat}{t:TypeId}:∀(l:List Value) (o:Nat) {w:World} {cs:Array Value},Bk w b t cs→Bk (w.setCells b o l) b t (setCells cs o l)∧w.grownBy (w.setCells b o l) (some b)
 |[],o,w,cs,h=>⟨h,World.grownBy.refl w _⟩
 |v::l,o,w,cs,h=>by
  have c:Bk (w.setCell ⟨b,o,none⟩ v) b t (cs.setIfInBounds o v):=by
   unfold Bk at h⊢;simp[World.setCell,Array.getElem?_modify,h]
  have g1:GB b w (w.setCell ⟨b,o,none⟩ v):=⟨rfl,rfl,rfl,by simp,fun k _ a=>Below.heap_setCell w ⟨b,o,none⟩ v k (by simpa using a)⟩;have ih:=GQ l (o+1) c;exact⟨ih.1,World.grownBy.trans g1 ih.2⟩
def CN (xs:List Int) (i:Int) (x:Int):List Int:=xs.take i.toNat++x::xs.drop i.toNat
theorem KQ(xs:List Int)(i:Int)(x:Int):(CN xs i x).length=xs.length+1:=by
 unfold CN;simp;omega
theorem QK{w w':World}{b:Nat}{o:Obj}(a:b=w.heap.size)(g:World.grownBy (w.alloc o) w' (some b)):Ext w w':=
 ⟨g.os,g.tape,g.output,by have:=g.size;simp at this;omega,fun k c _=>by
  have d:=g.block k (by simp;omega) (by rw[a];intro e;cases e;omega);rw[d];exact(World.grownBy_alloc w o none).block k c (by simp)⟩
theorem Ie{w:World}{base t g c:Nat}{cur:Array Value}{l:List Value}(a:base≤g)(d:Bk w g t cur)(e:l.length≤c)(f:c≤maxLen)(i:cur.size=c)(h:∀j,j<l.length→cur[j]?=l[j]?):DO w base t 1 (some ⟨g,0,none⟩) l.length c l:=by
 refine⟨by simp,.inr ⟨g,c,cur,rfl,a,d,e,f,by simp[i],?_⟩⟩;rw[Nat.mul_one];apply List.ext_getElem?;intro j;rw[List.getElem?_take];split
 ·rename_i b
  rw[←h j b];simp
 ·rename_i b
  rw[List.getElem?_eq_none (by omega)]
theorem Tb{b:Bool}(h:b=false)(k:b=true):False:=by rw[h] at k;cases k
section
variable{F F':Nat→Prop}{B:List (Option Nat)}{w0 w w' Bz:World}{Z:Nat→Prop}{L M:List (Option Nat)}
theorem Nj(h:Ext w w'){r:Option Nat}(g:w'.grownBy Bz r)(b:∀k,r=some k→w.heap.size≤k):Ext w Bz:=
 ⟨g.os.trans h.os,g.tape.trans h.tape,g.output.trans h.output,Nat.le_trans h.size g.size,fun k a _=>(g.block k (Nat.lt_of_lt_of_le a h.size) (fun e=>by have:=b k e.symm;omega)).trans (h.block k a (by simp))⟩
theorem Ik{x y:Option Nat}{n:Nat}(a:∀k,x=some k→n≤k)(b:n≤w'.heap.size)(c:∀k,y=some k→(x=some k∨w'.heap.size≤k)∧k<Bz.heap.size):∀k,y=some k→n≤k:=fun k d=>
 (c k d).1.elim (a k) (fun h=>Nat.le_trans b h)
theorem Nk{b:Nat}{t:TypeId}{cs:Array Value}(nb:IX w' Bz b t cs):∀k,ob (some ⟨b,0,none⟩)=some k→((none:Option Nat)=some k∨w'.heap.size≤k)∧k<Bz.heap.size:=fun k e=>by
 cases e;exact⟨.inr (Nat.le_of_eq nb.ET.symm),nb.bk.lt⟩
theorem Tc{α:Type}{e:D4 α}{t:TypeId}{A:Option Addr}{c:Nat}{xs:List α}{Z:Nat→Prop}(h:AJ e t w'.heap.size Bz Z A c xs):∀k,ob A=some k→((none:Option Nat)=some k∨w'.heap.size≤k)∧k<Bz.heap.size:=fun k e=>⟨.inr (h.ge k e),h.JP k e⟩
end
def eT:D4 (Bool×(Option Addr×Nat)×List Int):=
 ⟨1,fun w Z cs x=>∃A c,cs=[.slice A x.2.2.length c]∧(x.1=true→A=x.2.1.1∧c=x.2.1.2)∧(x.1=false→Sl (AG .i64) w Z A c x.2.2),fun⟨_,_,h,_⟩=>by rw[h];rfl,fun⟨_,_,h,_⟩=>by rw[h];simp[Value.oneCell'],
  fun⟨A,c,a,b,d⟩ g=>⟨A,c,a,b,fun e=>(d e).mv g⟩⟩
theorem Td{w:World}{Z:Nat→Prop}:∀{Bg:List (List Value)} {xs:List (List Int)},R2 (BF (AG .i64)) w Z Bg xs→R2 eT w Z Bg (xs.map fun x=>(false,(none,0),x))
 |[],[],_=>trivial
 |_::_,_::_,⟨⟨A,c,a,b⟩,h⟩=>⟨⟨A,c,a,fun e=>(by cases e),fun _=>b⟩,Td h⟩
 |[],_::_,h=>h.elim
 |_::_,[],h=>h.elim
theorem Te{w:World}{Z:Nat→Prop}:∀{Bg:List (List Value)} {xs:List (Bool×(Option Addr×Nat)×List Int)},(∀y∈xs,y.1=true→Sl (AG .i64) w Z y.2.1.1 y.2.1.2 y.2.2)→R2 eT w Z Bg xs→R2 (BF (AG .i64)) w Z Bg (xs.map fun y=>y.2.2)
  |[],[],_,_=>trivial
  |_::_,x::_,b,⟨⟨A,c,d,e,f⟩,h⟩=>⟨by
      cases a:x.1 with
      |true=>
        obtain⟨rfl,rfl⟩:=e a;exact⟨_,_,d,b x (List.mem_cons_self ..) a⟩
      |false=>exact⟨A,c,d,f a⟩,Te (fun y g=>b y (List.mem_cons_of_mem _ g)) h⟩
  |[],_::_,_,h=>h.elim
  |_::_,[],_,h=>h.elim
theorem Uo{t n0:Nat}{w:World}{Z:Nat→Prop}{A:Option Addr}{c:Nat}{xs:List (List Int)}(h:AJ (BF (AG .i64)) t n0 w Z A c xs):AJ eT t n0 w Z A c (xs.map fun x=>(false,(none,0),x)):=by
 obtain⟨Bg,a,b⟩:=h;exact⟨Bg,Td a,by rw[List.length_map];exact b⟩
theorem Up{t n0:Nat}{w:World}{Z:Nat→Prop}{A:Option Addr}{c:Nat}{xs:List (Bool×(Option Addr×Nat)×List Int)}(a:∀y∈xs,y.1=true→Sl (AG .i64) w Z y.2.1.1 y.2.1.2 y.2.2)(h:AJ eT t n0 w Z A c xs):AJ (BF (AG .i64)) t n0 w Z A c (xs.map fun y=>y.2.2):=by
 obtain⟨Bg,b,d⟩:=h;exact⟨Bg,Te a b,by rw[List.length_map];exact d⟩
def I2 (N i:Int):Nat→Int→List (List Int)→Option (List (List Int))
  |0,_,_=>none
  |a+1,k,s=>cond (decide (k<N)) (cond (k !=i) ((idx s (0:Int)).bind fun x=>(Fz (((x.length+([k]:List Int).length:Nat):Int)≤140737488355328/8)).bind fun _=>(idx s (0:Int)).bind fun _=>(i64 (k+1)).bind fun _=>I2 N i a (k+1) (s.set 0 (x++[k])))
      ((i64 (k+1)).bind fun _=>I2 N i a (k+1) s)) (some s)
theorem qz{X:Ctx}{N:Nat}{a:Act}{l:Env}(st:St X N a l):(BU a l).tmps.size=N:=(HT _ _).trans st.sz
theorem qd{X:Ctx}{N:Nat}{a:Act}{l:Env}(st:St X N a l):(BU a l).defers=X.ds:=(Dq _ _).trans st.df
theorem sp{X:Ctx}{N:Nat}{a:Act}{l:Env}(st:St X N a l)(k:Nat){v:Value}(h:lk (sl a k) l k=v):sl (BU a l) k=v:=(HC st k).trans h
theorem Hp.nb{F:Nat→Prop}{B L:List (Option Nat)}{w0 w w':World}{b:Nat}{t:TypeId}{cs:Array Value}(h:Hp F B w0 L w)(n:IX w w' b t cs):Hp F B w0 (some b::L) w':=h.new n.gr (Nat.le_of_eq n.ET.symm) (Nat.lt_of_lt_of_eq (Nat.lt_succ_self _) n.sz.symm)
theorem Hp.BN{F:Nat→Prop}{B L:List (Option Nat)}{w0 w w':World}{b:Nat}{t:TypeId}{cs:Array Value}(h:Hp F B w0 L w)(n:IX w w' b t cs):w0.heap.size≤b:=by rw[n.ET];exact h.sz
theorem Ax{F:Nat→Prop}{B L:List (Option Nat)}{Z:Nat→Prop}{w w':World}{n0 b:Nat}{t:TypeId}{cs:Array Value}(n:IX w w' b t cs):Mv w (ZZ F B Z n0 L) w' (ZZ F B Z n0 (some b::L)):=D0 n.gr (Nat.le_of_eq n.ET.symm)
theorem X2{b c:Sort _}{p:b→c→Prop}{C:Prop}(h:∃a x1,p a x1)(k:∀a x1,p a x1→C):C:=h.elim fun a h=>h.elim fun x1 h=>k a x1 h
theorem X4{c d e f:Sort _}{p:c→d→e→f→Prop}{C:Prop}(h:∃a x1 x2 b,p a x1 x2 b)(k:∀a x1 x2 b,p a x1 x2 b→C):C:=h.elim fun a h=>h.elim fun x1 h=>h.elim fun x2 h=>h.elim fun b h=>k a x1 x2 b h
theorem Y2{a0 a1 r C:Prop}(h:a0∧a1∧r)(k:a0→a1→r→C):C:=h.elim fun a h=>h.elim fun x1 h=>k a x1 h
theorem Y4{a0 a1 a2 a3 r C:Prop}(h:a0∧a1∧a2∧a3∧r)(k:a0→a1→a2→a3→r→C):C:=h.elim fun a h=>h.elim fun x1 h=>h.elim fun x2 h=>h.elim fun b h=>k a x1 x2 b h
theorem Y8{a0 a1 a2 a3 a4 a5 a b r C:Prop}(h:a0∧a1∧a2∧a3∧a4∧a5∧a∧b∧r)(k:a0→a1→a2→a3→a4→a5→a→b→r→C):C:=h.elim fun c h=>h.elim fun x1 h=>h.elim fun x2 h=>h.elim fun d h=>h.elim fun e h=>h.elim fun f h=>h.elim fun g h=>h.elim fun i h=>k c x1 x2 d e f g i h
end Go.Proofs.YtkljfdkmjdjpfaaGreat
end
section
set_option linter.unusedVariables false
set_option linter.unusedSimpArgs false
namespace Go.Proofs.YtkljfdkmjdjpfaaGreat
open Go.RowKit Go.WideShapes
structure CQ where
 Lo:Int
 Hi:Int
structure Ag where
 On:Int
 AF:Int
 Aq:Bool
structure Bb where
 AD:Int
 AM:Int
 Aq:Int
 BY:Int
 Cr:Int
structure Ar where
 Am:Int
 An:Int
 Ap:Int
 AB:Int
 Ad:List Bb
structure AX where
 Comes:List Int
 Ap:List Bool
structure Cx where
 BH:Int
 BV:Int
 Ci:Int
 Cj:Int
 A3:List Bb
 C4:List Bool
 known:List (List Int×Ag)
structure Ht where
 Cp:Int
 day:Int
structure BK where
 a0:Int
 a1:Int
 a2:Int
 a3:Int
def BK.set(x:BK)(k:Nat)(v:Int):BK:=⟨if k=0 then v else x.a0,if k=1 then v else x.a1,if k=2 then v else x.a2,if k=3 then v else x.a3⟩
def BK.l(x:BK):List Int:=[x.a0,x.a1,x.a2,x.a3]
theorem BK.UU(x:BK)(k:Nat)(v:Int)(h:k<4): #[.int .i64 (x.set k v).a0,.int .i64 (x.set k v).a1,.int .i64 (x.set k v).a2,.int .i64 (x.set k v).a3]=setCells #[.int .i64 x.a0,.int .i64 x.a1,.int .i64 x.a2,.int .i64 x.a3] k [.int .i64 v]:=by
 match k,h with
 |0,_=>rfl
 |1,_=>rfl
 |2,_=>rfl
 |3,_=>rfl
 |k+4,h=>omega
def By:D4 Ag:=⟨3,fun _ _ cs x=>cs=[.int .i64 x.On,.int .i64 x.AF,.bool x.Aq],fun h=>by rw[h];rfl,fun h=>by rw[h];simp[Value.oneCell'],fun h _=>h⟩
def AQ:D4 Bb:=⟨5,fun _ _ cs x=>cs=[.int .i64 x.AD,.int .i64 x.AM,.int .i64 x.Aq,.int .i64 x.BY,.int .i64 x.Cr],fun h=>by rw[h];rfl,fun h=>by rw[h];simp[Value.oneCell'],fun h _=>h⟩
def Hu:D4 Ar:=⟨5,fun w Z cs x=>∃a b,cs=[.int .i64 x.Am,.int .i64 x.An,.int .i64 x.Ap,.int .i64 x.AB,.slice a x.Ad.length b]∧Sl AQ w Z a b x.Ad,fun⟨_,_,h,_⟩=>by rw[h];rfl,fun⟨_,_,h,_⟩=>by rw[h];simp[Value.oneCell'],fun⟨a,b,h,c⟩ g=>⟨a,b,h,c.mv g⟩⟩
def Fo:D4 AX:=⟨2,fun w Z cs x=>∃a b c d,cs=[.slice a x.Comes.length b,.slice c x.Ap.length d]∧Sl (AG .i64) w Z a b x.Comes∧Sl Bw w Z c d x.Ap,fun⟨_,_,_,_,h,_⟩=>by rw[h];rfl,fun⟨_,_,_,_,h,_⟩=>by rw[h];simp[Value.oneCell'],fun⟨a,b,c,d,h,h0,e⟩ g=>⟨a,b,c,d,h,h0.mv g,e.mv g⟩⟩
def Oj:D4 CQ:=⟨2,fun _ _ cs x=>cs=[.int .i64 x.Lo,.int .i64 x.Hi],fun h=>by rw[h];rfl,fun h=>by rw[h];simp[Value.oneCell'],fun h _=>h⟩
def Uq:D4 BK:=⟨4,fun _ _ cs x=>cs=[.int .i64 x.a0,.int .i64 x.a1,.int .i64 x.a2,.int .i64 x.a3],fun h=>by rw[h];rfl,fun h=>by rw[h];simp[Value.oneCell'],fun h _=>h⟩
def LB(w:World)(Z:Nat→Prop)(q:Nat)(o:Option Nat):Option Cx→Prop
 |none=>Bk w q 162 #[.pointer none]∧o=none
 |some x=>∃(b r:Nat) (a:Option Addr) (c:Nat) (d:Option Addr) (e:Nat),Bk w q 162 #[pt b 0]∧Rz w Z (some ⟨b,0,none⟩) [I x.BH,I x.BV,I x.Ci,I x.Cj,.slice a x.A3.length c,.slice d x.C4.length e,.map (some r)]∧Sl AQ w Z a c x.A3∧Sl Bw w Z d e x.C4∧Cn (fun x:Ag=>.agg #[I x.On,I x.AF,.bool x.Aq]) w r 2 x.known∧o=some r
theorem LB.keep{w w':World}{Z Z':Nat→Prop}{q:Nat}{o:Option Nat}:∀{x:Option Cx},LB w Z q o x→Mv w Z w' Z'→w'.heap[q]?=w.heap[q]?→(∀k,o=some k→w'.heap[k]?=w.heap[k]?)→LB w' Z' q o x
 |none,h,_,a,_=>⟨h.1.F2 a,h.2⟩
 |some x,⟨b,r,e,f,g,i,j,l,h0,m,hm,d⟩,c,a,n=>⟨b,r,e,f,g,i,j.F2 a,l.mv c,h0.mv c,m.mv c,hm.F2 (n r d),d⟩
end Go.Proofs.YtkljfdkmjdjpfaaGreat
end
section
set_option linter.unusedVariables false
set_option linter.unusedSimpArgs false
namespace Go.Proofs.YtkljfdkmjdjpfaaGreat
open Go.RowKit Go.WideShapes
def Eh(d:Nat)(a:Int)(b:Int)(c:Int):Option (Bool):=
 cond (decide (b≤a)) (some (decide (a≤c))) (some (false))
def E2(b:Nat)(a:CQ):Option (Int):=
 (i64 (a.Hi-a.Lo)).bind fun _=>(i64 ((a.Hi-a.Lo)+1)).bind fun _=>some ((a.Hi-a.Lo)+1)
def GY(c:Nat)(a:CQ)(b:Int):Option (Bool):=
 cond (decide ((0:Int)≤a.Lo)) (cond (decide (a.Lo≤a.Hi)) (some (decide (a.Hi≤b))) (some (false))) (some (false))
def GL(a:Nat)(b:Int):Option (Bool):=
 (Eh a b 1 5).bind fun r1=>some (r1)
def C7(d:Nat)(a:Int)(b:Int)(c:Int):Option (Bool):=
 cond (decide (b≤a)) (some (decide (a≤c))) (some (false))
def FB(b:Nat)(a:CQ):Option (Int):=
 (i64 (a.Hi-a.Lo)).bind fun _=>(i64 ((a.Hi-a.Lo)+1)).bind fun _=>some ((a.Hi-a.Lo)+1)
def D5(c:Nat)(b:Int)(a:Int):Option (Bool):=
 (Lt .u64 a).bind fun _=>(Nd b a).bind fun _=>(rem (Fl b a) (2:Int)).bind fun _=>some (((Fl b a)%2)==1)
def EI(d:Nat)(a:Int)(b:Int)(c:Bool):Option (Ag):=
 some ((⟨a,b,c⟩:Ag))
def FM(b:Nat)(a:Ar)(c:Int):Option (Bool):=
 (i64 ((a.Ad.length:Int)-1)).bind fun _=>(Eh b c 0 ((a.Ad.length:Int)-1)).bind fun d=>some (d)
def C8(c:Nat)(b:Bb)(a:Ag):Option (Bool):=
 cond (a.Aq) (some (decide (a.AF≤b.Cr))) (some (false))
def Ee(a:Nat)(b:Bb)(c:Ag):Option (Bool):=
 (C8 a b c).bind fun d=>some (!d)
end Go.Proofs.YtkljfdkmjdjpfaaGreat
end
section
set_option linter.unusedVariables false
set_option linter.unusedSimpArgs false
namespace Go.Proofs.YtkljfdkmjdjpfaaGreat
open Go.RowKit Go.WideShapes
def Cv(e:Nat)(c:Ar)(f:Int)(b:Int):Nat→Bool→Int→Option (Bool)
 |0,_,_=>none
 |g+1,d,a=>(i64 (b+c.AB)).bind fun _=>cond (decide (a≤(b+c.AB))) (cond (d) (cond (decide (a≤c.Am)) ((D5 e f a).bind fun h=>(i64 (a+1)).bind fun _=>Cv e c f b g h (a+1)) ((i64 (a+1)).bind fun _=>Cv e c f b g false (a+1))) ((i64 (a+1)).bind fun _=>Cv e c f b g false (a+1))) (some (d))
def Cq(e:Nat)(d:Ar)(f:Int)(b:Int):Nat→Bool→Int→Option (Bool)
 |0,_,_=>none
 |g+1,c,a=>(i64 (b+d.AB)).bind fun _=>cond (decide (a≤(b+d.AB))) (cond (c) (cond (decide (a≤d.Am)) ((D5 e f a).bind fun h=>(i64 (a+1)).bind fun _=>Cq e d f b g h (a+1)) ((i64 (a+1)).bind fun _=>Cq e d f b g false (a+1))) ((i64 (a+1)).bind fun _=>Cq e d f b g false (a+1))) (some (c))
def CB(c:Nat)(d:Ar)(e:Int):Nat→Int→Int→Option ((Bool)⊕(Int))
 |0,_,_=>none
 |f+1,b,a=>cond (decide (a≤d.Am)) ((D5 c e a).bind fun g=>cond (g) ((i64 (b+1)).bind fun _=>(Cv c d e a c true a).bind fun h=>cond (h) (some (.inl false)) ((i64 (a+1)).bind fun _=>CB c d e f (b+1) (a+1))) ((Cq c d e a c true a).bind fun z20=>cond (z20) (some (.inl false)) ((i64 (a+1)).bind fun _=>CB c d e f b (a+1)))) (some (.inr b))
def DV(b:Nat)(c:Ar)(d:Int):Option (Bool):=
 (CB b c d b (0:Int) (0:Int)).bind fun z=>Sum.elim (fun a=>some (a)) (fun a=>some (decide (a≤c.Ap))) z
def CF(d:Nat)(c:Ar):Nat→(List Int)→Int→Option ((List Int))
 |0,_,_=>none
 |e+1,b,a=>(i64 (c.Am+1)).bind fun _=>(Lt .u64 (c.Am+1)).bind fun _=>(I1 (1:Int) (c.Am+1)).bind fun _=>cond (decide (a<(E8 (1:Int) (c.Am+1)))) ((DV d c a).bind fun f=>cond (f) ((Fz (((b.length+[a].length:Nat):Int)≤140737488355328/8)).bind fun _=>(i64 (a+1)).bind fun _=>CF d c e (b++[a]) (a+1)) ((i64 (a+1)).bind fun _=>CF d c e b (a+1))) (some (b))
def Ew(a:Nat)(b:Ar):Option ((List Int)):=
 (CF a b a ([]:List Int) (0:Int)).bind fun z2=>some (z2)
def DJ(d:Nat)(c:Ar):Nat→Int→Int→Option (Int)
 |0,_,_=>none
 |g+1,b,a=>cond (decide (a<(c.Ad.length:Int))) ((idx c.Ad a).bind fun e=>(FB d (⟨e.AD,e.AM⟩:CQ)).bind fun f=>(i64 (b*f)).bind fun _=>(i64 (a+1)).bind fun _=>DJ d c g (min (3000:Int) (b*f)) (a+1)) (some (b))
def DR(a:Nat)(b:Ar):Option (Int):=
 (Ew a b).bind fun r2=>(DJ a b a (r2.length:Int) (0:Int)).bind fun z4=>some (z4)
def Dh(d:Nat)(c:Ar):Nat→Int→Option ((Int)⊕(Unit))
 |0,_=>none
 |h+1,a=>cond (decide (a<(c.Ad.length:Int))) ((idx c.Ad a).bind fun b=>cond (decide (b.AD<0)) (some (.inl (1:Int))) (cond (decide (b.AM<b.AD)) (some (.inl (1:Int))) (cond (decide (c.Am<b.AM)) (some (.inl (1:Int))) ((C7 d b.Aq 1 5).bind fun e=>cond (!e) (some (.inl (1:Int))) ((C7 d b.BY 1 5).bind fun f=>cond (!f) (some (.inl (1:Int))) ((C7 d b.Cr 0 c.Am).bind fun g=>cond (!g) (some (.inl (1:Int))) ((i64 (a+1)).bind fun _=>Dh d c h (a+1)))))))) (some (.inr ()))
def Es(b:Nat)(a:Ar):Option (Int):=
 cond (decide ((9:Int)<a.Am)) (some (3)) (cond (decide ((2:Int)<a.An)) (some (3)) (cond (decide ((4:Int)<(a.Ad.length:Int))) (some (3)) (cond (decide (a.Am<0)) (some (1)) (cond (decide (a.An<1)) (some (1)) ((i64 (a.Am+1)).bind fun _=>(C7 b a.Ap 0 (a.Am+1)).bind fun f=>cond (!f) (some (1)) ((i64 (a.Am+1)).bind fun _=>(C7 b a.AB 0 (a.Am+1)).bind fun d=>cond (!d) (some (1)) ((Dh b a b (0:Int)).bind fun z=>Sum.elim (fun c=>some (c)) (fun c=>(DR b a).bind fun e=>cond (decide ((1000:Int)<e)) (some (3)) (some (0))) z)))))))
def EY(b:Nat)(c:Ar)(a:Bb):Option (Bool):=
 (GY b (⟨a.AD,a.AM⟩:CQ) c.Am).bind fun e=>cond (e) ((GL b a.Aq).bind fun f=>cond (f) ((GL b a.BY).bind fun g=>cond (g) ((Eh b a.Cr 0 c.Am).bind fun d=>some (d)) (some (false))) (some (false))) (some (false))
def DK(b:List Int)(c:List Int):Nat→Int→Option ((Bool)⊕(Unit))
 |0,_=>none
 |d+1,a=>cond (decide (a<(b.length:Int))) ((idx b a).bind fun e=>(idx c a).bind fun f=>cond (e !=f) (some (.inl false)) ((i64 (a+1)).bind fun _=>DK b c d (a+1))) (some (.inr ()))
def FC(d:Nat)(b:List Int)(c:List Int):Option (Bool):=
 cond ((b.length:Int) !=(c.length:Int)) (some (false)) ((DK b c d (0:Int)).bind fun z=>Sum.elim (fun a=>some (a)) (fun a=>some (true)) z)
def CD(b:Nat)(a:Int):Option (Ar):=
 some ((⟨5,1,a,1,[(⟨0,0,2,2,2⟩:Bb),(⟨1,1,2,1,5⟩:Bb)]⟩:Ar))
def Gk(b:Nat)(a:Int):Option (AX):=
 (Kb (6:Int) 1).bind fun _=>(idx (List.replicate (6:Int).toNat false) a).bind fun c=>some ((⟨[0,1],(List.replicate (6:Int).toNat false).set a.toNat true⟩:AX))
def Gl(f:Nat)(a:List Ag)(b:Ag)(c:Ag):Option (Bool):=
 cond ((a.length:Int)==2) ((idx a (0:Int)).bind fun d=>cond (GX [.inl d.On,.inl d.AF,.inr d.Aq] [.inl b.On,.inl b.AF,.inr b.Aq]) ((idx a (1:Int)).bind fun e=>some (GX [.inl e.On,.inl e.AF,.inr e.Aq] [.inl c.On,.inl c.AF,.inr c.Aq])) (some (false))) (some (false))
def GG(b:Nat)(a:CQ):Option (CQ):=
 some (a)
def DL(f:Nat)(e:Ar):Nat→Int→(List Bb)→Option ((List Bb))
 |0,_,_=>none
 |g+1,b,a=>cond (decide (b<(e.Ad.length:Int))) ((idx e.Ad b).bind fun c=>(GG f (⟨c.AD,c.AM⟩:CQ)).bind fun d=>(Fz (((a.length+[(⟨d.Lo,d.Hi,c.Aq,c.BY,c.Cr⟩:Bb)].length:Nat):Int)≤140737488355328/40)).bind fun _=>(i64 (b+1)).bind fun _=>DL f e g (b+1) (a++[(⟨d.Lo,d.Hi,c.Aq,c.BY,c.Cr⟩:Bb)])) (some (a))
def EJ(b:Nat)(a:Ar):Option (Ar):=
 (DL b a b (0:Int) ([]:List Bb)).bind fun z5=>some ((⟨a.Am,a.An,a.Ap,a.AB,z5⟩:Ar))
def Fc(a:Nat)(b:Ar):Option (Int):=
 (Es a b).bind fun r2=>some (r2)
def FD(b:Nat)(a:Ar):Option (Bool):=
 cond (decide ((a.Ad.length:Int)≤6)) ((Es b a).bind fun c=>cond (c !=0) (some (true)) ((DR b a).bind fun d=>some (decide (d≤60)))) (some (false))
end Go.Proofs.YtkljfdkmjdjpfaaGreat
end
section
set_option linter.unusedVariables false
set_option linter.unusedSimpArgs false
namespace Go.Proofs.YtkljfdkmjdjpfaaGreat
open Go.RowKit Go.WideShapes
def EF{a:Type}(e:Nat)(b:a→Bb→Option (Bool×a))(c:Bb)(d:a):Option (Bool×a):=
 (b d c).bind fun r2=>some ((!r2.1,r2.2))
def C1{c:Type}(d:c→Bb→Option (Bool×c))(e:List Bb):Nat→Int→c→Option ((Int×c)⊕(c))
 |0,_,_=>none
 |g+1,a,b=>cond (decide (a<(e.length:Int))) ((idx e a).bind fun h=>(d b h).bind fun f=>cond (f.1) (some (.inl (a,f.2))) ((i64 (a+1)).bind fun _=>C1 d e g (a+1) f.2)) (some (.inr b))
def Fx{b:Type}(d:Nat)(c:b→Bb→Option (Bool×b))(e:List Bb)(f:b):Option (Int×b):=
 (C1 c e d (0:Int) f).bind fun z=>Sum.elim (fun a=>some ((a.1,a.2))) (fun a=>some (((-1),a))) z
def ER{a:Type}(c:Nat)(b:a→Bb→Option (Bool×a))(d:List Bb)(e:a):Option (Bool×a):=
 (Fx c b d e).bind fun r1=>some ((decide ((0:Int)≤r1.1),r1.2))
def Gt{a:Type}(b:Nat)(c:a→Bb→Option (Bool×a))(d:List Bb)(e:a):Option (Bool×a):=
 (ER b (fun(st:a) (x:Bb)=>(EF b c x st).bind fun r=>some (r.1,r.2)) d e).bind fun r2=>some ((!r2.1,r2.2))
def Eo{a:Type}(e:Nat)(b:a→Bool→Option (Bool×a))(c:Bool)(d:a):Option (Bool×a):=
 (b d c).bind fun r1=>some ((!r1.1,r1.2))
def CS{c:Type}(d:c→Bool→Option (Bool×c))(e:List Bool):Nat→Int→c→Option ((Int×c)⊕(c))
 |0,_,_=>none
 |g+1,a,b=>cond (decide (a<(e.length:Int))) ((idx e a).bind fun h=>(d b h).bind fun f=>cond (f.1) (some (.inl (a,f.2))) ((i64 (a+1)).bind fun _=>CS d e g (a+1) f.2)) (some (.inr b))
def Fa{b:Type}(d:Nat)(c:b→Bool→Option (Bool×b))(e:List Bool)(f:b):Option (Int×b):=
 (CS c e d (0:Int) f).bind fun z=>Sum.elim (fun a=>some ((a.1,a.2))) (fun a=>some (((-1),a))) z
def EB{a:Type}(c:Nat)(b:a→Bool→Option (Bool×a))(d:List Bool)(e:a):Option (Bool×a):=
 (Fa c b d e).bind fun r1=>some ((decide ((0:Int)≤r1.1),r1.2))
def Gc{a:Type}(b:Nat)(c:a→Bool→Option (Bool×a))(d:List Bool)(e:a):Option (Bool×a):=
 (EB b (fun(st:a) (x:Bool)=>(Eo b c x st).bind fun r=>some (r.1,r.2)) d e).bind fun r2=>some ((!r2.1,r2.2))
def DM(e:Nat)(d:Bool)(b:Int)(a:Int)(c:Ar):Option (Bool×Int×Int):=
 cond (!d) (some ((true,0,a))) ((i64 (a+1)).bind fun _=>(i64 (b+1)).bind fun _=>cond (decide ((a+1)≤c.Ap)) (some ((decide ((b+1)≤c.AB),b+1,a+1))) (some ((false,b+1,a+1))))
def Et(a:Nat)(b:Ar)(c:List Bool):Option (Bool):=
 (Gc a (fun(st:Int×Int) (x:Bool)=>(DM a x st.1 st.2 b).bind fun r=>some (r.1,(r.2.1,r.2.2))) c (0,0)).bind fun d=>some (d.1)
end Go.Proofs.YtkljfdkmjdjpfaaGreat
end
section
set_option linter.unusedVariables false
set_option linter.unusedSimpArgs false
namespace Go.Proofs.YtkljfdkmjdjpfaaGreat
open Go.RowKit Go.WideShapes
def Eu(c:List Int):Nat→Int→Int→Option (Int)
 |0,_,_=>none
 |d+1,b,a=>cond (decide (a<(c.length:Int))) ((idx c a).bind fun e=>(i64 (a+1)).bind fun _=>Eu c d (min b e) (a+1)) (some (b))
def GH(b:Nat)(a:List Int):Option (Int):=
 cond (decide ((a.length:Int)<1)) (none) ((idx a (0:Int)).bind fun x2=>(Eu a b x2 (1:Int)).bind fun z3=>some (z3))
def Gu(a:Nat)(b:List Int):Option (Int):=
 (GH a b).bind fun r1=>some (r1)
def CG(b:Int)(d:List Bool):Nat→Int→(List Bool)→Option ((List Bool))
 |0,_,_=>none
 |e+1,a,c=>cond (decide (a<(d.length:Int))) ((Nd b a).bind fun _=>(rem (Fl b a) (2:Int)).bind fun _=>(idx c a).bind fun f=>(i64 (a+1)).bind fun _=>CG b d e (a+1) (c.set a.toNat (((Fl b a)%2)==1))) (some (c))
def CH{c:Type}(d:c→(List Bool)→Option (Bool×c))(g:Nat)(h:Ar):Nat→Int→(List Bool)→c→Option ((c)⊕(c))
 |0,_,_,_=>none
 |j+1,a,e,b=>cond (decide (a<(E8 (1:Int) ((List.replicate (h.Am+1).toNat false).length:Int)))) ((CG a e g (0:Int) e).bind fun i=>(Et g h i).bind fun k=>cond (k) ((d b i).bind fun f=>cond (!f.1) (some (.inl f.2)) ((i64 (a+1)).bind fun _=>CH d g h j (a+1) i f.2)) ((i64 (a+1)).bind fun _=>CH d g h j (a+1) i b)) (some (.inr b))
def Ds{c:Type}(d:Nat)(e:c→(List Bool)→Option (Bool×c))(a:Ar)(f:c):Option (c):=
 (i64 (a.Am+1)).bind fun _=>(Kb (a.Am+1) 1).bind fun _=>(I1 (1:Int) ((List.replicate (a.Am+1).toNat false).length:Int)).bind fun _=>(CH e d a d (0:Int) (List.replicate (a.Am+1).toNat false) f).bind fun z=>Sum.elim (fun b=>some (b)) (fun b=>some (b)) z
end Go.Proofs.YtkljfdkmjdjpfaaGreat
end
section
set_option linter.unusedVariables false
set_option linter.unusedSimpArgs false
namespace Go.Proofs.YtkljfdkmjdjpfaaGreat
open Go.RowKit Go.WideShapes
def EZ(a:Int)(b:(List Bool)):Option (Bool×Int):=
 (i64 (a+1)).bind fun _=>some (true,a+1)
def DY(e:Nat)(f:Ar):Nat→Int→Int→Option (Int)
 |0,_,_=>none
 |h+1,b,a=>cond (decide (b<(f.Ad.length:Int))) ((idx f.Ad b).bind fun c=>(E2 e (⟨c.AD,c.AM⟩:CQ)).bind fun d=>(i64 (a*d)).bind fun _=>(Gu e [a*d,1001]).bind fun g=>(i64 (b+1)).bind fun _=>DY e f h (b+1) g) (some (a))
def C9(b:Nat)(a:Ar):Option (Int):=
 cond (decide ((9:Int)<a.Am)) (some (3)) (cond (decide ((2:Int)<a.An)) (some (3)) (cond (decide ((4:Int)<(a.Ad.length:Int))) (some (3)) (cond (decide (a.Am<0)) (some (1)) (cond (decide (a.An<1)) (some (1)) ((i64 (a.Am+1)).bind fun _=>(Eh b a.Ap 0 (a.Am+1)).bind fun g=>cond (!g) (some (1)) ((i64 (a.Am+1)).bind fun _=>(Eh b a.AB 0 (a.Am+1)).bind fun c=>cond (!c) (some (1)) ((Gt b (fun(st:Unit) (x:Bb)=>(EY b a x).bind fun r=>some (r,())) a.Ad ()).bind fun d=>cond (!d.1) (some (1)) ((Ds b (fun(st:Int) (x:(List Bool))=>EZ st x) a (0:Int)).bind fun e=>(DY b a b (0:Int) e).bind fun f=>cond (decide ((1000:Int)<f)) (some (3)) (some (0))))))))))
end Go.Proofs.YtkljfdkmjdjpfaaGreat
end
section
set_option linter.unusedVariables false
set_option linter.unusedSimpArgs false
namespace Go.Proofs.YtkljfdkmjdjpfaaGreat
open Go.RowKit Go.WideShapes
def Ca{f:Type}(g:Int→(List Int)→(List Bool)→Ar→f→Option (Bool×(List Int)×f))(e:Int)(j:List Bool)(i:Ar)(k:Int):Nat→Int→(List Int)→f→Option ((Bool×(List Int)×f)⊕((List Int)×f))
 |0,_,_,_=>none
 |l+1,a,b,d=>cond (decide (a<k)) ((idx i.Ad e).bind fun h=>(i64 (h.AD+a)).bind fun _=>(idx b e).bind fun m=>(i64 (e+1)).bind fun _=>(g (e+1) (b.set e.toNat (h.AD+a)) j i d).bind fun c=>cond (!c.1) (some (.inl (false,c.2.1,c.2.2))) ((i64 (a+1)).bind fun _=>Ca g e j i k l (a+1) c.2.1 c.2.2)) (some (.inr (b,d)))
def BO{b:Type}(e:Nat)(d:b→AX→Option (Bool×b)):Nat→Int→(List Int)→(List Bool)→Ar→b→Option (Bool×(List Int)×b)
 |0,_,_,_,_,_=>none
 |k+1,f,c,g,h,i=>cond (f==(c.length:Int)) ((d i (⟨c,g⟩:AX)).bind fun r2=>some ((r2.1,c,r2.2))) ((idx h.Ad f).bind fun j=>(E2 e (⟨j.AD,j.AM⟩:CQ)).bind fun l=>(Ca (BO e d k) f g h l e (0:Int) c i).bind fun z=>Sum.elim (fun a=>some ((a.1,a.2.1,a.2.2))) (fun a=>some ((true,a.1,a.2))) z)
end Go.Proofs.YtkljfdkmjdjpfaaGreat
end
section
set_option linter.unusedVariables false
set_option linter.unusedSimpArgs false
namespace Go.Proofs.YtkljfdkmjdjpfaaGreat
open Go.RowKit Go.WideShapes
def Di{c:Type}(e:c→AX→Option (Bool×c))(f:Nat)(g:Ar)(b:List Int)(d:c)(h:(List Bool)):Option (Bool×((List Int)×c×Bool)):=
 (BO f e f 0 b h g d).bind fun a=>cond (!a.1) (some (false,a.2.1,a.2.2,true)) (some (true,a.2.1,a.2.2,false))
def E0{a:Type}(d:Nat)(e:a→AX→Option (Bool×a))(b:Ar)(f:a):Option (a):=
 (Kb (b.Ad.length:Int) 8).bind fun _=>(Ds d (fun(st:(List Int)×a×Bool) (x:(List Bool))=>cond st.2.2 none (Di e d b st.1 st.2.1 x)) b (List.replicate (b.Ad.length:Int).toNat (0:Int),f,false)).bind fun c=>cond (c.2.2) (some (c.2.1)) (some (c.2.1))
end Go.Proofs.YtkljfdkmjdjpfaaGreat
end
section
set_option linter.unusedVariables false
set_option linter.unusedSimpArgs false
namespace Go.Proofs.YtkljfdkmjdjpfaaGreat
open Go.RowKit Go.WideShapes
def Dt(b:List Bool)(c:List Bool):Nat→Int→Option ((Bool)⊕(Unit))
 |0,_=>none
 |d+1,a=>cond (decide (a<(b.length:Int))) ((idx b a).bind fun e=>(idx c a).bind fun f=>cond (e !=f) (some (.inl false)) ((i64 (a+1)).bind fun _=>Dt b c d (a+1))) (some (.inr ()))
def Ev(d:Nat)(b:List Bool)(c:List Bool):Option (Bool):=
 cond ((b.length:Int) !=(c.length:Int)) (some (false)) ((Dt b c d (0:Int)).bind fun z=>Sum.elim (fun a=>some (a)) (fun a=>some (true)) z)
def Dj(d:Nat)(c:Ar)(e:AX):Nat→Int→Option ((Bool)⊕(Unit))
 |0,_=>none
 |h+1,a=>cond (decide (a<(c.Ad.length:Int))) ((idx c.Ad a).bind fun b=>(idx e.Comes a).bind fun f=>(Eh d f b.AD b.AM).bind fun g=>cond (!g) (some (.inl false)) ((i64 (a+1)).bind fun _=>Dj d c e h (a+1))) (some (.inr ()))
def Fe(d:Nat)(a:Ar)(c:AX):Option (Bool):=
 cond ((c.Comes.length:Int) !=(a.Ad.length:Int)) (some (false)) ((i64 (a.Am+1)).bind fun _=>cond ((c.Ap.length:Int) !=(a.Am+1)) (some (false)) ((Et d a c.Ap).bind fun e=>cond (!e) (some (false)) ((Dj d a c d (0:Int)).bind fun z=>Sum.elim (fun b=>some (b)) (fun b=>some (true)) z)))
def DS(i:Cx)(h:Ht)(f:Bb):Nat→Int→Int→Int→Int→Int→Bool→Option ((Int×Int×Bool)⊕(Int×Int×Bool))
 |0,_,_,_,_,_,_=>none
 |j+1,b,g,a,c,d,e=>cond (decide (a≤i.BH)) ((idx i.C4 a).bind fun k=>cond (k) ((i64 (g+1)).bind fun _=>cond (b==f.Aq) (some (.inl (h.day,a,b==f.Aq))) (cond ((g+1)==f.BY) (some (.inl (h.day,a,b==f.Aq))) ((i64 (a+1)).bind fun _=>DS i h f j b (g+1) (a+1) c d e))) ((i64 (b+1)).bind fun _=>cond ((b+1)==f.Aq) (some (.inl (h.day,a,(b+1)==f.Aq))) (cond ((0:Int)==f.BY) (some (.inl (h.day,a,(b+1)==f.Aq))) ((i64 (a+1)).bind fun _=>DS i h f j (b+1) (0:Int) (a+1) c d e)))) (some (.inr (c,d,e)))
def FF(d:Nat)(c:Cx)(b:Ht):Option (Ag):=
 cond (decide (c.BH<b.day)) (some ((⟨(-1),(-1),false⟩:Ag))) ((idx c.A3 b.Cp).bind fun e=>(DS c b e d (0:Int) (0:Int) b.day (0:Int) (0:Int) false).bind fun z=>Sum.elim (fun a=>some ((⟨a.1,a.2.1,a.2.2⟩:Ag))) (fun a=>some ((⟨b.day,(-1),false⟩:Ag))) z)
def Fp(d:Nat)(b:Cx)(a:Ht):Option (Ag×(List (List Int×Ag))):=
 cond (!((BG b.known [a.Cp,a.day]).isSome)) ((FF d b a).bind fun c=>some ((c,Hq b.known [a.Cp,a.day] c))) (some ((((BG b.known [a.Cp,a.day]).getD (⟨0,0,false⟩:Ag)),b.known)))
def DB(i:Nat)(c:Cx)(j:List Int)(g:List Int):Nat→Int→Int→(List Ag)→(List (List Int×Ag))→Option ((List Ag)×(List (List Int×Ag)))
 |0,_,_,_,_=>none
 |k+1,h,a,d,e=>cond (decide (a<(g.length:Int))) ((idx g a).bind fun f=>(idx j f).bind fun l=>(Fp i (⟨c.BH,c.BV,c.Ci,c.Cj,c.A3,c.C4,e⟩:Cx) (⟨f,max h l⟩:Ht)).bind fun b=>(idx d f).bind fun m=>(i64 (b.1.AF+1)).bind fun _=>cond (b.1.AF==(-1)) ((i64 (c.BH+1)).bind fun _=>(i64 (a+1)).bind fun _=>DB i c j g k (c.BH+1) (a+1) (d.set f.toNat b.1) b.2) ((i64 (a+1)).bind fun _=>DB i c j g k (b.1.AF+1) (a+1) (d.set f.toNat b.1) b.2)) (some ((d,e)))
def Dd(d:Nat)(f:Cx)(e:List (List Int))(g:List Int):Nat→Int→(List Ag)→(List (List Int×Ag))→Option ((List Ag)×(List (List Int×Ag)))
 |0,_,_,_=>none
 |i+1,a,c,b=>cond (decide (a<(e.length:Int))) ((idx e a).bind fun j=>(DB d f g j d (0:Int) (0:Int) c b).bind fun h=>(i64 (a+1)).bind fun _=>Dd d f e g i (a+1) h.1 h.2) (some ((c,b)))
def CT(b:Nat)(a:Cx)(c:List (List Int))(d:List Int):Option ((List Ag)×(List (List Int×Ag))):=
 (Kb (a.A3.length:Int) 24).bind fun _=>(Dd b a c d b (0:Int) (List.replicate (a.A3.length:Int).toNat (⟨0,0,false⟩:Ag)) a.known).bind fun z3=>some ((z3.1,z3.2))
end Go.Proofs.YtkljfdkmjdjpfaaGreat
end
section
set_option linter.unusedVariables false
set_option linter.unusedSimpArgs false
namespace Go.Proofs.YtkljfdkmjdjpfaaGreat
open Go.RowKit Go.WideShapes
def Du(c:List (List Int)):Nat→(List Int)→Int→Option ((List Int))
 |0,_,_=>none
 |e+1,b,a=>cond (decide (a<(c.length:Int))) ((idx c a).bind fun d=>(Fz (((b.length+d.length:Nat):Int)≤140737488355328/8)).bind fun _=>(i64 (a+1)).bind fun _=>Du c e (b++d) (a+1)) (some (b))
def Dk(b:Ar)(z2:(List Int)):Nat→Int→Option ((Bool)⊕(Unit))
 |0,_=>none
 |d+1,a=>cond (decide (a<(b.Ad.length:Int))) (cond (((C3 z2).length:Int) !=(b.Ad.length:Int)) (some (.inl false)) ((idx (C3 z2) a).bind fun c=>cond (c !=a) (some (.inl false)) ((i64 (a+1)).bind fun _=>Dk b z2 d (a+1)))) (some (.inr ()))
def Eb(c:Nat)(b:Ar)(d:List (List Int)):Option (Bool):=
 (Du d c ([]:List Int) (0:Int)).bind fun z2=>(Fz ((z2.length:Int)≤100000)).bind fun _=>(Dk b z2 c (0:Int)).bind fun z=>Sum.elim (fun a=>some (a)) (fun a=>cond ((d.length:Int)==b.An) (some (((C3 z2).length:Int)==(b.Ad.length:Int))) (some (false))) z
def FT(b:Nat)(a:Ar)(d:List (List Int))(c:AX):Option ((List Ag)×Int):=
 (C9 b a).bind fun e=>cond (e !=0) (some ((([]:List Ag),e))) ((Eb b a d).bind fun h=>cond (!h) (some ((([]:List Ag),2))) ((Fe b a c).bind fun f=>cond (!f) (some ((([]:List Ag),2))) ((CT b (⟨a.Am,a.An,a.Ap,a.AB,a.Ad,c.Ap,[]⟩:Cx) d c.Comes).bind fun g=>some ((g.1,0)))))
end Go.Proofs.YtkljfdkmjdjpfaaGreat
end
section
set_option linter.unusedVariables false
set_option linter.unusedSimpArgs false
namespace Go.Proofs.YtkljfdkmjdjpfaaGreat
open Go.RowKit Go.WideShapes
def DC(d:Nat)(e:Ar)(c:List Ag):Nat→Int→Int→Option (Int)
 |0,_,_=>none
 |f+1,b,a=>cond (decide (a<(c.length:Int))) ((idx c a).bind fun i=>(idx e.Ad a).bind fun g=>(Ee d g i).bind fun h=>cond (h) ((i64 (b+1)).bind fun _=>(i64 (a+1)).bind fun _=>DC d e c f (b+1) (a+1)) ((i64 (a+1)).bind fun _=>DC d e c f b (a+1))) (some (b))
def EG(a:Nat)(b:Ar)(c:List Ag):Option (Int):=
 (DC a b c a (0:Int) (0:Int)).bind fun z4=>some (z4)
def EK(d:Nat)(a:AX)(e:List Ag)(b:Ar)(c:Int)(f:AX):Option (Bool×Int×AX):=
 (EG d b e).bind fun r2=>cond (decide (c<r2)) ((Fz (((0+a.Comes.length:Nat):Int)≤140737488355328/8)).bind fun _=>(Fz (((0+a.Ap.length:Nat):Int)≤140737488355328/1)).bind fun _=>some ((decide (r2<(b.Ad.length:Int)),r2,a))) (some ((decide (c<(b.Ad.length:Int)),c,f)))
def CE{j:Type}(h:j→(Bb×Ag)→Option (Bool×j))(k:List Ag)(l:Ar):Nat→Int→Int→Int→Int→Int→j→Option (Int×Int×Int×Int×j)
 |0,_,_,_,_,_,_=>none
 |m+1,a,b,c,d,e,g=>cond (decide (a<(k.length:Int))) ((idx k a).bind fun o=>(idx l.Ad a).bind fun n=>(h g (n,o)).bind fun i=>cond (i.1) ((idx ([b,c,d,e]:List Int) a).bind fun f=>(i64 (f+1)).bind fun _=>(idx ([b,c,d,e]:List Int) a).bind fun p=>(i64 (a+1)).bind fun _=>CE h k l m (a+1) (((⟨b,c,d,e⟩:BK).set a.toNat (f+1)).a0) (((⟨b,c,d,e⟩:BK).set a.toNat (f+1)).a1) (((⟨b,c,d,e⟩:BK).set a.toNat (f+1)).a2) (((⟨b,c,d,e⟩:BK).set a.toNat (f+1)).a3) i.2) ((i64 (a+1)).bind fun _=>CE h k l m (a+1) b c d e i.2)) (some ((b,c,d,e,g)))
def CV{a:Type}(e:Nat)(c:a→(Bb×Ag)→Option (Bool×a))(i:AX)(f:List Ag)(d:Int)(g:Ar)(b:BK)(h:a):Option (Bool×Int×BK×a):=
 (i64 (d+1)).bind fun _=>(CE c f g e (0:Int) b.a0 b.a1 b.a2 b.a3 h).bind fun z4=>some ((true,d+1,(⟨z4.1,z4.2.1,z4.2.2.1,z4.2.2.2.1⟩:BK),z4.2.2.2.2))
end Go.Proofs.YtkljfdkmjdjpfaaGreat
end
section
set_option linter.unusedVariables false
set_option linter.unusedSimpArgs false
namespace Go.Proofs.YtkljfdkmjdjpfaaGreat
open Go.RowKit Go.WideShapes
def DD{m:Type}(f:m→(AX×(List Ag))→Option (Bool×m))(n:Nat)(a:Ar)(o:List (List Int))(e:Option Cx)(d:m)(c:AX):Option (Bool×((Option Cx)×m×Bool)):=
 Option.elim e ((Fz (((0+c.Ap.length:Nat):Int)≤140737488355328/1)).bind fun _=>(CT n (⟨a.Am,a.An,a.Ap,a.AB,a.Ad,c.Ap,[]⟩:Cx) o c.Comes).bind fun g=>(f d (c,g.1)).bind fun h=>cond (!h.1) (some (false,(some (⟨a.Am,a.An,a.Ap,a.AB,a.Ad,c.Ap,g.2⟩:Cx)),h.2,true)) (some (true,(some (⟨a.Am,a.An,a.Ap,a.AB,a.Ad,c.Ap,g.2⟩:Cx)),h.2,false))) (fun b=>(Ev n b.C4 c.Ap).bind fun p=>cond (!p) ((Fz (((0+c.Ap.length:Nat):Int)≤140737488355328/1)).bind fun _=>(CT n (⟨a.Am,a.An,a.Ap,a.AB,a.Ad,c.Ap,[]⟩:Cx) o c.Comes).bind fun i=>(f d (c,i.1)).bind fun j=>cond (!j.1) (some (false,(some (⟨a.Am,a.An,a.Ap,a.AB,a.Ad,c.Ap,i.2⟩:Cx)),j.2,true)) (some (true,(some (⟨a.Am,a.An,a.Ap,a.AB,a.Ad,c.Ap,i.2⟩:Cx)),j.2,false))) ((CT n b o c.Comes).bind fun k=>(f d (c,k.1)).bind fun l=>cond (!l.1) (some (false,(some (⟨b.BH,b.BV,b.Ci,b.Cj,b.A3,b.C4,k.2⟩:Cx)),l.2,true)) (some (true,(some (⟨b.BH,b.BV,b.Ci,b.Cj,b.A3,b.C4,k.2⟩:Cx)),l.2,false))))
def Fq{a:Type}(c:Nat)(d:a→(AX×(List Ag))→Option (Bool×a))(e:Ar)(f:List (List Int))(g:a):Option (a):=
 (E0 c (fun(st:(Option Cx)×a×Bool) (x:AX)=>cond st.2.2 none (DD d c e f st.1 st.2.1 x)) e (none,g,false)).bind fun b=>cond (b.2.2) (some (b.2.1)) (some (b.2.1))
end Go.Proofs.YtkljfdkmjdjpfaaGreat
end
section
set_option linter.unusedVariables false
set_option linter.unusedSimpArgs false
namespace Go.Proofs.YtkljfdkmjdjpfaaGreat
open Go.RowKit Go.WideShapes
def Cy{a:Type}(c:Nat)(d:a→(Bb×Ag)→Option (Bool×a))(e:Ar)(f:List (List Int))(g:a):Option (BK×Int×a):=
 (Fq c (fun(st:Int×BK×a) (x:AX×(List Ag))=>(CV c d x.1 x.2 st.1 e st.2.1 st.2.2).bind fun r=>some (r.1,(r.2.1,r.2.2.1,r.2.2.2))) e f (0,(⟨0,0,0,0⟩:BK),g)).bind fun b=>some ((b.2.1,b.1,b.2.2))
def Fs(a:Nat)(b:Ar)(d:List (List Int)):Option (Int×AX):=
 (Fq a (fun(st:Int×AX) (x:AX×(List Ag))=>(EK a x.1 x.2 b st.1 st.2).bind fun r=>some (r.1,(r.2.1,r.2.2))) b d ((-1),(⟨([]:List Int),([]:List Bool)⟩:AX))).bind fun c=>some ((c.1,c.2))
def E1(b:Nat)(c:Ar)(e:List (List Int))(f:Int):Option (Int×Int):=
 (C9 b c).bind fun r2=>cond (r2 !=0) (some ((0,r2))) ((Eb b c e).bind fun h=>cond (!h) (some ((0,2))) ((FM b c f).bind fun g=>cond (!g) (some ((0,2))) ((Cy b (fun(st:Unit) (x:Bb×Ag)=>(C8 b x.1 x.2).bind fun r=>some (r,())) c e ()).bind fun a=>(idx ([a.1.a0,a.1.a1,a.1.a2,a.1.a3]:List Int) f).bind fun d=>cond (d==a.2.1) (some ((1,0))) (cond (d==0) (some ((2,0))) (some ((3,0)))))))
def Gi(b:Nat)(c:Ar)(d:List (List Int)):Option (Int×AX×Int):=
 (C9 b c).bind fun e=>cond (e !=0) (some ((0,(⟨([]:List Int),([]:List Bool)⟩:AX),e))) ((Eb b c d).bind fun f=>cond (!f) (some ((0,(⟨([]:List Int),([]:List Bool)⟩:AX),2))) ((Fs b c d).bind fun a=>some ((a.1,a.2,0))))
def E3(a:Nat)(b:Ar)(c:List (List Int))(d:Int):Option (Bool):=
 (Gi a b c).bind fun r2=>cond (r2.2.2==0) (some (decide (r2.1≤d))) (some (false))
def Ft(a:Nat)(b:Ar)(d:List (List Int))(e:AX)(f:Int):Option (Bool):=
 (FT a b d e).bind fun c=>cond (c.2==0) ((EG a b c.1).bind fun g=>some (decide (f≤g))) (some (false))
end Go.Proofs.YtkljfdkmjdjpfaaGreat
end
section
set_option linter.unusedVariables false
set_option linter.unusedSimpArgs false
namespace Go.Proofs.YtkljfdkmjdjpfaaGreat
open Go.RowKit Go.WideShapes
def EH(c:List (List Int)):Nat→Int→(List (List Int))→Option ((List (List Int)))
 |0,_,_=>none
 |e+1,a,b=>cond (decide (a<(c.length:Int))) ((idx b a).bind fun d=>(Fz (((0+d.length:Nat):Int)≤140737488355328/8)).bind fun _=>(idx b a).bind fun f=>(i64 (a+1)).bind fun _=>EH c e (a+1) (b.set a.toNat d)) (some (b))
def E6(b:Nat)(a:List (List Int)):Option ((List (List Int))):=
 (Fz (((0+a.length:Nat):Int)≤140737488355328/24)).bind fun _=>(EH a b (0:Int) a).bind fun z4=>some (z4)
end Go.Proofs.YtkljfdkmjdjpfaaGreat
end
section
set_option linter.unusedVariables false
set_option linter.unusedSimpArgs false
namespace Go.Proofs.YtkljfdkmjdjpfaaGreat
open Go.RowKit Go.WideShapes
def Ga(b:Nat)(c:List (List Int))(d:Ar)(a:Int)(e:List (List Int)):Option (Bool×Int×(List (List Int))):=
 (Fs b d c).bind fun r1=>cond (decide (r1.1<a)) ((E6 b c).bind fun f=>some ((decide ((0:Int)<r1.1),r1.1,f))) (some ((decide ((0:Int)<a),a,e)))
def Ef(c:Ar)(r1:BK×Int×Unit):Nat→Int→Int→Option (Int)
 |0,_,_=>none
 |d+1,b,a=>cond (decide (a<(c.Ad.length:Int))) ((idx ([r1.1.a0,r1.1.a1,r1.1.a2,r1.1.a3]:List Int) a).bind fun e=>cond (e==0) ((i64 (b+1)).bind fun _=>(i64 (a+1)).bind fun _=>Ef c r1 d (b+1) (a+1)) ((i64 (a+1)).bind fun _=>Ef c r1 d b (a+1))) (some (b))
def D6(c:Ar)(r1:BK×Int×Unit):Nat→Int→Int→Option (Int)
 |0,_,_=>none
 |d+1,b,a=>cond (decide (a<(c.Ad.length:Int))) ((idx ([r1.1.a0,r1.1.a1,r1.1.a2,r1.1.a3]:List Int) a).bind fun e=>cond (e==0) ((i64 (b+1)).bind fun _=>(i64 (a+1)).bind fun _=>D6 c r1 d (b+1) (a+1)) ((i64 (a+1)).bind fun _=>D6 c r1 d b (a+1))) (some (b))
def EC(c:Nat)(e:List (List Int))(b:Ar)(a:Int)(d:BK)(f:List (List Int)):Option (Bool×Int×BK×(List (List Int))):=
 (Cy c (fun(st:Unit) (x:Bb×Ag)=>(Ee c x.1 x.2).bind fun r=>some (r,())) b e ()).bind fun r1=>cond (decide ((0:Int)≤a)) (cond ([r1.1.a0,r1.1.a1,r1.1.a2,r1.1.a3]==[d.a0,d.a1,d.a2,d.a3]) (some ((true,a,d,f))) ((Ef b r1 c (0:Int) (0:Int)).bind fun z9=>cond (decide (a<z9)) ((E6 c e).bind fun g=>some ((decide (z9<(b.Ad.length:Int)),z9,r1.1,g))) (some ((decide (a<(b.Ad.length:Int)),a,r1.1,f))))) ((D6 b r1 c (0:Int) (0:Int)).bind fun z22=>cond (decide (a<z22)) ((E6 c e).bind fun h=>some ((decide (z22<(b.Ad.length:Int)),z22,r1.1,h))) (some ((decide (a<(b.Ad.length:Int)),a,r1.1,f))))
end Go.Proofs.YtkljfdkmjdjpfaaGreat
end
section
set_option linter.unusedVariables false
set_option linter.unusedSimpArgs false
namespace Go.Proofs.YtkljfdkmjdjpfaaGreat
open Go.RowKit Go.WideShapes
def Ck{g:Type}(h:Int→Ar→(List (List Int))→g→Option (Bool×(List (List Int))×g))(i:Int)(j:Ar)(c:Int)(f:List Int):Nat→Int→(List (List Int))→g→Option ((Bool×(List (List Int))×g)⊕((List (List Int))×g))
 |0,_,_,_=>none
 |k+1,a,b,e=>cond (decide (a<((f.length:Int)+1))) ((Fz (((0+f.length:Nat):Int)≤140737488355328/8)).bind fun _=>(Fz (0≤a∧a≤(f.length:Int)∧((f.length:Int)+1)*8≤140737488355328)).bind fun _=>(idx b c).bind fun l=>(i64 (i+1)).bind fun _=>(h (i+1) j (b.set c.toNat (CN f a i)) e).bind fun d=>cond (!d.1) (some (.inl (false,d.2.1,d.2.2))) ((i64 (a+1)).bind fun _=>Ck h i j c f k (a+1) d.2.1 d.2.2)) (some (.inr (b,e)))
def Cc{e:Type}(f:Int→Ar→(List (List Int))→e→Option (Bool×(List (List Int))×e))(h:Nat)(i:Int)(j:Ar)(k:List (List Int)):Nat→Int→(List (List Int))→e→Option ((Bool×(List (List Int))×e)⊕((List (List Int))×e))
 |0,_,_,_=>none
 |l+1,a,b,d=>cond (decide (a<(k.length:Int))) ((idx b a).bind fun g=>(i64 ((g.length:Int)+1)).bind fun _=>(Ck f i j a g h (0:Int) b d).bind fun z=>Sum.elim (fun c=>some (.inl (c.1,c.2.1,c.2.2))) (fun c=>(idx c.1 a).bind fun m=>(i64 (a+1)).bind fun _=>Cc f h i j k l (a+1) (c.1.set a.toNat g) c.2) z) (some (.inr (b,d)))
def BA{b:Type}(e:Nat)(d:b→(List (List Int))→Option (Bool×b)):Nat→Int→Ar→(List (List Int))→b→Option (Bool×(List (List Int))×b)
 |0,_,_,_,_=>none
 |i+1,f,g,c,h=>cond (f==(g.Ad.length:Int)) ((d h c).bind fun r2=>some ((r2.1,c,r2.2))) ((Cc (BA e d i) e f g c e (0:Int) c h).bind fun z=>Sum.elim (fun a=>some ((a.1,a.2.1,a.2.2))) (fun a=>some ((true,a.1,a.2))) z)
end Go.Proofs.YtkljfdkmjdjpfaaGreat
end
section
set_option linter.unusedVariables false
set_option linter.unusedSimpArgs false
namespace Go.Proofs.YtkljfdkmjdjpfaaGreat
open Go.RowKit Go.WideShapes
def EL{a:Type}(c:Nat)(d:a→(List (List Int))→Option (Bool×a))(b:Ar)(e:a):Option (a):=
 (Kb b.An 24).bind fun _=>(BA c d c 0 b (List.replicate b.An.toNat ([]:List Int)) e).bind fun f=>some (f.2.2)
end Go.Proofs.YtkljfdkmjdjpfaaGreat
end
section
set_option linter.unusedVariables false
set_option linter.unusedSimpArgs false
namespace Go.Proofs.YtkljfdkmjdjpfaaGreat
open Go.RowKit Go.WideShapes
def GR(c:Nat)(a:Ar):Option ((List (List Int))×Int×Int):=
 (C9 c a).bind fun d=>cond (d !=0) (some ((([]:List (List Int)),0,d))) ((i64 ((a.Ad.length:Int)+1)).bind fun _=>(EL c (fun(st:Int×(List (List Int))) (x:(List (List Int)))=>(Ga c x a st.1 st.2).bind fun r=>some (r.1,(r.2.1,r.2.2))) a ((a.Ad.length:Int)+1,([]:List (List Int)))).bind fun b=>some ((b.2,b.1,0)))
def GS(b:Nat)(c:Ar):Option ((List (List Int))×Int×Int):=
 (C9 b c).bind fun d=>cond (d !=0) (some ((([]:List (List Int)),0,d))) ((EL b (fun(st:Int×BK×(List (List Int))) (x:(List (List Int)))=>(EC b x c st.1 st.2.1 st.2.2).bind fun r=>some (r.1,(r.2.1,r.2.2.1,r.2.2.2))) c ((-1),(⟨0,0,0,0⟩:BK),([]:List (List Int)))).bind fun a=>some ((a.2.2,a.1,0)))
end Go.Proofs.YtkljfdkmjdjpfaaGreat
end
section
set_option linter.unusedVariables false
set_option linter.unusedSimpArgs false
namespace Go.Proofs.YtkljfdkmjdjpfaaGreat
open Go.RowKit Go.WideShapes
def DT(e:Nat)(c:Ar):Nat→(List Int)→Int→Option ((List Int))
 |0,_,_=>none
 |f+1,b,a=>cond (decide (a<(c.Ad.length:Int))) ((Kb c.An 24).bind fun _=>(idx (List.replicate c.An.toNat ([]:List Int)) (0:Int)).bind fun _=>(I2 (c.Ad.length:Int) a e (0:Int) ((List.replicate c.An.toNat ([]:List Int)).set 0 [a])).bind fun g=>(Cy e (fun(st:Unit) (x:Bb×Ag)=>(C8 e x.1 x.2).bind fun r=>some (r,())) c g ()).bind fun d=>(idx ([d.1.a0,d.1.a1,d.1.a2,d.1.a3]:List Int) a).bind fun h=>cond (h==d.2.1) ((i64 (a+1)).bind fun _=>DT e c f b (a+1)) ((Fz (((b.length+[a].length:Nat):Int)≤140737488355328/8)).bind fun _=>(i64 (a+1)).bind fun _=>DT e c f (b++[a]) (a+1))) (some (b))
def FG(a:Nat)(b:Ar):Option ((List Int)×Int):=
 (C9 a b).bind fun r2=>cond (r2 !=0) (some ((([]:List Int),r2))) ((DT a b a ([]:List Int) (0:Int)).bind fun z5=>some ((z5,0)))
end Go.Proofs.YtkljfdkmjdjpfaaGreat
end
section
set_option linter.unusedVariables false
set_option linter.unusedSimpArgs false
namespace Go.Proofs.YtkljfdkmjdjpfaaGreat
open Go.RowKit Go.WideShapes
def Da(d:Nat)(b:Ar)(c:AX):Nat→Int→Option ((Bool)⊕(Unit))
 |0,_=>none
 |h+1,a=>cond (decide (a<(c.Comes.length:Int))) ((idx c.Comes a).bind fun i=>(idx b.Ad a).bind fun e=>(idx b.Ad a).bind fun f=>(C7 d i e.AD f.AM).bind fun g=>cond (!g) (some (.inl false)) ((i64 (a+1)).bind fun _=>Da d b c h (a+1))) (some (.inr ()))
def Cl(c:AX):Nat→Int→Int→Option (Int)
 |0,_,_=>none
 |d+1,b,a=>cond (decide (a<(c.Ap.length:Int))) ((idx c.Ap a).bind fun e=>cond (e) ((Lt .u64 a).bind fun _=>(I1 (1:Int) a).bind fun _=>(Nf b (E8 (1:Int) a)).bind fun _=>(i64 (a+1)).bind fun _=>Cl c d (Ls b (E8 (1:Int) a)) (a+1)) ((i64 (a+1)).bind fun _=>Cl c d b (a+1))) (some (b))
def EM(b:Nat)(a:Ar)(c:AX):Option (Bool):=
 cond ((c.Comes.length:Int) !=(a.Ad.length:Int)) (some (false)) ((i64 (a.Am+1)).bind fun _=>cond ((c.Ap.length:Int) !=(a.Am+1)) (some (false)) ((Da b a c b (0:Int)).bind fun z=>Sum.elim (fun d=>some (d)) (fun d=>(Cl c b (0:Int) (0:Int)).bind fun e=>(DV b a e).bind fun f=>some (f)) z))
def Db(e:Nat)(f:Ar)(g:List (List Int))(c:Int):Nat→Int→Int→Option ((Bool)⊕(Int))
 |0,_,_=>none
 |j+1,a,b=>(idx g c).bind fun k=>cond (decide (b<(k.length:Int))) ((idx g c).bind fun l=>(idx l b).bind fun d=>(i64 ((f.Ad.length:Int)-1)).bind fun _=>(C7 e d 0 ((f.Ad.length:Int)-1)).bind fun h=>cond (!h) (some (.inl false)) ((D5 e a d).bind fun i=>cond (i) (some (.inl false)) ((Lt .u64 d).bind fun _=>(I1 (1:Int) d).bind fun _=>(Nf a (E8 (1:Int) d)).bind fun _=>(i64 (b+1)).bind fun _=>Db e f g c j (Ls a (E8 (1:Int) d)) (b+1)))) (some (.inr a))
def Dc(d:Nat)(f:Ar)(e:List (List Int)):Nat→Int→Int→Option ((Bool)⊕(Int))
 |0,_,_=>none
 |g+1,b,a=>cond (decide (a<(e.length:Int))) ((Db d f e a d b (0:Int)).bind fun z=>Sum.elim (fun c=>some (.inl c)) (fun c=>(i64 (a+1)).bind fun _=>Dc d f e g c (a+1)) z) (some (.inr b))
def EN(c:Nat)(a:Ar)(d:List (List Int)):Option (Bool):=
 cond ((d.length:Int) !=a.An) (some (false)) ((Dc c a d c (0:Int) (0:Int)).bind fun z=>Sum.elim (fun b=>some (b)) (fun b=>(Lt .u64 (a.Ad.length:Int)).bind fun _=>(I1 (1:Int) (a.Ad.length:Int)).bind fun _=>(i64 ((E8 (1:Int) (a.Ad.length:Int))-1)).bind fun _=>some (b==((E8 (1:Int) (a.Ad.length:Int))-1))) z)
def De:Nat→Int→(List Ag)→Option ((List Ag))
 |0,_,_=>none
 |c+1,a,b=>cond (decide (a<(b.length:Int))) ((idx b a).bind fun d=>(i64 (a+1)).bind fun _=>De c (a+1) (b.set a.toNat (⟨(-1),(-1),false⟩:Ag))) (some (b))
def Bq(i:Ar)(k:List (List Int))(l:AX)(f:Int):Nat→Int→Int→Int→Int→Int→(List Ag)→Option ((List Ag))
 |0,_,_,_,_,_,_=>none
 |m+1,d,c,h,j,a,b=>cond (decide (a≤i.Am)) (cond (decide (c<0)) ((idx k f).bind fun aE=>cond (decide (d<(aE.length:Int))) ((idx k f).bind fun aF=>(idx aF d).bind fun aG=>(idx l.Comes aG).bind fun aH=>cond (decide (aH≤a)) ((idx k f).bind fun aI=>(idx aI d).bind fun e=>(idx b e).bind fun g=>(i64 (d+1)).bind fun _=>cond (decide (e<0)) ((i64 (a+1)).bind fun _=>Bq i k l f m (d+1) e (0:Int) (0:Int) (a+1) (b.set e.toNat (⟨a,g.AF,g.Aq⟩:Ag))) ((idx l.Ap a).bind fun aJ=>cond (aJ) ((idx i.Ad e).bind fun aK=>cond ((0:Int)==aK.Aq) ((idx (b.set e.toNat (⟨a,g.AF,g.Aq⟩:Ag)) e).bind fun p=>(idx ((b.set e.toNat (⟨a,g.AF,g.Aq⟩:Ag)).set e.toNat (⟨p.On,a,p.Aq⟩:Ag)) e).bind fun v=>(i64 (a+1)).bind fun _=>Bq i k l f m (d+1) (-1) (0:Int) ((0:Int)+(1:Int)) (a+1) (((b.set e.toNat (⟨a,g.AF,g.Aq⟩:Ag)).set e.toNat (⟨p.On,a,p.Aq⟩:Ag)).set e.toNat (⟨v.On,v.AF,true⟩:Ag))) ((idx i.Ad e).bind fun aL=>cond (((0:Int)+(1:Int))==aL.BY) ((idx (b.set e.toNat (⟨a,g.AF,g.Aq⟩:Ag)) e).bind fun w=>(i64 (a+1)).bind fun _=>Bq i k l f m (d+1) (-1) (0:Int) ((0:Int)+(1:Int)) (a+1) ((b.set e.toNat (⟨a,g.AF,g.Aq⟩:Ag)).set e.toNat (⟨w.On,a,w.Aq⟩:Ag))) ((i64 (a+1)).bind fun _=>Bq i k l f m (d+1) e (0:Int) ((0:Int)+(1:Int)) (a+1) (b.set e.toNat (⟨a,g.AF,g.Aq⟩:Ag))))) ((idx i.Ad e).bind fun aM=>cond (((0:Int)+(1:Int))==aM.Aq) ((idx (b.set e.toNat (⟨a,g.AF,g.Aq⟩:Ag)) e).bind fun q=>(idx ((b.set e.toNat (⟨a,g.AF,g.Aq⟩:Ag)).set e.toNat (⟨q.On,a,q.Aq⟩:Ag)) e).bind fun x=>(i64 (a+1)).bind fun _=>Bq i k l f m (d+1) (-1) ((0:Int)+(1:Int)) (0:Int) (a+1) (((b.set e.toNat (⟨a,g.AF,g.Aq⟩:Ag)).set e.toNat (⟨q.On,a,q.Aq⟩:Ag)).set e.toNat (⟨x.On,x.AF,true⟩:Ag))) ((idx i.Ad e).bind fun aN=>cond ((0:Int)==aN.BY) ((idx (b.set e.toNat (⟨a,g.AF,g.Aq⟩:Ag)) e).bind fun y=>(i64 (a+1)).bind fun _=>Bq i k l f m (d+1) (-1) ((0:Int)+(1:Int)) (0:Int) (a+1) ((b.set e.toNat (⟨a,g.AF,g.Aq⟩:Ag)).set e.toNat (⟨y.On,a,y.Aq⟩:Ag))) ((i64 (a+1)).bind fun _=>Bq i k l f m (d+1) e ((0:Int)+(1:Int)) (0:Int) (a+1) (b.set e.toNat (⟨a,g.AF,g.Aq⟩:Ag))))))) ((i64 (a+1)).bind fun _=>Bq i k l f m d c h j (a+1) b)) ((i64 (a+1)).bind fun _=>Bq i k l f m d c h j (a+1) b)) ((idx l.Ap a).bind fun z=>cond (z) ((i64 (j+1)).bind fun _=>(idx i.Ad c).bind fun aA=>cond (h==aA.Aq) ((idx b c).bind fun n=>(idx (b.set c.toNat (⟨n.On,a,n.Aq⟩:Ag)) c).bind fun r=>(i64 (a+1)).bind fun _=>Bq i k l f m d (-1) h (j+1) (a+1) ((b.set c.toNat (⟨n.On,a,n.Aq⟩:Ag)).set c.toNat (⟨r.On,r.AF,true⟩:Ag))) ((idx i.Ad c).bind fun aB=>cond ((j+1)==aB.BY) ((idx b c).bind fun s=>(i64 (a+1)).bind fun _=>Bq i k l f m d (-1) h (j+1) (a+1) (b.set c.toNat (⟨s.On,a,s.Aq⟩:Ag))) ((i64 (a+1)).bind fun _=>Bq i k l f m d c h (j+1) (a+1) b))) ((i64 (h+1)).bind fun _=>(idx i.Ad c).bind fun aC=>cond ((h+1)==aC.Aq) ((idx b c).bind fun o=>(idx (b.set c.toNat (⟨o.On,a,o.Aq⟩:Ag)) c).bind fun t=>(i64 (a+1)).bind fun _=>Bq i k l f m d (-1) (h+1) (0:Int) (a+1) ((b.set c.toNat (⟨o.On,a,o.Aq⟩:Ag)).set c.toNat (⟨t.On,t.AF,true⟩:Ag))) ((idx i.Ad c).bind fun aD=>cond ((0:Int)==aD.BY) ((idx b c).bind fun u=>(i64 (a+1)).bind fun _=>Bq i k l f m d (-1) (h+1) (0:Int) (a+1) (b.set c.toNat (⟨u.On,a,u.Aq⟩:Ag))) ((i64 (a+1)).bind fun _=>Bq i k l f m d c (h+1) (0:Int) (a+1) b))))) (some (b))
def Dv(d:Nat)(e:Ar)(c:List (List Int))(f:AX):Nat→Int→(List Ag)→Option ((List Ag))
 |0,_,_=>none
 |h+1,a,b=>cond (decide (a<(c.length:Int))) ((Bq e c f a d (0:Int) (-1) (0:Int) (0:Int) (0:Int) b).bind fun g=>(i64 (a+1)).bind fun _=>Dv d e c f h (a+1) g) (some (b))
def DU(a:Nat)(b:Ar)(d:List (List Int))(e:AX):Option ((List Ag)):=
 (Kb (b.Ad.length:Int) 24).bind fun _=>(De a (0:Int) (List.replicate (b.Ad.length:Int).toNat (⟨0,0,false⟩:Ag))).bind fun z5=>(Dv a b d e a (0:Int) z5).bind fun c=>some (c)
end Go.Proofs.YtkljfdkmjdjpfaaGreat
end
section
set_option linter.unusedVariables false
set_option linter.unusedSimpArgs false
namespace Go.Proofs.YtkljfdkmjdjpfaaGreat
open Go.RowKit Go.WideShapes
def Dw(c:List (List Int)):Nat→(List (List Int))→Int→Option ((List (List Int)))
 |0,_,_=>none
 |e+1,b,a=>cond (decide (a<(c.length:Int))) ((idx c a).bind fun d=>(Fz (((([]:List Int).length+d.length:Nat):Int)≤140737488355328/8)).bind fun _=>(Fz (((b.length+[([]:List Int)++d].length:Nat):Int)≤140737488355328/24)).bind fun _=>(i64 (a+1)).bind fun _=>Dw c e (b++[([]:List Int)++d]) (a+1)) (some (b))
def Ff(a:Nat)(b:List (List Int)):Option ((List (List Int))):=
 (Dw b a ([]:List (List Int)) (0:Int)).bind fun z2=>some (z2)
def Fg(b:Nat)(a:AX):Option (AX):=
 (Fz (((([]:List Int).length+a.Comes.length:Nat):Int)≤140737488355328/8)).bind fun _=>(Fz (((([]:List Bool).length+a.Ap.length:Nat):Int)≤140737488355328/1)).bind fun _=>some ((⟨([]:List Int)++a.Comes,([]:List Bool)++a.Ap⟩:AX))
def Dx(c:List Ag)(b:List Ag):Nat→Int→Option ((Bool)⊕(Unit))
 |0,_=>none
 |e+1,a=>cond (decide (a<(c.length:Int))) ((idx c a).bind fun d=>(idx b a).bind fun f=>(idx b a).bind fun g=>(idx b a).bind fun h=>cond (!GX [.inl d.On,.inl d.AF,.inr d.Aq] [.inl f.On,.inl g.AF,.inr h.Aq]) (some (.inl false)) ((i64 (a+1)).bind fun _=>Dx c b e (a+1))) (some (.inr ()))
def DE(d:Nat)(b:List Ag)(c:List Ag):Option (Bool):=
 cond ((b.length:Int) !=(c.length:Int)) (some (false)) ((Dx b c d (0:Int)).bind fun z=>Sum.elim (fun a=>some (a)) (fun a=>some (true)) z)
def Dy(b:List (List Int)):Nat→Int→Option ((Bool)⊕(Unit))
 |0,_=>none
 |c+1,a=>cond (decide (a<(b.length:Int))) (cond (decide (a<5)) ((idx b a).bind fun d=>cond (decide ((6:Int)<(d.length:Int))) (some (.inl false)) ((i64 (a+1)).bind fun _=>Dy b c (a+1))) (some (.inr ()))) (some (.inr ()))
def Fh(c:Nat)(b:List (List Int)):Option (Bool):=
 (Dy b c (0:Int)).bind fun z=>Sum.elim (fun a=>some (a)) (fun a=>some (decide ((b.length:Int)≤4))) z
end Go.Proofs.YtkljfdkmjdjpfaaGreat
end
section
set_option linter.unusedVariables false
set_option linter.unusedSimpArgs false
namespace Go.Proofs.YtkljfdkmjdjpfaaGreat
open Go.RowKit Go.WideShapes
def B4(a:Nat):Option (Bool):=
 (CD a 1).bind fun r1=>(Gk a 3).bind fun v=>(FT a r1 [[0,1]] v).bind fun h=>(CD a 1).bind fun w=>(E1 a w [[0,1]] 1).bind fun d=>(CD a 1).bind fun i=>(E1 a i [[1,0]] 0).bind fun e=>(CD a 1).bind fun j=>(Gi a j [[1,0]]).bind fun b=>(CD a 1).bind fun k=>(GR a k).bind fun c=>(CD a 1).bind fun l=>(GS a l).bind fun f=>(CD a 1).bind fun m=>(FG a m).bind fun g=>cond (h.2==0) ((EI a 0 1 true).bind fun n=>(EI a 2 3 false).bind fun o=>(Gl a h.1 n o).bind fun p=>cond (p) (cond (d.2==0) (cond (d.1==3) (cond (e.2==0) (cond (e.1==2) (cond (b.2.2==0) (cond (b.1==2) ((CD a 1).bind fun q=>(Ft a q [[1,0]] b.2.1 2).bind fun r=>cond (r) (cond (c.2.2==0) (cond (c.2.1==1) ((CD a 1).bind fun s=>(E3 a s c.1 1).bind fun t=>cond (t) (cond (f.2.2==0) (cond (f.2.1==1) (cond (g.2==0) ((FC a g.1 [1]).bind fun u=>some (u)) (some (false))) (some (false))) (some (false))) (some (false))) (some (false))) (some (false))) (some (false))) (some (false))) (some (false))) (some (false))) (some (false))) (some (false))) (some (false))) (some (false))) (some (false))
end Go.Proofs.YtkljfdkmjdjpfaaGreat
end
section
namespace Go.Proofs.YtkljfdkmjdjpfaaGreat
theorem bd{α β:Type}{x:Option α}{a:α}{f:α→Option β}(h:x=some a):x.bind f=f a:=by rw[h];rfl
theorem BB{β:Type}{x:Int}{f:Int→Option β}(h0:-9223372036854775808≤x)(a:x≤9223372036854775807):(i64 x).bind f=f x:=bd (S4 h0 a)
theorem B5{α β:Type}{xs:List α}{k:Nat}{f:α→Option β}(h:k<xs.length):(idx xs (k:Int)).bind f=f xs[k]:=bd (idx_eq h)
theorem FK{β:Type}{p:Prop}[Decidable p]{f:Unit→Option β}(h:p):(Fz p).bind f=f ():=bd (if_pos h)
theorem Tf{β:Type}{a b:Int}{f:Int→Option β}(h0:0≤a)(c:1≤b):(rem a b).bind f=f (a%b):=bd (if_pos ⟨h0,c⟩)
theorem Ol{β:Type}{n:Int}{b:Nat}{f:Unit→Option β}(h0:0≤n)(a:n*b≤140737488355328)(c:n≤140737488355328):(Kb n b).bind f=f ():=bd (if_pos ⟨h0,a,c⟩)
theorem ct{α:Type}{b:Bool}{x y:α}(h:b=true):cond b x y=x:=by rw[h];rfl
theorem cf{α:Type}{b:Bool}{x y:α}(h:b=false):cond b x y=y:=by rw[h];rfl
theorem nt{α:Type}{x y:α}:cond (!true) x y=y:=rfl
theorem nf{α:Type}{x y:α}:cond (!false) x y=x:=rfl
theorem dt{p:Prop}[Decidable p](h:p):decide p=true:=decide_eq_true h
theorem df{p:Prop}[Decidable p](h:¬p):decide p=false:=decide_eq_false h
theorem C0(i:Nat):(i:Int)+1=((i+1:Nat):Int):=by omega
def Fw(n a b:Int):Bool:=decide (a≤n)&&decide (n≤b)
theorem FH{n a b:Int}:Fw n a b=true↔a≤n∧n≤b:=by simp[Fw]
theorem K5(K:Nat)(n a b:Int):C7 K n a b=some (Fw n a b):=by unfold C7 Fw;cases decide (a≤n)<;>rfl
theorem He(K:Nat)(n a b:Int):Eh K n a b=some (Fw n a b):=by unfold Eh Fw;cases decide (a≤n)<;>rfl
def run {σ α:Type} (cb:σ→α→Option (Bool×σ)):List α→σ→Option (Bool×σ)
 |[],s=>some (true,s)
 |x::l,s=>(cb s x).bind fun r=>cond r.1 (run cb l r.2) (some (false,r.2))
theorem Hv{σ α:Type}(cb:σ→α→Option (Bool×σ))(a:List α):∀(b:List α) (s:σ),run cb (b++a) s=(run cb b s).bind fun r=>cond r.1 (run cb a r.2) (some (false,r.2))
 |[],s=>rfl
 |x::l,s=>by
  simp only[List.cons_append,run];cases cb s x with
  |none=>rfl
  |some r=>
   simp only[Option.bind_some];cases h:r.1 with
   |false=>simp
   |true=>simpa using Hv cb a l r.2
theorem run_map{σ α β:Type}(cb:σ→β→Option (Bool×σ))(f:α→β):∀(l:List α) (s:σ),run cb (l.map f) s=run (fun s x=>cb s (f x)) l s
 |[],s=>rfl
 |x::l,s=>by simp only[List.map_cons,run,run_map cb f l]
theorem O8{σ:Type}(K:Nat)(cb:σ→Bool→Option (Bool×σ))(p:List Bool)(a:p.length≤5000):∀(n m i:Nat) (s:σ),p.length=i+n→n<m→
  (CS (fun(st:σ) (x:Bool)=>(Eo K cb x st).bind fun r=>some (r.1,r.2)) p m (i:Int) s).bind (fun z=>Sum.elim (fun q=>some (decide ((0:Int)≤q.1),q.2)) (fun q=>some (false,q)) z)=(run cb (p.drop i) s).bind fun r=>some (!r.1,r.2):=by
 intro n
 induction n with
 |zero=>
  intro m i s h hm;cases m with
  |zero=>omega
  |succ m=>
   rw[CS.eq_2,cf (df (by omega)),List.drop_eq_nil_of_le (by omega)];rfl
 |succ n ih=>
  intro m i s h hm;cases m with
  |zero=>omega
  |succ m=>
   have hi:i<p.length:=by omega
   rw[CS.eq_2,ct (dt (by omega)),B5 hi,List.drop_eq_getElem_cons hi];simp only[run];have e:(Eo K cb p[i] s).bind (fun r=>some (r.1,r.2))=(cb s p[i]).bind fun r=>some (!r.1,r.2):=by
    unfold Eo;cases cb s p[i]<;>rfl
   rw[e];cases b:cb s p[i] with
   |none=>rfl
   |some r=>
    simp only[Option.bind_some];cases c:r.1 with
    |false=>
     show some (decide ((0:Int)≤(i:Int)),r.2)=some (!false,r.2);rw[dt (by omega)];rfl
    |true=>
     rw[nt,BB (by omega) (by omega),C0];exact ih m (i+1) r.2 (by omega) (by omega)
theorem O9{σ:Type}{K:Nat}(cb:σ→Bool→Option (Bool×σ))(p:List Bool)(s:σ)(b:p.length≤5000)(hK:p.length<K):Gc K cb p s=run cb p s:=by
 unfold Gc EB Fa;have h:=O8 K cb p b p.length K 0 s (by omega) hK;rw[List.drop_zero,Int.natCast_zero] at h;have e:∀(z:(Int×σ)⊕σ),(Sum.elim (fun a=>some ((a.1,a.2))) (fun a=>some (((-1),a))) z:Option (Int×σ)).bind (fun r1=>some ((decide ((0:Int)≤r1.1),r1.2)))=Sum.elim (fun q=>some (decide ((0:Int)≤q.1),q.2)) (fun q=>some (false,q)) z:=by
  intro z;cases z<;>rfl
 refine Eq.trans (congrArg (fun z=>Option.bind z _) ((Option.bind_assoc _ _ _).trans ((congrArg (fun f=>Option.bind _ f) (funext e)).trans h))) ?_;cases run cb p s with
 |none=>rfl
 |some r=>show some (!(!r.1),r.2)=some r;rw[Bool.not_not]
theorem PI{σ:Type}(K:Nat)(cb:σ→Bb→Option (Bool×σ))(p:List Bb)(a:p.length≤5000):∀(n m i:Nat) (s:σ),p.length=i+n→n<m→
  (C1 (fun(st:σ) (x:Bb)=>(EF K cb x st).bind fun r=>some (r.1,r.2)) p m (i:Int) s).bind (fun z=>Sum.elim (fun q=>some (decide ((0:Int)≤q.1),q.2)) (fun q=>some (false,q)) z)=(run cb (p.drop i) s).bind fun r=>some (!r.1,r.2):=by
 intro n
 induction n with
 |zero=>
  intro m i s h hm;cases m with
  |zero=>omega
  |succ m=>
   rw[C1.eq_2,cf (df (by omega)),List.drop_eq_nil_of_le (by omega)];rfl
 |succ n ih=>
  intro m i s h hm;cases m with
  |zero=>omega
  |succ m=>
   have hi:i<p.length:=by omega
   rw[C1.eq_2,ct (dt (by omega)),B5 hi,List.drop_eq_getElem_cons hi];simp only[run];have e:(EF K cb p[i] s).bind (fun r=>some (r.1,r.2))=(cb s p[i]).bind fun r=>some (!r.1,r.2):=by
    unfold EF;cases cb s p[i]<;>rfl
   rw[e];cases b:cb s p[i] with
   |none=>rfl
   |some r=>
    simp only[Option.bind_some];cases c:r.1 with
    |false=>
     show some (decide ((0:Int)≤(i:Int)),r.2)=some (!false,r.2);rw[dt (by omega)];rfl
    |true=>
     rw[nt,BB (by omega) (by omega),C0];exact ih m (i+1) r.2 (by omega) (by omega)
theorem PJ{σ:Type}{K:Nat}(cb:σ→Bb→Option (Bool×σ))(p:List Bb)(s:σ)(b:p.length≤5000)(hK:p.length<K):Gt K cb p s=run cb p s:=by
 unfold Gt ER Fx;have h:=PI K cb p b p.length K 0 s (by omega) hK;rw[List.drop_zero,Int.natCast_zero] at h;have e:∀(z:(Int×σ)⊕σ),(Sum.elim (fun a=>some ((a.1,a.2))) (fun a=>some (((-1),a))) z:Option (Int×σ)).bind (fun r1=>some ((decide ((0:Int)≤r1.1),r1.2)))=Sum.elim (fun q=>some (decide ((0:Int)≤q.1),q.2)) (fun q=>some (false,q)) z:=by
  intro z;cases z<;>rfl
 refine Eq.trans (congrArg (fun z=>Option.bind z _) ((Option.bind_assoc _ _ _).trans ((congrArg (fun f=>Option.bind _ f) (funext e)).trans h))) ?_;cases run cb p s with
 |none=>rfl
 |some r=>show some (!(!r.1),r.2)=some r;rw[Bool.not_not]
def okW (W R:Int):List Bool→Int→Int→Bool
 |[],_,_=>true
 |false::l,s,_=>okW W R l s 0
 |true::l,s,r=>decide (s+1≤W)&&(decide (r+1≤R)&&okW W R l (s+1) (r+1))
theorem JA(K:Nat)(y:Ar):∀(l:List Bool) (r s:Int),0≤r→0≤s→r+l.length≤5000→s+l.length≤5000→
  (run (fun(st:Int×Int) (x:Bool)=>(DM K x st.1 st.2 y).bind fun r=>some (r.1,(r.2.1,r.2.2))) l (r,s)).bind (fun d=>some (d.1))=some (okW y.Ap y.AB l s r)
 |[],r,s,_,_,_,_=>rfl
 |false::l,r,s,e,c,a,b=>by
  simp only[run,okW];unfold DM;simp only[Bool.not_false,cond_true,Option.bind_some];exact JA K y l 0 s (by omega) c (by simp at a;omega) (by simp at b;omega)
 |true::l,r,s,e,c,a,b=>by
  simp only[List.length_cons] at a b;simp only[run,okW];unfold DM;simp only[Bool.not_true,cond_false];rw[BB (by omega) (by omega),BB (by omega) (by omega)];cases f:decide (s+1≤y.Ap) with
  |false=>simp
  |true=>
   simp only[cond_true,Option.bind_some];cases g:decide (r+1≤y.AB) with
   |false=>simp
   |true=>
    simp only[cond_true,Bool.true_and];exact JA K y l (r+1) (s+1) (by omega) (by omega) (by omega) (by omega)
theorem Mu{K:Nat}(y:Ar)(l:List Bool)(a:l.length≤4000)(hK:l.length<K):Et K y l=some (okW y.Ap y.AB l 0 0):=by
 unfold Et;rw[O9 _ l _ (by omega) hK];exact JA K y l 0 0 (by omega) (by omega) (by omega) (by omega)
end Go.Proofs.YtkljfdkmjdjpfaaGreat
end
section
namespace Go.Proofs.YtkljfdkmjdjpfaaGreat
theorem Om(s x:Nat):Fl (s:Int) (x:Int)=((s/2^x:Nat):Int):=by
 unfold Fl;rw[Int.toNat_natCast,Int.natCast_ediv,Int.natCast_pow];rfl
theorem RS(s x:Nat):Fl (s:Int) (x:Int)%2=((s/2^x%2:Nat):Int):=by rw[Om];simp
theorem PK(b d:Nat):(Fl (b:Int) (d:Int)%2==1)=b.testBit d:=by
 rw[RS,Nat.testBit_eq_decide_div_mod_eq];cases h:decide (b/2^d%2=1) with
 |true=>rw[of_decide_eq_true h];rfl
 |false=>
  have:=of_decide_eq_false h;simp only[beq_eq_false_iff_ne,ne_eq];omega
theorem PL(b d:Nat)(h:d<64):Nd (b:Int) (d:Int)=some ():=if_pos ⟨by omega,by omega⟩
theorem Tg(b d:Nat):0≤Fl (b:Int) (d:Int):=by rw[Om];exact Int.natCast_nonneg _
def wl (n b:Nat):List Bool:=(List.range n).map b.testBit
theorem FV(n b:Nat):(wl n b).length=n:=by simp[wl]
theorem Ur(b n:Nat)(a:List Bool)(h0:a.length=n)(d:n≤63):∀(k m i:Nat) (s:List Bool),n=i+k→k<m→s.length=n→
  CG (b:Int) a m (i:Int) s=some (s.take i++(List.range' i k).map b.testBit):=by
 intro k
 induction k with
 |zero=>
  intro m i s h hm c;cases m with
  |zero=>omega
  |succ m=>
   rw[CG.eq_2,cf (df (by omega)),List.take_of_length_le (by omega)];simp
 |succ k ih=>
  intro m i s h hm c;cases m with
  |zero=>omega
  |succ m=>
   have hi:i<s.length:=by omega
   rw[CG.eq_2,ct (dt (by omega)),bd (PL b i (by omega)),Tf (Tg b i) (by omega),B5 hi,BB (by omega) (by omega),C0,PK,Int.toNat_natCast];rw[ih m (i+1) (s.set i (b.testBit i)) (by omega) (by omega) (by rw[List.length_set];exact c)]
   congr 1
   rw[List.range'_succ,List.map_cons,List.take_add_one,List.getElem?_set_self hi,List.take_set_of_le (Nat.le_refl _)];simp
theorem Us(b n:Nat)(s:List Bool)(c:n≤63){K:Nat}(hK:n<K)(a:s.length=n):CG (b:Int) s K 0 s=some (wl n b):=by
 have:=Ur b n s a c n K 0 s (by omega) hK a;rw[Int.natCast_zero] at this;rw[this,wl,List.range_eq_range'];rfl
def Hw (y:Ar) (l:List Bool):Bool:=okW y.Ap y.AB l 0 0
def days(y:Ar):Nat:=(y.Am+1).toNat
def CO(y:Ar):List (List Bool):=((List.range (2^days y)).map (wl (days y))).filter (Hw y)
theorem IA:∀n:Nat,n≤10→2^n≤1024:=by decide
theorem Pb{σ:Type}{K:Nat}(cb:σ→List Bool→Option (Bool×σ))(y:Ar)(f:days y≤10)(hK:2000≤K):∀(k m i:Nat) (a:List Bool) (st:σ),2^days y=i+k→k<m→a.length=days y→
  CH cb K y m (i:Int) a st=(run cb (((List.range' i k).map (wl (days y))).filter (Hw y)) st).bind fun r=>some (cond r.1 (.inr r.2) (.inl r.2)):=by
 intro k;have g:=IA _ f;have b:E8 (1:Int) ((List.replicate (y.Am+1).toNat false).length:Int)=((2^days y:Nat):Int):=by
  unfold E8;rw[Int.one_mul,Int.toNat_natCast,List.length_replicate,Int.natCast_pow];rfl
 induction k with
 |zero=>
  intro m i a st h hm c;cases m with
  |zero=>omega
  |succ m=>
   rw[CH.eq_2,b,cf (df (by omega))];rfl
 |succ k ih=>
  intro m i a st h hm c;cases m with
  |zero=>omega
  |succ m=>
   rw[CH.eq_2,b,ct (dt (by omega)),bd (Us i (days y) a (by omega) (by omega) c),bd (Mu y (wl (days y) i) (by rw[FV];omega) (by rw[FV];omega))];rw[List.range'_succ,List.map_cons];show cond (Hw y (wl (days y) i)) _ _=_;cases d:Hw y (wl (days y) i) with
   |false=>
    rw[List.filter_cons_of_neg (by rw[d];decide),cf rfl,BB (by omega) (by omega),C0];exact ih m (i+1) _ st (by omega) (by omega) (FV _ _)
   |true=>
    rw[List.filter_cons_of_pos d,ct rfl];show _=(Option.bind _ _:Option (Bool×σ)).bind _;cases j:cb st (wl (days y) i) with
    |none=>rfl
    |some r=>
     cases e:r.1 with
     |false=>
      show(cond (!r.1) (some (Sum.inl r.2)) _:Option (σ⊕σ))=(cond r.1 _ (some (false,r.2)):Option (Bool×σ)).bind _;rw[e];rfl
     |true=>
      show cond (!r.1) _ ((i64 ((i:Int)+1)).bind _)=(cond r.1 (run cb _ r.2) _:Option (Bool×σ)).bind _;rw[e,nt,BB (by omega) (by omega),C0];exact ih m (i+1) _ r.2 (by omega) (by omega) (FV _ _)
theorem LC{σ:Type}{K:Nat}(cb:σ→List Bool→Option (Bool×σ))(y:Ar)(h0:0≤y.Am)(h9:y.Am≤9)(hK:2000≤K)(st:σ):
  Ds K cb y st=(run cb (CO y) st).bind fun r=>some r.2:=by
 have a:days y≤10:=by unfold days;omega
 have c:=IA _ a;unfold Ds;rw[BB (by omega) (by omega),Ol (by omega) (by omega) (by omega)];have b:I1 (1:Int) ((List.replicate (y.Am+1).toNat false).length:Int)=some ():=by
  rw[List.length_replicate];refine if_pos ⟨by omega,by omega,?_,?_⟩
  ·have:(0:Int)≤1*2^((days y:Nat):Int).toNat:=by rw[Int.one_mul];exact Int.le_of_lt (Int.pow_pos (by omega))
   exact Int.le_trans (by omega) this
  ·rw[Int.one_mul,Int.toNat_natCast];have:((2^days y:Nat):Int)≤1024:=by omega
   rw[Int.natCast_pow] at this;exact Int.le_trans this (by omega)
 rw[bd b];have:=Pb (K:=K) cb y a hK (2^days y) K 0 (List.replicate (y.Am+1).toNat false) st (by omega) (by omega) (by rw[List.length_replicate];rfl);rw[Int.natCast_zero] at this;rw[this,CO,List.range_eq_range',Option.bind_assoc]
 congr 1;funext r
 cases r.1<;>rfl
end Go.Proofs.YtkljfdkmjdjpfaaGreat
end
section
namespace Go.Proofs.YtkljfdkmjdjpfaaGreat
def Gd(y:Ar)(l:Bb):Bool:=decide (0≤l.AD)&&(decide (l.AD≤l.AM)&&(decide (l.AM≤y.Am)&&(Fw l.Aq 1 5&&(Fw l.BY 1 5&&Fw l.Cr 0 y.Am))))
def CR(l:Bb):Int:=l.AM-l.AD+1
def FQ:List Bb→Int
 |[]=>1
 |l::r=>CR l*FQ r
def If (y:Ar):Int:=((CO y).length:Int)*FQ y.Ad
def check(y:Ar):Int:=
 if 9<y.Am∨2<y.An∨4<(y.Ad.length:Int) then 3
 else if y.Am<0∨y.An<1∨Fw y.Ap 0 (y.Am+1)=false∨Fw y.AB 0 (y.Am+1)=false∨y.Ad.all (Gd y)=false then 1
 else if 1000<If y then 3 else 0
theorem IQ{y:Ar}{l:Bb}:Gd y l=true↔0≤l.AD∧l.AD≤l.AM∧l.AM≤y.Am∧(1≤l.Aq∧l.Aq≤5)∧(1≤l.BY∧l.BY≤5)∧0≤l.Cr∧l.Cr≤y.Am:=by
 unfold Gd;simp only[Bool.and_eq_true,decide_eq_true_eq,FH]
theorem Ut(K:Nat)(y:Ar)(l:Bb):EY K y l=some (Gd y l):=by
 unfold EY Gd GY GL;rw[He,He,He];cases decide ((0:Int)≤l.AD)<;>cases decide (l.AD≤l.AM)<;>cases decide (l.AM≤y.Am)<;>cases Fw l.Aq 1 5<;>cases Fw l.BY 1 5<;>rfl
theorem Th{K:Nat}(hK:2<K)(a b:Int):Gu K [a,b]=some (min a b):=by
 obtain⟨k,rfl⟩:∃k,K=k+3:=⟨K-3,by omega⟩;unfold Gu GH;rw[cf (df (by simp)),show(0:Int)=((0:Nat):Int) from rfl,B5 (by simp),show(1:Int)=((1:Nat):Int) from rfl,Eu.eq_2,ct (dt (by simp)),B5 (by simp),BB (by omega) (by omega),Eu.eq_2,cf (df (by simp))];rfl
theorem PN(K:Nat)(l:Bb)(h0:0≤l.AD)(a:l.AD≤l.AM)(b:l.AM≤9):E2 K (⟨l.AD,l.AM⟩:CQ)=some (CR l):=by
 unfold E2;show(i64 (l.AM-l.AD)).bind _=_;rw[BB (by omega) (by omega)];show(i64 (l.AM-l.AD+1)).bind _=_;rw[BB (by omega) (by omega)];rfl
theorem Ti(K:Nat)(l:Bb)(h0:0≤l.AD)(a:l.AD≤l.AM)(b:l.AM≤9):FB K (⟨l.AD,l.AM⟩:CQ)=some (CR l):=by
 unfold FB;show(i64 (l.AM-l.AD)).bind _=_;rw[BB (by omega) (by omega)];show(i64 (l.AM-l.AD+1)).bind _=_;rw[BB (by omega) (by omega)];rfl
def I3(c:Int):Int→List Bb→Int
 |n,[]=>n
 |n,l::r=>I3 c (min (n*CR l) c) r
def sized(l:Bb):Prop:=1≤CR l∧CR l≤10
theorem K6{y:Ar}{l:Bb}(h9:y.Am≤9)(h:Gd y l=true):sized l:=by
 obtain⟨a,b,c,_⟩:=IQ.1 h;unfold sized CR;omega
theorem Ki:∀{ls:List Bb},(∀l∈ls,sized l)→1≤FQ ls
 |[],_=>Int.le_refl _
 |l::r,h=>by
  have a:=(h l (List.mem_cons_self ..)).1;have b:=Ki (ls:=r) fun x c=>h x (List.mem_cons_of_mem _ c);have:=Int.mul_le_mul a b (by omega) (by omega);unfold FQ;omega
theorem L1{c:Int}(e:1000<c):∀{ls:List Bb} (n:Int),0≤n→(∀l∈ls,sized l)→(1000<I3 c n ls↔1000<n*FQ ls)
 |[],n,_,_=>by simp[I3,FQ]
 |l::r,n,f,h=>by
  have g:=h l (List.mem_cons_self ..);have b:∀x∈r,sized x:=fun x i=>h x (List.mem_cons_of_mem _ i);have d:=Ki b;have h0:0≤n*CR l:=Int.mul_nonneg f (by have:=g.1;omega);unfold I3 FQ;rw[L1 e _ (by omega) b,←Int.mul_assoc];rcases Int.le_total (n*CR l) c with a|a
  ·rw[Int.min_eq_left a]
  ·rw[Int.min_eq_right a];have j:c*1≤c*FQ r:=Int.mul_le_mul_of_nonneg_left d (by omega);have k:(n*CR l)*1≤n*CR l*FQ r:=Int.mul_le_mul_of_nonneg_left d h0;constructor<;>intro _<;>omega
theorem Oo{c:Int}(b:1000<c):∀{ls:List Bb} (n:Int),0≤n→(∀l∈ls,sized l)→n*FQ ls≤1000→I3 c n ls=n*FQ ls
 |[],n,_,_,_=>by simp[I3,FQ]
 |l::r,n,d,h,hle=>by
  have e:=h l (List.mem_cons_self ..);have a:∀x∈r,sized x:=fun x f=>h x (List.mem_cons_of_mem _ f);have g:=Ki a;have h0:0≤n*CR l:=Int.mul_nonneg d (by have:=e.1;omega);rw[FQ,←Int.mul_assoc] at hle;rw[I3,FQ,←Int.mul_assoc];have i:(n*CR l)*1≤n*CR l*FQ r:=Int.mul_le_mul_of_nonneg_left g h0;rw[Int.min_eq_left (by omega),Oo b _ h0 a hle]
theorem RT(y:Ar)(j:y.Ad.length≤4)(b:∀l∈y.Ad,sized l∧0≤l.AD∧l.AM≤9){K:Nat}(hK:2000≤K):∀(k m i:Nat) (n:Int),y.Ad.length=i+k→k<m→0≤n→n≤3000→
  DY K y m (i:Int) n=some (I3 1001 n (y.Ad.drop i)):=by
 intro k
 induction k with
 |zero=>
  intro m i n h hm h0 a;cases m with
  |zero=>omega
  |succ m=>rw[DY.eq_2,cf (df (by omega)),List.drop_eq_nil_of_le (by omega)];rfl
 |succ k ih=>
  intro m i n h hm h0 a;cases m with
  |zero=>omega
  |succ m=>
   have hi:i<y.Ad.length:=by omega
   obtain⟨⟨s1,s2⟩,c,d⟩:=b y.Ad[i] (List.getElem_mem hi);have e:1≤CR y.Ad[i]∧CR y.Ad[i]≤10:=⟨s1,s2⟩;have f:0≤n*CR y.Ad[i]:=Int.mul_nonneg h0 (by omega);have g:n*CR y.Ad[i]≤3000*10:=Int.mul_le_mul a s2 (by omega) (by omega);rw[DY.eq_2,ct (dt (by omega)),B5 hi,bd (PN K _ c (by unfold CR at s1;omega) d),BB (by omega) (by omega),bd (Th (by omega) _ _),BB (by omega) (by omega),C0];rw[ih m (i+1) _ (by omega) (by omega) (by omega) (by omega),List.drop_eq_getElem_cons hi];rfl
theorem Tj(y:Ar)(j:y.Ad.length≤4)(b:∀l∈y.Ad,sized l∧0≤l.AD∧l.AM≤9){K:Nat}:∀(k m i:Nat) (n:Int),y.Ad.length=i+k→k<m→0≤n→n≤3000→
  DJ K y m n (i:Int)=some (I3 3000 n (y.Ad.drop i)):=by
 intro k
 induction k with
 |zero=>
  intro m i n h hm h0 a;cases m with
  |zero=>omega
  |succ m=>rw[DJ.eq_2,cf (df (by omega)),List.drop_eq_nil_of_le (by omega)];rfl
 |succ k ih=>
  intro m i n h hm h0 a;cases m with
  |zero=>omega
  |succ m=>
   have hi:i<y.Ad.length:=by omega
   obtain⟨⟨s1,s2⟩,c,d⟩:=b y.Ad[i] (List.getElem_mem hi);have e:1≤CR y.Ad[i]∧CR y.Ad[i]≤10:=⟨s1,s2⟩;have f:0≤n*CR y.Ad[i]:=Int.mul_nonneg h0 (by omega);have g:n*CR y.Ad[i]≤3000*10:=Int.mul_le_mul a s2 (by omega) (by omega);rw[DJ.eq_2,ct (dt (by omega)),B5 hi,bd (Ti K _ c (by unfold CR at s1;omega) d),BB (by omega) (by omega),BB (by omega) (by omega),C0,Int.min_comm];rw[ih m (i+1) _ (by omega) (by omega) (by omega) (by omega),List.drop_eq_getElem_cons hi];rfl
theorem Mw{α:Type}:∀(l:List α) (n:Int),0≤n→n+l.length≤100000→run (fun(st:Int) (_:α)=>(i64 (st+1)).bind fun _=>some (true,st+1)) l n=some (true,n+l.length)
 |[],n,_,_=>by simp[run]
 |x::l,n,h0,a=>by
  simp only[List.length_cons] at a⊢;rw[run,BB (by omega) (by omega)];show run _ l (n+1)=_;rw[Mw l (n+1) (by omega) (by omega)]
  congr 2;omega
theorem Kj(y:Ar)(h:days y≤10):(CO y).length≤1024:=by
 have a:=IA _ h;have:(CO y).length≤((List.range (2^days y)).map (wl (days y))).length:=List.length_filter_le ..;simp at this;omega
theorem Mx{K:Nat}(y:Ar):∀(l:List Bb),run (fun(st:Unit) (x:Bb)=>(EY K y x).bind fun r=>some (r,())) l ()=some (l.all (Gd y),())
 |[]=>rfl
 |x::l=>by
  rw[run,Ut];show cond (Gd y x) (run _ l ()) (some (false,()))=_;rw[Mx y l,List.all_cons];cases Gd y x<;>rfl
theorem HE{K:Nat}(hK:2000≤K)(y:Ar):C9 K y=some (check y):=by
 unfold C9 check
 by_cases g:9<y.Am
 ·rw[ct (dt g),if_pos (.inl g)]
 rw[cf (df g)]
 by_cases i:2<y.An
 ·rw[ct (dt i),if_pos (.inr (.inl i))]
 rw[cf (df i)]
 by_cases j:4<(y.Ad.length:Int)
 ·rw[ct (dt j),if_pos (.inr (.inr j))]
 rw[cf (df j),if_neg (by omega)]
 by_cases b:y.Am<0
 ·rw[ct (dt b),if_pos (.inl b)]
 rw[cf (df b)]
 by_cases d:y.An<1
 ·rw[ct (dt d),if_pos (.inr (.inl d))]
 rw[cf (df d),BB (by omega) (by omega),bd (He ..)];cases r:Fw y.Ap 0 (y.Am+1) with
 |false=>rw[nf,if_pos (.inr (.inr (.inl rfl)))]
 |true=>
  rw[nt,BB (by omega) (by omega),bd (He ..)];cases s:Fw y.AB 0 (y.Am+1) with
  |false=>rw[nf,if_pos (.inr (.inr (.inr (.inl rfl))))]
  |true=>
   rw[nt,PJ _ _ _ (by omega) (by omega),bd (Mx y y.Ad)];cases o:y.Ad.all (Gd y) with
   |false=>rw[nf,if_pos (.inr (.inr (.inr (.inr rfl))))]
   |true=>
    rw[nt,if_neg (by simp[b,d])];have p:days y≤10:=by unfold days;omega
    have hw:=Kj y p;have m:∀l∈y.Ad,sized l∧0≤l.AD∧l.AM≤9:=fun l k=>by
     have n:=List.all_eq_true.1 o l k;have:=IQ.1 n;exact⟨K6 (by omega) n,this.1,by omega⟩
    have q:Ds K (fun(st:Int) (x:List Bool)=>EZ st x) y (0:Int)=some ((CO y).length:Int):=by
     rw[LC _ y (by omega) (by omega) hK];show(run (fun(st:Int) (_:List Bool)=>(i64 (st+1)).bind fun _=>some (true,st+1)) (CO y) 0).bind _=_;rw[Mw _ 0 (by omega) (by omega)];simp
    have a:=RT y (by omega) m hK y.Ad.length K 0 ((CO y).length:Int) (by omega) (by omega) (by omega) (by omega);rw[Int.natCast_zero,List.drop_zero] at a;rw[bd q,bd a];have f:=L1 (c:=1001) (by omega) ((CO y).length:Int) (by omega) fun l k=>(m l k).1;unfold If
    by_cases e:1000<((CO y).length:Int)*FQ y.Ad
    ·rw[ct (dt (f.2 e)),if_pos e]
    ·rw[cf (df fun h=>e (f.1 h)),if_neg e]
end Go.Proofs.YtkljfdkmjdjpfaaGreat
end
section
namespace Go.Proofs.YtkljfdkmjdjpfaaGreat
def Ex:List Bb→List (List Int)
 |[]=>[[]]
 |l::r=>(List.range (CR l).toNat).flatMap fun(n:Nat)=>(Ex r).map fun c=>(l.AD+(n:Int))::c
def Cs(y:Ar):List AX:=(CO y).flatMap fun w=>(Ex y.Ad).map fun c=>⟨c,w⟩
section
variable{σ:Type}{K:Nat}(cb:σ→AX→Option (Bool×σ))(y:Ar)(w:List Bool)
def Tr (k i:Nat):Prop:=∀(c:List Int) (st:σ),c.length=y.Ad.length→
 (BO K cb k (i:Int) c w y st).map (fun z=>(z.1,z.2.2))=run (fun s d=>cb s ⟨c.take i++d,w⟩) (Ex (y.Ad.drop i)) st∧
 ∀z,BO K cb k (i:Int) c w y st=some z→z.2.1.length=y.Ad.length∧z.2.1.take i=c.take i
def QL{α β:Type}:(Bool×α×β)⊕(α×β)→Bool×β
 |.inl x=>(false,x.2.2)
 |.inr x=>(true,x.2)
def Tk{α β:Type}:(Bool×α×β)⊕(α×β)→α
 |.inl x=>x.2.1
 |.inr x=>x.1
theorem QM(k i:Nat)(hi:i<y.Ad.length)(aL:y.Ad.length≤4)(aD:∀l∈y.Ad,sized l∧0≤l.AD∧l.AM≤9)(ih:Tr (K:=K) cb y w k (i+1)):
  ∀(n m j:Nat) (c:List Int) (st:σ),(CR y.Ad[i]).toNat=j+n→n<m→c.length=y.Ad.length→
  (Ca (BO K cb k) (i:Int) w y (CR y.Ad[i]) m (j:Int) c st).map QL=run (fun s d=>cb s ⟨c.take i++d,w⟩) ((List.range' j n).flatMap fun(q:Nat)=>(Ex (y.Ad.drop (i+1))).map fun d=>(y.Ad[i].AD+(q:Int))::d) st∧
  ∀z,Ca (BO K cb k) (i:Int) w y (CR y.Ad[i]) m (j:Int) c st=some z→(Tk z).length=y.Ad.length∧(Tk z).take i=c.take i∧(∀x,z=.inl x→x.1=false):=by
 obtain⟨⟨s1,s2⟩,aM,aN⟩:=aD y.Ad[i] (List.getElem_mem hi);have aJ:1≤CR y.Ad[i]∧CR y.Ad[i]≤10:=⟨s1,s2⟩;intro n
 induction n with
 |zero=>
  intro m j c st h hm o;cases m with
  |zero=>omega
  |succ m=>
   rw[Ca.eq_2,cf (df (by omega))];exact⟨rfl,fun z b=>by cases b;exact⟨o,rfl,fun x p=>by cases p⟩⟩
 |succ n u=>
  intro m j c st h hm o;cases m with
  |zero=>omega
  |succ m=>
   have f:i<c.length:=by omega
   have aK:y.Ad[i].AD≤9:=by unfold CR at s1;omega
   rw[Ca.eq_2,ct (dt (by omega)),B5 hi,BB (by omega) (by omega),B5 f,BB (by omega) (by omega),C0 i,Int.toNat_natCast];have v:(c.set i (y.Ad[i].AD+(j:Int))).length=y.Ad.length:=by rw[List.length_set];exact o
   have g:(c.set i (y.Ad[i].AD+(j:Int))).take (i+1)=c.take i++[y.Ad[i].AD+(j:Int)]:=by
    rw[List.take_add_one,List.getElem?_set_self f,List.take_set_of_le (Nat.le_refl _)];rfl
   obtain⟨t,aE⟩:=ih _ st v;rw[g] at t;rw[List.range'_succ,List.flatMap_cons,Hv,run_map];have aF:run (fun s d=>cb s ⟨c.take i++[y.Ad[i].AD+(j:Int)]++d,w⟩) (Ex (y.Ad.drop (i+1))) st=run (fun s d=>cb s ⟨c.take i++(y.Ad[i].AD+(j:Int))::d,w⟩) (Ex (y.Ad.drop (i+1))) st:=by
    congr 1;funext s d;rw[List.append_assoc];rfl
   rw[aF] at t;rw[←t];cases aG:BO K cb k ((i+1:Nat):Int) (c.set i (y.Ad[i].AD+(j:Int))) w y st with
   |none=>exact⟨rfl,fun z b=>by cases b⟩
   |some r=>
    obtain⟨aA,aH⟩:=aE r aG;have aB:r.2.1.take i=c.take i:=by
     have:=congrArg (List.take i) aH;rw[List.take_take,Nat.min_eq_left (by omega),g,List.take_append_of_le_length (by rw[List.length_take];omega),List.take_take,Nat.min_self] at this;exact this
    obtain⟨aI,rc,e⟩:=r;cases aI with
    |false=>
     refine⟨rfl,fun z b=>?_⟩;have aC:some (Sum.inl (false,rc,e))=some z:=b;cases aC;exact⟨aA,aB,fun x p=>by cases p;rfl⟩
    |true=>
     have key:(Option.bind (some (true,rc,e)) fun a=>cond (!a.1) (some (Sum.inl (false,a.2.1,a.2.2))) ((i64 ((j:Int)+1)).bind fun _=>Ca (BO K cb k) (i:Int) w y (CR y.Ad[i]) m ((j:Int)+1) a.2.1 a.2.2))=Ca (BO K cb k) (i:Int) w y (CR y.Ad[i]) m ((j+1:Nat):Int) rc e:=by
      rw[Option.bind_some,nt,BB (by omega) (by omega),C0 j]
     have:=u m (j+1) rc e (by omega) (by omega) aA;rw[aB] at this;rw[key];exact this
theorem Pc(t:y.Ad.length≤4)(g:∀l∈y.Ad,sized l∧0≤l.AD∧l.AM≤9)(hK:2000≤K):∀(n k i:Nat),y.Ad.length=i+n→n<k→Tr (K:=K) cb y w k i:=by
 intro n
 induction n with
 |zero=>
  intro k i h u c st f;cases k with
  |zero=>omega
  |succ k=>
   rw[BO.eq_2,ct (by rw[f,h];simp),List.drop_eq_nil_of_le (by omega)];have j:c.take i=c:=List.take_of_length_le (by omega);rw[j];simp only[Ex,run,List.append_nil];cases cb st ⟨c,w⟩ with
   |none=>exact⟨rfl,fun z a=>by cases a⟩
   |some r=>
    obtain⟨b,s⟩:=r;refine⟨by cases b<;>rfl,fun z a=>?_⟩;have e:some (b,c,s)=some z:=a;cases e;exact⟨f,j⟩
 |succ n ih=>
  intro k i h u c st f;cases k with
  |zero=>omega
  |succ k=>
   have hi:i<y.Ad.length:=by omega
   obtain⟨⟨s1,s2⟩,v,aA⟩:=g y.Ad[i] (List.getElem_mem hi);rw[BO.eq_2,cf (by rw[f];simp;omega),B5 hi,bd (PN K _ v (by unfold CR at s1;omega) aA)];obtain⟨m,o⟩:=QM cb y w k i hi t g (ih k (i+1) (by omega) (by omega)) (CR y.Ad[i]).toNat K 0 c st (by omega) (by omega) f;rw[Int.natCast_zero] at m o;rw[List.drop_eq_getElem_cons hi,Ex,List.range_eq_range',←m];cases aB:Ca (BO K cb k) (i:Int) w y (CR y.Ad[i]) K 0 c st with
   |none=>exact⟨rfl,fun z a=>by cases a⟩
   |some r=>
    obtain⟨p,q,aC⟩:=o r aB;cases r with
    |inl x=>
     obtain⟨b,d,s⟩:=x;obtain rfl:=aC _ rfl;refine⟨rfl,fun z a=>?_⟩;have e:some (false,d,s)=some z:=a;cases e;exact⟨p,q⟩
    |inr x=>
     obtain⟨d,s⟩:=x;refine⟨rfl,fun z a=>?_⟩;have e:some (true,d,s)=some z:=a;cases e;exact⟨p,q⟩
end
theorem My{σ:Type}{K:Nat}(cb:σ→AX→Option (Bool×σ))(y:Ar)(e:y.Ad.length≤4)(f:∀l∈y.Ad,sized l∧0≤l.AD∧l.AM≤9)(hK:2000≤K):∀(ws:List (List Bool)) (c:List Int) (st:σ),c.length=y.Ad.length→
  (run (fun(st:(List Int)×σ×Bool) (x:(List Bool))=>cond st.2.2 none (Di cb K y st.1 st.2.1 x)) ws (c,st,false)).bind (fun a=>cond (a.2.2.2) (some (a.2.2.1)) (some (a.2.2.1)))=
  (run cb (ws.flatMap fun w=>(Ex y.Ad).map fun c=>(⟨c,w⟩:AX)) st).bind fun r=>some r.2
 |[],c,st,_=>rfl
 |w::ws,c,st,i=>by
  obtain⟨g,h⟩:=Pc cb y w e f hK y.Ad.length K 0 (by omega) (by omega) c st i;rw[Int.natCast_zero,List.drop_zero,List.take_zero] at g;rw[Int.natCast_zero] at h;rw[List.flatMap_cons,Hv,run_map];have j:run (fun s d=>cb s ⟨[]++d,w⟩) (Ex y.Ad) st=run (fun s d=>cb s (⟨d,w⟩:AX)) (Ex y.Ad) st:=rfl;rw[←j,←g,run];show(Option.bind (Di cb K y c st w) _:Option _).bind _=_;unfold Di;cases k:BO K cb K 0 c w y st with
  |none=>rfl
  |some r=>
   obtain⟨m,n⟩:=h r k;obtain⟨b,d,s⟩:=r;cases b with
   |false=>rfl
   |true=>
    show(run _ ws (d,s,false)).bind _=(run cb _ s).bind _;exact My cb y e f hK ws d s m
theorem QN{σ:Type}{K:Nat}(cb:σ→AX→Option (Bool×σ))(y:Ar)(h0:0≤y.Am)(h9:y.Am≤9)(a:y.Ad.length≤4)(b:∀l∈y.Ad,sized l∧0≤l.AD∧l.AM≤9)(hK:2000≤K)(st:σ):
  E0 K cb y st=(run cb (Cs y) st).bind fun r=>some r.2:=by
 unfold E0;rw[Ol (by omega) (by omega) (by omega),LC _ y h0 h9 hK,Option.bind_assoc];exact My cb y a b hK (CO y) (List.replicate (y.Ad.length:Int).toNat (0:Int)) st (by rw[List.length_replicate];omega)
end Go.Proofs.YtkljfdkmjdjpfaaGreat
end
section
namespace Go.Proofs.YtkljfdkmjdjpfaaGreat
def H3:Bb:=⟨0,0,0,0,0⟩
def Ek(y:Ar)(i:Int):Bb:=y.Ad.getD i.toNat H3
def Ey(c:List Int)(i:Int):Int:=c.getD i.toNat 0
def Fu (l:Bb) (d0:Int):List Bool→Int→Int→Int→Ag
 |[],_,_,_=>⟨d0,-1,false⟩
 |true::ws,d,DF,run=>cond (DF==l.Aq) ⟨d0,d,DF==l.Aq⟩ (cond (run+1==l.BY) ⟨d0,d,DF==l.Aq⟩ (Fu l d0 ws (d+1) DF (run+1)))
 |false::ws,d,DF,run=>cond (DF+1==l.Aq) ⟨d0,d,DF+1==l.Aq⟩ (cond ((0:Int)==l.BY) ⟨d0,d,DF+1==l.Aq⟩ (Fu l d0 ws (d+1) (DF+1) 0))
def ED(y:Ar)(w:List Bool)(l:Bb)(d:Int):Ag:=if y.Am<d then ⟨-1,-1,false⟩ else Fu l d (w.drop d.toNat) d 0 0
def wk(y:Ar)(w:List Bool)(m:List (List Int×Ag)):Cx:=⟨y.Am,y.An,y.Ap,y.AB,y.Ad,w,m⟩
theorem Uu(y:Ar)(w:List Bool)(mm:List (List Int×Ag))(p:Ht)(l:Bb)(h9:y.Am≤9)(hw:(w.length:Int)=y.Am+1)(b0 f:Int)(g:Bool):∀(k m d:Nat) (DF r:Int),y.Am+1=d+k→k<m→0≤DF→DF≤d→0≤r→r≤d→
  (DS (wk y w mm) p l m DF r (d:Int) b0 f g).bind (fun z=>Sum.elim (fun a=>some ((⟨a.1,a.2.1,a.2.2⟩:Ag))) (fun a=>some ((⟨p.day,(-1),false⟩:Ag))) z)=some (Fu l p.day (w.drop d) (d:Int) DF r):=by
 intro k
 induction k with
 |zero=>
  intro m d DF r h hm h0 i j n;cases m with
  |zero=>omega
  |succ m=>
   rw[DS.eq_2,cf (df (by show¬(d:Int)≤y.Am;omega)),List.drop_eq_nil_of_le (by omega)];rfl
 |succ k ih=>
  intro m d DF r h hm h0 i j n;cases m with
  |zero=>omega
  |succ m=>
   have b:d<w.length:=by omega
   have c:d<(wk y w mm).C4.length:=b;rw[DS.eq_2,ct (dt (by show(d:Int)≤y.Am;omega)),B5 c,List.drop_eq_getElem_cons b];have e:(wk y w mm).C4[d]=w[d]:=rfl;rw[e];cases s:w[d] with
   |true=>
    rw[ct rfl,BB (by omega) (by omega),Fu];cases o:(DF==l.Aq) with
    |true=>rw[ct rfl,ct rfl];rfl
    |false=>
     rw[cf rfl,cf rfl];cases q:(r+1==l.BY) with
     |true=>rw[ct rfl,ct rfl];rfl
     |false=>
      rw[cf rfl,cf rfl,BB (by omega) (by omega),C0];exact ih m (d+1) DF (r+1) (by omega) (by omega) h0 (by omega) (by omega) (by omega)
   |false=>
    rw[cf rfl,BB (by omega) (by omega),Fu];cases o:(DF+1==l.Aq) with
    |true=>rw[ct rfl,ct rfl];rfl
    |false=>
     rw[cf rfl,cf rfl];cases q:((0:Int)==l.BY) with
     |true=>rw[ct rfl,ct rfl];rfl
     |false=>
      rw[cf rfl,cf rfl,BB (by omega) (by omega),C0];exact ih m (d+1) (DF+1) 0 (by omega) (by omega) (by omega) (by omega) (by omega) (by omega)
theorem Uv{K:Nat}(y:Ar)(w:List Bool)(mm:List (List Int×Ag))(i d:Int)(h9:y.Am≤9)(hw:(w.length:Int)=y.Am+1)(a:0≤i)(hi:i<(y.Ad.length:Int))(c:0≤d)(hK:2000≤K):
  FF K (wk y w mm) ⟨i,d⟩=some (ED y w (Ek y i) d):=by
 unfold FF ED;show cond (decide (y.Am<d)) _ ((idx y.Ad i).bind _)=_
 by_cases h:y.Am<d
 ·rw[ct (dt h),if_pos h]
 rw[cf (df h),if_neg h];obtain⟨i,rfl⟩:=Int.eq_ofNat_of_zero_le a;obtain⟨d,rfl⟩:=Int.eq_ofNat_of_zero_le c;have b:i<y.Ad.length:=by omega
 rw[B5 b];have e:y.Ad[i]=Ek y (i:Int):=by
  show y.Ad[i]=y.Ad.getD ((i:Int)).toNat H3;rw[Int.toNat_natCast,List.getD_eq_getElem?_getD,List.getElem?_eq_getElem (by omega)];rfl
 rw[e,Int.toNat_natCast];exact Uu y w mm ⟨(i:Int),(d:Int)⟩ _ h9 hw 0 0 false (y.Am+1-d).toNat K d 0 0 (by omega) (by omega) (by omega) (by omega) (by omega) (by omega)
def Gv (y:Ar) (w:List Bool) (m:List (List Int×Ag)):Prop:=∀(i d:Int) (s:Ag),BG m [i,d]=some s→s=ED y w (Ek y i) d
theorem Nl(y:Ar)(w:List Bool):Gv y w []:=fun i d s h=>by cases h
theorem Tl{K:Nat}(y:Ar)(w:List Bool)(mm:List (List Int×Ag))(i d:Int)(h9:y.Am≤9)(hw:(w.length:Int)=y.Am+1)(e:0≤i)(hi:i<(y.Ad.length:Int))(j:0≤d)(hK:2000≤K)(hm:Gv y w mm):
  ∃c,Fp K (wk y w mm) ⟨i,d⟩=some (ED y w (Ek y i) d,c)∧Gv y w c:=by
 unfold Fp;show∃c,cond (!(BG mm [i,d]).isSome) ((FF K (wk y w mm) ⟨i,d⟩).bind _) _=_∧_;cases f:BG mm [i,d] with
 |none=>
  rw[bd (Uv y w mm i d h9 hw e hi j hK)];refine⟨_,rfl,fun i2 d2 s h=>?_⟩;have a:BG (Hq mm [i,d] (ED y w (Ek y i) d)) [i2,d2]=some s:=h;rw[N5] at a;split at a
  ·rename_i he
   have b:=List.cons.inj he;have g:=List.cons.inj b.2;rw[b.1,g.1];exact(Option.some.inj a).symm
  ·exact hm i2 d2 s a
 |some s=>
  refine⟨mm,?_,hm⟩;show some ((BG mm [i,d]).getD ⟨0,0,false⟩,mm)=_;rw[f,hm i d s f];rfl
def Ec (y:Ar) (w:List Bool) (c:List Int):List Int→Int→List Ag→List Ag
 |[],_,out=>out
 |i::r,free,out=>
  let s:=ED y w (Ek y i) (max free (Ey c i))
  Ec y w c r (cond (s.AF==-1) (y.Am+1) (s.AF+1)) (out.set i.toNat s)
def Ge(y:Ar)(w:List Bool)(c:List Int):List (List Int)→List Ag→List Ag
 |[],out=>out
 |l::r,out=>Ge y w c r (Ec y w c l 0 out)
def IS:Ag:=⟨0,0,false⟩
def Gm(y:Ar)(w:List Bool)(order:List (List Int))(c:List Int):List Ag:=Ge y w c order (List.replicate y.Ad.length IS)
theorem Gw(y:Ar)(w:List Bool)(c:List Int):∀(l:List Int) (free:Int) (out:List Ag),(Ec y w c l free out).length=out.length
 |[],_,_=>rfl
 |i::r,free,out=>by rw[Ec,Gw y w c r];simp
theorem Kk(y:Ar)(w:List Bool)(c:List Int):∀(l:List (List Int)) (out:List Ag),(Ge y w c l out).length=out.length
 |[],_=>rfl
 |i::r,out=>by rw[Ge,Kk y w c r,Gw]
theorem K7(l:Bb)(d0:Int):∀(ws:List Bool) (d DF r:Int),0≤d→(Fu l d0 ws d DF r).AF=-1∨(d≤(Fu l d0 ws d DF r).AF∧(Fu l d0 ws d DF r).AF<d+ws.length)
 |[],d,DF,r,_=>.inl rfl
 |true::ws,d,DF,r,h=>by
  rw[Fu];cases (DF==l.Aq) with
  |true=>right;simp;omega
  |false=>
   cases (r+1==l.BY) with
   |true=>right;simp;omega
   |false=>
    rcases K7 l d0 ws (d+1) DF (r+1) (by omega) with a|a
    ·exact .inl a
    ·right;simp only[List.length_cons,cond_false];omega
 |false::ws,d,DF,r,h=>by
  rw[Fu];cases (DF+1==l.Aq) with
  |true=>right;simp;omega
  |false=>
   cases ((0:Int)==l.BY) with
   |true=>right;simp;omega
   |false=>
    rcases K7 l d0 ws (d+1) (DF+1) 0 (by omega) with a|a
    ·exact .inl a
    ·right;simp only[List.length_cons,cond_false];omega
theorem PO(y:Ar)(w:List Bool)(l:Bb)(d:Int)(b:0≤d)(hw:(w.length:Int)=y.Am+1):(ED y w l d).AF=-1∨(d≤(ED y w l d).AF∧(ED y w l d).AF≤y.Am):=by
 unfold ED
 by_cases h:y.Am<d
 ·rw[if_pos h];exact .inl rfl
 ·rw[if_neg h];rcases K7 l d (w.drop d.toNat) d 0 0 b with a|a
  ·exact .inl a
  ·right;rw[List.length_drop] at a;omega
theorem RU{K:Nat}(y:Ar)(w:List Bool)(a:List (List Int×Ag))(c l:List Int)(h0:0≤y.Am)(h9:y.Am≤9)(hw:(w.length:Int)=y.Am+1)(hK:2000≤K)(x:∀i∈l,0≤i∧i<(y.Ad.length:Int))(aE:c.length=y.Ad.length)(aC:l.length≤1000):
  ∀(k m j:Nat) (free:Int) (out:List Ag) (mm:List (List Int×Ag)),l.length=j+k→k<m→0≤free→out.length=y.Ad.length→Gv y w mm→
  ∃b,DB K (wk y w a) c l m free (j:Int) out mm=some (Ec y w c (l.drop j) free out,b)∧Gv y w b:=by
 intro k
 induction k with
 |zero=>
  intro m j free out mm h hm z f g;cases m with
  |zero=>omega
  |succ m=>rw[DB.eq_2,cf (df (by omega)),List.drop_eq_nil_of_le (by omega)];exact⟨mm,rfl,g⟩
 |succ k ih=>
  intro m j free out mm h hm z f g;cases m with
  |zero=>omega
  |succ m=>
   have n:j<l.length:=by omega
   obtain⟨d,p⟩:=x l[j] (List.getElem_mem n);obtain⟨i,hi⟩:=Int.eq_ofNat_of_zero_le d;have e:i<c.length:=by omega
   have q:i<out.length:=by omega
   have r:c[i]=Ey c l[j]:=by
    rw[hi];unfold Ey;rw[Int.toNat_natCast,List.getD_eq_getElem?_getD,List.getElem?_eq_getElem e];rfl
   rw[DB.eq_2,ct (dt (by omega)),B5 n,List.drop_eq_getElem_cons n,Ec];have s:idx c l[j]=some (Ey c l[j]):=by rw[←r];rw[hi];exact idx_eq e
   rw[bd s];obtain⟨b,aA,t⟩:=Tl (K:=K) y w mm l[j] (max free (Ey c l[j])) h9 hw d p (by omega) hK g;have u:Fp K (⟨(wk y w a).BH,(wk y w a).BV,(wk y w a).Ci,(wk y w a).Cj,(wk y w a).A3,(wk y w a).C4,mm⟩:Cx) (⟨l[j],max free (Ey c l[j])⟩:Ht)=some (ED y w (Ek y l[j]) (max free (Ey c l[j])),b):=aA;have o:idx out l[j]=some out[i]:=by rw[hi];exact idx_eq q
   have aB:=PO y w (Ek y l[j]) (max free (Ey c l[j])) (by omega) hw;have aD:-1≤(ED y w (Ek y l[j]) (max free (Ey c l[j]))).AF∧(ED y w (Ek y l[j]) (max free (Ey c l[j]))).AF≤9:=by omega
   rw[bd u,bd o];show∃v,(i64 ((ED y w (Ek y l[j]) (max free (Ey c l[j]))).AF+1)).bind _=_∧_;rw[BB (by omega) (by omega)];show∃v,cond ((ED y w (Ek y l[j]) (max free (Ey c l[j]))).AF==-1) ((i64 (y.Am+1)).bind _) _=_∧_;cases aF:((ED y w (Ek y l[j]) (max free (Ey c l[j]))).AF==-1) with
   |true=>
    rw[ct rfl,ct rfl,BB (by omega) (by omega),BB (by omega) (by omega),C0];exact ih m (j+1) (y.Am+1) _ b (by omega) (by omega) (by omega) (by rw[List.length_set];exact f) t
   |false=>
    rw[cf rfl,cf rfl,BB (by omega) (by omega),C0];exact ih m (j+1) ((ED y w (Ek y l[j]) (max free (Ey c l[j]))).AF+1) _ b (by omega) (by omega) (by omega) (by rw[List.length_set];exact f) t
theorem RV{K:Nat}(y:Ar)(w:List Bool)(b:List (List Int×Ag))(c:List Int)(order:List (List Int))(h0:0≤y.Am)(h9:y.Am≤9)(hw:(w.length:Int)=y.Am+1)(hK:2000≤K)(p:∀l∈order,l.length≤1000∧∀i∈l,0≤i∧i<(y.Ad.length:Int))(q:c.length=y.Ad.length)(s:order.length≤1000):
  ∀(k m j:Nat) (out:List Ag) (mm:List (List Int×Ag)),order.length=j+k→k<m→out.length=y.Ad.length→Gv y w mm→
  ∃a,Dd K (wk y w b) order c m (j:Int) out mm=some (Ge y w c (order.drop j) out,a)∧Gv y w a:=by
 intro k
 induction k with
 |zero=>
  intro m j out mm h hm d e;cases m with
  |zero=>omega
  |succ m=>rw[Dd.eq_2,cf (df (by omega)),List.drop_eq_nil_of_le (by omega)];exact⟨mm,rfl,e⟩
 |succ k ih=>
  intro m j out mm h hm d e;cases m with
  |zero=>omega
  |succ m=>
   have f:j<order.length:=by omega
   obtain⟨g,n⟩:=p order[j] (List.getElem_mem f);obtain⟨a,o,r⟩:=RU (K:=K) y w b c order[j] h0 h9 hw hK n q g order[j].length K 0 0 out mm (by omega) (by omega) (by omega) d e;rw[Int.natCast_zero,List.drop_zero] at o;rw[Dd.eq_2,ct (dt (by omega)),B5 f,List.drop_eq_getElem_cons f,Ge,bd o,BB (by omega) (by omega),C0];exact ih m (j+1) _ a (by omega) (by omega) (by rw[Gw];exact d) r
theorem PQ{K:Nat}(y:Ar)(w:List Bool)(mm:List (List Int×Ag))(c:List Int)(order:List (List Int))(h0:0≤y.Am)(h9:y.Am≤9)(k:y.Ad.length≤4)(hw:(w.length:Int)=y.Am+1)(hK:2000≤K)(e:∀l∈order,l.length≤1000∧∀i∈l,0≤i∧i<(y.Ad.length:Int))(f:c.length=y.Ad.length)(b:order.length≤1000)(g:Gv y w mm):
  ∃a,CT K (wk y w mm) order c=some (Gm y w order c,a)∧Gv y w a:=by
 unfold CT;show∃a,(Kb (y.Ad.length:Int) 24).bind _=_∧_;rw[Ol (by omega) (by omega) (by omega)];obtain⟨a,d,h⟩:=RV (K:=K) y w mm c order h0 h9 hw hK e f b order.length K 0 (List.replicate y.Ad.length IS) mm (by omega) (by omega) (by rw[List.length_replicate]) g;rw[Int.natCast_zero,List.drop_zero] at d;have j:Dd K (wk y w mm) order c K (0:Int) (List.replicate ((wk y w mm).A3.length:Int).toNat (⟨0,0,false⟩:Ag)) (wk y w mm).known=some (Ge y w c order (List.replicate y.Ad.length IS),a):=by
  show Dd K (wk y w mm) order c K (0:Int) (List.replicate (y.Ad.length:Int).toNat IS) mm=_;rw[Int.toNat_natCast];exact d
 exact⟨a,bd j,h⟩
end Go.Proofs.YtkljfdkmjdjpfaaGreat
end
section
namespace Go.Proofs.YtkljfdkmjdjpfaaGreat
def iota(n:Nat):List Int:=(List.range n).map fun(i:Nat)=>(i:Int)
theorem G9(n:Nat):(iota n).length=n:=by simp[iota]
theorem Nn(n i:Nat)(h:i<n):(iota n)[i]?=some (i:Int):=by simp[iota,h]
def DQ(y:Ar)(o:List (List Int)):Bool:=((o.length:Int)==y.An)&&(C3 o.flatten==iota y.Ad.length)
theorem Tm(o:List (List Int))(c:o.flatten.length≤100000):∀(k m i:Nat) (acc:List Int),o.length=i+k→k<m→o.length≤100000→acc++(o.drop i).flatten=o.flatten→
  Du o m acc (i:Int)=some o.flatten:=by
 intro k
 induction k with
 |zero=>
  intro m i acc h hm b a;cases m with
  |zero=>omega
  |succ m=>
   rw[Du.eq_2,cf (df (by omega))];rw[List.drop_eq_nil_of_le (by omega)] at a;rw[←a];simp
 |succ k ih=>
  intro m i acc h hm b a;cases m with
  |zero=>omega
  |succ m=>
   have hi:i<o.length:=by omega
   rw[List.drop_eq_getElem_cons hi,List.flatten_cons,←List.append_assoc] at a;have hlen:acc.length+o[i].length≤100000:=by
    have:=congrArg List.length a;rw[List.length_append,List.length_append] at this;omega
   rw[Du.eq_2,ct (dt (by omega)),B5 hi,FK (by omega),BB (by omega) (by omega),C0];exact ih m (i+1) (acc++o[i]) (by omega) (by omega) b a
theorem QO(y:Ar)(z:List Int)(l:y.Ad.length≤4):∀(k m i:Nat),y.Ad.length=i+k→k<m→(∀j,j<i→(C3 z).length=y.Ad.length∧(C3 z)[j]?=some (j:Int))→
  Dk y z m (i:Int)=some (cond ((C3 z==iota y.Ad.length)||decide (y.Ad.length=0)) (.inr ()) (.inl false)):=by
 intro k
 induction k with
 |zero=>
  intro m i h hm a;cases m with
  |zero=>omega
  |succ m=>
   rw[Dk.eq_2,cf (df (by omega))];have:((C3 z==iota y.Ad.length)||decide (y.Ad.length=0))=true:=by
    rw[Bool.or_eq_true];rcases Nat.eq_zero_or_pos i with h0|h0
    ·right;exact dt (by omega)
    ·left;rw[beq_iff_eq];have d:=(a 0 h0).1;apply List.ext_getElem?;intro j
     by_cases f:j<y.Ad.length
     ·rw[(a j (by omega)).2,Nn _ _ f]
     ·rw[List.getElem?_eq_none (by omega),List.getElem?_eq_none (by rw[G9];omega)]
   rw[this];rfl
 |succ k ih=>
  intro m i h hm a;cases m with
  |zero=>omega
  |succ m=>
   rw[Dk.eq_2,ct (dt (by omega))];have c:decide (y.Ad.length=0)=false:=df (by omega)
   by_cases d:(C3 z).length=y.Ad.length
   ·rw[cf (by rw[d];simp)];have hi:i<(C3 z).length:=by omega
    rw[B5 hi]
    by_cases b:(C3 z)[i]=(i:Int)
    ·rw[b,cf (by simp),BB (by omega) (by omega),C0];refine ih m (i+1) (by omega) (by omega) fun j f=>?_
     by_cases g:j=i
     ·subst g;exact⟨d,by rw[List.getElem?_eq_getElem hi,b]⟩
     ·exact a j (by omega)
    ·rw[ct (by simpa using b)];have:((C3 z==iota y.Ad.length)||decide (y.Ad.length=0))=false:=by
      rw[c,Bool.or_false,beq_eq_false_iff_ne];intro e;have:(C3 z)[i]?=(iota y.Ad.length)[i]?:=by rw[e]
      rw[List.getElem?_eq_getElem hi,Nn _ _ (by omega)] at this;exact b (Option.some.inj this)
     rw[this];rfl
   ·rw[ct (by simp;omega)];have:((C3 z==iota y.Ad.length)||decide (y.Ad.length=0))=false:=by
     rw[c,Bool.or_false,beq_eq_false_iff_ne];intro e;have:=congrArg List.length e;rw[G9] at this;omega
    rw[this];rfl
theorem Kl{K:Nat}(y:Ar)(o:List (List Int))(f:y.Ad.length≤4)(hK:2000≤K)(k:o.length≤1000)(m:o.flatten.length≤1000):Eb K y o=some (DQ y o):=by
 unfold Eb;have c:=Tm o (by omega) o.length K 0 [] (by omega) (by omega) (by omega) (by simp);have d:=QO y o.flatten f y.Ad.length K 0 (by omega) (by omega) fun j g=>absurd g (by omega);rw[Int.natCast_zero] at c d;rw[bd c,FK (by omega),bd d];unfold DQ
 by_cases b:y.Ad.length=0
 ·rw[show((C3 o.flatten==iota y.Ad.length)||decide (y.Ad.length=0))=true by rw[Bool.or_eq_true];exact .inr (dt b)];show cond ((o.length:Int)==y.An) (some (((C3 o.flatten).length:Int)==(y.Ad.length:Int))) (some false)=_;have h:(((C3 o.flatten).length:Int)==(y.Ad.length:Int))=(C3 o.flatten==iota y.Ad.length):=by
   rw[b];cases e:C3 o.flatten with
   |nil=>rfl
   |cons a l=>
    have i:(((a::l).length:Int)==((0:Nat):Int))=false:=by simp;omega
    rw[i];rfl
  rw[h];cases ((o.length:Int)==y.An)<;>rfl
 ·rw[show decide (y.Ad.length=0)=false from df b,Bool.or_false];cases e:(C3 o.flatten==iota y.Ad.length) with
  |false=>show some false=_;rw[Bool.and_false]
  |true=>
   show cond ((o.length:Int)==y.An) (some (((C3 o.flatten).length:Int)==(y.Ad.length:Int))) (some false)=_;rw[eq_of_beq e,G9];cases ((o.length:Int)==y.An)<;>simp
theorem EO{y:Ar}{o:List (List Int)}:DQ y o=true↔(o.length:Int)=y.An∧o.flatten.Perm (iota y.Ad.length):=by
 unfold DQ;rw[Bool.and_eq_true,beq_iff_eq,beq_iff_eq];refine and_congr_right fun _=>⟨fun h=>?_,fun h=>?_⟩
 ·rw[←h];exact(List.mergeSort_perm _ _).symm
 ·have d:(C3 o.flatten).Pairwise (fun a b:Int=>a≤b):=by
   have:=List.pairwise_mergeSort (le:=fun x y:Int=>decide (x≤y)) (fun a b c d e=>by simp at*;omega) (fun a b=>by simp;omega) o.flatten;exact this.imp fun h=>by simpa using h
  have e:(iota y.Ad.length).Pairwise (fun a b:Int=>a≤b):=by
   unfold iota;rw[List.pairwise_map];exact List.pairwise_lt_range.imp fun h=>by omega
  exact List.Perm.eq_of_pairwise (le:=fun a b:Int=>a≤b) (fun a b _ _ h f=>by omega) d e ((List.mergeSort_perm _ _).trans h)
theorem HG{n:Nat}{i:Int}:i∈iota n↔0≤i∧i<n:=by
 unfold iota;rw[List.mem_map];constructor
 ·rintro⟨k,a,rfl⟩;rw[List.mem_range] at a;omega
 ·rintro⟨h0,b⟩;exact⟨i.toNat,by rw[List.mem_range];omega,by omega⟩
theorem L2{y:Ar}{o:List (List Int)}(h:DQ y o=true):∀l∈o,l.length≤y.Ad.length∧∀i∈l,0≤i∧i<(y.Ad.length:Int):=by
 intro l a;have b:=(EO.1 h).2;constructor
 ·have c:=b.length_eq;rw[G9] at c;have:=(List.sublist_flatten_of_mem a).length_le;omega
 ·intro i hi;exact HG.1 (b.mem_iff.1 (List.mem_flatten.2 ⟨l,a,hi⟩))
def D1:List Bb→List Int→Bool
 |[],[]=>true
 |l::ls,c::cs=>Fw c l.AD l.AM&&D1 ls cs
 |_,_=>false
def Ep(y:Ar)(t:AX):Bool:=decide ((t.Ap.length:Int)=y.Am+1)&&(Hw y t.Ap&&D1 y.Ad t.Comes)
theorem GI:∀{ls:List Bb} {cs:List Int},D1 ls cs=true→cs.length=ls.length
 |[],[],_=>rfl
 |_::ls,_::cs,h=>by
  rw[D1,Bool.and_eq_true] at h;rw[List.length_cons,List.length_cons,GI h.2]
 |[],_::_,h=>by cases h
 |_::_,[],h=>by cases h
theorem PR(K:Nat)(y:Ar)(t:AX)(b:y.Ad.length≤4)(c:t.Comes.length=y.Ad.length):∀(k m i:Nat),y.Ad.length=i+k→k<m→
  Dj K y t m (i:Int)=some (cond (D1 (y.Ad.drop i) (t.Comes.drop i)) (.inr ()) (.inl false)):=by
 intro k
 induction k with
 |zero=>
  intro m i h hm;cases m with
  |zero=>omega
  |succ m=>rw[Dj.eq_2,cf (df (by omega)),List.drop_eq_nil_of_le (by omega),List.drop_eq_nil_of_le (by omega)];rfl
 |succ k ih=>
  intro m i h hm;cases m with
  |zero=>omega
  |succ m=>
   have hi:i<y.Ad.length:=by omega
   have a:i<t.Comes.length:=by omega
   rw[Dj.eq_2,ct (dt (by omega)),B5 hi,B5 a,bd (He ..),List.drop_eq_getElem_cons hi,List.drop_eq_getElem_cons a,D1];cases d:Fw t.Comes[i] y.Ad[i].AD y.Ad[i].AM with
   |false=>rw[nf];rfl
   |true=>rw[nt,BB (by omega) (by omega),C0,Bool.true_and];exact ih m (i+1) (by omega) (by omega)
theorem PS{K:Nat}(y:Ar)(t:AX)(h0:0≤y.Am)(h9:y.Am≤9)(b:y.Ad.length≤4)(hK:2000≤K):Fe K y t=some (Ep y t):=by
 unfold Fe Ep
 by_cases a:t.Comes.length=y.Ad.length
 ·rw[cf (by rw[a];simp),BB (by omega) (by omega)]
  by_cases hw:(t.Ap.length:Int)=y.Am+1
  ·rw[cf (by rw[hw];simp),bd (Mu y t.Ap (by omega) (by omega)),dt hw,Bool.true_and];show cond (!(Hw y t.Ap)) _ _=_;cases Hw y t.Ap with
   |false=>rw[nf];rfl
   |true=>
    have:=PR K y t b a y.Ad.length K 0 (by omega) (by omega);rw[Int.natCast_zero,List.drop_zero,List.drop_zero] at this;rw[nt,bd this,Bool.true_and];cases D1 y.Ad t.Comes<;>rfl
  ·rw[ct (by simpa using hw),df hw];rfl
 ·rw[ct (by simp;omega)];cases c:D1 y.Ad t.Comes with
  |false=>rw[Bool.and_false,Bool.and_false]
  |true=>exact absurd (GI c) a
theorem Hy{c:List Int}:∀{ls:List Bb},c∈Ex ls↔D1 ls c=true
 |[]=>by
  cases c with
  |nil=>simp[Ex,D1]
  |cons a l=>simp[Ex,D1]
 |l::r=>by
  rw[Ex,List.mem_flatMap];constructor
  ·rintro⟨n,b,e⟩;obtain⟨d,f,rfl⟩:=List.mem_map.1 e;rw[D1,Bool.and_eq_true];rw[List.mem_range] at b;unfold CR at b;exact⟨FH.2 (by omega),Hy.1 f⟩
  ·intro h;cases c with
   |nil=>simp[D1] at h
   |cons a d=>
    rw[D1,Bool.and_eq_true] at h;have g:=FH.1 h.1;refine⟨(a-l.AD).toNat,?_,List.mem_map.2 ⟨d,Hy.2 h.2,?_⟩⟩
    ·rw[List.mem_range];unfold CR;omega
    ·congr 1;omega
def bitsOf:List Bool→Nat
 |[]=>0
 |b::l=>(cond b 1 0)+2*bitsOf l
theorem Ha:∀(l:List Bool) (d:Nat),(bitsOf l).testBit d=l.getD d false
 |[],d=>by simp[bitsOf]
 |b::l,0=>by rw[bitsOf,Nat.testBit_zero];cases b<;>simp<;>omega
 |b::l,d+1=>by
  rw[Nat.testBit_succ,bitsOf];have:((cond b 1 0)+2*bitsOf l)/2=bitsOf l:=by cases b<;>simp<;>omega
  rw[this,Ha l d];rfl
theorem Km:∀(l:List Bool),bitsOf l<2^l.length
 |[]=>by simp[bitsOf]
 |b::l=>by
  have:=Km l;rw[bitsOf,List.length_cons,Nat.pow_succ];cases b<;>simp<;>omega
theorem Mz(l:List Bool):wl l.length (bitsOf l)=l:=by
 apply List.ext_getElem?;intro i;unfold wl;rw[List.getElem?_map]
 by_cases h:i<l.length
 ·rw[List.getElem?_range h,List.getElem?_eq_getElem h];show some ((bitsOf l).testBit i)=_;rw[Ha,List.getD_eq_getElem?_getD,List.getElem?_eq_getElem h];rfl
 ·rw[List.getElem?_eq_none (by simp;omega),List.getElem?_eq_none (by omega)];rfl
theorem H4{y:Ar}{w:List Bool}:w∈CO y↔w.length=days y∧Hw y w=true:=by
 unfold CO;rw[List.mem_filter,List.mem_map];constructor
 ·rintro⟨⟨b,_,rfl⟩,h⟩;exact⟨FV _ _,h⟩
 ·rintro⟨a,c⟩;exact⟨⟨bitsOf w,by rw[List.mem_range,←a];exact Km w,by rw[←a];exact Mz w⟩,c⟩
theorem HM{y:Ar}(h0:0≤y.Am){t:AX}:t∈Cs y↔Ep y t=true:=by
 unfold Cs Ep;rw[List.mem_flatMap,Bool.and_eq_true,Bool.and_eq_true,decide_eq_true_eq];constructor
 ·rintro⟨w,hw,d⟩;obtain⟨c,e,rfl⟩:=List.mem_map.1 d;obtain⟨b,a⟩:=H4.1 hw;unfold days at b;exact⟨by show(w.length:Int)=_;omega,a,Hy.1 e⟩
 ·rintro⟨b,a,f⟩;exact⟨t.Ap,H4.2 ⟨by unfold days;omega,a⟩,List.mem_map.2 ⟨t.Comes,Hy.2 f,rfl⟩⟩
theorem Uw(a b:List Bool)(j:a.length≤1000)(g:a.length=b.length):∀(k m i:Nat),a.length=i+k→k<m→Dt a b m (i:Int)=some (cond (a.drop i==b.drop i) (.inr ()) (.inl false)):=by
 intro k
 induction k with
 |zero=>
  intro m i h hm;cases m with
  |zero=>omega
  |succ m=>rw[Dt.eq_2,cf (df (by omega)),List.drop_eq_nil_of_le (by omega),List.drop_eq_nil_of_le (by omega)];rfl
 |succ k ih=>
  intro m i h hm;cases m with
  |zero=>omega
  |succ m=>
   have c:i<a.length:=by omega
   have d:i<b.length:=by omega
   rw[Dt.eq_2,ct (dt (by omega)),B5 c,B5 d,List.drop_eq_getElem_cons c,List.drop_eq_getElem_cons d];cases f:(a[i] !=b[i]) with
   |true=>
    rw[ct rfl];have:(a[i]::a.drop (i+1)==b[i]::b.drop (i+1))=false:=by
     rw[List.cons_beq_cons];have:(a[i]==b[i])=false:=by simpa[bne] using f
     rw[this,Bool.false_and]
    rw[this];rfl
   |false=>
    have e:a[i]=b[i]:=by simpa[bne] using f
    rw[cf rfl,BB (by omega) (by omega),C0,ih m (i+1) (by omega) (by omega),List.cons_beq_cons,e,beq_self_eq_true,Bool.true_and]
theorem Ux{K:Nat}(a b:List Bool)(c:a.length≤1000)(hK:2000≤K):Ev K a b=some (a==b):=by
 unfold Ev
 by_cases h:a.length=b.length
 ·have:=Uw a b c h a.length K 0 (by omega) (by omega);rw[Int.natCast_zero,List.drop_zero,List.drop_zero] at this;rw[cf (by rw[h];simp),bd this];cases (a==b)<;>rfl
 ·rw[ct (by simp;omega)];have:(a==b)=false:=by
   rw[beq_eq_false_iff_ne];intro e;exact h (by rw[e])
  rw[this]
structure FW(y:Ar):Prop where
 h0:0≤y.Am
 h9:y.Am≤9
 r1:1≤y.An
 r2:y.An≤2
 n4:y.Ad.length≤4
 w0:0≤y.Ap
 w1:y.Ap≤y.Am+1
 u0:0≤y.AB
 u1:y.AB≤y.Am+1
 Tn:∀l∈y.Ad,Gd y l=true
 many:If y≤1000
theorem GM{y:Ar}(h:check y=0):FW y:=by
 unfold check at h;split at h
 ·cases h
 ·rename_i d
  split at h
  ·cases h
  ·rename_i b
   split at h
   ·cases h
   ·rename_i f
    rw[not_or,not_or] at d;rw[not_or,not_or,not_or,not_or] at b;have hw:Fw y.Ap 0 (y.Am+1)=true:=by cases a:Fw y.Ap 0 (y.Am+1) with|true=>rfl|false=>exact absurd a b.2.2.1
    have c:Fw y.AB 0 (y.Am+1)=true:=by cases a:Fw y.AB 0 (y.Am+1) with|true=>rfl|false=>exact absurd a b.2.2.2.1
    have e:y.Ad.all (Gd y)=true:=by cases a:y.Ad.all (Gd y) with|true=>rfl|false=>exact absurd a b.2.2.2.2
    rw[FH] at hw c;exact⟨by omega,by omega,by omega,by omega,by omega,hw.1,hw.2,c.1,c.2,List.all_eq_true.1 e,by omega⟩
theorem FW.sz{y:Ar}(h:FW y):∀l∈y.Ad,sized l∧0≤l.AD∧l.AM≤9:=fun l b=>by
 have a:=h.Tn l b;have:=IQ.1 a;have:=h.h9;exact⟨K6 h.h9 a,by omega,by omega⟩
def Uy(y:Ar):Option Cx→Prop
 |none=>True
 |some x=>∃w m,x=wk y w m∧(w.length:Int)=y.Am+1∧Gv y w m
theorem PT{σ:Type}{K:Nat}(cb:σ→AX×List Ag→Option (Bool×σ))(y:Ar)(f:FW y)(o:List (List Int))(v:DQ y o=true)(hK:2000≤K):∀(d:List AX) (h:Option Cx) (s:σ),(∀t∈d,Ep y t=true)→Uy y h→
  (run (fun(st:(Option Cx)×σ×Bool) (x:AX)=>cond st.2.2 none (DD cb K y o st.1 st.2.1 x)) d (h,s,false)).bind (fun g=>cond g.2.2.2 (some g.2.2.1) (some g.2.2.1))=(run (fun s t=>cb s (t,Gm y t.Ap o t.Comes)) d s).bind fun r=>some r.2
 |[],h,s,_,_=>rfl
 |t::d,h,s,aA,aH=>by
  have j:=aA t (List.mem_cons_self ..);have aB:∀x∈d,Ep y x=true:=fun x aI=>aA x (List.mem_cons_of_mem _ aI);unfold Ep at j;rw[Bool.and_eq_true,Bool.and_eq_true,decide_eq_true_eq] at j;obtain⟨hw,_,aJ⟩:=j;have aC:=GI aJ;have q:=L2 v;have aD:o.length≤1000:=by have:=(EO.1 v).1;have:=f.r2;omega
  have z:∀l∈o,l.length≤1000∧∀i∈l,0≤i∧i<(y.Ad.length:Int):=fun l aE=>⟨by have:=(q l aE).1;have:=f.n4;omega,(q l aE).2⟩;rw[run,run];show(Option.bind (DD cb K y o h s t) _:Option _).bind _=_
  
  have key:∀(m:List (List Int×Ag)),Gv y t.Ap m→∃c,Gv y t.Ap c∧CT K (wk y t.Ap m) o t.Comes=some (Gm y t.Ap o t.Comes,c):=fun m hm=>by
   obtain⟨c,aK,aL⟩:=PQ (K:=K) y t.Ap m t.Comes o f.h0 f.h9 f.n4 hw hK z aC aD hm;exact⟨c,aL,aK⟩
  have fin:∀(c:List (List Int×Ag)),Gv y t.Ap c→
    (Option.bind ((cb s (t,Gm y t.Ap o t.Comes)).bind fun a=>cond (!a.1) (some (false,(some (wk y t.Ap c)),a.2,true)) (some (true,(some (wk y t.Ap c)),a.2,false))) fun r=>cond r.1 (run (fun(st:(Option Cx)×σ×Bool) (x:AX)=>cond st.2.2 none (DD cb K y o st.1 st.2.1 x)) d r.2) (some (false,r.2))).bind (fun g=>cond g.2.2.2 (some g.2.2.1) (some g.2.2.1))=
    (Option.bind (cb s (t,Gm y t.Ap o t.Comes)) fun r=>cond r.1 (run (fun s t=>cb s (t,Gm y t.Ap o t.Comes)) d r.2) (some (false,r.2))).bind fun r=>some r.2:=fun c k=>by
   cases cb s (t,Gm y t.Ap o t.Comes) with
   |none=>rfl
   |some r=>
    obtain⟨b,s2⟩:=r;cases b with
    |false=>rfl
    |true=>exact PT cb y f o v hK d (some (wk y t.Ap c)) s2 aB ⟨t.Ap,c,rfl,hw,k⟩
  unfold DD;obtain⟨n,u,aM⟩:=key [] (Nl _ _);have aP:=f.h9;have e:(Fz (((0+t.Ap.length:Nat):Int)≤140737488355328/1)).bind (fun _=>(CT K (⟨y.Am,y.An,y.Ap,y.AB,y.Ad,t.Ap,[]⟩:Cx) o t.Comes).bind fun p=>(cb s (t,p.1)).bind fun a=>cond (!a.1) (some (false,(some (⟨y.Am,y.An,y.Ap,y.AB,y.Ad,t.Ap,p.2⟩:Cx)),a.2,true)) (some (true,(some (⟨y.Am,y.An,y.Ap,y.AB,y.Ad,t.Ap,p.2⟩:Cx)),a.2,false)))=
    (cb s (t,Gm y t.Ap o t.Comes)).bind fun a=>cond (!a.1) (some (false,(some (wk y t.Ap n)),a.2,true)) (some (true,(some (wk y t.Ap n)),a.2,false)):=by
   have aF:CT K (⟨y.Am,y.An,y.Ap,y.AB,y.Ad,t.Ap,[]⟩:Cx) o t.Comes=some (Gm y t.Ap o t.Comes,n):=aM;rw[FK (by omega),bd aF];rfl
  cases h with
  |none=>
   show(Option.bind ((Fz _).bind _) _:Option _).bind _=_;rw[e];exact fin n u
  |some x=>
   obtain⟨w,m,rfl,aQ,aG⟩:=aH;show(Option.bind ((Ev K w t.Ap).bind _) _:Option _).bind _=_;rw[bd (Ux w t.Ap (by omega) hK)];cases aN:(w==t.Ap) with
   |false=>
    rw[nf,e];exact fin n u
   |true=>
    obtain rfl:=eq_of_beq aN;obtain⟨c,k,aO⟩:=key m aG;rw[nt,bd aO];exact fin c k
theorem PU{σ:Type}{K:Nat}(cb:σ→AX×List Ag→Option (Bool×σ))(y:Ar)(a:FW y)(o:List (List Int))(b:DQ y o=true)(hK:2000≤K)(s:σ):
  Fq K cb y o s=(run (fun s t=>cb s (t,Gm y t.Ap o t.Comes)) (Cs y) s).bind fun r=>some r.2:=by
 unfold Fq;rw[QN _ y a.h0 a.h9 a.n4 a.sz hK,Option.bind_assoc];exact PT cb y a o b hK (Cs y) none s (fun t c=>(HM a.h0).1 c) trivial
end Go.Proofs.YtkljfdkmjdjpfaaGreat
end
section
namespace Go.Proofs.YtkljfdkmjdjpfaaGreat
def Gx(l:Bb)(s:Ag):Bool:=s.Aq&&decide (s.AF≤l.Cr)
theorem L3(K:Nat)(l:Bb)(s:Ag):C8 K l s=some (Gx l s):=by unfold C8 Gx;cases s.Aq<;>rfl
theorem Oq(K:Nat)(l:Bb)(s:Ag):Ee K l s=some (!Gx l s):=by unfold Ee;rw[bd (L3 ..)]
def G6 (p:Bb→Ag→Bool):List Bb→List Ag→Nat
 |l::ls,s::ss=>(cond (p l s) 1 0)+G6 p ls ss
 |_,_=>0
def DN(l:Bb)(s:Ag):Bool:= !Gx l s
def D2(y:Ar)(ss:List Ag):Nat:=G6 DN y.Ad ss
theorem L4(p:Bb→Ag→Bool):∀(ls:List Bb) (ss:List Ag),G6 p ls ss≤ls.length
 |l::ls,s::ss=>by
  have:=L4 p ls ss;rw[G6,List.length_cons];cases p l s<;>simp<;>omega
 |[],_=>by simp[G6]
 |_::_,[]=>by simp[G6]
theorem To{K:Nat}(y:Ar)(ss:List Ag)(d:y.Ad.length≤4)(e:ss.length=y.Ad.length):∀(k m i:Nat) (a:Int),ss.length=i+k→k<m→0≤a→a≤i→
  DC K y ss m a (i:Int)=some (a+(G6 DN (y.Ad.drop i) (ss.drop i):Nat)):=by
 intro k
 induction k with
 |zero=>
  intro m i a h hm h0 c;cases m with
  |zero=>omega
  |succ m=>
   rw[DC.eq_2,cf (df (by omega)),List.drop_eq_nil_of_le («as»:=y.Ad) (by omega),G6]
   ·simp
   ·intro _ _ _ _ h;cases h
 |succ k ih=>
  intro m i a h hm h0 c;cases m with
  |zero=>omega
  |succ m=>
   have hi:i<ss.length:=by omega
   have b:i<y.Ad.length:=by omega
   rw[DC.eq_2,ct (dt (by omega)),B5 hi,B5 b,bd (Oq ..),List.drop_eq_getElem_cons hi,List.drop_eq_getElem_cons b,G6];show cond (DN y.Ad[i] ss[i]) _ _=_;cases f:DN y.Ad[i] ss[i] with
   |true=>
    rw[ct rfl,BB (by omega) (by omega),BB (by omega) (by omega),C0,ih m (i+1) (a+1) (by omega) (by omega) (by omega) (by omega)]
    congr 1
    show a+1+_=a+((1+G6 DN _ _:Nat):Int);omega
   |false=>
    rw[cf rfl,BB (by omega) (by omega),C0,ih m (i+1) a (by omega) (by omega) (by omega) (by omega)]
    congr 1
    show a+_=a+((0+G6 DN _ _:Nat):Int);omega
theorem PV{K:Nat}(y:Ar)(ss:List Ag)(a:y.Ad.length≤4)(b:ss.length=y.Ad.length)(hK:2000≤K):EG K y ss=some (D2 y ss:Int):=by
 unfold EG;have:=To (K:=K) y ss a b ss.length K 0 0 (by omega) (by omega) (by omega) (by omega);rw[Int.natCast_zero,List.drop_zero,List.drop_zero] at this;rw[bd this];simp[D2]
theorem G1(y:Ar)(w:List Bool)(o:List (List Int))(c:List Int):(Gm y w o c).length=y.Ad.length:=by unfold Gm;rw[Kk,List.length_replicate]
def Ch (y:Ar) (o:List (List Int)) (t:AX):List Ag:=Gm y t.Ap o t.Comes
theorem No{K:Nat}(y:Ar)(o:List (List Int))(t:AX)(hK:2000≤K)(d:o.length≤1000)(g:o.flatten.length≤1000):
  FT K y o t=some (if check y≠0 then ([],check y) else if DQ y o=false∨Ep y t=false then ([],2) else (Ch y o t,0)):=by
 unfold FT;rw[bd (HE hK y)]
 by_cases h:check y=0
 ·rw[h,cf (by decide),if_neg (by simp)];have a:=GM h;rw[bd (Kl y o a.n4 hK d g)];cases i:DQ y o with
  |false=>rw[nf,if_pos (.inl rfl)]
  |true=>
   rw[nt,bd (PS y t a.h0 a.h9 a.n4 hK)];cases j:Ep y t with
   |false=>rw[nf,if_pos (.inr rfl)]
   |true=>
    rw[nt,if_neg (by simp)];have b:=j;unfold Ep at b;rw[Bool.and_eq_true,Bool.and_eq_true,decide_eq_true_eq] at b;have c:=L2 i;obtain⟨k,e,_⟩:=PQ (K:=K) y t.Ap [] t.Comes o a.h0 a.h9 a.n4 b.1 hK (fun l f=>⟨by have:=(c l f).1;have:=a.n4;omega,(c l f).2⟩) (GI b.2.2) d (Nl _ _);have m:CT K (⟨y.Am,y.An,y.Ap,y.AB,y.Ad,t.Ap,[]⟩:Cx) o t.Comes=some (Gm y t.Ap o t.Comes,k):=e;rw[bd m];rfl
 ·rw[ct (by simpa using h),if_pos h]
def Ig (y:Ar) (o:List (List Int)):List AX→Int×AX→Int×AX
 |[],s=>s
 |t::a,s=>
  let s2:=if s.1<(D2 y (Ch y o t):Int) then ((D2 y (Ch y o t):Int),t) else s
  cond (decide (s2.1<(y.Ad.length:Int))) (Ig y o a s2) s2
def C2(y:Ar)(o:List (List Int)):Int×AX:=Ig y o (Cs y) (-1,⟨[],[]⟩)
theorem Np{K:Nat}(y:Ar)(b:FW y)(o:List (List Int))(hK:2000≤K):∀(a:List AX) (s:Int×AX),(∀t∈a,Ep y t=true)→
  (run (fun(st:Int×AX) t=>(EK K t (Ch y o t) y st.1 st.2).bind fun r=>some (r.1,(r.2.1,r.2.2))) a s).bind (fun r=>some r.2)=some (Ig y o a s)
 |[],s,_=>rfl
 |t::a,s,d=>by
  have c:=d t (List.mem_cons_self ..);unfold Ep at c;rw[Bool.and_eq_true,Bool.and_eq_true,decide_eq_true_eq] at c;have f:=GI c.2.2;have g:=b.n4;have h9:=b.h9;rw[run,Ig];unfold EK;rw[bd (PV y (Ch y o t) b.n4 (G1 ..) hK)]
  by_cases h:s.1<(D2 y (Ch y o t):Int)
  ·rw[ct (dt h),FK (by omega),FK (by omega),if_pos h];show(cond (decide ((D2 y (Ch y o t):Int)<(y.Ad.length:Int))) _ _:Option (Bool×Int×AX)).bind _=some (cond (decide ((D2 y (Ch y o t):Int)<(y.Ad.length:Int))) _ _);cases decide ((D2 y (Ch y o t):Int)<(y.Ad.length:Int)) with
   |false=>rfl
   |true=>exact Np y b o hK a _ fun x e=>d x (List.mem_cons_of_mem _ e)
  ·rw[cf (df h),if_neg h];show(cond (decide (s.1<(y.Ad.length:Int))) _ _:Option (Bool×Int×AX)).bind _=some (cond (decide (s.1<(y.Ad.length:Int))) _ _);cases decide (s.1<(y.Ad.length:Int)) with
   |false=>rfl
   |true=>exact Np y b o hK a s fun x e=>d x (List.mem_cons_of_mem _ e)
theorem PW{K:Nat}(y:Ar)(a:FW y)(o:List (List Int))(b:DQ y o=true)(hK:2000≤K):Fs K y o=some (C2 y o):=by
 unfold Fs;rw[PU _ y a o b hK];have:=Np y a o hK (Cs y) (-1,⟨[],[]⟩) fun t c=>(HM a.h0).1 c;exact Eq.trans (bd this) rfl
theorem PX{K:Nat}(y:Ar)(o:List (List Int))(hK:2000≤K)(b:o.length≤1000)(c:o.flatten.length≤1000):
  Gi K y o=some (if check y≠0 then (0,⟨[],[]⟩,check y) else if DQ y o=false then (0,⟨[],[]⟩,2) else ((C2 y o).1,(C2 y o).2,0)):=by
 unfold Gi;rw[bd (HE hK y)]
 by_cases h:check y=0
 ·rw[h,cf (by decide),if_neg (by simp)];have a:=GM h;rw[bd (Kl y o a.n4 hK b c)];cases d:DQ y o with
  |false=>rw[nf,if_pos rfl]
  |true=>rw[nt,if_neg (by simp),bd (PW y a o d hK)]
 ·rw[ct (by simpa using h),if_pos h]
theorem Nq{K:Nat}(y:Ar)(o:List (List Int))(n:Int)(hK:2000≤K)(a:o.length≤1000)(b:o.flatten.length≤1000):
  E3 K y o n=some (decide (check y=0)&&(DQ y o&&decide ((C2 y o).1≤n))):=by
 unfold E3;rw[bd (PX y o hK a b)]
 by_cases h:check y=0
 ·rw[if_neg (by simp[h]),dt h];cases c:DQ y o with
  |false=>rw[if_pos rfl];rfl
  |true=>rw[if_neg (by simp)];rfl
 ·rw[if_pos h,df h,cf (by simpa using h)];rfl
theorem N7{K:Nat}(y:Ar)(o:List (List Int))(t:AX)(n:Int)(hK:2000≤K)(a:o.length≤1000)(b:o.flatten.length≤1000):
  Ft K y o t n=some (decide (check y=0)&&(DQ y o&&(Ep y t&&decide (n≤(D2 y (Ch y o t):Int))))):=by
 unfold Ft;rw[bd (No y o t hK a b)]
 by_cases h:check y=0
 ·rw[if_neg (by simp[h]),dt h];cases c:DQ y o with
  |false=>rw[if_pos (.inl rfl)];rfl
  |true=>
   cases d:Ep y t with
   |false=>rw[if_pos (.inr rfl)];rfl
   |true=>
    rw[if_neg (by simp)];show(EG K y (Ch y o t)).bind _=_;rw[bd (PV y (Ch y o t) (GM h).n4 (G1 ..) hK)];rfl
 ·rw[if_pos h,df h,cf (by simpa using h)];rfl
def G7(p:Bb→Ag→Bool):List Bb→List Ag→List Int→List Int
 |l::ls,s::ss,a::as=>(cond (p l s) (a+1) a)::G7 p ls ss as
 |_,_,as=>as
theorem RA(x:BK)(k:Nat)(v:Int)(h:k<4):(x.set k v).l=x.l.set k v:=by
 match k,h with
 |0,_=>rfl
 |1,_=>rfl
 |2,_=>rfl
 |3,_=>rfl
theorem K8(p:Bb→Ag→Bool)(ss:List Ag)(as:List Int):G7 p [] ss as=as:=by cases as<;>rfl
theorem RW{K:Nat}(p:Bb→Ag→Bool)(y:Ar)(ss:List Ag)(q:y.Ad.length≤4)(r:ss.length=y.Ad.length):∀(k m i:Nat) (a:BK),ss.length=i+k→k<m→(∀x∈a.l.drop i,0≤x∧x≤100000)→
  ∃b:BK,CE (fun(st:Unit) (x:Bb×Ag)=>some (p x.1 x.2,())) ss y m (i:Int) a.a0 a.a1 a.a2 a.a3 ()=some (b.a0,b.a1,b.a2,b.a3,())∧b.l=a.l.take i++G7 p (y.Ad.drop i) (ss.drop i) (a.l.drop i):=by
 intro k
 induction k with
 |zero=>
  intro m i a h hm e;cases m with
  |zero=>omega
  |succ m=>
   rw[CE.eq_2,cf (df (by omega)),List.drop_eq_nil_of_le («as»:=y.Ad) (by omega),K8];exact⟨a,rfl,(List.take_append_drop ..).symm⟩
 |succ k ih=>
  intro m i a h hm e;cases m with
  |zero=>omega
  |succ m=>
   have hi:i<ss.length:=by omega
   have f:i<y.Ad.length:=by omega
   have c:i<a.l.length:=by show i<4;omega
   rw[CE.eq_2,ct (dt (by omega)),B5 hi,B5 f,Option.bind_some,List.drop_eq_getElem_cons hi,List.drop_eq_getElem_cons f,List.drop_eq_getElem_cons c,G7];cases s:p y.Ad[i] ss[i] with
   |true=>
    have t:=e a.l[i] (by rw[List.drop_eq_getElem_cons c];exact List.mem_cons_self ..);have g:idx [a.a0,a.a1,a.a2,a.a3] (i:Int)=some a.l[i]:=idx_eq c;rw[ct rfl,bd g,BB (by omega) (by omega),bd g,BB (by omega) (by omega),C0,Int.toNat_natCast];obtain⟨b,j,n⟩:=ih m (i+1) (a.set i (a.l[i]+1)) (by omega) (by omega) (fun x d=>by
     rw[RA _ _ _ (by omega),List.drop_set_of_lt (by omega)] at d;exact e x (by rw[List.drop_eq_getElem_cons c];exact List.mem_cons_of_mem _ d))
    refine⟨b,j,?_⟩;rw[n,RA _ _ _ (by omega),List.take_add_one,List.getElem?_set_self c,List.take_set_of_le (Nat.le_refl _),List.drop_set_of_lt (by omega)];simp
   |false=>
    rw[cf rfl,BB (by omega) (by omega),C0];obtain⟨b,j,n⟩:=ih m (i+1) a (by omega) (by omega) fun x d=>e x (by rw[List.drop_eq_getElem_cons c];exact List.mem_cons_of_mem _ d);refine⟨b,j,?_⟩;have o:a.l.take (i+1)=a.l.take i++[a.l[i]]:=by rw[List.take_add_one,List.getElem?_eq_getElem c];rfl
    rw[n,o,List.append_assoc];rfl
theorem QP{K:Nat}(p:Bb→Ag→Bool)(y:Ar)(t:AX)(ss:List Ag)(e:y.Ad.length≤4)(f:ss.length=y.Ad.length)(hK:2000≤K)(n:Int)(a:BK)(h:0≤n∧n≤100000)(g:∀x∈a.l,0≤x∧x≤100000):
  ∃b:BK,CV K (fun(st:Unit) (x:Bb×Ag)=>some (p x.1 x.2,())) t ss n y a ()=some (true,n+1,b,())∧b.l=G7 p y.Ad ss a.l:=by
 unfold CV;obtain⟨b,c,d⟩:=RW (K:=K) p y ss e f ss.length K 0 a (by omega) (by omega) (by rw[List.drop_zero];exact g);rw[Int.natCast_zero] at c;rw[List.take_zero,List.drop_zero,List.drop_zero,List.drop_zero,List.nil_append] at d;rw[BB (by omega) (by omega),bd c];exact⟨b,rfl,d⟩
theorem Ot(p:Bb→Ag→Bool)(B:Int):∀(ls:List Bb) (ss:List Ag) (as:List Int),(∀x∈as,0≤x∧x≤B)→∀x∈G7 p ls ss as,0≤x∧x≤B+1
 |l::ls,s::ss,a::as,h,x,b=>by
  rw[G7] at b;rcases List.mem_cons.1 b with rfl|b
  ·have:=h a (List.mem_cons_self ..);cases p l s<;>simp<;>omega
  ·exact Ot p B ls ss as (fun z c=>h z (List.mem_cons_of_mem _ c)) x b
 |[],_,as,h,x,b=>by
  rw[K8] at b;have:=h x b;omega
 |l::ls,[],as,h,x,b=>by
  have e:G7 p (l::ls) [] as=as:=by cases as<;>rfl
  rw[e] at b;have:=h x b;omega
 |l::ls,s::ss,[],h,x,b=>by
  have e:G7 p (l::ls) (s::ss) []=[]:=rfl;rw[e] at b;cases b
def L5 (p:Bb→Ag→Bool) (y:Ar) (o:List (List Int)):List AX→List Int→List Int
 |[],a=>a
 |t::b,a=>L5 p y o b (G7 p y.Ad (Ch y o t) a)
theorem Nr{K:Nat}(p:Bb→Ag→Bool)(y:Ar)(d:FW y)(o:List (List Int))(hK:2000≤K):∀(c:List AX) (n:Int) (a:BK) (B:Int),0≤n→n+c.length≤100000→B+c.length≤100000→(∀x∈a.l,0≤x∧x≤B)→
  ∃b:BK,run (fun(st:Int×BK×Unit) t=>(CV K (fun(st:Unit) (x:Bb×Ag)=>some (p x.1 x.2,())) t (Ch y o t) st.1 y st.2.1 st.2.2).bind fun r=>some (r.1,(r.2.1,r.2.2.1,r.2.2.2))) c (n,a,())=some (true,n+c.length,b,())∧b.l=L5 p y o c a.l
 |[],n,a,B,_,_,_,_=>⟨a,by simp[run],rfl⟩
 |t::c,n,a,B,h0,g,h,e=>by
  rw[List.length_cons] at g h;obtain⟨b,i,f⟩:=QP (K:=K) p y t (Ch y o t) d.n4 (G1 ..) hK n a (by omega) (fun x j=>by have:=e x j;omega);obtain⟨k,m,q⟩:=Nr p y d o hK c (n+1) b (B+1) (by omega) (by omega) (by omega) (by rw[f];exact Ot p B _ _ _ e);refine⟨k,?_,by rw[q,f];rfl⟩;rw[run];show Option.bind ((CV K _ t (Ch y o t) n y a ()).bind _) _=_;rw[bd i];show run _ c (n+1,b,())=_;rw[m,List.length_cons]
  congr 3;omega
theorem L6(y:Ar)(b:FW y):((Cs y).length:Int)=If y:=by
 have d:∀ls:List Bb,(∀l∈ls,sized l)→((Ex ls).length:Int)=FQ ls:=by
  intro ls
  induction ls with
  |nil=>intro _;rfl
  |cons l r ih=>
   intro h;have a:=(h l (List.mem_cons_self ..)).1;rw[Ex,FQ,List.length_flatMap,←ih fun x e=>h x (List.mem_cons_of_mem _ e)];have:((List.range (CR l).toNat).map fun(n:Nat)=>((Ex r).map fun c=>(l.AD+(n:Int))::c).length)=List.replicate (CR l).toNat (Ex r).length:=by
    apply List.ext_getElem
    ·simp
    ·intro i a f;simp
   rw[this,List.sum_replicate_nat,Int.natCast_mul]
   congr 1;omega
 unfold Cs If;rw[List.length_flatMap,←d y.Ad fun l g=>(b.sz l g).1];have:((CO y).map fun w=>((Ex y.Ad).map fun c=>(⟨c,w⟩:AX)).length)=List.replicate (CO y).length (Ex y.Ad).length:=by
  apply List.ext_getElem
  ·simp
  ·intro i a f;simp
 rw[this,List.sum_replicate_nat,Int.natCast_mul]
def Dl (p:Bb→Ag→Bool) (y:Ar) (o:List (List Int)):List Int:=L5 p y o (Cs y) [0,0,0,0]
theorem L7{K:Nat}(p:Bb→Ag→Bool)(y:Ar)(a:FW y)(o:List (List Int))(c:DQ y o=true)(hK:2000≤K):
  ∃b:BK,Cy K (fun(st:Unit) (x:Bb×Ag)=>some (p x.1 x.2,())) y o ()=some (b,((Cs y).length:Int),())∧b.l=Dl p y o:=by
 unfold Cy;rw[PU _ y a o c hK];have g:=L6 y a;have:=a.many;obtain⟨b,d,e⟩:=Nr (K:=K) p y a o hK (Cs y) 0 ⟨0,0,0,0⟩ 0 (by omega) (by omega) (by omega) (by intro x f;simp[BK.l] at f;omega);refine⟨b,?_,e⟩;refine Eq.trans (congrArg (fun z=>Option.bind (Option.bind z _) _) d) ?_;rw[Int.zero_add];rfl
end Go.Proofs.YtkljfdkmjdjpfaaGreat
end
section
namespace Go.Proofs.YtkljfdkmjdjpfaaGreat
def FL(y:Ar)(i:Nat):Bb:=y.Ad.getD i H3
def MN(y:Ar)(o:List (List Int))(t:AX)(i:Nat):Ag:=(Ch y o t).getD i IS
def Ko (y:Ar) (o:List (List Int)) (i:Nat) (t:AX):Bool:=Gx (FL y i) (MN y o t i)
theorem Ns(p:Bb→Ag→Bool):∀(ls:List Bb) (ss:List Ag) (as:List Int) (i:Nat),i<ls.length→i<ss.length→i<as.length→
  (G7 p ls ss as).getD i 0=as.getD i 0+(cond (p (ls.getD i H3) (ss.getD i IS)) 1 0)
 |l::ls,s::ss,a::as,0,_,_,_=>by
  rw[G7];show cond (p l s) (a+1) a=a+cond (p l s) 1 0;cases p l s<;>simp
 |l::ls,s::ss,a::as,i+1,b,c,d=>by
  rw[G7];exact Ns p ls ss as i (by simpa using b) (by simpa using c) (by simpa using d)
theorem KR(p:Bb→Ag→Bool):∀(ls:List Bb) (ss:List Ag) (as:List Int),(G7 p ls ss as).length=as.length
 |l::ls,s::ss,a::as=>by rw[G7,List.length_cons,KR p ls ss as,List.length_cons]
 |[],ss,as=>by rw[K8]
 |l::ls,[],as=>by
  have e:G7 p (l::ls) [] as=as:=by cases as<;>rfl
  rw[e]
 |l::ls,s::ss,[]=>rfl
theorem Nt(p:Bb→Ag→Bool)(y:Ar)(o:List (List Int))(i:Nat)(hi:i<y.Ad.length):∀(a:List AX) (as:List Int),i<as.length→
  (L5 p y o a as).getD i 0=as.getD i 0+(a.countP (fun t=>p (FL y i) (MN y o t i)):Nat)
 |[],as,_=>by simp[L5]
 |t::a,as,h=>by
  rw[L5,Nt p y o i hi a _ (by rw[KR];exact h),Ns p _ _ _ i hi (by rw[Ch,G1];exact hi) h,List.countP_cons];unfold FL MN;cases p (y.Ad.getD i H3) ((Ch y o t).getD i IS)<;>simp<;>omega
theorem LD(p:Bb→Ag→Bool)(y:Ar)(a:FW y)(o:List (List Int))(i:Nat)(hi:i<y.Ad.length):(Dl p y o).getD i 0=((Cs y).countP (fun t=>p (FL y i) (MN y o t i)):Nat):=by
 unfold Dl;have b:=a.n4;rw[Nt p y o i hi _ _ (by show i<4;omega)];have:([0,0,0,0]:List Int).getD i 0=0:=by
  match i,(show i<4 by omega) with
  |0,_=>rfl
  |1,_=>rfl
  |2,_=>rfl
  |3,_=>rfl
 rw[this,Int.zero_add]
theorem MO(b:BK)(i:Nat)(h:i<4):idx [b.a0,b.a1,b.a2,b.a3] (i:Int)=some (b.l.getD i 0):=by
 have:i<[b.a0,b.a1,b.a2,b.a3].length:=h;rw[idx_eq this];show some b.l[i]=_;rw[List.getD_eq_getElem?_getD,List.getElem?_eq_getElem (show i<b.l.length from h)];rfl
def verdict (y:Ar) (o:List (List Int)) (i:Nat):Int:=cond ((Cs y).all (Ko y o i)) 1 (cond ((Cs y).all fun t=> !Ko y o i t) 2 3)
theorem MA{α:Type}(p:α→Bool)(l:List α):((((l.countP p:Nat):Int)==(l.length:Int)))=l.all p:=by
 rw[Bool.eq_iff_iff,beq_iff_eq,List.all_eq_true,Int.ofNat_inj,List.countP_eq_length]
theorem Pd{α:Type}(p:α→Bool)(l:List α):((((l.countP p:Nat):Int)==0))=l.all fun t=> !p t:=by
 rw[Bool.eq_iff_iff,beq_iff_eq,List.all_eq_true,show(0:Int)=((0:Nat):Int) from rfl,Int.ofNat_inj,List.countP_eq_zero];simp
theorem RX{K:Nat}(y:Ar)(o:List (List Int))(n:Int)(hK:2000≤K)(e:o.length≤1000)(f:o.flatten.length≤1000):
  E1 K y o n=some (if check y≠0 then (0,check y) else if DQ y o=false∨Fw n 0 ((y.Ad.length:Int)-1)=false then (0,2) else (verdict y o n.toNat,0)):=by
 unfold E1;rw[bd (HE hK y)]
 by_cases h:check y=0
 ·rw[h,cf (by decide),if_neg (by simp)];have a:=GM h;have m:=a.n4;rw[bd (Kl y o a.n4 hK e f)];cases g:DQ y o with
  |false=>rw[nf,if_pos (.inl rfl)]
  |true=>
   have j:FM K y n=some (Fw n 0 ((y.Ad.length:Int)-1)):=by
    unfold FM;rw[BB (by omega) (by omega),bd (He ..)]
   rw[nt,bd j];cases c:Fw n 0 ((y.Ad.length:Int)-1) with
   |false=>rw[nf,if_pos (.inr rfl)]
   |true=>
    rw[nt,if_neg (by simp)];rw[FH] at c;obtain⟨i,rfl⟩:=Int.eq_ofNat_of_zero_le c.1;have hi:i<y.Ad.length:=by omega
    obtain⟨b,k,l⟩:=L7 (K:=K) Gx y a o g hK;have d:Cy K (fun(st:Unit) (x:Bb×Ag)=>(C8 K x.1 x.2).bind fun r=>some (r,())) y o ()=some (b,((Cs y).length:Int),()):=by
     rw[←k];congr 1;funext st x;rw[bd (L3 ..)]
    rw[bd d,bd (MO b i (by omega)),l,LD Gx y a o i hi,Int.toNat_natCast];unfold verdict;show cond ((((Cs y).countP (Ko y o i):Nat):Int)==((Cs y).length:Int)) _ (cond ((((Cs y).countP (Ko y o i):Nat):Int)==0) _ _)=_;rw[MA,Pd];cases (Cs y).all (Ko y o i)<;>cases (Cs y).all (fun t=> !Ko y o i t)<;>rfl
 ·rw[ct (by simpa using h),if_pos h]
theorem JB(y:Ar)(o:List (List Int)):∀(a:List AX) (s:Int×AX),s.1<(y.Ad.length:Int)∨a=[]→
  (∀t∈a,(D2 y (Ch y o t):Int)≤(Ig y o a s).1)∧s.1≤(Ig y o a s).1∧((Ig y o a s)=s∨∃t∈a,(Ig y o a s)=((D2 y (Ch y o t):Int),t))
 |[],s,_=>⟨fun t j=>(by cases j),Int.le_refl _,.inl rfl⟩
 |t::a,s,h=>by
  have g:s.1<(y.Ad.length:Int):=by
   rcases h with h|h
   ·exact h
   ·cases h
  have hle:∀x,(D2 y (Ch y o x):Int)≤(y.Ad.length:Int):=fun x=>by
   have:=L4 DN y.Ad (Ch y o x);unfold D2;omega
  rw[Ig]
  by_cases i:s.1<(D2 y (Ch y o t):Int)
  ·rw[if_pos i];show(∀x∈t::a,_≤(cond (decide ((D2 y (Ch y o t):Int)<(y.Ad.length:Int))) _ _:Int×AX).1)∧_
   by_cases e:(D2 y (Ch y o t):Int)<(y.Ad.length:Int)
   ·rw[ct (dt e)];obtain⟨f,d,b⟩:=JB y o a ((D2 y (Ch y o t):Int),t) (.inl e);refine⟨fun x c=>?_,by have k:(D2 y (Ch y o t):Int)≤_:=d;omega,.inr ?_⟩
    ·rcases List.mem_cons.1 c with rfl|c
     ·exact d
     ·exact f x c
    ·rcases b with b|⟨x,c,b⟩
     ·exact⟨t,List.mem_cons_self ..,b⟩
     ·exact⟨x,List.mem_cons_of_mem _ c,b⟩
   ·rw[cf (df e)];exact⟨fun x _=>Int.le_trans (hle x) (by show(y.Ad.length:Int)≤(D2 y (Ch y o t):Int);omega),by show s.1≤(D2 y (Ch y o t):Int);omega,.inr ⟨t,List.mem_cons_self ..,rfl⟩⟩
  ·rw[if_neg i];show(∀x∈t::a,_≤(cond (decide (s.1<(y.Ad.length:Int))) _ _:Int×AX).1)∧_;rw[ct (dt g)];obtain⟨f,d,b⟩:=JB y o a s (.inl g);refine⟨fun x c=>?_,d,?_⟩
   ·rcases List.mem_cons.1 c with rfl|c
    ·omega
    ·exact f x c
   ·rcases b with b|⟨x,c,b⟩
    ·exact .inl b
    ·exact .inr ⟨x,List.mem_cons_of_mem _ c,b⟩
theorem Pe{y:Ar}(f:FW y):Cs y≠[]:=by
 have g:wl (days y) 0∈CO y:=by
  refine H4.2 ⟨FV _ _,?_⟩;have key:∀(l:List Bool) (s r:Int),(∀b∈l,b=false)→okW y.Ap y.AB l s r=true:=by
   intro l
   induction l with
   |nil=>intros;rfl
   |cons b l ih=>
    intro s r h;have a:=h b (List.mem_cons_self ..);subst a;rw[okW];exact ih s 0 fun x c=>h x (List.mem_cons_of_mem _ c)
  refine key _ 0 0 fun b a=>?_;unfold wl at a;obtain⟨d,_,rfl⟩:=List.mem_map.1 a;exact Nat.zero_testBit d
 have i:D1 y.Ad (y.Ad.map (·.AD))=true:=by
  have key:∀ls:List Bb,(∀l∈ls,sized l)→D1 ls (ls.map (·.AD))=true:=by
   intro ls
   induction ls with
   |nil=>intro _;rfl
   |cons l r ih=>
    intro h;have:=(h l (List.mem_cons_self ..)).1;rw[List.map_cons,D1,Bool.and_eq_true];exact⟨FH.2 (by unfold CR at this;omega),ih fun x c=>h x (List.mem_cons_of_mem _ c)⟩
  exact key _ fun l j=>(f.sz l j).1
 intro e;have:(⟨y.Ad.map (·.AD),wl (days y) 0⟩:AX)∈Cs y:=by
  unfold Cs;exact List.mem_flatMap.2 ⟨_,g,List.mem_map.2 ⟨_,Hy.2 i,rfl⟩⟩
 rw[e] at this;cases this
theorem Ih {y:Ar} (c:FW y) (o:List (List Int)):(∀t,Ep y t=true→(D2 y (Ch y o t):Int)≤(C2 y o).1)∧Ep y (C2 y o).2=true∧(C2 y o).1=(D2 y (Ch y o (C2 y o).2):Int):=by
 obtain⟨d,e,a⟩:=JB y o (Cs y) (-1,⟨[],[]⟩) (.inl (by show(-1:Int)<_;omega));refine⟨fun t b=>d t ((HM c.h0).2 b),?_⟩;rcases a with a|⟨t,b,a⟩
 ·exfalso;obtain⟨t,b⟩:=List.exists_mem_of_ne_nil _ (Pe c);have:=d t b;rw[a] at this;have f:(D2 y (Ch y o t):Int)≤-1:=this;omega
 ·unfold C2;rw[a];exact⟨(HM c.h0).1 b,rfl⟩
end Go.Proofs.YtkljfdkmjdjpfaaGreat
end
section
namespace Go.Proofs.YtkljfdkmjdjpfaaGreat
def El:Nat→Nat→List (List Int)→List (List (List Int))
 |0,_,o=>[o]
 |k+1,i,o=>(List.range o.length).flatMap fun r=>(List.range ((o.getD r []).length+1)).flatMap fun(a:Nat)=>El k (i+1) (o.set r (CN (o.getD r []) (a:Int) (i:Int)))
def Gy(y:Ar):List (List (List Int)):=El y.Ad.length 0 (List.replicate y.An.toNat [])
section
variable{σ:Type}{K:Nat}(cb:σ→List (List Int)→Option (Bool×σ))(y:Ar)
def Or(n k i:Nat):Prop:=∀(o:List (List Int)) (st:σ),(∀l∈o,l.length≤i)→o.length≤1000→
 (BA K cb k (i:Int) y o st).map (fun z=>(z.1,z.2.2))=run cb (El n i o) st∧
 ∀z,BA K cb k (i:Int) y o st=some z→z.1=true→z.2.1=o
theorem Nu{l:List (List Int)}{r:Nat}(h:r<l.length):l.set r (l.getD r [])=l:=by
 rw[List.getD_eq_getElem?_getD,List.getElem?_eq_getElem h];exact List.set_getElem_self h
theorem PY(n k i r:Nat)(hi:i≤10)(o:List (List Int))(s:r<o.length)(v:o.length≤1000)(hlen:∀l∈o,l.length≤i)(ih:Or (K:=K) cb y n k (i+1)):
  ∀(c m a:Nat) (q:List (List Int)) (st:σ),(o.getD r []).length+1=a+c→c<m→q.length=o.length→q.set r (o.getD r [])=o→
  (Ck (BA K cb k) (i:Int) y (r:Int) (o.getD r []) m (a:Int) q st).map QL=run cb ((List.range' a c).flatMap fun(a:Nat)=>El n (i+1) (o.set r (CN (o.getD r []) (a:Int) (i:Int)))) st∧
  ∀z,Ck (BA K cb k) (i:Int) y (r:Int) (o.getD r []) m (a:Int) q st=some z→(∀x,z=.inl x→x.1=false)∧(∀x,z=.inr x→x.1.length=o.length∧x.1.set r (o.getD r [])=o):=by
 have aH:(o.getD r []).length≤i:=by
  rw[List.getD_eq_getElem?_getD,List.getElem?_eq_getElem s];exact hlen _ (List.getElem_mem s)
 intro c
 induction c with
 |zero=>
  intro m a q st h hm w f;cases m with
  |zero=>omega
  |succ m=>
   rw[Ck.eq_2,cf (df (by omega))];exact⟨rfl,fun z g=>by cases g;exact⟨fun x e=>(by cases e),fun x e=>by cases e;exact⟨w,f⟩⟩⟩
 |succ c aA=>
  intro m a q st h hm w f;cases m with
  |zero=>omega
  |succ m=>
   have aB:r<q.length:=by omega
   have t:q.set r (CN (o.getD r []) (a:Int) (i:Int))=o.set r (CN (o.getD r []) (a:Int) (i:Int)):=by
    have h:(q.set r (o.getD r [])).set r (CN (o.getD r []) (a:Int) (i:Int))=o.set r (CN (o.getD r []) (a:Int) (i:Int)):=by rw[f]
    rw[List.set_set] at h;exact h
   rw[Ck.eq_2,ct (dt (by omega)),FK (by omega),FK (by omega),B5 aB,BB (by omega) (by omega),C0 i,Int.toNat_natCast,t];obtain⟨aD,aE⟩:=ih (o.set r (CN (o.getD r []) (a:Int) (i:Int))) st (fun l aF=>by
    rcases List.mem_or_eq_of_mem_set aF with u|u
    ·have:=hlen l u;omega
    ·rw[u,KQ];omega) (by rw[List.length_set];exact v)
   rw[List.range'_succ,List.flatMap_cons,Hv,←aD];cases aG:BA K cb k ((i+1:Nat):Int) y (o.set r (CN (o.getD r []) (a:Int) (i:Int))) st with
   |none=>exact⟨rfl,fun z g=>by cases g⟩
   |some z0=>
    obtain⟨b,j,s2⟩:=z0;cases b with
    |false=>
     refine⟨rfl,fun z g=>?_⟩;have aC:some (Sum.inl (false,j,s2))=some z:=g;cases aC;exact⟨fun x e=>by cases e;rfl,fun x e=>by cases e⟩
    |true=>
     have p:j=o.set r (CN (o.getD r []) (a:Int) (i:Int)):=aE _ aG rfl;have key:(Option.bind (some (true,j,s2)) fun d=>cond (!d.1) (some (Sum.inl (false,d.2.1,d.2.2))) ((i64 ((a:Int)+1)).bind fun _=>Ck (BA K cb k) (i:Int) y (r:Int) (o.getD r []) m ((a:Int)+1) d.2.1 d.2.2))=Ck (BA K cb k) (i:Int) y (r:Int) (o.getD r []) m ((a+1:Nat):Int) j s2:=by
      rw[Option.bind_some,nt,BB (by omega) (by omega),C0 a]
     rw[key];exact aA m (a+1) j s2 (by omega) (by omega) (by rw[p,List.length_set]) (by rw[p,List.set_set];exact Nu s)
theorem PZ(n k i:Nat)(hi:i≤10)(hK:2000≤K)(o:List (List Int))(p:o.length≤1000)(hlen:∀l∈o,l.length≤i)(ih:Or (K:=K) cb y n k (i+1)):
  ∀(c m r:Nat) (st:σ),o.length=r+c→c<m→
  (Cc (BA K cb k) K (i:Int) y o m (r:Int) o st).map QL=run cb ((List.range' r c).flatMap fun r=>(List.range ((o.getD r []).length+1)).flatMap fun(a:Nat)=>El n (i+1) (o.set r (CN (o.getD r []) (a:Int) (i:Int)))) st∧
  ∀z,Cc (BA K cb k) K (i:Int) y o m (r:Int) o st=some z→(∀x,z=.inl x→x.1=false)∧(∀x,z=.inr x→x.1=o):=by
 intro c
 induction c with
 |zero=>
  intro m r st h hm;cases m with
  |zero=>omega
  |succ m=>
   rw[Cc.eq_2,cf (df (by omega))];exact⟨rfl,fun z j=>by cases j;exact⟨fun x f=>(by cases f),fun x f=>by cases f;rfl⟩⟩
 |succ c q=>
  intro m r st h hm;cases m with
  |zero=>omega
  |succ m=>
   have g:r<o.length:=by omega
   have aF:(o.getD r []).length≤i:=by
    rw[List.getD_eq_getElem?_getD,List.getElem?_eq_getElem g];exact hlen _ (List.getElem_mem g)
   have s:o[r]=o.getD r []:=by rw[List.getD_eq_getElem?_getD,List.getElem?_eq_getElem g];rfl
   rw[Cc.eq_2,ct (dt (by omega)),B5 g,s,BB (by omega) (by omega)];obtain⟨t,u⟩:=PY cb y n k i r hi o g p hlen ih ((o.getD r []).length+1) K 0 o st (by omega) (by omega) rfl (Nu g);rw[Int.natCast_zero] at t u;rw[List.range'_succ,List.flatMap_cons,Hv,List.range_eq_range',←t];cases aA:Ck (BA K cb k) (i:Int) y (r:Int) (o.getD r []) K 0 o st with
   |none=>exact⟨rfl,fun z j=>by cases j⟩
   |some z0=>
    obtain⟨aB,aC⟩:=u _ aA;cases z0 with
    |inl x=>
     obtain⟨b,e,s2⟩:=x;obtain rfl:b=false:=aB _ rfl;refine⟨rfl,fun z j=>?_⟩;have v:some (Sum.inl (false,e,s2))=some z:=j;cases v;exact⟨fun x f=>by cases f;rfl,fun x f=>by cases f⟩
    |inr x=>
     obtain⟨e,s2⟩:=x;obtain⟨aD,aE⟩:=aC _ rfl;have aG:e.length=o.length:=aD;have w:e.set r (o.getD r [])=o:=aE;have key:(Option.bind (some (Sum.inr (e,s2):(Bool×List (List Int)×σ)⊕(List (List Int)×σ))) fun z=>Sum.elim (fun d=>some (Sum.inl (d.1,d.2.1,d.2.2))) (fun d=>(idx d.1 (r:Int)).bind fun _=>(i64 ((r:Int)+1)).bind fun _=>Cc (BA K cb k) K (i:Int) y o m ((r:Int)+1) (d.1.set (r:Int).toNat (o.getD r [])) d.2) z)=Cc (BA K cb k) K (i:Int) y o m ((r+1:Nat):Int) o s2:=by
      rw[Option.bind_some];show(idx e (r:Int)).bind _=_;rw[B5 (show r<e.length by omega),BB (by omega) (by omega),C0 r];show Cc _ K _ y o m _ (e.set (r:Int).toNat (o.getD r [])) s2=_;rw[Int.toNat_natCast,w]
     rw[key];exact q m (r+1) s2 (by omega) (by omega)
theorem P0(t:y.Ad.length≤4)(hK:2000≤K):∀(n k i:Nat),y.Ad.length=i+n→n<k→Or (K:=K) cb y n k i:=by
 intro n
 induction n with
 |zero=>
  intro k i h l o st hlen e;cases k with
  |zero=>omega
  |succ k=>
   rw[BA.eq_2,ct (by rw[h];simp)];rw[El,run];cases cb st o with
   |none=>exact⟨rfl,fun z a=>by cases a⟩
   |some r=>
    obtain⟨b,s⟩:=r;refine⟨by cases b<;>rfl,fun z a _=>?_⟩;have c:some (b,o,s)=some z:=a;cases c;rfl
 |succ n ih=>
  intro k i h l o st hlen e;cases k with
  |zero=>omega
  |succ k=>
   rw[BA.eq_2,cf (by simp;omega)];obtain⟨f,g⟩:=PZ cb y n k i (by omega) hK o e hlen (ih k (i+1) (by omega) (by omega)) o.length K 0 st (by omega) (by omega);rw[Int.natCast_zero] at f g;rw[El,List.range_eq_range',←f];cases m:Cc (BA K cb k) K (i:Int) y o K 0 o st with
   |none=>exact⟨rfl,fun z a=>by cases a⟩
   |some z0=>
    obtain⟨p,q⟩:=g _ m;cases z0 with
    |inl x=>
     obtain⟨b,d,s2⟩:=x;obtain rfl:b=false:=p _ rfl;refine⟨rfl,fun z a j=>?_⟩;have c:some (false,d,s2)=some z:=a;cases c;cases j
    |inr x=>
     obtain⟨d,s2⟩:=x;obtain rfl:d=o:=q _ rfl;refine⟨rfl,fun z a j=>?_⟩;have c:some (true,d,s2)=some z:=a;cases c;rfl
end
theorem Nv{σ:Type}{K:Nat}(cb:σ→List (List Int)→Option (Bool×σ))(y:Ar)(a:FW y)(hK:2000≤K)(st:σ):EL K cb y st=(run cb (Gy y) st).bind fun r=>some r.2:=by
 unfold EL;have:=a.r1;have:=a.r2;rw[Ol (by omega) (by omega) (by omega)];obtain⟨b,_⟩:=P0 cb y a.n4 hK y.Ad.length K 0 (by omega) (by have:=a.n4;omega) (List.replicate y.An.toNat []) st (fun l c=>by rw[(List.mem_replicate.1 c).2];exact Nat.le_refl _) (by rw[List.length_replicate];omega);rw[Int.natCast_zero] at b;unfold Gy;rw[←b];cases BA K cb K 0 y (List.replicate y.An.toNat []) st with
 |none=>rfl
 |some z=>rfl
end Go.Proofs.YtkljfdkmjdjpfaaGreat
end
section
namespace Go.Proofs.YtkljfdkmjdjpfaaGreat
theorem P1(l:List Int)(a i:Int):(CN l a i).Perm (i::l):=by
 unfold CN;refine List.perm_middle.trans (List.Perm.cons _ ?_);rw[List.take_append_drop]
theorem IB(v:Int):∀(o:List (List Int)) (r:Nat) (a:Int),r<o.length→(o.set r (CN (o.getD r []) a v)).flatten.Perm (v::o.flatten)
 |l::o,0,a,_=>by
  show(CN l a v++o.flatten).Perm (v::(l++o.flatten));exact(P1 l a v).append_right _
 |l::o,r+1,a,h=>by
  show(l++(o.set r (CN (o.getD r []) a v)).flatten).Perm (v::(l++o.flatten));exact((IB v o r a (by simpa using h)).append_left l).trans List.perm_middle
theorem Kp(n:Nat):iota (n+1)=iota n++[(n:Int)]:=by simp[iota,List.range_succ]
theorem LF:∀(k i:Nat) (c o:List (List Int)),c.flatten.Perm (iota i)→o∈El k i c→o.length=c.length∧o.flatten.Perm (iota (i+k))
 |0,i,c,o,h,b=>by
  rw[El,List.mem_singleton] at b;subst b;exact⟨rfl,h⟩
 |k+1,i,c,o,h,b=>by
  rw[El,List.mem_flatMap] at b;obtain⟨r,d,b⟩:=b;obtain⟨a,_,b⟩:=List.mem_flatMap.1 b;rw[List.mem_range] at d;obtain⟨e,f⟩:=LF k (i+1) _ o (by
   rw[Kp];exact((IB (i:Int) c r (a:Int) d).trans (h.cons _)).trans (List.perm_append_singleton _ _).symm) b
  rw[List.length_set] at e;exact⟨e,by rw[show i+(k+1)=i+1+k by omega];exact f⟩
theorem Ii{y:Ar}(a:FW y){o:List (List Int)}(h:o∈Gy y):DQ y o=true:=by
 have:=LF _ 0 _ o (by
  have:(List.replicate y.An.toNat ([]:List Int)).flatten=[]:=by simp
  rw[this];exact List.Perm.refl _) h
 rw[List.length_replicate,Nat.zero_add] at this;refine EO.2 ⟨?_,this.2⟩;have:=a.r1;omega
theorem Kq:∀(k i:Nat) (c o:List (List Int)) (r a:Nat),o∈El k i c→r<o.length→a≤(o.getD r []).length→o.set r (CN (o.getD r []) (a:Int) ((i+k:Nat):Int))∈El (k+1) i c
 |0,i,c,o,r,a,b,d,e=>by
  rw[El,List.mem_singleton] at b;subst b;rw[El,List.mem_flatMap];refine⟨r,List.mem_range.2 d,List.mem_flatMap.2 ⟨a,List.mem_range.2 (by omega),?_⟩⟩;rw[El,List.mem_singleton];rfl
 |k+1,i,c,o,r,a,b,d,e=>by
  rw[El,List.mem_flatMap] at b;obtain⟨r1,f,b⟩:=b;obtain⟨a1,g,b⟩:=List.mem_flatMap.1 b;rw[El,List.mem_flatMap];refine⟨r1,f,List.mem_flatMap.2 ⟨a1,g,?_⟩⟩;have:=Kq k (i+1) _ o r a b d e;rw[show i+1+k=i+(k+1) by omega] at this;exact this
theorem LG (v:Int):∀(o:List (List Int)),v∈o.flatten→∃(o':List (List Int)) (r a:Nat),r<o'.length∧a≤(o'.getD r []).length∧o=o'.set r (CN (o'.getD r []) (a:Int) v)∧o.flatten.Perm (v::o'.flatten)∧o'.length=o.length
 |[],h=>by cases h
 |l::o,h=>by
  by_cases b:v∈l
  ·obtain⟨s,t,rfl⟩:=List.append_of_mem b;refine⟨(s++t)::o,0,s.length,by simp,by simp,?_,?_,by simp⟩
   ·show _=CN (s++t) (s.length:Int) v::o;unfold CN;rw[Int.toNat_natCast,List.take_left,List.drop_left]
   ·show((s++v::t)++o.flatten).Perm (v::((s++t)++o.flatten));exact(List.perm_middle (a:=v) (l₁:=s) (l₂:=t)).append_right _
  ·have c:v∈o.flatten:=by
    rw[List.flatten_cons,List.mem_append] at h;exact h.resolve_left b
   obtain⟨o',r,a,d,e,f,g,i⟩:=LG v o c;refine⟨l::o',r+1,a,by simpa using d,e,?_,?_,by simp[i]⟩
   ·show l::o=l::o'.set r (CN (o'.getD r []) (a:Int) v);rw[←f]
   ·show(l++o.flatten).Perm (v::(l++o'.flatten));exact(g.append_left l).trans List.perm_middle
theorem KS(LK:Nat):∀(n:Nat) (o:List (List Int)),o.length=LK→o.flatten.Perm (iota n)→o∈El n 0 (List.replicate LK [])
 |0,o,c,b=>by
  rw[El,List.mem_singleton];have he:o.flatten=[]:=b.eq_nil;rw[List.flatten_eq_nil_iff] at he;exact List.eq_replicate_iff.2 ⟨c,he⟩
 |n+1,o,c,b=>by
  have e:(n:Int)∈o.flatten:=b.mem_iff.2 (by rw[Kp];simp);obtain⟨o',r,a,f,g,h,i,k⟩:=LG (n:Int) o e;have d:o'.flatten.Perm (iota n):=by
   have j:(iota (n+1)).Perm ((n:Int)::iota n):=by rw[Kp];exact List.perm_append_singleton _ _
   exact(List.perm_cons _).1 ((i.symm.trans b).trans j)
  have:=Kq n 0 _ o' r a (KS LK n o' (by omega) d) f g;rw[Nat.zero_add] at this;rw[h];exact this
theorem KT{y:Ar}(a:FW y){o:List (List Int)}:o∈Gy y↔DQ y o=true:=by
 refine⟨Ii a,fun h=>?_⟩;have b:=EO.1 h;exact KS _ _ o (by omega) b.2
theorem Pf{y:Ar}(a:FW y):Gy y≠[]:=by
 have:((iota y.Ad.length)::List.replicate (y.An.toNat-1) [])∈Gy y:=by
  refine(KT a).2 (EO.2 ⟨?_,?_⟩)
  ·have:=a.r1;simp;omega
  ·simp
 intro e;rw[e] at this;cases this
theorem QQ(p:List (List Int))(c:p.length≤1000)(a:∀l∈p,l.length≤1000):∀(k m i:Nat),p.length=i+k→k<m→EH p m (i:Int) p=some p:=by
 intro k
 induction k with
 |zero=>
  intro m i h hm;cases m with
  |zero=>omega
  |succ m=>rw[EH.eq_2,cf (df (by omega))]
 |succ k ih=>
  intro m i h hm;cases m with
  |zero=>omega
  |succ m=>
   have hi:i<p.length:=by omega
   have b:=a p[i] (List.getElem_mem hi);rw[EH.eq_2,ct (dt (by omega)),B5 hi,FK (by omega),B5 hi,BB (by omega) (by omega),C0,Int.toNat_natCast,List.set_getElem_self hi];exact ih m (i+1) (by omega) (by omega)
theorem Nw{K:Nat}(p:List (List Int))(a:p.length≤1000)(b:∀l∈p,l.length≤1000)(hK:2000≤K):E6 K p=some p:=by
 unfold E6;have:=QQ p a b p.length K 0 (by omega) (by omega);rw[Int.natCast_zero] at this;rw[FK (by omega),bd this]
theorem IT{y:Ar}(a:FW y){o:List (List Int)}(h:DQ y o=true):o.length≤1000∧(∀l∈o,l.length≤1000)∧o.flatten.length≤1000:=by
 have b:=EO.1 h;have c:=L2 h;have:=a.r2;have:=a.n4;have d:=b.2.length_eq;rw[G9] at d;exact⟨by omega,fun l e=>by have:=(c l e).1;omega,by omega⟩
def HN(y:Ar):List (List (List Int))→Int×List (List Int)→Int×List (List Int)
 |[],s=>s
 |o::os,s=>
  let s2:=if (C2 y o).1<s.1 then ((C2 y o).1,o) else s
  cond (decide (0<s2.1)) (HN y os s2) s2
def HO(y:Ar):Int×List (List Int):=HN y (Gy y) ((y.Ad.length:Int)+1,[])
theorem Nx{K:Nat}(y:Ar)(a:FW y)(hK:2000≤K):∀(os:List (List (List Int))) (s:Int×List (List Int)),(∀o∈os,DQ y o=true)→
  (run (fun(st:Int×(List (List Int))) (x:(List (List Int)))=>(Ga K x y st.1 st.2).bind fun r=>some (r.1,(r.2.1,r.2.2))) os s).bind (fun r=>some r.2)=some (HN y os s)
 |[],s,_=>rfl
 |o::os,s,h=>by
  have d:=h o (List.mem_cons_self ..);obtain⟨e,f,_⟩:=IT a d;rw[run,HN];unfold Ga;rw[bd (PW y a o d hK)]
  by_cases b:(C2 y o).1<s.1
  ·rw[ct (dt b),bd (Nw o e f hK),if_pos b];show(cond (decide (0<(C2 y o).1)) _ _:Option (Bool×Int×List (List Int))).bind _=some (cond (decide (0<(C2 y o).1)) _ _);cases decide (0<(C2 y o).1) with
   |false=>rfl
   |true=>exact Nx y a hK os _ fun x c=>h x (List.mem_cons_of_mem _ c)
  ·rw[cf (df b),if_neg b];show(cond (decide (0<s.1)) _ _:Option (Bool×Int×List (List Int))).bind _=some (cond (decide (0<s.1)) _ _);cases decide (0<s.1) with
   |false=>rfl
   |true=>exact Nx y a hK os s fun x c=>h x (List.mem_cons_of_mem _ c)
theorem Tp{K:Nat}(y:Ar)(hK:2000≤K):GR K y=some (if check y≠0 then ([],0,check y) else ((HO y).2,(HO y).1,0)):=by
 unfold GR;rw[bd (HE hK y)]
 by_cases h:check y=0
 ·rw[h,cf (by decide),if_neg (by simp)];have a:=GM h;have c:=a.n4;rw[BB (by omega) (by omega),Nv _ y a hK];exact Eq.trans (bd (Nx y a hK (Gy y) _ fun o b=>Ii a b)) rfl
 ·rw[ct (by simpa using h),if_pos h]
theorem Ny{y:Ar}(a:FW y)(o:List (List Int)):0≤(C2 y o).1∧(C2 y o).1≤(y.Ad.length:Int):=by
 obtain⟨_,_,e⟩:=Ih a o;have:=L4 DN y.Ad (Ch y o (C2 y o).2);rw[e];unfold D2;omega
theorem JC(y:Ar)(d:FW y):∀(os:List (List (List Int))) (s:Int×List (List Int)),0<s.1∨os=[]→
  (∀o∈os,(HN y os s).1≤(C2 y o).1)∧(HN y os s).1≤s.1∧((HN y os s)=s∨∃o∈os,(HN y os s)=((C2 y o).1,o))
 |[],s,_=>⟨fun o j=>(by cases j),Int.le_refl _,.inl rfl⟩
 |o::os,s,h=>by
  have g:0<s.1:=by
   rcases h with h|h
   ·exact h
   ·cases h
  rw[HN]
  by_cases i:(C2 y o).1<s.1
  ·rw[if_pos i];show(∀x∈o::os,(cond (decide (0<(C2 y o).1)) _ _:Int×List (List Int)).1≤_)∧_
   by_cases e:0<(C2 y o).1
   ·rw[ct (dt e)];obtain⟨f,c,a⟩:=JC y d os ((C2 y o).1,o) (.inl e);have k:(HN y os ((C2 y o).1,o)).1≤(C2 y o).1:=c;refine⟨fun x b=>?_,by omega,.inr ?_⟩
    ·rcases List.mem_cons.1 b with rfl|b
     ·exact c
     ·exact f x b
    ·rcases a with a|⟨x,b,a⟩
     ·exact⟨o,List.mem_cons_self ..,a⟩
     ·exact⟨x,List.mem_cons_of_mem _ b,a⟩
   ·rw[cf (df e)];refine⟨fun x _=>?_,by show(C2 y o).1≤s.1;omega,.inr ⟨o,List.mem_cons_self ..,rfl⟩⟩;have:=(Ny d x).1;show(C2 y o).1≤_;omega
  ·rw[if_neg i];show(∀x∈o::os,(cond (decide (0<s.1)) _ _:Int×List (List Int)).1≤_)∧_;rw[ct (dt g)];obtain⟨f,c,a⟩:=JC y d os s (.inl g);refine⟨fun x b=>?_,c,?_⟩
   ·rcases List.mem_cons.1 b with rfl|b
    ·omega
    ·exact f x b
   ·rcases a with a|⟨x,b,a⟩
    ·exact .inl a
    ·exact .inr ⟨x,List.mem_cons_of_mem _ b,a⟩
theorem Pg {y:Ar} (a:FW y):(∀o,DQ y o=true→(HO y).1≤(C2 y o).1)∧DQ y (HO y).2=true∧(HO y).1=(C2 y (HO y).2).1:=by
 obtain⟨d,e,b⟩:=JC y a (Gy y) ((y.Ad.length:Int)+1,[]) (.inl (by show(0:Int)<_+1;omega));refine⟨fun o c=>d o ((KT a).2 c),?_⟩;rcases b with b|⟨o,c,b⟩
 ·exfalso;obtain⟨o,c⟩:=List.exists_mem_of_ne_nil _ (Pf a);have:=d o c;rw[b] at this;have f:(y.Ad.length:Int)+1≤(C2 y o).1:=this;have:=(Ny a o).2;omega
 ·unfold HO;rw[b];exact⟨Ii a c,rfl⟩
end Go.Proofs.YtkljfdkmjdjpfaaGreat
end
section
namespace Go.Proofs.YtkljfdkmjdjpfaaGreat
def G2(y:Ar)(yes:List Int):Nat:=(List.range y.Ad.length).countP fun i=>yes.getD i 0==0
theorem RY(y:Ar)(r:BK×Int×Unit)(c:y.Ad.length≤4):∀(k m i:Nat) (a:Int),y.Ad.length=i+k→k<m→0≤a→a≤i→
  Ef y r m a (i:Int)=some (a+((List.range' i k).countP (fun i=>r.1.l.getD i 0==0):Nat)):=by
 intro k
 induction k with
 |zero=>
  intro m i a h hm h0 b;cases m with
  |zero=>omega
  |succ m=>rw[Ef.eq_2,cf (df (by omega))];simp
 |succ k ih=>
  intro m i a h hm h0 b;cases m with
  |zero=>omega
  |succ m=>
   rw[Ef.eq_2,ct (dt (by omega)),bd (MO r.1 i (by omega)),List.range'_succ,List.countP_cons];cases d:(r.1.l.getD i 0==0) with
   |true=>
    rw[ct rfl,BB (by omega) (by omega),BB (by omega) (by omega),C0,ih m (i+1) (a+1) (by omega) (by omega) (by omega) (by omega)]
    congr 1;simp;omega
   |false=>
    rw[cf rfl,BB (by omega) (by omega),C0,ih m (i+1) a (by omega) (by omega) (by omega) (by omega)]
    congr 1
theorem QR(y:Ar)(r:BK×Int×Unit)(c:y.Ad.length≤4):∀(k m i:Nat) (a:Int),y.Ad.length=i+k→k<m→0≤a→a≤i→
  D6 y r m a (i:Int)=some (a+((List.range' i k).countP (fun i=>r.1.l.getD i 0==0):Nat)):=by
 intro k
 induction k with
 |zero=>
  intro m i a h hm h0 b;cases m with
  |zero=>omega
  |succ m=>rw[D6.eq_2,cf (df (by omega))];simp
 |succ k ih=>
  intro m i a h hm h0 b;cases m with
  |zero=>omega
  |succ m=>
   rw[D6.eq_2,ct (dt (by omega)),bd (MO r.1 i (by omega)),List.range'_succ,List.countP_cons];cases d:(r.1.l.getD i 0==0) with
   |true=>
    rw[ct rfl,BB (by omega) (by omega),BB (by omega) (by omega),C0,ih m (i+1) (a+1) (by omega) (by omega) (by omega) (by omega)]
    congr 1;simp;omega
   |false=>
    rw[cf rfl,BB (by omega) (by omega),C0,ih m (i+1) a (by omega) (by omega) (by omega) (by omega)]
    congr 1
def HP(y:Ar):List (List (List Int))→Int×List Int×List (List Int)→Int×List Int×List (List Int)
  |[],s=>s
  |o::os,s=>
    cond (decide (0≤s.1)&&(Dl DN y o==s.2.1)) (HP y os s)
      (let s2:=if s.1<(G2 y (Dl DN y o):Int) then ((G2 y (Dl DN y o):Int),Dl DN y o,o) else (s.1,Dl DN y o,s.2.2)
       cond (decide (s2.1<(y.Ad.length:Int))) (HP y os s2) s2)
def LH(y:Ar):Int×List Int×List (List Int):=HP y (Gy y) (-1,[0,0,0,0],[])
theorem Nz{K:Nat}(y:Ar)(e:FW y)(hK:2000≤K):∀(os:List (List (List Int))) (n:Int) (a:BK) (q:List (List Int)),(∀o∈os,DQ y o=true)→
    ∃(b:Bool) (a2:BK),run (fun(st:Int×BK×(List (List Int))) (x:(List (List Int)))=>(EC K x y st.1 st.2.1 st.2.2).bind fun r=>some (r.1,(r.2.1,r.2.2.1,r.2.2.2))) os (n,a,q)=some (b,(HP y os (n,a.l,q)).1,a2,(HP y os (n,a.l,q)).2.2)
  |[],n,a,q,_=>⟨true,a,rfl⟩
  |o::os,n,a,q,h=>by
    have s:=h o (List.mem_cons_self ..);have p:∀x∈os,DQ y x=true:=fun x aC=>h x (List.mem_cons_of_mem _ aC);obtain⟨aD,aE,_⟩:=IT e s;have t:=e.n4;obtain⟨b,aF,k⟩:=L7 (K:=K) DN y e o s hK;have u:Cy K (fun(st:Unit) (x:Bb×Ag)=>(Ee K x.1 x.2).bind fun r=>some (r,())) y o ()=some (b,((Cs y).length:Int),()):=by
      rw[←aF];congr 1;funext st x;rw[bd (Oq ..)];rfl
    have h9:=RY y (b,((Cs y).length:Int),()) t y.Ad.length K 0 0 (by omega) (by omega) (by omega) (by omega);have f:=QR y (b,((Cs y).length:Int),()) t y.Ad.length K 0 0 (by omega) (by omega) (by omega) (by omega);rw[Int.natCast_zero,Int.zero_add] at h9 f;have v:((List.range' 0 y.Ad.length).countP (fun i=>(b,((Cs y).length:Int),()).1.l.getD i 0==0))=G2 y (Dl DN y o):=by
      rw[←List.range_eq_range',←k];rfl
    rw[v] at h9 f;have c:∀(l:Int×BK×List (List Int)) (z:Int×List Int×List (List Int)),(l.1,l.2.1.l,l.2.2)=z→
        ∃(d:Bool) (a2:BK),cond (decide (l.1<(y.Ad.length:Int))) (run (fun(st:Int×BK×(List (List Int))) (x:(List (List Int)))=>(EC K x y st.1 st.2.1 st.2.2).bind fun r=>some (r.1,(r.2.1,r.2.2.1,r.2.2.2))) os l) (some (false,l))=some (d,(cond (decide (z.1<(y.Ad.length:Int))) (HP y os z) z).1,a2,(cond (decide (z.1<(y.Ad.length:Int))) (HP y os z) z).2.2):=by
      rintro⟨g,w,aG⟩ z rfl;show∃(d:Bool) (a2:BK),cond (decide (g<(y.Ad.length:Int))) _ _=some (d,(cond (decide (g<(y.Ad.length:Int))) _ _:Int×List Int×List (List Int)).1,a2,(cond (decide (g<(y.Ad.length:Int))) _ _:Int×List Int×List (List Int)).2.2);cases decide (g<(y.Ad.length:Int)) with
      |false=>exact⟨false,w,rfl⟩
      |true=>exact Nz y e hK os g w aG p
    have main:∀z9:Int,z9=(G2 y (Dl DN y o):Int)→∃(d:Bool) (a2:BK),
        (((cond (decide (n<z9)) ((E6 K o).bind fun aA=>some ((decide (z9<(y.Ad.length:Int)),z9,b,aA))) (some ((decide (n<(y.Ad.length:Int)),n,b,q))):Option (Bool×Int×BK×List (List Int))).bind fun r=>some (r.1,(r.2.1,r.2.2.1,r.2.2.2))).bind fun r=>cond r.1 (run (fun(st:Int×BK×(List (List Int))) (x:(List (List Int)))=>(EC K x y st.1 st.2.1 st.2.2).bind fun r=>some (r.1,(r.2.1,r.2.2.1,r.2.2.2))) os r.2) (some (false,r.2)))=
        some (d,(let s2:=if n<(G2 y (Dl DN y o):Int) then ((G2 y (Dl DN y o):Int),Dl DN y o,o) else (n,Dl DN y o,q)
       cond (decide (s2.1<(y.Ad.length:Int))) (HP y os s2) s2).1,a2,(let s2:=if n<(G2 y (Dl DN y o):Int) then ((G2 y (Dl DN y o):Int),Dl DN y o,o) else (n,Dl DN y o,q)
       cond (decide (s2.1<(y.Ad.length:Int))) (HP y os s2) s2).2.2):=by
      rintro z9 rfl
      by_cases j:n<(G2 y (Dl DN y o):Int)
      · rw[ct (dt j),bd (Nw o aD aE hK)];simp only[if_pos j];exact c ((G2 y (Dl DN y o):Int),b,o) ((G2 y (Dl DN y o):Int),Dl DN y o,o) (by show(_,b.l,o)=_;rw[k])
      · rw[cf (df j)];simp only[if_neg j];exact c (n,b,q) (n,Dl DN y o,q) (by show(_,b.l,q)=_;rw[k])
    rw[run,HP];show∃(d:Bool) (a2:BK),Option.bind ((EC K o y n a q).bind _) _=_;unfold EC;rw[bd u]
    by_cases m:0≤n
    · rw[ct (dt m),dt m,Bool.true_and];have aB:([b.a0,b.a1,b.a2,b.a3]==[a.a0,a.a1,a.a2,a.a3])=(Dl DN y o==a.l):=by rw[←k];rfl
      rw[aB];cases j:(Dl DN y o==a.l) with
      |true=>
        rw[ct rfl,ct rfl];exact Nz y e hK os n a q p
      |false=>
        rw[cf rfl,cf rfl,bd h9];exact main _ rfl
    · rw[cf (df m),df m,Bool.false_and,cf rfl,bd f];exact main _ rfl
theorem Tq{K:Nat}(y:Ar)(hK:2000≤K):GS K y=some (if check y≠0 then ([],0,check y) else ((LH y).2.2,(LH y).1,0)):=by
 unfold GS;rw[bd (HE hK y)]
 by_cases h:check y=0
 ·rw[h,cf (by decide),if_neg (by simp)];have a:=GM h;rw[Nv _ y a hK];obtain⟨b,a2,e⟩:=Nz (K:=K) y a hK (Gy y) (-1) ⟨0,0,0,0⟩ [] fun o c=>Ii a c;exact Eq.trans (congrArg (fun z=>Option.bind (Option.bind z _) _) e) rfl
 ·rw[ct (by simpa using h),if_pos h]
end Go.Proofs.YtkljfdkmjdjpfaaGreat
end
section
namespace Go.Proofs.YtkljfdkmjdjpfaaGreat
def G5(n i k:Nat):List Int:=((List.range' k (n-k)).filter fun j=>j !=i).map fun j:Nat=>(j:Int)
def Gz (y:Ar) (i:Nat):List (List Int):=((i:Int)::G5 y.Ad.length i 0)::List.replicate (y.An.toNat-1) []
theorem Ts{α:Type}(x:α)(r:List α):idx (x::r) (0:Int)=some x:=idx_eq (xs:=x::r) (k:=0) (by simp)
theorem Uz(n i:Nat)(f:n≤4):∀(d m k:Nat) (x:List Int) (r:List (List Int)),n=k+d→d<m→x.length≤1+k→
  I2 (n:Int) (i:Int) m (k:Int) (x::r)=some ((x++G5 n i k)::r):=by
 intro d
 induction d with
 |zero=>
  intro m k x r h hm e;cases m with
  |zero=>omega
  |succ m=>
   rw[I2,cf (df (by omega))];unfold G5;rw[show n-k=0 by omega];simp
 |succ d ih=>
  intro m k x r h hm e;cases m with
  |zero=>omega
  |succ m=>
   have b:idx (x::r) (0:Int)=some x:=Ts x r;have c:G5 n i k=cond (k !=i) ((k:Int)::G5 n i (k+1)) (G5 n i (k+1)):=by
    unfold G5;rw[show n-k=(n-(k+1))+1 by omega,List.range'_succ,List.filter_cons];cases g:(k !=i) with
    |true=>rfl
    |false=>rfl
   rw[I2,ct (dt (by omega))]
   by_cases a:k=i
   ·have:((k:Int) !=(i:Int))=false:=by rw[a];exact bne_self_eq_false ..
    rw[this,cf rfl,BB (by omega) (by omega),C0,ih m (k+1) x r (by omega) (by omega) (by omega),c,show(k !=i)=false by rw[a];exact bne_self_eq_false ..];rfl
   ·have:((k:Int) !=(i:Int))=true:=by rw[bne_iff_ne];omega
    rw[this,ct rfl,bd b,FK (by simp;omega),bd b,BB (by omega) (by omega),C0];show I2 _ _ m _ ((x++[(k:Int)])::r)=_;rw[ih m (k+1) (x++[(k:Int)]) r (by omega) (by omega) (by simp;omega),c,show(k !=i)=true by rw[bne_iff_ne];exact a];simp
theorem P2{y:Ar}(b:FW y){i:Nat}(hi:i<y.Ad.length):DQ y (Gz y i)=true:=by
 have c:=b.r1;rw[EO];refine⟨by unfold Gz;simp;omega,?_⟩;have e:(Gz y i).flatten=(i:Int)::G5 y.Ad.length i 0:=by
  unfold Gz;rw[List.flatten_cons];have:(List.replicate (y.An.toNat-1) ([]:List Int)).flatten=[]:=by
   simp
  rw[this,List.append_nil]
 rw[e];unfold G5 iota;rw[←List.range_eq_range',Nat.sub_zero];have:((i:Int)::((List.range y.Ad.length).filter fun j=>j !=i).map fun j:Nat=>(j:Int))=(i::((List.range y.Ad.length).filter fun j=>j !=i)).map fun j:Nat=>(j:Int):=rfl;rw[this];refine List.Perm.map _ ?_;have hm:i∈List.range y.Ad.length:=List.mem_range.2 hi;have a:=List.perm_cons_erase hm;rw[List.Nodup.erase_eq_filter List.nodup_range] at a;exact a.symm
def Gf(y:Ar)(k d:Nat):List Int:=((List.range' k d).filter fun i=> !(Cs y).all (Ko y (Gz y i) i)).map fun i:Nat=>(i:Int)
theorem Ph{K:Nat}(y:Ar)(c:FW y)(hK:2000≤K):∀(d m i:Nat) (a:List Int),y.Ad.length=i+d→d<m→a.length≤i→
  DT K y m a (i:Int)=some (a++Gf y i d):=by
 have g:=c.n4;have s:=c.r1;have t:=c.r2;intro d
 induction d with
 |zero=>
  intro m i a h hm j;cases m with
  |zero=>omega
  |succ m=>rw[DT.eq_2,cf (df (by omega))];simp[Gf]
 |succ d ih=>
  intro m i a h hm j;cases m with
  |zero=>omega
  |succ m=>
   have hi:i<y.Ad.length:=by omega
   have k:=P2 c hi;obtain⟨b,n,o⟩:=L7 (K:=K) Gx y c (Gz y i) k hK;have e:Cy K (fun(st:Unit) (x:Bb×Ag)=>(C8 K x.1 x.2).bind fun r=>some (r,())) y (Gz y i) ()=some (b,((Cs y).length:Int),()):=by
    rw[←n];congr 1;funext st x;rw[bd (L3 ..)]
   have er:List.replicate y.An.toNat ([]:List Int)=[]::List.replicate (y.An.toNat-1) []:=by
    rw[←List.replicate_succ];congr 1;omega
   have f:=Uz y.Ad.length i g y.Ad.length K 0 [(i:Int)] (List.replicate (y.An.toNat-1) []) (by omega) (by omega) (by simp);rw[DT.eq_2,ct (dt (by omega)),Ol (by omega) (by omega) (by omega),er];rw[bd (show idx (([]:List Int)::List.replicate (y.An.toNat-1) []) (0:Int)=some [] from Ts _ _)];rw[Int.natCast_zero] at f;show(I2 _ _ K (0:Int) ([(i:Int)]::List.replicate (y.An.toNat-1) [])).bind _=_;rw[bd f];show(Cy K _ y (Gz y i) ()).bind _=_;rw[bd e,bd (MO b i (by omega))];have p:((b.l.getD i 0)==((Cs y).length:Int))=(Cs y).all (Ko y (Gz y i) i):=by
    rw[o,LD Gx y c (Gz y i) i hi,MA];rfl
   show cond ((b.l.getD i 0)==((Cs y).length:Int)) _ _=_;rw[p];have q:Gf y i (d+1)=cond ((Cs y).all (Ko y (Gz y i) i)) (Gf y (i+1) d) ((i:Int)::Gf y (i+1) d):=by
    unfold Gf;rw[List.range'_succ,List.filter_cons];cases (Cs y).all (Ko y (Gz y i) i)<;>rfl
   rw[q];cases (Cs y).all (Ko y (Gz y i) i) with
   |true=>
    rw[ct rfl,BB (by omega) (by omega),C0,ih m (i+1) a (by omega) (by omega) (by omega)];rfl
   |false=>
    rw[cf rfl,FK (by simp;omega),BB (by omega) (by omega),C0,ih m (i+1) (a++[(i:Int)]) (by omega) (by omega) (by simp;omega)];simp
theorem Pj{K:Nat}(y:Ar)(hK:2000≤K):FG K y=some (if check y≠0 then ([],check y) else (Gf y 0 y.Ad.length,0)):=by
 unfold FG;rw[bd (HE hK y)]
 by_cases h:check y=0
 ·rw[h,if_neg (by simp)];have e:=Ph (K:=K) y (GM h) hK y.Ad.length K 0 [] (by omega) (by have:=(GM h).n4;omega) (by simp);rw[Int.natCast_zero] at e;show cond false _ _=_;rw[cf rfl,bd e,List.nil_append]
 ·rw[ct (by simpa using h),if_pos h]
end Go.Proofs.YtkljfdkmjdjpfaaGreat
end
