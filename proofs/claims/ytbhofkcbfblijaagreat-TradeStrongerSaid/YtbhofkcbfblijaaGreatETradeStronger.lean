import Derived.Test.YtbhofkcbfblijaaGreatCF6
import Derived.WalkKit
import Derived.KernelRfl
import Derived.WalkSpells
import Derived.WalkLawsBesides
import Derived.Maps.AppendAt
import Derived.OrdersIn
import Derived.RangeFuncIn
import Derived.RangeFuncLeaves
import Derived.RangeFuncRecord
import Derived.RangeFuncSeq
import Derived.Scope
import Derived.DeepKeys3
import Derived.Laws.CopyRow
import Derived.Laws.OwnMore
import Derived.Laws.MakeOwn
import Derived.Laws.IdiomCopy
import Derived.Sort.OwnSortedInts
import Derived.Lib.RowBridge
import Derived.Shelf.Sort.Plain
import Derived.Ground.Names2Prog
import Derived.Shelf.Slices.Clone
import Derived.Shelf.Slices.CompactI
import Derived.Shelf.Slices.In.SortNone
import Derived.Ground.SlgnProg
import Derived.Shelf.SlicesE.Clone
import Derived.ProofKit
import Derived.ChangeSame
import Derived.SizedLaws
import Derived.Deep.Slices
import Derived.JoinedOf
import Derived.Test.YtbhofkcbfblijaaGreatProg
import Derived.Test.YtbhofkcbfblijaaGreatRows
/-
  What the law TradeStronger needs beside the base that several claims of this seat share: contracts, and the plain law.
-/
set_option linter.all false
section
namespace Go.Proofs.YtbhofkcbfblijaaGreat
open Go.RowKit
section
variable{P:Program}{a:Act}{w:World}{dst:Option Tmp}{ty:TypeId}{pos:String}{EA:Array Edge}{g:Option (Nat×Bool)}
theorem Hw{x y:Operand}{k:IntKind}{m n:Int}{t b:TypeId}(hx:a.eval x=.int k m)(c:a.eval y=.int k n)(h0:0≤m)(h1:1≤n):Eo P ⟨dst,.binOp .rem t x y b,ty,pos,EA,g⟩ a w (fun u w'=>u=.int k (m%n)∧w'=w):=
 DS (by
  have e:m.tmod n=m%n:=Int.tmod_eq_emod_of_nonneg h0;have hn:¬n=0:=by omega
  simp[execOp,hx,c,eqGuard,binOp,Op.intDiv,hn,e])
end
section
variable{α:Type}{e:J7 α}{t:TypeId}{F F':Nat→Prop}{B L M:List (Option Nat)}{n0 n1:Nat}{w0 w w':World}{Z Z':Nat→Prop}{A:Option Addr}{c:Nat}{xs:List α}
theorem Hp.Ag9(h:Hp F B w0 L w){a:Nat}(hs:w.heap.size≤a)(hr:Ca e t a w' (ZZ FN [] (ZZ F B Z w0.heap.size L) a [ob A]) A c xs):Ca e t w0.heap.size w' (ZZ F B Z w0.heap.size (ob A::L)) A c xs:=
 (hr.base (n1:=w0.heap.size) fun k hk=>Nat.le_trans h.sz (Nat.le_trans hs (hr.ge k hk))).up (h.call hs (fun k hk=>by
  rw[List.mem_singleton] at hk;exact .inr (hr.ge k hk.symm)) fun x hx=>by
  rcases List.mem_cons.1 hx with e|hx
  ·exact .inr (by rw[e];exact List.mem_singleton_self _)
  ·exact .inl hx)
end
def rem(a b:Int):Option Int:=if 0≤a∧1≤b then some (a%b) else none
theorem IA{a b y:Int}(h:rem a b=some y):y=a%b∧0≤a∧1≤b:=by
 unfold rem at h;split at h
 ·exact⟨(Option.some.inj h).symm,by assumption⟩
 ·cases h
theorem Fs{α:Type}{a b:Int}{f:Int→Option α}{r:α}(h:(rem a b).bind f=some r):(0≤a∧1≤b)∧f (a%b)=some r:=by
 obtain⟨y,h1,h2⟩:=Option.bind_eq_some_iff.1 h;obtain⟨rfl,c⟩:=IA h1;exact⟨c,h2⟩
end Go.Proofs.YtbhofkcbfblijaaGreat
end
section
namespace Go.Proofs.YtbhofkcbfblijaaGreat
open Go.RowKit Go.WideShapes
def Ch(g:Nat)(h:AU):Nat→Int→(List Int)→Int→Option ((List Int))
 |0,_,_,_=>none
 |i+1,a,c,b=>cond (decide (b<(h.Au.length:Int))) ((idx h.Au b).bind fun e=>(FE g e).bind fun d=>(rem a d).bind fun _=>(i64 (e.Lo+(a%d))).bind fun _=>(EX (((c.length+[e.Lo+(a%d)].length:Nat):Int)≤140737488355328/8)).bind fun _=>(FE g e).bind fun f=>(quo a f).bind fun _=>(i64 (a/f)).bind fun _=>(i64 (b+1)).bind fun _=>Ch g h i (a/f) (c++[e.Lo+(a%d)]) (b+1)) (some (c))
def Dg(a:Nat)(b:AU)(c:Int):Option ((List Int)):=
 (Ch a b a c ([]:List Int) (0:Int)).bind fun z2=>some (z2)
def CL(b:Nat)(a:List Int):Option ((List Int)):=
 (EX (((([]:List Int).length+a.length:Nat):Int)≤140737488355328/8)).bind fun _=>some (([]:List Int)++a)
def B7(a:Nat)(b:Aq):Option (Bool):=
 (Gp a b).bind fun c=>cond (c) ((Gg a b).bind fun d=>some (d==0)) (some (false))
end Go.Proofs.YtbhofkcbfblijaaGreat
end
section
namespace Go.Proofs.YtbhofkcbfblijaaGreat
theorem IQ{β:Type}{a b:Int}{f:Int→Option β}(h0:0≤a)(h1:1≤b):(rem a b).bind f=f (a%b):=bd (if_pos ⟨h0,h1⟩)
theorem O1{β:Type}{n:Nat}{a b:Int}{f:Unit→Option β}(h:0≤a∧a≤b∧b≤(n:Int)):(Ot n a b).bind f=f ():=bd (if_pos h)
theorem Ig:∀(l:List AR) (s:Int),(∀r∈l,E7 r)→1≤s→1≤l.foldl (fun n r=>n*BQ r) s
 |[],s,_,hs=>hs
 |r::l,s,h,hs=>by
  have hr:=Ed (h r (List.mem_cons_self ..));rw[List.foldl_cons];refine Ig l _ (fun y a=>h y (List.mem_cons_of_mem _ a)) ?_;have h2:s*1≤s*BQ r:=Int.mul_le_mul_of_nonneg_left hr.1 (by omega);omega
section
variable{K:Nat}(hK:1000≤K)
include hK
end
def Er:List AR→Int→List Int
 |[],_=>[]
 |r::rs,n=>(r.Lo+n%BQ r)::Er rs (n/BQ r)
namespace OkC
variable{c:AU}(h:OkC c)
include h
end OkC
theorem VU:∀{rs:List AR} {n:Int},(∀r∈rs,E7 r)→0≤n→Dn rs (Er rs n)=true
 |[],_,_,_=>rfl
 |r::rs,n,h,hn=>by
  have h1:=h r (List.mem_cons_self ..);have h2:=Ed h1;have a:=Int.emod_nonneg n (by omega:BQ r≠0);have b:=Int.emod_lt_of_pos n (by omega:0<BQ r);rw[Er,Dn,VU (fun r hr=>h r (List.mem_cons_of_mem _ hr)) (Int.ediv_nonneg hn (by omega)),Bool.and_true,DB];unfold BQ at b⊢;unfold BQ at a;omega
def BB (c:AU):List (List Int):=((List.range (Ds c.Au).toNat).map fun n:Nat=>Er c.Au (n:Int)).filter (BC c)
section
variable{K:Nat}(hK:1000≤K)
include hK
end
section
variable{K:Nat}(hK:1000≤K)
include hK
theorem Mk{c:AU}(hl:c.Au.length≤100)(a:∀r∈c.Au,E7 r):∀(d m i:Nat) (n:Int) (out:List Int),c.Au.length=i+d→d<m→0≤n∧n≤5000→out.length≤i→
  Ch K c m n out (i:Int)=some (out++Er (c.Au.drop i) n)
 |d,0,i,n,out,h,hm,_,_=>by omega
 |0,m+1,i,n,out,h,hm,_,_=>by
  rw[Ch.eq_2,cf (df (by omega)),List.drop_eq_nil_of_le (by omega:c.Au.length≤i),Er,List.append_nil]
 |d+1,m+1,i,n,out,h,hm,hn,b=>by
  have hi:i<c.Au.length:=by omega
  have h1:=a _ (List.getElem_mem hi);have h2:=Ed h1;have e:=Int.emod_nonneg n (by omega:BQ c.Au[i]≠0);have f:=Int.emod_lt_of_pos n (by omega:0<BQ c.Au[i]);have h5:0≤n/BQ c.Au[i]:=Int.ediv_nonneg hn.1 (by omega);have g:n/BQ c.Au[i]≤n:=Int.ediv_le_self _ hn.1;have j:0≤c.Au[i].Lo∧c.Au[i].Lo≤100:=by unfold E7 at h1;omega
  rw[Ch.eq_2,ct (dt (by omega)),BO hi,bd (Ji K h1),IQ hn.1 h2.1,Be (by omega) (by omega),DE (by simp;omega),bd (Ji K h1),Ps hn.1 h2.1,Be (by omega) (by omega),Be (by omega) (by omega),CK i,
   Mk hl a d m (i+1) _ _ (by omega) (by omega) (by omega) (by simp;omega),List.drop_eq_getElem_cons hi,Er,List.append_assoc]
  rfl
theorem N8{c:AU}(hl:c.Au.length≤100)(a:∀r∈c.Au,E7 r){n:Int}(hn:0≤n∧n≤5000):Dg K c n=some (Er c.Au n):=by
 unfold Dg;have:=Mk hK hl a c.Au.length K 0 n [] (by omega) (by omega) hn (by simp);rw[Int.natCast_zero,List.drop_zero,List.nil_append] at this;rw[bd this]
theorem Kk{c:AU}(a:OkC c):E5 K c=some (Ds c.Au):=by
 have:=a.hl;have:=a.many;rw[QK hK c (by omega) a.ok,Int.min_eq_right (by omega)]
theorem LY{c:AU}(a:OkC c):1≤Ds c.Au:=Ig c.Au 1 a.ok (by omega)
end
section
variable{K:Nat}(hK:1000≤K)
include hK
end
def Bs(t:Aq):List (List Int):=(BB t.C).filter fun l=>Bp (AA t l) [] 0 t.Ak
section
variable{K:Nat}(hK:1000≤K)
include hK
end
section
variable{K:Nat}(hK:1000≤K)
include hK
theorem Kg(l:List Int)(hl:l.length≤1000):CL K l=some l:=Pk hK l hl
theorem Mc(t:Aq):B7 K t=some (DX t&&decide (CX t=0)):=by
 unfold B7;rw[bd (OU hK t)];cases h:DX t with
 |false=>rw[cf rfl,Bool.false_and]
 |true=>
  rw[ct rfl,bd (LL hK t (Fj h)),Bool.true_and];try rfl
end
section
variable{K:Nat}(hK:1000≤K)
include hK
end
def Bm (s:Nat):List Int:=((List.range 8).filter fun x=>s.testBit x).map fun x:Nat=>(x:Int)
def lexB:List Int→List Int→Bool
 |a::c,b::d=>if a=b then lexB c d else decide (a<b)
 |[],_::_=>true
 |_,[]=>false
def sh (a b:List Int):Bool:=decide (a.length<b.length)||(a.length==b.length&&lexB a b)
theorem Ez:∀a b:List Int,lexB a b=false→lexB b a=false→a=b
 |[],[],_,_=>rfl
 |[],b::c,h,_=>by cases h
 |a::d,[],_,h=>by cases h
 |a::d,b::c,h,g=>by
  rw[lexB] at h g
  by_cases e:a=b
  ·rw[if_pos e] at h;rw[if_pos e.symm] at g;rw[e,Ez d c h g]
  ·rw[if_neg e,decide_eq_false_iff_not] at h;rw[if_neg (Ne.symm e),decide_eq_false_iff_not] at g;omega
theorem ET{a b:List Int}:sh a b=true↔a.length<b.length∨(a.length=b.length∧lexB a b=true):=by simp[sh]
theorem Ks{a b:List Int}(h:sh a b=false)(g:sh b a=false):a=b:=by
 rw[Bool.eq_false_iff] at h g;have h1:a.length=b.length:=by
  refine Decidable.byContradiction fun e=>?_;rcases Nat.lt_or_gt_of_ne e with e|e
  ·exact h (ET.2 (.inl e))
  ·exact g (ET.2 (.inl e))
 refine Ez a b ?_ ?_
 ·rw[Bool.eq_false_iff];exact fun e=>h (ET.2 (.inr ⟨h1,e⟩))
 ·rw[Bool.eq_false_iff];exact fun e=>g (ET.2 (.inr ⟨h1.symm,e⟩))
theorem Gk{s:Nat}{r:Int}:r∈Bm s↔∃x:Nat,x<8∧s.testBit x=true∧r=x:=by
 unfold Bm;simp only[List.mem_map,List.mem_filter,List.mem_range];constructor
 ·rintro⟨x,⟨h1,h2⟩,rfl⟩;exact⟨x,h1,h2,rfl⟩
 ·rintro⟨x,h1,h2,rfl⟩;exact⟨x,⟨h1,h2⟩,rfl⟩
theorem Js{s x k:Nat}(hs:s<2^k)(h:s.testBit x=true):x<k:=by
 refine Decidable.byContradiction fun hx=>?_;rw[Nat.testBit_lt_two_pow (Nat.lt_of_lt_of_le hs (Nat.pow_le_pow_right (by omega) (by omega)))] at h;cases h
theorem GB(s:Nat):(Bm s).Pairwise (· <·):=by
 unfold Bm;rw[List.pairwise_map];have h:(List.range 8).Pairwise (fun a b:Nat=>a<b):=List.pairwise_lt_range;exact(h.sublist (List.filter_sublist)).imp fun h=>by omega
def Dh(n:Int):Int→List Int→Bool
 |_,[]=>true
 |lo,x::l=>DR x lo (n-1)&&Dh n (x+1) l
theorem Hb{n:Int}:∀{l:List Int} {lo:Int},lo≤n→Dh n lo l=true→(l.length:Int)≤n-lo
 |[],_,h0,_=>by simp;omega
 |y::l,lo,h0,h=>by
  rw[Dh,Bool.and_eq_true,DB] at h;have:=Hb (by omega) h.2;rw[List.length_cons];omega
theorem HT{n:Nat}:∀{l:List Int} {lo:Int},l.Pairwise (· <·)→(∀x∈l,lo≤x∧x<(n:Int))→Dh n lo l=true
 |[],_,_,_=>rfl
 |x::l,lo,h,hm=>by
  have hx:=hm x (List.mem_cons_self ..);rw[List.pairwise_cons] at h;rw[Dh,Bool.and_eq_true,DB];exact⟨by omega,HT h.2 fun y a=>⟨by have:=h.1 y a;omega,(hm y (List.mem_cons_of_mem _ a)).2⟩⟩
theorem GS{n s:Nat}(hs:s<2^n):Dh n 0 (Bm s)=true:=by
 refine HT (GB s) fun x hx=>?_;obtain⟨y,_,hb,rfl⟩:=Gk.1 hx;have:=Js hs hb;omega
section
variable{K:Nat}(hK:1000≤K)
include hK
end
structure EK (n:Nat) (p:List Int→Bool) (x:List Int):Prop where
 is:∃s,s<2^n∧Bm s=x
 ok:p x=true
 least:∀s,s<2^n→p (Bm s)=true→sh (Bm s) x=false
theorem EK.uniq{n:Nat}{p:List Int→Bool}{x y:List Int}(h:EK n p x)(g:EK n p y):x=y:=by
 obtain⟨s,hs,rfl⟩:=h.is;obtain⟨s',a,rfl⟩:=g.is;exact Ks (g.least s hs h.ok) (h.least s' a g.ok)
theorem EK.Px{n:Nat}{p:List Int→Bool}{x:List Int}(h:EK n p x):Dh n 0 x=true:=by
 obtain⟨s,hs,rfl⟩:=h.is;exact GS hs
theorem EK.len{n:Nat}{p:List Int→Bool}{x:List Int}(h:EK n p x):x.length≤n:=by
 have:=Hb (by omega) h.Px;omega
section
variable{K:Nat}(hK:1000≤K)
include hK
end
structure DC {α:Type} (S:List α) (f:α→Int) (r:AR):Prop where
 lo:∃l∈S,f l=r.Lo
 hi:∃l∈S,f l=r.Hi
 all:∀l∈S,r.Lo≤f l∧f l≤r.Hi
theorem Jh{r s:AR}(h:r.Lo=s.Lo)(g:r.Hi=s.Hi):r=s:=by cases r;cases s;simp at h g;rw[h,g]
theorem DC.uniq{α:Type}{S:List α}{f:α→Int}{r s:AR}(h:DC S f r)(g:DC S f s):r=s:=by
 obtain⟨a,ha,ea⟩:=h.lo;obtain⟨b,hb,j⟩:=g.lo;obtain⟨c,e,ec⟩:=h.hi;obtain⟨d,i,k⟩:=g.hi;have h1:=g.all a ha;have h2:=h.all b hb;have l:=g.all c e;have m:=h.all d i;exact Jh (by omega) (by omega)
theorem DC.map{α β:Type}{X:List α}{f:α→Int}{S:List β}{g:β→Int}{r:AR}(h:DC X f r)(h1:∀x∈X,∃l∈S,g l=f x)(h2:∀l∈S,∃x∈X,f x=g l):DC S g r:=by
 obtain⟨a,ha,ea⟩:=h.lo;obtain⟨c,i,ec⟩:=h.hi;obtain⟨a',b,k⟩:=h1 a ha;obtain⟨j,d,m⟩:=h1 c i;refine⟨⟨a',b,by omega⟩,⟨j,d,by omega⟩,fun l hl=>?_⟩;obtain⟨x,hx,e⟩:=h2 l hl;have:=h.all x hx;omega
theorem DC.snoc{α:Type}{S:List α}{f:α→Int}{r:AR}(h:DC S f r)(x:α):DC (S++[x]) f ⟨min r.Lo (f x),max r.Hi (f x)⟩:=by
 obtain⟨a,ha,ea⟩:=h.lo;obtain⟨c,b,ec⟩:=h.hi;refine⟨?_,?_,fun l hl=>?_⟩
 ·by_cases hh:r.Lo≤f x
  ·exact⟨a,by simp[ha],by simp only;omega⟩
  ·exact⟨x,by simp,by simp only;omega⟩
 ·by_cases hh:f x≤r.Hi
  ·exact⟨c,by simp[b],by simp only;omega⟩
  ·exact⟨x,by simp,by simp only;omega⟩
 ·simp only;rcases List.mem_append.1 hl with hl|hl
  ·have:=h.all l hl;omega
  ·rw[List.mem_singleton.1 hl];omega
theorem DC.one{α:Type}(f:α→Int)(x:α):DC [x] f ⟨f x,f x⟩:=⟨⟨x,by simp,rfl⟩,⟨x,by simp,rfl⟩,fun l hl=>by rw[List.mem_singleton.1 hl];simp⟩
section
variable{K:Nat}(hK:1000≤K)
include hK
end
structure FX (W:List Int→Int) (n:Nat) (s:List Int):Prop where
 is:∃b,b<2^n∧Bm b=s
 J4:∀x,x<2^n→W (Bm x)<W s∨(W (Bm x)=W s∧lexB (Bm x) s=false)
theorem FX.uniq{W:List Int→Int}{n:Nat}{s s':List Int}(h:FX W n s)(g:FX W n s'):s=s':=by
 obtain⟨b,hb,rfl⟩:=h.is;obtain⟨b',a,rfl⟩:=g.is;have h1:=h.J4 b' a;have h2:=g.J4 b hb;rcases h1 with h1|⟨h1,c⟩<;>rcases h2 with h2|⟨h2,d⟩
 ·omega
 ·omega
 ·omega
 ·exact Ez _ _ d c
section
variable{K:Nat}(hK:1000≤K)
include hK
end
def EH(t:Aq)(o:Da):Int:=(t.Ao.getD o.EC.toNat ⟨0,0⟩).B6
def GD (t:Aq) (o:Da) (k:Nat):Bool:=decide (o.ER≤(t.Aa.getD k []).sum)&&(Bs t).all fun l=>decide (EH t o≤CU l (t.Aa.getD k []))
def FR(t:Aq)(o:Da):List Int:=((List.range t.Aa.length).filter (GD t o)).map fun k:Nat=>(k:Int)
def DP(t:Aq):List (List Int):=t.Am.map (FR t)
def DA:List (List Int)→List Int→List Int→Bool
 |[],_,[]=>true
 |s::S,out,x::xs=>s.contains x&&(!out.contains x&&DA S (out++[x]) xs)
 |_,_,_=>false
structure Gv (t:Aq) (d:List Int):Prop where
 is:DA (DP t) [] d=true
 first:∀d',DA (DP t) [] d'=true→lexB d' d=false
theorem Gv.uniq{t:Aq}{d d':List Int}(h:Gv t d)(g:Gv t d'):d=d':=Ez _ _ (g.first d h.is) (h.first d' g.is)
section
variable{K:Nat}(hK:1000≤K)
include hK
end
def Fg (t:Aq) (out:List Int):Bool:=(BB t.C).any fun l=>Bp (AA t l) out 0 t.Ak
def Dj(t:Aq)(ns:List CA):Aq:=⟨t.Af,t.Aa,t.Ag,t.Flat,t.Ao,t.Am,ns⟩
def FZ (t:Aq) (k:Nat):Bool:=Fg (Dj t (t.Ak.take k)) []
theorem F4(M:List Int)(ns:List CA):Bp M [] 0 ns=true↔∀n∈ns,Eg M n=true:=by
 rw[Hv];constructor
 ·intro h n hn;obtain⟨j,hj,rfl⟩:=List.getElem_of_mem hn;rcases h j hj with h1|h1
  ·simp at h1
  ·exact h1
 ·intro h j hj;exact .inr (h _ (List.getElem_mem hj))
theorem Gw{t:Aq}{j k:Nat}(h:j≤k)(hk:FZ t k=true):FZ t j=true:=by
 unfold FZ Fg at hk⊢;rw[List.any_eq_true] at hk⊢;obtain⟨l,hl,hr⟩:=hk;refine⟨l,hl,?_⟩;have a:AA (Dj t (t.Ak.take k)) l=AA t l:=rfl;have b:AA (Dj t (t.Ak.take j)) l=AA t l:=rfl;have c:(Dj t (t.Ak.take k)).Ak=t.Ak.take k:=rfl;have d:(Dj t (t.Ak.take j)).Ak=t.Ak.take j:=rfl;rw[a,c,F4] at hr;rw[b,d,F4];exact fun n hn=>hr n (List.take_subset_take_left _ h hn)
structure Gf (t:Aq) (i:Nat):Prop where
 lt:i<t.Ak.length
 before:FZ t i=true
 not:FZ t (i+1)=false
theorem Gf.uniq{t:Aq}{i j:Nat}(h:Gf t i)(g:Gf t j):i=j:=by
 rcases Nat.lt_trichotomy i j with h1|h1|h1
 ·have:=Gw (show i+1≤j by omega) g.before;rw[h.not] at this;cases this
 ·exact h1
 ·have:=Gw (show j+1≤i by omega) h.before;rw[g.not] at this;cases this
section
variable{K:Nat}(hK:1000≤K)
include hK
end
theorem Uq{M:List Int}(h:M.length≤3):GJ [(arr M).a0,(arr M).a1,(arr M).a2] (0:Int) (M.length:Int)=M:=by
 match M,h with
 |[],_=>rfl
 |[_],_=>rfl
 |[_,_],_=>rfl
 |[_,_,_],_=>rfl
 |_::_::_::_::_,h=>simp at h
section
variable{K:Nat}(hK:1000≤K)
include hK
theorem Qx(rs:List AR)(l:List Int)(hh:rs.length≤100)(he:l.length=rs.length):∀(n m i:Nat),l.length=i+n→n<m→
  Hk K l rs m (i:Int)=some (cond (Dn (rs.drop i) (l.drop i)) (.inr ()) (.inl false))
 |n,0,i,h,hm=>by omega
 |0,m+1,i,h,hm=>by
  rw[Hk.eq_2,cf (df (by omega)),List.drop_eq_nil_of_le (by omega:l.length≤i),List.drop_eq_nil_of_le (by omega:rs.length≤i),Ql,ct rfl]
 |n+1,m+1,i,h,hm=>by
  have h1:i<l.length:=by omega
  have h2:i<rs.length:=by omega
  have e:D2 K rs[i] l[i]=some (DR l[i] rs[i].Lo rs[i].Hi):=by unfold D2;rw[bd (GU ..)]
  rw[Hk.eq_2,ct (dt (by omega)),BO h2,BO h1,bd e,List.drop_eq_getElem_cons h1,List.drop_eq_getElem_cons h2,Dn];cases DR l[i] rs[i].Lo rs[i].Hi with
  |false=>rw[nf,Bool.false_and,cf rfl]
  |true=>rw[nt,Be (by omega) (by omega),CK i,Bool.true_and,Qx rs l hh he n m (i+1) (by omega) (by omega)]
theorem S6(t:Aq)(l:List Int)(hh:t.Af.length≤100):J2 K t l=some (Dn t.Af l):=by
 unfold J2
 by_cases he:l.length=t.Af.length
 ·have:=Qx hK t.Af l hh he l.length K 0 (by omega) (by omega);rw[Int.natCast_zero,List.drop_zero,List.drop_zero] at this;rw[cf (EL (by omega)),bd (Nk hK t hh),bd this];cases Dn t.Af l<;>rfl
 ·rw[ct (FL (by omega)),XL hK he]
theorem VM{t:Aq}(h:DX t=true)(l:List Int):JW K t l=some (if CX t≠0 then ([],CX t) else if Dn t.Af l=true then (AA t l,0) else ([],2)):=by
 unfold JW;have hlen:=Fj h;rw[bd (Iq hK t hlen)]
 by_cases h0:CX t=0
 ·have a:=Ej h h0;have c:=a.kl;rw[cf (EL h0),if_neg (by simp[h0]),bd (S6 hK t l hlen.1.1)];cases hl:Dn t.Af l with
  |false=>rw[nf,if_neg (by simp)]
  |true=>
   obtain⟨m,_,g⟩:=Ms hK a [] (Kz t) l;have b:=Di t l;have e:GJ [(arr (AA t l)).a0,(arr (AA t l)).a1,(arr (AA t l)).a2] (0:Int) (t.Aa.length:Int)=AA t l:=by
    rw[←b];exact Uq (by omega)
   rw[nt,if_pos rfl,bd (NH hK a),bd (KA hK a hl),bd g,O1 (by simp;omega),e,DE (by omega)]
 ·rw[ct (FL h0),if_pos h0]
theorem UY{t:Aq}(h:DX t=true)(a:OkT t){l:List Int}(hl:Dn t.Af l=true):JW K t l=some (AA t l,0):=by
 rw[VM hK h l,if_neg (by simp[a.fault]),if_pos hl]
end
theorem Td{x:Int}(h0:-9223372036854775808≤x)(h1:x≤9223372036854775807):Fh .i64 x=some ():=by
 unfold Fh;have:IntKind.i64.wrap x=x:=G0 ⟨by omega,by omega⟩;rw[if_pos this]
theorem PS{β:Type}{x:Int}{f:Unit→Option β}(h0:0≤x)(h1:x<65536):(Fh .i64 x).bind f=f ():=bd (Td (by omega) (by omega))
section
variable{K:Nat}(hK:1000≤K)
include hK
theorem IF(t:Aq):(B7 K t=some false)∨(DX t=true∧OkT t∧B7 K t=some true):=by
 rw[Mc hK t];cases h:DX t with
 |false=>exact .inl rfl
 |true=>
  by_cases h0:CX t=0
  ·exact .inr ⟨rfl,Ej h h0,by rw[dt h0];rfl⟩
  ·exact .inl (by rw[df h0];rfl)
end
end Go.Proofs.YtbhofkcbfblijaaGreat
end
section
namespace Go.Proofs.YtbhofkcbfblijaaGreat
namespace HF
theorem HG:(Tryz.prog.info? 44).bind (·.zero)=some (.agg #[I 0,I 0]):=by kernel_rfl
theorem MU(b o:Nat)(w:World):(Instr.fieldAt 44 (.pointer (some ⟨b,o,none⟩)) 1).run Tryz.prog w=.ok (.pointer (some ⟨b,o+1,none⟩)) w:=by kernel_rfl
theorem N9:BG Tryz.prog 58:=by unfold BG;kernel_rfl
theorem SV:(Tryz.prog.underlying 27).isSome=true:=by kernel_rfl
theorem Qv:(Tryz.prog.underlying 5).isSome=true:=by kernel_rfl
theorem JN:BG Tryz.prog 51:=by unfold BG;kernel_rfl
theorem M7:BG Tryz.prog 48:=by unfold BG;kernel_rfl
end HF
end Go.Proofs.YtbhofkcbfblijaaGreat
end
section
namespace Go.Proofs.YtbhofkcbfblijaaGreat
open Go.RowKit Go.WideShapes
set_option maxRecDepth 20000
open HF
attribute [local irreducible] Eo WL CC CW LV CH Jx HO One BG
set_option maxHeartbeats 4000000 in
theorem Sr c4 a3 dP bA bB bH bI bJ bK(Z:Nat→Prop) w(dD:Sl AT w Z bA bB a3.Au)(dE:Sl (BY (AF .i64)) w Z bH bI a3.AS)(dF:Sl AX w Z bJ bK a3.Av) d4(aN:Dg c4 a3 dP=some d4):
 CH Tryz.prog 58 #[.agg #[.slice bA a3.Au.length bB,.slice bH a3.AS.length bI,.slice bJ a3.Av.length bK],I dP] w (fun v w'=>Ext w w'∧(GI (AF .i64)).R w' (zf Z w []) v d4):=by
 unfold Dg at aN;refine Bb (N:=35) Tryz.func58 rfl rfl (by simp) ?_;intro eT ha eU;have dQ:=AO (i:=0) ha rfl;have dR:=AO (i:=1) ha rfl;clear ha;have dN:Hp FN [] w [] w:=Hp.start (Co.none w);have cT:=dD.mv (Al (Z:=Z) (L:=[]) w);have cU:=dE.mv (Al (Z:=Z) (L:=[]) w);have cV:=dF.mv (Al (Z:=Z) (L:=[]) w);refine Ai<|Ae<|we rfl (fun st=>Cs (v:=.agg #[.slice bA a3.Au.length bB,.slice bH a3.AS.length bI,.slice bJ a3.Av.length bK]) (cs:= #[.slice bA a3.Au.length bB,.slice bH a3.AS.length bI,.slice bJ a3.Av.length bK]) (ee st dQ) rfl) ?_;rintro _ w1 ⟨b1,rfl,bV⟩;have d5:=dN.nb bV;have eN:=dN.Cz bV;refine wa rfl (v:=.slice none 0 0) rfl<|Aj<|Ad<|Ai<|Ae<|wa rfl (v:=.slice none 0 0) rfl<|Aj<|Ad<|Ai<|Ai<|Ae<|wa rfl (v:=I 0) rfl<|Aj<|Ad<|Bc ?_;have d6:=d5.nil;have d7:Ca (AF .i64) 3 w.heap.size w1 (zf Z w [none,some b1]) none 0 ([]:List Int):=Ca.nil _ _ _ _ _;replace aN:=bind_some aN;obtain⟨z2,bW,aN⟩:=aN;refine Cx (fun bS bE bD=>(bS=.exit 0∧∃aW a4,bE.tmps.size=35∧bE.defers=(X0).ds∧sl bE 5=.slice aW z2.length a4∧Hp FN [] w [ob aW,some b1] bD∧Ca (AF .i64) 3 w.heap.size bD (zf Z w [ob aW,some b1]) aW a4 z2)) ?d8 ?d9
 case d8=>
  clear aN;refine Cw (fun(dS:Nat) (bE:Act) (bD:World)=>∃aK,∃aX,∃a9,∃aP a2,Ch c4 a3 dS aK aX a9=some z2∧bE.tmps.size=35∧bE.defers=(X0).ds∧sl bE 1=I aK∧sl bE 2=pt b1 0∧sl bE 5=.slice aP aX.length a2∧sl bE 6=I a9∧Hp FN [] w [ob aP,some b1] bD∧Ca (AF .i64) 3 w.heap.size bD (zf Z w [ob aP,some b1]) aP a2 aX∧Bk bD b1 26 #[.slice bA a3.Au.length bB,.slice bH a3.AS.length bI,.slice bJ a3.Av.length bK]∧Sl AT bD (zf Z w [ob aP,some b1]) bA bB a3.Au∧Sl (BY (AF .i64)) bD (zf Z w [ob aP,some b1]) bH bI a3.AS∧Sl AX bD (zf Z w [ob aP,some b1]) bJ bK a3.Av) c4 ?eA ?eB
  case eA=>
   intro st;have dG:=bV.bk;have cW:=((cT.mv (An bV)).mv Ba);have cX:=((cU.mv (An bV)).mv Ba);have cY:=((cV.mv (An bV)).mv Ba);exact⟨dP,([]:List Int),(0:Int),none,0,bW,qz st,qd st,sp st 1 dR,sp st 2 rfl,sp st 5 rfl,sp st 6 rfl,d6,d7,dG,cW,cX,cY⟩
  case eB=>
   rintro(_|dS) eV eW ⟨aK,aX,a9,aP,a2,bW,dT,dU,cH,bY,cI,bZ,c5,bM,bN,bO,cD,cE⟩
   ·exact absurd (show none=some _ from bW) (by simp)
   rw[Ch.eq_2] at bW;have aN:=bW;clear bW;refine Cl (N:=35) dT dU<|Ai<|Ai<|Ae<|wm rfl (v:=I a9) bZ<|wd rfl (fun st=>Ap (ee st bY) (E2 _ _))<|wd rfl (fun st=>AL (v:=.slice bA a3.Au.length bB) FF (ee st rfl) bN rfl)<|wd rfl (fun st=>BD Tryz.underlying22 (ee st rfl))<|wd rfl (fun st=>CY (ee st rfl) (ee st rfl))<|Aj<|Ad ?_;rcases As (decide (a9<(a3.Au.length:Int))) with b6|b6
   ·replace aN:=AG aN b6;refine AJ rfl b6<|AQ<|Ad<|Ai<|Bc<|Ai<|Ae<|wd rfl (fun st=>Ap (ee st bY) (E2 _ _))<|wd rfl (fun st=>AL (v:=.slice bA a3.Au.length bB) FF (ee st rfl) bN rfl)<|wm rfl (v:=I a9) bZ ?_;replace aN:=Bi aN;obtain⟨i5,aT,eC,eD,eE,aN⟩:=aN;obtain⟨eY,eZ,_,eF,rfl,eG⟩:=Sl.elem bO (by decide) eD;refine wd rfl (fun st=>BZ (k:=i5) Tryz.underlying22 G7 (ee st rfl) eF (ee st rfl) eC eE)<|wd rfl (fun st=>EJ (l:=[I aT.Lo,I aT.Hi]) Gu (ee st rfl) eG rfl rfl)<|we rfl (fun st=>DQ (cs:= #[I 0,I 0]) HG rfl) ?_;rintro _ e0 ⟨b7,rfl,bF⟩;have bP:=c5.nb bF;have eO:=c5.Cz bF;refine Dv rfl rfl (fun st=>C4 (n:=2) (l:=[I aT.Lo,I aT.Hi]) (Fi:= #[I aT.Lo,I aT.Hi]) (ee st rfl) (ee st rfl) G7 bF.bk rfl rfl (show 0+2≤2 by decide) (Cq rfl) rfl) ?_;rintro _ dH bL;have eH:=bP.gr bL.gr 0 rfl;refine Aj<|Ad ?_;have b8:=eH.nil;have b4:=bL.bk;replace aN:=bind_some aN;obtain⟨aZ,dV,aN⟩:=aN;replace aN:=Fs aN;obtain⟨c6,aN⟩:=aN;replace aN:=AP aN;obtain⟨dW,aN⟩:=aN;have cZ:=(((bM.ext bF.gr (An bF)).gr bL.gr (fun k hk=>bP.ne 1 0 rfl (congrArg some hk) rfl) (bP.Bf bL.gr 0 rfl)).up Ba);replace aN:=Cu aN;obtain⟨c7,aN⟩:=aN;replace aN:=bind_some aN;obtain⟨bX,dX,aN⟩:=aN;replace aN:=J0 aN;obtain⟨c8,aN⟩:=aN;replace aN:=AP aN;obtain⟨dY,aN⟩:=aN;obtain⟨eR,aO⟩:∃e1:(Nat→Bool)→(Nat→Value)→World→Prop,e1=(fun D V bD=>∃(aH:Option Nat) (aI:Option Addr) (aJ:Nat) (q:Option Nat) (g:Option Addr) (r:Nat),Hp FN [] w [aH,some b7,q,some b1] bD∧DF (FU FN [ob aP]) dH bD∧(∀bT,Mv dH (ZZ FN [] bT w.heap.size [none,some b7,ob aP,some b1]) bD (ZZ FN [] bT w.heap.size [aH,some b7,q,some b1]))∧(∀a5,aH=some a5→dH.heap.size≤a5)∧(∀a5,q=some a5→ob aP=some a5∨dH.heap.size≤a5)∧(D 8=false→aH=none)∧(D 9=false→q=ob aP∧Ca (AF .i64) 3 w.heap.size bD (zf Z w [aH,some b7,q,some b1]) aP a2 aX)∧(D 0=true→V 0=.slice aP aX.length a2)∧(D 1=true→V 1=pt b7 0)∧(D 2=true→V 2=I aT.Lo)∧(D 3=true→V 3=I aK)∧(D 4=true→V 4=.agg #[I aT.Lo,I aT.Hi])∧(D 5=true→V 5=I aZ)∧(D 6=true→V 6=I (aK%aZ))∧(D 7=true→V 7=I (aT.Lo+(aK%aZ)))∧(D 8=true→V 8=.slice aI (([aT.Lo+(aK%aZ)]).length) aJ∧aH=ob aI∧Ca (AF .i64) 3 w.heap.size bD (zf Z w [aH,some b7,q,some b1]) aI aJ [aT.Lo+(aK%aZ)])∧(D 9=true→V 9=.slice g ((aX++[aT.Lo+(aK%aZ)]).length) r∧q=ob g∧Ca (AF .i64) 3 w.heap.size bD (zf Z w [aH,some b7,q,some b1]) g r (aX++[aT.Lo+(aK%aZ)]))∧(D 10=true→V 10=I aK)∧(D 11=true→V 11=.agg #[I aT.Lo,I aT.Hi])∧(D 12=true→V 12=I bX)∧(D 13=true→V 13=I (aK/bX))∧(D 14=true→V 14=.slice g ((aX++[aT.Lo+(aK%aZ)]).length) r)):=⟨_,rfl⟩;refine Le 15 eR mixed rfl rfl (by rw[aO];exact⟨none,none,0,(ob aP),none,0,(b8.ext (DZ _)),HE (DZ _),fun _=>Ab (DZ _),fun _ y=>(by cases y),fun _ y=>.inl y,fun _=>rfl,fun _=>⟨rfl,(cZ.ext (DZ _) (Ab (DZ _)))⟩,fun y=>absurd (show false=true from y) (by decide),fun y=>absurd (show false=true from y) (by decide),fun y=>absurd (show false=true from y) (by decide),fun y=>absurd (show false=true from y) (by decide),fun y=>absurd (show false=true from y) (by decide),fun y=>absurd (show false=true from y) (by decide),fun y=>absurd (show false=true from y) (by decide),fun y=>absurd (show false=true from y) (by decide),fun y=>absurd (show false=true from y) (by decide),fun y=>absurd (show false=true from y) (by decide),fun y=>absurd (show false=true from y) (by decide),fun y=>absurd (show false=true from y) (by decide),fun y=>absurd (show false=true from y) (by decide),fun y=>absurd (show false=true from y) (by decide),fun y=>absurd (show false=true from y) (by decide)⟩)
        ⟨sj (k:=0) rfl (fun D V a' w' K a=>by
             rw[aO] at a;refine X4 a fun aH aI aJ q a=>X2 a fun g r a=>Y8 a fun aL aM aQ d c f b _ a=>Y8 a fun z aA aB aC aD aE aF s a=>Y4 a fun j m o p a=>a.elim fun u a=>?_;have x:=a;exact(Ay (v:=.slice aP aX.length a2) (es (t:=5) (v:=.slice aP aX.length a2) ((K.later 14 5 _ rfl rfl rfl).trans cI))).mono fun v CQ ⟨aU,aV⟩=>by subst aU;subst aV;rw[aO];exact⟨aH,aI,aJ,q,g,r,aL,aM,aQ,d,c,f,b,fun _=>rfl,z,aA,aB,aC,aD,aE,aF,s,j,m,o,p,u,x⟩),
         sj (k:=1) rfl (fun D V a' w' K a=>by
             rw[aO] at a;refine X4 a fun aH aI aJ q a=>X2 a fun g r a=>Y8 a fun aL aM aQ d c f b aG a=>Y8 a fun _ aA aB aC aD aE aF s a=>Y4 a fun j m o p a=>a.elim fun u a=>?_;have x:=a;exact(Ap (es ((K.out 7 rfl).trans rfl)) (JL _ _)).mono fun v CQ ⟨aU,aV⟩=>by subst aU;subst aV;rw[aO];exact⟨aH,aI,aJ,q,g,r,aL,aM,aQ,d,c,f,b,aG,fun _=>rfl,aA,aB,aC,aD,aE,aF,s,j,m,o,p,u,x⟩),
         sj (k:=2) rfl (fun D V a' w' K a=>by
             rw[aO] at a;refine X4 a fun aH aI aJ q a=>X2 a fun g r a=>Y8 a fun aL aM aQ d c f b aG a=>Y8 a fun z _ aB aC aD aE aF s a=>Y4 a fun j m o p a=>a.elim fun u a=>?_;have x:=a;have cJ:=z (K.dn 1 rfl);exact(AL (v:=I aT.Lo) BK (es (t:=21) (v:=pt b7 0) ((K.Ar 1 21 rfl rfl).trans cJ)) (b4.Fq aM (b8.Gb 1 rfl [2] rfl ⟨rfl,trivial⟩ eL)) rfl).mono fun v CQ ⟨aU,aV⟩=>by subst aU;subst aV;rw[aO];exact⟨aH,aI,aJ,q,g,r,aL,aM,aQ,d,c,f,b,aG,z,fun _=>rfl,aB,aC,aD,aE,aF,s,j,m,o,p,u,x⟩),
         sj (k:=3) rfl (fun D V a' w' K a=>by
             rw[aO] at a;refine X4 a fun aH aI aJ q a=>X2 a fun g r a=>Y8 a fun aL aM aQ d c f b aG a=>Y8 a fun z aA _ aC aD aE aF s a=>Y4 a fun j m o p a=>a.elim fun u a=>?_;have x:=a;exact(Ay (v:=I aK) (es (t:=1) (v:=I aK) ((K.later 15 1 _ rfl rfl rfl).trans cH))).mono fun v CQ ⟨aU,aV⟩=>by subst aU;subst aV;rw[aO];exact⟨aH,aI,aJ,q,g,r,aL,aM,aQ,d,c,f,b,aG,z,aA,fun _=>rfl,aC,aD,aE,aF,s,j,m,o,p,u,x⟩),
         sj (k:=4) rfl (fun D V a' w' K a=>by
             rw[aO] at a;refine X4 a fun aH aI aJ q a=>X2 a fun g r a=>Y8 a fun aL aM aQ d c f b aG a=>Y8 a fun z aA aB _ aD aE aF s a=>Y4 a fun j m o p a=>a.elim fun u a=>?_;have x:=a;exact(AW (l:=[I aT.Lo,I aT.Hi]) Gu (es ((K.out 7 rfl).trans rfl)) (b4.Fq aM (b8.Gb 1 rfl [2] rfl ⟨rfl,trivial⟩ eL)) rfl rfl).mono fun v CQ ⟨aU,aV⟩=>by subst aU;subst aV;rw[aO];exact⟨aH,aI,aJ,q,g,r,aL,aM,aQ,d,c,f,b,aG,z,aA,aB,fun _=>rfl,aD,aE,aF,s,j,m,o,p,u,x⟩),
         sj (k:=5) rfl (fun D V a' w' K a=>by
             rw[aO] at a;refine X4 a fun aH aI aJ q a=>X2 a fun g r a=>Y8 a fun aL aM aQ d c f b aG a=>Y8 a fun z aA aB aC _ aE aF s a=>Y4 a fun j m o p a=>a.elim fun u a=>?_;have x:=a;have cK:=aC (K.dn 4 rfl);refine(Az L8 rfl (C2 (es (t:=24) (v:=.agg #[I aT.Lo,I aT.Hi]) ((K.Ar 4 24 rfl rfl).trans cK))) (P9 c4 aT ZA _ aZ dV)).mono ?_;rintro v CQ ⟨aR,rfl⟩;rw[aO];exact⟨aH,aI,aJ,q,g,r,(aL.ext aR),(GL aM aR (fun _ bS=>by cases bS)),(fun bT=>(aQ bT).trans (Ab aR)),d,c,f,fun y=>⟨(b y).1,((b y).2.ext aR (Ab aR))⟩,aG,z,aA,aB,aC,fun _=>rfl,aE,aF,fun y=>⟨(s y).1,(s y).2.1,((s y).2.2.ext aR (Ab aR))⟩,fun y=>⟨(j y).1,(j y).2.1,((j y).2.2.ext aR (Ab aR))⟩,m,o,p,u,x⟩),
         sj (k:=6) rfl (fun D V a' w' K a=>by
             rw[aO] at a;refine X4 a fun aH aI aJ q a=>X2 a fun g r a=>Y8 a fun aL aM aQ d c f b aG a=>Y8 a fun z aA aB aC aD _ aF s a=>Y4 a fun j m o p a=>a.elim fun u a=>?_;have x:=a;have cL:=aB (K.dn 3 rfl);have cM:=aD (K.dn 5 rfl);exact(Hw (es (t:=23) (v:=I aK) ((K.Ar 3 23 rfl rfl).trans cL)) (es (t:=25) (v:=I aZ) ((K.Ar 5 25 rfl rfl).trans cM)) c6.1 c6.2).mono fun v CQ ⟨aU,aV⟩=>by subst aU;subst aV;rw[aO];exact⟨aH,aI,aJ,q,g,r,aL,aM,aQ,d,c,f,b,aG,z,aA,aB,aC,aD,fun _=>rfl,aF,s,j,m,o,p,u,x⟩),
         sj (k:=7) rfl (fun D V a' w' K a=>by
             rw[aO] at a;refine X4 a fun aH aI aJ q a=>X2 a fun g r a=>Y8 a fun aL aM aQ d c f b aG a=>Y8 a fun z aA aB aC aD aE _ s a=>Y4 a fun j m o p a=>a.elim fun u a=>?_;have x:=a;have cN:=aA (K.dn 2 rfl);have cO:=aE (K.dn 6 rfl);exact(Ce (es (t:=22) (v:=I aT.Lo) ((K.Ar 2 22 rfl rfl).trans cN)) (es (t:=26) (v:=I (aK%aZ)) ((K.Ar 6 26 rfl rfl).trans cO)) dW).mono fun v CQ ⟨aU,aV⟩=>by subst aU;subst aV;rw[aO];exact⟨aH,aI,aJ,q,g,r,aL,aM,aQ,d,c,f,b,aG,z,aA,aB,aC,aD,aE,fun _=>rfl,s,j,m,o,p,u,x⟩),
         sj (k:=8) rfl (fun D V a' w' K a=>by
             rw[aO] at a;refine X4 a fun _ _ _ q a=>X2 a fun g r a=>Y8 a fun aL aM aQ d c f b aG a=>Y8 a fun z aA aB aC aD aE aF _ a=>Y4 a fun j m o p a=>a.elim fun u a=>?_;have x:=a;have cP:=aF (K.dn 7 rfl);have dZ:=f K.me;subst dZ;refine(Dr (e:=3) (vs:= #[(0,I (aT.Lo+(aK%aZ)))]) (cs:= #[I (aT.Lo+(aK%aZ))]) (JU (es (t:=27) (v:=I (aT.Lo+(aK%aZ))) ((K.Ar 7 27 rfl rfl).trans cP))) (by kernel_rfl)).mono ?_;rintro v CQ ⟨eI,rfl,b5⟩;have bC:=NB b5;have bG:=b5.gr;rw[aO];exact⟨(ob (some ⟨eI,0,none⟩)),(some ⟨eI,0,none⟩),1,q,g,r,(aL.row bG 0 rfl bC),(GL aM bG (fun _ bS=>by cases bS)),(fun bT=>(aQ bT).trans (aL.CI bG 0 rfl (fun a5 a0=>(bC a5 a0).1))),(JH d aM.size bC),c,fun y=>absurd (show true=false from y) (by decide),fun y=>⟨(b y).1,((b y).2.gr bG (fun a5 a0=>aL.ne 2 0 rfl (congrArg some (((b y).1).trans a0)) rfl) (aL.CI bG 0 rfl (fun a5 a0=>(bC a5 a0).1)))⟩,aG,z,aA,aB,aC,aD,aE,aF,fun _=>⟨rfl,rfl,NA (D0:=[[I (aT.Lo+(aK%aZ))]]) b5.bk (Nat.le_trans aL.sz (Nat.le_of_eq b5.Iu.symm)) ⟨rfl,trivial⟩ rfl (by simp[maxLen])⟩,fun y=>⟨(j y).1,(j y).2.1,((j y).2.2.gr bG (fun a5 a0=>aL.ne 2 0 rfl (congrArg some ((j y).2.1.trans a0)) rfl) (aL.CI bG 0 rfl (fun a5 a0=>(bC a5 a0).1)))⟩,m,o,p,u,x⟩),
         sj (k:=9) rfl (fun D V a' w' K a=>by
             rw[aO] at a;refine X4 a fun _ aI aJ _ a=>X2 a fun _ _ a=>Y8 a fun aL aM aQ d c f b aG a=>Y8 a fun z aA aB aC aD aE aF s a=>Y4 a fun _ m o p a=>a.elim fun u a=>?_;have x:=a;have cQ:=aG (K.dn 0 rfl);obtain⟨cR,bQ,dI⟩:=s (K.dn 8 rfl);subst bQ;obtain⟨b9,cF⟩:=b K.me;subst b9;refine(HY (ys:=[aT.Lo+(aK%aZ)]) Tryz.underlying31 HI rfl rfl (by decide) (es (t:=20) (v:=.slice aP aX.length a2) ((K.Ar 0 20 rfl rfl).trans cQ)) rfl (es (t:=28) (v:=.slice aI (([aT.Lo+(aK%aZ)]).length) aJ) ((K.Ar 8 28 rfl rfl).trans cR)) cF (dI.NX (fun _ _ _ _ _ _ h=>h)) (by have:=c7;simp only[maxLen];omega) (by have:=c7;omega) aL.sz).mono ?_;rintro v CQ ⟨dO,eJ,rfl,bG,bC,d0⟩;rw[aO];exact⟨(ob aI),aI,aJ,(ob dO),dO,eJ,(aL.row bG 2 rfl bC),(GL aM bG (fun a5 bS=>(c a5 bS).imp (fun y=>.inr (by rw[←y];exact List.mem_of_getElem? (i:=0) rfl)) id)),(fun bT=>(aQ bT).trans (aL.CI bG 2 rfl (fun a5 a0=>(bC a5 a0).1))),d,(Pg c aM.size bC),f,fun y=>absurd (show true=false from y) (by decide),aG,z,aA,aB,aC,aD,aE,aF,fun y=>⟨(s y).1,rfl,((s y).2.2.gr bG (fun a5 a0=>aL.ne 0 2 rfl (congrArg some a0) rfl) (aL.CI bG 2 rfl (fun a5 a0=>(bC a5 a0).1)))⟩,fun _=>⟨rfl,rfl,EU d0 (aL.CI bG 2 rfl (fun a5 a0=>(bC a5 a0).1))⟩,m,o,p,u,fun y=>(Qj K.me (K.down 14 _ rfl y 9 rfl)).elim⟩),
         sj (k:=10) rfl (fun D V a' w' K a=>by
             rw[aO] at a;refine X4 a fun aH aI aJ q a=>X2 a fun g r a=>Y8 a fun aL aM aQ d c f b aG a=>Y8 a fun z aA aB aC aD aE aF s a=>Y4 a fun j _ o p a=>a.elim fun u a=>?_;have x:=a;exact(Ay (v:=I aK) (es (t:=1) (v:=I aK) ((K.later 15 1 _ rfl rfl rfl).trans cH))).mono fun v CQ ⟨aU,aV⟩=>by subst aU;subst aV;rw[aO];exact⟨aH,aI,aJ,q,g,r,aL,aM,aQ,d,c,f,b,aG,z,aA,aB,aC,aD,aE,aF,s,j,fun _=>rfl,o,p,u,x⟩),
         sj (k:=11) rfl (fun D V a' w' K a=>by
             rw[aO] at a;refine X4 a fun aH aI aJ q a=>X2 a fun g r a=>Y8 a fun aL aM aQ d c f b aG a=>Y8 a fun z aA aB aC aD aE aF s a=>Y4 a fun j m _ p a=>a.elim fun u a=>?_;have x:=a;exact(AW (l:=[I aT.Lo,I aT.Hi]) Gu (es ((K.out 7 rfl).trans rfl)) (b4.Fq aM (b8.Gb 1 rfl [2] rfl ⟨rfl,trivial⟩ eL)) rfl rfl).mono fun v CQ ⟨aU,aV⟩=>by subst aU;subst aV;rw[aO];exact⟨aH,aI,aJ,q,g,r,aL,aM,aQ,d,c,f,b,aG,z,aA,aB,aC,aD,aE,aF,s,j,m,fun _=>rfl,p,u,x⟩),
         sj (k:=12) rfl (fun D V a' w' K a=>by
             rw[aO] at a;refine X4 a fun aH aI aJ q a=>X2 a fun g r a=>Y8 a fun aL aM aQ d c f b aG a=>Y8 a fun z aA aB aC aD aE aF s a=>Y4 a fun j m o _ a=>a.elim fun u a=>?_;have x:=a;have cA:=o (K.dn 11 rfl);refine(Az L8 rfl (C2 (es (t:=31) (v:=.agg #[I aT.Lo,I aT.Hi]) ((K.Ar 11 31 rfl rfl).trans cA))) (P9 c4 aT ZA _ bX dX)).mono ?_;rintro v CQ ⟨aR,rfl⟩;rw[aO];exact⟨aH,aI,aJ,q,g,r,(aL.ext aR),(GL aM aR (fun _ bS=>by cases bS)),(fun bT=>(aQ bT).trans (Ab aR)),d,c,f,fun y=>⟨(b y).1,((b y).2.ext aR (Ab aR))⟩,aG,z,aA,aB,aC,aD,aE,aF,fun y=>⟨(s y).1,(s y).2.1,((s y).2.2.ext aR (Ab aR))⟩,fun y=>⟨(j y).1,(j y).2.1,((j y).2.2.ext aR (Ab aR))⟩,m,o,fun _=>rfl,u,x⟩),
         sj (k:=13) rfl (fun D V a' w' K a=>by
             rw[aO] at a;refine X4 a fun aH aI aJ q a=>X2 a fun g r a=>Y8 a fun aL aM aQ d c f b aG a=>Y8 a fun z aA aB aC aD aE aF s a=>Y4 a fun j m o p a=>a.elim fun _ a=>?_;have x:=a;have cB:=m (K.dn 10 rfl);have cC:=p (K.dn 12 rfl);exact(Mh (es (t:=30) (v:=I aK) ((K.Ar 10 30 rfl rfl).trans cB)) (es (t:=32) (v:=I bX) ((K.Ar 12 32 rfl rfl).trans cC)) c8.1 c8.2 dY).mono fun v CQ ⟨aU,aV⟩=>by subst aU;subst aV;rw[aO];exact⟨aH,aI,aJ,q,g,r,aL,aM,aQ,d,c,f,b,aG,z,aA,aB,aC,aD,aE,aF,s,j,m,o,p,fun _=>rfl,x⟩),
         sj (k:=14) rfl (fun D V a' w' K a=>by
             rw[aO] at a;refine X4 a fun aH aI aJ _ a=>X2 a fun g r a=>Y8 a fun aL aM aQ d c f _ aG a=>Y8 a fun z aA aB aC aD aE aF s a=>Y4 a fun j m o p a=>a.elim fun u a=>?_;have x:=a;obtain⟨cS,bR,eP⟩:=j (K.dn 9 rfl);subst bR;exact(LX (v:=.slice g ((aX++[aT.Lo+(aK%aZ)]).length) r) (es (t:=29) (v:=.slice g ((aX++[aT.Lo+(aK%aZ)]).length) r) ((K.Ar 9 29 rfl rfl).trans cS))).mono fun v CQ ⟨aU,aV⟩=>by subst aU;subst aV;rw[aO];exact⟨aH,aI,aJ,(ob g),g,r,aL,aM,aQ,d,c,f,fun y=>absurd ((K.dn 9 rfl)) (by rw[show D 9=false from y];decide),aG,z,aA,aB,aC,aD,aE,aF,s,j,m,o,p,u,fun _=>rfl⟩),trivial⟩ ?_
    intro e2 e3 e4 aS aY;rw[aO] at aY;clear aO;refine X4 aY fun aH aI aJ q aY=>X2 aY fun g r aY=>Y8 aY fun d1 d2 cG d c f b aG aY=>Y8 aY fun z aA aB aC aD aE aF s aY=>Y4 aY fun j m o p aY=>aY.elim fun u aY=>?_;have x:=aY;clear aY;have cQ:=aG (aS 0 (by decide));have cJ:=z (aS 1 (by decide));have cN:=aA (aS 2 (by decide));have cL:=aB (aS 3 (by decide));have cK:=aC (aS 4 (by decide));have cM:=aD (aS 5 (by decide));have cO:=aE (aS 6 (by decide));have cP:=aF (aS 7 (by decide));obtain⟨cR,bQ,eQ⟩:=s (aS 8 (by decide));subst bQ;obtain⟨cS,bR,dJ⟩:=j (aS 9 (by decide));subst bR;have cB:=m (aS 10 (by decide));have cA:=o (aS 11 (by decide));have cC:=p (aS 12 (by decide));have c9:=u (aS 13 (by decide));have dA:=x (aS 14 (by decide));refine wa rfl (v:=I (aK/bX)) c9<|Aj<|BE<|Ad<|Ae<|wm rfl (v:=I a9) bZ ?_;replace aN:=AP aN;obtain⟨d3,aN⟩:=aN;refine wd rfl (fun st=>Ce (ee st rfl) (ee st rfl) d3)<|wa rfl (v:=I (a9+1)) rfl<|Aj ?_;have eK:=d1.erase 0;have eM:=eK.erase 0;have c0:=((dJ.up (Aw 0)).up (Aw 0));have dK:=(((bN.ext bF.gr).gr bL.gr (bP.ne 2 0 rfl rfl rfl)).Fq d2 (b8.Gb 3 rfl [2] rfl ⟨rfl,trivial⟩ eL));have c1:=((((((bO.mv (An bF)).mv (bP.Bf bL.gr 0 rfl)).mv Ba).mv (cG _)).mv (Aw 0)).mv (Aw 0));have c2:=((((((cD.mv (An bF)).mv (bP.Bf bL.gr 0 rfl)).mv Ba).mv (cG _)).mv (Aw 0)).mv (Aw 0));have c3:=((((((cE.mv (An bF)).mv (bP.Bf bL.gr 0 rfl)).mv Ba).mv (cG _)).mv (Aw 0)).mv (Aw 0));refine BI dS (Nat.lt_succ_self _) (fun st=>?_);exact⟨(aK/bX),(aX++[aT.Lo+(aK%aZ)]),(a9+1),g,r,aN,qz st,qd st,sp st 1 rfl,sp st 2 bY,sp st 5 dA,sp st 6 rfl,eM,c0,dK,c1,c2,c3⟩
   ·replace aN:=AH aN b6;refine AK rfl b6<|Cp<|AI<|AI ?_;obtain rfl:=oi aN;refine Cf (fun st=>?_);exact⟨rfl,aP,a2,qz st,qd st,sp st 5 cI,c5,bM⟩
 case d9=>
  rintro bS eS eX (⟨rfl,aW,a4,dL,dM,dB,dC,bU⟩);refine Cy (X:=X0) (N:=35) dL dM<|By<|Ad<|Ai<|Ae<|wm rfl (v:=.slice aW z2.length a4) dB<|wa rfl (v:=.slice aW z2.length a4) rfl<|Aj<|Ad<|AM ?_;obtain rfl:=oi aN;refine AN rfl rfl ?_;exact⟨dC.Bq,⟨_,_,rfl,dC.IG (M:=[]) 0 rfl [] rfl trivial bU⟩⟩
theorem RJ aX a b d e f g h j k m n o p(Z:Nat→Prop) w(aO:Sl AT w Z b d a.Af)(aP:Sl (BY (AF .i64)) w Z e f a.Aa)(aQ:Sl AX w Z g h a.Ag)(aR:Sl Bz w Z j k a.Ao)(aS:Sl Bw w Z m n a.Am)(aT:Sl BL w Z o p a.Ak) a2(s:B7 aX a=some a2):
 CH Tryz.prog 48 #[.agg #[.slice b a.Af.length d,.slice e a.Aa.length f,.slice g a.Ag.length h,I a.Flat,.slice j a.Ao.length k,.slice m a.Am.length n,.slice o a.Ak.length p]] w (fun v w'=>Ext w w'∧Dt.R w' (zf Z w []) v a2):=by
 unfold B7 at s;refine Bb (N:=10) Tryz.func48 rfl rfl (by simp) ?_;intro bC ha bD;have aY:=AO (i:=0) ha rfl;clear ha;have aV:Hp FN [] w [] w:=Hp.start (Co.none w);have aC:=aO.mv (Al (Z:=Z) (L:=[]) w);have aD:=aP.mv (Al (Z:=Z) (L:=[]) w);have aE:=aQ.mv (Al (Z:=Z) (L:=[]) w);have aF:=aR.mv (Al (Z:=Z) (L:=[]) w);have aG:=aS.mv (Al (Z:=Z) (L:=[]) w);have aH:=aT.mv (Al (Z:=Z) (L:=[]) w);refine Ai<|Ae<|we rfl (fun st=>Cs (v:=.agg #[.slice b a.Af.length d,.slice e a.Aa.length f,.slice g a.Ag.length h,I a.Flat,.slice j a.Ao.length k,.slice m a.Am.length n,.slice o a.Ak.length p]) (cs:= #[.slice b a.Af.length d,.slice e a.Aa.length f,.slice g a.Ag.length h,I a.Flat,.slice j a.Ao.length k,.slice m a.Am.length n,.slice o a.Ak.length p]) (ee st aY) rfl) ?_;rintro _ w1 ⟨b1,rfl,r⟩;have a3:=aV.nb r;have bB:=aV.Cz r;refine wa rfl (v:=.bool false) rfl<|Aj<|Ad<|Ai<|Ae<|wd rfl (fun st=>AW (l:=[.slice b a.Af.length d,.slice e a.Aa.length f,.slice g a.Ag.length h,I a.Flat,.slice j a.Ao.length k,.slice m a.Am.length n,.slice o a.Ak.length p]) Ct (ee st rfl) r.bk rfl rfl) ?_;have u:=(aC.mv (An r));have x:=(aD.mv (An r));have y:=(aE.mv (An r));have z:=(aF.mv (An r));have aA:=(aG.mv (An r));have aB:=(aH.mv (An r));replace s:=bind_some s;obtain⟨aZ,a4,s⟩:=s;refine we rfl (fun st=>Az OW (ee st rfl) (C2 (ee st rfl)) (S5 aX a b d e f g h j k m n o p ZA _ u.all x.all y.all z.all aA.all aB.all aZ a4)) ?_;rintro _ bE ⟨t,rfl⟩;have aW:=a3.ext t;refine wm rfl (v:=.bool aZ) rfl ?_;rcases As (aZ) with q|q
 ·replace s:=AG s q;have aU:=(r.bk.ext t);refine Ax rfl rfl (Ah rfl q) rfl (by decide) (fun st=>AW (l:=[.slice b a.Af.length d,.slice e a.Aa.length f,.slice g a.Ag.length h,I a.Flat,.slice j a.Ao.length k,.slice m a.Am.length n,.slice o a.Ak.length p]) Ct (ee st rfl) aU rfl rfl) ?_;have aI:=(u.mv (Ab t));have aJ:=(x.mv (Ab t));have aK:=(y.mv (Ab t));have aL:=(z.mv (Ab t));have aM:=(aA.mv (Ab t));have aN:=(aB.mv (Ab t));replace s:=bind_some s;obtain⟨a0,a5,s⟩:=s;refine Dw rfl rfl (Ah rfl q) rfl (by decide) (fun st=>Az NJ (ee st rfl) (C2 (ee st rfl)) (a116 aX a b d e f g h j k m n o p ZA _ aI.all aJ.all aK.all aL.all aM.all aN.all a0 a5)) ?_;rintro _ bF ⟨a9,rfl⟩;have bA:=aW.ext a9;refine Ax rfl rfl (Ah rfl q) rfl (by decide) (fun st=>Dy (ee st rfl) (ee st rfl))<|wd rfl (fun st=>Bl (v:=.bool (a0==0)) (ee st rfl) q (ee st rfl))<|wa rfl (v:=.bool (a0==0)) rfl<|Aj<|Ad<|AM ?_;obtain rfl:=oi s;refine AN rfl rfl ?_;exact⟨bA.Bq,rfl⟩
 ·replace s:=AH s q;refine AB (c:=false) rfl rfl (Ah rfl q) (by decide) rfl (by decide)<|AB (c:=false) rfl rfl (Ah rfl q) (by decide) rfl (by decide)<|AB (c:=false) rfl rfl (Ah rfl q) (by decide) rfl (by decide)<|wd rfl (fun st=>BN (v:=.bool false) (ee st rfl) q (ee st rfl))<|wa rfl (v:=.bool false) rfl<|Aj<|Ad<|AM ?_;obtain rfl:=oi s;refine AN rfl rfl ?_;exact⟨aW.Bq,rfl⟩
end Go.Proofs.YtbhofkcbfblijaaGreat
end
section
namespace Go.Proofs.YtbhofkcbfblijaaGreat
open Go.RowKit Go.ChangeShapes Go.WideShapes
section
variable{H:Type}{enc:TypeId×Value→H}{P:Program}{W W':World}
variable{α:Type}{e:J7 α}{wf:α→Prop}{t:TypeId}{b0:Nat}{v:Value}{d:DataW H}{p:List MemPlace}{sp:Nat→Bool}
theorem KE{k:IntKind}(a:P.underlying t=some (.int k))(b:Value.okWide P W .any b0 t v)(h:DataW.Trod enc P W 0 sp true t v d p):∃n,v=.int k n∧Ik k n:=by
 obtain⟨n,h1,_,_,c⟩:=open_int a b h;exact⟨n,h1,c⟩
end
theorem PO{x:Int}(h:Ik .u8 x):0≤x∧x<256:=by
 have h2:(decide (IntKind.u8.min≤x)&&decide (x≤IntKind.u8.max))=true:=h;rw[Bool.and_eq_true,decide_eq_true_eq,decide_eq_true_eq] at h2;have a:IntKind.u8.min=0:=by decide
 have b:IntKind.u8.max=255:=by decide
 omega
theorem SO{x:Int}(h:Ik .u16 x):0≤x∧x<65536:=by
 have h2:(decide (IntKind.u16.min≤x)&&decide (x≤IntKind.u16.max))=true:=h;rw[Bool.and_eq_true,decide_eq_true_eq,decide_eq_true_eq] at h2;have a:IntKind.u16.min=0:=by decide
 have b:IntKind.u16.max=65535:=by decide
 omega
end Go.Proofs.YtbhofkcbfblijaaGreat
end
