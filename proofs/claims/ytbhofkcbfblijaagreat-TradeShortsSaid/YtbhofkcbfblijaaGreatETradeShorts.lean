import Derived.Test.YtbhofkcbfblijaaGreatCJ6
import Derived.WalkKit
import Derived.KernelRfl
import Derived.WalkSpells
import Derived.WalkLawsBesides
import Derived.Maps.AppendAt
import Derived.OrdersIn
import Derived.RangeFuncIn
import Derived.RangeFuncLeaves
import Derived.RangeFuncRecord
import Derived.RangeFuncSeq
import Derived.Scope
import Derived.DeepKeys3
import Derived.Laws.CopyRow
import Derived.Laws.OwnMore
import Derived.Laws.MakeOwn
import Derived.Laws.IdiomCopy
import Derived.Sort.OwnSortedInts
import Derived.Lib.RowBridge
import Derived.Shelf.Sort.Plain
import Derived.Ground.Names2Prog
import Derived.Shelf.Slices.Clone
import Derived.Shelf.Slices.CompactI
import Derived.Shelf.Slices.In.SortNone
import Derived.Ground.SlgnProg
import Derived.Shelf.SlicesE.Clone
import Derived.ProofKit
import Derived.ChangeSame
import Derived.SizedLaws
import Derived.Deep.Slices
import Derived.JoinedOf
import Derived.Test.YtbhofkcbfblijaaGreatProg
import Derived.Test.YtbhofkcbfblijaaGreatRows
/-
  What the law TradeShorts needs beside the base that several claims of this seat share: contracts, and the plain law.
-/
set_option linter.all false
section
namespace Go.Proofs.YtbhofkcbfblijaaGreat
open Go.RowKit Go.WideShapes
section
variable{P:Program}{a:Act}{w:World}{dst:Option Tmp}{ty:TypeId}{pos:String}{Cc:Array Edge}{g:Option (Nat×Bool)}
theorem Ua{x y:Operand}{b c:Bool}{t d:TypeId}(hb:∀b c w,(Op.equal t (.bool b) (.bool c)).run P w=.ok (b==c) w)(e:a.eval x=.bool b)(f:a.eval y=.bool c):
  Cg P ⟨dst,.binOp .neq t x y d,ty,pos,Cc,g⟩ a w (fun u w'=>u=.bool (b !=c)∧w'=w):=by
 refine QC e f ?_;show(do eqGuard .neq t x y (.bool b) (.bool c);pure (Value.bool (!(←Op.equal t (.bool b) (.bool c)))):Sem Value).run P w=_;have h:(eqGuard .neq t x y (.bool b) (.bool c)).run P w=.ok () w:=by simp[eqGuard]
 simp only[Sem.run_bind,h,Result.andThen_ok,hb,Sem.run_pure];rfl
end
def HR(a:Nat)(b:AD)(c:List Int):Option (Bool):=
 (C3 a b true).bind fun d=>Option.elim d.1 (cond (d.2==0) ((H3 a c (b.AE.length:Int)).bind fun g=>cond (g) (none) (some (false))) (some (false))) (fun h=>cond (d.2==0) ((H3 a c (b.AE.length:Int)).bind fun e=>cond (e) ((Fh a h c).bind fun f=>some (f.1)) (some (false))) (some (false)))
def El(c:Int):Nat→(List Int)→Int→Option ((List Int))
 |0,_,_=>none
 |d+1,b,a=>(LD .u64 a).bind fun _=>(Oo c a).bind fun _=>cond (decide ((0:Int)<(J0 c a))) ((LD .u64 a).bind fun _=>(Oo c a).bind fun _=>(rem (J0 c a) (2:Int)).bind fun _=>cond (((J0 c a)%2)==1) ((ED (((b.length+[a].length:Nat):Int)≤140737488355328/8)).bind fun _=>(i64 (a+1)).bind fun _=>El c d (b++[a]) (a+1)) ((i64 (a+1)).bind fun _=>El c d b (a+1))) (some (b))
def GL(a:Nat)(b:Int):Option ((List Int)):=
 (El b a ([]:List Int) (0:Int)).bind fun c=>some (c)
def Ep(b:List Int)(c:List Int):Nat→Int→Option ((Bool)⊕(Unit))
 |0,_=>none
 |e+1,a=>cond (decide (a<(b.length:Int))) (cond (decide (a<(c.length:Int))) ((idx b a).bind fun f=>(idx c a).bind fun g=>cond (f !=g) ((idx b a).bind fun h=>(idx c a).bind fun d=>some (.inl (decide (h<d)))) ((i64 (a+1)).bind fun _=>Ep b c e (a+1))) (some (.inr ()))) (some (.inr ()))
def G4(d:Nat)(b:List Int)(c:List Int):Option (Bool):=
 (Ep b c d (0:Int)).bind fun z=>Sum.elim (fun a=>some (a)) (fun a=>some (decide ((b.length:Int)<(c.length:Int)))) z
def GM(c:Nat)(a:List Int)(b:List Int):Option (Bool):=
 cond (decide ((a.length:Int)<(b.length:Int))) (some (true)) (cond ((a.length:Int)==(b.length:Int)) ((G4 c a b).bind fun d=>some (d)) (some (false)))
def Ds(d:Nat)(b:AD)(c:List (List Int))(e:Int)(x2:B2):Nat→Int→Option ((Bool)⊕(Unit))
 |0,_=>none
 |h+1,a=>cond (decide (a<(c.length:Int))) ((idx c a).bind fun i=>(idx b.Ab e).bind fun j=>(D5 d i j).bind fun f=>(idx b.AB x2.Cr).bind fun g=>cond (decide (f<g.Bd)) (some (.inl false)) ((i64 (a+1)).bind fun _=>Ds d b c e x2 h (a+1))) (some (.inr ()))
def Ho(b:Nat)(c:AD)(f:List (List Int))(g:Int)(d:Int):Option (Bool):=
 (idx c.AE g).bind fun x2=>(Ds b c f d x2 b (0:Int)).bind fun z=>Sum.elim (fun a=>some (a)) (fun a=>(EB b c d).bind fun e=>some (decide (x2.CE≤e))) z
def Dn(f:Nat)(d:AD)(g:List (List Int))(c:Int)(b:Int):Nat→Bool→Int→Option (Bool)
 |0,_,_=>none
 |h+1,e,a=>cond (decide (a<(d.AE.length:Int))) (cond (e) ((i64 (a+1)).bind fun _=>Dn f d g c b h true (a+1)) ((LD .u64 a).bind fun _=>(Oo c a).bind fun _=>(rem (J0 c a) (2:Int)).bind fun _=>cond (((J0 c a)%2)==1) ((Ho f d g a b).bind fun i=>(i64 (a+1)).bind fun _=>Dn f d g c b h i (a+1)) ((i64 (a+1)).bind fun _=>Dn f d g c b h false (a+1)))) (some (e))
def DM(c:Nat)(d:AD)(e:List (List Int))(f:Int):Nat→Int→Int→Option (Int)
 |0,_,_=>none
 |g+1,b,a=>cond (decide (a<(d.Ab.length:Int))) ((Dn c d e f a c false (0:Int)).bind fun z4=>cond (z4) ((i64 (b+1)).bind fun _=>(i64 (a+1)).bind fun _=>DM c d e f g (b+1) (a+1)) ((i64 (a+1)).bind fun _=>DM c d e f g b (a+1))) (some (b))
def EK(a:Nat)(d:AD)(e:List (List Int))(b:Int):Option (Bool):=
 (DM a d e b a (0:Int) (0:Int)).bind fun z2=>(GL a b).bind fun c=>some (decide (z2<(c.length:Int)))
def CQ(e:Nat)(d:AD)(f:List (List Int)):Nat→(List Int)→Bool→Int→Option ((List Int)×Bool)
 |0,_,_,_=>none
 |g+1,b,c,a=>(LD .u64 (d.AE.length:Int)).bind fun _=>(LC (1:Int) (d.AE.length:Int)).bind fun _=>cond (decide (a<(HZ (1:Int) (d.AE.length:Int)))) ((GL e a).bind fun h=>cond (!c) ((EK e d f a).bind fun i=>cond (i) ((i64 (a+1)).bind fun _=>CQ e d f g h true (a+1)) ((i64 (a+1)).bind fun _=>CQ e d f g b c (a+1))) ((GM e h b).bind fun j=>cond (j) ((EK e d f a).bind fun k=>cond (k) ((i64 (a+1)).bind fun _=>CQ e d f g h true (a+1)) ((i64 (a+1)).bind fun _=>CQ e d f g b c (a+1))) ((i64 (a+1)).bind fun _=>CQ e d f g b c (a+1)))) (some ((b,c)))
def EV(a:Nat)(b:AD)(c:List (List Int)):Option ((List Int)×Bool):=
 (CQ a b c a ([]:List Int) false (1:Int)).bind fun z2=>some ((z2.1,z2.2))
end Go.Proofs.YtbhofkcbfblijaaGreat
end
section
namespace Go.Proofs.YtbhofkcbfblijaaGreat
namespace OkT
variable{t:AD}(h:OkT t)
include h
theorem ol:t.AE.length≤3:=(Hx h.fault).2.2.1
end OkT
section
variable{K:Nat}(hK:1000≤K)
include hK
end
section
variable{K:Nat}(hK:1000≤K)
include hK
end
end Go.Proofs.YtbhofkcbfblijaaGreat
end
section
namespace Go.Proofs.YtbhofkcbfblijaaGreat
theorem R3:∀a:List Int,lexB a a=false
 |[]=>rfl
 |a::b=>by rw[lexB,if_pos rfl,R3 b]
theorem Pq:∀a b c:List Int,lexB a b=true→lexB b c=true→lexB a c=true
 |[],b,[],h1,h2=>by cases b<;>cases h1;cases h2
 |[],b,c::g,h1,h2=>rfl
 |a::d,[],c,h1,h2=>by cases h1
 |a::d,b::h,[],h1,h2=>by cases h2
 |a::d,b::h,c::g,h1,h2=>by
  rw[lexB] at h1 h2⊢
  by_cases e:a=b
  ·subst e;rw[if_pos rfl] at h1
   by_cases f:a=c
   ·subst f;rw[if_pos rfl] at h2⊢;exact Pq d h g h1 h2
   ·rw[if_neg f] at h2⊢;exact h2
  ·rw[if_neg e,decide_eq_true_eq] at h1
   by_cases f:b=c
   ·subst f;rw[if_neg e,decide_eq_true_eq];exact h1
   ·rw[if_neg f,decide_eq_true_eq] at h2;rw[if_neg (by omega),decide_eq_true_eq];omega
theorem Pr(a:List Int):sh a a=false:=by
 rw[Bool.eq_false_iff];intro h;rcases Mk.1 h with h|h
 ·omega
 ·rw[R3] at h;cases h.2
theorem R4{a b c:List Int}(h:sh a b=true)(g:sh b c=true):sh a c=true:=by
 rw[Mk] at h g⊢;rcases h with h|h<;>rcases g with g|g
 ·exact .inl (by omega)
 ·exact .inl (by omega)
 ·exact .inl (by omega)
 ·exact .inr ⟨by omega,Pq _ _ _ h.2 g.2⟩
theorem WB(s:Nat):(CZ s).length≤8:=by
 unfold CZ;rw[List.length_map];exact Nat.le_trans (List.length_filter_le _ _) (by simp)
section
variable{K:Nat}(hK:1000≤K)
include hK
theorem R5(s:Nat)(hs:s<2^8):∀(d m p:Nat) (acc:List Int),p+d=8→d<m→acc.length≤p→El (s:Int) m acc (p:Int)=some (acc++((List.range' p d).filter fun x=>s.testBit x).map fun x:Nat=>(x:Int))
 |d,0,p,acc,_,h,_=>by omega
 |0,m+1,p,acc,b,_,ha=>by
  obtain rfl:p=8:=by omega
  rw[El.eq_2,UO (by omega),Rx (by omega),NR,Nat.div_eq_of_lt hs,cf (df (by simp))];simp
 |d+1,m+1,p,acc,b,hm,ha=>by
  rw[El.eq_2,UO (by omega),Rx (by omega),NR]
  by_cases h0:s/2^p=0
  ·rw[h0,cf (df (by simp))];have:(List.range' p (d+1)).filter (fun x=>s.testBit x)=[]:=by
    rw[List.filter_eq_nil_iff];intro x c;rw[List.mem_range'_1] at c;have h1:s<2^p:=by
     rcases Nat.div_eq_zero_iff.1 h0 with h|h
     ·have:=Nat.two_pow_pos p;omega
     ·exact h
    rw[Nat.testBit_lt_two_pow (Nat.lt_of_lt_of_le h1 (Nat.pow_le_pow_right (by omega) (by omega)))];simp
   rw[this,List.map_nil,List.append_nil]
  ·have a:(0:Int)<((s/2^p:Nat):Int):=by generalize s/2^p=q at h0;omega
   rw[ct (dt a),UO (by omega),Rx (by omega),TQ (Int.le_of_lt a) (by omega),List.range'_succ,List.filter_cons];have e:((((s/2^p:Nat):Int)%2)==1)=s.testBit p:=by
    rw[←tb,Bool.eq_iff_iff,beq_iff_eq,beq_iff_eq];omega
   rw[e];cases s.testBit p with
   |true=>
    rw[ct rfl,FV (by simp;omega),BS (by omega) (by omega),Dw p,R5 s hs d m (p+1) _ (by omega) (by omega) (by simp;omega),if_pos rfl,List.map_cons,List.append_assoc];rfl
   |false=>rw[cf rfl,BS (by omega) (by omega),Dw p,R5 s hs d m (p+1) _ (by omega) (by omega) (by omega),if_neg (by simp)]
theorem Vg{s:Nat}(hs:s<2^8):GL K (s:Int)=some (CZ s):=by
 unfold GL CZ;have:=R5 hK s hs 8 K 0 [] (by omega) (by omega) (by simp);rw[Int.natCast_zero,List.nil_append,←List.range_eq_range'] at this;rw[bd this]
omit hK in
theorem R6 (a b:List Int) (ha:a.length≤900) (hb:b.length≤900):∀(n m i:Nat),a.length=i+n→i≤b.length→n<m→
  (Ep a b m (i:Int)).bind (fun z=>Sum.elim (fun q1=>some q1) (fun _=>some (decide ((a.length:Int)<(b.length:Int)))) z)=some (lexB (a.drop i) (b.drop i))
 |n,0,i,h,_,hm=>by omega
 |0,m+1,i,h,hib,hm=>by
  rw[Ep.eq_2,cf (df (by omega)),List.drop_eq_nil_of_le (by omega:a.length≤i)]
  show some _=_
  by_cases e:i<b.length
  ·rw[List.drop_eq_getElem_cons e,dt (by omega)];rfl
  ·rw[List.drop_eq_nil_of_le (by omega:b.length≤i),df (by omega)];rfl
 |n+1,m+1,i,h,hib,hm=>by
  have hi:i<a.length:=by omega
  rw[Ep.eq_2,ct (dt (by omega)),List.drop_eq_getElem_cons hi]
  by_cases hj:i<b.length
  ·rw[ct (dt (by omega)),Cp hi,Cp hj,List.drop_eq_getElem_cons hj,lexB]
   by_cases he:a[i]=b[i]
   ·rw[if_pos he,cf (by simp[he]),BS (by omega) (by omega),Dw i]
    exact R6 a b ha hb n m (i+1) (by omega) (by omega) (by omega)
   ·rw[if_neg he,ct (by simp[he]),Cp hi,Cp hj]
    rfl
  ·rw[cf (df (by omega)),List.drop_eq_nil_of_le (by omega:b.length≤i)]
   show some _=_
   rw[df (by omega)];rfl
theorem WC{a b:List Int}(ha:a.length≤900)(hb:b.length≤900):G4 K a b=some (lexB a b):=by
 unfold G4;have:=R6 a b ha hb a.length K 0 (by omega) (by omega) (by omega);rw[Int.natCast_zero,List.drop_zero,List.drop_zero] at this;exact this
theorem Vh{a b:List Int}(ha:a.length≤900)(hb:b.length≤900):GM K a b=some (sh a b):=by
 unfold GM sh
 by_cases h:a.length<b.length
 ·rw[ct (dt (by omega)),dt h];rfl
 ·rw[cf (df (by omega)),df h,Bool.false_or]
  by_cases h2:a.length=b.length
  ·rw[ct (by simp[h2]),bd (WC hK ha hb)];simp[h2]
  ·rw[cf (by simp;omega)];simp[h2]
end
def KC (n:Nat):Nat→List Int→Nat→List (List Int)
 |0,l,_=>[l]
 |m+1,l,a=>(List.range' a (n-m-a)).flatMap fun t:Nat=>KC n m (l++[(t:Int)]) (t+1)
def Kf(n i d:Nat):List (List Int):=(List.range' i d).flatMap fun m=>KC n m [] 0
def Ka (p:List Int→Bool):List Int→List (List Int)→List Int
 |cur,[]=>cur
 |_,c::cs=>if p c=true then c else Ka p c cs
theorem NH(p:List Int→Bool):∀(xs ys:List (List Int)) (cur:List Int),xs.any p=false→Ka p cur (xs++ys)=Ka p (Ka p cur xs) ys
 |[],ys,cur,_=>rfl
 |x::xs,ys,cur,h=>by
  rw[List.any_cons,Bool.or_eq_false_iff] at h;simp only[List.cons_append,Ka,h.1];exact NH p xs ys x h.2
theorem NI(p:List Int→Bool):∀(xs ys:List (List Int)) (cur:List Int),xs.any p=true→Ka p cur (xs++ys)=Ka p cur xs
 |[],ys,cur,h=>by cases h
 |x::xs,ys,cur,h=>by
  simp only[List.cons_append,Ka];cases a:p x with
  |true=>rfl
  |false=>
   rw[List.any_cons,a,Bool.false_or] at h;exact NI p xs ys x h
theorem Qu{p:List Int→Bool}:∀{L:List (List Int)} (cur:List Int),L.any p=true→∃A x B,L=A++x::B∧p x=true∧(∀a∈A,p a=false)∧Ka p cur L=x
 |[],cur,h=>by cases h
 |c::L,cur,h=>by
  by_cases b:p c=true
  ·exact⟨[],c,L,rfl,b,by simp,by rw[Ka,if_pos b]⟩
  ·have d:p c=false:=by simpa using b
   rw[List.any_cons,d,Bool.false_or] at h;obtain⟨A,x,B,h1,h2,e,f⟩:=Qu c h;refine⟨c::A,x,B,by rw[h1];rfl,h2,?_,by rw[Ka,if_neg b];exact f⟩;intro a ha;rcases List.mem_cons.1 ha with rfl|ha
   ·exact d
   ·exact e a ha
theorem Tz:∀n:Nat,n<8→∀l∈Kf n 0 (n+1),∃s:Nat,s<2^n∧CZ s=l:=by decide+kernel
theorem TA:∀n:Nat,n<8→∀s:Nat,s<2^n→CZ s∈Kf n 0 (n+1):=by decide+kernel
theorem Ss:∀n:Nat,n<8→(Kf n 0 (n+1)).Pairwise fun a b=>sh a b=true:=by decide+kernel
theorem WD{n:Nat}(b:n<8){p:List Int→Bool}(cur:List Int)(h:(Kf n 0 (n+1)).any p=true):LK n p (Ka p cur (Kf n 0 (n+1))):=by
 obtain⟨A,x,B,g1,g2,g3,g4⟩:=Qu cur h;rw[g4];have hs:=Ss n b;refine⟨Tz n b x (by rw[g1];simp),g2,fun s c d=>?_⟩;have a:=TA n b s c;rw[g1] at a hs;rw[List.pairwise_append] at hs;rcases List.mem_append.1 a with h|h
 ·rw[g3 _ h] at d;cases d
 ·rcases List.mem_cons.1 h with h|h
  ·rw[h];exact Pr _
  ·have h1:=(List.pairwise_cons.1 hs.2.1).1 _ h;rw[Bool.eq_false_iff];intro h2;have:=R4 h1 h2;rw[Pr] at this;cases this
theorem WE{n:Nat}(b:n<8)(p:List Int→Bool):(Kf n 0 (n+1)).any p=true↔∃s,s<2^n∧p (CZ s)=true:=by
 rw[List.any_eq_true];constructor
 ·rintro⟨l,hl,a⟩;obtain⟨s,hs,rfl⟩:=Tz n b l hl;exact⟨s,hs,a⟩
 ·rintro⟨s,hs,a⟩;exact⟨_,TA n b s hs,a⟩
section
variable{K:Nat}(hK:1000≤K)
include hK
theorem Vi{σ:Type}{I:σ→Prop}{p:List Int→Bool}{n m:Nat}{l:List Int}(g:n<8)(hm:l.length+(m+1)≤n)(b:(List Int)→Int→Int→(List Int)→Int→σ→Option (Bool×(List Int)×σ))
  (ih:∀(t:Nat) (q:List Int) (s:σ),t<n→I s→∃c,I c∧b (l++[(t:Int)]) ((t+1:Nat):Int) (m:Int) q (n:Int) s=some ((KC n m (l++[(t:Int)]) (t+1)).any p,Ka p q (KC n m (l++[(t:Int)]) (t+1)),c)):
  ∀(d k i:Nat) (q:List Int) (s:σ),d=n-m-i→d<k→i≤n→I s→∃c,I c∧
   (E4 b l ((m+1:Nat):Int) (n:Int) k (i:Int) q s).bind (fun z=>Sum.elim (fun a=>some (a.1,a.2.1,a.2.2)) (fun a=>some (false,a.1,a.2)) z)=
   some (((List.range' i d).flatMap fun t:Nat=>KC n m (l++[(t:Int)]) (t+1)).any p,Ka p q ((List.range' i d).flatMap fun t:Nat=>KC n m (l++[(t:Int)]) (t+1)),c)
 |d,0,i,q,s,h,hk,_,_=>by omega
 |0,k+1,i,q,s,h,hk,hi,hs=>by
  refine⟨s,hs,?_⟩;rw[E4.eq_2,BS (by omega) (by omega),cf (df (by omega))];rfl
 |d+1,k+1,i,q,s,h,hk,hi,hs=>by
  have j:(((m+1:Nat):Int)-1)=(m:Int):=by omega
  obtain⟨s1,e,g1⟩:=ih i q s (by omega) hs;rw[E4.eq_2,BS (by omega) (by omega),ct (dt (by omega)),FV (by omega),FV (by simp;omega),BS (by omega) (by omega),BS (by omega) (by omega),j,Dw i,bd g1,List.range'_succ,List.flatMap_cons];cases ha:(KC n m (l++[(i:Int)]) (i+1)).any p with
  |true=>
   refine⟨s1,e,?_⟩;rw[List.any_append,ha,NI p _ _ _ ha,Bool.true_or];rfl
  |false=>
   obtain⟨s2,f,g2⟩:=Vi g hm b ih d k (i+1) (Ka p q (KC n m (l++[(i:Int)]) (i+1))) s1 (by omega) (by omega) (by omega) e;refine⟨s2,f,?_⟩;rw[List.any_append,ha,NH p _ _ _ ha,Bool.false_or,cf rfl,BS (by omega) (by omega)];exact g2
theorem Xc{σ:Type}{I:σ→Prop}{p:List Int→Bool}{n:Nat}(e:n<8)(cb:σ→List Int→Option (Bool×σ))(d:∀s x,I s→x.length≤n→(∀y∈x,0≤y∧y<(n:Int))→∃b,I b∧cb s x=some (p x,b)):
  ∀(m k a:Nat) (l q:List Int) (s:σ),m<k→I s→l.length+m≤n→(∀y∈l,0≤y∧y<(n:Int))→a≤n→∃b,I b∧Ex K cb k l (a:Int) (m:Int) q (n:Int) s=some ((KC n m l a).any p,Ka p q (KC n m l a),b)
 |m,0,a,l,q,s,h,_,_,_,_=>by omega
 |0,k+1,a,l,q,s,h,hs,hl,hb,_=>by
  obtain⟨s1,h1,g⟩:=d s l hs (by omega) hb;refine⟨s1,h1,?_⟩;rw[Ex.eq_2,ct (Le (by omega)),bd g,KC,List.any_cons,List.any_nil,Bool.or_false,Ka,Ka];cases p l<;>rfl
 |m+1,k+1,a,l,q,s,h,hs,hl,hb,f=>by
  rw[Ex.eq_2,cf (LI (by omega)),KC];exact Vi hK (p:=p) e hl (Ex K cb k) (fun t q s i hs=>Xc e cb d m k (t+1) (l++[(t:Int)]) q s (by omega) hs (by simp;omega) (fun y c=>by
   rcases List.mem_append.1 c with c|c
   ·exact hb y c
   ·rw[List.mem_singleton.1 c];omega) (by omega)) (n-m-a) K a q s rfl (by omega) f hs
theorem TB{σ:Type}{I:σ→Prop}{p:List Int→Bool}{n:Nat}(e:n<8)(cb:σ→List Int→Option (Bool×σ))(b:∀s x,I s→x.length≤n→(∀y∈x,0≤y∧y<(n:Int))→∃a,I a∧cb s x=some (p x,a)):
  ∀(d k i:Nat) (q:List Int) (s:σ),n+1=i+d→d<k→I s→∃a,I a∧Fy cb K (n:Int) k false (i:Int) q s=some ((Kf n i d).any p,Ka p q (Kf n i d),a)
 |d,0,i,q,s,h,hk,_=>by omega
 |0,k+1,i,q,s,h,hk,hs=>by
  refine⟨s,hs,?_⟩;rw[Fy.eq_2,cf (df (by omega))];rfl
 |d+1,k+1,i,q,s,h,hk,hs=>by
  obtain⟨s1,c,g1⟩:=Xc hK e cb b i K 0 [] q s (by omega) hs (by simp;omega) (by simp) (by omega);rw[Int.natCast_zero] at g1;rw[Fy.eq_2,ct (dt (by omega)),bd g1];unfold Kf;rw[List.range'_succ,List.flatMap_cons];cases ha:(KC n i [] 0).any p with
  |true=>
   refine⟨s1,c,?_⟩;rw[List.any_append,ha,NI p _ _ _ ha,Bool.true_or];rfl
  |false=>
   obtain⟨s2,f,g2⟩:=TB e cb b d k (i+1) (Ka p q (KC n i [] 0)) s1 (by omega) (by omega) c;refine⟨s2,f,?_⟩;rw[List.any_append,ha,NH p _ _ _ ha,Bool.false_or,cf rfl,BS (by omega) (by omega),Dw i];exact g2
theorem Ub{σ:Type}{I:σ→Prop}{p:List Int→Bool}{n:Nat}(d:n<8)(cb:σ→List Int→Option (Bool×σ))(b:∀s x,I s→x.length≤n→(∀y∈x,0≤y∧y<(n:Int))→∃a,I a∧cb s x=some (p x,a)){s:σ}(hs:I s):
  ∃a,I a∧FR K cb (n:Int) s=some (Ka p [] (Kf n 0 (n+1)),(Kf n 0 (n+1)).any p,a):=by
 obtain⟨s1,c,g1⟩:=TB hK d cb b (n+1) K 0 [] s (by omega) (by omega) hs;refine⟨s1,c,?_⟩;unfold FR;rw[Int.natCast_zero] at g1;rw[BS (by omega) (by omega),bd g1]
end
theorem lz0{α β a:Type}{z:β}{x y:a}:cond (((([]:List α),z).1.length:Int)==0) x y=x:=rfl
theorem bnb(b:Bool):(b !=b)=false:=by cases b<;>rfl
section
variable{K:Nat}(hK:1000≤K)
include hK
theorem AaS{l:List Int}(hl:l.length≤900):Ct K l l=some true:=by
 unfold Ct;have h:DH l l K 0=some (cond (l.all fun _=>true) (.inr ()) (.inl false)):=Ke l (fun m i=>DH l l m (i:Int)) (fun _=>true) false
  (fun m i hi=>by
   show DH l l (m+1) (i:Int)=_;rw[DH.eq_2,ct (dt (by omega)),Cp hi,Cp hi,cf (Ib rfl),BS (by omega) (by omega),Dw i,ct rfl])
  (fun m=>by
   show DH l l (m+1) (l.length:Int)=_;rw[DH.eq_2,cf (df (by omega))]) (by omega)
 rw[cf (Ib rfl),bd h,show(l.all fun _=>true)=true from List.all_eq_true.2 fun _ _=>rfl];rfl
end
def Ia(t:AD)(o:B2):Int:=(t.AB.getD o.Cr.toNat ⟨0,0⟩).Bd
def Lm (t:AD) (o:B2) (k:Nat):Bool:=decide (o.CE≤(t.Ab.getD k []).sum)&&(B4 t).all fun l=>decide (Ia t o≤DD l (t.Ab.getD k []))
def K0(t:AD)(o:B2):List Int:=((List.range t.Ab.length).filter (Lm t o)).map fun k:Nat=>(k:Int)
theorem Qv{t:AD}{o:B2}{x:Int}:x∈K0 t o↔∃k:Nat,k<t.Ab.length∧Lm t o k=true∧x=k:=by
 unfold K0;simp only[List.mem_map,List.mem_filter,List.mem_range];constructor
 ·rintro⟨k,⟨h1,h2⟩,rfl⟩;exact⟨k,h1,h2,rfl⟩
 ·rintro⟨k,h1,h2,rfl⟩;exact⟨k,⟨h1,h2⟩,rfl⟩
theorem Zq{t:AD}{o:B2}{k:Nat}(hk:k<t.Ab.length):(K0 t o).contains (k:Int)=Lm t o k:=by
 rw[Bool.eq_iff_iff,List.contains_iff_mem,Qv];constructor
 ·rintro⟨j,_,h,e⟩;obtain rfl:k=j:=by omega
  exact h
 ·intro h;exact⟨k,hk,h,rfl⟩
theorem Vj(t:AD)(o:B2):(K0 t o).length≤t.Ab.length:=by
 unfold K0;rw[List.length_map];exact Nat.le_trans (List.length_filter_le _ _) (by simp)
def Hy(t:AD):List (List Int):=t.AE.map (K0 t)
def WG:List (List Int)→List Int→List Int→Bool
 |[],_,[]=>true
 |s::S,out,x::xs=>s.contains x&&(!out.contains x&&WG S (out++[x]) xs)
 |_,_,_=>false
structure R7 (t:AD) (d:List Int):Prop where
 is:WG (Hy t) [] d=true
 first:∀d',WG (Hy t) [] d'=true→lexB d' d=false
theorem R7.uniq{t:AD}{d d':List Int}(h:R7 t d)(g:R7 t d'):d=d':=MJ _ _ (g.first d h.is) (h.first d' g.is)
section
variable{K:Nat}(hK:1000≤K)
include hK
theorem Zr{t:AD}(c:OkT t){L:List (List Int)}(j:Tr t L){m:List (List Int×Int)}(hm:HU t m){o:B2}(aC:0≤o.Cr∧o.Cr<t.AB.length){k:Nat}(hk:k<t.Ab.length):
  ∃e,HU t e∧Gz K (wk t (L.map (BT t)) m) o (k:Int)=some (Lm t o k,e):=by
 have d:=c.kl;have f:k<(wk t (L.map (BT t)) m).weights.length:=by show k<(List.map _ _).length;simpa using hk
 have v:(wk t (L.map (BT t)) m).weights[k]'f=(t.Ab.getD k []).sum:=by rw[Df _ hk];simp[wk]
 unfold Gz Lm;rw[Cp f,v]
 by_cases hw:(t.Ab.getD k []).sum<o.CE
 ·exact⟨m,hm,by rw[ct (dt hw),df (by omega),Bool.false_and];rfl⟩
 rw[cf (df hw),dt (by omega),Bool.true_and];obtain⟨g,q⟩:∃g:Nat,o.Cr=g:=⟨o.Cr.toNat,by omega⟩;have i:g<t.AB.length:=by omega
 have r:Ia t o=t.AB[g].Bd:=by unfold Ia;rw[q,Int.toNat_natCast,Df _ i]
 have s:∀l:List Int,DN (wk t (L.map (BT t)) m) o (k:Int) (BT t l,arr (Bz t l))=some (if Ia t o≤DD l (t.Ab.getD k []) then (true,false) else (false,true)):=fun l=>by
  have h1:idx [(BT t l).a0,(BT t l).a1,(BT t l).a2] (k:Int)=some (DD l (t.Ab.getD k [])):=by
   have:=JX (l:=t.Ab.map (DD l)) (by simpa using d) (k:=k) (by simpa using hk);rw[List.getElem_map] at this;rw[Df _ hk];exact this
  unfold DN;rw[bd h1,q];show(idx t.AB (g:Int)).bind _=_;rw[Cp i,r]
  by_cases h2:DD l (t.Ab.getD k [])<t.AB[g].Bd
  ·rw[ct (dt h2),if_neg (by omega)]
  ·rw[cf (df h2),if_pos (by omega)]
 have hr:∃b,run (fun(st:Bool) (x:Bo×Bo)=>cond st none (DN (wk t (L.map (BT t)) m) o (k:Int) x)) (J6 t [] L) false=some (b, !((J6 t [] L).all fun x=>decide (Ia t o≤([x.1.a0,x.1.a1,x.1.a2]:List Int).getD k 0))):=by
  have n:∀x∈J6 t [] L,DN (wk t (L.map (BT t)) m) o (k:Int) x=some (if Ia t o≤([x.1.a0,x.1.a1,x.1.a2]:List Int).getD k 0 then (true,false) else (false,true)):=fun x p=>by
   obtain⟨l,_,_,rfl⟩:=KL.1 p;rw[s l];have h1:=JX (l:=t.Ab.map (DD l)) (by simpa using d) (k:=k) (by simpa using hk);rw[idx_eq (show k<([(arr (t.Ab.map (DD l))).a0,(arr (t.Ab.map (DD l))).a1,(arr (t.Ab.map (DD l))).a2]:List Int).length by simp;omega),List.getElem_map] at h1;have h2:([(BT t l).a0,(BT t l).a1,(BT t l).a2]:List Int).getD k 0=DD l (t.Ab.getD k []):=by
    rw[Df _ hk,←Option.some.inj h1,Df _ (show k<([(BT t l).a0,(BT t l).a1,(BT t l).a2]:List Int).length by simp;omega)];rfl
   show some _=some (if Ia t o≤([(BT t l).a0,(BT t l).a1,(BT t l).a2]:List Int).getD k 0 then (true,false) else (false,true));rw[h2]
  generalize J6 t [] L=X at n
  induction X with
  |nil=>exact⟨true,rfl⟩
  |cons x X ih=>
   obtain⟨b,hb⟩:=ih fun y w=>n y (List.mem_cons_of_mem _ w);rw[run];show∃b,(DN (wk t (L.map (BT t)) m) o (k:Int) x).bind _=_;rw[bd (n x (List.mem_cons_self ..)),List.all_cons]
   by_cases h1:Ia t o≤([x.1.a0,x.1.a1,x.1.a2]:List Int).getD k 0
   ·rw[if_pos h1,dt h1,Bool.true_and];exact⟨b,hb⟩
   ·rw[if_neg h1,df h1,Bool.false_and];exact⟨false,rfl⟩
 obtain⟨b,hr⟩:=hr;obtain⟨e,a,z⟩:=OC hK c (out:=[]) (by simp) _ j.len hm hr;refine⟨e,a,?_⟩;rw[bd z];have aA:((J6 t [] L).all fun x=>decide (Ia t o≤([x.1.a0,x.1.a1,x.1.a2]:List Int).getD k 0))=(B4 t).all fun l=>decide (Ia t o≤DD l (t.Ab.getD k [])):=by
  have hs:∀l:List Int,([(BT t l).a0,(BT t l).a1,(BT t l).a2]:List Int).getD k 0=DD l (t.Ab.getD k []):=fun l=>by
   have h1:=JX (l:=t.Ab.map (DD l)) (by simpa using d) (k:=k) (by simpa using hk);rw[idx_eq (show k<([(arr (t.Ab.map (DD l))).a0,(arr (t.Ab.map (DD l))).a1,(arr (t.Ab.map (DD l))).a2]:List Int).length by simp;omega),List.getElem_map] at h1;rw[Df _ hk,←Option.some.inj h1,Df _ (show k<([(BT t l).a0,(BT t l).a1,(BT t l).a2]:List Int).length by simp;omega)];rfl
  rw[Bool.eq_iff_iff,List.all_eq_true,List.all_eq_true];constructor
  ·intro h l hl;have a:=(Jv c).1 hl;unfold G1 at a;rw[Bool.and_eq_true] at a;obtain⟨l',aB,u⟩:=j.all l a.1;have:=h (BT t l',arr (Bz t l')) (KL.2 ⟨l',aB,by rw[L5 c u];exact a.2,rfl⟩);rw[←hs l,←u];exact this
  ·intro h x p;obtain⟨l,h1,h2,rfl⟩:=KL.1 p;have:=h l ((Jv c).2 (by unfold G1;rw[j.UH l h1,h2];rfl));rw[←hs l] at this;exact this
 rw[aA];cases (B4 t).all fun l=>decide (Ia t o≤DD l (t.Ab.getD k []))<;>rfl
theorem Uc{t:AD}(l:OkT t){L:List (List Int)}(x:Tr t L){m:List (List Int×Int)}(hm:HU t m):∃a,HU t a∧E3 K (wk t (L.map (BT t)) m)=some (Hy t,a):=by
 have aA:=l.kl;have aB:=l.ol;have aC:((wk t (L.map (BT t)) m).weights.length:Int)=t.Ab.length:=by show((List.map _ _).length:Int)=_;simp
 have s:(wk t (L.map (BT t)) m).AN=t.AE:=rfl;have u:∀(o:B2),o∈t.AE→∀(d n i:Nat) (acc:List Int) (b:List (List Int×Int)),t.Ab.length=i+d→d<n→acc.length≤i→HU t b→
   ∃c,HU t c∧C9 K (wk t (L.map (BT t)) m) o n acc (i:Int) b=some (acc++((List.range' i d).filter (Lm t o)).map (fun k:Nat=>(k:Int)),c):=by
  intro o y d
  induction d with
  |zero=>
   intro n i acc b p q ha e;obtain⟨n,rfl⟩:∃a,n=a+1:=⟨n-1,by omega⟩;exact⟨b,e,by rw[C9.eq_2,cf (df (by omega))];simp⟩
  |succ d ih=>
   intro n i acc b p q ha e;obtain⟨n,rfl⟩:∃a,n=a+1:=⟨n-1,by omega⟩;obtain⟨c,j,g⟩:=Zr hK l x e (l.order o y).1 (k:=i) (by omega);rw[C9.eq_2,ct (dt (by omega)),List.range'_succ,List.filter_cons];show∃h,HU t h∧(Gz K (wk t (L.map (BT t)) b) o (i:Int)).bind _=_;rw[bd g];cases hs:Lm t o i with
   |true=>
    obtain⟨h,f,g3⟩:=ih n (i+1) (acc++[(i:Int)]) c (by omega) (by omega) (by simp;omega) j;refine⟨h,f,?_⟩;rw[ct rfl,FV (by simp;omega),BS (by omega) (by omega),Dw i];show C9 K (wk t (L.map (BT t)) m) o n (acc++[(i:Int)]) ((i+1:Nat):Int) c=_;rw[g3,if_pos rfl,List.map_cons,List.append_assoc];rfl
   |false=>
    obtain⟨h,f,g3⟩:=ih n (i+1) acc c (by omega) (by omega) (by omega) j;refine⟨h,f,?_⟩;rw[cf rfl,BS (by omega) (by omega),Dw i];show C9 K (wk t (L.map (BT t)) m) o n acc ((i+1:Nat):Int) c=_;rw[g3,if_neg (by simp)]
 have r:∀(d n i:Nat) (acc:List (List Int)) (b:List (List Int×Int)),t.AE.length=i+d→d<n→acc.length≤i→HU t b→
   ∃c,HU t c∧Du K (wk t (L.map (BT t)) m) n acc (i:Int) b=some (acc++(t.AE.drop i).map (K0 t),c):=by
  intro d
  induction d with
  |zero=>
   intro n i acc b p q ha e;obtain⟨n,rfl⟩:∃a,n=a+1:=⟨n-1,by omega⟩;exact⟨b,e,by rw[Du.eq_2,s,cf (df (by omega)),List.drop_eq_nil_of_le (by omega)];simp⟩
  |succ d ih=>
   intro n i acc b p q ha e;obtain⟨n,rfl⟩:∃a,n=a+1:=⟨n-1,by omega⟩;have hi:i<t.AE.length:=by omega
   obtain⟨c,j,g2⟩:=u _ (List.getElem_mem hi) t.Ab.length K 0 [] b (by omega) (by omega) (by simp) e;obtain⟨h,f,g3⟩:=ih n (i+1) (acc++[K0 t t.AE[i]]) c (by omega) (by omega) (by simp;omega) j;refine⟨h,f,?_⟩;rw[Int.natCast_zero,List.nil_append,←List.range_eq_range'] at g2;rw[Du.eq_2,s,ct (dt (by omega)),Cp hi,bd g2,FV (by simp;omega),BS (by omega) (by omega),Dw i];have v:Du K (wk t (L.map (BT t)) m) n (acc++[K0 t t.AE[i]]) ((i+1:Nat):Int) c=_:=g3;rw[List.drop_eq_getElem_cons hi,List.map_cons];refine v.trans ?_;rw[List.append_assoc];rfl
 obtain⟨a,w,g⟩:=r t.AE.length K 0 [] m (by omega) (by omega) (by simp) hm;refine⟨a,w,?_⟩;unfold E3;rw[Int.natCast_zero,List.nil_append,List.drop_zero] at g;have z:Du K (wk t (L.map (BT t)) m) K [] 0 (wk t (L.map (BT t)) m).known=some (Hy t,a):=g;rw[bd z]
end
theorem Lc(t:AD):(Hy t).length=t.AE.length:=List.length_map ..
theorem NJ{t:AD}{i:Nat}(hi:i<t.AE.length):(Hy t)[i]'(by rw[Lc];exact hi)=K0 t t.AE[i]:=by simp[Hy]
section
variable{K:Nat}(hK:1000≤K)
include hK
theorem WH{t:AD}(a:OkT t){i k:Nat}(hi:i<t.AE.length)(hk:k<t.Ab.length):Ho K t (B4 t) (i:Int) (k:Int)=some (Lm t t.AE[i] k):=by
 have o:=L9 hK a;have p:=(a.order _ (List.getElem_mem hi)).1;obtain⟨g,e⟩:∃g:Nat,t.AE[i].Cr=g:=⟨t.AE[i].Cr.toNat,by omega⟩;have d:g<t.AB.length:=by omega
 have f:Ia t t.AE[i]=t.AB[g].Bd:=by unfold Ia;rw[e,Int.toNat_natCast,Df _ d]
 unfold Ho;rw[Cp hi];have hl:Ds K t (B4 t) (k:Int) t.AE[i] K 0=some (cond ((B4 t).all fun l=>decide (Ia t t.AE[i]≤DD l (t.Ab.getD k []))) (.inr ()) (.inl false)):=
  Ke (B4 t) (fun m j=>Ds K t (B4 t) (k:Int) t.AE[i] m (j:Int)) (fun l=>decide (Ia t t.AE[i]≤DD l (t.Ab.getD k []))) false
   (fun m j hj=>by
    show Ds K t (B4 t) (k:Int) t.AE[i] (m+1) (j:Int)=_;have n:=ML hK a (List.getElem_mem hj);have b:D5 K (B4 t)[j] t.Ab[k]=some (DD (B4 t)[j] t.Ab[k]):=Nu hK (c:=t.C) a.c n hk;rw[Ds.eq_2,ct (dt (by omega)),Cp hj,Cp hk,bd b,e,Cp d,f,Df _ hk]
    by_cases h:DD (B4 t)[j] t.Ab[k]<t.AB[g].Bd
    ·rw[ct (dt h),df (by omega),cf rfl]
    ·rw[cf (df h),dt (by omega),BS (by omega) (by omega),Dw j,ct rfl])
   (fun m=>by
    show Ds K t (B4 t) (k:Int) t.AE[i] (m+1) ((B4 t).length:Int)=_;rw[Ds.eq_2,cf (df (by omega))]) (by omega)
 rw[bd hl];unfold Lm;cases (B4 t).all fun l=>decide (Ia t t.AE[i]≤DD l (t.Ab.getD k [])) with
 |false=>rw[cf rfl,Bool.and_false];rfl
 |true=>
  rw[ct rfl,Bool.and_true];show(EB K t (k:Int)).bind _=_;rw[bd (Oz hK a hk),Df _ hk]
end
theorem R8{a:List Int}{m:Nat}(h:m<a.length):a.toArray[m]! =a[m]:=by
 rw[getElem!_pos a.toArray m (by simpa using h)];simp
theorem Ol{a:List Int}(hs:a.Pairwise (· ≤·)):∀m,m≤a.length→(Lib.compactUpTo a.toArray m).Pairwise (· <·)∧∀x,x∈Lib.compactUpTo a.toArray m↔x∈a.take m
 |0,_=>by simp[Lib.compactUpTo]
 |m+1,h=>by
  obtain⟨h1,h2⟩:=Ol hs m (by omega);have hm:m<a.length:=by omega
  rw[Lib.compactUpTo_succ,List.take_succ_eq_append_getElem hm,R8 hm];have hle:∀x∈a.take m,x≤a[m]:=fun x b=>by
   obtain⟨i,hi,rfl⟩:=List.mem_iff_getElem.1 b;rw[List.getElem_take];simp at hi;exact(List.pairwise_iff_getElem.1 hs) i m _ hm (by omega)
  by_cases hk:Lib.keeps a.toArray m=true
  ·rw[if_pos hk];refine⟨?_,fun x=>by rw[List.mem_append,List.mem_append,h2]⟩;rw[List.pairwise_append];refine⟨h1,by simp,fun x b y k=>?_⟩;obtain rfl:y=a[m]:=by simpa using k
   have c:=(h2 x).1 b;have f:=hle x c;simp only[Lib.keeps,decide_eq_true_eq] at hk;rcases hk with rfl|hk
   ·simp at c
   ·have g:0<m:=by
     rcases Nat.eq_zero_or_pos m with rfl|h0
     ·simp at c
     ·exact h0
    rw[R8 hm,R8 (by omega:m-1<a.length)] at hk;obtain⟨i,hi,rfl⟩:=List.mem_iff_getElem.1 c;rw[List.getElem_take] at f⊢;simp at hi;have l:a[m-1]≤a[m]:=(List.pairwise_iff_getElem.1 hs) (m-1) m _ hm (by omega);have n:a[i]≤a[m-1]:=by
     by_cases e:i=m-1
     ·subst e;exact Int.le_refl _
     ·exact(List.pairwise_iff_getElem.1 hs) i (m-1) _ _ (by omega)
    have o:a[m]≠a[m-1]:=hk;show a[i]<a[m];omega
  ·rw[if_neg hk,List.append_nil];refine⟨h1,fun x=>?_⟩;rw[h2];have d:¬(m=0∨a.toArray[m]!≠a.toArray[m-1]!):=by simpa[Lib.keeps] using hk
   have g:0<m:=by
    rcases Nat.eq_zero_or_pos m with rfl|h0
    ·exact absurd (.inl rfl) d
    ·exact h0
   have he:a.toArray[m]! =a.toArray[m-1]!:=Decidable.byContradiction fun e=>d (.inr e);rw[R8 hm,R8 (by omega:m-1<a.length)] at he;have j:a[m]∈a.take m:=by
    rw[he,List.mem_iff_getElem];exact⟨m-1,by simp;omega,by simp⟩
   rw[List.mem_append];constructor
   ·exact .inl
   ·rintro(b|b)
    ·exact b
    ·rw[List.mem_singleton.1 b];exact j
theorem R9(l:List Int):(GU l).Pairwise (· ≤·):=by rw[MI];exact Lg l
theorem Vk(l:List Int)(x:Int):x∈GU l↔x∈l:=by rw[MI];exact(KZ l).mem_iff
theorem Vl(l:List Int):(GU l).length=l.length:=by rw[MI];exact(KZ l).length_eq
def distinct (n:Nat) (l:List Int):Nat:=((List.range n).filter fun k:Nat=>l.contains (k:Int)).length
theorem Su{n:Nat}{l:List Int}(h:∀x∈l,0≤x∧x<(n:Int)):(Lib.compact (GU l)).length=distinct n l:=by
 obtain⟨h1,h2⟩:=Ol (R9 l) _ (Nat.le_refl _);have e:Lib.compact (GU l)=Lib.compactUpTo (GU l).toArray (GU l).length:=rfl;rw[←e] at h1 h2;have d:Lib.compact (GU l)=((List.range n).filter fun k:Nat=>l.contains (k:Int)).map fun k:Nat=>(k:Int):=by
  refine MK h1 ?_ fun x=>?_
  ·rw[List.pairwise_map];have h:(List.range n).Pairwise (fun a b:Nat=>a<b):=List.pairwise_lt_range;exact(h.sublist (List.filter_sublist)).imp fun h=>by omega
  ·rw[h2,List.take_length,Vk,List.mem_map];constructor
   ·intro c;have:=h x c;refine⟨x.toNat,List.mem_filter.2 ⟨List.mem_range.2 (by omega),?_⟩,by omega⟩;rw[List.contains_iff_mem,Int.toNat_of_nonneg (by omega)];exact c
   ·rintro⟨k,hk,rfl⟩;exact List.contains_iff_mem.1 (List.mem_filter.1 hk).2
 rw[d,List.length_map];rfl
def union (t:AD) (l:List Int):List Int:=l.flatMap fun i=>(Hy t).getD i.toNat []
def F7(t:AD)(l:List Int):Bool:=decide (distinct t.Ab.length (union t l)<l.length)
theorem Qw{t:AD}{l:List Int}{x:Int}:x∈union t l↔∃i∈l,x∈(Hy t).getD i.toNat []:=by unfold union;rw[List.mem_flatMap]
theorem Sv{t:AD}(i:Nat):∀x∈(Hy t).getD i [],0≤x∧x<(t.Ab.length:Int):=fun x a=>by
 by_cases hi:i<(Hy t).length
 ·rw[Df _ hi] at a;rw[Lc] at hi;rw[NJ hi] at a;obtain⟨k,hk,_,e⟩:=Qv.1 a;omega
 ·rw[List.getD_eq_getElem?_getD,List.getElem?_eq_none (by omega)] at a;simp at a
theorem WI{t:AD}(i:Nat):((Hy t).getD i []).length≤t.Ab.length:=by
 by_cases hi:i<(Hy t).length
 ·rw[Df _ hi];rw[Lc] at hi;rw[NJ hi];exact Vj t _
 ·rw[List.getD_eq_getElem?_getD,List.getElem?_eq_none (by omega)];simp
theorem oe{α β b:Type}{a:α}{z:b}{x:β}{f:α→β}:Option.elim (some a,z).1 x f=f a:=rfl
theorem pe1{α b:Type}{a:α}{x y:b}:cond ((a,(0:Int)).2 !=0) x y=y:=rfl
theorem pe0{α b:Type}{a:α}{x y:b}:cond ((a,(0:Int)).2==0) x y=x:=rfl
section
variable{K:Nat}(hK:1000≤K)
include hK
theorem TD{t:AD}(b:OkT t)(m:List (List Int×Int))(l:List Int)(hl:l.length≤100)(hb:∀x∈l,0≤x∧x<(t.AE.length:Int)):∀(d n i:Nat) (acc:List Int),l.length=i+d→d<n→acc.length≤3*i→
  ∃z,Ej l (Hy t,m) n acc (i:Int)=some (acc++z)∧z=union t (l.drop i)∧(acc++z).length≤3*l.length
 |d,0,i,acc,h,c,_=>by omega
 |0,n+1,i,acc,h,c,ha=>by
  refine⟨[],?_,?_,by simp;omega⟩
  ·rw[Ej.eq_2,cf (df (by omega)),List.append_nil]
  ·rw[List.drop_eq_nil_of_le (by omega)];rfl
 |d+1,n+1,i,acc,h,c,ha=>by
  have g:=b.kl;have hi:i<l.length:=by omega
  have j:=hb _ (List.getElem_mem hi);obtain⟨q,e⟩:∃q:Nat,l[i]=(q:Int):=⟨l[i].toNat,by omega⟩;have a:q<(Hy t).length:=by rw[Lc];omega
  have f:=WI (t:=t) q;rw[Df _ a] at f;obtain⟨z,g1,g2,g3⟩:=TD b m l hl hb d n (i+1) (acc++(Hy t)[q]) (by omega) (by omega) (by simp;omega);refine⟨(Hy t)[q]++z,?_,?_,by rw[←List.append_assoc];exact g3⟩
  ·rw[Ej.eq_2,ct (dt (by omega)),Cp hi,e];show((idx (Hy t) (q:Int)).bind _)=_;rw[Cp a,FV (by omega),BS (by omega) (by omega),Dw i,g1,List.append_assoc]
  ·rw[List.drop_eq_getElem_cons hi];show _=List.flatMap _ (l[i]::l.drop (i+1));rw[List.flatMap_cons,e,Int.toNat_natCast,Df _ a,g2];rfl
theorem TE{t:AD}(a:OkT t){L:List (List Int)}(f:Tr t L){m:List (List Int×Int)}(hm:HU t m){l:List Int}(hl:l.length≤100)(hb:∀x∈l,0≤x∧x<(t.AE.length:Int)):
  ∃b,HU t b∧Fh K (wk t (L.map (BT t)) m) l=some (F7 t l,b):=by
 obtain⟨c,d,g1⟩:=Uc hK a f hm;obtain⟨z,g2,g3,g4⟩:=TD hK a c l hl hb l.length K 0 [] (by omega) (by omega) (by simp);rw[Int.natCast_zero,List.nil_append] at g2;rw[List.nil_append] at g4;refine⟨c,d,?_⟩;unfold Fh;rw[bd g1,bd g2,FV (by omega),Vl,FV (by omega),Su (n:=t.Ab.length)]
 ·rw[List.drop_zero] at g3;rw[g3];unfold F7
  congr 2
  rw[Bool.eq_iff_iff,decide_eq_true_eq,decide_eq_true_eq];omega
 ·intro x e;rw[g3,Qw] at e;obtain⟨i,_,hi⟩:=e;exact Sv _ x hi
theorem Zs{t:AD}(h:IJ t=true):∃x e,Ha K t=some (x,e)∧(DZ t≠0→x=[]∧e=DZ t)∧(DZ t=0→(e=0∧LK t.AE.length (F7 t) x∨e=7∧x=[]∧∀s,s<2^t.AE.length→F7 t (CZ s)=false)):=by
 unfold Ha;rcases NQ hK h true with⟨h0,_,L,m,f,hm,e⟩|⟨h0,e⟩
 ·have b:=Ju h (G2 (Gt h0).1).1;have k:=b.ol;obtain⟨q,o,g1⟩:=Ub hK (n:=t.AE.length) (by omega) (I:=HU t) (p:=F7 t) (fun(st:(List (List Int×Int))) (x:(List Int))=>(E7 K x (wk t (L.map (BT t)) st)).bind fun r=>some (r.1,r.2)) (fun s x hs u hb=>by
   obtain⟨i,c,g⟩:=TE hK b f hs (l:=x) (by omega) hb;refine⟨i,c,?_⟩;show(E7 K x (wk t (L.map (BT t)) s)).bind _=_;unfold E7;rw[bd (bd g)]) hm
  have d:FR K (fun(st:(List (List Int×Int))) (x:(List Int))=>(E7 K x (⟨(wk t (L.map (BT t)) m).Av,(wk t (L.map (BT t)) m).Aw,(wk t (L.map (BT t)) m).As,(wk t (L.map (BT t)) m).BV,(wk t (L.map (BT t)) m).AM,(wk t (L.map (BT t)) m).AN,(wk t (L.map (BT t)) m).Bf,(wk t (L.map (BT t)) m).weights,(wk t (L.map (BT t)) m).B5,st⟩:B7)).bind fun r=>some (r.1,r.2)) (t.AE.length:Int) (wk t (L.map (BT t)) m).known=_:=g1;rw[bd e,oe,pe1,bd d];cases ha:(Kf t.AE.length 0 (t.AE.length+1)).any (F7 t) with
  |true=>exact⟨_,0,rfl,fun g=>absurd h0 g,fun _=>.inl ⟨rfl,WD (by omega) [] ha⟩⟩
  |false=>
   refine⟨[],7,rfl,fun g=>absurd h0 g,fun _=>.inr ⟨rfl,rfl,fun s hs=>?_⟩⟩;rw[Bool.eq_false_iff];intro j;rw[(WE (by omega) _).2 ⟨s,hs,j⟩] at ha;cases ha
 ·have a:DZ t≠0:=fun g=>h0 ⟨g,rfl⟩;refine⟨[],DZ t,?_,fun _=>⟨rfl,rfl⟩,fun g=>absurd g a⟩;rw[if_neg (by simp)] at e;rw[bd e];show cond (_ !=0) _ _=_;rw[ct (J1 a)]
theorem Sa{t:AD}(h:IJ t=true){l:List Int}(hl:l.length≤100):HR K t l=some (decide (DZ t=0)&&(F9 t.AE.length 0 l&&F7 t l)):=by
 have hlen:=Ki h;have d:t.AE.length≤100:=hlen.2.2.1;unfold HR;rcases NQ hK h true with⟨h0,_,L,m,b,hm,e⟩|⟨h0,e⟩
 ·have c:=Ju h (G2 (Gt h0).1).1;rw[bd e,dt h0,Bool.true_and,oe,pe0,bd (SU hK (by omega) (by omega))];cases hr:F9 t.AE.length 0 l with
  |false=>rfl
  |true=>
   obtain⟨f,_,g⟩:=TE hK c b hm hl (Lp hr);rw[ct rfl,bd g,Bool.true_and]
 ·have a:DZ t≠0:=fun g=>h0 ⟨g,rfl⟩;rw[if_neg (by simp)] at e;rw[bd e,df a,Bool.false_and];show cond (_==0) _ _=_;rw[cf (LI a)]
theorem Ps{t:AD}(a:OkT t){s:Nat}{k:Nat}(hk:k<t.Ab.length):∀(d m i:Nat) (b:Bool),t.AE.length=i+d→d<m→
  Dn K t (B4 t) (s:Int) (k:Int) m b (i:Int)=some (b||(List.range' i d).any fun i=>s.testBit i&&((Hy t).getD i []).contains (k:Int))
 |d,0,i,b,h,hm=>by omega
 |0,m+1,i,b,h,hm=>by
  rw[Dn.eq_2,cf (df (by omega))];simp
 |d+1,m+1,i,b,h,hm=>by
  have g:=a.ol;have hi:i<t.AE.length:=by omega
  have c:i<(Hy t).length:=by rw[Lc];omega
  rw[Dn.eq_2,ct (dt (by omega)),List.range'_succ,List.any_cons];cases b with
  |true=>rw[ct rfl,BS (by omega) (by omega),Dw i,Ps a hk d m (i+1) true (by omega) (by omega)];simp
  |false=>
   have f:(0:Int)≤((s/2^i:Nat):Int):=Int.natCast_nonneg _;have e:((((s/2^i:Nat):Int)%2)==1)=s.testBit i:=by
    rw[←tb,Bool.eq_iff_iff,beq_iff_eq,beq_iff_eq];omega
   rw[cf rfl,UO (by omega),Rx (by omega),NR,TQ f (by omega),e,Bool.false_or];cases s.testBit i with
   |true=>
    rw[ct rfl,bd (WH hK a hi hk),BS (by omega) (by omega),Dw i,Ps a hk d m (i+1) _ (by omega) (by omega),Df _ c,NJ hi,Zq hk,Bool.true_and]
   |false=>
    rw[cf rfl,BS (by omega) (by omega),Dw i,Ps a hk d m (i+1) _ (by omega) (by omega),Bool.false_and]
theorem Pt{t:AD}(b:OkT t){s:Nat}(hs:s<2^t.AE.length):EK K t (B4 t) (s:Int)=some (F7 t (CZ s)):=by
 have o:=b.kl;have f:=b.ol;have p:2^t.AE.length≤2^3:=Nat.pow_le_pow_right (by omega) f;have j:∀k,k<t.Ab.length→((List.range' 0 t.AE.length).any fun i=>s.testBit i&&((Hy t).getD i []).contains (k:Int))=(union t (CZ s)).contains (k:Int):=fun k hk=>by
  rw[Bool.eq_iff_iff,List.any_eq_true,List.contains_iff_mem,Qw];constructor
  ·rintro⟨i,hi,h⟩;rw[Bool.and_eq_true] at h;rw[List.mem_range'_1] at hi;exact⟨(i:Int),LJ.2 ⟨i,by omega,h.1,rfl⟩,by rw[Int.toNat_natCast];exact List.contains_iff_mem.1 h.2⟩
  ·rintro⟨x,l,h⟩;obtain⟨i,hi,hb,rfl⟩:=LJ.1 l;rw[Int.toNat_natCast] at h;have:=UP hs hb;exact⟨i,List.mem_range'_1.2 ⟨by omega,by omega⟩,by rw[hb,Bool.true_and];exact List.contains_iff_mem.2 h⟩
 have a:∀(d m i:Nat) (c:Nat),t.Ab.length=i+d→d<m→c≤i→DM K t (B4 t) (s:Int) m (c:Int) (i:Int)=some (((c+((List.range' i d).filter fun k:Nat=>(union t (CZ s)).contains (k:Int)).length:Nat)):Int):=by
  intro d
  induction d with
  |zero=>
   intro m i c h hm n;obtain⟨m,rfl⟩:∃e,m=e+1:=⟨m-1,by omega⟩;rw[DM.eq_2,cf (df (by omega))];simp
  |succ d ih=>
   intro m i c h hm n;obtain⟨m,rfl⟩:∃e,m=e+1:=⟨m-1,by omega⟩;have g:=Ps hK b (s:=s) (k:=i) (by omega) t.AE.length K 0 false (by omega) (by omega);rw[Int.natCast_zero,Bool.false_or,j i (by omega)] at g;rw[DM.eq_2,ct (dt (by omega)),bd g,List.range'_succ,List.filter_cons];cases (union t (CZ s)).contains (i:Int) with
   |true=>rw[ct rfl,BS (by omega) (by omega),BS (by omega) (by omega),Dw i,Dw c,ih m (i+1) (c+1) (by omega) (by omega) (by omega),if_pos rfl,List.length_cons];congr 2;omega
   |false=>rw[cf rfl,BS (by omega) (by omega),Dw i,ih m (i+1) c (by omega) (by omega) (by omega),if_neg (by simp)]
 have g:=a t.Ab.length K 0 0 (by omega) (by omega) (by omega);rw[Int.natCast_zero,Nat.zero_add,←List.range_eq_range'] at g;unfold EK;rw[bd g,bd (Vg hK (by omega))];unfold F7 distinct
 congr 1
 rw[Bool.eq_iff_iff,decide_eq_true_eq,decide_eq_true_eq];omega
omit hK in
theorem Vm (t:AD):F7 t (CZ 0)=false:=by
 have:CZ 0=[]:=by decide
 rw[this];rfl
theorem KQ{t:AD}(c:OkT t):∀(d m i:Nat) (b:List Int) (f:Bool),2^t.AE.length=i+d→d<m→b.length≤8→(f=true→(∃s,s<2^t.AE.length∧CZ s=b)∧F7 t b=true∧∀s,s<i→F7 t (CZ s)=true→sh (CZ s) b=false)→(f=false→b=[]∧∀s,s<i→F7 t (CZ s)=false)→
  ∃x g,CQ K t (B4 t) m b f (i:Int)=some (x,g)∧(g=true∧LK t.AE.length (F7 t) x∨g=false∧x=[]∧∀s,s<2^t.AE.length→F7 t (CZ s)=false)
 |d,0,i,b,f,h,hm,_,_,_=>by omega
 |0,m+1,i,b,f,h,hm,hb,h1,h2=>by
  have n:=c.ol;obtain⟨s1,s2,l,p,q,_⟩:=T3 t.AE.length (by omega);refine⟨b,f,by rw[CQ.eq_2,bd s1,bd s2,l,cf (df (by omega))],?_⟩;cases f with
  |true=>obtain⟨a1,a2,a3⟩:=h1 rfl;exact .inl ⟨rfl,a1,a2,fun s hs=>a3 s (by omega)⟩
  |false=>obtain⟨a1,a2⟩:=h2 rfl;exact .inr ⟨rfl,a1,fun s hs=>a2 s (by omega)⟩
 |d+1,m+1,i,b,f,h,hm,hb,h1,h2=>by
  have n:=c.ol;obtain⟨s1,s2,l,p,q,_⟩:=T3 t.AE.length (by omega);have r:=Vg hK (s:=i) (by omega);have hlen:=WB i;have o:=Pt hK c (s:=i) (by omega);rw[CQ.eq_2,bd s1,bd s2,l,ct (dt (by omega)),bd r];cases f with
  |false=>
   obtain⟨a1,a2⟩:=h2 rfl;rw[nf,bd o];cases hs:F7 t (CZ i) with
   |true=>
    rw[ct rfl,BS (by omega) (by omega),Dw i];refine KQ c d m (i+1) _ true (by omega) (by omega) hlen (fun _=>⟨⟨i,by omega,rfl⟩,hs,fun s j a=>?_⟩) (fun g=>by cases g)
    by_cases e:s=i
    ·subst e;exact Pr _
    ·rw[a2 s (by omega)] at a;cases a
   |false=>
    rw[cf rfl,BS (by omega) (by omega),Dw i];refine KQ c d m (i+1) _ false (by omega) (by omega) hb (fun g=>by cases g) (fun _=>⟨a1,fun s j=>?_⟩)
    by_cases e:s=i
    ·subst e;exact hs
    ·exact a2 s (by omega)
  |true=>
   obtain⟨a1,a2,a3⟩:=h1 rfl;rw[nt,bd (Vh hK (by omega) (by omega))];have keep:¬(sh (CZ i) b=true∧F7 t (CZ i)=true)→∀s,s<i+1→F7 t (CZ s)=true→sh (CZ s) b=false:=fun u s j a=>by
    by_cases e:s=i
    ·subst e;rw[Bool.eq_false_iff];exact fun g=>u ⟨g,a⟩
    ·exact a3 s (by omega) a
   cases k:sh (CZ i) b with
   |false=>
    rw[cf rfl,BS (by omega) (by omega),Dw i];exact KQ c d m (i+1) _ true (by omega) (by omega) hb (fun _=>⟨a1,a2,keep (by rw[k];simp)⟩) (fun g=>by cases g)
   |true=>
    rw[ct rfl,bd o];cases hs:F7 t (CZ i) with
    |false=>
     rw[cf rfl,BS (by omega) (by omega),Dw i];exact KQ c d m (i+1) _ true (by omega) (by omega) hb (fun _=>⟨a1,a2,keep (by rw[hs];simp)⟩) (fun g=>by cases g)
    |true=>
     rw[ct rfl,BS (by omega) (by omega),Dw i];refine KQ c d m (i+1) _ true (by omega) (by omega) hlen (fun _=>⟨⟨i,by omega,rfl⟩,hs,fun s j a=>?_⟩) (fun g=>by cases g)
     by_cases e:s=i
     ·subst e;exact Pr _
     ·rw[Bool.eq_false_iff];intro g;have:=a3 s (by omega) a;rw[R4 g k] at this;cases this
theorem WJ{t:AD}(a:OkT t):∃x g,EV K t (B4 t)=some (x,g)∧(g=true∧LK t.AE.length (F7 t) x∨g=false∧x=[]∧∀s,s<2^t.AE.length→F7 t (CZ s)=false):=by
 have b:=a.ol;have e:2^t.AE.length≤2^3:=Nat.pow_le_pow_right (by omega) b;have d:=Nat.two_pow_pos t.AE.length;obtain⟨x,g,g1,g2⟩:=KQ hK a (2^t.AE.length-1) K 1 [] false (by omega) (by omega) (by simp) (fun g=>by cases g) (fun _=>⟨rfl,fun s hs=>by
  obtain rfl:s=0:=by omega
  exact Vm t⟩)
 refine⟨x,g,?_,g2⟩;unfold EV;have c:CQ K t (B4 t) K [] false 1=some (x,g):=g1;rw[bd c]
end
def Xd (t:AD) (out:List Int):Bool:=(Et t.C).any fun l=>Eb (Bz t l) out 0 t.AK
def Pu(t:AD)(a:List B6):AD:=⟨t.Aj,t.Ab,t.Aq,t.Flat,t.AB,t.AE,a⟩
def Sb (t:AD) (k:Nat):Bool:=Xd (Pu t (t.AK.take k)) []
theorem Pv(M:List Int)(a:List B6):Eb M [] 0 a=true↔∀n∈a,Jq M n=true:=by
 rw[MH];constructor
 ·intro h n b;obtain⟨j,hj,rfl⟩:=List.getElem_of_mem b;rcases h j hj with h1|h1
  ·simp at h1
  ·exact h1
 ·intro h j hj;exact .inr (h _ (List.getElem_mem hj))
theorem Qx{t:AD}{j k:Nat}(h:j≤k)(hk:Sb t k=true):Sb t j=true:=by
 unfold Sb Xd at hk⊢;rw[List.any_eq_true] at hk⊢;obtain⟨l,hl,hr⟩:=hk;refine⟨l,hl,?_⟩;have a:Bz (Pu t (t.AK.take k)) l=Bz t l:=rfl;have b:Bz (Pu t (t.AK.take j)) l=Bz t l:=rfl;have c:(Pu t (t.AK.take k)).AK=t.AK.take k:=rfl;have d:(Pu t (t.AK.take j)).AK=t.AK.take j:=rfl;rw[a,c,Pv] at hr;rw[b,d,Pv];exact fun n e=>hr n (List.take_subset_take_left _ h e)
structure P4 (t:AD) (i:Nat):Prop where
 lt:i<t.AK.length
 before:Sb t i=true
 not:Sb t (i+1)=false
theorem P4.uniq{t:AD}{i j:Nat}(h:P4 t i)(g:P4 t j):i=j:=by
 rcases Nat.lt_trichotomy i j with h1|h1|h1
 ·have:=Qx (show i+1≤j by omega) g.before;rw[h.not] at this;cases this
 ·exact h1
 ·have:=Qx (show j+1≤i by omega) h.before;rw[g.not] at this;cases this
section
variable{K:Nat}(hK:1000≤K)
include hK
end
end Go.Proofs.YtbhofkcbfblijaaGreat
end
section
namespace Go.Proofs.YtbhofkcbfblijaaGreat
namespace HF
theorem AaT:Ba Tryz.prog 73:=by unfold Ba;kernel_rfl
theorem Vn:Ba Tryz.prog 63:=by unfold Ba;kernel_rfl
theorem Zt:EX Tryz.prog 126 2:=by unfold EX;exact⟨by kernel_rfl,by kernel_rfl⟩
theorem WK:(Tryz.prog.info? 126).bind (·.zero)=some (.agg #[I 0,I 0]):=by kernel_rfl
theorem WM(b:Nat)(w:World):(Instr.fieldAt 126 (.pointer (some ⟨b,0,none⟩)) 0).run Tryz.prog w=.ok (.pointer (some ⟨b,0,none⟩)) w:=by kernel_rfl
theorem WN(b:Nat)(w:World):(Instr.fieldAt 126 (.pointer (some ⟨b,0,none⟩)) 1).run Tryz.prog w=.ok (.pointer (some ⟨b,1,none⟩)) w:=by kernel_rfl
theorem Zu:Ba Tryz.prog 123:=by unfold Ba;kernel_rfl
theorem Sc:Ba Tryz.prog 71:=by unfold Ba;kernel_rfl
theorem AaU:Ba Tryz.prog 62:=by unfold Ba;kernel_rfl
theorem AaV:Ba Tryz.prog 70:=by unfold Ba;kernel_rfl
theorem Sd:Ba Tryz.prog 72:=by unfold Ba;kernel_rfl
end HF
end Go.Proofs.YtbhofkcbfblijaaGreat
end
section
namespace Go.Proofs.YtbhofkcbfblijaaGreat
open Go.RowKit Go.WideShapes
set_option maxRecDepth 20000
open HF
attribute [local irreducible] Cg WL CC CW LV BN Hb EX One Ba
theorem a70 bW j aD n o p q r s t u h i x y f g(Z:Nat→Prop) w(cC:Sl Ax w Z n o j.Aj)(cD:Sl (Bx (Al .i64)) w Z p q j.Ab)(cE:Sl AF w Z r s j.Aq)(cF:Sl AT w Z t u j.AB)(cG:Sl AW w Z h i j.AE)(cH:Sl Bj w Z x y j.AK)(cI:Sl (Al .i64) w Z f g aD) cY(a:HR bW j aD=some cY):
 BN Tryz.prog 70 #[.agg (Ar n o p q r s t u h i x y j).toArray,.slice f aD.length g] w (fun v w'=>Ext w w'∧BE.R w' (zf Z w []) v cY):=by
 unfold HR at a;refine rq (N:=26) Tryz.func70 fun dB ha dC=>?_;have cS:=sA 0 ha;have aH:=sA 1 ha;clear ha;have cO:Hp FN [] w [] w:=Hp.start (Bw.none w);have ⟨bI,bJ,bK,bL,bM,bN,aE⟩:=FF cC cD cE cF cG cH cI (Bu (Z:=Z) (L:=[]) w);refine cr<|wE (fun st=>BL (v:=.agg (Ar n o p q r s t u h i x y j).toArray) (cs:=(Ar n o p q r s t u h i x y j).toArray) (ee st cS) rfl) ?_;rintro _ w1 ⟨b1,rfl,aA⟩;have aI:=cO.nb aA;have c9:=cO.BH aA;refine wA (v:=.bool false) rfl<|wr<|wD (fun st=>AO (l:=(Ar n o p q r s t u h i x y j)) Eg (eR st) aA.bk rfl rfl) ?_;have ⟨bO,bP,bQ,bR,bS,bT⟩:=CA bI bJ bK bL bM bN (Ay aA);replace a:=bind_some a;obtain⟨z,cZ,a⟩:=a;refine wE (fun st=>Ak Lv (eR st) (Ci (eR st) (eR st)) (P3 bW j true n o p q r s t u h i x y (zf Z w [some b1]) _ bO bP bQ bR bS bT z cZ)) ?_;rintro _ dA ⟨aF,⟨dF,rfl,c0⟩⟩;rcases FL.cases c0 with⟨bX,rfl⟩|⟨c1,bX,b3,k,aZ,a0,a2,a3,a4,a5,a6,a7,a8,a9,bA,bB,bC,bD,bE,bF,rfl,aB,c2,c3,bY,bZ,b4,b5,b6,b7,b8,b9⟩
 ·replace a:=ME bX a;have cP:=aI.ext aF;refine wM (v:=.tuple #[.pointer none,I z.2]) rfl<|wD (fun st=>Bs (v:=.pointer none) (eR st) rfl)<|wD (fun st=>Bs (v:=I z.2) (eR st) rfl)<|wA (v:=.pointer none) rfl<|wA (v:=I z.2) rfl<|wr<|wM (v:=I z.2) rfl<|wD (fun st=>Dt (eR st) (eR st))<|wM (v:=.bool (z.2==0)) rfl ?_;rcases Ae (z.2==0) with b|b
  ·replace a:=Am a b;refine wN b (v:=.slice f aD.length g) aH<|wG b (fun st=>Ad (eR st) (KM _ _)) ?_;have cJ:=(aA.bk.ext aF);refine wG b (fun st=>Ag (v:=.slice h j.AE.length i) LM (eR st) cJ rfl)<|wG b (fun st=>Bn Tryz.underlying50 (eR st)) ?_;have bU:=((aE.mv (Ay aA)).mv (Ac aF));replace a:=bind_some a;obtain⟨cK,c4,a⟩:=a;refine wX b (fun st=>Ak PT (eR st) (Ci (eR st) (eR st)) (a117 bW aD (j.AE.length:Int) f g ZA _ bU.all cK c4)) ?_;rintro _ dG ⟨c5,rfl⟩;have c6:=cP.ext c5;refine wD (fun st=>AR (v:=.bool cK) (eR st) b (eR st))<|wM (v:=.bool cK) rfl ?_;rcases Ae (cK) with m|m
   ·replace a:=Am a m;refine wN m (v:=.pointer none) rfl<|wG m (fun st=>AA (v:=.slice f aD.length g) (ee st aH)) ?_;exact absurd a (by simp)
   ·replace a:=An a m;refine wF m<|wF m<|wF m<|wD (fun st=>Bg (v:=.bool false) (eR st) m (eR st))<|wA (v:=.bool false) rfl<|wn<|Ap ?_;obtain rfl:=oi a;refine Au rfl rfl ?_;exact⟨c6.AZ,rfl⟩
  ·replace a:=An a b;refine wF b<|wF b<|wF b<|wF b<|wF b<|wD (fun st=>Bg (v:=.bool false) (eR st) b (eR st))<|wM (v:=.bool false) rfl<|wH<|wH<|wH<|wD (fun st=>Bg (v:=.bool false) (eR st) rfl (eR st))<|wA (v:=.bool false) rfl<|wn<|Ap ?_;obtain rfl:=oi a;refine Au rfl rfl ?_;exact⟨cP.AZ,rfl⟩
 ·replace a:=MF bX a;have cQ:=aI.I1 aF aB;have cL:w.heap.size≤b3:=Nat.le_trans aI.sz (aB.mem _ (by simp)).1;have cX:w.heap.size≤k:=Nat.le_trans aI.sz (aB.mem _ (by simp)).1;have ⟨aJ,aK,aL,aM,aN,aO,aP,aQ⟩:=EZ bY bZ b4 b5 b6 b7 b8 b9 (aI.KV aB);have cR:=cQ.erase 0;have cT:Rz dA (zf Z w [some k,some b1]) (some ⟨b3,0,none⟩) (C6 aZ a0 a2 a3 a4 a5 a6 a7 a8 a9 bA bB bC bD bE bF k c1):=KW c2 (cQ.lit 0 rfl cL) rfl;refine wM (v:=.tuple #[pt b3 0,I z.2]) rfl<|wD (fun st=>Bs (v:=pt b3 0) (eR st) rfl)<|wD (fun st=>Bs (v:=I z.2) (eR st) rfl)<|wA (v:=pt b3 0) rfl<|wA (v:=I z.2) rfl<|wr<|wM (v:=I z.2) rfl<|wD (fun st=>Dt (eR st) (eR st))<|wM (v:=.bool (z.2==0)) rfl ?_;rcases Ae (z.2==0) with c|c
  ·replace a:=Am a c;refine wN c (v:=.slice f aD.length g) aH<|wG c (fun st=>Ad (eR st) (KM _ _)) ?_;have cM:=(aA.bk.ext aF);refine wG c (fun st=>Ag (v:=.slice h j.AE.length i) LM (eR st) cM rfl)<|wG c (fun st=>Bn Tryz.underlying50 (eR st)) ?_;have aG:=(((aE.mv (Ay aA)).mv (Cj (Ac aF) aB)).mv (AH 0));replace a:=bind_some a;obtain⟨bG,cU,a⟩:=a;refine wX c (fun st=>Ak PT (eR st) (Ci (eR st) (eR st)) (a117 bW aD (j.AE.length:Int) f g ZA _ aG.all bG cU)) ?_;rintro _ dD ⟨aC,rfl⟩;have bH:=cR.ext aC;refine wD (fun st=>AR (v:=.bool bG) (eR st) c (eR st))<|wM (v:=.bool bG) rfl ?_;rcases Ae (bG) with d|d
   ·replace a:=Am a d;refine wN d (v:=pt b3 0) rfl<|wG d (fun st=>AA (v:=.slice f aD.length g) (ee st aH)) ?_;have ⟨aR,aS,aT,aU,aV,aW,aX,aY⟩:=EZ aJ aK aL aM aN aO aP aQ (mt (AH 0) (Ac aC));have cN:=(c3.ext aC);have cA:=(cT.mv (Ac aC));have bV:=(aG.mv (Ac aC));replace a:=bind_some a;obtain⟨cB,cV,a⟩:=a;have e:=bH.mz (Z:=Z) (F':=FN) (M:=[some k]) (C:=[]) [0] [] ⟨rfl,trivial⟩ trivial eL;refine wX d (fun st=>Ak Tm (eR st) (Ci (eR st) (eR st)) (AaB bW c1 aD aZ a0 a2 a3 a4 a5 a6 a7 a8 a9 bA bB bC bD bE bF f g b3 k (ZC FN [some k]) _ (bH.CH (F':=FN) (M:=[some k]) (C:=[]) [0] [] rfl ⟨rfl,trivial⟩ trivial eL) Gs (aR.mv e) (aS.mv e) (aT.mv e) (aU.mv e) (aV.mv e) (aW.mv e) (aX.mv e) (aY.mv e) (cA.mv e) (bV.mv e) cN cB cV)) ?_;rintro _ dE ⟨cW,rfl,c7⟩;have c8:=bH.Cn cW (AQ [0] ⟨rfl,trivial⟩ eL);refine wD (fun st=>AR (v:=.bool cB.1) (eR st) d (eR st))<|wA (v:=.bool cB.1) rfl<|wn<|Ap ?_;obtain rfl:=oi a;refine Au rfl rfl ?_;exact⟨c8.AZ,rfl⟩
   ·replace a:=An a d;refine wF d<|wF d<|wF d<|wD (fun st=>Bg (v:=.bool false) (eR st) d (eR st))<|wA (v:=.bool false) rfl<|wn<|Ap ?_;obtain rfl:=oi a;refine Au rfl rfl ?_;exact⟨bH.AZ,rfl⟩
  ·replace a:=An a c;refine wF c<|wF c<|wF c<|wF c<|wF c<|wD (fun st=>Bg (v:=.bool false) (eR st) c (eR st))<|wM (v:=.bool false) rfl<|wH<|wH<|wH<|wD (fun st=>Bg (v:=.bool false) (eR st) rfl (eR st))<|wA (v:=.bool false) rfl<|wn<|Ap ?_;obtain rfl:=oi a;refine Au rfl rfl ?_;exact⟨cR.AZ,rfl⟩
theorem a63 aS r(Z:Nat→Prop) w aT(a:GL aS r=some aT):
 BN Tryz.prog 63 #[I r] w (fun v w'=>Ext w w'∧(FE (Al .i64)).R w' (zf Z w []) v aT):=by
 unfold GL at a;refine rq (N:=23) Tryz.func63 fun bB ha bC=>?_;have aM:=sA 0 ha;clear ha;have aU:Hp FN [] w [] w:=Hp.start (Bw.none w);refine cr<|wA (v:=.slice none 0 0) rfl<|wr<|wA (v:=.slice none 0 0) rfl<|wn<|Af<|cr<|wA (v:=I 0) rfl<|wn<|AI ?_;have aV:=aU.nil;have aW:Bp (Al .i64) 3 w.heap.size w (zf Z w [none]) none 0 ([]:List Int):=Bp.nil _ _ _ _ _;replace a:=bind_some a;obtain⟨y,p,a⟩:=a;refine BQ (fun aX m z=>(aX=.exit 0∧∃c d,Fo X0 23 m∧sl m 3=.slice c y.length d∧Hp FN [] w [ob c] z∧Bp (Al .i64) 3 w.heap.size z (zf Z w [ob c]) c d y)) ?aY ?aZ
 case aY=>
  clear a;refine BP (fun aH m z=>∃g,∃b,∃f h,El r aH g b=some y∧Fo X0 23 m∧sl m 0=I r∧sl m 3=.slice f g.length h∧sl m 4=I b∧Hp FN [] w [ob f] z∧Bp (Al .i64) 3 w.heap.size z (zf Z w [ob f]) f h g) aS ?a0 ?a2
  case a0=>
   intro st;exact⟨([]:List Int),(0:Int),none,0,p,qo st,sp st 0 aM,sp st 3 rfl,sp st 4 rfl,aV,aW⟩
  case a2=>
   rintro(_|aH) bD bE ⟨g,b,f,h,p,aN,l,q,j,u,i⟩
   ·exact absurd (show none=some _ from p) (by simp)
   rw[El.eq_2] at p;have a:=p;clear p;refine ro aN<|Af<|cr<|wM (v:=I r) l<|wM (v:=I b) j ?_;replace a:=Je a;obtain⟨a3,a⟩:=a;refine wD (fun st=>Kp (k:=.u64) MU Tryz.underlying91 (eR st) a3) ?_;replace a:=LX a;obtain⟨a4,a⟩:=a;refine wD (fun st=>QE (eR st) (eR st) a4)<|wD (fun st=>Fj (eR st) (eR st))<|wn ?_;rcases Ae (decide ((0:Int)<(J0 r b))) with s|s
   ·replace a:=Am a s;refine Ah rfl s<|cn<|Af<|AI<|cr<|wM (v:=I r) l<|wM (v:=I b) j ?_;replace a:=Je a;obtain⟨a5,a⟩:=a;refine wD (fun st=>Kp (k:=.u64) MU Tryz.underlying91 (eR st) a5) ?_;replace a:=LX a;obtain⟨a6,a⟩:=a;refine wD (fun st=>QE (eR st) (eR st) a6) ?_;replace a:=MA a;obtain⟨aJ,a⟩:=a;refine wD (fun st=>QB (eR st) (eR st) aJ.1 aJ.2)<|wD (fun st=>Dt (eR st) (eR st))<|wn ?_;rcases Ae (((J0 r b)%2)==1) with t|t
    ·replace a:=Am a t;refine Ah rfl t<|Ai<|wM (v:=.slice f g.length h) q<|wM (v:=I b) j<|wE (fun st=>B1 (e:=3) (vs:= #[(0,I b)]) (cs:= #[I b]) (IP (eR st)) (by kernel_rfl)) ?_;rintro _ bF ⟨bG,rfl,n⟩;have aA:=u.nb n;have a7:=u.BH n;have x:=(i.ext n.gr (Ay n));replace a:=B9 a;obtain⟨aB,a⟩:=a;refine wE (fun st=>IZ (ys:=[b]) Tryz.underlying31 It rfl rfl (by decide) (eR st) rfl (eR st) x (I0 (BJ:=[[I b]]) n.bk ⟨rfl,trivial⟩ rfl) (by have:=aB;simp only[maxLen];omega) (by have:=aB;omega) aA.sz (by simp)) ?_;rintro _ bH ⟨aK,aL,rfl,aC,aD,aO⟩;have a8:=aA.row aC 1 rfl aD;have aP:=Ed aO (aA.CL aC 1 rfl (fun k hk=>(aD k hk).1));refine wA (v:=.slice aK ((g++[b]).length) aL) rfl<|Bc<|CG<|Ai<|wM (v:=I b) j ?_;replace a:=AJ a;obtain⟨aQ,a⟩:=a;refine wD (fun st=>BK (eR st) (eR st) aQ)<|wA (v:=I (b+1)) rfl<|Bc ?_;have a9:=a8.erase 0;have aE:=(aP.up (AH 0));refine Br aH (Nat.lt_succ_self _) (fun st=>?_);exact⟨(g++[b]),(b+1),aK,aL,a,qo st,sp st 0 l,sp st 3 rfl,sp st 4 rfl,a9,aE⟩
    ·replace a:=An a t;refine Ao rfl t<|Ce<|CG<|Ai<|wM (v:=I b) j ?_;replace a:=AJ a;obtain⟨aR,a⟩:=a;refine wD (fun st=>BK (eR st) (eR st) aR)<|wA (v:=I (b+1)) rfl<|Bc ?_;refine Br aH (Nat.lt_succ_self _) (fun st=>?_);exact⟨g,(b+1),f,h,a,qo st,sp st 0 l,sp st 3 q,sp st 4 rfl,u,i⟩
   ·replace a:=An a s;refine Ao rfl s<|DA ?_;obtain rfl:=oi a;refine BG (fun st=>?_);exact⟨rfl,f,h,qo st,sp st 3 q,u,i⟩
 case aZ=>
  rintro aX bA bI (⟨rfl,c,d,aI,aF,aG,o⟩);refine lf aI<|Be<|BM<|cr<|wM (v:=.slice c y.length d) aF<|wA (v:=.slice c y.length d) rfl<|wn<|Ap ?_;obtain rfl:=oi a;refine Au rfl rfl ?_;exact⟨aG.AZ,⟨_,_,rfl,aG.Jz (M:=[]) 0 rfl [] rfl trivial o⟩⟩
theorem a73 a2 o p e f g h(Z:Nat→Prop) w(aJ:Sl (Al .i64) w Z e f o)(aK:Sl (Al .i64) w Z g h p) a3(a:G4 a2 o p=some a3):
 BN Tryz.prog 73 #[.slice e o.length f,.slice g p.length h] w (fun v w'=>Ext w w'∧BE.R w' (zf Z w []) v a3):=by
 unfold G4 at a;refine rq (N:=41) Tryz.func73 fun b5 ha b6=>?_;have aM:=sA 0 ha;have aN:=sA 1 ha;clear ha;have a4:Hp FN [] w [] w:=Hp.start (Bw.none w);have ⟨aC,aD⟩:=K5 aJ aK (Bu (Z:=Z) (L:=[]) w);refine cr<|wA (v:=.bool false) rfl<|wn<|Af<|cr<|wA (v:=I 0) rfl<|wn<|AI ?_;replace a:=bind_some a;obtain⟨aO,s,a⟩:=a;refine BQ (fun aP n x=>(aP=.ret∧∃t,aO=.inl t∧Fo X0 41 n∧sl n 4=.bool t∧Hp FN [] w [] x)∨(aP=.exit 0∧∃t,aO=.inr t∧Fo X0 41 n∧sl n 0=.slice e o.length f∧sl n 1=.slice g p.length h∧Hp FN [] w [] x∧Sl (Al .i64) x (zf Z w []) e f o∧Sl (Al .i64) x (zf Z w []) g h p)) ?a5 ?a6
 case a5=>
  clear a;refine BP (fun aQ n x=>∃b,Ep o p aQ b=some aO∧Fo X0 41 n∧sl n 0=.slice e o.length f∧sl n 1=.slice g p.length h∧sl n 5=I b∧Hp FN [] w [] x∧Sl (Al .i64) x (zf Z w []) e f o∧Sl (Al .i64) x (zf Z w []) g h p) a2 ?a7 ?a8
  case a7=>
   intro st;exact⟨(0:Int),s,qo st,sp st 0 aM,sp st 1 aN,sp st 5 rfl,a4,aC,aD⟩
  case a8=>
   rintro(_|aQ) b7 b8 ⟨b,s,aR,l,m,j,aE,c,d⟩
   ·exact absurd (show none=some _ from s) (by simp)
   rw[Ep.eq_2] at s;have a:=s;clear s;refine ro aR<|Af<|cr<|wM (v:=I b) j<|wM (v:=.slice e o.length f) l<|wD (fun st=>Bn Tryz.underlying31 (eR st))<|wD (fun st=>B8 (eR st) (eR st))<|wM (v:=.bool (decide (b<(o.length:Int)))) rfl ?_;rcases Ae (decide (b<(o.length:Int))) with i|i
   ·replace a:=Am a i;refine wN i (v:=I b) j<|wN i (v:=.slice g p.length h) m<|wG i (fun st=>Bn Tryz.underlying31 (eR st))<|wG i (fun st=>B8 (eR st) (eR st))<|wD (fun st=>AR (v:=.bool (decide (b<(p.length:Int)))) (eR st) i (eR st))<|wn ?_;rcases Ae (decide (b<(p.length:Int))) with y|y
    ·replace a:=Am a y;refine Ah rfl y<|cn<|Af<|AI<|Af ?_;replace a:=Bi a;obtain⟨i5,a9,bA,bB,bC,a⟩:=a;obtain⟨bU,bV,_,bD,rfl,bE⟩:=Sl.CR c rfl bB;replace a:=Bi a;obtain⟨i6,bF,bG,bH,bI,a⟩:=a;obtain⟨bW,bX,_,bJ,rfl,bK⟩:=Sl.CR d rfl bH;refine BW 8 [Kc (.slice e o.length f),Kc (I b),Kc (pt bU (bV+i5)),Kc (I a9),Kc (.slice g p.length h),Kc (I b),Kc (pt bW (bX+i6)),Kc (I bF)] mixed rfl rfl
         (Aa (oD (fun K=>AA (es ((K.out 0 rfl).trans l))))
         (Aa (oD (fun K=>AA (es ((K.out 5 rfl).trans j))))
         (Aa (oD (fun K=>BA (k:=i5) Tryz.underlying31 Dy (es (K.dq 0 18)) bD (es (K.dq 1 19)) bA bC))
         (Aa (oD (fun K=>BF Bq (es (K.dq 2 20)) (bE.mv (Ac K.AV)) rfl))
         (Aa (oD (fun K=>AA (es ((K.out 1 rfl).trans m))))
         (Aa (oD (fun K=>AA (es ((K.out 5 rfl).trans j))))
         (Aa (oD (fun K=>BA (k:=i6) Tryz.underlying31 Dy (es (K.dq 4 22)) bJ (es (K.dq 5 23)) bG bI))
         (Aa (oD (fun K=>BF Bq (es (K.dq 6 24)) (bK.mv (Ac K.AV)) rfl))
         (BR _))))))))) ?_
     intro cA;rintro _ rfl _ rfl _ rfl _ rfl _ rfl _ rfl _ rfl _ rfl aB;have aL:=aE.ext aB;refine wD (fun st=>Cx (eR st) (eR st))<|wn ?_;rcases Ae (a9 !=bF) with z|z
     ·replace a:=Am a z;refine Ah rfl z<|Af ?_;replace a:=Bi a;obtain⟨i9,aS,bL,bM,bN,a⟩:=a;have q:=(c.mv (Ac aB));obtain⟨bY,bZ,_,bO,rfl,bP⟩:=Sl.CR q rfl bM;replace a:=Bi a;obtain⟨i10,aF,aT,aU,aV,a⟩:=a;have r:=(d.mv (Ac aB));obtain⟨bQ,bR,_,aW,rfl,aX⟩:=Sl.CR r rfl aU;refine BW 8 [Kc (.slice e o.length f),Kc (I b),Kc (pt bY (bZ+i9)),Kc (I aS),Kc (.slice g p.length h),Kc (I b),Kc (pt bQ (bR+i10)),Kc (I aF)] mixed rfl rfl
          (Aa (oD (fun K=>AA (es ((K.out 0 rfl).trans l))))
          (Aa (oD (fun K=>AA (es ((K.out 5 rfl).trans j))))
          (Aa (oD (fun K=>BA (k:=i9) Tryz.underlying31 Dy (es (K.dq 0 27)) bO (es (K.dq 1 28)) bL bN))
          (Aa (oD (fun K=>BF Bq (es (K.dq 2 29)) (bP.mv (Ac K.AV)) rfl))
          (Aa (oD (fun K=>AA (es ((K.out 1 rfl).trans m))))
          (Aa (oD (fun K=>AA (es ((K.out 5 rfl).trans j))))
          (Aa (oD (fun K=>BA (k:=i10) Tryz.underlying31 Dy (es (K.dq 4 31)) aW (es (K.dq 5 32)) aT aV))
          (Aa (oD (fun K=>BF Bq (es (K.dq 6 33)) (aX.mv (Ac K.AV)) rfl))
          (BR _))))))))) ?_
      intro cB;rintro _ rfl _ rfl _ rfl _ rfl _ rfl _ rfl _ rfl _ rfl bS;have bT:=aL.ext bS;refine wD (fun st=>B8 (eR st) (eR st))<|wA (v:=.bool (decide (aS<aF))) rfl<|wn<|Ap<|CO<|AG ?_;obtain rfl:=oi a;refine BG (fun st=>?_);exact .inl ⟨rfl,(decide (aS<aF)),rfl,qo st,sp st 4 rfl,bT⟩
     ·replace a:=An a z;refine Ao rfl z<|Ce<|CG<|Ai<|wM (v:=I b) j ?_;replace a:=AJ a;obtain⟨aY,a⟩:=a;refine wD (fun st=>BK (eR st) (eR st) aY)<|wA (v:=I (b+1)) rfl<|Bc ?_;have ⟨q,r⟩:=K5 c d (Ac aB);refine Br aQ (Nat.lt_succ_self _) (fun st=>?_);exact⟨(b+1),a,qo st,sp st 0 l,sp st 1 m,sp st 5 rfl,aL,q,r⟩
    ·replace a:=An a y;refine Ao rfl y<|DA ?_;obtain rfl:=oi a;refine BG (fun st=>?_);exact .inr ⟨rfl,(),rfl,qo st,sp st 0 l,sp st 1 m,aE,c,d⟩
   ·replace a:=An a i;refine wF i<|wF i<|wF i<|wF i<|wD (fun st=>Bg (v:=.bool false) (eR st) i (eR st))<|wn<|Ao rfl rfl<|DA ?_;obtain rfl:=oi a;refine BG (fun st=>?_);exact .inr ⟨rfl,(),rfl,qo st,sp st 0 l,sp st 1 m,aE,c,d⟩
 case a6=>
  rintro aP b4 b9 (⟨rfl,t,rfl,u,aG,aA⟩|⟨rfl,t,rfl,u,aH,aI,aA,aZ,a0⟩)
  ·skip
   replace a:=CM a;refine lf u<|CO ?_;obtain rfl:=oi a;refine Au rfl aG ?_;exact⟨aA.AZ,rfl⟩
  ·skip
   replace a:=CN a;refine lf u<|Be<|BM<|cr<|wM (v:=.slice e o.length f) aH<|wD (fun st=>Bn Tryz.underlying31 (eR st))<|wM (v:=.slice g p.length h) aI<|wD (fun st=>Bn Tryz.underlying31 (eR st))<|wD (fun st=>B8 (eR st) (eR st))<|wA (v:=.bool (decide ((o.length:Int)<(p.length:Int)))) rfl<|wn<|Ap ?_;obtain rfl:=oi a;refine Au rfl rfl ?_;exact⟨aA.AZ,rfl⟩
theorem a62 r h i d e f g(Z:Nat→Prop) w(o:Sl (Al .i64) w Z d e h)(p:Sl (Al .i64) w Z f g i) s(c:GM r h i=some s):
 BN Tryz.prog 62 #[.slice d h.length e,.slice f i.length g] w (fun v w'=>Ext w w'∧BE.R w' (zf Z w []) v s):=by
 unfold GM at c;refine rq (N:=22) Tryz.func62 fun y ha z=>?_;have j:=sA 0 ha;have k:=sA 1 ha;clear ha;have n:Hp FN [] w [] w:=Hp.start (Bw.none w);have ⟨l,m⟩:=K5 o p (Bu (Z:=Z) (L:=[]) w);refine cr<|wA (v:=.bool false) rfl<|wr<|wM (v:=.slice d h.length e) j<|wD (fun st=>Bn Tryz.underlying31 (eR st))<|wM (v:=.slice f i.length g) k<|wD (fun st=>Bn Tryz.underlying31 (eR st))<|wD (fun st=>B8 (eR st) (eR st))<|wM (v:=.bool (decide ((h.length:Int)<(i.length:Int)))) rfl ?_;rcases Ae (decide ((h.length:Int)<(i.length:Int))) with a|a
 ·replace c:=Am c a;refine wF a<|wF a<|wF a<|wF a<|wF a<|wF a<|E9 rfl rfl rfl rfl (by decide)<|E9 rfl rfl rfl rfl (by decide)<|E9 rfl rfl rfl rfl (by decide)<|wF a<|wD (fun st=>AR (v:=.bool true) (eR st) a (eR st))<|wA (v:=.bool true) rfl<|wn<|Ap ?_;obtain rfl:=oi c;refine Au rfl rfl ?_;exact⟨n.AZ,rfl⟩
 ·replace c:=An c a;refine wN a (v:=.slice d h.length e) j<|wG a (fun st=>Bn Tryz.underlying31 (eR st))<|wN a (v:=.slice f i.length g) k<|wG a (fun st=>Bn Tryz.underlying31 (eR st))<|wG a (fun st=>Dt (eR st) (eR st))<|wG a (fun st=>AA (v:=.bool ((h.length:Int)==(i.length:Int))) (eR st)) ?_;rcases Ae ((h.length:Int)==(i.length:Int)) with b|b
  ·replace c:=Am c b;refine wN b (v:=.slice d h.length e) j<|wG b (fun st=>AA (v:=.slice f i.length g) (ee st k)) ?_;replace c:=bind_some c;obtain⟨q,t,c⟩:=c;refine wX b (fun st=>Ak AaT (eR st) (Ci (eR st) (eR st)) (a73 r h i d e f g ZA _ l.all m.all q t)) ?_;rintro _ aA ⟨u,rfl⟩;have x:=n.ext u;refine wG a (fun st=>AR (v:=.bool q) (eR st) b (eR st))<|wD (fun st=>Bg (v:=.bool q) (eR st) a (eR st))<|wA (v:=.bool q) rfl<|wn<|Ap ?_;obtain rfl:=oi c;refine Au rfl rfl ?_;exact⟨x.AZ,rfl⟩
  ·replace c:=An c b;refine wF b<|wF b<|wF b<|wG a (fun st=>Bg (v:=.bool false) (eR st) b (eR st))<|wD (fun st=>Bg (v:=.bool false) (eR st) a (eR st))<|wA (v:=.bool false) rfl<|wn<|Ap ?_;obtain rfl:=oi c;refine Au rfl rfl ?_;exact⟨n.AZ,rfl⟩
theorem Ach bU b aS cU aX m o c d p q e f g i r s aB aC(Z:Nat→Prop) w(cB:Sl Ax w Z m o b.Aj)(cC:Sl (Bx (Al .i64)) w Z c d b.Ab)(cD:Sl AF w Z p q b.Aq)(cE:Sl AT w Z e f b.AB)(cF:Sl AW w Z g i b.AE)(cG:Sl Bj w Z r s b.AK)(cH:Sl (Bx (Al .i64)) w Z aB aC aS) dB(a:Ho bU b aS cU aX=some dB):
 BN Tryz.prog 123 #[.agg (Ar m o c d p q e f g i r s b).toArray,.slice aB aS.length aC,I cU,I aX] w (fun v w'=>Ext w w'∧BE.R w' (zf Z w []) v dB):=by
 unfold Ho at a;refine rq (N:=47) Tryz.func123 fun d6 ha d7=>?_;have cV:=sA 0 ha;have cW:=sA 1 ha;have cX:=sA 2 ha;have cY:=sA 3 ha;clear ha;have cN:Hp FN [] w [] w:=Hp.start (Bw.none w);have ⟨a9,bA,bB,bC,bD,bE,bF⟩:=FF cB cC cD cE cF cG cH (Bu (Z:=Z) (L:=[]) w);refine cr<|wE (fun st=>BL (v:=.agg (Ar m o c d p q e f g i r s b).toArray) (cs:=(Ar m o c d p q e f g i r s b).toArray) (ee st cV) rfl) ?_;rintro _ w1 ⟨b1,rfl,aE⟩;have cO:=cN.nb aE;have dZ:=cN.BH aE;refine wA (v:=.bool false) rfl<|wr<|wD (fun st=>Ad (eR st) (Ij _ _))<|wD (fun st=>Ag (v:=.slice g b.AE.length i) I8 (eR st) aE.bk rfl)<|wM (v:=I cU) cX ?_;replace a:=Bi a;obtain⟨i2,x2,dC,dD,dE,a⟩:=a;have aO:=(bD.mv (Ay aE));obtain⟨b2,eC,_,dF,rfl,dG⟩:=Sl.elem aO (by decide) dD;refine wD (fun st=>BC (k:=i2) Tryz.underlying64 LR (eR st) dF (eR st) dC dE)<|wD (fun st=>Cv (l:=[I x2.Cr,I x2.CE]) Zt (eR st) dG rfl rfl)<|wE (fun st=>BZ (cs:= #[I 0,I 0]) WK rfl) ?_;rintro _ eD ⟨b3,rfl,aF⟩;have aY:=cO.nb aF;have d0:=cO.BH aF;refine BD rfl rfl (fun st=>Bt (n:=2) (l:=[I x2.Cr,I x2.CE]) (Cm:= #[I x2.Cr,I x2.CE]) (eR st) (eR st) LR aF.bk rfl rfl (show 0+2≤2 by decide) (AY rfl) rfl) ?_;rintro _ eE aP;have dH:=aY.gr aP.gr 0 rfl;refine wn<|Af<|cr<|wA (v:=I 0) rfl<|wn<|AI ?_;replace a:=bind_some a;obtain⟨z5,aQ,a⟩:=a;refine BQ (fun cZ u t=>(cZ=.ret∧∃aR,z5=.inl aR∧Fo X0 47 u∧sl u 8=.bool aR∧Hp FN [] w [some b3,some b1] t)∨(cZ=.exit 0∧∃aR,z5=.inr aR∧Fo X0 47 u∧sl u 3=I aX∧sl u 4=pt b1 0∧sl u 9=pt b3 0∧Hp FN [] w [some b3,some b1] t∧Bk t b1 67 (Ar m o c d p q e f g i r s b).toArray∧Bk t b3 126 #[I x2.Cr,I x2.CE]∧(fun z=>Sl Ax t z m o b.Aj∧Sl (Bx (Al .i64)) t z c d b.Ab∧Sl AF t z p q b.Aq∧Sl AT t z e f b.AB∧Sl AW t z g i b.AE∧Sl Bj t z r s b.AK) (zf Z w [some b3,some b1]))) ?dI ?dJ
 case dI=>
  clear a;refine BP (fun c0 u t=>∃j,Ds bU b aS aX x2 c0 j=some z5∧Fo X0 47 u∧sl u 1=.slice aB aS.length aC∧sl u 3=I aX∧sl u 4=pt b1 0∧sl u 9=pt b3 0∧sl u 10=I j∧Hp FN [] w [some b3,some b1] t∧Bk t b1 67 (Ar m o c d p q e f g i r s b).toArray∧Bk t b3 126 #[I x2.Cr,I x2.CE]∧(fun z=>Sl Ax t z m o b.Aj∧Sl (Bx (Al .i64)) t z c d b.Ab∧Sl AF t z p q b.Aq∧Sl AT t z e f b.AB∧Sl AW t z g i b.AE∧Sl Bj t z r s b.AK∧Sl (Bx (Al .i64)) t z aB aC aS) (zf Z w [some b3,some b1])) bU ?dK ?dL
  case dK=>
   intro st;have cI:=((aE.bk.ext aF.gr).gr aP.gr (aY.nq 1 0));have ⟨bG,bH,bI,bJ⟩:=ID a9 bA bB bC (mt (Ay aE) (mt (Ay aF) (aY.By aP.gr 0 rfl)));have bK:=((aO.mv (Ay aF)).mv (aY.By aP.gr 0 rfl));have ⟨bL,bM⟩:=K5 bE bF (mt (Ay aE) (mt (Ay aF) (aY.By aP.gr 0 rfl)));exact⟨(0:Int),aQ,qo st,sp st 1 cW,sp st 3 cY,sp st 4 rfl,sp st 9 rfl,sp st 10 rfl,dH,cI,aP.bk,bG,bH,bI,bJ,bK,bL,bM⟩
  case dL=>
   rintro(_|c0) d8 d9 ⟨j,aQ,c1,aT,aU,aD,aV,aG,cP,aA,aH,aI,x,aJ,y,aK,aL,aM⟩
   ·exact absurd (show none=some _ from aQ) (by simp)
   rw[Ds.eq_2] at aQ;have a:=aQ;clear aQ;refine ro c1<|Af<|cr<|wM (v:=I j) aG<|wM (v:=.slice aB aS.length aC) aT<|wD (fun st=>Bn Tryz.underlying23 (eR st))<|wD (fun st=>B8 (eR st) (eR st))<|wn ?_;rcases Ae (decide (j<(aS.length:Int))) with aZ|aZ
   ·replace a:=Am a aZ;refine Ah rfl aZ<|cn<|Af<|AI<|Af ?_;replace a:=Bi a;obtain⟨i8,dM,dN,dO,dP,a⟩:=a;obtain⟨d1,d2,_,dQ,⟨bV,bW,rfl,cJ⟩,dR⟩:=Sl.CR aM rfl dO;replace a:=Bi a;obtain⟨i9,dS,dT,dU,dV,a⟩:=a;obtain⟨d3,d4,_,dW,⟨bX,bY,rfl,cK⟩,dX⟩:=Sl.CR x rfl dU;replace a:=bind_some a;obtain⟨bZ,c2,a⟩:=a;replace a:=Bi a;obtain⟨i11,cQ,c3,c4,c5,a⟩:=a;obtain⟨cR,cS,_,c6,rfl,c7⟩:=Sl.elem y (by decide) c4;refine BW 18 [Kc (.slice aB aS.length aC),Kc (I j),Kc (pt d1 (d2+i8)),Kc (.slice bV dM.length bW),Kc (pt b1 0),Kc (pt b1 1),Kc (.slice c b.Ab.length d),Kc (I aX),Kc (pt d3 (d4+i9)),Kc (.slice bX dS.length bY),Kc (I bZ),Kc (pt b1 4),Kc (.slice e b.AB.length f),Kc (pt b3 0),Kc (I x2.Cr),Kc (pt cR (cS+i11*2)),Kc (pt cR (cS+i11*2)),Kc (I cQ.Bd)] mixed rfl rfl
        (Aa (oD (fun K=>AA (es ((K.out 1 rfl).trans aT))))
        (Aa (oD (fun K=>AA (es ((K.out 10 rfl).trans aG))))
        (Aa (oD (fun K=>BA (k:=i8) Tryz.underlying23 E8 (es (K.dq 0 22)) dQ (es (K.dq 1 23)) dN dP))
        (Aa (oD (fun K=>BF CU (es (K.dq 2 24)) (dR.mv (Ac K.AV)) rfl))
        (Aa (oD (fun K=>Ad (es ((K.out 4 rfl).trans aD)) (GJ _ _)))
        (Aa (oD (fun K=>Ad (es (K.dq 4 26)) (EO _ _)))
        (Aa (oD (fun K=>Ag DK (es (K.dq 5 27)) (aA.ext K.AV) rfl))
        (Aa (oD (fun K=>AA (es ((K.out 3 rfl).trans aU))))
        (Aa (oD (fun K=>BA (k:=i9) Tryz.underlying23 E8 (es (K.dq 6 28)) dW (es (K.dq 7 29)) dT dV))
        (Aa (oD (fun K=>BF CU (es (K.dq 8 30)) (dX.mv (Ac K.AV)) rfl))
        (Aa (oE (fun K=>(Ak RR rfl (Ci (es (K.dq 3 25)) (es (K.dq 9 31))) (a87 bU dM dS bV bW bX bY ZA _ (cJ.mv (Ac K.AV)).all (cK.mv (Ac K.AV)).all bZ c2)).mono (fun _ _ h=>⟨h.2,h.1⟩)))
        (Aa (oD (fun K=>Ad (es ((K.out 4 rfl).trans aD)) (GK _ _)))
        (Aa (oD (fun K=>Ag HO (es (K.dq 11 33)) (aA.ext K.AV) rfl))
        (Aa (oD (fun K=>Ad (es ((K.out 9 rfl).trans aV)) (WM _ _)))
        (Aa (oD (fun K=>Ag Bq (es (K.dq 13 35)) (aH.ext K.AV) rfl))
        (Aa (oD (fun K=>BC (k:=i11) Tryz.underlying63 J7 (es (K.dq 12 34)) c6 (es (K.dq 14 36)) c3 c5))
        (Aa (oD (fun K=>Ad (es (K.dq 15 37)) (LP _ _ _)))
        (Aa (oD (fun K=>BF Bq (es (K.dq 16 38)) (c7.mv (Ac K.AV)) rfl))
        (BR _))))))))))))))))))) ?_
    intro eF;rintro _ rfl _ rfl _ rfl _ rfl _ rfl _ rfl _ rfl _ rfl _ rfl _ rfl _ rfl _ rfl _ rfl _ rfl _ rfl _ rfl _ rfl _ rfl a8;have cT:=cP.ext a8;refine wD (fun st=>B8 (eR st) (eR st))<|wn ?_;rcases Ae (decide (bZ<cQ.Bd)) with aN|aN
    ·replace a:=Am a aN;refine Ah rfl aN<|cr<|wA (v:=.bool false) rfl<|wn<|Ap<|CO<|AG ?_;obtain rfl:=oi a;refine BG (fun st=>?_);exact .inl ⟨rfl,false,rfl,qo st,sp st 8 rfl,cT⟩
    ·replace a:=An a aN;refine Ao rfl aN<|Ce<|CG<|Ai<|wM (v:=I j) aG ?_;replace a:=AJ a;obtain⟨c8,a⟩:=a;refine wD (fun st=>BK (eR st) (eR st) c8)<|wA (v:=I (j+1)) rfl<|Bc ?_;have cL:=(aA.ext a8);have cM:=(aH.ext a8);have ⟨bN,bO,bP,bQ,bR,bS,bT⟩:=FF aI x aJ y aK aL aM (Ac a8);refine Br c0 (Nat.lt_succ_self _) (fun st=>?_);exact⟨(j+1),a,qo st,sp st 1 aT,sp st 3 aU,sp st 4 aD,sp st 9 aV,sp st 10 rfl,cT,cL,cM,bN,bO,bP,bQ,bR,bS,bT⟩
   ·replace a:=An a aZ;refine Ao rfl aZ<|DA ?_;obtain rfl:=oi a;refine BG (fun st=>?_);exact .inr ⟨rfl,(),rfl,qo st,sp st 3 aU,sp st 4 aD,sp st 9 aV,cP,aA,aH,aI,x,aJ,y,aK,aL⟩
 case dJ=>
  rintro cZ d5 eA (⟨rfl,aR,rfl,aW,b4,a0⟩|⟨rfl,aR,rfl,aW,b5,b6,b7,a0,b8,b9,a2,a3,a4,a5,a6,a7⟩)
  ·skip
   replace a:=CM a;refine lf aW<|CO ?_;obtain rfl:=oi a;refine Au rfl b4 ?_;exact⟨a0.AZ,rfl⟩
  ·skip
   replace a:=CN a;refine lf aW<|Be<|BM<|Af ?_;replace a:=bind_some a;obtain⟨cA,c9,a⟩:=a;refine BW 5 [Kc (.agg (Ar m o c d p q e f g i r s b).toArray),Kc (I aX),Kc (I cA),Kc (pt b3 1),Kc (I x2.CE)] mixed rfl rfl
       (Aa (oD (fun K=>AO (l:=(Ar m o c d p q e f g i r s b)) DL (es ((K.out 4 rfl).trans b6)) (b8.ext K.AV) rfl rfl))
       (Aa (oD (fun K=>AA (es ((K.out 3 rfl).trans b5))))
       (Aa (oE (fun K=>(Ak RS rfl (Ci (es (K.dq 0 41)) (es (K.dq 1 42))) (a56 bU b aX m o c d p q e f g i r s ZA _ (a2.mv (Ac K.AV)).all (a3.mv (Ac K.AV)).all (a4.mv (Ac K.AV)).all (a5.mv (Ac K.AV)).all (a6.mv (Ac K.AV)).all (a7.mv (Ac K.AV)).all cA c9)).mono (fun _ _ h=>⟨h.2,h.1⟩)))
       (Aa (oD (fun K=>Ad (es ((K.out 9 rfl).trans b7)) (WN _ _)))
       (Aa (oD (fun K=>Ag Bq (es (K.dq 3 44)) (b9.ext K.AV) rfl))
       (BR _)))))) ?_
   intro eB;rintro _ rfl _ rfl _ rfl _ rfl _ rfl dA;have dY:=a0.ext dA;refine wD (fun st=>HT (eR st) (eR st))<|wA (v:=.bool (decide (x2.CE≤cA))) rfl<|wn<|Ap ?_;obtain rfl:=oi a;refine Au rfl rfl ?_;exact⟨dY.AZ,rfl⟩
theorem a71 bG d aP aQ o p i j q r s t m n u x aG aH(Z:Nat→Prop) w(cS:Sl Ax w Z o p d.Aj)(cT:Sl (Bx (Al .i64)) w Z i j d.Ab)(cU:Sl AF w Z q r d.Aq)(cV:Sl AT w Z s t d.AB)(cW:Sl AW w Z m n d.AE)(cX:Sl Bj w Z u x d.AK)(cY:Sl (Bx (Al .i64)) w Z aG aH aP) dJ(a:EK bG d aP aQ=some dJ):
 BN Tryz.prog 71 #[.agg (Ar o p i j q r s t m n u x d).toArray,.slice aG aP.length aH,I aQ] w (fun v w'=>Ext w w'∧BE.R w' (zf Z w []) v dJ):=by
 unfold EK at a;refine rq (N:=50) Tryz.func71 fun d3 ha d4=>?_;have c6:=sA 0 ha;have c7:=sA 1 ha;have c8:=sA 2 ha;clear ha;have c3:Hp FN [] w [] w:=Hp.start (Bw.none w);have ⟨bW,bX,bY,bZ,b4,b5,b6⟩:=FF cS cT cU cV cW cX cY (Bu (Z:=Z) (L:=[]) w);refine cr<|wE (fun st=>BL (v:=.agg (Ar o p i j q r s t m n u x d).toArray) (cs:=(Ar o p i j q r s t m n u x d).toArray) (ee st c6) rfl) ?_;rintro _ w1 ⟨b1,rfl,bP⟩;have dK:=c3.nb bP;have d0:=c3.BH bP;refine wA (v:=.bool false) rfl<|wr<|wA (v:=I 0) rfl<|wn<|Af<|cr<|wA (v:=I 0) rfl<|wn<|AI ?_;replace a:=bind_some a;obtain⟨z2,a3,a⟩:=a;refine BQ (fun cL c g=>(cL=.exit 0∧Fo X0 50 c∧sl c 2=I aQ∧sl c 7=I z2∧Hp FN [] w [some b1] g)) ?dL ?dM
 case dL=>
  clear a;refine BP (fun a2 c g=>∃aK,∃f,DM bG d aP aQ a2 aK f=some z2∧Fo X0 50 c∧sl c 1=.slice aG aP.length aH∧sl c 2=I aQ∧sl c 3=pt b1 0∧sl c 7=I aK∧sl c 8=I f∧Hp FN [] w [some b1] g∧Bk g b1 67 (Ar o p i j q r s t m n u x d).toArray∧(fun y=>Sl Ax g y o p d.Aj∧Sl (Bx (Al .i64)) g y i j d.Ab∧Sl AF g y q r d.Aq∧Sl AT g y s t d.AB∧Sl AW g y m n d.AE∧Sl Bj g y u x d.AK∧Sl (Bx (Al .i64)) g y aG aH aP) (zf Z w [some b1])) bG ?dN ?dO
  case dN=>
   intro st;have ⟨b7,b8,b9,cA,cB,cC,cD⟩:=FF bW bX bY bZ b4 b5 b6 (Ay bP);exact⟨(0:Int),(0:Int),a3,qo st,sp st 1 c7,sp st 2 c8,sp st 3 rfl,sp st 7 rfl,sp st 8 rfl,dK,bP.bk,b7,b8,b9,cA,cB,cC,cD⟩
  case dO=>
   rintro(_|a2) d5 d6 ⟨aK,f,a3,c9,cZ,bQ,bR,bS,bT,c4,a6,bH,bI,bJ,bK,bL,bM,bN⟩
   ·exact absurd (show none=some _ from a3) (by simp)
   rw[DM.eq_2] at a3;have a:=a3;clear a3;refine ro c9<|Af<|cr<|wM (v:=I f) bT<|wD (fun st=>Ad (ee st bR) (GJ _ _))<|wD (fun st=>Ad (eR st) (EO _ _))<|wD (fun st=>Ag (v:=.slice i d.Ab.length j) DK (eR st) a6 rfl)<|wD (fun st=>Bn Tryz.underlying23 (eR st))<|wD (fun st=>B8 (eR st) (eR st))<|wn ?_;rcases Ae (decide (f<(d.Ab.length:Int))) with a7|a7
   ·replace a:=Am a a7;refine Ah rfl a7<|cn<|Af<|AI<|cr<|wA (v:=.bool false) rfl<|wn<|Af<|cr<|wA (v:=I 0) rfl<|wn<|AI ?_;replace a:=bind_some a;obtain⟨z4,a4,a⟩:=a;refine BQ (fun cL c g=>(cL=.exit 2∧Fo X0 50 c∧sl c 1=.slice aG aP.length aH∧sl c 2=I aQ∧sl c 3=pt b1 0∧sl c 7=I aK∧sl c 8=I f∧sl c 9=.bool z4∧Hp FN [] w [some b1] g∧Bk g b1 67 (Ar o p i j q r s t m n u x d).toArray∧(fun y=>Sl Ax g y o p d.Aj∧Sl (Bx (Al .i64)) g y i j d.Ab∧Sl AF g y q r d.Aq∧Sl AT g y s t d.AB∧Sl AW g y m n d.AE∧Sl Bj g y u x d.AK∧Sl (Bx (Al .i64)) g y aG aH aP) (zf Z w [some b1]))) ?dP ?dQ
    case dP=>
     clear a;refine BP (fun a2 c g=>∃aR,∃b,Dn bG d aP aQ f a2 aR b=some z4∧Fo X0 50 c∧sl c 1=.slice aG aP.length aH∧sl c 2=I aQ∧sl c 3=pt b1 0∧sl c 7=I aK∧sl c 8=I f∧sl c 9=.bool aR∧sl c 10=I b∧Hp FN [] w [some b1] g∧Bk g b1 67 (Ar o p i j q r s t m n u x d).toArray∧(fun y=>Sl Ax g y o p d.Aj∧Sl (Bx (Al .i64)) g y i j d.Ab∧Sl AF g y q r d.Aq∧Sl AT g y s t d.AB∧Sl AW g y m n d.AE∧Sl Bj g y u x d.AK∧Sl (Bx (Al .i64)) g y aG aH aP) (zf Z w [some b1])) bG ?dR ?dS
     case dR=>
      intro st;exact⟨false,(0:Int),a4,qo st,sp st 1 cZ,sp st 2 bQ,sp st 3 bR,sp st 7 bS,sp st 8 bT,sp st 9 rfl,sp st 10 rfl,c4,a6,bH,bI,bJ,bK,bL,bM,bN⟩
     case dS=>
      rintro(_|a2) d7 d8 ⟨aR,b,a4,dA,aM,aN,aL,aS,aO,bU,aI,bV,aJ,z,aA,aB,aC,aD,aE,aF⟩
      ·exact absurd (show none=some _ from a4) (by simp)
      rw[Dn.eq_2] at a4;have a:=a4;clear a4;refine ro dA<|Af<|cr<|wM (v:=I b) aI<|wD (fun st=>Ad (ee st aL) (Ij _ _))<|wD (fun st=>Ag (v:=.slice m d.AE.length n) I8 (eR st) aJ rfl)<|wD (fun st=>Bn Tryz.underlying64 (eR st))<|wD (fun st=>B8 (eR st) (eR st))<|wn ?_;rcases Ae (decide (b<(d.AE.length:Int))) with a8|a8
      ·replace a:=Am a a8;refine Ah rfl a8<|cn<|Af<|AI<|Ai<|wM (v:=.bool aR) bU<|wM (v:=.bool aR) rfl ?_;rcases Ae (aR) with e|e
       ·replace a:=Am a e;refine wF e<|wF e<|wF e<|wF e<|wF e<|wF e<|wF e<|E9 rfl rfl rfl rfl (by decide)<|E9 rfl rfl rfl rfl (by decide)<|E9 rfl rfl rfl rfl (by decide)<|E9 rfl rfl rfl rfl (by decide)<|E9 rfl rfl rfl rfl (by decide)<|wF e<|wD (fun st=>AR (v:=.bool true) (eR st) e (eR st))<|wA (v:=.bool true) rfl<|Bc<|CG<|Ai<|wM (v:=I b) aI ?_;replace a:=AJ a;obtain⟨dT,a⟩:=a;refine wD (fun st=>BK (eR st) (eR st) dT)<|wA (v:=I (b+1)) rfl<|Bc ?_;refine Br a2 (Nat.lt_succ_self _) (fun st=>?_);exact⟨true,(b+1),a,qo st,sp st 1 aM,sp st 2 aN,sp st 3 aL,sp st 7 aS,sp st 8 aO,sp st 9 rfl,sp st 10 rfl,bV,aJ,z,aA,aB,aC,aD,aE,aF⟩
       ·replace a:=An a e;refine wN e (v:=I aQ) aN<|wG e (fun st=>AA (v:=I b) (ee st aI)) ?_;replace a:=Je a;obtain⟨dU,a⟩:=a;refine wG e (fun st=>Kp (k:=.u64) MU Tryz.underlying91 (eR st) dU) ?_;replace a:=LX a;obtain⟨dV,a⟩:=a;refine wG e (fun st=>QE (eR st) (eR st) dV) ?_;replace a:=MA a;obtain⟨cM,a⟩:=a;refine wG e (fun st=>QB (eR st) (eR st) cM.1 cM.2)<|wG e (fun st=>Dt (eR st) (eR st))<|wG e (fun st=>AA (v:=.bool (((J0 aQ b)%2)==1)) (eR st)) ?_;rcases Ae (((J0 aQ b)%2)==1) with h|h
        ·replace a:=Am a h;refine wG h (fun st=>AO (l:=(Ar o p i j q r s t m n u x d)) DL (ee st aL) aJ rfl rfl)<|wN h (v:=.slice aG aP.length aH) aM<|wN h (v:=I b) aI<|wG h (fun st=>AA (v:=I f) (ee st aO)) ?_;replace a:=bind_some a;obtain⟨a9,dB,a⟩:=a;refine wX h (fun st=>Ak Zu (eR st) (WR (eR st) (eR st) (eR st) (eR st)) (Ach bG d aP b f o p i j q r s t m n u x aG aH ZA _ z.all aA.all aB.all aC.all aD.all aE.all aF.all a9 dB)) ?_;rintro _ d9 ⟨bO,rfl⟩;have dW:=bV.ext bO;refine wG e (fun st=>AR (v:=.bool a9) (eR st) h (eR st))<|wD (fun st=>Bg (v:=.bool a9) (eR st) e (eR st))<|wA (v:=.bool a9) rfl<|Bc<|CG<|Ai<|wM (v:=I b) aI ?_;replace a:=AJ a;obtain⟨dC,a⟩:=a;refine wD (fun st=>BK (eR st) (eR st) dC)<|wA (v:=I (b+1)) rfl<|Bc ?_;have c0:=(aJ.ext bO);have ⟨cE,cF,cG,cH,cI,cJ,cK⟩:=FF z aA aB aC aD aE aF (Ac bO);refine Br a2 (Nat.lt_succ_self _) (fun st=>?_);exact⟨a9,(b+1),a,qo st,sp st 1 aM,sp st 2 aN,sp st 3 aL,sp st 7 aS,sp st 8 aO,sp st 9 rfl,sp st 10 rfl,dW,c0,cE,cF,cG,cH,cI,cJ,cK⟩
        ·replace a:=An a h;refine wF h<|wF h<|wF h<|wF h<|wF h<|wG e (fun st=>Bg (v:=.bool false) (eR st) h (eR st))<|wD (fun st=>Bg (v:=.bool false) (eR st) e (eR st))<|wA (v:=.bool false) rfl<|Bc<|CG<|Ai<|wM (v:=I b) aI ?_;replace a:=AJ a;obtain⟨dD,a⟩:=a;refine wD (fun st=>BK (eR st) (eR st) dD)<|wA (v:=I (b+1)) rfl<|Bc ?_;refine Br a2 (Nat.lt_succ_self _) (fun st=>?_);exact⟨false,(b+1),a,qo st,sp st 1 aM,sp st 2 aN,sp st 3 aL,sp st 7 aS,sp st 8 aO,sp st 9 rfl,sp st 10 rfl,bV,aJ,z,aA,aB,aC,aD,aE,aF⟩
      ·replace a:=An a a8;refine Ao rfl a8<|DA ?_;obtain rfl:=oi a;refine BG (fun st=>?_);exact⟨rfl,qo st,sp st 1 aM,sp st 2 aN,sp st 3 aL,sp st 7 aS,sp st 8 aO,sp st 9 bU,bV,aJ,z,aA,aB,aC,aD,aE,aF⟩
    case dQ=>
     rintro cL d1 eA (⟨rfl,c1,bA,bB,bC,bD,bE,cN,cO,bF,aT,aU,aV,aW,aX,aY,aZ⟩);refine lf c1<|Be<|BM<|cr<|wM (v:=.bool z4) cN<|wn ?_;rcases Ae (z4) with a0|a0
     ·replace a:=Am a a0;refine Ah rfl a0<|Ai<|wM (v:=I aK) bD ?_;replace a:=AJ a;obtain⟨dE,a⟩:=a;refine wD (fun st=>BK (eR st) (eR st) dE)<|wA (v:=I (aK+1)) rfl<|Bc<|CG<|Ai<|wM (v:=I f) bE ?_;replace a:=AJ a;obtain⟨dF,a⟩:=a;refine wD (fun st=>BK (eR st) (eR st) dF)<|wA (v:=I (f+1)) rfl<|Bc ?_;refine Br a2 (Nat.lt_succ_self _) (fun st=>?_);exact⟨(aK+1),(f+1),a,qo st,sp st 1 bA,sp st 2 bB,sp st 3 bC,sp st 7 rfl,sp st 8 rfl,cO,bF,aT,aU,aV,aW,aX,aY,aZ⟩
     ·replace a:=An a a0;refine Ao rfl a0<|Ce<|CG<|Ai<|wM (v:=I f) bE ?_;replace a:=AJ a;obtain⟨dG,a⟩:=a;refine wD (fun st=>BK (eR st) (eR st) dG)<|wA (v:=I (f+1)) rfl<|Bc ?_;refine Br a2 (Nat.lt_succ_self _) (fun st=>?_);exact⟨aK,(f+1),a,qo st,sp st 1 bA,sp st 2 bB,sp st 3 bC,sp st 7 bD,sp st 8 rfl,cO,bF,aT,aU,aV,aW,aX,aY,aZ⟩
   ·replace a:=An a a7;refine Ao rfl a7<|DA ?_;obtain rfl:=oi a;refine BG (fun st=>?_);exact⟨rfl,qo st,sp st 2 bQ,sp st 7 bS,c4⟩
 case dM=>
  rintro cL d2 eB (⟨rfl,c2,cP,cQ,cR⟩);refine lf c2<|Be<|BM<|cr<|wM (v:=I z2) cQ<|wM (v:=I aQ) cP ?_;replace a:=bind_some a;obtain⟨c5,dH,a⟩:=a;refine wE (fun st=>Ak Vn (eR st) (Cd (eR st)) (a63 bG aQ (zf Z w [some b1]) _ c5 dH)) ?_;rintro _ eC ⟨dI,⟨dX,dY,rfl,a5⟩⟩;have dZ:=cR.ext dI;have a5:=a5.mv (cR.DQ (Nat.le_refl _));refine wD (fun st=>Bn Tryz.underlying31 (eR st))<|wD (fun st=>B8 (eR st) (eR st))<|wA (v:=.bool (decide (z2<(c5.length:Int)))) rfl<|wn<|Ap ?_;obtain rfl:=oi a;refine Au rfl rfl ?_;exact⟨dZ.AZ,rfl⟩
set_option maxHeartbeats 4000000 in
theorem a72 cA f bX s t u x y z aA aB j m aC aD aN aO(Z:Nat→Prop) w(c2:Sl Ax w Z s t f.Aj)(c3:Sl (Bx (Al .i64)) w Z u x f.Ab)(c4:Sl AF w Z y z f.Aq)(c5:Sl AT w Z aA aB f.AB)(c6:Sl AW w Z j m f.AE)(c7:Sl Bj w Z aC aD f.AK)(c8:Sl (Bx (Al .i64)) w Z aN aO bX) dR(a:EV cA f bX=some dR):
 BN Tryz.prog 72 #[.agg (Ar s t u x y z aA aB j m aC aD f).toArray,.slice aN bX.length aO] w (fun v w'=>Ext w w'∧(Md (FE (Al .i64)) BE).R w' (zf Z w []) v dR):=by
 unfold EV at a;refine rq (N:=37) Tryz.func72 fun d7 ha d8=>?_;have dF:=sA 0 ha;have dG:=sA 1 ha;clear ha;have dA:Hp FN [] w [] w:=Hp.start (Bw.none w);have ⟨cG,cH,cI,cJ,cK,cL,cM⟩:=FF c2 c3 c4 c5 c6 c7 c8 (Bu (Z:=Z) (L:=[]) w);refine cr<|wE (fun st=>BL (v:=.agg (Ar s t u x y z aA aB j m aC aD f).toArray) (cs:=(Ar s t u x y z aA aB j m aC aD f).toArray) (ee st dF) rfl) ?_;rintro _ w1 ⟨b1,rfl,cE⟩;have dS:=dA.nb cE;have d4:=dA.BH cE;refine wA (v:=.slice none 0 0) rfl<|wA (v:=.bool false) rfl<|wr<|wA (v:=.slice none 0 0) rfl<|wr<|wA (v:=.bool false) rfl<|wn<|Af<|cr<|wA (v:=I 1) rfl<|wn<|AI ?_;replace a:=bind_some a;obtain⟨z2,b4,a⟩:=a;refine BQ (fun dT aR a8=>(dT=.exit 0∧∃n o,Fo X0 37 aR∧sl aR 6=.slice n z2.1.length o∧sl aR 7=.bool z2.2∧Hp FN [] w [some b1] a8∧Sl (Al .i64) a8 (zf Z w [some b1]) n o z2.1)) ?dU ?dV
 case dU=>
  clear a;refine BP (fun cB aR a8=>∃p,∃q,∃b,∃c d,CQ cA f bX cB p q b=some z2∧Fo X0 37 aR∧sl aR 1=.slice aN bX.length aO∧sl aR 2=pt b1 0∧sl aR 6=.slice c p.length d∧sl aR 7=.bool q∧sl aR 8=I b∧Hp FN [] w [some b1] a8∧(fun b8=>Sl (Al .i64) a8 b8 c d p∧Bk a8 b1 67 (Ar s t u x y z aA aB j m aC aD f).toArray∧Sl Ax a8 b8 s t f.Aj∧Sl (Bx (Al .i64)) a8 b8 u x f.Ab∧Sl AF a8 b8 y z f.Aq∧Sl AT a8 b8 aA aB f.AB∧Sl AW a8 b8 j m f.AE∧Sl Bj a8 b8 aC aD f.AK∧Sl (Bx (Al .i64)) a8 b8 aN aO bX) (zf Z w [some b1])) cA ?dW ?dX
  case dW=>
   intro st;have ⟨cN,cO,cP,cQ,cR,cS,cT⟩:=FF cG cH cI cJ cK cL cM (Ay cE);exact⟨([]:List Int),false,(1:Int),none,0,b4,qo st,sp st 1 dG,sp st 2 rfl,sp st 6 rfl,sp st 7 rfl,sp st 8 rfl,dS,(Sl.nil _ _ _),cE.bk,cN,cO,cP,cQ,cR,cS,cT⟩
  case dX=>
   rintro(_|cB) d9 eA ⟨p,q,b,c,d,b4,dH,aM,r,a3,a4,g,cX,aS,a5,aT,aU,aV,aW,aX,aY,aZ⟩
   ·exact absurd (show none=some _ from b4) (by simp)
   rw[CQ.eq_2] at b4;have a:=b4;clear b4;refine ro dH<|Af<|cr<|wM (v:=I b) g<|wD (fun st=>Ad (ee st r) (Ij _ _))<|wD (fun st=>Ag (v:=.slice j f.AE.length m) I8 (eR st) a5 rfl)<|wD (fun st=>Bn Tryz.underlying64 (eR st)) ?_;replace a:=Je a;obtain⟨dY,a⟩:=a;refine wD (fun st=>Kp (k:=.u64) MU Tryz.underlying91 (eR st) dY) ?_;replace a:=K4 a;obtain⟨dZ,a⟩:=a;refine wD (fun st=>OX (eR st) (eR st) dZ)<|wD (fun st=>B8 (eR st) (eR st))<|wn ?_;rcases Ae (decide (b<(HZ (1:Int) (f.AE.length:Int)))) with b9|b9
   ·replace a:=Am a b9;refine Ah rfl b9<|cn<|Af<|AI<|cr<|wM (v:=I b) g ?_;replace a:=bind_some a;obtain⟨bY,d0,a⟩:=a;refine wE (fun st=>Ak Vn (eR st) (Cd (eR st)) (a63 cA b (zf Z w [some b1]) _ bY d0)) ?_;rintro _ eD ⟨a6,⟨h,i,rfl,aP⟩⟩;have dB:=cX.ext a6;have aP:=aP.mv (cX.DQ (Nat.le_refl _));refine wA (v:=.slice h bY.length i) rfl<|wr<|wM (v:=.bool q) a4<|wD (fun st=>Ca (eR st))<|wM (v:=.bool !q) rfl ?_;rcases Ae (!q) with aE|aE
    ·replace a:=Am a aE;have d5:q=false:=by simpa using aE
     refine wF aE<|wF aE<|wF aE<|wD (fun st=>AR (v:=.bool true) (eR st) aE (eR st))<|wM (v:=.bool true) rfl ?_;have b5:=(a5.ext a6);refine Gv rfl rfl rfl rfl (by decide) (fun st=>AO (l:=(Ar s t u x y z aA aB j m aC aD f)) DL (ee st r) b5 rfl rfl)<|Gv rfl rfl rfl rfl (by decide) (fun st=>AA (v:=.slice aN bX.length aO) (ee st aM))<|Gv rfl rfl rfl rfl (by decide) (fun st=>AA (v:=I b) (ee st g)) ?_;have ⟨a9,bA,bB,bC,bD,bE,bF⟩:=FF aT aU aV aW aX aY aZ (Ac a6);replace a:=bind_some a;obtain⟨cY,dI,a⟩:=a;refine QI rfl rfl rfl rfl (by decide) (fun st=>Ak Sc (eR st) (DX (eR st) (eR st) (eR st)) (a71 cA f bX b s t u x y z aA aB j m aC aD aN aO ZA _ a9.all bA.all bB.all bC.all bD.all bE.all bF.all cY dI)) ?_;rintro _ eB ⟨a0,rfl⟩;have dC:=dB.ext a0;refine wD (fun st=>AR (v:=.bool cY) (eR st) rfl (eR st))<|wn ?_;rcases Ae (cY) with bV|bV
     ·replace a:=Am a bV;refine Ah rfl bV<|Ai<|wM (v:=.slice h bY.length i) rfl<|wA (v:=.slice h bY.length i) rfl<|wA (v:=.bool true) rfl<|Bc<|CG<|Ai<|wM (v:=I b) g ?_;replace a:=AJ a;obtain⟨dJ,a⟩:=a;refine wD (fun st=>BK (eR st) (eR st) dJ)<|wA (v:=I (b+1)) rfl<|Bc ?_;have cC:=(aP.mv (Ac a0));have b6:=(b5.ext a0);have ⟨bG,bH,bI,bJ,bK,bL,bM⟩:=FF a9 bA bB bC bD bE bF (Ac a0);refine Br cB (Nat.lt_succ_self _) (fun st=>?_);exact⟨bY,true,(b+1),h,i,a,qo st,sp st 1 aM,sp st 2 r,sp st 6 rfl,sp st 7 rfl,sp st 8 rfl,dC,cC,b6,bG,bH,bI,bJ,bK,bL,bM⟩
     ·replace a:=An a bV;refine Ao rfl bV<|Ce<|CG<|Ai<|wM (v:=I b) g ?_;replace a:=AJ a;obtain⟨dK,a⟩:=a;refine wD (fun st=>BK (eR st) (eR st) dK)<|wA (v:=I (b+1)) rfl<|Bc ?_;have cU:=((aS.mv (Ac a6)).mv (Ac a0));have b6:=(b5.ext a0);have ⟨bG,bH,bI,bJ,bK,bL,bM⟩:=FF a9 bA bB bC bD bE bF (Ac a0);refine Br cB (Nat.lt_succ_self _) (fun st=>?_);exact⟨p,q,(b+1),c,d,a,qo st,sp st 1 aM,sp st 2 r,sp st 6 a3,sp st 7 a4,sp st 8 rfl,dC,cU,b6,bG,bH,bI,bJ,bK,bL,bM⟩
    ·replace a:=An a aE;have d1:q=true:=by simpa using aE
     refine wN aE (v:=.slice h bY.length i) rfl<|wG aE (fun st=>AA (v:=.slice c p.length d) (ee st a3)) ?_;have bN:=(aS.mv (Ac a6));replace a:=bind_some a;obtain⟨cF,dL,a⟩:=a;refine wX aE (fun st=>Ak AaU (eR st) (Ci (eR st) (eR st)) (a62 cA bY p h i c d ZA _ aP.all bN.all cF dL)) ?_;rintro _ d2 ⟨aQ,rfl⟩;have dD:=dB.ext aQ;refine wD (fun st=>Bg (v:=.bool cF) (eR st) aE (eR st))<|wM (v:=.bool cF) rfl ?_;rcases Ae (cF) with e|e
     ·replace a:=Am a e;have a7:=((a5.ext a6).ext aQ);refine wG e (fun st=>AO (l:=(Ar s t u x y z aA aB j m aC aD f)) DL (ee st r) a7 rfl rfl)<|wN e (v:=.slice aN bX.length aO) aM<|wG e (fun st=>AA (v:=I b) (ee st g)) ?_;have ⟨aF,aG,aH,aI,aJ,aK,aL⟩:=FF aT aU aV aW aX aY aZ (mt (Ac a6) (Ac aQ));replace a:=bind_some a;obtain⟨cZ,dM,a⟩:=a;refine wX e (fun st=>Ak Sc (eR st) (DX (eR st) (eR st) (eR st)) (a71 cA f bX b s t u x y z aA aB j m aC aD aN aO ZA _ aF.all aG.all aH.all aI.all aJ.all aK.all aL.all cZ dM)) ?_;rintro _ d3 ⟨a2,rfl⟩;have dE:=dD.ext a2;refine wD (fun st=>AR (v:=.bool cZ) (eR st) e (eR st))<|wn ?_;rcases Ae (cZ) with bW|bW
      ·replace a:=Am a bW;refine Ah rfl bW<|Ai<|wM (v:=.slice h bY.length i) rfl<|wA (v:=.slice h bY.length i) rfl<|wA (v:=.bool true) rfl<|Bc<|CG<|Ai<|wM (v:=I b) g ?_;replace a:=AJ a;obtain⟨dN,a⟩:=a;refine wD (fun st=>BK (eR st) (eR st) dN)<|wA (v:=I (b+1)) rfl<|Bc ?_;have cD:=((aP.mv (Ac aQ)).mv (Ac a2));have b7:=(a7.ext a2);have ⟨bO,bP,bQ,bR,bS,bT,bU⟩:=FF aF aG aH aI aJ aK aL (Ac a2);refine Br cB (Nat.lt_succ_self _) (fun st=>?_);exact⟨bY,true,(b+1),h,i,a,qo st,sp st 1 aM,sp st 2 r,sp st 6 rfl,sp st 7 rfl,sp st 8 rfl,dE,cD,b7,bO,bP,bQ,bR,bS,bT,bU⟩
      ·replace a:=An a bW;refine Ao rfl bW<|Ce<|CG<|Ai<|wM (v:=I b) g ?_;replace a:=AJ a;obtain⟨dO,a⟩:=a;refine wD (fun st=>BK (eR st) (eR st) dO)<|wA (v:=I (b+1)) rfl<|Bc ?_;have cV:Sl (Al .i64) d3 (zf Z w [some b1]) c d p:=((bN.mv (Ac aQ)).mv (Ac a2));have b7:=(a7.ext a2);have ⟨bO,bP,bQ,bR,bS,bT,bU⟩:=FF aF aG aH aI aJ aK aL (Ac a2);refine Br cB (Nat.lt_succ_self _) (fun st=>?_);exact⟨p,q,(b+1),c,d,a,qo st,sp st 1 aM,sp st 2 r,sp st 6 a3,sp st 7 a4,sp st 8 rfl,dE,cV,b7,bO,bP,bQ,bR,bS,bT,bU⟩
     ·replace a:=An a e;refine wF e<|wF e<|wF e<|wF e<|wD (fun st=>Bg (v:=.bool false) (eR st) e (eR st))<|wn<|Ao rfl rfl<|Ce<|CG<|Ai<|wM (v:=I b) g ?_;replace a:=AJ a;obtain⟨dP,a⟩:=a;refine wD (fun st=>BK (eR st) (eR st) dP)<|wA (v:=I (b+1)) rfl<|Bc ?_;have cW:Sl (Al .i64) d2 (zf Z w [some b1]) c d p:=(bN.mv (Ac aQ));have a7:=((a5.ext a6).ext aQ);have ⟨aF,aG,aH,aI,aJ,aK,aL⟩:=FF aT aU aV aW aX aY aZ (mt (Ac a6) (Ac aQ));refine Br cB (Nat.lt_succ_self _) (fun st=>?_);exact⟨p,q,(b+1),c,d,a,qo st,sp st 1 aM,sp st 2 r,sp st 6 a3,sp st 7 a4,sp st 8 rfl,dD,cW,a7,aF,aG,aH,aI,aJ,aK,aL⟩
   ·replace a:=An a b9;refine Ao rfl b9<|DA ?_;obtain rfl:=oi a;refine BG (fun st=>?_);exact⟨rfl,c,d,qo st,sp st 6 a3,sp st 7 a4,cX,aS⟩
 case dV=>
  rintro dT d6 eC (⟨rfl,n,o,c9,c0,c1,dQ,bZ⟩);refine lf c9<|Be<|BM<|cr<|wM (v:=.slice n z2.1.length o) c0<|wM (v:=.bool z2.2) c1<|wA (v:=.slice n z2.1.length o) rfl<|wA (v:=.bool z2.2) rfl<|wn<|Ap ?_;obtain rfl:=oi a;refine C0 rfl rfl rfl ?_;exact⟨dQ.AZ,⟨_,_,rfl,⟨_,_,rfl,bZ.mv (AX (BB [] trivial))⟩,rfl⟩⟩
end Go.Proofs.YtbhofkcbfblijaaGreat
end
