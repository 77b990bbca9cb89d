import Derived.Test.YtbhofkcbfblijaaGreatCH6
import Derived.WalkKit
import Derived.KernelRfl
import Derived.WalkSpells
import Derived.WalkLawsBesides
import Derived.Maps.AppendAt
import Derived.OrdersIn
import Derived.RangeFuncIn
import Derived.RangeFuncLeaves
import Derived.RangeFuncRecord
import Derived.RangeFuncSeq
import Derived.Scope
import Derived.DeepKeys3
import Derived.Laws.CopyRow
import Derived.Laws.OwnMore
import Derived.Laws.MakeOwn
import Derived.Laws.IdiomCopy
import Derived.Sort.OwnSortedInts
import Derived.Lib.RowBridge
import Derived.Shelf.Sort.Plain
import Derived.Ground.Names2Prog
import Derived.Shelf.Slices.Clone
import Derived.Shelf.Slices.CompactI
import Derived.Shelf.Slices.In.SortNone
import Derived.Ground.SlgnProg
import Derived.Shelf.SlicesE.Clone
import Derived.ProofKit
import Derived.ChangeSame
import Derived.SizedLaws
import Derived.Deep.Slices
import Derived.JoinedOf
import Derived.Test.YtbhofkcbfblijaaGreatProg
import Derived.Test.YtbhofkcbfblijaaGreatRows
/-
  What the law TradeTruth needs beside the base that several claims of this seat share: contracts, and the plain law.
-/
set_option linter.all false
section
namespace Go.Proofs.YtbhofkcbfblijaaGreat
open Go.RowKit Go.WideShapes
def EK(a n:Int):Int:=a/2^n.toNat
def HV(a n:Int):Option Unit:=if 0≤n∧n<64 then some () else none
theorem GS{α:Type}{a n:Int}{f:Unit→Option α}{r:α}(h:(HV a n).bind f=some r):(0≤n∧n<64)∧f ()=some r:=by
 unfold HV at h;split at h
 ·exact⟨by assumption,h⟩
 ·cases h
def Lg(a b:Int):Int:=((a.toNat&&&b.toNat:Nat):Int)
section
variable{P:Program}{a:Act}{w:World}{dst:Option Tmp}{ty:TypeId}{pos:String}{Ds:Array Edge}{g:Option (Nat×Bool)}
theorem KI{x y:Operand}{m n:Int}{k:IntKind}{t b:TypeId}(c:a.eval x=.int .i64 m)(d:a.eval y=.int k n)(h:0≤n∧n<64):Dm P ⟨dst,.binOp .shr t x y b,ty,pos,Ds,g⟩ a w (fun u w'=>u=.int .i64 (EK m n)∧w'=w):=
 DS (by
  have hn:¬n<0:=by omega
  have hb:min n.toNat IntKind.i64.bits=n.toNat:=by
   have:IntKind.i64.bits=64:=rfl;omega
  have e:m.fdiv (2^n.toNat)=m/2^n.toNat:=Int.fdiv_eq_ediv_of_nonneg m (Int.le_of_lt (Int.pow_pos (by decide)));simp[execOp,c,d,eqGuard,binOp,Op.shift,hn,hb,e,EK])
theorem R9{x y:Operand}{m n:Int}{t b:TypeId}(c:a.eval x=.int .i64 m)(d:a.eval y=.int .i64 n)(h:(0≤m∧m≤9223372036854775807)∧(0≤n∧n≤9223372036854775807)):Dm P ⟨dst,.binOp .and t x y b,ty,pos,Ds,g⟩ a w (fun u w'=>u=.int .i64 (Lg m n)∧w'=w):=
 DS (by
  have e:(BitVec.ofInt 64 m&&&BitVec.ofInt 64 n).toNat=m.toNat&&&n.toNat:=by rw[BitVec.toNat_and,JR h.1.1 h.1.2,JR h.2.1 h.2.2]
  have f:IntKind.i64.wrap ((m.toNat&&&n.toNat:Nat):Int)=((m.toNat&&&n.toNat:Nat):Int):=K9 (Nat.le_trans Nat.and_le_left (by omega));have key:(Op.intBits .and .i64 m n).run P w=.ok (.int .i64 (Lg m n)) w:=by
   show(pure (Value.int .i64 (IntKind.i64.wrap ((BitVec.ofInt 64 m&&&BitVec.ofInt 64 n).toNat:Int))):Sem Value).run P w=_;rw[e,f];rfl
  simp[execOp,c,d,eqGuard,binOp,key])
theorem Sa{x y:Operand}{b c:Bool}{t d:TypeId}(hb:∀b c w,(Op.equal t (.bool b) (.bool c)).run P w=.ok (b==c) w)(e:a.eval x=.bool b)(f:a.eval y=.bool c):
  Dm P ⟨dst,.binOp .neq t x y d,ty,pos,Ds,g⟩ a w (fun u w'=>u=.bool (b !=c)∧w'=w):=by
 refine Tt e f ?_;show(do eqGuard .neq t x y (.bool b) (.bool c);pure (Value.bool (!(←Op.equal t (.bool b) (.bool c)))):Sem Value).run P w=_;have h:(eqGuard .neq t x y (.bool b) (.bool c)).run P w=.ok () w:=by simp[eqGuard]
 simp only[Sem.run_bind,h,Result.andThen_ok,hb,Sem.run_pure];rfl
end
def LI(b:Nat)(a:Ah)(c:List Int):Option (Bool):=
 (Jo b a).bind fun h=>cond (h !=0) (some (false)) ((HC b (⟨a.Ag,a.Ab,a.Ak⟩:AO) c).bind fun i=>cond (!i) (some (false)) ((HR b a).bind fun d=>(IQ b a c).bind fun e=>(IE b d e).bind fun f=>(Ii b a f.1 ([]:List Int)).bind fun g=>some (g)))
def BO(c:Int):Nat→(List Int)→Int→Option ((List Int))
 |0,_,_=>none
 |d+1,b,a=>(EI .u64 a).bind fun _=>(HV c a).bind fun _=>cond (decide ((0:Int)<(EK c a))) ((EI .u64 a).bind fun _=>(HV c a).bind fun _=>(rem (EK c a) (2:Int)).bind fun _=>cond (((EK c a)%2)==1) ((Es (((b.length+[a].length:Nat):Int)≤140737488355328/8)).bind fun _=>(i64 (a+1)).bind fun _=>BO c d (b++[a]) (a+1)) ((i64 (a+1)).bind fun _=>BO c d b (a+1))) (some (b))
def CI(a:Nat)(b:Int):Option ((List Int)):=
 (BO b a ([]:List Int) (0:Int)).bind fun c=>some (c)
def Cr(b:Nat)(a:List Int):Option ((List Int)):=
 (Es (((([]:List Int).length+a.length:Nat):Int)≤140737488355328/8)).bind fun _=>some (([]:List Int)++a)
def CY(a:Nat)(b:Ah):Option (Bool):=
 (FW a b).bind fun c=>cond (c) ((Fy a b).bind fun d=>some (d==0)) (some (false))
def F1(d:Nat)(a:List Int)(b:Int):Option (Int):=
 cond ((a.length:Int)==0) (some (0)) ((rem b (a.length:Int)).bind fun _=>(idx a (b%(a.length:Int))).bind fun c=>(EI .i64 c).bind fun _=>some (c))
def G8(f:Nat)(e:Ah)(h:List Int)(i:(List Int)):Nat→Int→(List Cu)→Option ((List Cu))
 |0,_,_=>none
 |j+1,b,c=>(F1 f h 0).bind fun g=>(rem g (6:Int)).bind fun _=>cond (decide (b<(g%6))) (cond (decide ((0:Int)<(e.Ab.length:Int))) ((i64 (b+1)).bind fun _=>(F1 f h (b+1)).bind fun a=>(rem a (e.Ab.length:Int)).bind fun _=>(Eg f e i (a%(e.Ab.length:Int))).bind fun d=>(quo a (8:Int)).bind fun _=>(i64 (a/8)).bind fun _=>(rem (a/8) (40:Int)).bind fun _=>(i64 (d-((a/8)%40))).bind fun _=>(quo a (512:Int)).bind fun _=>(i64 (a/512)).bind fun _=>(rem (a/512) (40:Int)).bind fun _=>(i64 (d+((a/512)%40))).bind fun _=>(Es (((c.length+[(⟨a%(e.Ab.length:Int),max (0:Int) (d-((a/8)%40)),min (9000:Int) (d+((a/512)%40))⟩:Cu)].length:Nat):Int)≤140737488355328/24)).bind fun _=>(i64 (b+1)).bind fun _=>G8 f e h i j (b+1) (c++[(⟨a%(e.Ab.length:Int),max (0:Int) (d-((a/8)%40)),min (9000:Int) (d+((a/512)%40))⟩:Cu)])) (some (c))) (some (c))
def K6(b:Nat)(a:Ah)(c:Int)(f:List Int):Option (Ah×(List Int)):=
 (EI .i64 c).bind fun _=>(Ez b (⟨a.Ag,a.Ab,a.Ak⟩:AO)).bind fun d=>(rem c d).bind fun _=>(FM b (⟨a.Ag,a.Ab,a.Ak⟩:AO) (c%d)).bind fun e=>(G8 b a f e b (0:Int) ([]:List Cu)).bind fun z12=>some (((⟨a.Ag,a.Ab,a.Ak,a.Flat,a.AJ,a.Aw,z12⟩:Ah),e))
def Em(c:Nat)(a:Ah)(b:Int):Option ((List Int)):=
 (EI .i64 b).bind fun _=>(EI .u64 (a.Ab.length:Int)).bind fun _=>(FL (1:Int) (a.Ab.length:Int)).bind fun _=>(i64 ((C3 (1:Int) (a.Ab.length:Int))-1)).bind fun _=>(LU b ((C3 (1:Int) (a.Ab.length:Int))-1)).bind fun _=>(CI c (Lg b ((C3 (1:Int) (a.Ab.length:Int))-1))).bind fun d=>some (d)
def Lh(c:Nat)(a:Int)(b:Bl):Option (Bool):=
 cond (decide (b.Lo≤a)) (some (decide (a≤b.Hi))) (some (false))
end Go.Proofs.YtbhofkcbfblijaaGreat
end
section
namespace Go.Proofs.YtbhofkcbfblijaaGreat
theorem Rl{β:Type}{n:Nat}{a b:Int}{f:Unit→Option β}(h:0≤a∧a≤b∧b≤(n:Int)):(Ph n a b).bind f=f ():=bd (if_pos h)
section
variable{K:Nat}(hK:1000≤K)
include hK
theorem KJ{σ:Type}(cb:σ→Int→Option (Bool×σ))(p:List Int)(a:p.length≤900)(s:σ):Ja K cb p s=run cb p s:=
 Lc (F:=E2 (fun(st:σ) (x:Int)=>(HD K cb x st).bind fun r=>some (r.1,r.2)) p) (fun _ _ _=>rfl) a hK s
end
section
variable{K:Nat}(hK:1000≤K)
include hK
theorem Pw(a b:Int):G2 K [a,b]=some (min a b):=by
 unfold G2;rw[bd (Rx hK a b)]
theorem KK(r:Bl)(n:Int):Fe K r n=some ⟨min r.Lo n,max r.Hi n⟩:=by
 unfold Fe;rw[bd (Pw hK _ _)]
end
end Go.Proofs.YtbhofkcbfblijaaGreat
end
section
namespace Go.Proofs.YtbhofkcbfblijaaGreat
namespace OkC
variable{c:AO}(h:OkC c)
include h
end OkC
theorem AaB:∀{rs:List Bl} {n:Int},(∀r∈rs,ML r)→0≤n→Eu rs (HK rs n)=true
 |[],_,_,_=>rfl
 |r::rs,n,h,hn=>by
  have h1:=h r (List.mem_cons_self ..);have h2:=Md h1;have a:=Int.emod_nonneg n (by omega:FI r≠0);have b:=Int.emod_lt_of_pos n (by omega:0<FI r);rw[HK,Eu,AaB (fun r hr=>h r (List.mem_cons_of_mem _ hr)) (Int.ediv_nonneg hn (by omega)),Bool.and_true,Ei];unfold FI at b⊢;unfold FI at a;omega
section
variable{K:Nat}(hK:1000≤K)
include hK
end
end Go.Proofs.YtbhofkcbfblijaaGreat
end
section
namespace Go.Proofs.YtbhofkcbfblijaaGreat
namespace OkT
variable{t:Ah}(h:OkT t)
include h
theorem g0:0<t.AJ.length:=(HE h.fault).2.2.2.2.2.1
end OkT
section
variable{K:Nat}(hK:1000≤K)
include hK
end
section
variable{K:Nat}(hK:1000≤K)
include hK
end
end Go.Proofs.YtbhofkcbfblijaaGreat
end
section
namespace Go.Proofs.YtbhofkcbfblijaaGreat
theorem Uj(a b:Nat):Lg (a:Int) (b:Int)=((a&&&b:Nat):Int):=by unfold Lg;rw[Int.toNat_natCast,Int.toNat_natCast]
def CL(t:Ah)(l:List Int):Bool:=Dr t.C l&&CK (AB t l) [] 0 t.Ar
section
variable{K:Nat}(hK:1000≤K)
include hK
end
section
variable{K:Nat}(hK:1000≤K)
include hK
theorem J5(l:List Int)(hl:l.length≤1000):Cr K l=some l:=Oi hK l hl
theorem PQ(t:Ah):CY K t=some (Eh t&&decide (DV t=0)):=by
 unfold CY;rw[bd (Pp hK t)];cases h:Eh t with
 |false=>rw[cf rfl,Bool.false_and]
 |true=>
  rw[ct rfl,bd (MN hK t (Gn h)),Bool.true_and];try rfl
end
def BY(t:Ah):Int:=if De t≠0 then De t else if Bf t=[] then 9 else 0
theorem C8{t:Ah}(h:BY t=0):De t=0∧Bf t≠[]:=by
 unfold BY at h;split at h
 ·rename_i h1;exact absurd h h1
 rename_i h1
 split at h
 ·cases h
 exact⟨Decidable.byContradiction h1,‹_›⟩
section
variable{K:Nat}(hK:1000≤K)
include hK
theorem H8{t:Ah}(h:Eh t=true)(c:Bool):
  (BY t=0∧c=true∧∃L m,Tr t L∧EC t m∧Cw K t c=some (some (wk t (L.map (Bq t)) m),0))∨
  (¬(BY t=0∧c=true)∧Cw K t c=some (none,if DV t=0∧c=false then 2 else BY t)):=by
 unfold Cw;rcases KW hK h c with⟨h0,n,L,i,d,e⟩|⟨h0,e⟩
 ·have j:=Eo h (C5 h0).1;rw[bd e];obtain⟨m,hm,g⟩:=Lp hK j (out:=[]) (by simp) i.len (LN t);have o:(L.any fun l=>CK (AB t l) [] 0 t.Ar)=(BR t.C).any fun l=>CK (AB t l) [] 0 t.Ar:=OR hK j i _ (Ma hK j [])
  by_cases h1:Bf t=[]
  ·have f:BY t=9:=by unfold BY;rw[if_neg (by simp[h0]),if_pos h1]
   refine .inr ⟨by rw[f];simp,?_⟩;have k:((BR t.C).any fun l=>CK (AB t l) [] 0 t.Ar)=false:=by
    rw[Bool.eq_false_iff];intro hh;obtain⟨l,hl,hr⟩:=List.any_eq_true.1 hh;have:l∈Bf t:=List.mem_filter.2 ⟨hl,hr⟩;rw[h1] at this;cases this
   show(cond ((0:Int) !=0) (some ((none:Option CZ),(0:Int))) ((CF K (wk t (L.map (Bq t)) []) []).bind _)=_);rw[cf (EW rfl),bd g,o,k,nf,f,n,if_neg (by simp)]
  ·have f:BY t=0:=by unfold BY;rw[if_neg (by simp[h0]),if_neg h1]
   have k:((BR t.C).any fun l=>CK (AB t l) [] 0 t.Ar)=true:=by
    obtain⟨l,hl⟩:=List.exists_mem_of_ne_nil _ h1;obtain⟨a,b⟩:=List.mem_filter.1 hl;exact List.any_eq_true.2 ⟨l,a,b⟩
   refine .inl ⟨f,n,L,m,i,hm,?_⟩;show(cond ((0:Int) !=0) (some ((none:Option CZ),(0:Int))) ((CF K (wk t (L.map (Bq t)) []) []).bind _)=_);rw[cf (EW rfl),bd g,o,k,nt];rfl
 ·rw[bd e];have d:(if DV t=0∧c=false then (2:Int) else De t)≠0:=by
   split
   ·omega
   ·rename_i hh
    intro g;refine h0 ⟨g,?_⟩;cases c with
    |true=>rfl
    |false=>exact absurd ⟨(C5 g).1,rfl⟩ hh
  refine .inr ⟨fun g=>h0 ⟨(C8 g.1).1,g.2⟩,?_⟩;show cond (_ !=0) _ _=_;rw[ct (FX d)]
  congr 2
  split
  ·rfl
  ·rename_i hh
   have:De t≠0:=by rw[if_neg hh] at d;exact d
   unfold BY;rw[if_pos this]
end
theorem MS{β:Type}{f:Unit→Option β}{x:Nat}(h:x<64):(EI .u64 (x:Int)).bind f=f ():=bd (by
 have:∀x:Nat,x<64→EI .u64 (x:Int)=some ():=by decide+kernel
 exact this x h)
theorem KL{β:Type}{f:Unit→Option β}{a:Int}{x:Nat}(h:x<64):(HV a (x:Int)).bind f=f ():=bd (if_pos ⟨by omega,by omega⟩)
theorem Iv(s x:Nat):EK (s:Int) (x:Int)=((s/2^x:Nat):Int):=by
 unfold EK;rw[show(x:Int).toNat=x by omega];simp
theorem tb(s i:Nat):(s/2^i%2==1)=s.testBit i:=by rw[Nat.testBit_eq_decide_div_mod_eq];rfl
theorem Hc:∀a:List Int,lexB a a=false
 |[]=>rfl
 |a::b=>by rw[lexB,if_pos rfl,Hc b]
theorem Jb:∀a b c:List Int,lexB a b=true→lexB b c=true→lexB a c=true
 |[],b,[],h1,h2=>by cases b<;>cases h1;cases h2
 |[],b,c::g,h1,h2=>rfl
 |a::d,[],c,h1,h2=>by cases h1
 |a::d,b::h,[],h1,h2=>by cases h2
 |a::d,b::h,c::g,h1,h2=>by
  rw[lexB] at h1 h2⊢
  by_cases e:a=b
  ·subst e;rw[if_pos rfl] at h1
   by_cases f:a=c
   ·subst f;rw[if_pos rfl] at h2⊢;exact Jb d h g h1 h2
   ·rw[if_neg f] at h2⊢;exact h2
  ·rw[if_neg e,decide_eq_true_eq] at h1
   by_cases f:b=c
   ·subst f;rw[if_neg e,decide_eq_true_eq];exact h1
   ·rw[if_neg f,decide_eq_true_eq] at h2;rw[if_neg (by omega),decide_eq_true_eq];omega
theorem MT(a:List Int):sh a a=false:=by
 rw[Bool.eq_false_iff];intro h;rcases NQ.1 h with h|h
 ·omega
 ·rw[Hc] at h;cases h.2
theorem NH{a b c:List Int}(h:sh a b=true)(g:sh b c=true):sh a c=true:=by
 rw[NQ] at h g⊢;rcases h with h|h<;>rcases g with g|g
 ·exact .inl (by omega)
 ·exact .inl (by omega)
 ·exact .inl (by omega)
 ·exact .inr ⟨by omega,Jb _ _ _ h.2 g.2⟩
theorem KM{s x:Nat}(a:x<8):(BE s).contains (x:Int)=s.testBit x:=by
 rw[Bool.eq_iff_iff,List.contains_iff_mem,Kf];constructor
 ·rintro⟨y,b,h,e⟩;obtain rfl:x=y:=by omega
  exact h
 ·intro h;exact⟨x,a,h,rfl⟩
theorem Js(s:Nat):(BE s).length≤8:=by
 unfold BE;rw[List.length_map];exact Nat.le_trans (List.length_filter_le _ _) (by simp)
theorem KT{n:Int}:∀{l:List Int} {lo:Int},DX n lo l=true→∀x∈l,lo≤x∧x<n
 |[],_,_,x,a=>by cases a
 |y::l,lo,h,x,a=>by
  rw[DX,Bool.and_eq_true,Ei] at h;rcases List.mem_cons.1 a with rfl|a
  ·omega
  ·have:=KT h.2 x a;omega
section
variable{K:Nat}(hK:1000≤K)
include hK
theorem Jt(s:Nat)(hs:s<2^8):∀(d m p:Nat) (acc:List Int),p+d=8→d<m→acc.length≤p→BO (s:Int) m acc (p:Int)=some (acc++((List.range' p d).filter fun x=>s.testBit x).map fun x:Nat=>(x:Int))
 |d,0,p,acc,_,h,_=>by omega
 |0,m+1,p,acc,a,_,ha=>by
  obtain rfl:p=8:=by omega
  rw[BO.eq_2,MS (by omega),KL (by omega),Iv,Nat.div_eq_of_lt hs,cf (df (by simp))];simp
 |d+1,m+1,p,acc,a,hm,ha=>by
  rw[BO.eq_2,MS (by omega),KL (by omega),Iv]
  by_cases h0:s/2^p=0
  ·rw[h0,cf (df (by simp))];have:(List.range' p (d+1)).filter (fun x=>s.testBit x)=[]:=by
    rw[List.filter_eq_nil_iff];intro x b;rw[List.mem_range'_1] at b;have h1:s<2^p:=by
     rcases Nat.div_eq_zero_iff.1 h0 with h|h
     ·have:=Nat.two_pow_pos p;omega
     ·exact h
    rw[Nat.testBit_lt_two_pow (Nat.lt_of_lt_of_le h1 (Nat.pow_le_pow_right (by omega) (by omega)))];simp
   rw[this,List.map_nil,List.append_nil]
  ·have hq:(0:Int)<((s/2^p:Nat):Int):=by generalize s/2^p=q at h0;omega
   rw[ct (dt hq),MS (by omega),KL (by omega),LF (Int.le_of_lt hq) (by omega),List.range'_succ,List.filter_cons];have e:((((s/2^p:Nat):Int)%2)==1)=s.testBit p:=by
    rw[←tb,Bool.eq_iff_iff,beq_iff_eq,beq_iff_eq];omega
   rw[e];cases s.testBit p with
   |true=>
    rw[ct rfl,DG (by simp;omega),Br (by omega) (by omega),CP p,Jt s hs d m (p+1) _ (by omega) (by omega) (by simp;omega),if_pos rfl,List.map_cons,List.append_assoc];rfl
   |false=>rw[cf rfl,Br (by omega) (by omega),CP p,Jt s hs d m (p+1) _ (by omega) (by omega) (by omega),if_neg (by simp)]
theorem Nq{s:Nat}(hs:s<2^8):CI K (s:Int)=some (BE s):=by
 unfold CI BE;have:=Jt hK s hs 8 K 0 [] (by omega) (by omega) (by simp);rw[Int.natCast_zero,List.nil_append,←List.range_eq_range'] at this;rw[bd this]
theorem Ku(n:Int)(hn:0≤n∧n≤100):∀(l:List Int) (s:Int),-1≤s→s≤100→∃a,run (fun(st:Int) (x:Int)=>(Ex K x st n).bind fun r=>some (r.1,r.2)) l s=some (DX n (s+1) l,a)
 |[],s,_,_=>⟨s,rfl⟩
 |x::l,s,h0,h1=>by
  have e:Ex K x s n=some (DK x (s+1) (n-1),x):=by
   unfold Ex;rw[Br (by omega) (by omega),Br (by omega) (by omega),bd (I7 ..)]
  rw[run,bd e,DX,Option.bind_some];cases h:DK x (s+1) (n-1) with
  |false=>exact⟨x,rfl⟩
  |true=>
   rw[Ei] at h;obtain⟨a,hs⟩:=Ku n hn l x (by omega) (by omega);exact⟨a,by rw[Bool.true_and];exact hs⟩
theorem Nr{n:Int}(hn:0≤n∧n≤100){l:List Int}(hl:l.length≤900):FH K l n=some (DX n 0 l):=by
 unfold FH;obtain⟨a,hs⟩:=Ku hK n hn l (-1) (by omega) (by omega);rw[bd ((KJ hK _ l hl (-1)).trans hs)];rfl
omit hK in
theorem L4:∀i:Nat,i<8→EI .u64 (i:Int)=some ()∧FL 1 (i:Int)=some ()∧C3 1 (i:Int)=((2^i:Nat):Int)∧2^i≤128∧1≤2^i∧FL 2 (i:Int)=some ()∧C3 2 (i:Int)=((2^(i+1):Nat):Int):=by decide+kernel
end
def Gf (n:Nat):Nat→List Int→Nat→List (List Int)
 |0,l,_=>[l]
 |m+1,l,a=>(List.range' a (n-m-a)).flatMap fun t:Nat=>Gf n m (l++[(t:Int)]) (t+1)
def F5(n i d:Nat):List (List Int):=(List.range' i d).flatMap fun m=>Gf n m [] 0
def FF (p:List Int→Bool):List Int→List (List Int)→List Int
 |cur,[]=>cur
 |_,c::cs=>if p c=true then c else FF p c cs
theorem Ju(p:List Int→Bool):∀(xs ys:List (List Int)) (cur:List Int),xs.any p=false→FF p cur (xs++ys)=FF p (FF p cur xs) ys
 |[],ys,cur,_=>rfl
 |x::xs,ys,cur,h=>by
  rw[List.any_cons,Bool.or_eq_false_iff] at h;simp only[List.cons_append,FF,h.1];exact Ju p xs ys x h.2
theorem Jv(p:List Int→Bool):∀(xs ys:List (List Int)) (cur:List Int),xs.any p=true→FF p cur (xs++ys)=FF p cur xs
 |[],ys,cur,h=>by cases h
 |x::xs,ys,cur,h=>by
  simp only[List.cons_append,FF];cases a:p x with
  |true=>rfl
  |false=>
   rw[List.any_cons,a,Bool.false_or] at h;exact Jv p xs ys x h
theorem LJ{p:List Int→Bool}:∀{L:List (List Int)} (cur:List Int),L.any p=true→∃A x B,L=A++x::B∧p x=true∧(∀a∈A,p a=false)∧FF p cur L=x
 |[],cur,h=>by cases h
 |c::L,cur,h=>by
  by_cases b:p c=true
  ·exact⟨[],c,L,rfl,b,by simp,by rw[FF,if_pos b]⟩
  ·have d:p c=false:=by simpa using b
   rw[List.any_cons,d,Bool.false_or] at h;obtain⟨A,x,B,h1,h2,e,f⟩:=LJ c h;refine⟨c::A,x,B,by rw[h1];rfl,h2,?_,by rw[FF,if_neg b];exact f⟩;intro a ha;rcases List.mem_cons.1 ha with rfl|ha
   ·exact d
   ·exact e a ha
theorem Ns:∀n:Nat,n<8→∀l∈F5 n 0 (n+1),∃s:Nat,s<2^n∧BE s=l:=by decide+kernel
theorem Nt:∀n:Nat,n<8→∀s:Nat,s<2^n→BE s∈F5 n 0 (n+1):=by decide+kernel
theorem M0:∀n:Nat,n<8→(F5 n 0 (n+1)).Pairwise fun a b=>sh a b=true:=by decide+kernel
theorem O4{n:Nat}(hn:n<8){p:List Int→Bool}(cur:List Int)(h:(F5 n 0 (n+1)).any p=true):Nd n p (FF p cur (F5 n 0 (n+1))):=by
 obtain⟨A,x,B,g1,g2,g3,g4⟩:=LJ cur h;rw[g4];have hs:=M0 n hn;refine⟨Ns n hn x (by rw[g1];simp),g2,fun s b c=>?_⟩;have a:=Nt n hn s b;rw[g1] at a hs;rw[List.pairwise_append] at hs;rcases List.mem_append.1 a with h|h
 ·rw[g3 _ h] at c;cases c
 ·rcases List.mem_cons.1 h with h|h
  ·rw[h];exact MT _
  ·have h1:=(List.pairwise_cons.1 hs.2.1).1 _ h;rw[Bool.eq_false_iff];intro h2;have:=NH h1 h2;rw[MT] at this;cases this
theorem O5{n:Nat}(hn:n<8)(p:List Int→Bool):(F5 n 0 (n+1)).any p=true↔∃s,s<2^n∧p (BE s)=true:=by
 rw[List.any_eq_true];constructor
 ·rintro⟨l,hl,a⟩;obtain⟨s,hs,rfl⟩:=Ns n hn l hl;exact⟨s,hs,a⟩
 ·rintro⟨s,hs,a⟩;exact⟨_,Nt n hn s hs,a⟩
section
variable{K:Nat}(hK:1000≤K)
include hK
theorem Oo{σ:Type}{I:σ→Prop}{p:List Int→Bool}{n m:Nat}{l:List Int}(hn:n<8)(hm:l.length+(m+1)≤n)(b:(List Int)→Int→Int→(List Int)→Int→σ→Option (Bool×(List Int)×σ))
  (ih:∀(t:Nat) (q:List Int) (s:σ),t<n→I s→∃c,I c∧b (l++[(t:Int)]) ((t+1:Nat):Int) (m:Int) q (n:Int) s=some ((Gf n m (l++[(t:Int)]) (t+1)).any p,FF p q (Gf n m (l++[(t:Int)]) (t+1)),c)):
  ∀(d k i:Nat) (q:List Int) (s:σ),d=n-m-i→d<k→i≤n→I s→∃c,I c∧
   (En b l ((m+1:Nat):Int) (n:Int) k (i:Int) q s).bind (fun z=>Sum.elim (fun a=>some (a.1,a.2.1,a.2.2)) (fun a=>some (false,a.1,a.2)) z)=
   some (((List.range' i d).flatMap fun t:Nat=>Gf n m (l++[(t:Int)]) (t+1)).any p,FF p q ((List.range' i d).flatMap fun t:Nat=>Gf n m (l++[(t:Int)]) (t+1)),c)
 |d,0,i,q,s,h,hk,_,_=>by omega
 |0,k+1,i,q,s,h,hk,hi,hs=>by
  refine⟨s,hs,?_⟩;rw[En.eq_2,Br (by omega) (by omega),cf (df (by omega))];rfl
 |d+1,k+1,i,q,s,h,hk,hi,hs=>by
  have g:(((m+1:Nat):Int)-1)=(m:Int):=by omega
  obtain⟨s1,e,g1⟩:=ih i q s (by omega) hs;rw[En.eq_2,Br (by omega) (by omega),ct (dt (by omega)),DG (by omega),DG (by simp;omega),Br (by omega) (by omega),Br (by omega) (by omega),g,CP i,bd g1,List.range'_succ,List.flatMap_cons];cases ha:(Gf n m (l++[(i:Int)]) (i+1)).any p with
  |true=>
   refine⟨s1,e,?_⟩;rw[List.any_append,ha,Jv p _ _ _ ha,Bool.true_or];rfl
  |false=>
   obtain⟨s2,f,g2⟩:=Oo hn hm b ih d k (i+1) (FF p q (Gf n m (l++[(i:Int)]) (i+1))) s1 (by omega) (by omega) (by omega) e;refine⟨s2,f,?_⟩;rw[List.any_append,ha,Ju p _ _ _ ha,Bool.false_or,cf rfl,Br (by omega) (by omega)];exact g2
theorem Px{σ:Type}{I:σ→Prop}{p:List Int→Bool}{n:Nat}(hn:n<8)(cb:σ→List Int→Option (Bool×σ))(d:∀s x,I s→x.length≤n→(∀y∈x,0≤y∧y<(n:Int))→∃b,I b∧cb s x=some (p x,b)):
  ∀(m k a:Nat) (l q:List Int) (s:σ),m<k→I s→l.length+m≤n→(∀y∈l,0≤y∧y<(n:Int))→a≤n→∃b,I b∧D6 K cb k l (a:Int) (m:Int) q (n:Int) s=some ((Gf n m l a).any p,FF p q (Gf n m l a),b)
 |m,0,a,l,q,s,h,_,_,_,_=>by omega
 |0,k+1,a,l,q,s,h,hs,hl,hb,_=>by
  obtain⟨s1,h1,g⟩:=d s l hs (by omega) hb;refine⟨s1,h1,?_⟩;rw[D6.eq_2,ct (F9 (by omega)),bd g,Gf,List.any_cons,List.any_nil,Bool.or_false,FF,FF];cases p l<;>rfl
 |m+1,k+1,a,l,q,s,h,hs,hl,hb,e=>by
  rw[D6.eq_2,cf (IU (by omega)),Gf];exact Oo hK (p:=p) hn hl (D6 K cb k) (fun t q s f hs=>Px hn cb d m k (t+1) (l++[(t:Int)]) q s (by omega) hs (by simp;omega) (fun y c=>by
   rcases List.mem_append.1 c with c|c
   ·exact hb y c
   ·rw[List.mem_singleton.1 c];omega) (by omega)) (n-m-a) K a q s rfl (by omega) e hs
theorem Nu{σ:Type}{I:σ→Prop}{p:List Int→Bool}{n:Nat}(hn:n<8)(cb:σ→List Int→Option (Bool×σ))(b:∀s x,I s→x.length≤n→(∀y∈x,0≤y∧y<(n:Int))→∃a,I a∧cb s x=some (p x,a)):
  ∀(d k i:Nat) (q:List Int) (s:σ),n+1=i+d→d<k→I s→∃a,I a∧EM cb K (n:Int) k false (i:Int) q s=some ((F5 n i d).any p,FF p q (F5 n i d),a)
 |d,0,i,q,s,h,hk,_=>by omega
 |0,k+1,i,q,s,h,hk,hs=>by
  refine⟨s,hs,?_⟩;rw[EM.eq_2,cf (df (by omega))];rfl
 |d+1,k+1,i,q,s,h,hk,hs=>by
  obtain⟨s1,c,g1⟩:=Px hK hn cb b i K 0 [] q s (by omega) hs (by simp;omega) (by simp) (by omega);rw[Int.natCast_zero] at g1;rw[EM.eq_2,ct (dt (by omega)),bd g1];unfold F5;rw[List.range'_succ,List.flatMap_cons];cases ha:(Gf n i [] 0).any p with
  |true=>
   refine⟨s1,c,?_⟩;rw[List.any_append,ha,Jv p _ _ _ ha,Bool.true_or];rfl
  |false=>
   obtain⟨s2,e,g2⟩:=Nu hn cb b d k (i+1) (FF p q (Gf n i [] 0)) s1 (by omega) (by omega) c;refine⟨s2,e,?_⟩;rw[List.any_append,ha,Ju p _ _ _ ha,Bool.false_or,cf rfl,Br (by omega) (by omega),CP i];exact g2
theorem NI{σ:Type}{I:σ→Prop}{p:List Int→Bool}{n:Nat}(hn:n<8)(cb:σ→List Int→Option (Bool×σ))(b:∀s x,I s→x.length≤n→(∀y∈x,0≤y∧y<(n:Int))→∃a,I a∧cb s x=some (p x,a)){s:σ}(hs:I s):
  ∃a,I a∧Fa K cb (n:Int) s=some (FF p [] (F5 n 0 (n+1)),(F5 n 0 (n+1)).any p,a):=by
 obtain⟨s1,c,g1⟩:=Nu hK hn cb b (n+1) K 0 [] s (by omega) (by omega) hs;refine⟨s1,c,?_⟩;unfold Fa;rw[Int.natCast_zero] at g1;rw[Br (by omega) (by omega),bd g1]
end
def C4 (f:Nat→Int):Nat→Int
 |0=>0
 |n+1=>C4 f n+f n
theorem H3{f g:Nat→Int}:∀(n:Nat),(∀k,k<n→f k=g k)→C4 f n=C4 g n
 |0,_=>rfl
 |n+1,h=>by rw[C4,C4,H3 n fun k hk=>h k (by omega),h n (by omega)]
theorem Hu{f:Nat→Int}{b:Int}:∀(n:Nat),(∀k,k<n→0≤f k∧f k≤b)→0≤C4 f n∧C4 f n≤b*n
 |0,_=>by simp[C4]
 |n+1,h=>by
  have h1:=Hu n fun k hk=>h k (by omega);have h2:=h n (by omega);rw[C4,Int.natCast_add,Int.mul_add];simp;omega
def Ec(t:Ah)(BB:List Int)(l:List Int)(k:Nat):Int:=if BB.contains (k:Int)=true then (AB t l).getD k 0 else (t.Ab.getD k []).sum*t.Flat
def DW (t:Ah) (BB:List Int) (l:List Int):Int:=C4 (Ec t BB l) t.Ab.length
theorem NX{t:Ah}(a:OkT t)(l:List Int)(k:Nat):0≤(AB t l).getD k 0∧(AB t l).getD k 0≤9000:=by
 by_cases hk:k<(AB t l).length
 ·rw[Cl _ hk];exact a.RX l _ (List.getElem_mem hk)
 ·rw[List.getD_eq_getElem?_getD,List.getElem?_eq_none (by omega)];simp
theorem KN{t:Ah}(a:OkT t)(k:Nat)(hk:k<t.Ab.length):0≤(t.Ab.getD k []).sum*t.Flat∧(t.Ab.getD k []).sum*t.Flat≤9000:=by
 rw[Cl _ hk];have h1:=a.Hq _ (List.getElem_mem hk);have h2:=a.flat;have:=MM (by omega:0≤t.Ab[k].sum) h1.2.2.2 h2.1 h2.2;omega
theorem Kd{t:Ah}(a:OkT t)(BB l:List Int)(k:Nat)(hk:k<t.Ab.length):0≤Ec t BB l k∧Ec t BB l k≤9000:=by
 unfold Ec;split
 ·exact NX a l k
 ·exact KN a k hk
theorem Gk{t:Ah}(a:OkT t){l l':List Int}(h:Bq t l=Bq t l'):AB t l=AB t l':=MP a.kl h
theorem FK{t:Ah}{out:List Int}{L:List (List Int)}{x:BA×BA}:x∈GF t out L↔∃l∈L,CK (AB t l) out 0 t.Ar=true∧x=(Bq t l,arr (AB t l)):=by
 unfold GF;simp only[List.mem_map,List.mem_filter];constructor
 ·rintro⟨l,⟨h1,h2⟩,rfl⟩;exact⟨l,h1,h2,rfl⟩
 ·rintro⟨l,h1,h2,rfl⟩;exact⟨l,⟨h1,h2⟩,rfl⟩
theorem D0{t:Ah}(a:OkT t){l:List Int}:l∈Bf t↔CL t l=true:=by
 unfold Bf CL;rw[List.mem_filter,Gd a.c,Bool.and_eq_true]
theorem L5 {t:Ah} (b:OkT t) {L:List (List Int)} (e:Tr t L) (g:BA→BA→Int) (f:List Int→Int) (i:∀l,CL t l=true→g (Bq t l) (arr (AB t l))=f l) {r:Bl} (h:Gi (GF t [] L) (fun x=>g x.1 x.2) r):Gi (Bf t) f r:=by
 refine h.map (fun x j=>?_) (fun l hl=>?_)
 ·obtain⟨l,h1,h2,rfl⟩:=FK.1 j;have a:CL t l=true:=by unfold CL;rw[e.P8 l h1,h2];rfl
  exact⟨l,(D0 b).2 a,(i l a).symm⟩
 ·have a:=(D0 b).1 hl;have c:=a;unfold CL at c;rw[Bool.and_eq_true] at c;obtain⟨l',h5,d⟩:=e.all l c.1;refine⟨(Bq t l',arr (AB t l')),FK.2 ⟨l',h5,by rw[Gk b d];exact c.2,rfl⟩,?_⟩;show g (Bq t l') (arr (AB t l'))=f l;rw[d,Gk b d];exact i l a
section
variable{K:Nat}(hK:1000≤K)
include hK
theorem Jc(cb:Unit→BA→Option (Int×Unit))(F:BA→Int):∀(X c:List (BA×BA)) (lo hi:Int),(∀x∈X,cb () x.2=some (F x.2,()))→Gi c (fun x=>F x.2) ⟨lo,hi⟩→
  ∃a b,run (fun(st:Int×Int×Bool×Unit) (x:BA×BA)=>B6 cb K st.1 st.2.1 st.2.2.1 st.2.2.2 x) X (lo,hi,false,())=some (true,(a,b,false,()))∧Gi (c++X) (fun x=>F x.2) ⟨a,b⟩
 |[],c,lo,hi,_,h=>⟨lo,hi,rfl,by rw[List.append_nil];exact h⟩
 |x::X,c,lo,hi,d,h=>by
  have h1:B6 cb K lo hi false () x=some (true,(min lo (F x.2),max hi (F x.2),false,())):=by
   unfold B6;rw[bd (d x (List.mem_cons_self ..)),cf rfl,bd (KK hK _ _)]
  obtain⟨a,b,g1,g2⟩:=Jc cb F X (c++[x]) _ _ (fun y e=>d y (List.mem_cons_of_mem _ e)) (h.snoc x);refine⟨a,b,?_,by rw[List.append_assoc] at g2;exact g2⟩;rw[run];show(B6 cb K lo hi false () x).bind _=_;rw[bd h1,ct rfl];exact g1
theorem KY{t:Ah}(d:OkT t){L:List (List Int)}(g:Tr t L){m:List (List Int×Int)}(hm:EC t m)(i:Bf t≠[])(cb:Unit→BA→Option (Int×Unit))(F:BA→Int)(f:List Int→Int)(o:∀l,CL t l=true→F (arr (AB t l))=f l)
  (j:∀l,CL t l=true→cb () (arr (AB t l))=some (F (arr (AB t l)),())):
  ∃h r,EC t h∧Gi (Bf t) f r∧Ey K cb (wk t (L.map (Bq t)) m) ()=some (r,h,()):=by
 have a:∀x∈GF t [] L,cb () x.2=some (F x.2,()):=fun x p=>by
  obtain⟨l,h1,h2,rfl⟩:=FK.1 p;exact j l (by unfold CL;rw[g.P8 l h1,h2];rfl)
 have hr:∃lo hi,run (fun(st:Int×Int×Bool×Unit) (x:BA×BA)=>B6 cb K st.1 st.2.1 st.2.2.1 st.2.2.2 x) (GF t [] L) (0,0,true,())=some (true,(lo,hi,false,()))∧Gi (GF t [] L) (fun x=>F x.2) ⟨lo,hi⟩:=by
  have c:GF t [] L≠[]:=by
   obtain⟨l,hl⟩:=List.exists_mem_of_ne_nil _ i;have b:=(D0 d).1 hl;unfold CL at b;rw[Bool.and_eq_true] at b;obtain⟨l',h5,q⟩:=g.all l b.1;have:(Bq t l',arr (AB t l'))∈GF t [] L:=FK.2 ⟨l',h5,by rw[Gk d q];exact b.2,rfl⟩;intro e;rw[e] at this;cases this
  generalize GF t [] L=X at a c;cases X with
  |nil=>exact absurd rfl c
  |cons x X=>
   have h1:B6 cb K 0 0 true () x=some (true,(F x.2,F x.2,false,())):=by
    unfold B6;rw[bd (a x (List.mem_cons_self ..)),ct rfl,bd (KK hK _ _)];show some (true,min (F x.2) (F x.2),max (F x.2) (F x.2),false,())=_;rw[Int.min_self,Int.max_self]
   obtain⟨k,n,g1,g2⟩:=Jc hK cb F X [x] _ _ (fun y s=>a y (List.mem_cons_of_mem _ s)) (Gi.one (fun x:BA×BA=>F x.2) x);refine⟨k,n,?_,g2⟩;rw[run];show(B6 cb K 0 0 true () x).bind _=_;rw[bd h1,ct rfl];exact g1
 obtain⟨lo,hi,h1,h2⟩:=hr;obtain⟨h,b,u⟩:=NF hK d (out:=[]) (by simp) _ g.len hm h1;refine⟨h,⟨lo,hi⟩,b,L5 d g (fun _ M=>F M) f o h2,?_⟩;unfold Ey;rw[bd u]
structure Sb (t:Ah) (b:List Bl):Prop where
 len:b.length=t.Ab.length
 is:∀k (hk:k<b.length),Gi (Bf t) (fun l=>(AB t l).getD k 0) b[k]
theorem QS{t:Ah}(h:Eh t=true):∃b,Hm K t=some (b,BY t)∧(BY t≠0→b=[])∧(BY t=0→Sb t b):=by
 unfold Hm;rcases H8 hK h true with⟨h0,_,L,m,aB,hm,e⟩|⟨h0,e⟩
 ·have w:=Eo h (C5 (C8 h0).1).1;have aF:=w.kl;have f:∀(d n i:Nat) (acc:List Bl) (c:List (List Int×Int)),t.Ab.length=i+d→d<n→acc.length=i→EC t c→(∀k (hk:k<acc.length),Gi (Bf t) (fun l=>(AB t l).getD k 0) acc[k])→
    ∃b j,Sb t b∧E8 K (wk t (L.map (Bq t)) m) n acc (i:Int) c=some (b,j):=by
   intro d
   induction d with
   |zero=>
    intro n i acc c aC hn ha o a;obtain⟨n,rfl⟩:∃v,n=v+1:=⟨n-1,by omega⟩;have aD:((wk t (L.map (Bq t)) m).weights.length:Int)=t.Ab.length:=by show((List.map _ _).length:Int)=_;simp
    exact⟨acc,c,⟨by omega,a⟩,by rw[E8.eq_2,cf (df (by omega))]⟩
   |succ d ih=>
    intro n i acc c aC hn ha o a;obtain⟨n,rfl⟩:∃v,n=v+1:=⟨n-1,by omega⟩;have aD:((wk t (L.map (Bq t)) m).weights.length:Int)=t.Ab.length:=by show((List.map _ _).length:Int)=_;simp
    have y:i<3:=by omega
    have p:∀l:List Int,idx [(arr (AB t l)).a0,(arr (AB t l)).a1,(arr (AB t l)).a2] (i:Int)=some ((AB t l).getD i 0):=fun l=>by
     have q:i<(AB t l).length:=by rw[DC];omega
     rw[HN (by rw[DC];omega) q,Cl _ q]
    obtain⟨j,r,z,hr,g⟩:=KY hK w aB o (C8 h0).2 (fun(st:Unit) (x:BA)=>(Fw K x (i:Int)).bind fun r=>some (r,())) (fun x=>([x.a0,x.a1,x.a2]:List Int).getD i 0) (fun l=>(AB t l).getD i 0)
     (fun l _=>by
      have:=p l;show([(arr (AB t l)).a0,(arr (AB t l)).a1,(arr (AB t l)).a2]:List Int).getD i 0=_;rw[idx_eq (by simp;omega)] at this;rw[Cl _ (by simp;omega)];exact Option.some.inj this)
     (fun l _=>by
      have:=p l;show(Fw K (arr (AB t l)) (i:Int)).bind _=_;unfold Fw;rw[bd (bd this)];have h2:=this;rw[idx_eq (by simp;omega)] at h2;show some (_,())=some (([(arr (AB t l)).a0,(arr (AB t l)).a1,(arr (AB t l)).a2]:List Int).getD i 0,());rw[Cl _ (show i<([(arr (AB t l)).a0,(arr (AB t l)).a1,(arr (AB t l)).a2]:List Int).length from y),←Option.some.inj h2])
    obtain⟨b,aE,hb,g2⟩:=ih n (i+1) (acc++[r]) j (by omega) (by omega) (by simp;omega) z (fun k hk=>by
     by_cases s:k<acc.length
     ·rw[List.getElem_append_left s];exact a k s
     ·have aA:k=i:=by
       have aG:k<acc.length+1:=by simpa using hk
       omega
      subst aA;rw[List.getElem_append_right (by omega)];simpa[ha] using hr)
    refine⟨b,aE,hb,?_⟩;rw[E8.eq_2,ct (dt (by omega))];show((Ey K (fun(st:Unit) (x:BA)=>(Fw K x (i:Int)).bind fun r=>some (r,())) (wk t (L.map (Bq t)) c) ()).bind _)=_;rw[bd g,DG (by simp;omega),Br (by omega) (by omega),CP i];exact g2
  obtain⟨b,j,hb,g⟩:=f t.Ab.length K 0 [] m (by omega) (by omega) rfl hm (fun k hk=>by simp at hk);refine⟨b,?_,fun hh=>absurd h0 hh,fun _=>hb⟩;rw[bd e];show(E8 K (wk t (L.map (Bq t)) m) K [] 0 m).bind _=_;rw[Int.natCast_zero] at g;rw[bd g,h0]
 ·have u:BY t≠0:=fun g=>h0 ⟨g,rfl⟩;refine⟨[],?_,fun _=>rfl,fun g=>absurd g u⟩;rw[if_neg (by simp)] at e;rw[bd e];show cond (_ !=0) _ _=_;rw[ct (FX u)]
def EG (t:Ah) (BB:List Int):Int:=if DV t=0∧DX t.Ab.length 0 BB=false then 2 else BY t
omit hK in
theorem M3 {t:Ah} {BB:List Int} (h:EG t BB=0):BY t=0∧DX t.Ab.length 0 BB=true:=by
 unfold EG at h
 split at h
 ·omega
 ·rename_i hh
  refine⟨h,?_⟩
  cases hr:DX t.Ab.length 0 BB with
  |true=>rfl
  |false=>exact absurd ⟨(C5 (C8 h).1).1,hr⟩ hh
omit hK in
theorem KZ {t:Ah} {BB:List Int} (h:DX t.Ab.length 0 BB=true):EG t BB=BY t:=by unfold EG;rw[if_neg (by simp[h])]
theorem NJ{t:Ah}(c:OkT t)(a:List BA)(m:List (List Int×Int)){BB:List Int}(hs:BB.length≤900)(l:List Int):Dl K (arr (AB t l)) (wk t a m) BB=some (DW t BB l):=by
 have p:=c.kl;have u:((wk t a m).weights.length:Int)=t.Ab.length:=by show((List.map _ _).length:Int)=_;simp
 have e:∀(d n i:Nat),t.Ab.length=i+d→d<n→C1 K (arr (AB t l)) (wk t a m) BB n (C4 (Ec t BB l) i) (i:Int)=some (DW t BB l):=by
  intro d
  induction d with
  |zero=>
   intro n i r hn;obtain⟨n,rfl⟩:∃j,n=j+1:=⟨n-1,by omega⟩;obtain rfl:i=t.Ab.length:=by omega
   rw[C1.eq_2,cf (df (by omega))];rfl
  |succ d ih=>
   intro n i r hn;obtain⟨n,rfl⟩:∃j,n=j+1:=⟨n-1,by omega⟩;have hi:i<t.Ab.length:=by omega
   have g:i<(AB t l).length:=by rw[DC];omega
   have h:i<(wk t a m).weights.length:=by omega
   have s:(wk t a m).weights[i]'h=(t.Ab.getD i []).sum:=by rw[Cl _ hi];simp[wk]
   have b1:=Hu (f:=Ec t BB l) (b:=9000) i fun k hk=>Kd c BB l k (by omega);have b2:=Kd c BB l i hi;have b3:=KN c i hi;have:=ih n (i+1) (by omega) (by omega);rw[C4] at this;rw[C1.eq_2,ct (dt (by omega)),B5 h,bd (KH hK BB _ hs),s];show cond _ _ ((i64 ((t.Ab.getD i []).sum*t.Flat)).bind fun _=>(i64 (C4 (Ec t BB l) i+(t.Ab.getD i []).sum*t.Flat)).bind fun _=>(i64 ((i:Int)+1)).bind fun _=>C1 K (arr (AB t l)) (wk t a m) BB n (C4 (Ec t BB l) i+(t.Ab.getD i []).sum*t.Flat) ((i:Int)+1))=_;cases q:BB.contains (i:Int) with
   |true=>
    have o:Ec t BB l i=(AB t l)[i]:=by unfold Ec;rw[if_pos q,Cl _ g]
    rw[o] at this b2;rw[ct rfl,bd (HN (by rw[DC];exact p) g),Br (by omega) (by omega),Br (by omega) (by omega),CP i,this]
   |false=>
    have o:Ec t BB l i=(t.Ab.getD i []).sum*t.Flat:=by unfold Ec;rw[if_neg (by rw[q];decide)]
    rw[o] at this b2;rw[cf rfl,Br (by omega) (by omega),Br (by omega) (by omega),Br (by omega) (by omega),CP i,this]
 have:=e t.Ab.length K 0 (by omega) (by omega);rw[Int.natCast_zero,C4] at this;unfold Dl;rw[bd this]
theorem MF{t:Ah}(c:OkT t){L:List (List Int)}(g:Tr t L){m:List (List Int×Int)}(hm:EC t m)(d:Bf t≠[]){BB:List Int}(hs:BB.length≤900):∃a r,EC t a∧Gi (Bf t) (DW t BB) r∧D5 K (wk t (L.map (Bq t)) m) BB=some (r,a):=by
 
 have key:∃F:BA→Int,∀l,CL t l=true→F (arr (AB t l))=DW t BB l:=⟨fun x=>C4 (fun k=>if BB.contains (k:Int)=true then ([x.a0,x.a1,x.a2]:List Int).getD k 0 else (t.Ab.getD k []).sum*t.Flat) t.Ab.length,fun l _=>by
  have e:=c.kl;refine H3 _ fun k hk=>?_;unfold Ec;have b:k<(AB t l).length:=by rw[DC];exact hk
  have h1:=HN (by rw[DC];exact e) b;rw[idx_eq (by simp;omega)] at h1;rw[Cl _ b,←Option.some.inj h1,Cl _ (by simp;omega)]⟩
 obtain⟨F,f⟩:=key;obtain⟨a,r,h1,h2,h⟩:=KY hK c g hm d (fun(st:Unit) (x:BA)=>(Dl K x (wk t (L.map (Bq t)) m) BB).bind fun r=>some (r,())) F (DW t BB) f (fun l hl=>by
  show(Dl K (arr (AB t l)) (wk t (L.map (Bq t)) m) BB).bind _=_;rw[bd (NJ hK c _ m hs l),f l hl])
 refine⟨a,r,h1,h2,?_⟩;unfold D5;rw[bd h]
theorem NY{t:Ah}(h:Eh t=true){BB:List Int}(hs:BB.length≤900):∃r,F7 K t BB=some (r,EG t BB)∧(EG t BB≠0→r=⟨0,0⟩)∧(EG t BB=0→Gi (Bf t) (DW t BB) r):=by
 have hlen:=Gn h;have j:t.Ab.length≤100:=hlen.1.2.1;unfold F7;rw[bd (Nr hK (by omega) hs)];rcases H8 hK h (DX t.Ab.length 0 BB) with⟨h0,hr,L,m,c,hm,e⟩|⟨h0,e⟩
 ·have d:=Eo h (C5 (C8 h0).1).1;obtain⟨k,r,_,h2,f⟩:=MF hK d c hm (C8 h0).2 hs;have b:EG t BB=0:=by rw[KZ hr,h0]
  refine⟨r,?_,fun g=>absurd b g,fun _=>h2⟩;rw[bd e];rw[b];show(D5 K (wk t (L.map (Bq t)) m) BB).bind _=_;rw[bd f]
 ·have a:EG t BB≠0:=fun g=>h0 (M3 g);refine⟨⟨0,0⟩,?_,fun _=>rfl,fun g=>absurd g a⟩;have i:Cw K t (DX t.Ab.length 0 BB)=some (none,EG t BB):=e;rw[bd i];show cond (_ !=0) _ _=_;rw[ct (FX a)]
end
theorem lz1{α β a:Type}{z:β}{x y:a}:cond (((([]:List α),z).1.length:Int) !=0) x y=y:=rfl
theorem X3(b:Bool):(b !=b)=false:=by cases b<;>rfl
section
variable{K:Nat}(hK:1000≤K)
include hK
theorem S8{t:Ah}(b:OkT t){s:Nat}(hs:s<256):Em K t (s:Int)=some (BE (s&&&(2^t.Ab.length-1))):=by
 have f:=b.kl;obtain⟨s1,s2,c,g,h,_⟩:=L4 t.Ab.length (by omega);have e:((2^t.Ab.length:Nat):Int)-1=((2^t.Ab.length-1:Nat):Int):=by omega
 have d:EI .i64 (s:Int)=some ():=by
  have:∀x:Nat,x<256→EI .i64 (x:Int)=some ():=by decide+kernel
  exact this s hs
 have a:s&&&(2^t.Ab.length-1)<2^8:=Nat.lt_of_le_of_lt Nat.and_le_left (by omega);unfold Em;rw[bd d,bd s1,bd s2,c,e,Br (by omega) (by omega),MC (by omega) (by omega),Uj,bd (Nq hK a)]
end
theorem RG(s n:Nat):s&&&(2^n-1)<2^n:=by
 have:=Nat.two_pow_pos n;exact Nat.lt_of_le_of_lt Nat.and_le_right (by omega)
theorem OH{α:Type}(x:List α)(a:Nat):HL x (0:Int) (a:Int)=x.take a:=by unfold HL;simp
def EF(t:Ah)(o:CH):Int:=(t.AJ.getD o.Dh.toNat ⟨0,0⟩).BN
def Hd (t:Ah) (o:CH) (k:Nat):Bool:=decide (o.Df≤(t.Ab.getD k []).sum)&&(Bf t).all fun l=>decide (EF t o≤DZ l (t.Ab.getD k []))
def GB(t:Ah)(o:CH):List Int:=((List.range t.Ab.length).filter (Hd t o)).map fun k:Nat=>(k:Int)
def DA(t:Ah):List (List Int):=t.Aw.map (GB t)
def Dz:List (List Int)→List Int→List Int→Bool
 |[],_,[]=>true
 |s::S,out,x::xs=>s.contains x&&(!out.contains x&&Dz S (out++[x]) xs)
 |_,_,_=>false
structure Hl (t:Ah) (d:List Int):Prop where
 is:Dz (DA t) [] d=true
 first:∀d',Dz (DA t) [] d'=true→lexB d' d=false
theorem Hl.uniq{t:Ah}{d d':List Int}(h:Hl t d)(g:Hl t d'):d=d':=MX _ _ (g.first d h.is) (h.first d' g.is)
section
variable{K:Nat}(hK:1000≤K)
include hK
end
theorem oe{α β b:Type}{a:α}{z:b}{x:β}{f:α→β}:Option.elim (some a,z).1 x f=f a:=rfl
theorem U9{α b:Type}{a:α}{x y:b}:cond ((a,(0:Int)).2 !=0) x y=y:=rfl
section
variable{K:Nat}(hK:1000≤K)
include hK
end
def G9 (t:Ah) (out:List Int):Bool:=(BR t.C).any fun l=>CK (AB t l) out 0 t.Ar
def Dp(t:Ah)(ns:List Cu):Ah:=⟨t.Ag,t.Ab,t.Ak,t.Flat,t.AJ,t.Aw,ns⟩
theorem Sc{t:Ah}(a:OkT t){ns:List Cu}(hl:ns.length≤5)(hn:∀n∈ns,Kb t n=true):OkT (Dp t ns):=by
 refine⟨?_,?_,a.many⟩
 ·obtain⟨h1,h2,b,i⟩:=a.len;exact⟨h1,h2,b,by show ns.length≤_;omega⟩
 ·have h:=HE a.fault;unfold DV;have e:(Dp t ns).C=t.C:=rfl;have c:(Dp t ns).AJ=t.AJ:=rfl;have d:(Dp t ns).Aw=t.Aw:=rfl;have f:(Dp t ns).Ar=ns:=rfl;have g:(Dp t ns).Flat=t.Flat:=rfl;have j:(fun o=>LG (Dp t ns) o)=LG t:=rfl;have k:(fun o=>Kb (Dp t ns) o)=Kb t:=rfl;have h1:t.Aw.all (LG (Dp t ns))=true:=List.all_eq_true.2 h.2.2.2.2.2.2.2.1;have h2:ns.all (Kb (Dp t ns))=true:=List.all_eq_true.2 hn;rw[e,c,d,f,g,if_neg (by simp[h.1]),if_neg (by omega),if_neg (by have:=Ei.2 h.2.2.2.2.1;simp[this]),if_neg (by omega),if_neg (by simp[h.2.2.2.2.2.2.1]),if_neg (by simp[h1]),if_neg (by simp[h2])]
theorem Uk{t:Ah}(a:OkT t):∀n∈t.Ar,Kb t n=true:=(HE a.fault).2.2.2.2.2.2.2.2
theorem Ul{t:Ah}{L:List (List Int)}(h:Tr t L)(ns:List Cu):Tr (Dp t ns) L:=⟨h.P8,h.all,h.len⟩
theorem S9{t:Ah}{m:List (List Int×Int)}(h:EC t m)(ns:List Cu):EC (Dp t ns) m:=h
theorem Qs (M:List Int) {ns:List Cu} (h5:ns.length≤5):CK M (BE (2^ns.length-1)) 0 ns=true:=by
 rw[HU];intro j hj;left;rw[Nat.zero_add,KM (by omega),Nat.testBit_two_pow_sub_one];simpa using hj
def Gv (t:Ah) (k:Nat):Bool:=G9 (Dp t (t.Ar.take k)) []
theorem He(M:List Int)(ns:List Cu):CK M [] 0 ns=true↔∀n∈ns,EB M n=true:=by
 rw[HU];constructor
 ·intro h n hn;obtain⟨j,hj,rfl⟩:=List.getElem_of_mem hn;rcases h j hj with h1|h1
  ·simp at h1
  ·exact h1
 ·intro h j hj;exact .inr (h _ (List.getElem_mem hj))
theorem Hy{t:Ah}{j k:Nat}(h:j≤k)(hk:Gv t k=true):Gv t j=true:=by
 unfold Gv G9 at hk⊢;rw[List.any_eq_true] at hk⊢;obtain⟨l,hl,hr⟩:=hk;refine⟨l,hl,?_⟩;have a:AB (Dp t (t.Ar.take k)) l=AB t l:=rfl;have b:AB (Dp t (t.Ar.take j)) l=AB t l:=rfl;have c:(Dp t (t.Ar.take k)).Ar=t.Ar.take k:=rfl;have d:(Dp t (t.Ar.take j)).Ar=t.Ar.take j:=rfl;rw[a,c,He] at hr;rw[b,d,He];exact fun n hn=>hr n (List.take_subset_take_left _ h hn)
structure G5 (t:Ah) (i:Nat):Prop where
 lt:i<t.Ar.length
 before:Gv t i=true
 not:Gv t (i+1)=false
theorem G5.uniq{t:Ah}{i j:Nat}(h:G5 t i)(g:G5 t j):i=j:=by
 rcases Nat.lt_trichotomy i j with h1|h1|h1
 ·have:=Hy (show i+1≤j by omega) g.before;rw[h.not] at this;cases this
 ·exact h1
 ·have:=Hy (show j+1≤i by omega) h.before;rw[g.not] at this;cases this
section
variable{K:Nat}(hK:1000≤K)
include hK
theorem Ta{t:Ah}(b:OkT t){out:List Int}(d:out.length≤900){L:List (List Int)}(c:Tr t L){m:List (List Int×Int)}(hm:EC t m):
  ∃a,EC t a∧CF K (wk t (L.map (Bq t)) m) out=some (G9 t out,a):=by
 obtain⟨a,h1,h2⟩:=Lp hK b d c.len hm;refine⟨a,h1,?_⟩;rw[h2];unfold G9;rw[OR hK b c _ (Ma hK b out)]
theorem V1{t:Ah}(h:Eh t=true):∃x,JA K t=some (x,De t)∧(De t≠0→x=[])∧(De t=0→Nd t.Ar.length (G9 t) x):=by
 unfold JA;rcases KW hK h true with⟨h0,_,L,i,a,e⟩|⟨h0,e⟩
 ·have b:=Eo h (C5 h0).1;have c:=b.nl;obtain⟨m,k,g1⟩:=NI hK (n:=t.Ar.length) (by omega) (I:=EC t) (p:=G9 t) (fun(st:(List (List Int×Int))) (x:(List Int))=>(CF K (wk t (L.map (Bq t)) st) x).bind fun r=>some (r.1,r.2)) (fun s x hs o hb=>by
   obtain⟨j,d,g⟩:=Ta hK b (out:=x) (by omega) i hs;refine⟨j,d,?_⟩;show(CF K (wk t (L.map (Bq t)) s) x).bind _=_;rw[bd g]) (LN t)
  have f:Fa K (fun(st:(List (List Int×Int))) (x:(List Int))=>(CF K (⟨(wk t (L.map (Bq t)) []).AX,(wk t (L.map (Bq t)) []).AY,(wk t (L.map (Bq t)) []).AT,(wk t (L.map (Bq t)) []).CV,(wk t (L.map (Bq t)) []).Bx,(wk t (L.map (Bq t)) []).Bw,(wk t (L.map (Bq t)) []).BT,(wk t (L.map (Bq t)) []).weights,(wk t (L.map (Bq t)) []).Dg,st⟩:CZ) x).bind fun r=>some (r.1,r.2)) (t.Ar.length:Int) (wk t (L.map (Bq t)) []).known=_:=g1;rw[bd e,oe,U9,bd f,h0];refine⟨_,rfl,fun g=>absurd rfl g,fun _=>O4 (by omega) [] ?_⟩;rw[O5 (by omega)];have q:=Nat.two_pow_pos t.Ar.length;refine⟨2^t.Ar.length-1,by omega,?_⟩;unfold G9;rw[List.any_eq_true];obtain⟨l,hl⟩:=List.exists_mem_of_ne_nil _ (C5 h0).2;exact⟨l,hl,Qs _ c⟩
 ·have a:De t≠0:=fun g=>h0 ⟨g,rfl⟩;refine⟨[],?_,fun _=>rfl,fun g=>absurd g a⟩;rw[if_neg (by simp)] at e;rw[bd e];show cond (_ !=0) _ _=_;rw[ct (FX a)]
theorem Ra{t:Ah}(h0:BR t.C≠[]):Gv t 0=true:=by
 unfold Gv G9;obtain⟨l,hl⟩:=List.exists_mem_of_ne_nil _ h0;rw[List.any_eq_true];exact⟨l,hl,rfl⟩
theorem V2{t:Ah}(h:Eh t=true):∃n e,Jz K t=some (n,e)∧(De t≠0→n=0∧e=De t)∧(De t=0→((∃i:Nat,e=0∧n=i∧G5 t i)∨e=7∧n=0∧Gv t t.Ar.length=true)):=by
 unfold Jz;rcases KW hK h true with⟨h0,_,L,s,a,e⟩|⟨h0,e⟩
 ·have f:=Eo h (C5 h0).1;have w:=f.nl;have c:∀(d k i:Nat) (b:List Cu) (m:List (List Int×Int)),t.Ar.length=i+d→d<k→EC t m→Gv t i=true→
    ∃n e,(H2 K t (wk t (L.map (Bq t)) []) k (i:Int) b m).bind (fun z=>Sum.elim (fun q=>some (q.1,q.2.1)) (fun _=>some (0,7)) z)=some (n,e)∧((∃i:Nat,e=0∧n=i∧G5 t i)∨e=7∧n=0∧Gv t t.Ar.length=true):=by
   intro d
   induction d with
   |zero=>
    intro k i b m u hk hm j;obtain⟨k,rfl⟩:∃k',k=k'+1:=⟨k-1,by omega⟩;obtain rfl:i=t.Ar.length:=by omega
    refine⟨0,7,?_,.inr ⟨rfl,rfl,j⟩⟩;rw[H2.eq_2,cf (df (by omega))];rfl
   |succ d ih=>
    intro k i b m u hk hm j;obtain⟨k,rfl⟩:∃k',k=k'+1:=⟨k-1,by omega⟩;have l:OkT (Dp t (t.Ar.take (i+1))):=Sc f (by simp;omega) fun n hn=>Uk f n (List.mem_of_mem_take hn);obtain⟨o,p,g1⟩:=Ta hK l (out:=[]) (by simp) (Ul s _) (S9 hm _);have r:CF K (⟨(wk t (L.map (Bq t)) []).AX,(wk t (L.map (Bq t)) []).AY,(wk t (L.map (Bq t)) []).AT,(wk t (L.map (Bq t)) []).CV,(wk t (L.map (Bq t)) []).Bx,(wk t (L.map (Bq t)) []).Bw,t.Ar.take (i+1),(wk t (L.map (Bq t)) []).weights,(wk t (L.map (Bq t)) []).Dg,m⟩:CZ) []=some (Gv t (i+1),o):=g1;rw[H2.eq_2,ct (dt (by omega)),Br (by omega) (by omega),Rl (by omega),CP i,OH,bd r];cases hq:Gv t (i+1) with
    |false=>
     exact⟨i,0,rfl,.inl ⟨i,rfl,rfl,by omega,j,hq⟩⟩
    |true=>
     rw[nt,Br (by omega) (by omega)];exact ih k (i+1) _ o (by omega) (by omega) p hq
  obtain⟨n,v,g1,g2⟩:=c t.Ar.length K 0 (wk t (L.map (Bq t)) []).BT [] (by omega) (by omega) (LN t) (Ra hK (C5 h0).2);refine⟨n,v,?_,fun g=>absurd h0 g,fun _=>g2⟩;rw[bd e,oe,U9];exact g1
 ·have a:De t≠0:=fun g=>h0 ⟨g,rfl⟩;refine⟨0,De t,?_,fun _=>⟨rfl,rfl⟩,fun g=>absurd g a⟩;rw[if_neg (by simp)] at e;rw[bd e];show cond (_ !=0) _ _=_;rw[ct (FX a)]
end
theorem Aea{M:List Int}(h:M.length≤3):HL [(arr M).a0,(arr M).a1,(arr M).a2] (0:Int) (M.length:Int)=M:=by
 match M,h with
 |[],_=>rfl
 |[_],_=>rfl
 |[_,_],_=>rfl
 |[_,_,_],_=>rfl
 |_::_::_::_::_,h=>simp at h
section
variable{K:Nat}(hK:1000≤K)
include hK
theorem Wz(rs:List Bl)(l:List Int)(hh:rs.length≤100)(he:l.length=rs.length):∀(n m i:Nat),l.length=i+n→n<m→
  HJ K l rs m (i:Int)=some (cond (Eu (rs.drop i) (l.drop i)) (.inr ()) (.inl false))
 |n,0,i,h,hm=>by omega
 |0,m+1,i,h,hm=>by
  rw[HJ.eq_2,cf (df (by omega)),List.drop_eq_nil_of_le (by omega:l.length≤i),List.drop_eq_nil_of_le (by omega:rs.length≤i),OQ,ct rfl]
 |n+1,m+1,i,h,hm=>by
  have h1:i<l.length:=by omega
  have h2:i<rs.length:=by omega
  have e:I6 K rs[i] l[i]=some (DK l[i] rs[i].Lo rs[i].Hi):=by unfold I6;rw[bd (I7 ..)]
  rw[HJ.eq_2,ct (dt (by omega)),B5 h2,B5 h1,bd e,List.drop_eq_getElem_cons h1,List.drop_eq_getElem_cons h2,Eu];cases DK l[i] rs[i].Lo rs[i].Hi with
  |false=>rw[nf,Bool.false_and,cf rfl]
  |true=>rw[nt,Br (by omega) (by omega),CP i,Bool.true_and,Wz rs l hh he n m (i+1) (by omega) (by omega)]
theorem AaD(t:Ah)(l:List Int)(hh:t.Ag.length≤100):KF K t l=some (Eu t.Ag l):=by
 unfold KF
 by_cases he:l.length=t.Ag.length
 ·have:=Wz hK t.Ag l hh he l.length K 0 (by omega) (by omega);rw[Int.natCast_zero,List.drop_zero,List.drop_zero] at this;rw[cf (EW (by omega)),bd (YS hK t hh),bd this];cases Eu t.Ag l<;>rfl
 ·rw[ct (FX (by omega)),Aao hK he]
theorem Ae5{t:Ah}(h:Eh t=true)(l:List Int):LC K t l=some (if DV t≠0 then ([],DV t) else if Eu t.Ag l=true then (AB t l,0) else ([],2)):=by
 unfold LC;have hlen:=Gn h;rw[bd (QI hK t hlen)]
 by_cases h0:DV t=0
 ·have a:=Eo h h0;have c:=a.kl;rw[cf (EW h0),if_neg (by simp[h0]),bd (AaD hK t l hlen.1.1)];cases hl:Eu t.Ag l with
  |false=>rw[nf,if_neg (by simp)]
  |true=>
   obtain⟨m,_,g⟩:=Vy hK a [] (LN t) l;have b:=DC t l;have e:HL [(arr (AB t l)).a0,(arr (AB t l)).a1,(arr (AB t l)).a2] (0:Int) (t.Ab.length:Int)=AB t l:=by
    rw[←b];exact Aea (by omega)
   rw[nt,if_pos rfl,bd (Xy hK a),bd (SU hK a hl),bd g,Rl (by simp;omega),e,DG (by omega)]
 ·rw[ct (FX h0),if_pos h0]
theorem AbK{t:Ah}(h:Eh t=true)(a:OkT t){l:List Int}(hl:Eu t.Ag l=true):LC K t l=some (AB t l,0):=by
 rw[Ae5 hK h l,if_neg (by simp[a.fault]),if_pos hl]
theorem WG{t:Ah}(h:Eh t=true){l:List Int}(hl:l.length≤100):LI K t l=some (decide (DV t=0)&&CL t l):=by
 unfold LI CL;rw[bd (QI hK t (Gn h))]
 by_cases h0:DV t=0
 ·have a:=Eo h h0;have b:=a.kl;have f:=a.nl;have d:HC K ⟨t.Ag,t.Ab,t.Ak⟩ l=some (Dr t.C l):=Qj hK (c:=t.C) a.c hl;rw[cf (EW h0),bd d,dt h0,Bool.true_and];cases e:Dr t.C l with
  |false=>rw[nf,Bool.false_and]
  |true=>
   obtain⟨m,_,g⟩:=Vy hK a [] (LN t) l;rw[nt,bd (Xy hK a),bd (SU hK a (Jr e)),bd g,bd (YT hK t (by rw[DC];exact b) (fun n hn=>by rw[DC];exact(a.note n hn).1) (by omega) (by simp)),Bool.true_and]
 ·rw[ct (FX h0),df h0,Bool.false_and]
end
theorem X5{x:Int}(h0:-9223372036854775808≤x)(h1:x≤9223372036854775807):EI .i64 x=some ():=by
 unfold EI;have:IntKind.i64.wrap x=x:=MU ⟨by omega,by omega⟩;rw[if_pos this]
theorem Rm{β:Type}{x:Int}{f:Unit→Option β}(h0:0≤x)(h1:x<65536):(EI .i64 x).bind f=f ():=bd (X5 (by omega) (by omega))
theorem Aeb{t:Ah}(b:OkT t):De t=0∧BR t.C≠[]∨De t=11∧BR t.C=[]:=by
 unfold De
 by_cases a:BR t.C=[]
 ·right;rw[if_neg (show¬DV t≠0 by simp[b.fault]),if_pos a];exact⟨rfl,a⟩
 ·left;rw[if_neg (show¬DV t≠0 by simp[b.fault]),if_neg a];exact⟨rfl,a⟩
theorem Aec{t:Ah}(b:OkT t)(a:De t=0):BY t=if Bf t=[] then 9 else 0:=by
 unfold BY;rw[a,if_neg (show¬(0:Int)≠0 by simp)]
theorem Va{t:Ah}:Bf t≠[]↔G9 t []=true:=by
 unfold Bf G9;rw[List.any_eq_true];constructor
 ·intro h;obtain⟨l,hl⟩:=List.exists_mem_of_ne_nil _ h;obtain⟨h1,h2⟩:=List.mem_filter.1 hl;exact⟨l,h1,h2⟩
 ·rintro⟨l,h1,h2⟩ e;have:l∈(BR t.C).filter fun l=>CK (AB t l) [] 0 t.Ar:=List.mem_filter.2 ⟨h1,h2⟩;rw[e] at this;cases this
theorem AaE{t:Ah}(a:OkT t)(b:De t=0):BY t=if G9 t []=true then 0 else 9:=by
 rw[Aec a b]
 by_cases h:Bf t=[]
 ·rw[if_pos h,if_neg (fun g=>Va.2 g h)]
 ·rw[if_neg h,if_pos (Va.1 h)]
theorem ZN{t:Ah}(h:Eh t=true){ns:List Cu}(hl:ns.length≤7):Eh (Dp t ns)=true:=by
 unfold Eh at h⊢;rw[Bool.and_eq_true,Bool.and_eq_true,Bool.and_eq_true] at h⊢;exact⟨h.1,h.2.1,h.2.2.1,dt hl⟩
section
variable{K:Nat}(hK:1000≤K)
include hK
theorem M4(t:Ah):(CY K t=some false)∨(Eh t=true∧OkT t∧CY K t=some true):=by
 rw[PQ hK t];cases h:Eh t with
 |false=>exact .inl rfl
 |true=>
  by_cases h0:DV t=0
  ·exact .inr ⟨rfl,Eo h h0,by rw[dt h0];rfl⟩
  ·exact .inl (by rw[df h0];rfl)
end
end Go.Proofs.YtbhofkcbfblijaaGreat
end
section
namespace Go.Proofs.YtbhofkcbfblijaaGreat
namespace HF
theorem Ms:Bg Tryz.prog 63:=by unfold Bg;kernel_rfl
theorem ZO:(Tryz.prog.info? 27).map (·.size)=some 1:=by kernel_rfl
theorem X6:One Tryz.prog 27:=by unfold One;exact⟨by kernel_rfl,by kernel_rfl⟩
theorem Rb:(Tryz.prog.underlying 27).isSome=true:=by kernel_rfl
theorem V4:(Tryz.prog.info? 67).bind (·.zero)=some (.agg #[.slice none 0 0,.slice none 0 0,.slice none 0 0,I 0,.slice none 0 0,.slice none 0 0,.slice none 0 0]):=by kernel_rfl
theorem ZP:(Tryz.prog.info? 67).map (·.size)=some 7:=by kernel_rfl
theorem Acm:(Tryz.prog.info? 65).map (·.size)=some 1:=by kernel_rfl
theorem Tb:Bg Tryz.prog 86:=by unfold Bg;kernel_rfl
theorem AbL:(Tryz.prog.info? 121).map (fun i=>(i.zero,i.size,i.bytes))=some (some (.agg #[I 0,I 0,I 0]),3,24):=by kernel_rfl
theorem V5:(Tryz.prog.underlying 5).isSome=true:=by kernel_rfl
theorem J6:Bg Tryz.prog 51:=by unfold Bg;kernel_rfl
theorem Ae6:Bg Tryz.prog 74:=by unfold Bg;kernel_rfl
theorem Py:∀(b c:Bool) (w:World),(Op.equal 4 (.bool b) (.bool c)).run Tryz.prog w=.ok (b==c) w:=by intro b c w;cases b<;>cases c<;>kernel_rfl
theorem QT:Bg Tryz.prog 48:=by unfold Bg;kernel_rfl
theorem Ae7:Bg Tryz.prog 78:=by unfold Bg;kernel_rfl
theorem Tc:Bg Tryz.prog 49:=by unfold Bg;kernel_rfl
theorem AaF:Bg Tryz.prog 80:=by unfold Bg;kernel_rfl
end HF
end Go.Proofs.YtbhofkcbfblijaaGreat
end
section
namespace Go.Proofs.YtbhofkcbfblijaaGreat
open Go.RowKit Go.WideShapes
set_option maxRecDepth 20000
open HF
attribute [local irreducible] Dm WL CC CW LV B7 Ih GL One Bg
theorem a74 bA r aZ a b c d e f j k m n o p aE aF(Z:Nat→Prop) w(b5:Sl Az w Z a b r.Ag)(b6:Sl (Bs (Ao .i64)) w Z c d r.Ab)(b7:Sl AH w Z e f r.Ak)(b8:Sl Ba w Z j k r.AJ)(b9:Sl Bc w Z m n r.Aw)(cA:Sl Bp w Z o p r.Ar)(cB:Sl (Ao .i64) w Z aE aF aZ) bW(i:LI bA r aZ=some bW):
 B7 Tryz.prog 74 #[.agg (Ai a b c d e f j k m n o p r).toArray,.slice aE aZ.length aF] w (fun v w'=>Ext w w'∧Cm.R w' (zf Z w []) v bW):=by
 unfold LI at i;refine rq (N:=23) Tryz.func74 fun dV ha dW=>?_;have cG:=sA 0 ha;have bX:=sA 1 ha;clear ha;have cC:Hp FN [] w [] w:=Hp.start (BL.none w);have ⟨bI,bJ,bK,bL,bM,bN,bO⟩:=Ea b5 b6 b7 b8 b9 cA cB (Bd (Z:=Z) (L:=[]) w);refine cr<|wE (fun st=>BP (v:=.agg (Ai a b c d e f j k m n o p r).toArray) (cs:=(Ai a b c d e f j k m n o p r).toArray) (ee st cG) rfl) ?_;rintro _ w1 ⟨b1,rfl,aO⟩;have cO:=cC.nb aO;have dR:=cC.BU aO;refine wA (v:=.bool false) rfl<|wn<|Af<|cr<|wD (fun st=>AK (l:=(Ai a b c d e f j k m n o p r)) FY (eR st) aO.bk rfl rfl) ?_;have ⟨aP,aQ,aR,aS,aT,aU⟩:=Cp bI bJ bK bL bM bN (AA aO);replace i:=bind_some i;obtain⟨cH,cP,i⟩:=i;refine wE (fun st=>Aj XO (eR st) (Cy (eR st)) (a75 bA r a b c d e f j k m n o p ZA _ aP.all aQ.all aR.all aS.all aT.all aU.all cH cP)) ?_;rintro _ d1 ⟨a7,rfl⟩;have cD:=cO.ext a7;refine wD (fun st=>Db (eR st) (eR st))<|wM (v:=.bool (cH !=0)) rfl ?_;rcases Ae (cH !=0) with s|s
 ·replace i:=Ap i s;refine wF s<|wF s<|wF s<|wF s<|wF s<|wD (fun st=>AW (v:=.bool true) (eR st) s (eR st))<|wn<|Am rfl rfl<|cr<|wA (v:=.bool false) rfl<|wn<|Av<|AG ?_;obtain rfl:=oi i;refine Ay rfl rfl ?_;exact⟨cD.AS,rfl⟩
 ·replace i:=Aq i s;refine wG s (fun st=>Ad (eR st) (Nh _ _)) ?_;have bD:=(aO.bk.ext a7);refine wG s (fun st=>AK (l:=[.slice a r.Ag.length b,.slice c r.Ab.length d,.slice e r.Ak.length f]) LH (eR st) bD rfl rfl)<|wG s (fun st=>Au (v:=.slice aE aZ.length aF) (ee st bX)) ?_;have ⟨aV,aW,aX⟩:=DU aP aQ aR (Ac a7);have aY:=((bO.mv (AA aO)).mv (Ac a7));replace i:=bind_some i;obtain⟨bY,cQ,i⟩:=i;refine wX s (fun st=>Aj XK (eR st) (CN (eR st) (eR st)) (a79 bA (⟨r.Ag,r.Ab,r.Ak⟩:AO) aZ a b c d e f aE aF ZA _ aV.all aW.all aX.all aY.all bY cQ)) ?_;rintro _ cR ⟨a8,rfl⟩;have cE:=cD.ext a8;refine wG s (fun st=>CJ (eR st))<|wD (fun st=>Bo (v:=.bool !bY) (eR st) s (eR st))<|wn ?_;rcases Ae (!bY) with aN|aN
  ·replace i:=Ap i aN;have dS:bY=false:=by simpa using aN
   refine Am rfl aN<|cr<|wA (v:=.bool false) rfl<|wn<|Av<|AG ?_;obtain rfl:=oi i;refine Ay rfl rfl ?_;exact⟨cE.AS,rfl⟩
  ·replace i:=Aq i aN;have dT:bY=true:=by simpa using aN
   refine An rfl aN<|cn<|Af ?_;have a3:=(bD.ext a8);have ⟨aG,aH,aI⟩:=DU aV aW aX (Ac a8);have ⟨aJ,aK,aL⟩:=DU aS aT aU (mt (Ac a7) (Ac a8));replace i:=bind_some i;obtain⟨bZ,cI,i⟩:=i;have bP:=(aY.mv (Ac a8));replace i:=bind_some i;obtain⟨aM,cJ,i⟩:=i;replace i:=bind_some i;obtain⟨a9,cK,i⟩:=i;refine NS 7 (fun D V cS=>Ext cR cS∧(D 0=true→V 0=.agg (Ai a b c d e f j k m n o p r).toArray)∧(D 1=true→V 1=.agg (Ai a b c d e f j k m n o p r).toArray)∧(D 2=true→D 6=false→∃cL,cR.heap.size≤cL∧Ib cL cS (zf Z w [some b1]) (V 2) (some bZ))∧(D 3=true→V 3=.agg (Ai a b c d e f j k m n o p r).toArray)∧(D 4=true→V 4=.slice aE aZ.length aF)∧(D 5=true→V 5=.agg #[I aM.a0,I aM.a1,I aM.a2])∧(D 6=true→V 6=.agg #[I a9.1.a0,I a9.1.a1,I a9.1.a2])) mixed rfl rfl ⟨Fh _,fun h=>absurd h (by decide),fun h=>absurd h (by decide),fun h=>absurd h (by decide),fun h=>absurd h (by decide),fun h=>absurd h (by decide),fun h=>absurd h (by decide),fun h=>absurd h (by decide)⟩
       ⟨sj rfl (fun D V a' w' K ⟨q,aB,u,aC,x,y,z,aD⟩=>(AK (l:=(Ai a b c d e f j k m n o p r)) FY (K.kO 2) (a3.ext q) rfl rfl).mono fun v CO ⟨bB,bC⟩=>by subst bB;subst bC;exact⟨q,fun _=>rfl,u,fun h h2=>(aC h h2).imp fun _ g=>⟨g.1,g.2⟩,x,y,z,aD⟩),
        sj rfl (fun D V a' w' K ⟨q,aB,u,aC,x,y,z,aD⟩=>(AK (l:=(Ai a b c d e f j k m n o p r)) FY (K.kO 2) (a3.ext q) rfl rfl).mono fun v CO ⟨bB,bC⟩=>by subst bB;subst bC;exact⟨q,aB,fun _=>rfl,fun h h2=>(aC h h2).imp fun _ g=>⟨g.1,g.2⟩,x,y,z,aD⟩),
        sj rfl (fun D V a' w' K ⟨q,aB,u,aC,x,y,z,aD⟩=>(Aj VK rfl (Cy (es (t:=16) (v:=.agg (Ai a b c d e f j k m n o p r).toArray) ((K.dq 1 16).trans (u (K.dn 1 rfl))))) (AeU bA r a b c d e f j k m n o p (zf Z w [some b1]) _ (aG.mv (Ac q)) (aH.mv (Ac q)) (aI.mv (Ac q)) (aJ.mv (Ac q)) (aK.mv (Ac q)) (aL.mv (Ac q)) bZ cI)).mono fun v CO ⟨h1,h2⟩=>by exact⟨Ext.trans q h1,aB,u,fun _ _=>⟨_,q.size,h2⟩,x,y,z,aD⟩),
        sj rfl (fun D V a' w' K ⟨q,aB,u,aC,x,y,z,aD⟩=>(AK (l:=(Ai a b c d e f j k m n o p r)) FY (K.kO 2) (a3.ext q) rfl rfl).mono fun v CO ⟨bB,bC⟩=>by subst bB;subst bC;exact⟨q,aB,u,fun h h2=>(aC h h2).imp fun _ g=>⟨g.1,g.2⟩,fun _=>rfl,y,z,aD⟩),
        sj rfl (fun D V a' w' K ⟨q,aB,u,aC,x,y,z,aD⟩=>(Au (v:=.slice aE aZ.length aF) (es ((K.out 1 rfl).trans bX))).mono fun v CO ⟨bB,bC⟩=>by subst bB;subst bC;exact⟨q,aB,u,fun h h2=>(aC h h2).imp fun _ g=>⟨g.1,g.2⟩,x,fun _=>rfl,z,aD⟩),
        sj rfl (fun D V a' w' K ⟨q,aB,u,aC,x,y,z,aD⟩=>(Aj VM rfl (CN (es (t:=18) (v:=.agg (Ai a b c d e f j k m n o p r).toArray) ((K.dq 3 18).trans (x (K.dn 3 rfl)))) (es (t:=19) (v:=.slice aE aZ.length aF) ((K.dq 4 19).trans (y (K.dn 4 rfl))))) (AbB bA r aZ a b c d e f j k m n o p aE aF ZA _ (aG.mv (Ac q)).all (aH.mv (Ac q)).all (aI.mv (Ac q)).all (aJ.mv (Ac q)).all (aK.mv (Ac q)).all (aL.mv (Ac q)).all (bP.mv (Ac q)).all aM cJ)).mono fun v CO ⟨h1,h2⟩=>by obtain⟨_,rfl,rfl⟩:=h2;exact⟨Ext.trans q h1,aB,u,fun h h2=>(aC h h2).imp fun _ g=>⟨g.1,g.2.ext h1⟩,x,y,fun _=>rfl,aD⟩),
        sj rfl (fun D V a' w' K ⟨q,aB,u,aC,x,y,z,aD⟩=>by
           obtain⟨cL,cT,cU⟩:=aC (K.dn 2 rfl) K.me;obtain⟨cV,bW,cW,cX,cY,cZ,c0,c1,c2,c3,c4,c5,c6,c7,c8,c9,dA,dB,dC,dD,dE,dF,dG,dH,dI,dJ,dK,dL,dM,dN,dO⟩:=Ib.use cU;exact(Aj VN rfl (CN (es (t:=17) (v:=pt cV 0) ((K.dq 2 17).trans dC)) (es (t:=20) (v:=.agg #[I aM.a0,I aM.a1,I aM.a2]) ((K.dq 5 20).trans (z (K.dn 5 rfl))))) (AbC bA bZ aM cW cX cY cZ c0 c1 c2 c3 c4 c5 c6 c7 c8 c9 dA dB cV bW (ZC FN [some bW]) _ dD I9 dH dI dJ dK dL dM dN dO dF dG a9 cK)).mono fun v CO ⟨h1,h2,_⟩=>by obtain⟨_,rfl,rfl⟩:=h2;exact⟨T3 q h1 (Nat.le_trans cT dE),aB,u,(fun _ h=>absurd (show true=false from h) Bool.noConfusion),x,y,z,fun _=>rfl⟩),trivial⟩ ?_
   rintro dX dY dZ aA ⟨b4,a4,bE,dU,bF,bG,bH,a5⟩;replace a4:=a4 (aA 0 (by decide));replace bE:=bE (aA 1 (by decide));replace bF:=bF (aA 3 (by decide));replace bG:=bG (aA 4 (by decide));replace bH:=bH (aA 5 (by decide));replace a5:=a5 (aA 6 (by decide));have dP:=cE.ext b4;have ⟨bQ,bR,bS,bT,bU,bV⟩:=Cp aG aH aI aJ aK aL (Ac b4);replace i:=bind_some i;obtain⟨cF,cM,i⟩:=i;refine wE (fun st=>Aj VO (eR st) (Dx (ee st a4) (ee st a5) (eR st)) (a124 bA r a9.1 ([]:List Int) a b c d e f j k m n o p none 0 ZA _ bQ.all bR.all bS.all bT.all bU.all bV.all (Sl.nil (Ao .i64) _ _) cF cM)) ?_;rintro _ d0 ⟨cN,rfl⟩;have dQ:=dP.ext cN;refine wA (v:=.bool cF) rfl<|wn<|Av ?_;obtain rfl:=oi i;refine Ay rfl rfl ?_;exact⟨dQ.AS,rfl⟩
theorem QU aS r(Z:Nat→Prop) w aT(a:CI aS r=some aT):
 B7 Tryz.prog 63 #[I r] w (fun v w'=>Ext w w'∧(Fq (Ao .i64)).R w' (zf Z w []) v aT):=by
 unfold CI at a;refine rq (N:=23) Tryz.func63 fun bC ha bD=>?_;have aM:=sA 0 ha;clear ha;have aU:Hp FN [] w [] w:=Hp.start (BL.none w);refine cr<|wA (v:=.slice none 0 0) rfl<|wr<|wA (v:=.slice none 0 0) rfl<|wn<|Af<|cr<|wA (v:=I 0) rfl<|wn<|AI ?_;have aV:=aU.nil;have aW:BH (Ao .i64) 3 w.heap.size w (zf Z w [none]) none 0 ([]:List Int):=BH.nil _ _ _ _ _;replace a:=bind_some a;obtain⟨y,p,a⟩:=a;refine BX (fun aX m z=>(aX=.exit 0∧∃c d,Fo X0 23 m∧sl m 3=.slice c y.length d∧Hp FN [] w [ob c] z∧BH (Ao .i64) 3 w.heap.size z (zf Z w [ob c]) c d y)) ?aY ?aZ
 case aY=>
  clear a;refine BW (fun aH m z=>∃g,∃b,∃f h,BO r aH g b=some y∧Fo X0 23 m∧sl m 0=I r∧sl m 3=.slice f g.length h∧sl m 4=I b∧Hp FN [] w [ob f] z∧BH (Ao .i64) 3 w.heap.size z (zf Z w [ob f]) f h g) aS ?a0 ?a2
  case a0=>
   intro st;exact⟨([]:List Int),(0:Int),none,0,p,qo st,sp st 0 aM,sp st 3 rfl,sp st 4 rfl,aV,aW⟩
  case a2=>
   rintro(_|aH) bE bF ⟨g,b,f,h,p,aN,l,q,j,u,i⟩
   ·exact absurd (show none=some _ from p) (by simp)
   rw[BO.eq_2] at p;have a:=p;clear p;refine ro aN<|Af<|cr<|wM (v:=I r) l<|wM (v:=I b) j ?_;replace a:=Dy a;obtain⟨a3,a⟩:=a;refine wD (fun st=>Er (k:=.u64) Ho Tryz.underlying91 (eR st) a3) ?_;replace a:=GS a;obtain⟨a4,a⟩:=a;refine wD (fun st=>KI (eR st) (eR st) a4)<|wD (fun st=>Gs (eR st) (eR st))<|wn ?_;rcases Ae (decide ((0:Int)<(EK r b))) with s|s
   ·replace a:=Ap a s;refine Am rfl s<|cn<|Af<|AI<|cr<|wM (v:=I r) l<|wM (v:=I b) j ?_;replace a:=Dy a;obtain⟨a5,a⟩:=a;refine wD (fun st=>Er (k:=.u64) Ho Tryz.underlying91 (eR st) a5) ?_;replace a:=GS a;obtain⟨a7,a⟩:=a;refine wD (fun st=>KI (eR st) (eR st) a7) ?_;replace a:=GM a;obtain⟨aJ,a⟩:=a;refine wD (fun st=>JO (eR st) (eR st) aJ.1 aJ.2)<|wD (fun st=>CT (eR st) (eR st))<|wn ?_;rcases Ae (((EK r b)%2)==1) with t|t
    ·replace a:=Ap a t;refine Am rfl t<|Al<|wM (v:=.slice f g.length h) q<|wM (v:=I b) j<|wE (fun st=>Cx (e:=3) (vs:= #[(0,I b)]) (cs:= #[I b]) (I5 (eR st)) (by kernel_rfl)) ?_;rintro _ bG ⟨bH,rfl,n⟩;have aA:=u.nb n;have a8:=u.BU n;have x:=(i.ext n.gr (AA n));replace a:=Ci a;obtain⟨aB,a⟩:=a;refine wE (fun st=>Hg (ys:=[b]) Tryz.underlying31 HG rfl rfl (by decide) (eR st) rfl (eR st) x (GK (CM:=[[I b]]) n.bk ⟨rfl,trivial⟩ rfl) (by have:=aB;simp only[maxLen];omega) (by have:=aB;omega) aA.sz (by simp)) ?_;rintro _ bI ⟨aK,aL,rfl,aC,aD,aO⟩;have a9:=aA.row aC 1 rfl aD;have aP:=Eb aO (aA.DE aC 1 rfl (fun k hk=>(aD k hk).1));refine wA (v:=.slice aK ((g++[b]).length) aL) rfl<|AU<|CS<|Al<|wM (v:=I b) j ?_;replace a:=AF a;obtain⟨aQ,a⟩:=a;refine wD (fun st=>BG (eR st) (eR st) aQ)<|wA (v:=I (b+1)) rfl<|AU ?_;have bA:=a9.erase 0;have aE:=(aP.up (AV 0));refine Bi aH (Nat.lt_succ_self _) (fun st=>?_);exact⟨(g++[b]),(b+1),aK,aL,a,qo st,sp st 0 l,sp st 3 rfl,sp st 4 rfl,bA,aE⟩
    ·replace a:=Aq a t;refine An rfl t<|Ct<|CS<|Al<|wM (v:=I b) j ?_;replace a:=AF a;obtain⟨aR,a⟩:=a;refine wD (fun st=>BG (eR st) (eR st) aR)<|wA (v:=I (b+1)) rfl<|AU ?_;refine Bi aH (Nat.lt_succ_self _) (fun st=>?_);exact⟨g,(b+1),f,h,a,qo st,sp st 0 l,sp st 3 q,sp st 4 rfl,u,i⟩
   ·replace a:=Aq a s;refine An rfl s<|Dq ?_;obtain rfl:=oi a;refine BC (fun st=>?_);exact⟨rfl,f,h,qo st,sp st 3 q,u,i⟩
 case aZ=>
  rintro aX bB bJ (⟨rfl,c,d,aI,aF,aG,o⟩);refine lf aI<|AZ<|BS<|cr<|wM (v:=.slice c y.length d) aF<|wA (v:=.slice c y.length d) rfl<|wn<|Av ?_;obtain rfl:=oi a;refine Ay rfl rfl ?_;exact⟨aG.AS,⟨_,_,rfl,aG.HP (M:=[]) 0 rfl [] rfl trivial o⟩⟩
theorem a51 u c a b(Z:Nat→Prop) w(h:Sl (Ao .i64) w Z a b c) p(d:Cr u c=some p):
 B7 Tryz.prog 51 #[.slice a c.length b] w (fun v w'=>Ext w w'∧(Fq (Ao .i64)).R w' (zf Z w []) v p):=by
 unfold Cr at d;refine rq (N:=5) Tryz.func51 fun z ha aA=>?_;have o:=sA 0 ha;clear ha;have q:Hp FN [] w [] w:=Hp.start (BL.none w);have e:=h.mv (Bd (Z:=Z) (L:=[]) w);refine cr<|wA (v:=.slice none 0 0) rfl<|wr<|wM (v:=.slice a c.length b) o ?_;have g:=q.nil;have r:BH (Ao .i64) 3 w.heap.size w (zf Z w [none]) none 0 ([]:List Int):=BH.nil _ _ _ _ _;replace d:=Ci d;obtain⟨i,d⟩:=d;have f:=(e.mv B8);refine wE (fun st=>I0 (ys:=c) Tryz.underlying31 HG rfl rfl (by decide) (eR st) rfl (eR st) r f.n (by have:=i;simp only[maxLen];omega) (by have:=i;omega) g.sz) ?_;rintro _ aB ⟨x,y,rfl,j,l,s⟩;have m:=g.row j 0 rfl l;have t:=Eb s (g.DE j 0 rfl (fun k hk=>(l k hk).1));refine wA (v:=.slice x ((([]:List Int)++c).length) y) rfl<|wn<|Av ?_;obtain rfl:=oi d;refine Ay rfl rfl ?_;exact⟨m.AS,⟨_,_,rfl,m.HP (M:=[]) 0 rfl [] rfl trivial t⟩⟩
theorem X7 aV p a b c d e f g h i j k m(Z:Nat→Prop) w(aM:Sl Az w Z a b p.Ag)(aN:Sl (Bs (Ao .i64)) w Z c d p.Ab)(aO:Sl AH w Z e f p.Ak)(aP:Sl Ba w Z g h p.AJ)(aQ:Sl Bc w Z i j p.Aw)(aR:Sl Bp w Z k m p.Ar) aZ(o:CY aV p=some aZ):
 B7 Tryz.prog 48 #[.agg (Ai a b c d e f g h i j k m p).toArray] w (fun v w'=>Ext w w'∧Cm.R w' (zf Z w []) v aZ):=by
 unfold CY at o;refine rq (N:=10) Tryz.func48 fun a8 ha a9=>?_;have aW:=sA 0 ha;clear ha;have aT:Hp FN [] w [] w:=Hp.start (BL.none w);have ⟨z,aA,aB,aC,aD,aE⟩:=Cp aM aN aO aP aQ aR (Bd (Z:=Z) (L:=[]) w);refine cr<|wE (fun st=>BP (v:=.agg (Ai a b c d e f g h i j k m p).toArray) (cs:=(Ai a b c d e f g h i j k m p).toArray) (ee st aW) rfl) ?_;rintro _ w1 ⟨b1,rfl,y⟩;have a0:=aT.nb y;have a7:=aT.BU y;refine wA (v:=.bool false) rfl<|wr<|wD (fun st=>AK (l:=(Ai a b c d e f g h i j k m p)) Cc (eR st) y.bk rfl rfl) ?_;have ⟨q,r,s,t,u,x⟩:=Cp z aA aB aC aD aE (AA y);replace o:=bind_some o;obtain⟨aX,a2,o⟩:=o;refine wE (fun st=>Aj Pr (eR st) (Cy (eR st)) (U8 aV p a b c d e f g h i j k m ZA _ q.all r.all s.all t.all u.all x.all aX a2)) ?_;rintro _ bA ⟨aL,rfl⟩;have aU:=a0.ext aL;refine wM (v:=.bool aX) rfl ?_;rcases Ae (aX) with n|n
 ·replace o:=Ap o n;have aS:=(y.bk.ext aL);refine wG n (fun st=>AK (l:=(Ai a b c d e f g h i j k m p)) Cc (eR st) aS rfl rfl) ?_;have ⟨aF,aG,aH,aI,aJ,aK⟩:=Cp q r s t u x (Ac aL);replace o:=bind_some o;obtain⟨aY,a3,o⟩:=o;refine wX n (fun st=>Aj OC (eR st) (Cy (eR st)) (a116 aV p a b c d e f g h i j k m ZA _ aF.all aG.all aH.all aI.all aJ.all aK.all aY a3)) ?_;rintro _ bB ⟨a4,rfl⟩;have a5:=aU.ext a4;refine wG n (fun st=>CT (eR st) (eR st))<|wD (fun st=>AW (v:=.bool (aY==0)) (eR st) n (eR st))<|wA (v:=.bool (aY==0)) rfl<|wn<|Av ?_;obtain rfl:=oi o;refine Ay rfl rfl ?_;exact⟨a5.AS,rfl⟩
 ·replace o:=Aq o n;refine wF n<|wF n<|wF n<|wD (fun st=>Bo (v:=.bool false) (eR st) n (eR st))<|wA (v:=.bool false) rfl<|wn<|Av ?_;obtain rfl:=oi o;refine Ay rfl rfl ?_;exact⟨aU.AS,rfl⟩
theorem a86 x e l b c(Z:Nat→Prop) w(h:Sl (Ao .u16) w Z b c e) n(a:F1 x e l=some n):
 B7 Tryz.prog 86 #[.slice b e.length c,I l] w (fun v w'=>Ext w w'∧(DT .i64).R w' (zf Z w []) v n):=by
 unfold F1 at a;refine rq (N:=16) Tryz.func86 fun y ha z=>?_;have f:=sA 0 ha;have m:=sA 1 ha;clear ha;have i:Hp FN [] w [] w:=Hp.start (BL.none w);have g:=h.mv (Bd (Z:=Z) (L:=[]) w);refine cr<|wA (v:=I 0) rfl<|wn<|Af<|cr<|wM (v:=.slice b e.length c) f<|wD (fun st=>Be Tryz.underlying113 (eR st))<|wD (fun st=>CT (eR st) (eR st))<|wn ?_;rcases Ae ((e.length:Int)==0) with d|d
 ·replace a:=Ap a d;refine Am rfl d<|cr<|wA (v:=I 0) rfl<|wn<|Av<|AG ?_;obtain rfl:=oi a;refine Ay rfl rfl ?_;exact⟨i.AS,rfl⟩
 ·replace a:=Aq a d;refine An rfl d<|cn<|cr<|wM (v:=.slice b e.length c) f<|wM (v:=I l) m<|wM (v:=.slice b e.length c) f<|wD (fun st=>Be Tryz.underlying113 (eR st)) ?_;replace a:=GM a;obtain⟨j,a⟩:=a;refine wD (fun st=>JO (eR st) (eR st) j.1 j.2) ?_;replace a:=AP a;obtain⟨i3,o,p,q,r,a⟩:=a;obtain⟨b3,aA,_,s,rfl,t⟩:=Sl.Cz g rfl q;refine wD (fun st=>AR (k:=i3) Tryz.underlying113 ZO (eR st) s (eR st) p r)<|wD (fun st=>Bb (v:=.int .u16 o) X6 (eR st) t rfl) ?_;replace a:=Dy a;obtain⟨u,a⟩:=a;refine wD (fun st=>Er (k:=.i64) Rb Tryz.underlying3 (eR st) u)<|wA (v:=I o) rfl<|wn<|Av ?_;obtain rfl:=oi a;refine Ay rfl rfl ?_;exact⟨i.AS,rfl⟩
set_option maxHeartbeats 4000000 in
theorem a78 cN a dG b9 j m g i o p q r s t aG aH aR aS(Z:Nat→Prop) w(eI:Sl Az w Z j m a.Ag)(eJ:Sl (Bs (Ao .i64)) w Z g i a.Ab)(eK:Sl AH w Z o p a.Ak)(eM:Sl Ba w Z q r a.AJ)(eN:Sl Bc w Z s t a.Aw)(eO:Sl Bp w Z aG aH a.Ar)(eP:Sl (Ao .u16) w Z aR aS b9) fO(b:K6 cN a dG b9=some fO):
 B7 Tryz.prog 78 #[.agg (Ai j m g i o p q r s t aG aH a).toArray,.int .u16 dG,.slice aR b9.length aS] w (fun v w'=>Ext w w'∧(OM (Fx Pa) (Fq (Ao .i64))).R w' (zf Z w []) v fO):=by
 unfold K6 at b;refine rq (N:=75) Tryz.func78 fun f6 ha f7=>?_;have e1:=sA 0 ha;have e2:=sA 1 ha;have e3:=sA 2 ha;clear ha;have eW:Hp FN [] w [] w:=Hp.start (BL.none w);have ⟨dH,dI,dJ,dK,dL,dM,dN⟩:=Ea eI eJ eK eM eN eO eP (Bd (Z:=Z) (L:=[]) w);refine cr<|wE (fun st=>BP (v:=.agg (Ai j m g i o p q r s t aG aH a).toArray) (cs:=(Ai j m g i o p q r s t aG aH a).toArray) (ee st e1) rfl) ?_;rintro _ w1 ⟨b1,rfl,cO⟩;have eX:=eW.nb cO;have fZ:=eW.BU cO;refine wE (fun st=>CR (cs:= #[.slice none 0 0,.slice none 0 0,.slice none 0 0,I 0,.slice none 0 0,.slice none 0 0,.slice none 0 0]) V4 rfl) ?_;rintro _ w2 ⟨b2,rfl,cB⟩;have fP:=eX.nb cB;have f0:=eX.BU cB;refine wA (v:=.slice none 0 0) rfl<|wn<|Af ?_;have cL:=(cO.bk.ext cB.gr);replace b:=Dy b;obtain⟨fQ,b⟩:=b;have ⟨cC,cD,cE⟩:=DU dH dI dJ (mt (AA cO) (AA cB));replace b:=bind_some b;obtain⟨eQ,fR,b⟩:=b;replace b:=GM b;obtain⟨eY,b⟩:=b;refine BK 8 [Kc (pt b1 0),Kc (.agg #[.slice j a.Ag.length m,.slice g a.Ab.length i,.slice o a.Ak.length p]),Kc (.int .u16 dG),Kc (I dG),Kc (pt b1 0),Kc (.agg #[.slice j a.Ag.length m,.slice g a.Ab.length i,.slice o a.Ak.length p]),Kc (I eQ),Kc (I (dG%eQ))] mixed rfl rfl
     (Aa (oD (fun K=>Ad (K.kO 3) (DQ _ _)))
     (Aa (oD (fun K=>AK (l:=[.slice j a.Ag.length m,.slice g a.Ab.length i,.slice o a.Ak.length p]) Dt (es (K.dq 0 14)) (cL.ext K.AD) rfl rfl))
     (Aa (oD (fun K=>Au (es ((K.out 1 rfl).trans e2))))
     (Aa (oD (fun K=>Er (k:=.i64) Rb Tryz.underlying3 (es (K.dq 2 16)) fQ))
     (Aa (oD (fun K=>Ad (K.kO 3) (DQ _ _)))
     (Aa (oD (fun K=>AK (l:=[.slice j a.Ag.length m,.slice g a.Ab.length i,.slice o a.Ak.length p]) Dt (es (K.dq 4 18)) (cL.ext K.AD) rfl rfl))
     (Aa (oE (fun K=>(Aj Ol rfl (Cy (es (K.dq 5 19))) (a59 cN (⟨a.Ag,a.Ab,a.Ak⟩:AO) j m g i o p ZA _ (cC.mv (Ac K.AD)).all (cD.mv (Ac K.AD)).all (cE.mv (Ac K.AD)).all eQ fR)).mono (fun _ _ h=>⟨h.2,h.1⟩)))
     (Aa (oD (fun K=>JO (es (K.dq 3 17)) (es (K.dq 6 20)) eY.1 eY.2))
     (BI _))))))))) ?_
 intro gH;rintro _ rfl _ rfl _ rfl _ rfl _ rfl _ rfl _ rfl _ rfl cP;have eZ:=fP.ext cP;have ⟨cF,cG,cH⟩:=DU cC cD cE (Ac cP);replace b:=bind_some b;obtain⟨bO,fS,b⟩:=b;refine wE (fun st=>Aj Pq (eR st) (CN (eR st) (eR st)) (U7 cN (⟨a.Ag,a.Ab,a.Ak⟩:AO) (dG%eQ) j m g i o p (zf Z w [some b2,some b1]) _ cF cG cH bO fS)) ?_;rintro _ gI ⟨cQ,⟨aD,aE,rfl,bQ⟩⟩;have e0:=eZ.ext cQ;have bQ:=bQ.mv (eZ.CQ (Nat.le_refl _));refine wA (v:=.slice aD bO.length aE) rfl<|wn<|Af<|Al ?_;have dF:=((cL.ext cP).ext cQ);refine wD (fun st=>AK (l:=(Ai j m g i o p q r s t aG aH a)) Cc (eR st) dF rfl rfl)<|wE (fun st=>CR (cs:= #[.slice none 0 0,.slice none 0 0,.slice none 0 0,I 0,.slice none 0 0,.slice none 0 0,.slice none 0 0]) V4 rfl) ?_;rintro _ gJ ⟨aI,rfl,bL⟩;have cI:=e0.nb bL;have f1:=e0.BU bL;refine Cs rfl rfl (fun st=>Ca (n:=7) (l:=(Ai j m g i o p q r s t aG aH a)) (DO:=(Ai j m g i o p q r s t aG aH a).toArray) (eR st) (eR st) ZP bL.bk rfl rfl (show 0+7≤7 by decide) (BJ rfl) rfl) ?_;rintro _ f8 a4;have cJ:=cI.gr a4.gr 0 rfl;refine wr<|wD (fun st=>Ad (eR st) (EN _ _))<|Cs rfl rfl (fun st=>Ca (n:=1) (l:=[.slice none 0 0]) (DO:= #[.slice j a.Ag.length m,.slice g a.Ab.length i,.slice o a.Ak.length p,I a.Flat,.slice q a.AJ.length r,.slice s a.Aw.length t,.slice none 0 0]) (eR st) (eR st) Acm a4.bk rfl rfl (show 6+1≤7 by decide) (BJ rfl) rfl) ?_;rintro _ fT a5;have fU:=cJ.gr a5.gr 0 rfl;refine wn<|Af<|cr<|wA (v:=I 0) rfl<|wn<|AI ?_;have fV:=fU.nil;have e4:BH Bp 121 w.heap.size fT (zf Z w [none,some aI,some b2,some b1]) none 0 ([]:List Cu):=BH.nil _ _ _ _ _;replace b:=bind_some b;obtain⟨z12,bF,b⟩:=b;refine BX (fun fW aQ aF=>(fW=.exit 0∧∃c x,Fo X0 75 aQ∧sl aQ 6=pt b2 0∧sl aQ 8=.slice aD bO.length aE∧sl aQ 9=pt aI 0∧Hp FN [] w [ob c,some aI,some b2,some b1] aF∧BH Bp 121 w.heap.size aF (zf Z w [ob c,some aI,some b2,some b1]) c x z12∧Bk aF b2 67 #[.slice none 0 0,.slice none 0 0,.slice none 0 0,I 0,.slice none 0 0,.slice none 0 0,.slice none 0 0]∧Bk aF aI 67 #[.slice j a.Ag.length m,.slice g a.Ab.length i,.slice o a.Ak.length p,I a.Flat,.slice q a.AJ.length r,.slice s a.Aw.length t,.slice c z12.length x]∧Sl Az aF (zf Z w [ob c,some aI,some b2,some b1]) j m a.Ag∧Sl (Bs (Ao .i64)) aF (zf Z w [ob c,some aI,some b2,some b1]) g i a.Ab∧Sl AH aF (zf Z w [ob c,some aI,some b2,some b1]) o p a.Ak∧Sl Ba aF (zf Z w [ob c,some aI,some b2,some b1]) q r a.AJ∧Sl Bc aF (zf Z w [ob c,some aI,some b2,some b1]) s t a.Aw∧Sl (Ao .i64) aF (zf Z w [ob c,some aI,some b2,some b1]) aD aE bO)) ?e5 ?e6
 case e5=>
  clear b;refine BW (fun e7 aQ aF=>∃z,∃aB,∃d aC,G8 cN a b9 bO e7 z aB=some z12∧Fo X0 75 aQ∧sl aQ 2=.slice aR b9.length aS∧sl aQ 3=pt b1 0∧sl aQ 6=pt b2 0∧sl aQ 8=.slice aD bO.length aE∧sl aQ 9=pt aI 0∧sl aQ 10=I z∧Hp FN [] w [ob d,some aI,some b2,some b1] aF∧BH Bp 121 w.heap.size aF (zf Z w [ob d,some aI,some b2,some b1]) d aC aB∧Bk aF b1 67 (Ai j m g i o p q r s t aG aH a).toArray∧Bk aF b2 67 #[.slice none 0 0,.slice none 0 0,.slice none 0 0,I 0,.slice none 0 0,.slice none 0 0,.slice none 0 0]∧Bk aF aI 67 #[.slice j a.Ag.length m,.slice g a.Ab.length i,.slice o a.Ak.length p,I a.Flat,.slice q a.AJ.length r,.slice s a.Aw.length t,.slice d aB.length aC]∧Sl Az aF (zf Z w [ob d,some aI,some b2,some b1]) j m a.Ag∧Sl (Bs (Ao .i64)) aF (zf Z w [ob d,some aI,some b2,some b1]) g i a.Ab∧Sl AH aF (zf Z w [ob d,some aI,some b2,some b1]) o p a.Ak∧Sl Ba aF (zf Z w [ob d,some aI,some b2,some b1]) q r a.AJ∧Sl Bc aF (zf Z w [ob d,some aI,some b2,some b1]) s t a.Aw∧Sl Bp aF (zf Z w [ob d,some aI,some b2,some b1]) aG aH a.Ar∧Sl (Ao .u16) aF (zf Z w [ob d,some aI,some b2,some b1]) aR aS b9∧Sl (Ao .i64) aF (zf Z w [ob d,some aI,some b2,some b1]) aD aE bO) cN ?e8 ?e9
  case e8=>
   intro st;have eS:=(((dF.ext bL.gr).gr a4.gr (cI.nq 2 0)).gr a5.gr (cJ.nq 2 0));have eT:=(((((cB.bk.ext cP).ext cQ).ext bL.gr).gr a4.gr (cI.nq 1 0)).gr a5.gr (cJ.nq 1 0));have eU:=a5.bk;have ⟨dO,dP,dQ⟩:=DU cF cG cH (mt (Ac cQ) (mt (AA bL) (mt (cI.Co a4.gr 0 rfl) (mt (cJ.Co a5.gr 0 rfl) B8))));have ⟨dR,dS,dT,dU⟩:=Et dK dL dM dN (mt (AA cO) (mt (AA cB) (mt (Ac cP) (mt (Ac cQ) (mt (AA bL) (mt (cI.Co a4.gr 0 rfl) (mt (cJ.Co a5.gr 0 rfl) B8)))))));have c1:=((((bQ.mv (AA bL)).mv (cI.Co a4.gr 0 rfl)).mv (cJ.Co a5.gr 0 rfl)).mv B8);exact⟨(0:Int),([]:List Cu),none,0,bF,qo st,sp st 2 e3,sp st 3 rfl,sp st 6 rfl,sp st 8 rfl,sp st 9 rfl,sp st 10 rfl,fV,e4,eS,eT,eU,dO,dP,dQ,dR,dS,dT,dU,c1⟩
  case e9=>
   rintro(_|e7) f3 f4 ⟨z,aB,d,aC,bF,eV,bR,bC,bS,bD,aT,bG,fX,aJ,dV,bH,bI,aU,aV,aW,aX,aY,cR,bM,aM⟩
   ·exact absurd (show none=some _ from bF) (by simp)
   rw[G8.eq_2] at bF;have b:=bF;clear bF;refine ro eV<|Af<|cr<|wM (v:=I z) bG<|wM (v:=.slice aR b9.length aS) bR ?_;replace b:=bind_some b;obtain⟨d1,fA,b⟩:=b;refine wE (fun st=>Aj Tb (eR st) (CN (eR st) (eR st)) (a86 cN b9 0 aR aS ZA _ bM.all d1 fA)) ?_;rintro _ f9 ⟨y,rfl⟩;have c2:=fX.ext y;replace b:=GM b;obtain⟨d2,b⟩:=b;refine wD (fun st=>JO (eR st) (eR st) d2.1 d2.2)<|wD (fun st=>B9 (eR st) (eR st))<|wM (v:=.bool (decide (z<(d1%6)))) rfl ?_;rcases Ae (decide (z<(d1%6))) with aA|aA
   ·replace b:=Ap b aA;refine wG aA (fun st=>Ad (ee st bC) (DQ _ _))<|wG aA (fun st=>Ad (eR st) (DP _ _)) ?_;have cS:=(dV.ext y);refine wG aA (fun st=>As (v:=.slice g a.Ab.length i) DH (eR st) cS rfl)<|wG aA (fun st=>Be Tryz.underlying23 (eR st))<|wG aA (fun st=>Gs (eR st) (eR st))<|wD (fun st=>AW (v:=.bool (decide ((0:Int)<(a.Ab.length:Int)))) (eR st) aA (eR st))<|wn ?_;rcases Ae (decide ((0:Int)<(a.Ab.length:Int))) with bT|bT
    ·replace b:=Ap b bT;refine Am rfl bT<|cn<|Af<|AI<|cr<|wM (v:=.slice aR b9.length aS) bR<|wM (v:=I z) bG ?_;replace b:=AF b;obtain⟨fB,b⟩:=b;refine wD (fun st=>BG (eR st) (eR st) fB) ?_;have bU:=(bM.mv (Ac y));replace b:=bind_some b;obtain⟨f,fC,b⟩:=b;refine wE (fun st=>Aj Tb (eR st) (CN (eR st) (eR st)) (a86 cN b9 (z+1) aR aS ZA _ bU.all f fC)) ?_;rintro _ gA ⟨aZ,rfl⟩;have fD:=c2.ext aZ;refine wA (v:=I f) rfl<|wr<|wM (v:=I f) rfl<|wD (fun st=>Ad (ee st bC) (DQ _ _))<|wD (fun st=>Ad (eR st) (DP _ _)) ?_;have bV:=(cS.ext aZ);refine wD (fun st=>As (v:=.slice g a.Ab.length i) DH (eR st) bV rfl)<|wD (fun st=>Be Tryz.underlying23 (eR st)) ?_;replace b:=GM b;obtain⟨d3,b⟩:=b;refine wD (fun st=>JO (eR st) (eR st) d3.1 d3.2)<|wA (v:=I (f%(a.Ab.length:Int))) rfl<|wr<|wD (fun st=>AK (l:=(Ai j m g i o p q r s t aG aH a)) Cc (ee st bC) bV rfl rfl)<|wM (v:=.slice aD bO.length aE) bD<|wM (v:=I (f%(a.Ab.length:Int))) rfl ?_;have ⟨bW,bX,bY,bZ,b4,b5,bN⟩:=Ea aU aV aW aX aY cR aM (mt (Ac y) (Ac aZ));replace b:=bind_some b;obtain⟨u,fE,b⟩:=b;refine wE (fun st=>Aj Mq (eR st) (Dx (eR st) (eR st) (eR st)) (QQ cN a bO (f%(a.Ab.length:Int)) j m g i o p q r s t aG aH aD aE ZA _ bW.all bX.all bY.all bZ.all b4.all b5.all bN.all u fE)) ?_;rintro _ gB ⟨aN,rfl⟩;have d4:=fD.ext aN;refine wA (v:=I u) rfl<|wn<|Al<|wD (fun st=>Ad (ee st aT) (EN _ _)) ?_;have cT:=(((bI.ext y).ext aZ).ext aN);refine wD (fun st=>As (v:=.slice d aB.length aC) FE (eR st) cT rfl)<|wM (v:=I (f%(a.Ab.length:Int))) rfl<|wM (v:=I u) rfl<|wM (v:=I f) rfl ?_;replace b:=PJ b;obtain⟨d5,b⟩:=b;replace b:=AF b;obtain⟨fF,b⟩:=b;refine wD (fun st=>Ru (eR st) (eR st) d5.1 d5.2 fF) ?_;replace b:=GM b;obtain⟨d6,b⟩:=b;refine wD (fun st=>JO (eR st) (eR st) d6.1 d6.2) ?_;replace b:=AF b;obtain⟨fG,b⟩:=b;refine wD (fun st=>El (eR st) (eR st) fG)<|wD (fun st=>Tv (eR st) (eR st))<|wM (v:=I u) rfl<|wM (v:=I f) rfl ?_;replace b:=PJ b;obtain⟨d7,b⟩:=b;replace b:=AF b;obtain⟨fH,b⟩:=b;refine wD (fun st=>Ru (eR st) (eR st) d7.1 d7.2 fH) ?_;replace b:=GM b;obtain⟨d8,b⟩:=b;refine wD (fun st=>JO (eR st) (eR st) d8.1 d8.2) ?_;replace b:=AF b;obtain⟨fI,b⟩:=b;refine wD (fun st=>BG (eR st) (eR st) fI)<|wD (fun st=>UH (eR st) (eR st))<|wD (fun st=>Fp (vs:= #[(0,I (max (0:Int) (u-((f/8)%40)))),(1,I (min (9000:Int) (u+((f/512)%40))))]) (v:=.agg #[I (max (0:Int) (u-((f/8)%40))),I (min (9000:Int) (u+((f/512)%40)))]) (Kz (eR st) (eR st)) (by kernel_rfl))<|wD (fun st=>Fp (vs:= #[(0,I (f%(a.Ab.length:Int))),(1,.agg #[I (max (0:Int) (u-((f/8)%40))),I (min (9000:Int) (u+((f/512)%40)))])]) (v:=.agg #[I (f%(a.Ab.length:Int)),I (max (0:Int) (u-((f/8)%40))),I (min (9000:Int) (u+((f/512)%40)))]) (Kz (eR st) (eR st)) (by kernel_rfl))<|wE (fun st=>Cx (e:=121) (vs:= #[(0,.agg #[I (f%(a.Ab.length:Int)),I (max (0:Int) (u-((f/8)%40))),I (min (9000:Int) (u+((f/512)%40)))])]) (cs:= #[I (f%(a.Ab.length:Int)),I (max (0:Int) (u-((f/8)%40))),I (min (9000:Int) (u+((f/512)%40)))]) (I5 (eR st)) (by kernel_rfl)) ?_;rintro _ gC ⟨gD,rfl,aK⟩;have aO:=d4.nb aK;have fY:=d4.BU aK;have cA:=((((aJ.ext y (Ac y)).ext aZ (Ac aZ)).ext aN (Ac aN)).ext aK.gr (AA aK));replace b:=Ci b;obtain⟨d9,b⟩:=b;refine wE (fun st=>Hg (ys:=[(⟨f%(a.Ab.length:Int),max (0:Int) (u-((f/8)%40)),min (9000:Int) (u+((f/512)%40))⟩:Cu)]) Tryz.underlying65 AbL rfl rfl (by decide) (eR st) rfl (eR st) cA (GK (CM:=[[I (f%(a.Ab.length:Int)),I (max (0:Int) (u-((f/8)%40))),I (min (9000:Int) (u+((f/512)%40)))]]) aK.bk ⟨rfl,trivial⟩ rfl) (by have:=d9;simp only[maxLen];omega) (by have:=d9;omega) aO.sz (by simp)) ?_;rintro _ gE ⟨eA,eB,rfl,a0,b6,fJ⟩;have a2:=aO.row a0 1 rfl b6;have fK:=Eb fJ (aO.DE a0 1 rfl (fun k hk=>(b6 k hk).1));refine wD (fun st=>Ad (ee st aT) (EN _ _)) ?_;have eC:=((cT.ext aK.gr).gr a0 (aO.nq 2 1));refine Cs rfl rfl (fun st=>Ca (n:=1) (l:=[.slice eA ((aB++[(⟨f%(a.Ab.length:Int),max (0:Int) (u-((f/8)%40)),min (9000:Int) (u+((f/512)%40))⟩:Cu)]).length) eB]) (DO:= #[.slice j a.Ag.length m,.slice g a.Ab.length i,.slice o a.Ak.length p,I a.Flat,.slice q a.AJ.length r,.slice s a.Aw.length t,.slice eA ((aB++[(⟨f%(a.Ab.length:Int),max (0:Int) (u-((f/8)%40)),min (9000:Int) (u+((f/512)%40))⟩:Cu)]).length) eB]) (eR st) (eR st) Acm eC rfl rfl (show 6+1≤7 by decide) (BJ rfl) rfl) ?_;rintro _ gF aP;have fL:=a2.gr aP.gr 2 rfl;refine AU<|CS<|Al<|wM (v:=I z) bG ?_;replace b:=AF b;obtain⟨fM,b⟩:=b;refine wD (fun st=>BG (eR st) (eR st) fM)<|wA (v:=I (z+1)) rfl<|AU ?_;have fN:=fL.erase 0;have dW:=((fK.gr aP.gr (fun k hk=>a2.ne 1 2 rfl (congrArg some hk) rfl) (a2.Co aP.gr 2 rfl)).up (AV 0));have eD:=((((bV.ext aN).ext aK.gr).gr a0 (aO.nq 4 1)).gr aP.gr (a2.nq 4 2));have eE:=((((((bH.ext y).ext aZ).ext aN).ext aK.gr).gr a0 (aO.nq 3 1)).gr aP.gr (a2.nq 3 2));have eF:=aP.bk;have ⟨c3,c4,c5,c6,c7,c8⟩:=Cp bW bX bY bZ b4 b5 (mt (Ac aN) (mt (AA aK) (mt (aO.DE a0 1 rfl (fun k hk=>(b6 k hk).1)) (mt (a2.Co aP.gr 2 rfl) (AV 0)))));have c9:=((((((bU.mv (Ac aZ)).mv (Ac aN)).mv (AA aK)).mv (aO.DE a0 1 rfl (fun k hk=>(b6 k hk).1))).mv (a2.Co aP.gr 2 rfl)).mv (AV 0));have cU:=(((((bN.mv (Ac aN)).mv (AA aK)).mv (aO.DE a0 1 rfl (fun k hk=>(b6 k hk).1))).mv (a2.Co aP.gr 2 rfl)).mv (AV 0));refine Bi e7 (Nat.lt_succ_self _) (fun st=>?_);exact⟨(z+1),(aB++[(⟨f%(a.Ab.length:Int),max (0:Int) (u-((f/8)%40)),min (9000:Int) (u+((f/512)%40))⟩:Cu)]),eA,eB,b,qo st,sp st 2 bR,sp st 3 bC,sp st 6 bS,sp st 8 bD,sp st 9 aT,sp st 10 rfl,fN,dW,eD,eE,eF,c3,c4,c5,c6,c7,c8,c9,cU⟩
    ·replace b:=Aq b bT;refine An rfl bT<|Dq ?_;obtain rfl:=oi b;have aL:=(aJ.ext y (Ac y));have b7:=(bH.ext y);have b8:=(bI.ext y);have ⟨a7,a8,a9,bA,bB,a3⟩:=Cp aU aV aW aX aY aM (Ac y);refine BC (fun st=>?_);exact⟨rfl,d,aC,qo st,sp st 6 bS,sp st 8 bD,sp st 9 aT,c2,aL,b7,b8,a7,a8,a9,bA,bB,a3⟩
   ·replace b:=Aq b aA;refine wF aA<|wF aA<|wF aA<|wF aA<|wF aA<|wD (fun st=>Bo (v:=.bool false) (eR st) aA (eR st))<|wn<|An rfl rfl<|Dq ?_;obtain rfl:=oi b;have aL:=(aJ.ext y (Ac y));have b7:=(bH.ext y);have b8:=(bI.ext y);have ⟨a7,a8,a9,bA,bB,a3⟩:=Cp aU aV aW aX aY aM (Ac y);refine BC (fun st=>?_);exact⟨rfl,d,aC,qo st,sp st 6 bS,sp st 8 bD,sp st 9 aT,c2,aL,b7,b8,a7,a8,a9,bA,bB,a3⟩
 case e6=>
  rintro fW f2 f5 (⟨rfl,c,x,eG,cK,dX,dY,bE,bJ,dZ,d0,cV,cW,cX,cY,cZ,cM⟩);refine lf eG<|AZ<|BS<|cr<|wD (fun st=>AK (l:=[.slice j a.Ag.length m,.slice g a.Ab.length i,.slice o a.Ak.length p,I a.Flat,.slice q a.AJ.length r,.slice s a.Aw.length t,.slice c z12.length x]) Cc (ee st dY) d0 rfl rfl)<|wM (v:=.slice aD bO.length aE) dX<|Cs rfl rfl (fun st=>Ca (n:=7) (l:=[.slice j a.Ag.length m,.slice g a.Ab.length i,.slice o a.Ak.length p,I a.Flat,.slice q a.AJ.length r,.slice s a.Aw.length t,.slice c z12.length x]) (DO:= #[.slice j a.Ag.length m,.slice g a.Ab.length i,.slice o a.Ak.length p,I a.Flat,.slice q a.AJ.length r,.slice s a.Aw.length t,.slice c z12.length x]) (ee st cK) (eR st) ZP dZ rfl rfl (show 0+7≤7 by decide) (BJ rfl) rfl) ?_;rintro _ gG bK;have eH:=bE.gr bK.gr 2 rfl;refine wA (v:=.slice aD bO.length aE) rfl<|wn<|Av ?_;obtain rfl:=oi b;refine Oc (N:=75) (v:=.agg #[.slice j a.Ag.length m,.slice g a.Ab.length i,.slice o a.Ak.length p,I a.Flat,.slice q a.AJ.length r,.slice s a.Aw.length t,.slice c z12.length x]) (v':=.slice aD bO.length aE) rfl ⟨_,cK,ET Cc bK.bk rfl rfl⟩ rfl ?_;have ⟨dA,dB,dC,dD,dE⟩:=mv5 cV cW cX cY cZ (bE.Co bK.gr 2 rfl);have bP:=(bJ.gr bK.gr (fun k hk=>bE.ne 0 2 rfl (congrArg some hk) rfl) (bE.Co bK.gr 2 rfl));have c0:=(cM.mv (bE.Co bK.gr 2 rfl));exact⟨eH.AS,⟨_,_,rfl,⟨_,rfl,_,_,_,_,_,_,_,_,_,_,_,_,rfl,dA.mv (BQ (CE [] trivial)),dB.mv (BQ (CE [] trivial)),dC.mv (BQ (CE [] trivial)),dD.mv (BQ (CE [] trivial)),dE.mv (BQ (CE [] trivial)),eH.HP (M:=[]) 0 rfl [] rfl trivial bP⟩,⟨_,_,rfl,c0.mv (BQ (CE [] trivial))⟩⟩⟩
theorem a49 aM b r f g c d h i j l m n o p(Z:Nat→Prop) w(s:Sl Az w Z f g b.Ag)(t:Sl (Bs (Ao .i64)) w Z c d b.Ab)(u:Sl AH w Z h i b.Ak)(x:Sl Ba w Z j l b.AJ)(y:Sl Bc w Z m n b.Aw)(z:Sl Bp w Z o p b.Ar) aN(a:Em aM b r=some aN):
 B7 Tryz.prog 49 #[.agg (Ai f g c d h i j l m n o p b).toArray,.int .u8 r] w (fun v w'=>Ext w w'∧(Fq (Ao .i64)).R w' (zf Z w []) v aN):=by
 unfold Em at a;refine rq (N:=16) Tryz.func49 fun aY ha aZ=>?_;have aE:=sA 0 ha;have aF:=sA 1 ha;clear ha;have aC:Hp FN [] w [] w:=Hp.start (BL.none w);have ⟨aG,aH,aI,aJ,aK,aL⟩:=Cp s t u x y z (Bd (Z:=Z) (L:=[]) w);refine cr<|wE (fun st=>BP (v:=.agg (Ai f g c d h i j l m n o p b).toArray) (cs:=(Ai f g c d h i j l m n o p b).toArray) (ee st aE) rfl) ?_;rintro _ w1 ⟨b1,rfl,q⟩;have aD:=aC.nb q;have aX:=aC.BU q;refine wA (v:=.slice none 0 0) rfl<|wr<|wM (v:=.int .u8 r) aF ?_;replace a:=Dy a;obtain⟨aO,a⟩:=a;refine wD (fun st=>Er (k:=.i64) V5 Tryz.underlying3 (eR st) aO)<|wD (fun st=>Ad (eR st) (DQ _ _))<|wD (fun st=>Ad (eR st) (DP _ _))<|wD (fun st=>As (v:=.slice c b.Ab.length d) DH (eR st) q.bk rfl)<|wD (fun st=>Be Tryz.underlying23 (eR st)) ?_;replace a:=Dy a;obtain⟨aP,a⟩:=a;refine wD (fun st=>Er (k:=.u64) Ho Tryz.underlying91 (eR st) aP) ?_;replace a:=E9 a;obtain⟨aQ,a⟩:=a;refine wD (fun st=>IM (eR st) (eR st) aQ) ?_;replace a:=AF a;obtain⟨aR,a⟩:=a;refine wD (fun st=>El (eR st) (eR st) aR) ?_;replace a:=G6 a;obtain⟨aS,a⟩:=a;refine wD (fun st=>R9 (eR st) (eR st) aS) ?_;replace a:=bind_some a;obtain⟨aT,aU,a⟩:=a;refine wE (fun st=>Aj Ms (eR st) (Cy (eR st)) (QU aM (Lg r ((C3 (1:Int) (b.Ab.length:Int))-1)) (zf Z w [some b1]) _ aT aU)) ?_;rintro _ a0 ⟨aV,⟨aA,aB,rfl,e⟩⟩;have aW:=aD.ext aV;have e:=e.mv (aD.CQ (Nat.le_refl _));refine wA (v:=.slice aA aT.length aB) rfl<|wn<|Av ?_;obtain rfl:=oi a;refine Ay rfl rfl ?_;exact⟨aW.AS,⟨_,_,rfl,e.mv (BQ (CE [] trivial))⟩⟩
theorem a80 l c b(Z:Nat→Prop) w j(d:Lh l c b=some j):
 B7 Tryz.prog 80 #[I c,.agg #[I b.Lo,I b.Hi]] w (fun v w'=>Ext w w'∧Cm.R w' (zf Z w []) v j):=by
 unfold Lh at d;refine rq (N:=15) Tryz.func80 fun m ha n=>?_;have f:=sA 0 ha;have i:=sA 1 ha;clear ha;have g:Hp FN [] w [] w:=Hp.start (BL.none w);refine cr<|wE (fun st=>BP (v:=.agg #[I b.Lo,I b.Hi]) (cs:= #[I b.Lo,I b.Hi]) (ee st i) rfl) ?_;rintro _ w1 ⟨b1,rfl,e⟩;have h:=g.nb e;have k:=g.BU e;refine wA (v:=.bool false) rfl<|wr<|wM (v:=I c) f<|wD (fun st=>Ad (eR st) (Ng _ _))<|wD (fun st=>As (v:=I b.Lo) Bh (eR st) e.bk rfl)<|wD (fun st=>J7 (eR st) (eR st))<|wM (v:=.bool (decide (b.Lo≤c))) rfl ?_;rcases Ae (decide (b.Lo≤c)) with a|a
 ·replace d:=Ap d a;refine wN a (v:=I c) f<|wG a (fun st=>Ad (eR st) (PL _ _))<|wG a (fun st=>As (v:=I b.Hi) Bh (eR st) e.bk rfl)<|wG a (fun st=>JP (eR st) (eR st))<|wD (fun st=>AW (v:=.bool (decide (c≤b.Hi))) (eR st) a (eR st))<|wA (v:=.bool (decide (c≤b.Hi))) rfl<|wn<|Av ?_;obtain rfl:=oi d;refine Ay rfl rfl ?_;exact⟨h.AS,rfl⟩
 ·replace d:=Aq d a;refine wF a<|wF a<|wF a<|wF a<|wD (fun st=>Bo (v:=.bool false) (eR st) a (eR st))<|wA (v:=.bool false) rfl<|wn<|Av ?_;obtain rfl:=oi d;refine Ay rfl rfl ?_;exact⟨h.AS,rfl⟩
end Go.Proofs.YtbhofkcbfblijaaGreat
end
section
namespace Go.Proofs.YtbhofkcbfblijaaGreat
open Go.RowKit Go.ChangeShapes Go.WideShapes
section
variable{H:Type}{enc:TypeId×Value→H}{P:Program}{W W':World}
variable{α:Type}{e:ED α}{wf:α→Prop}{t:TypeId}{b0:Nat}{v:Value}{d:DataW H}{p:List MemPlace}{sp:Nat→Bool}
theorem Pz{ee:TypeId}(f:P.underlying t=some (.slice ee)){wf:List α→Prop}(g:Qc P t (Bs e) wf)(i:Value.okWide P W .any b0 t v)(h:DataW.Trod enc P W 0 sp true t v d p)(hs:QR P t d):∃xs A c,v=.slice A xs.length c∧Sl e W ZA A c xs∧wf xs:=by
 obtain⟨A,n,c,rfl⟩:=okWide_slice f i;obtain⟨m,hm⟩:=h;obtain⟨xs,⟨a,b,h1,h2⟩,j⟩:=g _ _ _ _ _ _ _ hm hs;have:Value.slice A n c=Value.slice a xs.length b:=by simpa[Value.cells] using h1
 exact⟨xs,a,b,this,h2,j⟩
theorem MG{k:IntKind}(a:P.underlying t=some (.int k))(b:Value.okWide P W .any b0 t v)(h:DataW.Trod enc P W 0 sp true t v d p):∃n,v=.int k n∧IH k n:=by
 obtain⟨n,h1,_,_,c⟩:=open_int a b h;exact⟨n,h1,c⟩
end
theorem T5{x:Int}(h:IH .u8 x):0≤x∧x<256:=by
 have h2:(decide (IntKind.u8.min≤x)&&decide (x≤IntKind.u8.max))=true:=h;rw[Bool.and_eq_true,decide_eq_true_eq,decide_eq_true_eq] at h2;have a:IntKind.u8.min=0:=by decide
 have b:IntKind.u8.max=255:=by decide
 omega
theorem Rn{x:Int}(h:IH .u16 x):0≤x∧x<65536:=by
 have h2:(decide (IntKind.u16.min≤x)&&decide (x≤IntKind.u16.max))=true:=h;rw[Bool.and_eq_true,decide_eq_true_eq,decide_eq_true_eq] at h2;have a:IntKind.u16.min=0:=by decide
 have b:IntKind.u16.max=65535:=by decide
 omega
end Go.Proofs.YtbhofkcbfblijaaGreat
end
