import Derived.Test.YtbhofkcbfblijaaGreatCH6
import Derived.WalkKit
import Derived.KernelRfl
import Derived.WalkSpells
import Derived.WalkLawsBesides
import Derived.Maps.AppendAt
import Derived.OrdersIn
import Derived.RangeFuncIn
import Derived.RangeFuncLeaves
import Derived.RangeFuncRecord
import Derived.RangeFuncSeq
import Derived.Scope
import Derived.DeepKeys3
import Derived.Laws.CopyRow
import Derived.Laws.OwnMore
import Derived.Laws.MakeOwn
import Derived.Laws.IdiomCopy
import Derived.Sort.OwnSortedInts
import Derived.Lib.RowBridge
import Derived.Shelf.Sort.Plain
import Derived.Ground.Names2Prog
import Derived.Shelf.Slices.Clone
import Derived.Shelf.Slices.CompactI
import Derived.Shelf.Slices.In.SortNone
import Derived.Ground.SlgnProg
import Derived.Shelf.SlicesE.Clone
import Derived.ProofKit
import Derived.ChangeSame
import Derived.SizedLaws
import Derived.Deep.Slices
import Derived.JoinedOf
import Derived.Test.YtbhofkcbfblijaaGreatProg
import Derived.Test.YtbhofkcbfblijaaGreatRows
/-
  What the law TradeGreatest needs beside the base that several claims of this seat share: contracts, and the plain law.
-/
set_option linter.all false
section
namespace Go.Proofs.YtbhofkcbfblijaaGreat
open Go.RowKit
section
variable{w w':World}{base:Nat}{e:TypeId}{sz:Nat}{A:Option Addr}{n c:Nat}{xs:List Value}
theorem Rd.pre{α:Type}{enc:α→List Value}{lo hi:Nat}{A:Option Addr}{xs:List α}(h:Rd w lo hi A (flat enc xs))(k:Nat):Rd w lo hi A (flat enc (xs.take k)):=by
 refine⟨h.1,?_⟩;have e:flat enc xs=flat enc (xs.take k)++flat enc (xs.drop k):=by unfold flat;rw[←List.flatMap_append,List.take_append_drop]
 rcases h.2 with h0|⟨b,o,a,hl,hh,c⟩
 ·refine .inl ?_;rw[e] at h0;exact(List.append_eq_nil_iff.1 h0).1
 ·refine .inr ⟨b,o,a,hl,hh,fun j u hu=>c j u ?_⟩;rw[e,List.getElem?_append_left (List.getElem?_eq_some_iff.1 hu).1];exact hu
end
end Go.Proofs.YtbhofkcbfblijaaGreat
end
section
namespace Go.Proofs.YtbhofkcbfblijaaGreat
open Go.RowKit Go.WideShapes
def EK(a n:Int):Int:=a/2^n.toNat
def HV(a n:Int):Option Unit:=if 0≤n∧n<64 then some () else none
theorem GS{α:Type}{a n:Int}{f:Unit→Option α}{r:α}(h:(HV a n).bind f=some r):(0≤n∧n<64)∧f ()=some r:=by
 unfold HV at h;split at h
 ·exact⟨by assumption,h⟩
 ·cases h
def Lg(a b:Int):Int:=((a.toNat&&&b.toNat:Nat):Int)
def Ft(a b:Int):Int:=((a.toNat|||b.toNat:Nat):Int)
section
variable{P:Program}{a:Act}{w:World}{dst:Option Tmp}{ty:TypeId}{pos:String}{Ds:Array Edge}{g:Option (Nat×Bool)}
theorem KI{x y:Operand}{m n:Int}{k:IntKind}{t b:TypeId}(c:a.eval x=.int .i64 m)(d:a.eval y=.int k n)(h:0≤n∧n<64):Dm P ⟨dst,.binOp .shr t x y b,ty,pos,Ds,g⟩ a w (fun u w'=>u=.int .i64 (EK m n)∧w'=w):=
 DS (by
  have hn:¬n<0:=by omega
  have hb:min n.toNat IntKind.i64.bits=n.toNat:=by
   have:IntKind.i64.bits=64:=rfl;omega
  have e:m.fdiv (2^n.toNat)=m/2^n.toNat:=Int.fdiv_eq_ediv_of_nonneg m (Int.le_of_lt (Int.pow_pos (by decide)));simp[execOp,c,d,eqGuard,binOp,Op.shift,hn,hb,e,EK])
theorem R9{x y:Operand}{m n:Int}{t b:TypeId}(c:a.eval x=.int .i64 m)(d:a.eval y=.int .i64 n)(h:(0≤m∧m≤9223372036854775807)∧(0≤n∧n≤9223372036854775807)):Dm P ⟨dst,.binOp .and t x y b,ty,pos,Ds,g⟩ a w (fun u w'=>u=.int .i64 (Lg m n)∧w'=w):=
 DS (by
  have e:(BitVec.ofInt 64 m&&&BitVec.ofInt 64 n).toNat=m.toNat&&&n.toNat:=by rw[BitVec.toNat_and,JR h.1.1 h.1.2,JR h.2.1 h.2.2]
  have f:IntKind.i64.wrap ((m.toNat&&&n.toNat:Nat):Int)=((m.toNat&&&n.toNat:Nat):Int):=K9 (Nat.le_trans Nat.and_le_left (by omega));have key:(Op.intBits .and .i64 m n).run P w=.ok (.int .i64 (Lg m n)) w:=by
   show(pure (Value.int .i64 (IntKind.i64.wrap ((BitVec.ofInt 64 m&&&BitVec.ofInt 64 n).toNat:Int))):Sem Value).run P w=_;rw[e,f];rfl
  simp[execOp,c,d,eqGuard,binOp,key])
theorem L6{x y:Operand}{m n:Int}{t b:TypeId}(c:a.eval x=.int .i64 m)(d:a.eval y=.int .i64 n)(h:(0≤m∧m≤9223372036854775807)∧(0≤n∧n≤9223372036854775807)):Dm P ⟨dst,.binOp .or t x y b,ty,pos,Ds,g⟩ a w (fun u w'=>u=.int .i64 (Ft m n)∧w'=w):=
 DS (by
  have e:(BitVec.ofInt 64 m|||BitVec.ofInt 64 n).toNat=m.toNat|||n.toNat:=by rw[BitVec.toNat_or,JR h.1.1 h.1.2,JR h.2.1 h.2.2]
  have i:m.toNat|||n.toNat<2^63:=Nat.or_lt_two_pow (by omega) (by omega);have f:IntKind.i64.wrap ((m.toNat|||n.toNat:Nat):Int)=((m.toNat|||n.toNat:Nat):Int):=K9 (by omega);have key:(Op.intBits .or .i64 m n).run P w=.ok (.int .i64 (Ft m n)) w:=by
   show(pure (Value.int .i64 (IntKind.i64.wrap ((BitVec.ofInt 64 m|||BitVec.ofInt 64 n).toNat:Int))):Sem Value).run P w=_;rw[e,f];rfl
  simp[execOp,c,d,eqGuard,binOp,key])
end
def Gl(b:Nat)(c:Ah)(d:List Int)(e:Int):Option (Bool):=
 (F7 b c d).bind fun a=>cond (a.2==0) (some (decide (e≤a.1.Lo))) (some (false))
def Bm(d:Nat)(b:AO)(c:List Int):Nat→Int→Option ((Bool)⊕(Unit))
 |0,_=>none
 |e+1,a=>cond (decide (a<(c.length:Int))) (cond (decide (a<(b.Ax.length:Int))) ((idx c a).bind fun f=>(idx b.Ax a).bind fun g=>(idx b.Ax a).bind fun h=>(Cn d f g.Lo h.Hi).bind fun i=>cond (!i) (some (.inl false)) ((i64 (a+1)).bind fun _=>Bm d b c e (a+1))) (some (.inr ()))) (some (.inr ()))
def Ck(b:Nat)(c:AO)(d:List Int):Option (Bool):=
 (Bm b c d b (0:Int)).bind fun z=>Sum.elim (fun a=>some (a)) (fun a=>some ((d.length:Int)==(c.Ax.length:Int))) z
def Cj(c:Nat)(d:AO)(a:List Int)(b:Int):Option (Int):=
 cond (decide (b<(a.length:Int))) ((idx a b).bind fun e=>some (e)) ((i64 (b-(a.length:Int))).bind fun _=>(idx d.Bv (b-(a.length:Int))).bind fun f=>(DM c a f).bind fun g=>some (g))
def Cf(b:Nat)(c:AO)(d:List Int)(a:DL):Option (Bool):=
 cond (a.Ce) ((i64 (a.Number+(c.Ax.length:Int))).bind fun _=>(Cj b c d (a.Number+(c.Ax.length:Int))).bind fun g=>(Cn b g a.AM a.AN).bind fun h=>some (h)) ((Cj b c d a.Number).bind fun e=>(Cn b e a.AM a.AN).bind fun f=>some (f))
def AL(c:Nat)(b:AO)(d:List Int):Nat→Int→Option ((Bool)⊕(Unit))
 |0,_=>none
 |g+1,a=>cond (decide (a<(b.AQ.length:Int))) ((idx b.AQ a).bind fun e=>(Cf c b d e).bind fun f=>cond (!f) (some (.inl false)) ((i64 (a+1)).bind fun _=>AL c b d g (a+1))) (some (.inr ()))
def BZ(b:Nat)(c:AO)(d:List Int):Option (Bool):=
 (Ck b c d).bind fun e=>cond (!e) (some (false)) ((AL b c d b (0:Int)).bind fun z=>Sum.elim (fun a=>some (a)) (fun a=>some (true)) z)
def Bj(c:Nat)(d:AO):Nat→(List (List Int))→Int→Option ((List (List Int)))
 |0,_,_=>none
 |f+1,b,a=>(Ez c d).bind fun g=>cond (decide (a<g)) ((FM c d a).bind fun e=>(BZ c d e).bind fun h=>cond (h) ((Es (((b.length+[e].length:Nat):Int)≤140737488355328/24)).bind fun _=>(i64 (a+1)).bind fun _=>Bj c d f (b++[e]) (a+1)) ((i64 (a+1)).bind fun _=>Bj c d f b (a+1))) (some (b))
def By(a:Nat)(b:AO):Option ((List (List Int))):=
 (Bj a b a ([]:List (List Int)) (0:Int)).bind fun z2=>some (z2)
def BO(c:Int):Nat→(List Int)→Int→Option ((List Int))
 |0,_,_=>none
 |d+1,b,a=>(EI .u64 a).bind fun _=>(HV c a).bind fun _=>cond (decide ((0:Int)<(EK c a))) ((EI .u64 a).bind fun _=>(HV c a).bind fun _=>(rem (EK c a) (2:Int)).bind fun _=>cond (((EK c a)%2)==1) ((Es (((b.length+[a].length:Nat):Int)≤140737488355328/8)).bind fun _=>(i64 (a+1)).bind fun _=>BO c d (b++[a]) (a+1)) ((i64 (a+1)).bind fun _=>BO c d b (a+1))) (some (b))
def CI(a:Nat)(b:Int):Option ((List Int)):=
 (BO b a ([]:List Int) (0:Int)).bind fun c=>some (c)
def Cd(b:List Int)(c:List Int):Nat→Int→Option ((Bool)⊕(Unit))
 |0,_=>none
 |e+1,a=>cond (decide (a<(b.length:Int))) (cond (decide (a<(c.length:Int))) ((idx b a).bind fun f=>(idx c a).bind fun g=>cond (f !=g) ((idx b a).bind fun h=>(idx c a).bind fun d=>some (.inl (decide (h<d)))) ((i64 (a+1)).bind fun _=>Cd b c e (a+1))) (some (.inr ()))) (some (.inr ()))
def C0(d:Nat)(b:List Int)(c:List Int):Option (Bool):=
 (Cd b c d (0:Int)).bind fun z=>Sum.elim (fun a=>some (a)) (fun a=>some (decide ((b.length:Int)<(c.length:Int)))) z
def Bn(d:Nat)(c:Ah)(e:List Int):Nat→Int→Int→Option (Int)
 |0,_,_=>none
 |f+1,b,a=>cond (decide (a<(c.Ar.length:Int))) ((idx c.Ar a).bind fun g=>(idx c.Ar a).bind fun i=>(Eg d c e i.Ce).bind fun j=>(Cn d j g.CA g.CB).bind fun h=>cond (h) ((EI .u64 a).bind fun _=>(FL (1:Int) a).bind fun _=>(LU b (C3 (1:Int) a)).bind fun _=>(i64 (a+1)).bind fun _=>Bn d c e f (Ft b (C3 (1:Int) a)) (a+1)) ((i64 (a+1)).bind fun _=>Bn d c e f b (a+1))) (some (b))
def Cg(a:Nat)(b:Ah)(c:List Int):Option (Int):=
 (Bn a b c a (0:Int) (0:Int)).bind fun z2=>some (z2)
def Ch(b:Nat)(a:Ah):Option (Int):=
 (EI .u64 (a.Ar.length:Int)).bind fun _=>(FL (1:Int) (a.Ar.length:Int)).bind fun _=>(i64 ((C3 (1:Int) (a.Ar.length:Int))-1)).bind fun _=>some ((C3 (1:Int) (a.Ar.length:Int))-1)
def Bt(d:Nat)(e:Ah)(c:(List (List Int))):Nat→(List (List Int))→Int→Option ((List (List Int)))
 |0,_,_=>none
 |g+1,b,a=>cond (decide (a<(c.length:Int))) ((idx c a).bind fun i=>(Cg d e i).bind fun j=>(Ch d e).bind fun h=>cond (j==h) ((idx c a).bind fun f=>(Es (((b.length+[f].length:Nat):Int)≤140737488355328/24)).bind fun _=>(i64 (a+1)).bind fun _=>Bt d e c g (b++[f]) (a+1)) ((i64 (a+1)).bind fun _=>Bt d e c g b (a+1))) (some (b))
def Cq(b:Nat)(a:Ah):Option ((List (List Int))):=
 (By b (⟨a.Ag,a.Ab,a.Ak⟩:AO)).bind fun c=>(Bt b a c b ([]:List (List Int)) (0:Int)).bind fun z4=>some (z4)
def B4(g:Nat)(c:List Int)(f:Int):Nat→Int→Int→Option ((Int×Bool)⊕(Int))
 |0,_,_=>none
 |h+1,b,a=>cond (decide (a<(c.length:Int))) ((idx c a).bind fun k=>(i64 (f-1)).bind fun _=>(Cn g k 0 (f-1)).bind fun l=>cond (!l) (some (.inl ((0:Int),false))) (cond (decide ((0:Int)<a)) ((idx c a).bind fun i=>(i64 (a-1)).bind fun _=>(idx c (a-1)).bind fun j=>cond (decide (i≤j)) (some (.inl ((0:Int),false))) ((idx c a).bind fun d=>(EI .u64 d).bind fun _=>(FL (1:Int) d).bind fun _=>(LU b (C3 (1:Int) d)).bind fun _=>(i64 (a+1)).bind fun _=>B4 g c f h (Ft b (C3 (1:Int) d)) (a+1))) ((idx c a).bind fun e=>(EI .u64 e).bind fun _=>(FL (1:Int) e).bind fun _=>(LU b (C3 (1:Int) e)).bind fun _=>(i64 (a+1)).bind fun _=>B4 g c f h (Ft b (C3 (1:Int) e)) (a+1)))) (some (.inr b))
def DJ(b:Nat)(c:List Int)(d:Int):Option (Int×Bool):=
 (B4 b c d b (0:Int) (0:Int)).bind fun z=>Sum.elim (fun a=>some ((a.1,a.2))) (fun a=>some ((a,true))) z
def Cv(f:Nat)(c:Ah)(g:List Int)(d:Int):Nat→Int→Int→Option (Int)
 |0,_,_=>none
 |h+1,b,a=>cond (decide (a<(c.Ab.length:Int))) ((EI .u64 a).bind fun _=>(HV d a).bind fun _=>(rem (EK d a) (2:Int)).bind fun _=>cond (((EK d a)%2)==1) ((Eg f c g a).bind fun i=>(i64 (b+i)).bind fun _=>(i64 (a+1)).bind fun _=>Cv f c g d h (b+i) (a+1)) ((Ef f c a).bind fun e=>(i64 (c.Flat*e)).bind fun _=>(i64 (b+(c.Flat*e))).bind fun _=>(i64 (a+1)).bind fun _=>Cv f c g d h (b+(c.Flat*e)) (a+1))) (some (b))
def DD(a:Nat)(b:Ah)(c:List Int)(d:Int):Option (Int):=
 (Cv a b c d a (0:Int) (0:Int)).bind fun z2=>some (z2)
def Cr(b:Nat)(a:List Int):Option ((List Int)):=
 (Es (((([]:List Int).length+a.length:Nat):Int)≤140737488355328/8)).bind fun _=>some (([]:List Int)++a)
def CY(a:Nat)(b:Ah):Option (Bool):=
 (FW a b).bind fun c=>cond (c) ((Fy a b).bind fun d=>some (d==0)) (some (false))
def Em(c:Nat)(a:Ah)(b:Int):Option ((List Int)):=
 (EI .i64 b).bind fun _=>(EI .u64 (a.Ab.length:Int)).bind fun _=>(FL (1:Int) (a.Ab.length:Int)).bind fun _=>(i64 ((C3 (1:Int) (a.Ab.length:Int))-1)).bind fun _=>(LU b ((C3 (1:Int) (a.Ab.length:Int))-1)).bind fun _=>(CI c (Lg b ((C3 (1:Int) (a.Ab.length:Int))-1))).bind fun d=>some (d)
end Go.Proofs.YtbhofkcbfblijaaGreat
end
section
namespace Go.Proofs.YtbhofkcbfblijaaGreat
section
variable{K:Nat}(hK:1000≤K)
include hK
theorem KJ{σ:Type}(cb:σ→Int→Option (Bool×σ))(p:List Int)(a:p.length≤900)(s:σ):Ja K cb p s=run cb p s:=
 Lc (F:=E2 (fun(st:σ) (x:Int)=>(HD K cb x st).bind fun r=>some (r.1,r.2)) p) (fun _ _ _=>rfl) a hK s
end
section
variable{K:Nat}(hK:1000≤K)
include hK
theorem Pw(a b:Int):G2 K [a,b]=some (min a b):=by
 unfold G2;rw[bd (Rx hK a b)]
theorem KK(r:Bl)(n:Int):Fe K r n=some ⟨min r.Lo n,max r.Hi n⟩:=by
 unfold Fe;rw[bd (Pw hK _ _)]
end
theorem Mt(r:Bl)(rs:List Bl):Eu (r::rs) []=false:=rfl
theorem Mu(x:Int)(xs:List Int):Eu [] (x::xs)=false:=rfl
namespace OkC
variable{c:AO}(h:OkC c)
include h
end OkC
section
variable{K:Nat}(hK:1000≤K)
include hK
theorem Hv(c:AO)(l:List Int)(hh:c.Ax.length≤100)(hl:l.length≤100):∀(n m i:Nat),l.length=i+n→i≤c.Ax.length→n<m→
  (Bm K c l m (i:Int)).bind (fun z=>Sum.elim (fun q=>some q) (fun _=>some ((l.length:Int)==(c.Ax.length:Int))) z)=some (Eu (c.Ax.drop i) (l.drop i))
 |n,0,i,h,_,hm=>by omega
 |0,m+1,i,h,hi,hm=>by
  rw[Bm.eq_2,cf (df (by omega)),List.drop_eq_nil_of_le (by omega:l.length≤i)];show some ((l.length:Int)==(c.Ax.length:Int))=_
  by_cases e:i<c.Ax.length
  ·rw[List.drop_eq_getElem_cons e,IU (by omega),Mt]
  ·rw[List.drop_eq_nil_of_le (by omega),F9 (by omega),OQ]
 |n+1,m+1,i,h,hi,hm=>by
  have h1:i<l.length:=by omega
  rw[Bm.eq_2,ct (dt (by omega)),List.drop_eq_getElem_cons h1]
  by_cases e:i<c.Ax.length
  ·rw[ct (dt (by omega)),B5 h1,B5 e,B5 e,bd (Hs ..),List.drop_eq_getElem_cons e,Eu];cases DK l[i] c.Ax[i].Lo c.Ax[i].Hi with
   |false=>rw[nf,Bool.false_and];rfl
   |true=>
    rw[nt,Br (by omega) (by omega),CP i,Bool.true_and];exact Hv c l hh hl n m (i+1) (by omega) (by omega) (by omega)
  ·rw[cf (df (by omega)),List.drop_eq_nil_of_le (by omega:c.Ax.length≤i)];show some ((l.length:Int)==(c.Ax.length:Int))=_;rw[IU (by omega),Mu]
theorem IX(c:AO)(l:List Int)(hh:c.Ax.length≤100)(hl:l.length≤100):Ck K c l=some (Eu c.Ax l):=by
 have:=Hv hK c l hh hl l.length K 0 (by omega) (by omega) (by omega);rw[Int.natCast_zero,List.drop_zero,List.drop_zero] at this;exact this
end
section
variable{K:Nat}(hK:1000≤K)
include hK
theorem Kg{c:AO}(b:OkC c){l:List Int}(hl:Eu c.Ax l=true){t:DL}(d:t∈c.AQ):Cf K c l t=some (DK (Ew c l t) t.AM t.AN):=by
 obtain⟨h0,h1,h2⟩:=b.Qp t d;have hh:=KS hl;have:=b.hl;have:=b.cl;unfold Cf Ew;cases e:t.Ce with
 |true=>
  have f:=h1 e;obtain⟨k,hk⟩:∃k:Nat,t.Number=k:=⟨t.Number.toNat,by omega⟩;have a:k<c.Bv.length:=by omega
  rw[ct rfl,Br (by omega) (by omega),ct rfl,hk];unfold Cj;have g:(k:Int)+(c.Ax.length:Int)-(l.length:Int)=(k:Int):=by omega
  rw[cf (df (by omega)),Br (by omega) (by omega),g,B5 a,bd (KV hK b hl a),Option.bind_some,bd (Hs ..),Int.toNat_natCast,Cl _ a]
 |false=>
  have f:=h2 e;obtain⟨k,hk⟩:∃k:Nat,t.Number=k:=⟨t.Number.toNat,by omega⟩;have a:k<l.length:=by omega
  rw[cf rfl,cf rfl,hk];unfold Cj;rw[ct (dt (by omega)),B5 a,Option.bind_some,bd (Hs ..),Int.toNat_natCast,Cl _ a]
theorem IY{c:AO}(a:OkC c){l:List Int}(b:l.length≤100):BZ K c l=some (Dr c l):=by
 have:=a.hl;have:=a.tl;unfold BZ Dr;rw[bd (IX hK c l (by omega) b)];cases hl:Eu c.Ax l with
 |false=>rw[nf,Bool.false_and]
 |true=>
  have h:AL K c l K 0=some (cond (c.AQ.all fun t=>DK (Ew c l t) t.AM t.AN) (.inr ()) (.inl false)):=
   JT c.AQ (fun m i=>AL K c l m (i:Int)) (fun t=>DK (Ew c l t) t.AM t.AN) false
    (fun m i hi=>by
     show AL K c l (m+1) (i:Int)=_;rw[AL.eq_2,ct (dt (by omega)),B5 hi,bd (Kg hK a hl (List.getElem_mem hi))];cases DK (Ew c l c.AQ[i]) c.AQ[i].AM c.AQ[i].AN with
     |false=>rw[nf,cf rfl]
     |true=>rw[nt,Br (by omega) (by omega),CP i,ct rfl])
    (fun m=>by
     show AL K c l (m+1) (c.AQ.length:Int)=_;rw[AL.eq_2,cf (df (by omega))]) (by omega)
  rw[nt,bd h,Bool.true_and];unfold Oh;cases c.AQ.all fun t=>DK (Ew c l t) t.AM t.AN with
  |false=>rfl
  |true=>rfl
theorem Kh(rs:List Bl):∀n,(HK rs n).length=rs.length:=by
 clear hK
 induction rs with
 |nil=>intro n;rfl
 |cons r rs ih=>intro n;rw[HK,List.length_cons,List.length_cons,ih]
theorem Fb{c:AO}(a:OkC c):∀(d m i:Nat) (acc:List (List Int)),Gt c.Ax=(i:Int)+d→d<m→acc.length≤i→
  Bj K c m acc (i:Int)=some (acc++((List.range' i d).map fun n:Nat=>HK c.Ax (n:Int)).filter (Dr c))
 |d,0,i,acc,h,hm,_=>by omega
 |0,m+1,i,acc,h,hm,_=>by
  rw[Bj.eq_2,bd (Kp hK a),cf (df (by omega))];simp
 |d+1,m+1,i,acc,h,hm,ha=>by
  have b:=a.many;have hh:=a.hl;rw[Bj.eq_2,bd (Kp hK a),ct (dt (by omega)),bd (Po hK (by omega) a.ok (by omega)),bd (IY hK a (by rw[Kh hK];omega)),List.range'_succ,List.map_cons,List.filter_cons];cases Dr c (HK c.Ax (i:Int)) with
  |true=>
   rw[ct rfl,DG (by simp;omega),Br (by omega) (by omega),CP i,Fb a d m (i+1) _ (by omega) (by omega) (by simp;omega),List.append_assoc];rfl
  |false=>
   rw[cf rfl,Br (by omega) (by omega),CP i,Fb a d m (i+1) _ (by omega) (by omega) (by omega)];rfl
theorem Hz{c:AO}(a:OkC c):By K c=some (BR c):=by
 unfold By BR;have h1:=NC hK a;have h2:=a.many;have:=Fb hK a (Gt c.Ax).toNat K 0 [] (by omega) (by omega) (by simp);rw[Int.natCast_zero,List.nil_append] at this;rw[bd this,List.range_eq_range']
end
section
variable{K:Nat}(hK:1000≤K)
include hK
end
def Di(M:List Int):Nat→List Cu→Nat
 |_,[]=>0
 |i,n::ns=>(if EB M n=true then 2^i else 0)|||Di M (i+1) ns
theorem E0(M:List Int):∀(ns:List Cu) (i j:Nat),(Di M i ns).testBit j=true↔∃q,∃hq:q<ns.length,j=i+q∧EB M ns[q]=true
 |[],i,j=>by simp[Di]
 |n::ns,i,j=>by
  rw[Di,Nat.testBit_or,Bool.or_eq_true,E0 M ns (i+1) j];constructor
  ·rintro(h|⟨q,hq,rfl,h⟩)
   ·split at h
    ·rename_i hn
     rw[Nat.testBit_two_pow,decide_eq_true_eq] at h;exact⟨0,by simp,by omega,by simpa using hn⟩
    ·simp at h
   ·exact⟨q+1,by simpa using hq,by omega,by simpa using h⟩
  ·rintro⟨q,hq,rfl,h⟩;cases q with
   |zero=>
    left;rw[if_pos (by simpa using h),Nat.testBit_two_pow];simp
   |succ q=>exact .inr ⟨q,by simpa using hq,by omega,by simpa using h⟩
theorem Kx(M:List Int)(ns:List Cu):Di M 0 ns=2^ns.length-1↔CK M [] 0 ns=true:=by
 rw[HU];constructor
 ·intro h j hj;have:=(E0 M ns 0 j).1 (by rw[h,Nat.testBit_two_pow_sub_one];simpa using hj);obtain⟨q,hq,e,h2⟩:=this;obtain rfl:j=q:=by omega
  exact .inr h2
 ·intro h;refine Nat.eq_of_testBit_eq fun j=>?_;rw[Nat.testBit_two_pow_sub_one,Bool.eq_iff_iff,E0,decide_eq_true_eq];constructor
  ·rintro⟨q,hq,rfl,_⟩;omega
  ·intro hj;rcases h j hj with h1|h1
   ·simp at h1
   ·exact⟨j,hj,by omega,h1⟩
theorem GU:∀i:Nat,i<6→EI .u64 (i:Int)=some ()∧FL 1 (i:Int)=some ()∧C3 1 (i:Int)=((2^i:Nat):Int)∧2^i≤32∧1≤2^i∧FL 2 (i:Int)=some ()∧C3 2 (i:Int)=((2^(i+1):Nat):Int):=by decide+kernel
theorem N4(a b:Nat):Ft (a:Int) (b:Int)=((a|||b:Nat):Int):=by unfold Ft;rw[Int.toNat_natCast,Int.toNat_natCast]
theorem Uj(a b:Nat):Lg (a:Int) (b:Int)=((a&&&b:Nat):Int):=by unfold Lg;rw[Int.toNat_natCast,Int.toNat_natCast]
def CL(t:Ah)(l:List Int):Bool:=Dr t.C l&&CK (AB t l) [] 0 t.Ar
theorem FG{c:AO}(a:OkC c):(BR c).length≤150:=by
 have:=a.many;unfold BR;refine Nat.le_trans (List.length_filter_le _ _) ?_;rw[List.length_map,List.length_range];omega
section
variable{K:Nat}(hK:1000≤K)
include hK
theorem Ki{t:Ah}(f:OkT t){l:List Int}(hl:Eu t.Ag l=true):Cg K t l=some ((Di (AB t l) 0 t.Ar:Nat):Int):=by
 have o:=f.nl;have a:∀(d m i:Nat) (s:Nat),t.Ar.length=i+d→d<m→s<2^5→Bn K t l m (s:Int) (i:Int)=some ((s|||Di (AB t l) i (t.Ar.drop i):Nat):Int):=by
  intro d
  induction d with
  |zero=>
   intro m i s h hm hs;obtain⟨m,rfl⟩:∃g,m=g+1:=⟨m-1,by omega⟩;rw[Bn.eq_2,cf (df (by omega)),List.drop_eq_nil_of_le (by omega),Di,Nat.or_zero]
  |succ d ih=>
   intro m i s h hm hs;obtain⟨m,rfl⟩:∃g,m=g+1:=⟨m-1,by omega⟩;have hi:i<t.Ar.length:=by omega
   obtain⟨h1,h2⟩:=(f.note _ (List.getElem_mem hi)).1;obtain⟨k,hk⟩:∃k:Nat,t.Ar[i].Ce=k:=⟨t.Ar[i].Ce.toNat,by omega⟩;have b:k<t.Ab.length:=by omega
   have c:k<(AB t l).length:=by rw[DC];exact b
   obtain⟨s1,s2,j,p,q,_⟩:=GU i (by omega);have e:DK ((AB t l)[k]'c) t.Ar[i].CA t.Ar[i].CB=EB (AB t l) t.Ar[i]:=by
    unfold EB;rw[hk,Int.toNat_natCast,Cl _ c]
   rw[Bn.eq_2,ct (dt (by omega)),B5 hi,B5 hi,hk,bd (Ld hK f hl b),bd (Hs ..),e,List.drop_eq_getElem_cons hi,Di];have n:2^i<2^5:=Nat.pow_lt_pow_right (by omega) (by omega);cases EB (AB t l) t.Ar[i] with
   |true=>
    rw[ct rfl,bd s1,bd s2,j,MC (by omega) (by omega),Br (by omega) (by omega),CP i,N4,if_pos rfl,ih m (i+1) _ (by omega) (by omega) (Nat.or_lt_two_pow hs n),Nat.or_assoc]
   |false=>rw[cf rfl,Br (by omega) (by omega),CP i,if_neg (by simp),Nat.zero_or,ih m (i+1) _ (by omega) (by omega) hs]
 have:=a t.Ar.length K 0 0 (by omega) (by omega) (by omega);rw[Int.natCast_zero,List.drop_zero,Nat.zero_or] at this;unfold Cg;rw[bd this]
theorem K8{t:Ah}(a:OkT t):Ch K t=some ((2^t.Ar.length-1:Nat):Int):=by
 have d:=a.nl;obtain⟨s1,s2,b,e,c,_⟩:=GU t.Ar.length (by omega);unfold Ch;rw[bd s1,bd s2,b,Br (by omega) (by omega),Int.natCast_sub c];rfl
theorem Mg{t:Ah}(l:List Int):(((Di (AB t l) 0 t.Ar:Nat):Int)==((2^t.Ar.length-1:Nat):Int))=CK (AB t l) [] 0 t.Ar:=by
 rw[Bool.eq_iff_iff,beq_iff_eq,←Kx];omega
theorem JH{t:Ah}(a:OkT t):Cq K t=some (Bf t):=by
 have hlen:=FG a.c;have h:By K ⟨t.Ag,t.Ab,t.Ak⟩=some (BR t.C):=Hz hK (c:=t.C) a.c;have b:∀(d m i:Nat) (acc:List (List Int)),(BR t.C).length=i+d→d<m→acc.length≤i→Bt K t (BR t.C) m acc (i:Int)=some (acc++((BR t.C).drop i).filter fun l=>CK (AB t l) [] 0 t.Ar):=by
  intro d
  induction d with
  |zero=>
   intro m i acc h hm ha;obtain⟨m,rfl⟩:∃e,m=e+1:=⟨m-1,by omega⟩;rw[Bt.eq_2,cf (df (by omega)),List.drop_eq_nil_of_le (by omega),List.filter_nil,List.append_nil]
  |succ d ih=>
   intro m i acc h hm ha;obtain⟨m,rfl⟩:∃e,m=e+1:=⟨m-1,by omega⟩;have hi:i<(BR t.C).length:=by omega
   have f:=(Gd a.c).1 (List.getElem_mem hi);rw[Bt.eq_2,ct (dt (by omega)),B5 hi,bd (Ki hK a (Jr f)),bd (K8 hK a),Mg hK,List.drop_eq_getElem_cons hi,List.filter_cons];cases CK (AB t (BR t.C)[i]) [] 0 t.Ar with
   |true=>
    rw[ct rfl,if_pos rfl,B5 hi,DG (by simp;omega),Br (by omega) (by omega),CP i,ih m (i+1) _ (by omega) (by omega) (by simp;omega),List.append_assoc];rfl
   |false=>rw[cf rfl,if_neg (by simp),Br (by omega) (by omega),CP i,ih m (i+1) _ (by omega) (by omega) (by omega)]
 have:=b (BR t.C).length K 0 [] (by omega) (by omega) (by simp);rw[Int.natCast_zero,List.drop_zero,List.nil_append] at this;unfold Cq Bf;rw[bd h,bd this]
end
section
variable{K:Nat}(hK:1000≤K)
include hK
theorem J5(l:List Int)(hl:l.length≤1000):Cr K l=some l:=Oi hK l hl
theorem PQ(t:Ah):CY K t=some (Eh t&&decide (DV t=0)):=by
 unfold CY;rw[bd (Pp hK t)];cases h:Eh t with
 |false=>rw[cf rfl,Bool.false_and]
 |true=>
  rw[ct rfl,bd (MN hK t (Gn h)),Bool.true_and];try rfl
end
def BY(t:Ah):Int:=if De t≠0 then De t else if Bf t=[] then 9 else 0
theorem C8{t:Ah}(h:BY t=0):De t=0∧Bf t≠[]:=by
 unfold BY at h;split at h
 ·rename_i h1;exact absurd h h1
 rename_i h1
 split at h
 ·cases h
 exact⟨Decidable.byContradiction h1,‹_›⟩
section
variable{K:Nat}(hK:1000≤K)
include hK
theorem H8{t:Ah}(h:Eh t=true)(c:Bool):
  (BY t=0∧c=true∧∃L m,Tr t L∧EC t m∧Cw K t c=some (some (wk t (L.map (Bq t)) m),0))∨
  (¬(BY t=0∧c=true)∧Cw K t c=some (none,if DV t=0∧c=false then 2 else BY t)):=by
 unfold Cw;rcases KW hK h c with⟨h0,n,L,i,d,e⟩|⟨h0,e⟩
 ·have j:=Eo h (C5 h0).1;rw[bd e];obtain⟨m,hm,g⟩:=Lp hK j (out:=[]) (by simp) i.len (LN t);have o:(L.any fun l=>CK (AB t l) [] 0 t.Ar)=(BR t.C).any fun l=>CK (AB t l) [] 0 t.Ar:=OR hK j i _ (Ma hK j [])
  by_cases h1:Bf t=[]
  ·have f:BY t=9:=by unfold BY;rw[if_neg (by simp[h0]),if_pos h1]
   refine .inr ⟨by rw[f];simp,?_⟩;have k:((BR t.C).any fun l=>CK (AB t l) [] 0 t.Ar)=false:=by
    rw[Bool.eq_false_iff];intro hh;obtain⟨l,hl,hr⟩:=List.any_eq_true.1 hh;have:l∈Bf t:=List.mem_filter.2 ⟨hl,hr⟩;rw[h1] at this;cases this
   show(cond ((0:Int) !=0) (some ((none:Option CZ),(0:Int))) ((CF K (wk t (L.map (Bq t)) []) []).bind _)=_);rw[cf (EW rfl),bd g,o,k,nf,f,n,if_neg (by simp)]
  ·have f:BY t=0:=by unfold BY;rw[if_neg (by simp[h0]),if_neg h1]
   have k:((BR t.C).any fun l=>CK (AB t l) [] 0 t.Ar)=true:=by
    obtain⟨l,hl⟩:=List.exists_mem_of_ne_nil _ h1;obtain⟨a,b⟩:=List.mem_filter.1 hl;exact List.any_eq_true.2 ⟨l,a,b⟩
   refine .inl ⟨f,n,L,m,i,hm,?_⟩;show(cond ((0:Int) !=0) (some ((none:Option CZ),(0:Int))) ((CF K (wk t (L.map (Bq t)) []) []).bind _)=_);rw[cf (EW rfl),bd g,o,k,nt];rfl
 ·rw[bd e];have d:(if DV t=0∧c=false then (2:Int) else De t)≠0:=by
   split
   ·omega
   ·rename_i hh
    intro g;refine h0 ⟨g,?_⟩;cases c with
    |true=>rfl
    |false=>exact absurd ⟨(C5 g).1,rfl⟩ hh
  refine .inr ⟨fun g=>h0 ⟨(C8 g.1).1,g.2⟩,?_⟩;show cond (_ !=0) _ _=_;rw[ct (FX d)]
  congr 2
  split
  ·rfl
  ·rename_i hh
   have:De t≠0:=by rw[if_neg hh] at d;exact d
   unfold BY;rw[if_pos this]
end
theorem MS{β:Type}{f:Unit→Option β}{x:Nat}(h:x<64):(EI .u64 (x:Int)).bind f=f ():=bd (by
 have:∀x:Nat,x<64→EI .u64 (x:Int)=some ():=by decide+kernel
 exact this x h)
theorem KL{β:Type}{f:Unit→Option β}{a:Int}{x:Nat}(h:x<64):(HV a (x:Int)).bind f=f ():=bd (if_pos ⟨by omega,by omega⟩)
theorem Iv(s x:Nat):EK (s:Int) (x:Int)=((s/2^x:Nat):Int):=by
 unfold EK;rw[show(x:Int).toNat=x by omega];simp
theorem tb(s i:Nat):(s/2^i%2==1)=s.testBit i:=by rw[Nat.testBit_eq_decide_div_mod_eq];rfl
theorem Hc:∀a:List Int,lexB a a=false
 |[]=>rfl
 |a::b=>by rw[lexB,if_pos rfl,Hc b]
theorem Nw:∀a b:List Int,lexB a b=true→lexB b a=false
 |[],[],h=>by cases h
 |[],b::c,_=>rfl
 |a::d,[],h=>by cases h
 |a::d,b::c,h=>by
  rw[lexB] at h⊢
  by_cases e:a=b
  ·rw[if_pos e] at h;rw[if_pos e.symm];exact Nw d c h
  ·rw[if_neg e,decide_eq_true_eq] at h;rw[if_neg (Ne.symm e),decide_eq_false_iff_not];omega
theorem KM{s x:Nat}(a:x<8):(BE s).contains (x:Int)=s.testBit x:=by
 rw[Bool.eq_iff_iff,List.contains_iff_mem,Kf];constructor
 ·rintro⟨y,b,h,e⟩;obtain rfl:x=y:=by omega
  exact h
 ·intro h;exact⟨x,a,h,rfl⟩
theorem Js(s:Nat):(BE s).length≤8:=by
 unfold BE;rw[List.length_map];exact Nat.le_trans (List.length_filter_le _ _) (by simp)
def FJ:List Int→Nat
 |[]=>0
 |x::l=>2^x.toNat|||FJ l
theorem Ln:∀{l:List Int} (_:∀x∈l,0≤x) (j:Nat),(FJ l).testBit j=true↔(j:Int)∈l
 |[],_,j=>by simp[FJ]
 |x::l,h,j=>by
  have b:=h x (List.mem_cons_self ..);rw[FJ,Nat.testBit_or,Bool.or_eq_true,Ln (fun y a=>h y (List.mem_cons_of_mem _ a)) j,Nat.testBit_two_pow,decide_eq_true_eq,List.mem_cons];constructor
  ·rintro(h|h)
   ·exact .inl (by omega)
   ·exact .inr h
  ·rintro(h|h)
   ·exact .inl (by omega)
   ·exact .inr h
theorem Ti{s:Nat}(hs:s<2^8):FJ (BE s)=s:=by
 refine Nat.eq_of_testBit_eq fun j=>?_;rw[Bool.eq_iff_iff,Ln (fun x a=>by obtain⟨y,_,_,rfl⟩:=Kf.1 a;omega),Kf];constructor
 ·rintro⟨x,_,hb,e⟩;obtain rfl:j=x:=by omega
  exact hb
 ·intro h;exact⟨j,SW hs h,h,rfl⟩
section
variable{K:Nat}(hK:1000≤K)
include hK
theorem Jt(s:Nat)(hs:s<2^8):∀(d m p:Nat) (acc:List Int),p+d=8→d<m→acc.length≤p→BO (s:Int) m acc (p:Int)=some (acc++((List.range' p d).filter fun x=>s.testBit x).map fun x:Nat=>(x:Int))
 |d,0,p,acc,_,h,_=>by omega
 |0,m+1,p,acc,a,_,ha=>by
  obtain rfl:p=8:=by omega
  rw[BO.eq_2,MS (by omega),KL (by omega),Iv,Nat.div_eq_of_lt hs,cf (df (by simp))];simp
 |d+1,m+1,p,acc,a,hm,ha=>by
  rw[BO.eq_2,MS (by omega),KL (by omega),Iv]
  by_cases h0:s/2^p=0
  ·rw[h0,cf (df (by simp))];have:(List.range' p (d+1)).filter (fun x=>s.testBit x)=[]:=by
    rw[List.filter_eq_nil_iff];intro x b;rw[List.mem_range'_1] at b;have h1:s<2^p:=by
     rcases Nat.div_eq_zero_iff.1 h0 with h|h
     ·have:=Nat.two_pow_pos p;omega
     ·exact h
    rw[Nat.testBit_lt_two_pow (Nat.lt_of_lt_of_le h1 (Nat.pow_le_pow_right (by omega) (by omega)))];simp
   rw[this,List.map_nil,List.append_nil]
  ·have hq:(0:Int)<((s/2^p:Nat):Int):=by generalize s/2^p=q at h0;omega
   rw[ct (dt hq),MS (by omega),KL (by omega),LF (Int.le_of_lt hq) (by omega),List.range'_succ,List.filter_cons];have e:((((s/2^p:Nat):Int)%2)==1)=s.testBit p:=by
    rw[←tb,Bool.eq_iff_iff,beq_iff_eq,beq_iff_eq];omega
   rw[e];cases s.testBit p with
   |true=>
    rw[ct rfl,DG (by simp;omega),Br (by omega) (by omega),CP p,Jt s hs d m (p+1) _ (by omega) (by omega) (by simp;omega),if_pos rfl,List.map_cons,List.append_assoc];rfl
   |false=>rw[cf rfl,Br (by omega) (by omega),CP p,Jt s hs d m (p+1) _ (by omega) (by omega) (by omega),if_neg (by simp)]
theorem Nq{s:Nat}(hs:s<2^8):CI K (s:Int)=some (BE s):=by
 unfold CI BE;have:=Jt hK s hs 8 K 0 [] (by omega) (by omega) (by simp);rw[Int.natCast_zero,List.nil_append,←List.range_eq_range'] at this;rw[bd this]
omit hK in
theorem KO (a b:List Int) (ha:a.length≤900) (hb:b.length≤900):∀(n m i:Nat),a.length=i+n→i≤b.length→n<m→
  (Cd a b m (i:Int)).bind (fun z=>Sum.elim (fun q1=>some q1) (fun _=>some (decide ((a.length:Int)<(b.length:Int)))) z)=some (lexB (a.drop i) (b.drop i))
 |n,0,i,h,_,hm=>by omega
 |0,m+1,i,h,Ve,hm=>by
  rw[Cd.eq_2,cf (df (by omega)),List.drop_eq_nil_of_le (by omega:a.length≤i)]
  show some _=_
  by_cases e:i<b.length
  ·rw[List.drop_eq_getElem_cons e,dt (by omega)];rfl
  ·rw[List.drop_eq_nil_of_le (by omega:b.length≤i),df (by omega)];rfl
 |n+1,m+1,i,h,Ve,hm=>by
  have hi:i<a.length:=by omega
  rw[Cd.eq_2,ct (dt (by omega)),List.drop_eq_getElem_cons hi]
  by_cases hj:i<b.length
  ·rw[ct (dt (by omega)),B5 hi,B5 hj,List.drop_eq_getElem_cons hj,lexB]
   by_cases he:a[i]=b[i]
   ·rw[if_pos he,cf (by simp[he]),Br (by omega) (by omega),CP i]
    exact KO a b ha hb n m (i+1) (by omega) (by omega) (by omega)
   ·rw[if_neg he,ct (by simp[he]),B5 hi,B5 hj]
    rfl
  ·rw[cf (df (by omega)),List.drop_eq_nil_of_le (by omega:b.length≤i)]
   show some _=_
   rw[df (by omega)];rfl
theorem NK{a b:List Int}(ha:a.length≤900)(hb:b.length≤900):C0 K a b=some (lexB a b):=by
 unfold C0;have:=KO a b ha hb a.length K 0 (by omega) (by omega) (by omega);rw[Int.natCast_zero,List.drop_zero,List.drop_zero] at this;exact this
theorem Ku(n:Int)(hn:0≤n∧n≤100):∀(l:List Int) (s:Int),-1≤s→s≤100→∃a,run (fun(st:Int) (x:Int)=>(Ex K x st n).bind fun r=>some (r.1,r.2)) l s=some (DX n (s+1) l,a)
 |[],s,_,_=>⟨s,rfl⟩
 |x::l,s,h0,h1=>by
  have e:Ex K x s n=some (DK x (s+1) (n-1),x):=by
   unfold Ex;rw[Br (by omega) (by omega),Br (by omega) (by omega),bd (I7 ..)]
  rw[run,bd e,DX,Option.bind_some];cases h:DK x (s+1) (n-1) with
  |false=>exact⟨x,rfl⟩
  |true=>
   rw[Ei] at h;obtain⟨a,hs⟩:=Ku n hn l x (by omega) (by omega);exact⟨a,by rw[Bool.true_and];exact hs⟩
theorem Nr{n:Int}(hn:0≤n∧n≤100){l:List Int}(hl:l.length≤900):FH K l n=some (DX n 0 l):=by
 unfold FH;obtain⟨a,hs⟩:=Ku hK n hn l (-1) (by omega) (by omega);rw[bd ((KJ hK _ l hl (-1)).trans hs)];rfl
omit hK in
theorem L4:∀i:Nat,i<8→EI .u64 (i:Int)=some ()∧FL 1 (i:Int)=some ()∧C3 1 (i:Int)=((2^i:Nat):Int)∧2^i≤128∧1≤2^i∧FL 2 (i:Int)=some ()∧C3 2 (i:Int)=((2^(i+1):Nat):Int):=by decide+kernel
theorem KQ(n:Int)(hn:0≤n∧n≤8)(l:List Int)(hl:l.length≤900):∀(d m i:Nat) (bits:Nat) (lo:Int),l.length=i+d→d<m→bits<2^8→(i=0→lo=0)→(∀h:0<i,∃h2:i-1<l.length,lo=l[i-1]+1∧0≤lo)→
  (B4 K l n m (bits:Int) (i:Int)).bind (fun z=>Sum.elim (fun q=>some (q.1,q.2)) (fun q=>some (q,true)) z)=some (if DX n lo (l.drop i)=true then ((bits|||FJ (l.drop i):Nat):Int) else 0,DX n lo (l.drop i))
 |d,0,i,bits,lo,h,hm,_,_,_=>by omega
 |0,m+1,i,bits,lo,h,hm,hb,_,_=>by
  rw[B4.eq_2,cf (df (by omega)),List.drop_eq_nil_of_le (by omega),DX,if_pos rfl,FJ,Nat.or_zero];rfl
 |d+1,m+1,i,bits,lo,h,hm,hb,h0,h1=>by
  have hi:i<l.length:=by omega
  rw[B4.eq_2,ct (dt (by omega)),B5 hi,Br (by omega) (by omega),bd (Hs ..),List.drop_eq_getElem_cons hi,DX];have o:0≤lo:=by
   rcases Nat.eq_zero_or_pos i with e|e
   ·rw[h0 e];omega
   ·exact(h1 e).2.2
  cases hr:DK l[i] 0 (n-1) with
  |false=>
   have:DK l[i] lo (n-1)=false:=by rw[JS] at hr⊢;omega
   rw[nf,this,Bool.false_and,if_neg (by simp)];rfl
  |true=>
   rw[Ei] at hr;obtain⟨x,a⟩:∃x:Nat,l[i]=(x:Int):=⟨l[i].toNat,by omega⟩;obtain⟨s1,s2,c,p,r,_⟩:=L4 x (by omega);have g:2^x<2^8:=Nat.pow_lt_pow_right (by omega) (by omega);have rest:∀(b:lo≤l[i]),(B4 K l n m ((bits|||2^x:Nat):Int) ((i+1:Nat):Int)).bind (fun z=>Sum.elim (fun q=>some (q.1,q.2)) (fun q=>some (q,true)) z)=
     some (if (DK l[i] lo (n-1)&&DX n (l[i]+1) (l.drop (i+1)))=true then ((bits|||FJ (l[i]::l.drop (i+1)):Nat):Int) else 0,DK l[i] lo (n-1)&&DX n (l[i]+1) (l.drop (i+1))):=fun b=>by
    rw[Ei.2 ⟨b,hr.2⟩,Bool.true_and,KQ n hn l hl d m (i+1) (bits|||2^x) (l[i]+1) (by omega) (by omega) (Nat.or_lt_two_pow hb g) (fun h=>by omega) (fun _=>⟨by omega,rfl,by omega⟩),FJ,a,Int.toNat_natCast,Nat.or_assoc]
   rw[nt]
   by_cases f:0<i
   ·obtain⟨j,s,_⟩:=h1 f;have k:(i:Int)-1=((i-1:Nat):Int):=by omega
    rw[ct (dt (by omega)),B5 hi,Br (by omega) (by omega),k,B5 j]
    by_cases hle:l[i]≤l[i-1]
    ·have:DK l[i] lo (n-1)=false:=by rw[JS];omega
     rw[ct (dt hle),this,Bool.false_and,if_neg (by simp)];rfl
    ·rw[cf (df hle),B5 hi,a,bd s1,bd s2,c,MC (by omega) (by omega),Br (by omega) (by omega),CP i,N4,←a];exact rest (by omega)
   ·rw[cf (df (by omega)),B5 hi,a,bd s1,bd s2,c,MC (by omega) (by omega),Br (by omega) (by omega),CP i,N4,←a];exact rest (by rw[h0 (by omega)];omega)
theorem NM{n:Int}(hn:0≤n∧n≤8){l:List Int}(hl:l.length≤900):DJ K l n=some (if DX n 0 l=true then ((FJ l:Nat):Int) else 0,DX n 0 l):=by
 have:=KQ hK n hn l hl l.length K 0 0 0 (by omega) (by omega) (by omega) (fun _=>rfl) (fun h=>by omega);rw[Int.natCast_zero,List.drop_zero,Nat.zero_or] at this;exact this
end
def C4 (f:Nat→Int):Nat→Int
 |0=>0
 |n+1=>C4 f n+f n
theorem H3{f g:Nat→Int}:∀(n:Nat),(∀k,k<n→f k=g k)→C4 f n=C4 g n
 |0,_=>rfl
 |n+1,h=>by rw[C4,C4,H3 n fun k hk=>h k (by omega),h n (by omega)]
theorem Hu{f:Nat→Int}{b:Int}:∀(n:Nat),(∀k,k<n→0≤f k∧f k≤b)→0≤C4 f n∧C4 f n≤b*n
 |0,_=>by simp[C4]
 |n+1,h=>by
  have h1:=Hu n fun k hk=>h k (by omega);have h2:=h n (by omega);rw[C4,Int.natCast_add,Int.mul_add];simp;omega
def Ec(t:Ah)(BB:List Int)(l:List Int)(k:Nat):Int:=if BB.contains (k:Int)=true then (AB t l).getD k 0 else (t.Ab.getD k []).sum*t.Flat
def DW (t:Ah) (BB:List Int) (l:List Int):Int:=C4 (Ec t BB l) t.Ab.length
theorem NX{t:Ah}(a:OkT t)(l:List Int)(k:Nat):0≤(AB t l).getD k 0∧(AB t l).getD k 0≤9000:=by
 by_cases hk:k<(AB t l).length
 ·rw[Cl _ hk];exact a.RX l _ (List.getElem_mem hk)
 ·rw[List.getD_eq_getElem?_getD,List.getElem?_eq_none (by omega)];simp
theorem KN{t:Ah}(a:OkT t)(k:Nat)(hk:k<t.Ab.length):0≤(t.Ab.getD k []).sum*t.Flat∧(t.Ab.getD k []).sum*t.Flat≤9000:=by
 rw[Cl _ hk];have h1:=a.Hq _ (List.getElem_mem hk);have h2:=a.flat;have:=MM (by omega:0≤t.Ab[k].sum) h1.2.2.2 h2.1 h2.2;omega
theorem Kd{t:Ah}(a:OkT t)(BB l:List Int)(k:Nat)(hk:k<t.Ab.length):0≤Ec t BB l k∧Ec t BB l k≤9000:=by
 unfold Ec;split
 ·exact NX a l k
 ·exact KN a k hk
theorem Qe{t:Ah}(a:OkT t)(BB l:List Int):0≤DW t BB l∧DW t BB l≤27000:=by
 have h1:=Hu (f:=Ec t BB l) (b:=9000) t.Ab.length fun k hk=>Kd a BB l k hk;have h2:=a.kl;unfold DW;omega
theorem Gk{t:Ah}(a:OkT t){l l':List Int}(h:Bq t l=Bq t l'):AB t l=AB t l':=MP a.kl h
theorem FK{t:Ah}{out:List Int}{L:List (List Int)}{x:BA×BA}:x∈GF t out L↔∃l∈L,CK (AB t l) out 0 t.Ar=true∧x=(Bq t l,arr (AB t l)):=by
 unfold GF;simp only[List.mem_map,List.mem_filter];constructor
 ·rintro⟨l,⟨h1,h2⟩,rfl⟩;exact⟨l,h1,h2,rfl⟩
 ·rintro⟨l,h1,h2,rfl⟩;exact⟨l,⟨h1,h2⟩,rfl⟩
theorem D0{t:Ah}(a:OkT t){l:List Int}:l∈Bf t↔CL t l=true:=by
 unfold Bf CL;rw[List.mem_filter,Gd a.c,Bool.and_eq_true]
theorem L5 {t:Ah} (b:OkT t) {L:List (List Int)} (e:Tr t L) (g:BA→BA→Int) (f:List Int→Int) (i:∀l,CL t l=true→g (Bq t l) (arr (AB t l))=f l) {r:Bl} (h:Gi (GF t [] L) (fun x=>g x.1 x.2) r):Gi (Bf t) f r:=by
 refine h.map (fun x j=>?_) (fun l hl=>?_)
 ·obtain⟨l,h1,h2,rfl⟩:=FK.1 j;have a:CL t l=true:=by unfold CL;rw[e.P8 l h1,h2];rfl
  exact⟨l,(D0 b).2 a,(i l a).symm⟩
 ·have a:=(D0 b).1 hl;have c:=a;unfold CL at c;rw[Bool.and_eq_true] at c;obtain⟨l',h5,d⟩:=e.all l c.1;refine⟨(Bq t l',arr (AB t l')),FK.2 ⟨l',h5,by rw[Gk b d];exact c.2,rfl⟩,?_⟩;show g (Bq t l') (arr (AB t l'))=f l;rw[d,Gk b d];exact i l a
section
variable{K:Nat}(hK:1000≤K)
include hK
theorem Jc(cb:Unit→BA→Option (Int×Unit))(F:BA→Int):∀(X c:List (BA×BA)) (lo hi:Int),(∀x∈X,cb () x.2=some (F x.2,()))→Gi c (fun x=>F x.2) ⟨lo,hi⟩→
  ∃a b,run (fun(st:Int×Int×Bool×Unit) (x:BA×BA)=>B6 cb K st.1 st.2.1 st.2.2.1 st.2.2.2 x) X (lo,hi,false,())=some (true,(a,b,false,()))∧Gi (c++X) (fun x=>F x.2) ⟨a,b⟩
 |[],c,lo,hi,_,h=>⟨lo,hi,rfl,by rw[List.append_nil];exact h⟩
 |x::X,c,lo,hi,d,h=>by
  have h1:B6 cb K lo hi false () x=some (true,(min lo (F x.2),max hi (F x.2),false,())):=by
   unfold B6;rw[bd (d x (List.mem_cons_self ..)),cf rfl,bd (KK hK _ _)]
  obtain⟨a,b,g1,g2⟩:=Jc cb F X (c++[x]) _ _ (fun y e=>d y (List.mem_cons_of_mem _ e)) (h.snoc x);refine⟨a,b,?_,by rw[List.append_assoc] at g2;exact g2⟩;rw[run];show(B6 cb K lo hi false () x).bind _=_;rw[bd h1,ct rfl];exact g1
theorem KY{t:Ah}(d:OkT t){L:List (List Int)}(g:Tr t L){m:List (List Int×Int)}(hm:EC t m)(i:Bf t≠[])(cb:Unit→BA→Option (Int×Unit))(F:BA→Int)(f:List Int→Int)(o:∀l,CL t l=true→F (arr (AB t l))=f l)
  (j:∀l,CL t l=true→cb () (arr (AB t l))=some (F (arr (AB t l)),())):
  ∃h r,EC t h∧Gi (Bf t) f r∧Ey K cb (wk t (L.map (Bq t)) m) ()=some (r,h,()):=by
 have a:∀x∈GF t [] L,cb () x.2=some (F x.2,()):=fun x p=>by
  obtain⟨l,h1,h2,rfl⟩:=FK.1 p;exact j l (by unfold CL;rw[g.P8 l h1,h2];rfl)
 have hr:∃lo hi,run (fun(st:Int×Int×Bool×Unit) (x:BA×BA)=>B6 cb K st.1 st.2.1 st.2.2.1 st.2.2.2 x) (GF t [] L) (0,0,true,())=some (true,(lo,hi,false,()))∧Gi (GF t [] L) (fun x=>F x.2) ⟨lo,hi⟩:=by
  have c:GF t [] L≠[]:=by
   obtain⟨l,hl⟩:=List.exists_mem_of_ne_nil _ i;have b:=(D0 d).1 hl;unfold CL at b;rw[Bool.and_eq_true] at b;obtain⟨l',h5,q⟩:=g.all l b.1;have:(Bq t l',arr (AB t l'))∈GF t [] L:=FK.2 ⟨l',h5,by rw[Gk d q];exact b.2,rfl⟩;intro e;rw[e] at this;cases this
  generalize GF t [] L=X at a c;cases X with
  |nil=>exact absurd rfl c
  |cons x X=>
   have h1:B6 cb K 0 0 true () x=some (true,(F x.2,F x.2,false,())):=by
    unfold B6;rw[bd (a x (List.mem_cons_self ..)),ct rfl,bd (KK hK _ _)];show some (true,min (F x.2) (F x.2),max (F x.2) (F x.2),false,())=_;rw[Int.min_self,Int.max_self]
   obtain⟨k,n,g1,g2⟩:=Jc hK cb F X [x] _ _ (fun y s=>a y (List.mem_cons_of_mem _ s)) (Gi.one (fun x:BA×BA=>F x.2) x);refine⟨k,n,?_,g2⟩;rw[run];show(B6 cb K 0 0 true () x).bind _=_;rw[bd h1,ct rfl];exact g1
 obtain⟨lo,hi,h1,h2⟩:=hr;obtain⟨h,b,u⟩:=NF hK d (out:=[]) (by simp) _ g.len hm h1;refine⟨h,⟨lo,hi⟩,b,L5 d g (fun _ M=>F M) f o h2,?_⟩;unfold Ey;rw[bd u]
def EG (t:Ah) (BB:List Int):Int:=if DV t=0∧DX t.Ab.length 0 BB=false then 2 else BY t
omit hK in
theorem M3 {t:Ah} {BB:List Int} (h:EG t BB=0):BY t=0∧DX t.Ab.length 0 BB=true:=by
 unfold EG at h
 split at h
 ·omega
 ·rename_i hh
  refine⟨h,?_⟩
  cases hr:DX t.Ab.length 0 BB with
  |true=>rfl
  |false=>exact absurd ⟨(C5 (C8 h).1).1,hr⟩ hh
omit hK in
theorem KZ {t:Ah} {BB:List Int} (h:DX t.Ab.length 0 BB=true):EG t BB=BY t:=by unfold EG;rw[if_neg (by simp[h])]
theorem NJ{t:Ah}(c:OkT t)(a:List BA)(m:List (List Int×Int)){BB:List Int}(hs:BB.length≤900)(l:List Int):Dl K (arr (AB t l)) (wk t a m) BB=some (DW t BB l):=by
 have p:=c.kl;have u:((wk t a m).weights.length:Int)=t.Ab.length:=by show((List.map _ _).length:Int)=_;simp
 have e:∀(d n i:Nat),t.Ab.length=i+d→d<n→C1 K (arr (AB t l)) (wk t a m) BB n (C4 (Ec t BB l) i) (i:Int)=some (DW t BB l):=by
  intro d
  induction d with
  |zero=>
   intro n i r hn;obtain⟨n,rfl⟩:∃j,n=j+1:=⟨n-1,by omega⟩;obtain rfl:i=t.Ab.length:=by omega
   rw[C1.eq_2,cf (df (by omega))];rfl
  |succ d ih=>
   intro n i r hn;obtain⟨n,rfl⟩:∃j,n=j+1:=⟨n-1,by omega⟩;have hi:i<t.Ab.length:=by omega
   have g:i<(AB t l).length:=by rw[DC];omega
   have h:i<(wk t a m).weights.length:=by omega
   have s:(wk t a m).weights[i]'h=(t.Ab.getD i []).sum:=by rw[Cl _ hi];simp[wk]
   have b1:=Hu (f:=Ec t BB l) (b:=9000) i fun k hk=>Kd c BB l k (by omega);have b2:=Kd c BB l i hi;have b3:=KN c i hi;have:=ih n (i+1) (by omega) (by omega);rw[C4] at this;rw[C1.eq_2,ct (dt (by omega)),B5 h,bd (KH hK BB _ hs),s];show cond _ _ ((i64 ((t.Ab.getD i []).sum*t.Flat)).bind fun _=>(i64 (C4 (Ec t BB l) i+(t.Ab.getD i []).sum*t.Flat)).bind fun _=>(i64 ((i:Int)+1)).bind fun _=>C1 K (arr (AB t l)) (wk t a m) BB n (C4 (Ec t BB l) i+(t.Ab.getD i []).sum*t.Flat) ((i:Int)+1))=_;cases q:BB.contains (i:Int) with
   |true=>
    have o:Ec t BB l i=(AB t l)[i]:=by unfold Ec;rw[if_pos q,Cl _ g]
    rw[o] at this b2;rw[ct rfl,bd (HN (by rw[DC];exact p) g),Br (by omega) (by omega),Br (by omega) (by omega),CP i,this]
   |false=>
    have o:Ec t BB l i=(t.Ab.getD i []).sum*t.Flat:=by unfold Ec;rw[if_neg (by rw[q];decide)]
    rw[o] at this b2;rw[cf rfl,Br (by omega) (by omega),Br (by omega) (by omega),Br (by omega) (by omega),CP i,this]
 have:=e t.Ab.length K 0 (by omega) (by omega);rw[Int.natCast_zero,C4] at this;unfold Dl;rw[bd this]
theorem MF{t:Ah}(c:OkT t){L:List (List Int)}(g:Tr t L){m:List (List Int×Int)}(hm:EC t m)(d:Bf t≠[]){BB:List Int}(hs:BB.length≤900):∃a r,EC t a∧Gi (Bf t) (DW t BB) r∧D5 K (wk t (L.map (Bq t)) m) BB=some (r,a):=by
 
 have key:∃F:BA→Int,∀l,CL t l=true→F (arr (AB t l))=DW t BB l:=⟨fun x=>C4 (fun k=>if BB.contains (k:Int)=true then ([x.a0,x.a1,x.a2]:List Int).getD k 0 else (t.Ab.getD k []).sum*t.Flat) t.Ab.length,fun l _=>by
  have e:=c.kl;refine H3 _ fun k hk=>?_;unfold Ec;have b:k<(AB t l).length:=by rw[DC];exact hk
  have h1:=HN (by rw[DC];exact e) b;rw[idx_eq (by simp;omega)] at h1;rw[Cl _ b,←Option.some.inj h1,Cl _ (by simp;omega)]⟩
 obtain⟨F,f⟩:=key;obtain⟨a,r,h1,h2,h⟩:=KY hK c g hm d (fun(st:Unit) (x:BA)=>(Dl K x (wk t (L.map (Bq t)) m) BB).bind fun r=>some (r,())) F (DW t BB) f (fun l hl=>by
  show(Dl K (arr (AB t l)) (wk t (L.map (Bq t)) m) BB).bind _=_;rw[bd (NJ hK c _ m hs l),f l hl])
 refine⟨a,r,h1,h2,?_⟩;unfold D5;rw[bd h]
theorem NY{t:Ah}(h:Eh t=true){BB:List Int}(hs:BB.length≤900):∃r,F7 K t BB=some (r,EG t BB)∧(EG t BB≠0→r=⟨0,0⟩)∧(EG t BB=0→Gi (Bf t) (DW t BB) r):=by
 have hlen:=Gn h;have j:t.Ab.length≤100:=hlen.1.2.1;unfold F7;rw[bd (Nr hK (by omega) hs)];rcases H8 hK h (DX t.Ab.length 0 BB) with⟨h0,hr,L,m,c,hm,e⟩|⟨h0,e⟩
 ·have d:=Eo h (C5 (C8 h0).1).1;obtain⟨k,r,_,h2,f⟩:=MF hK d c hm (C8 h0).2 hs;have b:EG t BB=0:=by rw[KZ hr,h0]
  refine⟨r,?_,fun g=>absurd b g,fun _=>h2⟩;rw[bd e];rw[b];show(D5 K (wk t (L.map (Bq t)) m) BB).bind _=_;rw[bd f]
 ·have a:EG t BB≠0:=fun g=>h0 (M3 g);refine⟨⟨0,0⟩,?_,fun _=>rfl,fun g=>absurd g a⟩;have i:Cw K t (DX t.Ab.length 0 BB)=some (none,EG t BB):=e;rw[bd i];show cond (_ !=0) _ _=_;rw[ct (FX a)]
theorem PC{t:Ah}(h:Eh t=true){BB:List Int}(hs:BB.length≤900)(n:Int):∃b,Gl K t BB n=some b∧(EG t BB≠0→b=false)∧∀r,EG t BB=0→Gi (Bf t) (DW t BB) r→b=decide (n≤r.Lo):=by
 obtain⟨r,h1,h2,a⟩:=NY hK h hs;unfold Gl;rw[bd h1]
 by_cases h0:EG t BB=0
 ·refine⟨decide (n≤r.Lo),by rw[ct (F9 h0)],fun g=>absurd h0 g,fun c _ hr=>by rw[hr.uniq (a h0)]⟩
 ·exact⟨false,by rw[cf (IU h0)],fun _=>rfl,fun _ g=>absurd g h0⟩
end
def Tf {α:Type} (S:List α) (f:α→Int):Int:=S.foldl (fun m l=>min m (f l)) 1099511627776
theorem Oq{α:Type}(f:α→Int):∀(S:List α) (m:Int),S.foldl (fun m l=>min m (f l)) m≤m∧(∀l∈S,S.foldl (fun m l=>min m (f l)) m≤f l)∧(S.foldl (fun m l=>min m (f l)) m=m∨∃l∈S,S.foldl (fun m l=>min m (f l)) m=f l)
 |[],m=>⟨Int.le_refl _,fun l h=>(nomatch h),.inl rfl⟩
 |x::S,m=>by
  obtain⟨h1,h2,a⟩:=Oq f S (min m (f x));rw[List.foldl_cons];refine⟨by omega,fun l hl=>?_,?_⟩
  ·rcases List.mem_cons.1 hl with rfl|hl
   ·omega
   ·exact h2 l hl
  ·rcases a with a|⟨l,hl,a⟩
   ·by_cases hh:m≤f x
    ·exact .inl (by rw[a];omega)
    ·exact .inr ⟨x,List.mem_cons_self ..,by rw[a];omega⟩
   ·exact .inr ⟨l,List.mem_cons_of_mem _ hl,a⟩
theorem Gi.Tf{α:Type}{S:List α}{f:α→Int}{r:Bl}(h:Gi S f r)(hb:∀l∈S,f l≤1000000):Tf S f=r.Lo:=by
 obtain⟨h1,h2,b⟩:=Oq f S 1099511627776;obtain⟨a,ha,ea⟩:=h.lo;unfold Go.Proofs.YtbhofkcbfblijaaGreat.Tf;have c:=h2 a ha;have h5:=hb a ha;rcases b with b|⟨l,hl,b⟩
 ·omega
 ·have:=(h.all l hl).1;omega
def EH (t:Ah) (BB:List Int):Int:=Tf (Bf t) (DW t BB)
theorem NL{t:Ah}(a:OkT t){BB:List Int}{r:Bl}(h:Gi (Bf t) (DW t BB) r):r.Lo=EH t BB:=(h.Tf fun l _=>by have:=Qe a BB l;omega).symm
def pre (n:Nat):Nat→List Int→Nat→List (List Int)
 |0,l,_=>[l]
 |d+1,l,a=>l::(List.range' a (n-a)).flatMap fun t:Nat=>pre n d (l++[(t:Int)]) (t+1)
theorem Se:∀n:Nat,n<4→(pre n n [] 0).Pairwise fun a b=>lexB a b=true:=by decide+kernel
theorem Yd:∀n:Nat,n<4→∀s:Nat,s<2^n→BE s∈pre n n [] 0:=by decide+kernel
theorem Ye:∀n:Nat,n<4→∀l∈pre n n [] 0,∃s:Nat,s<2^n∧BE s=l:=by decide+kernel
theorem Up(n:Nat):∃B,pre n n [] 0=[]::B:=by cases n<;>exact⟨_,rfl⟩
def KP(W:List Int→Int)(q:Int×List Int)(l:List Int):Int×List Int:=if q.1<W l then (W l,l) else q
theorem Sf(W:List Int→Int):∀(B A:List (List Int)) (s:List Int),(A++B).Pairwise (fun a b=>lexB a b=true)→s∈A→(∀x∈A,W x<W s∨(W x=W s∧lexB x s=false))→
  ∃d,B.foldl (KP W) (W s,s)=(W d,d)∧d∈A++B∧∀x∈A++B,W x<W d∨(W x=W d∧lexB x d=false)
 |[],A,s,_,hs,h=>⟨s,rfl,by simpa using hs,by simpa using h⟩
 |y::B,A,s,f,hs,h=>by
  have g:=List.pairwise_append.1 f;rw[List.foldl_cons];have e:A++y::B=(A++[y])++B:=by simp
  rw[e] at f⊢;unfold KP
  by_cases i:W s<W y
  ·rw[if_pos i];refine Sf W B (A++[y]) y f (by simp) fun x c=>?_;rcases List.mem_append.1 c with c|c
   ·rcases h x c with h|h
    ·exact .inl (by omega)
    ·exact .inl (by omega)
   ·rw[List.mem_singleton.1 c];exact .inr ⟨rfl,Hc y⟩
  ·rw[if_neg i];refine Sf W B (A++[y]) s f (by simp[hs]) fun x c=>?_;rcases List.mem_append.1 c with c|c
   ·exact h x c
   ·rw[List.mem_singleton.1 c]
    by_cases e:W y=W s
    ·exact .inr ⟨e,Nw _ _ (g.2.2 s hs y (List.mem_cons_self ..))⟩
    ·exact .inl (by omega)
theorem Tg(W:List Int→Int){n:Nat}(hn:n<4):∃s,(pre n n [] 0).foldl (KP W) (W [],[])=(W s,s)∧NR W n s:=by
 obtain⟨B,a⟩:=Up n;have h1:=Se n hn;rw[a] at h1;obtain⟨s,g1,g2,g3⟩:=Sf W B [[]] [] h1 (by simp) (by simp[Hc]);refine⟨s,?_,Ye n hn s (by rw[a];exact g2),fun x b=>g3 _ (by rw[←List.singleton_append] at a;rw[←a];exact Yd n hn x b)⟩;rw[a,List.foldl_cons];unfold KP at g1⊢;rw[if_neg (by simp)];exact g1
section
variable{K:Nat}(hK:1000≤K)
include hK
omit hK in
theorem Sg:IF=Ed:=by
 funext r l w m
 induction m with
 |zero=>rfl
 |succ m ih=>funext i q s mm;rw[IF.eq_2,Ed.eq_2,ih]
theorem RH{t:Ah}(n:OkT t)(b:List BA)(g:List (List Int×Int))(W:List Int→Int)(e:Nat)(l:List Int)(hl:l.length≤100)(j:Nat)(a:(List Int)→Int→CZ→Int→(List Int)→Option ((List (List Int×Int))×Int×(List Int)))
  (ih:∀(i:Nat) (q:Int×List Int) (m:List (List Int×Int)),j≤i→i<t.Ab.length→EC t m→∃c,EC t c∧a (l++[(i:Int)]) ((i+1:Nat):Int) (wk t b m) q.1 q.2=some (c,(pre t.Ab.length e (l++[(i:Int)]) (i+1)).foldl (KP W) q)):
  ∀(d k i:Nat) (q:Int×List Int) (m:List (List Int×Int)),d=t.Ab.length-i→d<k→j≤i→i≤t.Ab.length→EC t m→∃c,EC t c∧∃f,f=((List.range' i d).flatMap fun i:Nat=>pre t.Ab.length e (l++[(i:Int)]) (i+1)).foldl (KP W) q∧
   Ed a l (wk t b g) k (i:Int) q.1 q.2 m=some (f.1,f.2,c)
 |d,0,i,q,m,_,h,_,_,_=>by omega
 |0,k+1,i,q,m,h,hk,o,hi,hm=>by
  have s:((wk t b g).weights.length:Int)=t.Ab.length:=by show((List.map _ _).length:Int)=_;simp
  exact⟨m,hm,q,rfl,by rw[Ed.eq_2,cf (df (by omega))]⟩
 |d+1,k+1,i,q,m,h,hk,o,hi,hm=>by
  have w:=n.kl;have s:((wk t b g).weights.length:Int)=t.Ab.length:=by show((List.map _ _).length:Int)=_;simp
  obtain⟨u,p,g1⟩:=ih i q m o (by omega) hm;obtain⟨v,r,f,hq,g2⟩:=RH n b g W e l hl j a ih d k (i+1) ((pre t.Ab.length e (l++[(i:Int)]) (i+1)).foldl (KP W) q) u (by omega) (by omega) (by omega) (by omega) p;refine⟨v,r,f,by rw[hq,List.range'_succ,List.flatMap_cons,List.foldl_append],?_⟩;rw[Ed.eq_2,ct (dt (by omega)),DG (by omega),DG (by simp;omega),Br (by omega) (by omega),CP i];show(a (l++[(i:Int)]) ((i+1:Nat):Int) (wk t b m) q.1 q.2).bind _=_;rw[bd g1,Br (by omega) (by omega)];exact g2
theorem Th{t:Ah}(d:OkT t){L:List (List Int)}(u:Tr t L)(o:Bf t≠[]):∀(e k a:Nat) (l:List Int) (q:Int×List Int) (m:List (List Int×Int)),e<k→t.Ab.length≤a+e→a≤t.Ab.length→l.length≤a→EC t m→
  ∃b,EC t b∧EV K k l (a:Int) (wk t (L.map (Bq t)) m) q.1 q.2=some (b,(pre t.Ab.length e l a).foldl (KP (EH t)) q)
 |e,0,a,l,q,m,h,_,_,_,_=>by omega
 |e,k+1,a,l,q,m,h,aB,v,hl,hm=>by
  have z:=d.kl;obtain⟨f,r,p,hr,g1⟩:=MF hK d u hm o (BB:=l) (by omega);have y:=NL d hr
  
  have c:∀q:Int×List Int,∃b,EC t b∧∃g,g=(pre t.Ab.length e l a).tail.foldl (KP (EH t)) q∧Ed (EV K k) l (wk t (L.map (Bq t)) m) K (a:Int) q.1 q.2 f=some (g.1,g.2,b):=fun q=>by
   cases e with
   |zero=>
    obtain⟨w,rfl⟩:∃w,K=w+1:=⟨K-1,by omega⟩;have aC:((wk t (L.map (Bq t)) m).weights.length:Int)=t.Ab.length:=by show((List.map _ _).length:Int)=_;simp
    exact⟨f,p,q,rfl,by rw[Ed.eq_2,cf (df (by omega))]⟩
   |succ e=>
    exact RH hK d (L.map (Bq t)) m (EH t) e l (by omega) a (EV K k) (fun i q m aA hi hm=>Th d u o e k (i+1) (l++[(i:Int)]) q m (by omega) (by omega) (by omega) (by simp;omega) hm) (t.Ab.length-a) K a q f rfl (by omega) (Nat.le_refl _) v p
  have x:pre t.Ab.length e l a=l::(pre t.Ab.length e l a).tail:=by cases e<;>rfl
  rw[EV.eq_2,bd g1];show∃b,EC t b∧cond (decide (q.1<r.Lo)) _ _=_;rw[y]
  by_cases hq:q.1<EH t l
  ·obtain⟨s,j,g,n,g2⟩:=c (EH t l,l);refine⟨s,j,?_⟩;rw[ct (dt hq),DG (by omega)];show(Ed (EV K k) l (wk t (L.map (Bq t)) m) K (a:Int) (EH t l) l f).bind _=_;rw[bd g2,x,List.foldl_cons,n];unfold KP;rw[if_pos hq]
  ·obtain⟨s,j,g,n,g2⟩:=c q;refine⟨s,j,?_⟩;rw[cf (df hq),Sg];show(Ed (EV K k) l (wk t (L.map (Bq t)) m) K (a:Int) q.1 q.2 f).bind _=_;rw[bd g2,x,List.foldl_cons,n];unfold KP;rw[if_neg hq]
theorem Yf{t:Ah}(h:Eh t=true):∃s n,J1 K t=some (s,n,BY t)∧(BY t≠0→s=[]∧n=0)∧(BY t=0→NR (EH t) t.Ab.length s∧n=EH t s):=by
 unfold J1;rcases H8 hK h true with⟨h0,_,L,m,c,hm,e⟩|⟨h0,e⟩
 ·have b:=Eo h (C5 (C8 h0).1).1;have i:=b.kl;have a:=(C8 h0).2;obtain⟨d,r,f,hr,g1⟩:=MF hK b c hm a (BB:=[]) (by simp);obtain⟨j,_,g2⟩:=Th hK b c a t.Ab.length K 0 [] (EH t [],[]) d (by omega) (by omega) (by omega) (by simp) f;obtain⟨s,hs,hb⟩:=Tg (EH t) (n:=t.Ab.length) (by omega);refine⟨s,EH t s,?_,fun g=>absurd h0 g,fun _=>⟨hb,rfl⟩⟩;rw[bd e,h0];show(D5 K (wk t (L.map (Bq t)) m) []).bind _=_;rw[bd g1];show(EV K K [] 0 (wk t (L.map (Bq t)) d) r.Lo []).bind _=_;rw[NL b hr];rw[Int.natCast_zero] at g2;rw[bd g2,hs]
 ·have a:BY t≠0:=fun g=>h0 ⟨g,rfl⟩;refine⟨[],0,?_,fun _=>⟨rfl,rfl⟩,fun g=>absurd g a⟩;rw[if_neg (by simp)] at e;rw[bd e];show cond (_ !=0) _ _=_;rw[ct (FX a)]
theorem Iz{t:Ah}(a:OkT t):(Bf t).length≤150:=Nat.le_trans (List.length_filter_le _ _) (FG a.c)
theorem Je{t:Ah}(a:OkT t){l:List Int}(h:l∈Bf t):Eu t.Ag l=true:=by
 have h1:=(D0 a).1 h;unfold CL at h1;rw[Bool.and_eq_true] at h1;exact Jr h1.1
theorem PR{t:Ah}(a:OkT t){l:List Int}(hl:Eu t.Ag l=true){s:Nat}(hs:s<2^8):DD K t l (s:Int)=some (DW t (BE s) l):=by
 have p:=a.kl;have c:∀(d n i:Nat),t.Ab.length=i+d→d<n→Cv K t l (s:Int) n (C4 (Ec t (BE s) l) i) (i:Int)=some (DW t (BE s) l):=by
  intro d
  induction d with
  |zero=>
   intro n i o hn;obtain⟨n,rfl⟩:∃g,n=g+1:=⟨n-1,by omega⟩;obtain rfl:i=t.Ab.length:=by omega
   rw[Cv.eq_2,cf (df (by omega))];rfl
  |succ d ih=>
   intro n i o hn;obtain⟨n,rfl⟩:∃g,n=g+1:=⟨n-1,by omega⟩;have hi:i<t.Ab.length:=by omega
   have j:i<(AB t l).length:=by rw[DC];omega
   have b1:=Hu (f:=Ec t (BE s) l) (b:=9000) i fun k hk=>Kd a (BE s) l k (by omega);have b2:=Kd a (BE s) l i hi;have b3:=KN a i hi;have:=ih n (i+1) (by omega) (by omega);rw[C4] at this;have e:((((s/2^i:Nat):Int)%2)==1)=(BE s).contains (i:Int):=by
    rw[KM (by omega),←tb,Bool.eq_iff_iff,beq_iff_eq,beq_iff_eq];omega
   have hq:(0:Int)≤((s/2^i:Nat):Int):=Int.natCast_nonneg _;rw[Cv.eq_2,ct (dt (by omega)),MS (by omega),KL (by omega),Iv,LF hq (by omega),e];cases m:(BE s).contains (i:Int) with
   |true=>
    have h:Ec t (BE s) l i=(AB t l)[i]:=by unfold Ec;rw[if_pos m,Cl _ j]
    rw[h] at this b2;rw[ct rfl,bd (Ld hK a hl hi),Br (by omega) (by omega),Br (by omega) (by omega),CP i,this]
   |false=>
    have h:Ec t (BE s) l i=t.Flat*t.Ab[i].sum:=by unfold Ec;rw[if_neg (by rw[m];decide),Cl _ hi,Int.mul_comm]
    rw[h] at this b2;rw[cf rfl,bd (MW hK a hi),Br (by omega) (by omega),Br (by omega) (by omega),Br (by omega) (by omega),CP i,this]
 have:=c t.Ab.length K 0 (by omega) (by omega);rw[Int.natCast_zero,C4] at this;unfold DD;rw[bd this]
end
section
variable{K:Nat}(hK:1000≤K)
include hK
theorem S8{t:Ah}(b:OkT t){s:Nat}(hs:s<256):Em K t (s:Int)=some (BE (s&&&(2^t.Ab.length-1))):=by
 have f:=b.kl;obtain⟨s1,s2,c,g,h,_⟩:=L4 t.Ab.length (by omega);have e:((2^t.Ab.length:Nat):Int)-1=((2^t.Ab.length-1:Nat):Int):=by omega
 have d:EI .i64 (s:Int)=some ():=by
  have:∀x:Nat,x<256→EI .i64 (x:Int)=some ():=by decide+kernel
  exact this s hs
 have a:s&&&(2^t.Ab.length-1)<2^8:=Nat.lt_of_le_of_lt Nat.and_le_left (by omega);unfold Em;rw[bd d,bd s1,bd s2,c,e,Br (by omega) (by omega),MC (by omega) (by omega),Uj,bd (Nq hK a)]
end
theorem RG(s n:Nat):s&&&(2^n-1)<2^n:=by
 have:=Nat.two_pow_pos n;exact Nat.lt_of_le_of_lt Nat.and_le_right (by omega)
def EF(t:Ah)(o:CH):Int:=(t.AJ.getD o.Dh.toNat ⟨0,0⟩).BN
def Hd (t:Ah) (o:CH) (k:Nat):Bool:=decide (o.Df≤(t.Ab.getD k []).sum)&&(Bf t).all fun l=>decide (EF t o≤DZ l (t.Ab.getD k []))
def GB(t:Ah)(o:CH):List Int:=((List.range t.Ab.length).filter (Hd t o)).map fun k:Nat=>(k:Int)
def DA(t:Ah):List (List Int):=t.Aw.map (GB t)
def Dz:List (List Int)→List Int→List Int→Bool
 |[],_,[]=>true
 |s::S,out,x::xs=>s.contains x&&(!out.contains x&&Dz S (out++[x]) xs)
 |_,_,_=>false
structure Hl (t:Ah) (d:List Int):Prop where
 is:Dz (DA t) [] d=true
 first:∀d',Dz (DA t) [] d'=true→lexB d' d=false
theorem Hl.uniq{t:Ah}{d d':List Int}(h:Hl t d)(g:Hl t d'):d=d':=MX _ _ (g.first d h.is) (h.first d' g.is)
section
variable{K:Nat}(hK:1000≤K)
include hK
end
def G9 (t:Ah) (out:List Int):Bool:=(BR t.C).any fun l=>CK (AB t l) out 0 t.Ar
def Dp(t:Ah)(ns:List Cu):Ah:=⟨t.Ag,t.Ab,t.Ak,t.Flat,t.AJ,t.Aw,ns⟩
def Gv (t:Ah) (k:Nat):Bool:=G9 (Dp t (t.Ar.take k)) []
theorem He(M:List Int)(ns:List Cu):CK M [] 0 ns=true↔∀n∈ns,EB M n=true:=by
 rw[HU];constructor
 ·intro h n hn;obtain⟨j,hj,rfl⟩:=List.getElem_of_mem hn;rcases h j hj with h1|h1
  ·simp at h1
  ·exact h1
 ·intro h j hj;exact .inr (h _ (List.getElem_mem hj))
theorem Hy{t:Ah}{j k:Nat}(h:j≤k)(hk:Gv t k=true):Gv t j=true:=by
 unfold Gv G9 at hk⊢;rw[List.any_eq_true] at hk⊢;obtain⟨l,hl,hr⟩:=hk;refine⟨l,hl,?_⟩;have a:AB (Dp t (t.Ar.take k)) l=AB t l:=rfl;have b:AB (Dp t (t.Ar.take j)) l=AB t l:=rfl;have c:(Dp t (t.Ar.take k)).Ar=t.Ar.take k:=rfl;have d:(Dp t (t.Ar.take j)).Ar=t.Ar.take j:=rfl;rw[a,c,He] at hr;rw[b,d,He];exact fun n hn=>hr n (List.take_subset_take_left _ h hn)
structure G5 (t:Ah) (i:Nat):Prop where
 lt:i<t.Ar.length
 before:Gv t i=true
 not:Gv t (i+1)=false
theorem G5.uniq{t:Ah}{i j:Nat}(h:G5 t i)(g:G5 t j):i=j:=by
 rcases Nat.lt_trichotomy i j with h1|h1|h1
 ·have:=Hy (show i+1≤j by omega) g.before;rw[h.not] at this;cases this
 ·exact h1
 ·have:=Hy (show j+1≤i by omega) h.before;rw[g.not] at this;cases this
section
variable{K:Nat}(hK:1000≤K)
include hK
end
theorem X5{x:Int}(h0:-9223372036854775808≤x)(h1:x≤9223372036854775807):EI .i64 x=some ():=by
 unfold EI;have:IntKind.i64.wrap x=x:=MU ⟨by omega,by omega⟩;rw[if_pos this]
theorem Rm{β:Type}{x:Int}{f:Unit→Option β}(h0:0≤x)(h1:x<65536):(EI .i64 x).bind f=f ():=bd (X5 (by omega) (by omega))
theorem RJ{t:Ah}(c:OkT t)(h0:BY t≠0):BY t=9∨BY t=11:=by
 have a:De t=0∨De t=11:=by
  unfold De
  by_cases b:BR t.C=[]
  ·right;rw[if_neg (show¬DV t≠0 by simp[c.fault]),if_pos b]
  ·left;rw[if_neg (show¬DV t≠0 by simp[c.fault]),if_neg b]
 unfold BY at h0⊢;rcases a with a|a
 ·rw[a] at h0⊢
  by_cases b:Bf t=[]
  ·left;rw[if_neg (show¬(0:Int)≠0 by simp),if_pos b]
  ·rw[if_neg (show¬(0:Int)≠0 by simp),if_neg b] at h0;exact absurd rfl h0
 ·right;rw[a,if_pos (by decide)]
section
variable{K:Nat}(hK:1000≤K)
include hK
theorem M4(t:Ah):(CY K t=some false)∨(Eh t=true∧OkT t∧CY K t=some true):=by
 rw[PQ hK t];cases h:Eh t with
 |false=>exact .inl rfl
 |true=>
  by_cases h0:DV t=0
  ·exact .inr ⟨rfl,Eo h h0,by rw[dt h0];rfl⟩
  ·exact .inl (by rw[df h0];rfl)
end
end Go.Proofs.YtbhofkcbfblijaaGreat
end
section
namespace Go.Proofs.YtbhofkcbfblijaaGreat
namespace HF
theorem Li(b o:Nat)(w:World):(Instr.fieldAt 44 (.pointer (some ⟨b,o,none⟩)) 0).run Tryz.prog w=.ok (.pointer (some ⟨b,o,none⟩)) w:=by kernel_rfl
theorem Lj(b o:Nat)(w:World):(Instr.fieldAt 44 (.pointer (some ⟨b,o,none⟩)) 1).run Tryz.prog w=.ok (.pointer (some ⟨b,o+1,none⟩)) w:=by kernel_rfl
theorem Jw:Bg Tryz.prog 31:=by unfold Bg;kernel_rfl
theorem GV(b:Nat)(w:World):(Instr.fieldAt 44 (.pointer (some ⟨b,2,none⟩)) 0).run Tryz.prog w=.ok (.pointer (some ⟨b,2,none⟩)) w:=by kernel_rfl
theorem GW(b:Nat)(w:World):(Instr.fieldAt 44 (.pointer (some ⟨b,2,none⟩)) 1).run Tryz.prog w=.ok (.pointer (some ⟨b,3,none⟩)) w:=by kernel_rfl
theorem Mw:Bg Tryz.prog 77:=by unfold Bg;kernel_rfl
theorem Lk:Bg Tryz.prog 146:=by unfold Bg;kernel_rfl
theorem Ll:Bg Tryz.prog 100:=by unfold Bg;kernel_rfl
theorem PA:Bg Tryz.prog 73:=by unfold Bg;kernel_rfl
theorem Lm:Bg Tryz.prog 114:=by unfold Bg;kernel_rfl
theorem LK:Bg Tryz.prog 61:=by unfold Bg;kernel_rfl
theorem Kw:Bg Tryz.prog 28:=by unfold Bg;kernel_rfl
theorem QY:Bg Tryz.prog 55:=by unfold Bg;kernel_rfl
theorem Ms:Bg Tryz.prog 63:=by unfold Bg;kernel_rfl
theorem Nv:Bg Tryz.prog 53:=by unfold Bg;kernel_rfl
theorem Rb:(Tryz.prog.underlying 27).isSome=true:=by kernel_rfl
theorem V5:(Tryz.prog.underlying 5).isSome=true:=by kernel_rfl
theorem J6:Bg Tryz.prog 51:=by unfold Bg;kernel_rfl
theorem Vm:Bg Tryz.prog 64:=by unfold Bg;kernel_rfl
theorem Q0:Bg Tryz.prog 52:=by unfold Bg;kernel_rfl
theorem QT:Bg Tryz.prog 48:=by unfold Bg;kernel_rfl
theorem Tc:Bg Tryz.prog 49:=by unfold Bg;kernel_rfl
end HF
end Go.Proofs.YtbhofkcbfblijaaGreat
end
section
namespace Go.Proofs.YtbhofkcbfblijaaGreat
open Go.RowKit Go.WideShapes
set_option maxRecDepth 20000
open HF
attribute [local irreducible] Dm WL CC CW LV B7 Ih GL One Bg
theorem a64 a3 q aL aM c d e f g h i j k m o p s t(Z:Nat→Prop) w(aO:Sl Az w Z c d q.Ag)(aP:Sl (Bs (Ao .i64)) w Z e f q.Ab)(aQ:Sl AH w Z g h q.Ak)(aR:Sl Ba w Z i j q.AJ)(aS:Sl Bc w Z k m q.Aw)(aT:Sl Bp w Z o p q.Ar)(aU:Sl (Ao .i64) w Z s t aL) a4(r:Gl a3 q aL aM=some a4):
 B7 Tryz.prog 64 #[.agg (Ai c d e f g h i j k m o p q).toArray,.slice s aL.length t,I aM] w (fun v w'=>Ext w w'∧Cm.R w' (zf Z w []) v a4):=by
 unfold Gl at r;refine rq (N:=23) Tryz.func64 fun bC ha bD=>?_;have aZ:=sA 0 ha;have a0:=sA 1 ha;have a2:=sA 2 ha;clear ha;have aV:Hp FN [] w [] w:=Hp.start (BL.none w);have ⟨x,y,z,aA,aB,aC,aD⟩:=Ea aO aP aQ aR aS aT aU (Bd (Z:=Z) (L:=[]) w);refine cr<|wE (fun st=>BP (v:=.agg (Ai c d e f g h i j k m o p q).toArray) (cs:=(Ai c d e f g h i j k m o p q).toArray) (ee st aZ) rfl) ?_;rintro _ w1 ⟨b1,rfl,u⟩;have a5:=aV.nb u;have bA:=aV.BU u;refine wA (v:=.bool false) rfl<|wr<|wD (fun st=>AK (l:=(Ai c d e f g h i j k m o p q)) FY (eR st) u.bk rfl rfl)<|wM (v:=.slice s aL.length t) a0 ?_;have ⟨aE,aF,aG,aH,aI,aJ,aK⟩:=Ea x y z aA aB aC aD (AA u);replace r:=bind_some r;obtain⟨b,a7,r⟩:=r;refine wE (fun st=>Aj QN (eR st) (CN (eR st) (eR st)) (XX a3 q aL c d e f g h i j k m o p s t ZA _ aE.all aF.all aG.all aH.all aI.all aJ.all aK.all b a7)) ?_;rintro _ bE ⟨a8,⟨_,_,rfl,⟨_,rfl,rfl⟩,rfl⟩⟩;have aW:=a5.ext a8;refine wM (v:=.tuple #[.agg #[I b.1.Lo,I b.1.Hi],I b.2]) rfl<|wD (fun st=>Bz (v:=.agg #[I b.1.Lo,I b.1.Hi]) (eR st) rfl)<|wD (fun st=>Bz (v:=I b.2) (eR st) rfl)<|wE (fun st=>CR (cs:= #[I 0,I 0]) LP rfl) ?_;rintro _ bF ⟨bG,rfl,aN⟩;have a9:=aW.nb aN;have bB:=aW.BU aN;refine Cs rfl rfl (fun st=>Ca (n:=2) (l:=[I b.1.Lo,I b.1.Hi]) (DO:= #[I b.1.Lo,I b.1.Hi]) (eR st) (eR st) IV aN.bk rfl rfl (show 0+2≤2 by decide) (BJ rfl) rfl) ?_;rintro _ bH aX;have aY:=a9.gr aX.gr 0 rfl;refine wA (v:=I b.2) rfl<|wr<|wM (v:=I b.2) rfl<|wD (fun st=>CT (eR st) (eR st))<|wM (v:=.bool (b.2==0)) rfl ?_;rcases Ae (b.2==0) with a|a
 ·replace r:=Ap r a;refine wG a (fun st=>Ad (eR st) (Ng _ _))<|wG a (fun st=>As (v:=I b.1.Lo) Bh (eR st) aX.bk rfl)<|wN a (v:=I aM) a2<|wG a (fun st=>J7 (eR st) (eR st))<|wD (fun st=>AW (v:=.bool (decide (aM≤b.1.Lo))) (eR st) a (eR st))<|wA (v:=.bool (decide (aM≤b.1.Lo))) rfl<|wn<|Av ?_;obtain rfl:=oi r;refine Ay rfl rfl ?_;exact⟨aY.AS,rfl⟩
 ·replace r:=Aq r a;refine wF a<|wF a<|wF a<|wF a<|wD (fun st=>Bo (v:=.bool false) (eR st) a (eR st))<|wA (v:=.bool false) rfl<|wn<|Av ?_;obtain rfl:=oi r;refine Ay rfl rfl ?_;exact⟨aY.AS,rfl⟩
theorem QW a0 e y c d m n o p i j(Z:Nat→Prop) w(a2:Sl Az w Z c d e.Ax)(a3:Sl (Bs (Ao .i64)) w Z m n e.Bv)(a4:Sl AH w Z o p e.AQ)(a5:Sl (Ao .i64) w Z i j y) bN(a:Ck a0 e y=some bN):
 B7 Tryz.prog 77 #[.agg (AE c d m n o p e).toArray,.slice i y.length j] w (fun v w'=>Ext w w'∧Cm.R w' (zf Z w []) v bN):=by
 unfold Ck at a;refine rq (N:=43) Tryz.func77 fun cP ha cQ=>?_;have bB:=sA 0 ha;have bC:=sA 1 ha;clear ha;have a9:Hp FN [] w [] w:=Hp.start (BL.none w);have ⟨aH,aI,aJ,aK⟩:=Et a2 a3 a4 a5 (Bd (Z:=Z) (L:=[]) w);refine cr<|wE (fun st=>BP (v:=.agg (AE c d m n o p e).toArray) (cs:=(AE c d m n o p e).toArray) (ee st bB) rfl) ?_;rintro _ w1 ⟨b1,rfl,aG⟩;have bO:=a9.nb aG;have cL:=a9.BU aG;refine wA (v:=.bool false) rfl<|wn<|Af<|cr<|wA (v:=I 0) rfl<|wn<|AI ?_;replace a:=bind_some a;obtain⟨z2,aB,a⟩:=a;refine BX (fun bD s z=>(bD=.ret∧∃aC,z2=.inl aC∧Fo X0 43 s∧sl s 4=.bool aC∧Hp FN [] w [some b1] z)∨(bD=.exit 0∧∃aC,z2=.inr aC∧Fo X0 43 s∧sl s 1=.slice i y.length j∧sl s 2=pt b1 0∧Hp FN [] w [some b1] z∧Bk z b1 26 (AE c d m n o p e).toArray∧Sl Az z (zf Z w [some b1]) c d e.Ax∧Sl (Bs (Ao .i64)) z (zf Z w [some b1]) m n e.Bv∧Sl AH z (zf Z w [some b1]) o p e.AQ∧Sl (Ao .i64) z (zf Z w [some b1]) i j y)) ?bP ?bQ
 case bP=>
  clear a;refine BW (fun bE s z=>∃b,Bm a0 e y bE b=some z2∧Fo X0 43 s∧sl s 1=.slice i y.length j∧sl s 2=pt b1 0∧sl s 5=I b∧Hp FN [] w [some b1] z∧Bk z b1 26 (AE c d m n o p e).toArray∧Sl Az z (zf Z w [some b1]) c d e.Ax∧Sl (Bs (Ao .i64)) z (zf Z w [some b1]) m n e.Bv∧Sl AH z (zf Z w [some b1]) o p e.AQ∧Sl (Ao .i64) z (zf Z w [some b1]) i j y) a0 ?bR ?bS
  case bR=>
   intro st;have ⟨aL,aM,aN,aO⟩:=Et aH aI aJ aK (AA aG);exact⟨(0:Int),aB,qo st,sp st 1 bC,sp st 2 rfl,sp st 5 rfl,bO,aG.bk,aL,aM,aN,aO⟩
  case bS=>
   rintro(_|bE) cR cS ⟨b,aB,bF,aA,q,r,aT,h,f,t,u,l⟩
   ·exact absurd (show none=some _ from aB) (by simp)
   rw[Bm.eq_2] at aB;have a:=aB;clear aB;refine ro bF<|Af<|cr<|wM (v:=I b) r<|wM (v:=.slice i y.length j) aA<|wD (fun st=>Be Tryz.underlying31 (eR st))<|wD (fun st=>B9 (eR st) (eR st))<|wM (v:=.bool (decide (b<(y.length:Int)))) rfl ?_;rcases Ae (decide (b<(y.length:Int))) with g|g
   ·replace a:=Ap a g;refine wN g (v:=I b) r<|wG g (fun st=>Ad (ee st q) (Ej _ _))<|wG g (fun st=>As (v:=.slice c e.Ax.length d) EJ (eR st) h rfl)<|wG g (fun st=>Be Tryz.underlying22 (eR st))<|wG g (fun st=>B9 (eR st) (eR st))<|wD (fun st=>AW (v:=.bool (decide (b<(e.Ax.length:Int)))) (eR st) g (eR st))<|wn ?_;rcases Ae (decide (b<(e.Ax.length:Int))) with aE|aE
    ·replace a:=Ap a aE;refine Am rfl aE<|cn<|Af<|AI<|Af ?_;replace a:=AP a;obtain⟨i6,bT,bU,bV,bW,a⟩:=a;obtain⟨cM,cN,_,bX,rfl,bY⟩:=Sl.Cz l rfl bV;replace a:=AP a;obtain⟨i7,bZ,b4,b5,b6,a⟩:=a;obtain⟨b7,b8,_,b9,rfl,cA⟩:=Sl.elem f (by decide) b5;replace a:=AP a;obtain⟨i8,cB,cC,cD,cE,a⟩:=a;obtain⟨cF,cG,_,cH,rfl,cI⟩:=Sl.elem f (by decide) cD;refine BK 16 [Kc (.slice i y.length j),Kc (I b),Kc (pt cM (cN+i6)),Kc (I bT),Kc (pt b1 0),Kc (.slice c e.Ax.length d),Kc (I b),Kc (pt b7 (b8+i7*2)),Kc (pt b7 (b8+i7*2)),Kc (I bZ.Lo),Kc (pt b1 0),Kc (.slice c e.Ax.length d),Kc (I b),Kc (pt cF (cG+i8*2)),Kc (pt cF (cG+i8*2+1)),Kc (I cB.Hi)] mixed rfl rfl
         (Aa (oD (fun K=>Au (es ((K.out 1 rfl).trans aA))))
         (Aa (oD (fun K=>Au (es ((K.out 5 rfl).trans r))))
         (Aa (oD (fun K=>AR (k:=i6) Tryz.underlying31 C7 (es (K.dq 0 19)) bX (es (K.dq 1 20)) bU bW))
         (Aa (oD (fun K=>Bb Bh (es (K.dq 2 21)) (bY.mv (Ac K.AD)) rfl))
         (Aa (oD (fun K=>Ad (es ((K.out 2 rfl).trans q)) (Ej _ _)))
         (Aa (oD (fun K=>As EJ (es (K.dq 4 23)) (h.ext K.AD) rfl))
         (Aa (oD (fun K=>Au (es ((K.out 5 rfl).trans r))))
         (Aa (oD (fun K=>BD (k:=i7) Tryz.underlying22 Gu (es (K.dq 5 24)) b9 (es (K.dq 6 25)) b4 b6))
         (Aa (oD (fun K=>Ad (es (K.dq 7 26)) (Li _ _ _)))
         (Aa (oD (fun K=>Bb Bh (es (K.dq 8 27)) (cA.mv (Ac K.AD)) rfl))
         (Aa (oD (fun K=>Ad (es ((K.out 2 rfl).trans q)) (Ej _ _)))
         (Aa (oD (fun K=>As EJ (es (K.dq 10 29)) (h.ext K.AD) rfl))
         (Aa (oD (fun K=>Au (es ((K.out 5 rfl).trans r))))
         (Aa (oD (fun K=>BD (k:=i8) Tryz.underlying22 Gu (es (K.dq 11 30)) cH (es (K.dq 12 31)) cC cE))
         (Aa (oD (fun K=>Ad (es (K.dq 13 32)) (Lj _ _ _)))
         (Aa (oD (fun K=>Fu Bh (es (K.dq 14 33)) (cI.mv (Ac K.AD)) rfl))
         (BI _))))))))))))))))) ?_
     intro cV;rintro _ rfl _ rfl _ rfl _ rfl _ rfl _ rfl _ rfl _ rfl _ rfl _ rfl _ rfl _ rfl _ rfl _ rfl _ rfl _ rfl aU;have cJ:=aT.ext aU;replace a:=bind_some a;obtain⟨a7,cK,a⟩:=a;refine wE (fun st=>Aj DR (eR st) (Dx (eR st) (eR st) (eR st)) (GZ a0 bT bZ.Lo cB.Hi ZA _ a7 cK)) ?_;rintro _ cT ⟨aV,rfl⟩;have bA:=cJ.ext aV;refine wD (fun st=>CJ (eR st))<|wn ?_;rcases Ae (!a7) with x|x
     ·replace a:=Ap a x;have bL:a7=false:=by simpa using x
      refine Am rfl x<|cr<|wA (v:=.bool false) rfl<|wn<|Av<|Dd<|AG ?_;obtain rfl:=oi a;refine BC (fun st=>?_);exact .inl ⟨rfl,false,rfl,qo st,sp st 4 rfl,bA⟩
     ·replace a:=Aq a x;have bM:a7=true:=by simpa using x
      refine An rfl x<|Ct<|CS<|Al<|wM (v:=I b) r ?_;replace a:=AF a;obtain⟨bG,a⟩:=a;refine wD (fun st=>BG (eR st) (eR st) bG)<|wA (v:=I (b+1)) rfl<|AU ?_;have a8:=((h.ext aU).ext aV);have ⟨aP,aQ,aR,aS⟩:=Et f t u l (mt (Ac aU) (Ac aV));refine Bi bE (Nat.lt_succ_self _) (fun st=>?_);exact⟨(b+1),a,qo st,sp st 1 aA,sp st 2 q,sp st 5 rfl,bA,a8,aP,aQ,aR,aS⟩
    ·replace a:=Aq a aE;refine An rfl aE<|Dq ?_;obtain rfl:=oi a;refine BC (fun st=>?_);exact .inr ⟨rfl,(),rfl,qo st,sp st 1 aA,sp st 2 q,aT,h,f,t,u,l⟩
   ·replace a:=Aq a g;refine wF g<|wF g<|wF g<|wF g<|wF g<|wD (fun st=>Bo (v:=.bool false) (eR st) g (eR st))<|wn<|An rfl rfl<|Dq ?_;obtain rfl:=oi a;refine BC (fun st=>?_);exact .inr ⟨rfl,(),rfl,qo st,sp st 1 aA,sp st 2 q,aT,h,f,t,u,l⟩
 case bQ=>
  rintro bD cO cU (⟨rfl,aC,rfl,aD,aW,aF⟩|⟨rfl,aC,rfl,aD,aX,aY,aF,aZ,bH,bI,bJ,bK⟩)
  ·skip
   replace a:=C9 a;refine lf aD<|Dd ?_;obtain rfl:=oi a;refine Ay rfl aW ?_;exact⟨aF.AS,rfl⟩
  ·skip
   replace a:=Da a;refine lf aD<|AZ<|BS<|cr<|wM (v:=.slice i y.length j) aX<|wD (fun st=>Be Tryz.underlying31 (eR st))<|wD (fun st=>Ad (ee st aY) (Ej _ _))<|wD (fun st=>As (v:=.slice c e.Ax.length d) EJ (eR st) aZ rfl)<|wD (fun st=>Be Tryz.underlying22 (eR st))<|wD (fun st=>CT (eR st) (eR st))<|wA (v:=.bool ((y.length:Int)==(e.Ax.length:Int))) rfl<|wn<|Av ?_;obtain rfl:=oi a;refine Ay rfl rfl ?_;exact⟨aF.AS,rfl⟩
theorem a31 aJ p i s j l e f m n b c(Z:Nat→Prop) w(z:Sl Az w Z j l p.Ax)(aA:Sl (Bs (Ao .i64)) w Z e f p.Bv)(aB:Sl AH w Z m n p.AQ)(aC:Sl (Ao .i64) w Z b c i) aK(a:Cj aJ p i s=some aK):
 B7 Tryz.prog 31 #[.agg (AE j l e f m n p).toArray,.slice b i.length c,I s] w (fun v w'=>Ext w w'∧(DT .i64).R w' (zf Z w []) v aK):=by
 unfold Cj at a;refine rq (N:=25) Tryz.func31 fun a4 ha a5=>?_;have aG:=sA 0 ha;have o:=sA 1 ha;have r:=sA 2 ha;clear ha;have aE:Hp FN [] w [] w:=Hp.start (BL.none w);have ⟨aH,t,aI,g⟩:=Et z aA aB aC (Bd (Z:=Z) (L:=[]) w);refine cr<|wE (fun st=>BP (v:=.agg (AE j l e f m n p).toArray) (cs:=(AE j l e f m n p).toArray) (ee st aG) rfl) ?_;rintro _ w1 ⟨b1,rfl,h⟩;have aF:=aE.nb h;have a3:=aE.BU h;refine wA (v:=I 0) rfl<|wn<|Af<|cr<|wM (v:=I s) r<|wM (v:=.slice b i.length c) o<|wD (fun st=>Be Tryz.underlying31 (eR st))<|wD (fun st=>B9 (eR st) (eR st))<|wn ?_;rcases Ae (decide (s<(i.length:Int))) with q|q
 ·replace a:=Ap a q;refine Am rfl q<|cr<|wM (v:=.slice b i.length c) o<|wM (v:=I s) r ?_;replace a:=AP a;obtain⟨i3,aL,aM,aN,aO,a⟩:=a;have d:=(g.mv (AA h));obtain⟨b3,a7,_,aP,rfl,aQ⟩:=Sl.Cz d rfl aN;refine wD (fun st=>AR (k:=i3) Tryz.underlying31 C7 (eR st) aP (eR st) aM aO)<|wD (fun st=>Bb (v:=I aL) Bh (eR st) aQ rfl)<|wA (v:=I aL) rfl<|wn<|Av<|AG ?_;obtain rfl:=oi a;refine Ay rfl rfl ?_;exact⟨aF.AS,rfl⟩
 ·replace a:=Aq a q;refine An rfl q<|cn<|cr<|wM (v:=.slice b i.length c) o<|wD (fun st=>Ad (eR st) (DP _ _))<|wD (fun st=>As (v:=.slice e p.Bv.length f) DH (eR st) h.bk rfl)<|wM (v:=I s) r<|wM (v:=.slice b i.length c) o<|wD (fun st=>Be Tryz.underlying31 (eR st)) ?_;replace a:=AF a;obtain⟨aR,a⟩:=a;refine wD (fun st=>El (eR st) (eR st) aR) ?_;replace a:=AP a;obtain⟨i5,aS,aT,aU,aV,a⟩:=a;have u:=(t.mv (AA h));obtain⟨a8,a9,_,aW,⟨x,y,rfl,aD⟩,aX⟩:=Sl.Cz u rfl aU;refine wD (fun st=>AR (k:=i5) Tryz.underlying23 ES (eR st) aW (eR st) aT aV)<|wD (fun st=>Bb (v:=.slice x aS.length y) DB (eR st) aX rfl) ?_;have d:=(g.mv (AA h));replace a:=bind_some a;obtain⟨aY,aZ,a⟩:=a;refine wE (fun st=>Aj Nk (eR st) (CN (eR st) (eR st)) (a87 aJ i aS b c x y ZA _ d.all aD.all aY aZ)) ?_;rintro _ bA ⟨a0,rfl⟩;have a2:=aF.ext a0;refine wA (v:=I aY) rfl<|wn<|Av ?_;obtain rfl:=oi a;refine Ay rfl rfl ?_;exact⟨a2.AS,rfl⟩
theorem a146 aC k aB a c d e f g i m n(Z:Nat→Prop) w(aF:Sl Az w Z c d k.Ax)(aG:Sl (Bs (Ao .i64)) w Z e f k.Bv)(aH:Sl AH w Z g i k.AQ)(aI:Sl (Ao .i64) w Z m n aB) aT(b:Cf aC k aB a=some aT):
 B7 Tryz.prog 146 #[.agg (AE c d e f g i k).toArray,.slice m aB.length n,.agg #[.bool a.Ce,I a.Number,I a.AM,I a.AN]] w (fun v w'=>Ext w w'∧Cm.R w' (zf Z w []) v aT):=by
 unfold Cf at b;refine rq (N:=28) Tryz.func146 fun a9 ha bA=>?_;have aN:=sA 0 ha;have aD:=sA 1 ha;have aO:=sA 2 ha;clear ha;have aJ:Hp FN [] w [] w:=Hp.start (BL.none w);have ⟨t,u,x,y⟩:=Et aF aG aH aI (Bd (Z:=Z) (L:=[]) w);refine cr<|wE (fun st=>BP (v:=.agg (AE c d e f g i k).toArray) (cs:=(AE c d e f g i k).toArray) (ee st aN) rfl) ?_;rintro _ w1 ⟨b1,rfl,z⟩;have aK:=aJ.nb z;have a7:=aJ.BU z;refine wE (fun st=>BP (v:=.agg #[.bool a.Ce,I a.Number,I a.AM,I a.AN]) (cs:= #[.bool a.Ce,I a.Number,I a.AM,I a.AN]) (ee st aO) rfl) ?_;rintro _ w2 ⟨b2,rfl,j⟩;have aL:=aK.nb j;have a8:=aK.BU j;refine wA (v:=.bool false) rfl<|wr<|wD (fun st=>Ad (eR st) (Nj _ _))<|wD (fun st=>As (v:=I a.Number) Bh (eR st) j.bk rfl)<|wA (v:=I a.Number) rfl<|wn<|Af<|cr<|wD (fun st=>Ad (eR st) (NW _ _))<|wD (fun st=>As (v:=.bool a.Ce) L3 (eR st) j.bk rfl)<|wn ?_;rcases Ae (a.Ce) with aA|aA
 ·replace b:=Ap b aA;refine Am rfl aA<|Al<|wM (v:=I a.Number) rfl<|wD (fun st=>Ad (eR st) (Ej _ _)) ?_;have s:=(z.bk.ext j.gr);refine wD (fun st=>As (v:=.slice c k.Ax.length d) EJ (eR st) s rfl)<|wD (fun st=>Be Tryz.underlying22 (eR st)) ?_;replace b:=AF b;obtain⟨aU,b⟩:=b;refine wD (fun st=>BG (eR st) (eR st) aU)<|wA (v:=I (a.Number+(k.Ax.length:Int))) rfl<|wn<|Af ?_;have ⟨o,p,q,r⟩:=Et t u x y (mt (AA z) (AA j));replace b:=bind_some b;obtain⟨aP,aV,b⟩:=b;refine BK 10 [Kc (.agg (AE c d e f g i k).toArray),Kc (.slice m aB.length n),Kc (I (a.Number+(k.Ax.length:Int))),Kc (I aP),Kc (pt b2 2),Kc (pt b2 2),Kc (I a.AM),Kc (pt b2 2),Kc (pt b2 3),Kc (I a.AN)] mixed rfl rfl
      (Aa (oD (fun K=>AK (l:=(AE c d e f g i k)) Dt (K.kO 3) (s.ext K.AD) rfl rfl))
      (Aa (oD (fun K=>Au (es ((K.out 1 rfl).trans aD))))
      (Aa (oD (fun K=>Au (K.kO 7)))
      (Aa (oE (fun K=>(Aj Jw rfl (Dx (es (K.dq 0 17)) (es (K.dq 1 18)) (es (K.dq 2 19))) (a31 aC k aB (a.Number+(k.Ax.length:Int)) c d e f g i m n ZA _ (o.mv (Ac K.AD)).all (p.mv (Ac K.AD)).all (q.mv (Ac K.AD)).all (r.mv (Ac K.AD)).all aP aV)).mono (fun _ _ h=>⟨h.2,h.1⟩)))
      (Aa (oD (fun K=>Ad (K.kO 5) (FZ _ _)))
      (Aa (oD (fun K=>Ad (es (K.dq 4 21)) (GV _ _)))
      (Aa (oD (fun K=>As Bh (es (K.dq 5 22)) (j.bk.ext K.AD) rfl))
      (Aa (oD (fun K=>Ad (K.kO 5) (FZ _ _)))
      (Aa (oD (fun K=>Ad (es (K.dq 7 24)) (GW _ _)))
      (Aa (oD (fun K=>As Bh (es (K.dq 8 25)) (j.bk.ext K.AD) rfl))
      (BI _))))))))))) ?_
  intro bC;rintro _ rfl _ rfl _ rfl _ rfl _ rfl _ rfl _ rfl _ rfl _ rfl _ rfl aW;have aX:=aL.ext aW;replace b:=bind_some b;obtain⟨aY,aZ,b⟩:=b;refine wE (fun st=>Aj DR (eR st) (Dx (eR st) (eR st) (eR st)) (GZ aC aP a.AM a.AN ZA _ aY aZ)) ?_;rintro _ bD ⟨a0,rfl⟩;have a2:=aX.ext a0;refine wA (v:=.bool aY) rfl<|wn<|Av ?_;obtain rfl:=oi b;refine Ay rfl rfl ?_;exact⟨a2.AS,rfl⟩
 ·replace b:=Aq b aA;refine An rfl aA<|cn<|Af ?_;have s:=(z.bk.ext j.gr);have ⟨o,p,q,r⟩:=Et t u x y (mt (AA z) (AA j));replace b:=bind_some b;obtain⟨aE,aQ,b⟩:=b;refine BK 10 [Kc (.agg (AE c d e f g i k).toArray),Kc (.slice m aB.length n),Kc (I a.Number),Kc (I aE),Kc (pt b2 2),Kc (pt b2 2),Kc (I a.AM),Kc (pt b2 2),Kc (pt b2 3),Kc (I a.AN)] mixed rfl rfl
      (Aa (oD (fun K=>AK (l:=(AE c d e f g i k)) Dt (K.kO 3) (s.ext K.AD) rfl rfl))
      (Aa (oD (fun K=>Au (es ((K.out 1 rfl).trans aD))))
      (Aa (oD (fun K=>Au (K.kO 7)))
      (Aa (oE (fun K=>(Aj Jw rfl (Dx (es (K.dq 0 17)) (es (K.dq 1 18)) (es (K.dq 2 19))) (a31 aC k aB a.Number c d e f g i m n ZA _ (o.mv (Ac K.AD)).all (p.mv (Ac K.AD)).all (q.mv (Ac K.AD)).all (r.mv (Ac K.AD)).all aE aQ)).mono (fun _ _ h=>⟨h.2,h.1⟩)))
      (Aa (oD (fun K=>Ad (K.kO 5) (FZ _ _)))
      (Aa (oD (fun K=>Ad (es (K.dq 4 21)) (GV _ _)))
      (Aa (oD (fun K=>As Bh (es (K.dq 5 22)) (j.bk.ext K.AD) rfl))
      (Aa (oD (fun K=>Ad (K.kO 5) (FZ _ _)))
      (Aa (oD (fun K=>Ad (es (K.dq 7 24)) (GW _ _)))
      (Aa (oD (fun K=>As Bh (es (K.dq 8 25)) (j.bk.ext K.AD) rfl))
      (BI _))))))))))) ?_
  intro bE;rintro _ rfl _ rfl _ rfl _ rfl _ rfl _ rfl _ rfl _ rfl _ rfl _ rfl a3;have a4:=aL.ext a3;replace b:=bind_some b;obtain⟨aM,aR,b⟩:=b;refine wE (fun st=>Aj DR (eR st) (Dx (eR st) (eR st) (eR st)) (GZ aC aE a.AM a.AN ZA _ aM aR)) ?_;rintro _ bB ⟨aS,rfl⟩;have a5:=a4.ext aS;refine wA (v:=.bool aM) rfl<|wn<|Av ?_;obtain rfl:=oi b;refine Ay rfl rfl ?_;exact⟨a5.AS,rfl⟩
theorem O6 a7 h u d e f g b c j m(Z:Nat→Prop) w(bC:Sl Az w Z d e h.Ax)(bD:Sl (Bs (Ao .i64)) w Z f g h.Bv)(bE:Sl AH w Z b c h.AQ)(bF:Sl (Ao .i64) w Z j m u) b5(a:BZ a7 h u=some b5):
 B7 Tryz.prog 100 #[.agg (AE d e f g b c h).toArray,.slice j u.length m] w (fun v w'=>Ext w w'∧Cm.R w' (zf Z w []) v b5):=by
 unfold BZ at a;refine rq (N:=26) Tryz.func100 fun cJ ha cK=>?_;have bN:=sA 0 ha;have a8:=sA 1 ha;clear ha;have bJ:Hp FN [] w [] w:=Hp.start (BL.none w);have ⟨aT,aU,aV,aW⟩:=Et bC bD bE bF (Bd (Z:=Z) (L:=[]) w);refine cr<|wE (fun st=>BP (v:=.agg (AE d e f g b c h).toArray) (cs:=(AE d e f g b c h).toArray) (ee st bN) rfl) ?_;rintro _ w1 ⟨b1,rfl,aK⟩;have b6:=bJ.nb aK;have cF:=bJ.BU aK;refine wA (v:=.bool false) rfl<|wn<|Af<|cr<|wD (fun st=>AK (l:=(AE d e f g b c h)) Dt (eR st) aK.bk rfl rfl)<|wM (v:=.slice j u.length m) a8 ?_;have ⟨x,y,z,aA⟩:=Et aT aU aV aW (AA aK);replace a:=bind_some a;obtain⟨bG,b7,a⟩:=a;refine wE (fun st=>Aj Mw (eR st) (CN (eR st) (eR st)) (QW a7 h u d e f g b c j m ZA _ x.all y.all z.all aA.all bG b7)) ?_;rintro _ cP ⟨a9,rfl⟩;have bK:=b6.ext a9;refine wD (fun st=>CJ (eR st))<|wn ?_;rcases Ae (!bG) with s|s
 ·replace a:=Ap a s;have cG:bG=false:=by simpa using s
  refine Am rfl s<|cr<|wA (v:=.bool false) rfl<|wn<|Av<|AG ?_;obtain rfl:=oi a;refine Ay rfl rfl ?_;exact⟨bK.AS,rfl⟩
 ·replace a:=Aq a s;have cH:bG=true:=by simpa using s
  refine An rfl s<|cn<|Af<|cr<|wA (v:=I 0) rfl<|wn<|AI ?_;replace a:=bind_some a;obtain⟨bO,aB,a⟩:=a;refine BX (fun bP q aH=>(bP=.ret∧∃aC,bO=.inl aC∧Fo X0 26 q∧sl q 4=.bool aC∧Hp FN [] w [some b1] aH)∨(bP=.exit 0∧∃aC,bO=.inr aC∧Fo X0 26 q∧Hp FN [] w [some b1] aH)) ?b8 ?b9
  case b8=>
   clear a;refine BW (fun bQ q aH=>∃i,AL a7 h u bQ i=some bO∧Fo X0 26 q∧sl q 1=.slice j u.length m∧sl q 2=pt b1 0∧sl q 5=I i∧Hp FN [] w [some b1] aH∧Bk aH b1 26 (AE d e f g b c h).toArray∧Sl Az aH (zf Z w [some b1]) d e h.Ax∧Sl (Bs (Ao .i64)) aH (zf Z w [some b1]) f g h.Bv∧Sl AH aH (zf Z w [some b1]) b c h.AQ∧Sl (Ao .i64) aH (zf Z w [some b1]) j m u) a7 ?cA ?cB
   case cA=>
    intro st;have bH:=(aK.bk.ext a9);have ⟨aX,aY,aZ,a0⟩:=Et x y z aA (Ac a9);exact⟨(0:Int),aB,qo st,sp st 1 a8,sp st 2 rfl,sp st 5 rfl,bK,bH,aX,aY,aZ,a0⟩
   case cB=>
    rintro(_|bQ) cL cM ⟨i,aB,bR,aR,r,aI,bL,o,aM,aN,t,aO⟩
    ·exact absurd (show none=some _ from aB) (by simp)
    rw[AL.eq_2] at aB;have a:=aB;clear aB;refine ro bR<|Af<|cr<|wM (v:=I i) aI<|wD (fun st=>Ad (ee st r) (II _ _))<|wD (fun st=>As (v:=.slice b h.AQ.length c) JI (eR st) o rfl)<|wD (fun st=>Be Tryz.underlying24 (eR st))<|wD (fun st=>B9 (eR st) (eR st))<|wn ?_;rcases Ae (decide (i<(h.AQ.length:Int))) with aL|aL
    ·replace a:=Ap a aL;refine Am rfl aL<|cn<|Af<|AI<|Af ?_;replace a:=AP a;obtain⟨i10,p,bS,bT,bU,a⟩:=a;obtain⟨cC,cD,_,bV,rfl,bW⟩:=Sl.elem t (by decide) bT;refine BK 7 [Kc (.agg (AE d e f g b c h).toArray),Kc (.slice j u.length m),Kc (pt b1 2),Kc (.slice b h.AQ.length c),Kc (I i),Kc (pt cC (cD+i10*4)),Kc (.agg #[.bool p.Ce,I p.Number,I p.AM,I p.AN])] mixed rfl rfl
         (Aa (oD (fun K=>AK (l:=(AE d e f g b c h)) Dt (es ((K.out 2 rfl).trans r)) (o.ext K.AD) rfl rfl))
         (Aa (oD (fun K=>Au (es ((K.out 1 rfl).trans aR))))
         (Aa (oD (fun K=>Ad (es ((K.out 2 rfl).trans r)) (II _ _)))
         (Aa (oD (fun K=>As JI (es (K.dq 2 19)) (o.ext K.AD) rfl))
         (Aa (oD (fun K=>Au (es ((K.out 5 rfl).trans aI))))
         (Aa (oD (fun K=>BD (k:=i10) Tryz.underlying24 OX (es (K.dq 3 20)) bV (es (K.dq 4 21)) bS bU))
         (Aa (oD (fun K=>DF (l:=[.bool p.Ce,I p.Number,I p.AM,I p.AN]) OS (es (K.dq 5 22)) (bW.mv (Ac K.AD)) rfl rfl))
         (BI _)))))))) ?_
     intro cQ;rintro _ rfl _ rfl _ rfl _ rfl _ rfl _ rfl _ rfl bA;have cE:=bL.ext bA;have ⟨aD,aE,aF,aG⟩:=Et aM aN t aO (Ac bA);replace a:=bind_some a;obtain⟨aS,bX,a⟩:=a;refine wE (fun st=>Aj Lk (eR st) (Dx (eR st) (eR st) (eR st)) (a146 a7 h u p d e f g b c j m ZA _ aD.all aE.all aF.all aG.all aS bX)) ?_;rintro _ cN ⟨aP,rfl⟩;have bM:=cE.ext aP;refine wD (fun st=>CJ (eR st))<|wn ?_;rcases Ae (!aS) with n|n
     ·replace a:=Ap a n;have bZ:aS=false:=by simpa using n
      refine Am rfl n<|cr<|wA (v:=.bool false) rfl<|wn<|Av<|Dd<|AG ?_;obtain rfl:=oi a;refine BC (fun st=>?_);exact .inl ⟨rfl,false,rfl,qo st,sp st 4 rfl,bM⟩
     ·replace a:=Aq a n;have b4:aS=true:=by simpa using n
      refine An rfl n<|Ct<|CS<|Al<|wM (v:=I i) aI ?_;replace a:=AF a;obtain⟨bY,a⟩:=a;refine wD (fun st=>BG (eR st) (eR st) bY)<|wA (v:=I (i+1)) rfl<|AU ?_;have bI:=((o.ext bA).ext aP);have ⟨a2,a3,a4,a5⟩:=Et aD aE aF aG (Ac aP);refine Bi bQ (Nat.lt_succ_self _) (fun st=>?_);exact⟨(i+1),a,qo st,sp st 1 aR,sp st 2 r,sp st 5 rfl,bM,bI,a2,a3,a4,a5⟩
    ·replace a:=Aq a aL;refine An rfl aL<|Dq ?_;obtain rfl:=oi a;refine BC (fun st=>?_);exact .inr ⟨rfl,(),rfl,qo st,bL⟩
  case b9=>
   rintro bP cI cO (⟨rfl,aC,rfl,aJ,bB,aQ⟩|⟨rfl,aC,rfl,aJ,aQ⟩)
   ·skip
    replace a:=C9 a;refine lf aJ<|Dd ?_;obtain rfl:=oi a;refine Ay rfl bB ?_;exact⟨aQ.AS,rfl⟩
   ·skip
    replace a:=Da a;refine lf aJ<|AZ<|BS<|cr<|wA (v:=.bool true) rfl<|wn<|Av ?_;obtain rfl:=oi a;refine Ay rfl rfl ?_;exact⟨aQ.AS,rfl⟩
theorem a28 a3 q f g h i j m(Z:Nat→Prop) w(bQ:Sl Az w Z f g q.Ax)(bR:Sl (Bs (Ao .i64)) w Z h i q.Bv)(bS:Sl AH w Z j m q.AQ) cB(a:By a3 q=some cB):
 B7 Tryz.prog 28 #[.agg (AE f g h i j m q).toArray] w (fun v w'=>Ext w w'∧(Fq (Bs (Ao .i64))).R w' (zf Z w []) v cB):=by
 unfold By at a;refine rq (N:=23) Tryz.func28 fun cW ha cX=>?_;have b5:=sA 0 ha;clear ha;have bY:Hp FN [] w [] w:=Hp.start (BL.none w);have ⟨a4,a5,a7⟩:=DU bQ bR bS (Bd (Z:=Z) (L:=[]) w);refine cr<|wE (fun st=>BP (v:=.agg (AE f g h i j m q).toArray) (cs:=(AE f g h i j m q).toArray) (ee st b5) rfl) ?_;rintro _ w1 ⟨b1,rfl,a0⟩;have cC:=bY.nb a0;have cU:=bY.BU a0;refine wA (v:=.slice none 0 0) rfl<|wr<|wA (v:=.slice none 0 0) rfl<|wn<|Af<|cr<|wA (v:=I 0) rfl<|wn<|AI ?_;have cD:=cC.nil;have cE:BH (Bs (Ao .i64)) 31 w.heap.size w1 (zf Z w [none,some b1]) none 0 ([]:List (List Int)):=BH.nil _ _ _ _ _;replace a:=bind_some a;obtain⟨z2,aN,a⟩:=a;refine BX (fun cF aF aR=>(cF=.exit 0∧∃c n,Fo X0 23 aF∧sl aF 3=.slice c z2.length n∧Hp FN [] w [ob c,some b1] aR∧BH (Bs (Ao .i64)) 31 w.heap.size aR (zf Z w [ob c,some b1]) c n z2)) ?cG ?cH
 case cG=>
  clear a;refine BW (fun bT aF aR=>∃r,∃d,∃b t,Bj a3 q bT r d=some z2∧Fo X0 23 aF∧sl aF 1=pt b1 0∧sl aF 3=.slice b r.length t∧sl aF 4=I d∧Hp FN [] w [ob b,some b1] aR∧BH (Bs (Ao .i64)) 31 w.heap.size aR (zf Z w [ob b,some b1]) b t r∧Bk aR b1 26 (AE f g h i j m q).toArray∧Sl Az aR (zf Z w [ob b,some b1]) f g q.Ax∧Sl (Bs (Ao .i64)) aR (zf Z w [ob b,some b1]) h i q.Bv∧Sl AH aR (zf Z w [ob b,some b1]) j m q.AQ) a3 ?cI ?cJ
  case cI=>
   intro st;have bU:=a0.bk;have ⟨a8,a9,bA⟩:=DU a4 a5 a7 (mt (AA a0) B8);exact⟨([]:List (List Int)),(0:Int),none,0,aN,qo st,sp st 1 rfl,sp st 3 rfl,sp st 4 rfl,cD,cE,bU,a8,a9,bA⟩
  case cJ=>
   rintro(_|bT) cY cZ ⟨r,d,b,t,aN,b6,y,aS,aE,cK,x,aV,aG,aH,aI⟩
   ·exact absurd (show none=some _ from aN) (by simp)
   rw[Bj.eq_2] at aN;have a:=aN;clear aN;refine ro b6<|Af<|cr<|wM (v:=I d) aE<|wD (fun st=>AK (l:=(AE f g h i j m q)) Dt (ee st y) aV rfl rfl) ?_;replace a:=bind_some a;obtain⟨cL,cM,a⟩:=a;refine wE (fun st=>Aj Ol (eR st) (Cy (eR st)) (a59 a3 q f g h i j m ZA _ aG.all aH.all aI.all cL cM)) ?_;rintro _ c5 ⟨z,rfl⟩;have bK:=cK.ext z;refine wD (fun st=>B9 (eR st) (eR st))<|wn ?_;rcases Ae (decide (d<cL)) with aW|aW
   ·replace a:=Ap a aW;refine Am rfl aW<|cn<|Af<|AI<|Af<|Al ?_;have a2:=(aV.ext z);refine wD (fun st=>AK (l:=(AE f g h i j m q)) Dt (ee st y) a2 rfl rfl)<|wM (v:=I d) aE ?_;have ⟨aO,aP,aQ⟩:=DU aG aH aI (Ac z);replace a:=bind_some a;obtain⟨aJ,cN,a⟩:=a;refine wE (fun st=>Aj Pq (eR st) (CN (eR st) (eR st)) (U7 a3 q d f g h i j m (zf Z w [ob b,some b1]) _ aO aP aQ aJ cN)) ?_;rintro _ c6 ⟨aK,⟨o,p,rfl,aA⟩⟩;have cO:=bK.ext aK;have aA:=aA.mv (bK.CQ (Nat.le_refl _));refine wA (v:=.slice o aJ.length p) rfl<|wn<|Af<|Al ?_;have aT:=(a2.ext aK);refine wD (fun st=>AK (l:=(AE f g h i j m q)) Dt (ee st y) aT rfl rfl)<|wM (v:=.slice o aJ.length p) rfl ?_;have ⟨aB,aC,aD⟩:=DU aO aP aQ (Ac aK);replace a:=bind_some a;obtain⟨cP,cQ,a⟩:=a;refine wE (fun st=>Aj Ll (eR st) (CN (eR st) (eR st)) (O6 a3 q aJ f g h i j m o p ZA _ aB.all aC.all aD.all aA.all cP cQ)) ?_;rintro _ c0 ⟨u,rfl⟩;have bL:=cO.ext u;refine wn ?_;rcases Ae (cP) with aL|aL
    ·replace a:=Ap a aL;refine Am rfl aL<|Al<|wM (v:=.slice b r.length t) aS<|wM (v:=.slice o aJ.length p) rfl<|wE (fun st=>Cx (e:=31) (vs:= #[(0,.slice o aJ.length p)]) (cs:= #[.slice o aJ.length p]) (I5 (eR st)) (by kernel_rfl)) ?_;rintro _ c1 ⟨c2,rfl,s⟩;have aX:=bL.nb s;have cR:=bL.BU s;have bB:=((((x.ext z (Ac z)).ext aK (Ac aK)).ext u (Ac u)).ext s.gr (AA s));replace a:=Ci a;obtain⟨bM,a⟩:=a;have aY:=((aA.mv (Ac u)).mv (AA s));refine wE (fun st=>Hg (ys:=[aJ]) Tryz.underlying23 Kr rfl rfl (by decide) (eR st) rfl (eR st) bB (GK (CM:=[[.slice o aJ.length p]]) s.bk ⟨⟨_,_,rfl,aY⟩,trivial⟩ rfl) (by have:=bM;simp only[maxLen];omega) (by have:=bM;omega) aX.sz (by simp)) ?_;rintro _ c3 ⟨bZ,b4,rfl,aU,aZ,b7⟩;have cS:=aX.row aU 1 rfl aZ;have b8:=Eb b7 (aX.DE aU 1 rfl (fun k hk=>(aZ k hk).1));refine wA (v:=.slice bZ ((r++[aJ]).length) b4) rfl<|AU<|CS<|Al<|wM (v:=I d) aE ?_;replace a:=AF a;obtain⟨b9,a⟩:=a;refine wD (fun st=>BG (eR st) (eR st) b9)<|wA (v:=I (d+1)) rfl<|AU ?_;have cT:=cS.erase 0;have bN:=(b8.up (AV 0));have bV:=(((aT.ext u).ext s.gr).gr aU (aX.nq 2 1));have ⟨bC,bD,bE⟩:=DU aB aC aD (mt (Ac u) (mt (AA s) (mt (aX.DE aU 1 rfl (fun k hk=>(aZ k hk).1)) (AV 0))));refine Bi bT (Nat.lt_succ_self _) (fun st=>?_);exact⟨(r++[aJ]),(d+1),bZ,b4,a,qo st,sp st 1 y,sp st 3 rfl,sp st 4 rfl,cT,bN,bV,bC,bD,bE⟩
    ·replace a:=Aq a aL;refine An rfl aL<|Ct<|CS<|Al<|wM (v:=I d) aE ?_;replace a:=AF a;obtain⟨cA,a⟩:=a;refine wD (fun st=>BG (eR st) (eR st) cA)<|wA (v:=I (d+1)) rfl<|AU ?_;have bF:=(((x.ext z (Ac z)).ext aK (Ac aK)).ext u (Ac u));have bW:=(aT.ext u);have ⟨bG,bH,bI⟩:=DU aB aC aD (Ac u);refine Bi bT (Nat.lt_succ_self _) (fun st=>?_);exact⟨r,(d+1),b,t,a,qo st,sp st 1 y,sp st 3 aS,sp st 4 rfl,bL,bF,bW,bG,bH,bI⟩
   ·replace a:=Aq a aW;refine An rfl aW<|Dq ?_;obtain rfl:=oi a;have bJ:=(x.ext z (Ac z));refine BC (fun st=>?_);exact⟨rfl,b,t,qo st,sp st 3 aS,bK,bJ⟩
 case cH=>
  rintro cF cV c4 (⟨rfl,c,n,bX,bO,bP,aM⟩);refine lf bX<|AZ<|BS<|cr<|wM (v:=.slice c z2.length n) bO<|wA (v:=.slice c z2.length n) rfl<|wn<|Av ?_;obtain rfl:=oi a;refine Ay rfl rfl ?_;exact⟨bP.AS,⟨_,_,rfl,bP.HP (M:=[]) 0 rfl [] rfl trivial aM⟩⟩
theorem QU aS r(Z:Nat→Prop) w aT(a:CI aS r=some aT):
 B7 Tryz.prog 63 #[I r] w (fun v w'=>Ext w w'∧(Fq (Ao .i64)).R w' (zf Z w []) v aT):=by
 unfold CI at a;refine rq (N:=23) Tryz.func63 fun bC ha bD=>?_;have aM:=sA 0 ha;clear ha;have aU:Hp FN [] w [] w:=Hp.start (BL.none w);refine cr<|wA (v:=.slice none 0 0) rfl<|wr<|wA (v:=.slice none 0 0) rfl<|wn<|Af<|cr<|wA (v:=I 0) rfl<|wn<|AI ?_;have aV:=aU.nil;have aW:BH (Ao .i64) 3 w.heap.size w (zf Z w [none]) none 0 ([]:List Int):=BH.nil _ _ _ _ _;replace a:=bind_some a;obtain⟨y,p,a⟩:=a;refine BX (fun aX m z=>(aX=.exit 0∧∃c d,Fo X0 23 m∧sl m 3=.slice c y.length d∧Hp FN [] w [ob c] z∧BH (Ao .i64) 3 w.heap.size z (zf Z w [ob c]) c d y)) ?aY ?aZ
 case aY=>
  clear a;refine BW (fun aH m z=>∃g,∃b,∃f h,BO r aH g b=some y∧Fo X0 23 m∧sl m 0=I r∧sl m 3=.slice f g.length h∧sl m 4=I b∧Hp FN [] w [ob f] z∧BH (Ao .i64) 3 w.heap.size z (zf Z w [ob f]) f h g) aS ?a0 ?a2
  case a0=>
   intro st;exact⟨([]:List Int),(0:Int),none,0,p,qo st,sp st 0 aM,sp st 3 rfl,sp st 4 rfl,aV,aW⟩
  case a2=>
   rintro(_|aH) bE bF ⟨g,b,f,h,p,aN,l,q,j,u,i⟩
   ·exact absurd (show none=some _ from p) (by simp)
   rw[BO.eq_2] at p;have a:=p;clear p;refine ro aN<|Af<|cr<|wM (v:=I r) l<|wM (v:=I b) j ?_;replace a:=Dy a;obtain⟨a3,a⟩:=a;refine wD (fun st=>Er (k:=.u64) Ho Tryz.underlying91 (eR st) a3) ?_;replace a:=GS a;obtain⟨a4,a⟩:=a;refine wD (fun st=>KI (eR st) (eR st) a4)<|wD (fun st=>Gs (eR st) (eR st))<|wn ?_;rcases Ae (decide ((0:Int)<(EK r b))) with s|s
   ·replace a:=Ap a s;refine Am rfl s<|cn<|Af<|AI<|cr<|wM (v:=I r) l<|wM (v:=I b) j ?_;replace a:=Dy a;obtain⟨a5,a⟩:=a;refine wD (fun st=>Er (k:=.u64) Ho Tryz.underlying91 (eR st) a5) ?_;replace a:=GS a;obtain⟨a7,a⟩:=a;refine wD (fun st=>KI (eR st) (eR st) a7) ?_;replace a:=GM a;obtain⟨aJ,a⟩:=a;refine wD (fun st=>JO (eR st) (eR st) aJ.1 aJ.2)<|wD (fun st=>CT (eR st) (eR st))<|wn ?_;rcases Ae (((EK r b)%2)==1) with t|t
    ·replace a:=Ap a t;refine Am rfl t<|Al<|wM (v:=.slice f g.length h) q<|wM (v:=I b) j<|wE (fun st=>Cx (e:=3) (vs:= #[(0,I b)]) (cs:= #[I b]) (I5 (eR st)) (by kernel_rfl)) ?_;rintro _ bG ⟨bH,rfl,n⟩;have aA:=u.nb n;have a8:=u.BU n;have x:=(i.ext n.gr (AA n));replace a:=Ci a;obtain⟨aB,a⟩:=a;refine wE (fun st=>Hg (ys:=[b]) Tryz.underlying31 HG rfl rfl (by decide) (eR st) rfl (eR st) x (GK (CM:=[[I b]]) n.bk ⟨rfl,trivial⟩ rfl) (by have:=aB;simp only[maxLen];omega) (by have:=aB;omega) aA.sz (by simp)) ?_;rintro _ bI ⟨aK,aL,rfl,aC,aD,aO⟩;have a9:=aA.row aC 1 rfl aD;have aP:=Eb aO (aA.DE aC 1 rfl (fun k hk=>(aD k hk).1));refine wA (v:=.slice aK ((g++[b]).length) aL) rfl<|AU<|CS<|Al<|wM (v:=I b) j ?_;replace a:=AF a;obtain⟨aQ,a⟩:=a;refine wD (fun st=>BG (eR st) (eR st) aQ)<|wA (v:=I (b+1)) rfl<|AU ?_;have bA:=a9.erase 0;have aE:=(aP.up (AV 0));refine Bi aH (Nat.lt_succ_self _) (fun st=>?_);exact⟨(g++[b]),(b+1),aK,aL,a,qo st,sp st 0 l,sp st 3 rfl,sp st 4 rfl,bA,aE⟩
    ·replace a:=Aq a t;refine An rfl t<|Ct<|CS<|Al<|wM (v:=I b) j ?_;replace a:=AF a;obtain⟨aR,a⟩:=a;refine wD (fun st=>BG (eR st) (eR st) aR)<|wA (v:=I (b+1)) rfl<|AU ?_;refine Bi aH (Nat.lt_succ_self _) (fun st=>?_);exact⟨g,(b+1),f,h,a,qo st,sp st 0 l,sp st 3 q,sp st 4 rfl,u,i⟩
   ·replace a:=Aq a s;refine An rfl s<|Dq ?_;obtain rfl:=oi a;refine BC (fun st=>?_);exact⟨rfl,f,h,qo st,sp st 3 q,u,i⟩
 case aZ=>
  rintro aX bB bJ (⟨rfl,c,d,aI,aF,aG,o⟩);refine lf aI<|AZ<|BS<|cr<|wM (v:=.slice c y.length d) aF<|wA (v:=.slice c y.length d) rfl<|wn<|Av ?_;obtain rfl:=oi a;refine Ay rfl rfl ?_;exact⟨aG.AS,⟨_,_,rfl,aG.HP (M:=[]) 0 rfl [] rfl trivial o⟩⟩
theorem Vf a2 o p e f g h(Z:Nat→Prop) w(aJ:Sl (Ao .i64) w Z e f o)(aK:Sl (Ao .i64) w Z g h p) a3(a:C0 a2 o p=some a3):
 B7 Tryz.prog 73 #[.slice e o.length f,.slice g p.length h] w (fun v w'=>Ext w w'∧Cm.R w' (zf Z w []) v a3):=by
 unfold C0 at a;refine rq (N:=41) Tryz.func73 fun b6 ha b7=>?_;have aM:=sA 0 ha;have aN:=sA 1 ha;clear ha;have a4:Hp FN [] w [] w:=Hp.start (BL.none w);have ⟨aC,aD⟩:=Nb aJ aK (Bd (Z:=Z) (L:=[]) w);refine cr<|wA (v:=.bool false) rfl<|wn<|Af<|cr<|wA (v:=I 0) rfl<|wn<|AI ?_;replace a:=bind_some a;obtain⟨aO,s,a⟩:=a;refine BX (fun aP n x=>(aP=.ret∧∃t,aO=.inl t∧Fo X0 41 n∧sl n 4=.bool t∧Hp FN [] w [] x)∨(aP=.exit 0∧∃t,aO=.inr t∧Fo X0 41 n∧sl n 0=.slice e o.length f∧sl n 1=.slice g p.length h∧Hp FN [] w [] x∧Sl (Ao .i64) x (zf Z w []) e f o∧Sl (Ao .i64) x (zf Z w []) g h p)) ?a5 ?a7
 case a5=>
  clear a;refine BW (fun aQ n x=>∃b,Cd o p aQ b=some aO∧Fo X0 41 n∧sl n 0=.slice e o.length f∧sl n 1=.slice g p.length h∧sl n 5=I b∧Hp FN [] w [] x∧Sl (Ao .i64) x (zf Z w []) e f o∧Sl (Ao .i64) x (zf Z w []) g h p) a2 ?a8 ?a9
  case a8=>
   intro st;exact⟨(0:Int),s,qo st,sp st 0 aM,sp st 1 aN,sp st 5 rfl,a4,aC,aD⟩
  case a9=>
   rintro(_|aQ) b8 b9 ⟨b,s,aR,l,m,j,aE,c,d⟩
   ·exact absurd (show none=some _ from s) (by simp)
   rw[Cd.eq_2] at s;have a:=s;clear s;refine ro aR<|Af<|cr<|wM (v:=I b) j<|wM (v:=.slice e o.length f) l<|wD (fun st=>Be Tryz.underlying31 (eR st))<|wD (fun st=>B9 (eR st) (eR st))<|wM (v:=.bool (decide (b<(o.length:Int)))) rfl ?_;rcases Ae (decide (b<(o.length:Int))) with i|i
   ·replace a:=Ap a i;refine wN i (v:=I b) j<|wN i (v:=.slice g p.length h) m<|wG i (fun st=>Be Tryz.underlying31 (eR st))<|wG i (fun st=>B9 (eR st) (eR st))<|wD (fun st=>AW (v:=.bool (decide (b<(p.length:Int)))) (eR st) i (eR st))<|wn ?_;rcases Ae (decide (b<(p.length:Int))) with y|y
    ·replace a:=Ap a y;refine Am rfl y<|cn<|Af<|AI<|Af ?_;replace a:=AP a;obtain⟨i5,bA,bB,bC,bD,a⟩:=a;obtain⟨bV,bW,_,bE,rfl,bF⟩:=Sl.Cz c rfl bC;replace a:=AP a;obtain⟨i6,bG,bH,bI,bJ,a⟩:=a;obtain⟨bX,bY,_,bK,rfl,bL⟩:=Sl.Cz d rfl bI;refine BK 8 [Kc (.slice e o.length f),Kc (I b),Kc (pt bV (bW+i5)),Kc (I bA),Kc (.slice g p.length h),Kc (I b),Kc (pt bX (bY+i6)),Kc (I bG)] mixed rfl rfl
         (Aa (oD (fun K=>Au (es ((K.out 0 rfl).trans l))))
         (Aa (oD (fun K=>Au (es ((K.out 5 rfl).trans j))))
         (Aa (oD (fun K=>AR (k:=i5) Tryz.underlying31 C7 (es (K.dq 0 18)) bE (es (K.dq 1 19)) bB bD))
         (Aa (oD (fun K=>Bb Bh (es (K.dq 2 20)) (bF.mv (Ac K.AD)) rfl))
         (Aa (oD (fun K=>Au (es ((K.out 1 rfl).trans m))))
         (Aa (oD (fun K=>Au (es ((K.out 5 rfl).trans j))))
         (Aa (oD (fun K=>AR (k:=i6) Tryz.underlying31 C7 (es (K.dq 4 22)) bK (es (K.dq 5 23)) bH bJ))
         (Aa (oD (fun K=>Bb Bh (es (K.dq 6 24)) (bL.mv (Ac K.AD)) rfl))
         (BI _))))))))) ?_
     intro cB;rintro _ rfl _ rfl _ rfl _ rfl _ rfl _ rfl _ rfl _ rfl aB;have aL:=aE.ext aB;refine wD (fun st=>Db (eR st) (eR st))<|wn ?_;rcases Ae (bA !=bG) with z|z
     ·replace a:=Ap a z;refine Am rfl z<|Af ?_;replace a:=AP a;obtain⟨i9,aS,bM,bN,bO,a⟩:=a;have q:=(c.mv (Ac aB));obtain⟨bZ,b4,_,bP,rfl,bQ⟩:=Sl.Cz q rfl bN;replace a:=AP a;obtain⟨i10,aF,aT,aU,aV,a⟩:=a;have r:=(d.mv (Ac aB));obtain⟨bR,bS,_,aW,rfl,aX⟩:=Sl.Cz r rfl aU;refine BK 8 [Kc (.slice e o.length f),Kc (I b),Kc (pt bZ (b4+i9)),Kc (I aS),Kc (.slice g p.length h),Kc (I b),Kc (pt bR (bS+i10)),Kc (I aF)] mixed rfl rfl
          (Aa (oD (fun K=>Au (es ((K.out 0 rfl).trans l))))
          (Aa (oD (fun K=>Au (es ((K.out 5 rfl).trans j))))
          (Aa (oD (fun K=>AR (k:=i9) Tryz.underlying31 C7 (es (K.dq 0 27)) bP (es (K.dq 1 28)) bM bO))
          (Aa (oD (fun K=>Bb Bh (es (K.dq 2 29)) (bQ.mv (Ac K.AD)) rfl))
          (Aa (oD (fun K=>Au (es ((K.out 1 rfl).trans m))))
          (Aa (oD (fun K=>Au (es ((K.out 5 rfl).trans j))))
          (Aa (oD (fun K=>AR (k:=i10) Tryz.underlying31 C7 (es (K.dq 4 31)) aW (es (K.dq 5 32)) aT aV))
          (Aa (oD (fun K=>Bb Bh (es (K.dq 6 33)) (aX.mv (Ac K.AD)) rfl))
          (BI _))))))))) ?_
      intro cC;rintro _ rfl _ rfl _ rfl _ rfl _ rfl _ rfl _ rfl _ rfl bT;have bU:=aL.ext bT;refine wD (fun st=>B9 (eR st) (eR st))<|wA (v:=.bool (decide (aS<aF))) rfl<|wn<|Av<|Dd<|AG ?_;obtain rfl:=oi a;refine BC (fun st=>?_);exact .inl ⟨rfl,(decide (aS<aF)),rfl,qo st,sp st 4 rfl,bU⟩
     ·replace a:=Aq a z;refine An rfl z<|Ct<|CS<|Al<|wM (v:=I b) j ?_;replace a:=AF a;obtain⟨aY,a⟩:=a;refine wD (fun st=>BG (eR st) (eR st) aY)<|wA (v:=I (b+1)) rfl<|AU ?_;have ⟨q,r⟩:=Nb c d (Ac aB);refine Bi aQ (Nat.lt_succ_self _) (fun st=>?_);exact⟨(b+1),a,qo st,sp st 0 l,sp st 1 m,sp st 5 rfl,aL,q,r⟩
    ·replace a:=Aq a y;refine An rfl y<|Dq ?_;obtain rfl:=oi a;refine BC (fun st=>?_);exact .inr ⟨rfl,(),rfl,qo st,sp st 0 l,sp st 1 m,aE,c,d⟩
   ·replace a:=Aq a i;refine wF i<|wF i<|wF i<|wF i<|wD (fun st=>Bo (v:=.bool false) (eR st) i (eR st))<|wn<|An rfl rfl<|Dq ?_;obtain rfl:=oi a;refine BC (fun st=>?_);exact .inr ⟨rfl,(),rfl,qo st,sp st 0 l,sp st 1 m,aE,c,d⟩
 case a7=>
  rintro aP b5 cA (⟨rfl,t,rfl,u,aG,aA⟩|⟨rfl,t,rfl,u,aH,aI,aA,aZ,a0⟩)
  ·skip
   replace a:=C9 a;refine lf u<|Dd ?_;obtain rfl:=oi a;refine Ay rfl aG ?_;exact⟨aA.AS,rfl⟩
  ·skip
   replace a:=Da a;refine lf u<|AZ<|BS<|cr<|wM (v:=.slice e o.length f) aH<|wD (fun st=>Be Tryz.underlying31 (eR st))<|wM (v:=.slice g p.length h) aI<|wD (fun st=>Be Tryz.underlying31 (eR st))<|wD (fun st=>B9 (eR st) (eR st))<|wA (v:=.bool (decide ((o.length:Int)<(p.length:Int)))) rfl<|wn<|Av ?_;obtain rfl:=oi a;refine Ay rfl rfl ?_;exact⟨aA.AS,rfl⟩
theorem O7 bZ c aU f g i j m o p q r s d e z aA(Z:Nat→Prop) w(b6:Sl Az w Z f g c.Ag)(b7:Sl (Bs (Ao .i64)) w Z i j c.Ab)(b8:Sl AH w Z m o c.Ak)(b9:Sl Ba w Z p q c.AJ)(cA:Sl Bc w Z r s c.Aw)(cB:Sl Bp w Z d e c.Ar)(cC:Sl (Ao .i64) w Z z aA aU) cV(a:Cg bZ c aU=some cV):
 B7 Tryz.prog 114 #[.agg (Ai f g i j m o p q r s d e c).toArray,.slice z aU.length aA] w (fun v w'=>Ext w w'∧(DT .i64).R w' (zf Z w []) v cV):=by
 unfold Cg at a;refine rq (N:=41) Tryz.func114 fun dO ha dP=>?_;have cK:=sA 0 ha;have cL:=sA 1 ha;clear ha;have cH:Hp FN [] w [] w:=Hp.start (BL.none w);have ⟨a7,a8,a9,bA,bB,bC,bD⟩:=Ea b6 b7 b8 b9 cA cB cC (Bd (Z:=Z) (L:=[]) w);refine cr<|wE (fun st=>BP (v:=.agg (Ai f g i j m o p q r s d e c).toArray) (cs:=(Ai f g i j m o p q r s d e c).toArray) (ee st cK) rfl) ?_;rintro _ w1 ⟨b1,rfl,a4⟩;have cW:=cH.nb a4;have dL:=cH.BU a4;refine wA (v:=I 0) rfl<|wr<|wA (v:=I 0) rfl<|wn<|Af<|cr<|wA (v:=I 0) rfl<|wn<|AI ?_;replace a:=bind_some a;obtain⟨z2,aP,a⟩:=a;refine BX (fun cX aH aJ=>(cX=.exit 0∧Fo X0 41 aH∧sl aH 5=I z2∧Hp FN [] w [some b1] aJ)) ?cY ?cZ
 case cY=>
  clear a;refine BW (fun cD aH aJ=>∃y,∃b,Bn bZ c aU cD y b=some z2∧Fo X0 41 aH∧sl aH 1=.slice z aU.length aA∧sl aH 2=pt b1 0∧sl aH 5=I y∧sl aH 6=I b∧Hp FN [] w [some b1] aJ∧Bk aJ b1 67 (Ai f g i j m o p q r s d e c).toArray∧Sl Az aJ (zf Z w [some b1]) f g c.Ag∧Sl (Bs (Ao .i64)) aJ (zf Z w [some b1]) i j c.Ab∧Sl AH aJ (zf Z w [some b1]) m o c.Ak∧Sl Ba aJ (zf Z w [some b1]) p q c.AJ∧Sl Bc aJ (zf Z w [some b1]) r s c.Aw∧Sl Bp aJ (zf Z w [some b1]) d e c.Ar∧Sl (Ao .i64) aJ (zf Z w [some b1]) z aA aU) bZ ?c0 ?c1
  case c0=>
   intro st;have ⟨bE,bF,bG,bH,bI,bJ,bK⟩:=Ea a7 a8 a9 bA bB bC bD (AA a4);exact⟨(0:Int),(0:Int),aP,qo st,sp st 1 cL,sp st 2 rfl,sp st 5 rfl,sp st 6 rfl,cW,a4.bk,bE,bF,bG,bH,bI,bJ,bK⟩
  case c1=>
   rintro(_|cD) dQ dR ⟨y,b,aP,cM,aS,t,aT,u,b4,aK,aX,aY,aZ,a0,a2,aL,a3⟩
   ·exact absurd (show none=some _ from aP) (by simp)
   rw[Bn.eq_2] at aP;have a:=aP;clear aP;refine ro cM<|Af<|cr<|wM (v:=I b) u<|wD (fun st=>Ad (ee st t) (EN _ _))<|wD (fun st=>As (v:=.slice d c.Ar.length e) FE (eR st) aK rfl)<|wD (fun st=>Be Tryz.underlying65 (eR st))<|wD (fun st=>B9 (eR st) (eR st))<|wn ?_;rcases Ae (decide (b<(c.Ar.length:Int))) with aV|aV
   ·replace a:=Ap a aV;refine Am rfl aV<|cn<|Af<|AI<|cr<|wD (fun st=>Ad (ee st t) (EN _ _))<|wD (fun st=>As (v:=.slice d c.Ar.length e) FE (eR st) aK rfl)<|wM (v:=I b) u ?_;replace a:=AP a;obtain⟨i4,aO,c2,c3,c4,a⟩:=a;obtain⟨dU,dV,_,c5,rfl,c6⟩:=Sl.elem aL (by decide) c3;refine wD (fun st=>BD (k:=i4) Tryz.underlying65 J4 (eR st) c5 (eR st) c2 c4)<|wD (fun st=>Ad (eR st) (MY _ _ _))<|wD (fun st=>L9 (l:=[I aO.CA,I aO.CB]) GR (eR st) c6 rfl rfl)<|wE (fun st=>CR (cs:= #[I 0,I 0]) IJ rfl) ?_;rintro _ dW ⟨c7,rfl,aQ⟩;have a5:=b4.nb aQ;have dM:=b4.BU aQ;refine Cs rfl rfl (fun st=>Ca (n:=2) (l:=[I aO.CA,I aO.CB]) (DO:= #[I aO.CA,I aO.CB]) (eR st) (eR st) Gu aQ.bk rfl rfl (show 0+2≤2 by decide) (BJ rfl) rfl) ?_;rintro _ dX aR;have c8:=a5.gr aR.gr 0 rfl;refine wn<|Af ?_;have aI:=((aK.ext aQ.gr).gr aR.gr (a5.nq 1 0));replace a:=AP a;obtain⟨i8,c9,dA,dB,dC,a⟩:=a;have x:=((aL.mv (AA aQ)).mv (a5.Co aR.gr 0 rfl));obtain⟨dD,dE,_,dF,rfl,dG⟩:=Sl.elem x (by decide) dB;have ⟨aB,aC,aD,aE,aF,aG⟩:=Cp aX aY aZ a0 a2 a3 (mt (AA aQ) (a5.Co aR.gr 0 rfl));replace a:=bind_some a;obtain⟨cN,dH,a⟩:=a;refine BK 13 [Kc (.agg (Ai f g i j m o p q r s d e c).toArray),Kc (.slice z aU.length aA),Kc (pt b1 6),Kc (.slice d c.Ar.length e),Kc (I b),Kc (pt dD (dE+i8*3)),Kc (pt dD (dE+i8*3)),Kc (I c9.Ce),Kc (I cN),Kc (pt c7 0),Kc (I aO.CA),Kc (pt c7 1),Kc (I aO.CB)] mixed rfl rfl
        (Aa (oD (fun K=>AK (l:=(Ai f g i j m o p q r s d e c)) Cc (es ((K.out 2 rfl).trans t)) (aI.ext K.AD) rfl rfl))
        (Aa (oD (fun K=>Au (es ((K.out 1 rfl).trans aS))))
        (Aa (oD (fun K=>Ad (es ((K.out 2 rfl).trans t)) (EN _ _)))
        (Aa (oD (fun K=>As FE (es (K.dq 2 23)) (aI.ext K.AD) rfl))
        (Aa (oD (fun K=>Au (es ((K.out 6 rfl).trans u))))
        (Aa (oD (fun K=>BD (k:=i8) Tryz.underlying65 J4 (es (K.dq 3 24)) dF (es (K.dq 4 25)) dA dC))
        (Aa (oD (fun K=>Ad (es (K.dq 5 26)) (Mp _ _ _)))
        (Aa (oD (fun K=>Bb Bh (es (K.dq 6 27)) (dG.mv (Ac K.AD)) rfl))
        (Aa (oE (fun K=>(Aj Mq rfl (Dx (es (K.dq 0 21)) (es (K.dq 1 22)) (es (K.dq 7 28))) (QQ bZ c aU c9.Ce f g i j m o p q r s d e z aA ZA _ (aB.mv (Ac K.AD)).all (aC.mv (Ac K.AD)).all (aD.mv (Ac K.AD)).all (aE.mv (Ac K.AD)).all (aF.mv (Ac K.AD)).all (x.mv (Ac K.AD)).all (aG.mv (Ac K.AD)).all cN dH)).mono (fun _ _ h=>⟨h.2,h.1⟩)))
        (Aa (oD (fun K=>Ad (K.kO 7) (JG _ _)))
        (Aa (oD (fun K=>As Bh (es (K.dq 9 30)) (aR.bk.ext K.AD) rfl))
        (Aa (oD (fun K=>Ad (K.kO 7) (Le _ _)))
        (Aa (oD (fun K=>As Bh (es (K.dq 11 32)) (aR.bk.ext K.AD) rfl))
        (BI _)))))))))))))) ?_
    intro dY;rintro _ rfl _ rfl _ rfl _ rfl _ rfl _ rfl _ rfl _ rfl _ rfl _ rfl _ rfl _ rfl _ rfl aW;have dI:=c8.ext aW;replace a:=bind_some a;obtain⟨cI,cO,a⟩:=a;refine wE (fun st=>Aj DR (eR st) (Dx (eR st) (eR st) (eR st)) (GZ bZ cN aO.CA aO.CB ZA _ cI cO)) ?_;rintro _ dS ⟨aM,rfl⟩;have cJ:=dI.ext aM;refine wn ?_;rcases Ae (cI) with aN|aN
    ·replace a:=Ap a aN;refine Am rfl aN<|Al<|wM (v:=I y) aT<|wM (v:=I b) u ?_;replace a:=Dy a;obtain⟨cP,a⟩:=a;refine wD (fun st=>Er (k:=.u64) Ho Tryz.underlying91 (eR st) cP) ?_;replace a:=E9 a;obtain⟨cQ,a⟩:=a;refine wD (fun st=>IM (eR st) (eR st) cQ) ?_;replace a:=G6 a;obtain⟨cR,a⟩:=a;refine wD (fun st=>L6 (eR st) (eR st) cR)<|wA (v:=I (Ft y (C3 (1:Int) b))) rfl<|AU<|CS<|Al<|wM (v:=I b) u ?_;replace a:=AF a;obtain⟨cS,a⟩:=a;refine wD (fun st=>BG (eR st) (eR st) cS)<|wA (v:=I (b+1)) rfl<|AU ?_;have dJ:=cJ.erase 0;have cE:=((aI.ext aW).ext aM);have ⟨bL,bM,bN,bO,bP,bQ,bR⟩:=Ea aB aC aD aE aF x aG (mt (Ac aW) (mt (Ac aM) (AV 0)));refine Bi cD (Nat.lt_succ_self _) (fun st=>?_);exact⟨(Ft y (C3 (1:Int) b)),(b+1),a,qo st,sp st 1 aS,sp st 2 t,sp st 5 rfl,sp st 6 rfl,dJ,cE,bL,bM,bN,bO,bP,bQ,bR⟩
    ·replace a:=Aq a aN;refine An rfl aN<|Ct<|CS<|Al<|wM (v:=I b) u ?_;replace a:=AF a;obtain⟨cT,a⟩:=a;refine wD (fun st=>BG (eR st) (eR st) cT)<|wA (v:=I (b+1)) rfl<|AU ?_;have dK:=cJ.erase 0;have cF:=((aI.ext aW).ext aM);have ⟨bS,bT,bU,bV,bW,bX,bY⟩:=Ea aB aC aD aE aF x aG (mt (Ac aW) (mt (Ac aM) (AV 0)));refine Bi cD (Nat.lt_succ_self _) (fun st=>?_);exact⟨y,(b+1),a,qo st,sp st 1 aS,sp st 2 t,sp st 5 aT,sp st 6 rfl,dK,cF,bS,bT,bU,bV,bW,bX,bY⟩
   ·replace a:=Aq a aV;refine An rfl aV<|Dq ?_;obtain rfl:=oi a;refine BC (fun st=>?_);exact⟨rfl,qo st,sp st 5 aT,b4⟩
 case cZ=>
  rintro cX dN dT (⟨rfl,cG,b5,cU⟩);refine lf cG<|AZ<|BS<|cr<|wM (v:=I z2) b5<|wA (v:=I z2) rfl<|wn<|Av ?_;obtain rfl:=oi a;refine Ay rfl rfl ?_;exact⟨cU.AS,rfl⟩
theorem Qd aM b e f g h i j l m n o c d(Z:Nat→Prop) w(q:Sl Az w Z e f b.Ag)(r:Sl (Bs (Ao .i64)) w Z g h b.Ab)(s:Sl AH w Z i j b.Ak)(t:Sl Ba w Z l m b.AJ)(u:Sl Bc w Z n o b.Aw)(x:Sl Bp w Z c d b.Ar) aG(a:Ch aM b=some aG):
 B7 Tryz.prog 61 #[.agg (Ai e f g h i j l m n o c d b).toArray] w (fun v w'=>Ext w w'∧(DT .i64).R w' (zf Z w []) v aG):=by
 unfold Ch at a;refine rq (N:=9) Tryz.func61 fun aN ha aO=>?_;have z:=sA 0 ha;clear ha;have y:Hp FN [] w [] w:=Hp.start (BL.none w);have ⟨aA,aB,aC,aD,aE,aF⟩:=Cp q r s t u x (Bd (Z:=Z) (L:=[]) w);refine cr<|wE (fun st=>BP (v:=.agg (Ai e f g h i j l m n o c d b).toArray) (cs:=(Ai e f g h i j l m n o c d b).toArray) (ee st z) rfl) ?_;rintro _ w1 ⟨b1,rfl,p⟩;have aH:=y.nb p;have aL:=y.BU p;refine wA (v:=I 0) rfl<|wr<|wD (fun st=>Ad (eR st) (EN _ _))<|wD (fun st=>As (v:=.slice c b.Ar.length d) FE (eR st) p.bk rfl)<|wD (fun st=>Be Tryz.underlying65 (eR st)) ?_;replace a:=Dy a;obtain⟨aI,a⟩:=a;refine wD (fun st=>Er (k:=.u64) Ho Tryz.underlying91 (eR st) aI) ?_;replace a:=E9 a;obtain⟨aJ,a⟩:=a;refine wD (fun st=>IM (eR st) (eR st) aJ) ?_;replace a:=AF a;obtain⟨aK,a⟩:=a;refine wD (fun st=>El (eR st) (eR st) aK)<|wA (v:=I ((C3 (1:Int) (b.Ar.length:Int))-1)) rfl<|wn<|Av ?_;obtain rfl:=oi a;refine Ay rfl rfl ?_;exact⟨aH.AS,rfl⟩
theorem a53 bN d f g i j m n p q r s t u(Z:Nat→Prop) w(cQ:Sl Az w Z f g d.Ag)(cR:Sl (Bs (Ao .i64)) w Z i j d.Ab)(cS:Sl AH w Z m n d.Ak)(cT:Sl Ba w Z p q d.AJ)(cU:Sl Bc w Z r s d.Aw)(cV:Sl Bp w Z t u d.Ar) dL(a:Cq bN d=some dL):
 B7 Tryz.prog 53 #[.agg (Ai f g i j m n p q r s t u d).toArray] w (fun v w'=>Ext w w'∧(Fq (Bs (Ao .i64))).R w' (zf Z w []) v dL):=by
 unfold Cq at a;refine rq (N:=32) Tryz.func53 fun eB ha eC=>?_;have c8:=sA 0 ha;clear ha;have c2:Hp FN [] w [] w:=Hp.start (BL.none w);have ⟨bO,bP,bQ,bR,bS,bT⟩:=Cp cQ cR cS cT cU cV (Bd (Z:=Z) (L:=[]) w);refine cr<|wE (fun st=>BP (v:=.agg (Ai f g i j m n p q r s t u d).toArray) (cs:=(Ai f g i j m n p q r s t u d).toArray) (ee st c8) rfl) ?_;rintro _ w1 ⟨b1,rfl,a9⟩;have c3:=c2.nb a9;have d6:=c2.BU a9;refine wA (v:=.slice none 0 0) rfl<|wr<|wA (v:=.slice none 0 0) rfl<|wr<|wD (fun st=>Ad (eR st) (DQ _ _))<|wD (fun st=>AK (l:=[.slice f d.Ag.length g,.slice i d.Ab.length j,.slice m d.Ak.length n]) Dt (eR st) a9.bk rfl rfl) ?_;have ⟨bA,bB,bC⟩:=DU bO bP bQ (AA a9);replace a:=bind_some a;obtain⟨bF,dM,a⟩:=a;refine wE (fun st=>Aj Kw (eR st) (Cy (eR st)) (a28 bN (⟨d.Ag,d.Ab,d.Ak⟩:AO) f g i j m n (zf Z w [some b1]) _ bA bB bC bF dM)) ?_;rintro _ d7 ⟨bM,⟨aD,aE,rfl,aW⟩⟩;have dN:=c3.ext bM;have aW:=aW.mv (c3.CQ (Nat.le_refl _));refine wA (v:=.slice aD bF.length aE) rfl<|wn<|Af<|cr<|wA (v:=I 0) rfl<|wn<|AI ?_;have dO:=dN.nil;have dP:BH (Bs (Ao .i64)) 31 w.heap.size d7 (zf Z w [none,some b1]) none 0 ([]:List (List Int)):=BH.nil _ _ _ _ _;replace a:=bind_some a;obtain⟨z4,bD,a⟩:=a;refine BX (fun dQ aS aL=>(dQ=.exit 0∧∃c x,Fo X0 32 aS∧sl aS 3=.slice c z4.length x∧Hp FN [] w [ob c,some b1] aL∧BH (Bs (Ao .i64)) 31 w.heap.size aL (zf Z w [ob c,some b1]) c x z4)) ?dR ?dS
 case dR=>
  clear a;refine BW (fun cW aS aL=>∃aB,∃o,∃b aF,Bt bN d bF cW aB o=some z4∧Fo X0 32 aS∧sl aS 1=pt b1 0∧sl aS 3=.slice b aB.length aF∧sl aS 4=.slice aD bF.length aE∧sl aS 5=I o∧Hp FN [] w [ob b,some b1] aL∧BH (Bs (Ao .i64)) 31 w.heap.size aL (zf Z w [ob b,some b1]) b aF aB∧Bk aL b1 67 (Ai f g i j m n p q r s t u d).toArray∧Sl Az aL (zf Z w [ob b,some b1]) f g d.Ag∧Sl (Bs (Ao .i64)) aL (zf Z w [ob b,some b1]) i j d.Ab∧Sl AH aL (zf Z w [ob b,some b1]) m n d.Ak∧Sl Ba aL (zf Z w [ob b,some b1]) p q d.AJ∧Sl Bc aL (zf Z w [ob b,some b1]) r s d.Aw∧Sl Bp aL (zf Z w [ob b,some b1]) t u d.Ar∧Sl (Bs (Ao .i64)) aL (zf Z w [ob b,some b1]) aD aE bF) bN ?dT ?dU
  case dT=>
   intro st;have cX:=(a9.bk.ext bM);have ⟨bU,bV,bW⟩:=DU bA bB bC (mt (Ac bM) B8);have ⟨bX,bY,bZ⟩:=DU bR bS bT (mt (AA a9) (mt (Ac bM) B8));have bJ:=(aW.mv B8);exact⟨([]:List (List Int)),(0:Int),none,0,bD,qo st,sp st 1 rfl,sp st 3 rfl,sp st 4 rfl,sp st 5 rfl,dO,dP,cX,bU,bV,bW,bX,bY,bZ,bJ⟩
  case dU=>
   rintro(_|cW) eD eE ⟨aB,o,b,aF,bD,c9,aT,bG,aI,aJ,c4,aH,aK,aX,aY,aZ,a0,a2,a3,aC⟩
   ·exact absurd (show none=some _ from bD) (by simp)
   rw[Bt.eq_2] at bD;have a:=bD;clear bD;refine ro c9<|Af<|cr<|wM (v:=I o) aJ<|wM (v:=.slice aD bF.length aE) aI<|wD (fun st=>Be Tryz.underlying23 (eR st))<|wD (fun st=>B9 (eR st) (eR st))<|wn ?_;rcases Ae (decide (o<(bF.length:Int))) with bI|bI
   ·replace a:=Ap a bI;refine Am rfl bI<|cn<|Af<|AI<|Af ?_;replace a:=AP a;obtain⟨i8,dV,dW,dX,dY,a⟩:=a;obtain⟨d8,d9,_,dZ,⟨cI,cJ,rfl,cY⟩,d0⟩:=Sl.Cz aC rfl dX;replace a:=bind_some a;obtain⟨dA,d1,a⟩:=a;refine BK 7 [Kc (.agg (Ai f g i j m n p q r s t u d).toArray),Kc (.slice aD bF.length aE),Kc (I o),Kc (pt d8 (d9+i8)),Kc (.slice cI dV.length cJ),Kc (I dA),Kc (.agg (Ai f g i j m n p q r s t u d).toArray)] mixed rfl rfl
        (Aa (oD (fun K=>AK (l:=(Ai f g i j m n p q r s t u d)) Cc (es ((K.out 1 rfl).trans aT)) (aK.ext K.AD) rfl rfl))
        (Aa (oD (fun K=>Au (es ((K.out 4 rfl).trans aI))))
        (Aa (oD (fun K=>Au (es ((K.out 5 rfl).trans aJ))))
        (Aa (oD (fun K=>AR (k:=i8) Tryz.underlying23 ES (es (K.dq 1 16)) dZ (es (K.dq 2 17)) dW dY))
        (Aa (oD (fun K=>Bb DB (es (K.dq 3 18)) (d0.mv (Ac K.AD)) rfl))
        (Aa (oE (fun K=>(Aj Lm rfl (CN (es (K.dq 0 15)) (es (K.dq 4 19))) (O7 bN d dV f g i j m n p q r s t u cI cJ ZA _ (aX.mv (Ac K.AD)).all (aY.mv (Ac K.AD)).all (aZ.mv (Ac K.AD)).all (a0.mv (Ac K.AD)).all (a2.mv (Ac K.AD)).all (a3.mv (Ac K.AD)).all (cY.mv (Ac K.AD)).all dA d1)).mono (fun _ _ h=>⟨h.2,h.1⟩)))
        (Aa (oD (fun K=>AK (l:=(Ai f g i j m n p q r s t u d)) Cc (es ((K.out 1 rfl).trans aT)) (aK.ext K.AD) rfl rfl))
        (BI _)))))))) ?_
    intro eN;rintro _ rfl _ rfl _ rfl _ rfl _ rfl _ rfl _ rfl aG;have d2:=c4.ext aG;have ⟨aM,aN,aO,aP,aQ,aR⟩:=Cp aX aY aZ a0 a2 a3 (Ac aG);replace a:=bind_some a;obtain⟨c5,dB,a⟩:=a;refine wE (fun st=>Aj LK (eR st) (Cy (eR st)) (Qd bN d f g i j m n p q r s t u ZA _ aM.all aN.all aO.all aP.all aQ.all aR.all c5 dB)) ?_;rintro _ eF ⟨y,rfl⟩;have cK:=d2.ext y;refine wD (fun st=>CT (eR st) (eR st))<|wn ?_;rcases Ae (dA==c5) with a4|a4
    ·replace a:=Ap a a4;refine Am rfl a4<|Al<|wM (v:=.slice b aB.length aF) bG<|wM (v:=.slice aD bF.length aE) aI<|wM (v:=I o) aJ ?_;replace a:=AP a;obtain⟨i13,a5,dC,dD,dE,a⟩:=a;have z:=((aC.mv (Ac aG)).mv (Ac y));obtain⟨eG,eH,_,dF,⟨aU,aV,rfl,cL⟩,dG⟩:=Sl.Cz z rfl dD;refine wD (fun st=>AR (k:=i13) Tryz.underlying23 ES (eR st) dF (eR st) dC dE)<|wD (fun st=>Bb (v:=.slice aU a5.length aV) DB (eR st) dG rfl)<|wE (fun st=>Cx (e:=31) (vs:= #[(0,.slice aU a5.length aV)]) (cs:= #[.slice aU a5.length aV]) (I5 (eR st)) (by kernel_rfl)) ?_;rintro _ eI ⟨eJ,rfl,aA⟩;have bE:=cK.nb aA;have d3:=cK.BU aA;have b4:=(((aH.ext aG (Ac aG)).ext y (Ac y)).ext aA.gr (AA aA));replace a:=Ci a;obtain⟨cM,a⟩:=a;have bK:=(cL.mv (AA aA));refine wE (fun st=>Hg (ys:=[a5]) Tryz.underlying23 Kr rfl rfl (by decide) (eR st) rfl (eR st) b4 (GK (CM:=[[.slice aU a5.length aV]]) aA.bk ⟨⟨_,_,rfl,bK⟩,trivial⟩ rfl) (by have:=cM;simp only[maxLen];omega) (by have:=cM;omega) bE.sz (by simp)) ?_;rintro _ eK ⟨c6,c7,rfl,a7,bH,dH⟩;have d4:=bE.row a7 1 rfl bH;have dI:=Eb dH (bE.DE a7 1 rfl (fun k hk=>(bH k hk).1));refine wA (v:=.slice c6 ((aB++[a5]).length) c7) rfl<|AU<|CS<|Al<|wM (v:=I o) aJ ?_;replace a:=AF a;obtain⟨dJ,a⟩:=a;refine wD (fun st=>BG (eR st) (eR st) dJ)<|wA (v:=I (o+1)) rfl<|AU ?_;have d5:=d4.erase 0;have cN:=(dI.up (AV 0));have cZ:=((((aK.ext aG).ext y).ext aA.gr).gr a7 (bE.nq 2 1));have ⟨b5,b6,b7,b8,b9,cA⟩:=Cp aM aN aO aP aQ aR (mt (Ac y) (mt (AA aA) (mt (bE.DE a7 1 rfl (fun k hk=>(bH k hk).1)) (AV 0))));have bL:=(((z.mv (AA aA)).mv (bE.DE a7 1 rfl (fun k hk=>(bH k hk).1))).mv (AV 0));refine Bi cW (Nat.lt_succ_self _) (fun st=>?_);exact⟨(aB++[a5]),(o+1),c6,c7,a,qo st,sp st 1 aT,sp st 3 rfl,sp st 4 aI,sp st 5 rfl,d5,cN,cZ,b5,b6,b7,b8,b9,cA,bL⟩
    ·replace a:=Aq a a4;refine An rfl a4<|Ct<|CS<|Al<|wM (v:=I o) aJ ?_;replace a:=AF a;obtain⟨dK,a⟩:=a;refine wD (fun st=>BG (eR st) (eR st) dK)<|wA (v:=I (o+1)) rfl<|AU ?_;have cB:=((aH.ext aG (Ac aG)).ext y (Ac y));have c0:=((aK.ext aG).ext y);have ⟨cC,cD,cE,cF,cG,cH⟩:=Cp aM aN aO aP aQ aR (Ac y);have z:=((aC.mv (Ac aG)).mv (Ac y));refine Bi cW (Nat.lt_succ_self _) (fun st=>?_);exact⟨aB,(o+1),b,aF,a,qo st,sp st 1 aT,sp st 3 bG,sp st 4 aI,sp st 5 rfl,cK,cB,c0,cC,cD,cE,cF,cG,cH,z⟩
   ·replace a:=Aq a bI;refine An rfl bI<|Dq ?_;obtain rfl:=oi a;refine BC (fun st=>?_);exact⟨rfl,b,aF,qo st,sp st 3 bG,c4,aH⟩
 case dS=>
  rintro dQ eA eM (⟨rfl,c,x,c1,cO,cP,a8⟩);refine lf c1<|AZ<|BS<|cr<|wM (v:=.slice c z4.length x) cO<|wA (v:=.slice c z4.length x) rfl<|wn<|Av ?_;obtain rfl:=oi a;refine Ay rfl rfl ?_;exact⟨cP.AS,⟨_,_,rfl,cP.HP (M:=[]) 0 rfl [] rfl trivial a8⟩⟩
theorem Yi aG o r g i(Z:Nat→Prop) w(aV:Sl (Ao .i64) w Z g i o) b4(a:DJ aG o r=some b4):
 B7 Tryz.prog 52 #[.slice g o.length i,I r] w (fun v w'=>Ext w w'∧(OM (DT .i64) Cm).R w' (zf Z w []) v b4):=by
 unfold DJ at a;refine rq (N:=47) Tryz.func52 fun cL ha cM=>?_;have aY:=sA 0 ha;have aZ:=sA 1 ha;clear ha;have b5:Hp FN [] w [] w:=Hp.start (BL.none w);have aH:=aV.mv (Bd (Z:=Z) (L:=[]) w);refine cr<|wA (v:=I 0) rfl<|wA (v:=.bool false) rfl<|wr<|wA (v:=I 0) rfl<|wn<|Af<|cr<|wA (v:=I 0) rfl<|wn<|AI ?_;replace a:=bind_some a;obtain⟨a0,u,a⟩:=a;refine BX (fun a2 m aJ=>(a2=.ret∧∃n,a0=.inl n∧Fo X0 47 m∧sl m 4=I n.1∧sl m 5=.bool n.2∧Hp FN [] w [] aJ)∨(a2=.exit 0∧∃n,a0=.inr n∧Fo X0 47 m∧sl m 6=I n∧Hp FN [] w [] aJ)) ?b6 ?b7
 case b6=>
  clear a;refine BW (fun aW m aJ=>∃l,∃b,B4 aG o r aW l b=some a0∧Fo X0 47 m∧sl m 0=.slice g o.length i∧sl m 1=I r∧sl m 6=I l∧sl m 7=I b∧Hp FN [] w [] aJ∧Sl (Ao .i64) aJ (zf Z w []) g i o) aG ?b8 ?b9
  case b8=>
   intro st;exact⟨(0:Int),(0:Int),u,qo st,sp st 0 aY,sp st 1 aZ,sp st 6 rfl,sp st 7 rfl,b5,aH⟩
  case b9=>
   rintro(_|aW) cN cO ⟨l,b,u,a3,f,q,z,d,aD,j⟩
   ·exact absurd (show none=some _ from u) (by simp)
   rw[B4.eq_2] at u;have a:=u;clear u;refine ro a3<|Af<|cr<|wM (v:=I b) d<|wM (v:=.slice g o.length i) f<|wD (fun st=>Be Tryz.underlying31 (eR st))<|wD (fun st=>B9 (eR st) (eR st))<|wn ?_;rcases Ae (decide (b<(o.length:Int))) with aB|aB
   ·replace a:=Ap a aB;refine Am rfl aB<|cn<|Af<|AI<|Af<|Af ?_;replace a:=AP a;obtain⟨i4,aI,aK,cA,aL,a⟩:=a;obtain⟨a4,a5,_,aM,rfl,aN⟩:=Sl.Cz j rfl cA;replace a:=AF a;obtain⟨aO,a⟩:=a;replace a:=bind_some a;obtain⟨p,aP,a⟩:=a;rcases Ae (!p) with e|e
    ·replace a:=Ap a e;have cI:p=false:=by simpa using e
     refine BK 21 [Kc (.slice g o.length i),Kc (I b),Kc (pt a4 (a5+i4)),Kc (I aI),Kc (I r),Kc (I (r-1)),Kc (.bool p),Kc (.bool !p),Kc (.bool !p),Kc undef,Kc undef,Kc undef,Kc undef,Kc undef,Kc undef,Kc undef,Kc undef,Kc undef,Kc undef,Kc undef,Kc undef] mixed rfl rfl
         (Aa (oD (fun K=>Au (es ((K.out 0 rfl).trans f))))
         (Aa (oD (fun K=>Au (es ((K.out 7 rfl).trans d))))
         (Aa (oD (fun K=>AR (k:=i4) Tryz.underlying31 C7 (es (K.dq 0 14)) aM (es (K.dq 1 15)) aK aL))
         (Aa (oD (fun K=>Bb Bh (es (K.dq 2 16)) (aN.mv (Ac K.AD)) rfl))
         (Aa (oD (fun K=>Au (es ((K.out 1 rfl).trans q))))
         (Aa (oD (fun K=>El (es (K.dq 4 18)) (ec (v:=I 1)) aO))
         (Aa (oE (fun K=>(Aj DR rfl (Dx (es (K.dq 3 17)) (ec (v:=I 0)) (es (K.dq 5 19))) (GZ aG aI 0 (r-1) ZA _ p aP)).mono (fun _ _ h=>⟨h.2,h.1⟩)))
         (Aa (oD (fun K=>CJ (es (K.dq 6 20))))
         (Aa (oD (fun K=>Au (es (K.dq 7 21))))
         (Aa (oT e)
         (Aa (oT e)
         (Aa (oT e)
         (Aa (oU)
         (Aa (oU)
         (Aa (oU)
         (Aa (oU)
         (Aa (oU)
         (Aa (oU)
         (Aa (oU)
         (Aa (oU)
         (Aa (oU)
         (BI _)))))))))))))))))))))) ?_
     intro cB;rintro _ rfl _ rfl _ rfl _ rfl _ rfl _ rfl _ rfl _ rfl _ rfl _ rfl _ rfl _ rfl _ rfl _ rfl _ rfl _ rfl _ rfl _ rfl _ rfl _ rfl _ rfl s;have cC:=aD.ext s;refine FT rfl rfl rfl rfl (by decide)<|wF e<|wD (fun st=>AW (v:=.bool true) (eR st) e (eR st))<|wn<|Am rfl rfl<|cr<|wA (v:=I 0) rfl<|wA (v:=.bool false) rfl<|wn<|Av<|AG<|Dd<|AG ?_;obtain rfl:=oi a;refine BC (fun st=>?_);exact .inl ⟨rfl,((0:Int),false),rfl,qo st,sp st 4 rfl,sp st 5 rfl,cC⟩
    ·replace a:=Aq a e;have cJ:p=true:=by simpa using e
     rcases Ae (decide ((0:Int)<b)) with c|c
     ·replace a:=Ap a c;replace a:=AP a;obtain⟨i11,aE,a7,a8,a9,a⟩:=a;obtain⟨cD,cE,_,bA,rfl,bB⟩:=Sl.Cz j rfl a8;replace a:=AF a;obtain⟨bC,a⟩:=a;replace a:=AP a;obtain⟨i13,aF,bD,bE,bF,a⟩:=a;obtain⟨cF,cG,_,bG,rfl,bH⟩:=Sl.Cz j rfl bE;refine BK 21 [Kc (.slice g o.length i),Kc (I b),Kc (pt a4 (a5+i4)),Kc (I aI),Kc (I r),Kc (I (r-1)),Kc (.bool p),Kc (.bool !p),Kc (.bool !p),Kc (I b),Kc (.bool (decide ((0:Int)<b))),Kc (.bool (decide ((0:Int)<b))),Kc (.slice g o.length i),Kc (I b),Kc (pt cD (cE+i11)),Kc (I aE),Kc (.slice g o.length i),Kc (I b),Kc (I (b-1)),Kc (pt cF (cG+i13)),Kc (I aF)] mixed rfl rfl
          (Aa (oD (fun K=>Au (es ((K.out 0 rfl).trans f))))
          (Aa (oD (fun K=>Au (es ((K.out 7 rfl).trans d))))
          (Aa (oD (fun K=>AR (k:=i4) Tryz.underlying31 C7 (es (K.dq 0 14)) aM (es (K.dq 1 15)) aK aL))
          (Aa (oD (fun K=>Bb Bh (es (K.dq 2 16)) (aN.mv (Ac K.AD)) rfl))
          (Aa (oD (fun K=>Au (es ((K.out 1 rfl).trans q))))
          (Aa (oD (fun K=>El (es (K.dq 4 18)) (ec (v:=I 1)) aO))
          (Aa (oE (fun K=>(Aj DR rfl (Dx (es (K.dq 3 17)) (ec (v:=I 0)) (es (K.dq 5 19))) (GZ aG aI 0 (r-1) ZA _ p aP)).mono (fun _ _ h=>⟨h.2,h.1⟩)))
          (Aa (oD (fun K=>CJ (es (K.dq 6 20))))
          (Aa (oD (fun K=>Au (es (K.dq 7 21))))
          (Aa (oG e (fun K=>Au (es ((K.out 7 rfl).trans d))))
          (Aa (oG e (fun K=>Gs (es (K.dq 9 23)) (ec (v:=I 0))))
          (Aa (oG e (fun K=>Au (es (K.dq 10 24))))
          (Aa (oG c (fun K=>Au (es ((K.out 0 rfl).trans f))))
          (Aa (oG c (fun K=>Au (es ((K.out 7 rfl).trans d))))
          (Aa (oG c (fun K=>AR (k:=i11) Tryz.underlying31 C7 (es (K.dq 12 26)) bA (es (K.dq 13 27)) a7 a9))
          (Aa (oG c (fun K=>Bb Bh (es (K.dq 14 28)) (bB.mv (Ac K.AD)) rfl))
          (Aa (oG c (fun K=>Au (es ((K.out 0 rfl).trans f))))
          (Aa (oG c (fun K=>Au (es ((K.out 7 rfl).trans d))))
          (Aa (oG c (fun K=>El (es (K.dq 17 31)) (ec (v:=I 1)) bC))
          (Aa (oG c (fun K=>AR (k:=i13) Tryz.underlying31 C7 (es (K.dq 16 30)) bG (es (K.dq 18 32)) bD bF))
          (Aa (oG c (fun K=>Bb Bh (es (K.dq 19 33)) (bH.mv (Ac K.AD)) rfl))
          (BI _)))))))))))))))))))))) ?_
      intro cB;rintro _ rfl _ rfl _ rfl _ rfl _ rfl _ rfl _ rfl _ rfl _ rfl _ rfl _ rfl _ rfl _ rfl _ rfl _ rfl _ rfl _ rfl _ rfl _ rfl _ rfl _ rfl s;have aX:=aD.ext s;refine wG c (fun st=>JP (eR st) (eR st))<|wG e (fun st=>AW (v:=.bool (decide (aE≤aF))) (eR st) c (eR st))<|wD (fun st=>Bo (v:=.bool (decide (aE≤aF))) (eR st) e (eR st))<|wn ?_;rcases Ae (decide (aE≤aF)) with t|t
      ·replace a:=Ap a t;refine Am rfl t<|cr<|wA (v:=I 0) rfl<|wA (v:=.bool false) rfl<|wn<|Av<|AG<|Dd<|AG ?_;obtain rfl:=oi a;refine BC (fun st=>?_);exact .inl ⟨rfl,((0:Int),false),rfl,qo st,sp st 4 rfl,sp st 5 rfl,aX⟩
      ·replace a:=Aq a t;refine An rfl t<|cn<|Al<|wM (v:=I l) z<|wM (v:=.slice g o.length i) f<|wM (v:=I b) d ?_;replace a:=AP a;obtain⟨i15,aQ,bI,bJ,bK,a⟩:=a;have x:=(j.mv (Ac s));obtain⟨cP,cQ,_,bL,rfl,bM⟩:=Sl.Cz x rfl bJ;refine wD (fun st=>AR (k:=i15) Tryz.underlying31 C7 (eR st) bL (eR st) bI bK)<|wD (fun st=>Bb (v:=I aQ) Bh (eR st) bM rfl) ?_;replace a:=Dy a;obtain⟨bN,a⟩:=a;refine wD (fun st=>Er (k:=.u64) Ho Tryz.underlying91 (eR st) bN) ?_;replace a:=E9 a;obtain⟨bO,a⟩:=a;refine wD (fun st=>IM (eR st) (eR st) bO) ?_;replace a:=G6 a;obtain⟨bP,a⟩:=a;refine wD (fun st=>L6 (eR st) (eR st) bP)<|wA (v:=I (Ft l (C3 (1:Int) aQ))) rfl<|AU<|CS<|Al<|wM (v:=I b) d ?_;replace a:=AF a;obtain⟨bQ,a⟩:=a;refine wD (fun st=>BG (eR st) (eR st) bQ)<|wA (v:=I (b+1)) rfl<|AU ?_;refine Bi aW (Nat.lt_succ_self _) (fun st=>?_);exact⟨(Ft l (C3 (1:Int) aQ)),(b+1),a,qo st,sp st 0 f,sp st 1 q,sp st 6 rfl,sp st 7 rfl,aX,x⟩
     ·replace a:=Aq a c;refine BK 21 [Kc (.slice g o.length i),Kc (I b),Kc (pt a4 (a5+i4)),Kc (I aI),Kc (I r),Kc (I (r-1)),Kc (.bool p),Kc (.bool !p),Kc (.bool !p),Kc (I b),Kc (.bool (decide ((0:Int)<b))),Kc (.bool (decide ((0:Int)<b))),Kc undef,Kc undef,Kc undef,Kc undef,Kc undef,Kc undef,Kc undef,Kc undef,Kc undef] mixed rfl rfl
          (Aa (oD (fun K=>Au (es ((K.out 0 rfl).trans f))))
          (Aa (oD (fun K=>Au (es ((K.out 7 rfl).trans d))))
          (Aa (oD (fun K=>AR (k:=i4) Tryz.underlying31 C7 (es (K.dq 0 14)) aM (es (K.dq 1 15)) aK aL))
          (Aa (oD (fun K=>Bb Bh (es (K.dq 2 16)) (aN.mv (Ac K.AD)) rfl))
          (Aa (oD (fun K=>Au (es ((K.out 1 rfl).trans q))))
          (Aa (oD (fun K=>El (es (K.dq 4 18)) (ec (v:=I 1)) aO))
          (Aa (oE (fun K=>(Aj DR rfl (Dx (es (K.dq 3 17)) (ec (v:=I 0)) (es (K.dq 5 19))) (GZ aG aI 0 (r-1) ZA _ p aP)).mono (fun _ _ h=>⟨h.2,h.1⟩)))
          (Aa (oD (fun K=>CJ (es (K.dq 6 20))))
          (Aa (oD (fun K=>Au (es (K.dq 7 21))))
          (Aa (oG e (fun K=>Au (es ((K.out 7 rfl).trans d))))
          (Aa (oG e (fun K=>Gs (es (K.dq 9 23)) (ec (v:=I 0))))
          (Aa (oG e (fun K=>Au (es (K.dq 10 24))))
          (Aa (oT c)
          (Aa (oT c)
          (Aa (oT c)
          (Aa (oT c)
          (Aa (oT c)
          (Aa (oT c)
          (Aa (oT c)
          (Aa (oT c)
          (Aa (oT c)
          (BI _)))))))))))))))))))))) ?_
      intro cB;rintro _ rfl _ rfl _ rfl _ rfl _ rfl _ rfl _ rfl _ rfl _ rfl _ rfl _ rfl _ rfl _ rfl _ rfl _ rfl _ rfl _ rfl _ rfl _ rfl _ rfl _ rfl s;have cH:=aD.ext s;refine wF c<|wG e (fun st=>Bo (v:=.bool false) (eR st) c (eR st))<|wD (fun st=>Bo (v:=.bool false) (eR st) e (eR st))<|wn<|An rfl rfl<|cn<|Al<|wM (v:=I l) z<|wM (v:=.slice g o.length i) f<|wM (v:=I b) d ?_;replace a:=AP a;obtain⟨i20,aR,bR,bS,bT,a⟩:=a;have y:=(j.mv (Ac s));obtain⟨cR,cS,_,bU,rfl,bV⟩:=Sl.Cz y rfl bS;refine wD (fun st=>AR (k:=i20) Tryz.underlying31 C7 (eR st) bU (eR st) bR bT)<|wD (fun st=>Bb (v:=I aR) Bh (eR st) bV rfl) ?_;replace a:=Dy a;obtain⟨bW,a⟩:=a;refine wD (fun st=>Er (k:=.u64) Ho Tryz.underlying91 (eR st) bW) ?_;replace a:=E9 a;obtain⟨bX,a⟩:=a;refine wD (fun st=>IM (eR st) (eR st) bX) ?_;replace a:=G6 a;obtain⟨bY,a⟩:=a;refine wD (fun st=>L6 (eR st) (eR st) bY)<|wA (v:=I (Ft l (C3 (1:Int) aR))) rfl<|AU<|CS<|Al<|wM (v:=I b) d ?_;replace a:=AF a;obtain⟨bZ,a⟩:=a;refine wD (fun st=>BG (eR st) (eR st) bZ)<|wA (v:=I (b+1)) rfl<|AU ?_;refine Bi aW (Nat.lt_succ_self _) (fun st=>?_);exact⟨(Ft l (C3 (1:Int) aR)),(b+1),a,qo st,sp st 0 f,sp st 1 q,sp st 6 rfl,sp st 7 rfl,cH,y⟩
   ·replace a:=Aq a aB;refine An rfl aB<|Dq ?_;obtain rfl:=oi a;refine BC (fun st=>?_);exact .inr ⟨rfl,l,rfl,qo st,sp st 6 z,aD⟩
 case b7=>
  rintro a2 cK cT (⟨rfl,n,rfl,aA,aS,aT,aC⟩|⟨rfl,n,rfl,aA,aU,aC⟩)
  ·skip
   replace a:=C9 a;refine lf aA<|Dd ?_;obtain rfl:=oi a;refine D1 rfl aS aT ?_;exact⟨aC.AS,⟨_,_,rfl,rfl,rfl⟩⟩
  ·skip
   replace a:=Da a;refine lf aA<|AZ<|BS<|cr<|wM (v:=I n) aU<|wA (v:=I n) rfl<|wA (v:=.bool true) rfl<|wn<|Av ?_;obtain rfl:=oi a;refine D1 rfl rfl rfl ?_;exact⟨aC.AS,⟨_,_,rfl,rfl,rfl⟩⟩
theorem Yg bP c aO aU f g d e i j m n o p q r aH aI(Z:Nat→Prop) w(bT:Sl Az w Z f g c.Ag)(bU:Sl (Bs (Ao .i64)) w Z d e c.Ab)(bV:Sl AH w Z i j c.Ak)(bW:Sl Ba w Z m n c.AJ)(bX:Sl Bc w Z o p c.Aw)(bY:Sl Bp w Z q r c.Ar)(bZ:Sl (Ao .i64) w Z aH aI aO) cM(a:DD bP c aO aU=some cM):
 B7 Tryz.prog 55 #[.agg (Ai f g d e i j m n o p q r c).toArray,.slice aH aO.length aI,I aU] w (fun v w'=>Ext w w'∧(DT .i64).R w' (zf Z w []) v cM):=by
 unfold DD at a;refine rq (N:=38) Tryz.func55 fun c0 ha c1=>?_;have cA:=sA 0 ha;have cB:=sA 1 ha;have cC:=sA 2 ha;clear ha;have b8:Hp FN [] w [] w:=Hp.start (BL.none w);have ⟨aV,aW,aX,aY,aZ,a0,a2⟩:=Ea bT bU bV bW bX bY bZ (Bd (Z:=Z) (L:=[]) w);refine cr<|wE (fun st=>BP (v:=.agg (Ai f g d e i j m n o p q r c).toArray) (cs:=(Ai f g d e i j m n o p q r c).toArray) (ee st cA) rfl) ?_;rintro _ w1 ⟨b1,rfl,aT⟩;have cN:=b8.nb aT;have cY:=b8.BU aT;refine wA (v:=I 0) rfl<|wr<|wA (v:=I 0) rfl<|wn<|Af<|cr<|wA (v:=I 0) rfl<|wn<|AI ?_;replace a:=bind_some a;obtain⟨z2,aK,a⟩:=a;refine BX (fun cO aG aJ=>(cO=.exit 0∧Fo X0 38 aG∧sl aG 7=I z2∧Hp FN [] w [some b1] aJ)) ?cP ?cQ
 case cP=>
  clear a;refine BW (fun b4 aG aJ=>∃u,∃b,Cv bP c aO aU b4 u b=some z2∧Fo X0 38 aG∧sl aG 1=.slice aH aO.length aI∧sl aG 2=I aU∧sl aG 3=pt b1 0∧sl aG 7=I u∧sl aG 8=I b∧Hp FN [] w [some b1] aJ∧Bk aJ b1 67 (Ai f g d e i j m n o p q r c).toArray∧Sl Az aJ (zf Z w [some b1]) f g c.Ag∧Sl (Bs (Ao .i64)) aJ (zf Z w [some b1]) d e c.Ab∧Sl AH aJ (zf Z w [some b1]) i j c.Ak∧Sl Ba aJ (zf Z w [some b1]) m n c.AJ∧Sl Bc aJ (zf Z w [some b1]) o p c.Aw∧Sl Bp aJ (zf Z w [some b1]) q r c.Ar∧Sl (Ao .i64) aJ (zf Z w [some b1]) aH aI aO) bP ?cR ?cS
  case cR=>
   intro st;have ⟨a3,a4,a5,a7,a8,a9,bA⟩:=Ea aV aW aX aY aZ a0 a2 (AA aT);exact⟨(0:Int),(0:Int),aK,qo st,sp st 1 cB,sp st 2 cC,sp st 3 rfl,sp st 7 rfl,sp st 8 rfl,cN,aT.bk,a3,a4,a5,a7,a8,a9,bA⟩
  case cS=>
   rintro(_|b4) c2 c3 ⟨u,b,aK,cD,aL,aM,aD,aN,aE,bQ,s,x,y,z,aA,aB,aC,aF⟩
   ·exact absurd (show none=some _ from aK) (by simp)
   rw[Cv.eq_2] at aK;have a:=aK;clear aK;refine ro cD<|Af<|cr<|wM (v:=I b) aE<|wD (fun st=>Ad (ee st aD) (DQ _ _))<|wD (fun st=>Ad (eR st) (DP _ _))<|wD (fun st=>As (v:=.slice d c.Ab.length e) DH (eR st) s rfl)<|wD (fun st=>Be Tryz.underlying23 (eR st))<|wD (fun st=>B9 (eR st) (eR st))<|wn ?_;rcases Ae (decide (b<(c.Ab.length:Int))) with aP|aP
   ·replace a:=Ap a aP;refine Am rfl aP<|cn<|Af<|AI<|cr<|wM (v:=I aU) aM<|wM (v:=I b) aE ?_;replace a:=Dy a;obtain⟨cT,a⟩:=a;refine wD (fun st=>Er (k:=.u64) Ho Tryz.underlying91 (eR st) cT) ?_;replace a:=GS a;obtain⟨cU,a⟩:=a;refine wD (fun st=>KI (eR st) (eR st) cU) ?_;replace a:=GM a;obtain⟨b9,a⟩:=a;refine wD (fun st=>JO (eR st) (eR st) b9.1 b9.2)<|wD (fun st=>CT (eR st) (eR st))<|wn ?_;rcases Ae (((EK aU b)%2)==1) with aQ|aQ
    ·replace a:=Ap a aQ;refine Am rfl aQ<|Al<|wM (v:=I u) aN<|wD (fun st=>AK (l:=(Ai f g d e i j m n o p q r c)) Cc (ee st aD) s rfl rfl)<|wM (v:=.slice aH aO.length aI) aL<|wM (v:=I b) aE ?_;replace a:=bind_some a;obtain⟨cE,cV,a⟩:=a;refine wE (fun st=>Aj Mq (eR st) (Dx (eR st) (eR st) (eR st)) (QQ bP c aO b f g d e i j m n o p q r aH aI ZA _ x.all y.all z.all aA.all aB.all aC.all aF.all cE cV)) ?_;rintro _ c6 ⟨bR,rfl⟩;have cW:=bQ.ext bR;replace a:=AF a;obtain⟨cF,a⟩:=a;refine wD (fun st=>BG (eR st) (eR st) cF)<|wA (v:=I (u+cE)) rfl<|AU<|CS<|Al<|wM (v:=I b) aE ?_;replace a:=AF a;obtain⟨cG,a⟩:=a;refine wD (fun st=>BG (eR st) (eR st) cG)<|wA (v:=I (b+1)) rfl<|AU ?_;have b5:=(s.ext bR);have ⟨bB,bC,bD,bE,bF,bG,bH⟩:=Ea x y z aA aB aC aF (Ac bR);refine Bi b4 (Nat.lt_succ_self _) (fun st=>?_);exact⟨(u+cE),(b+1),a,qo st,sp st 1 aL,sp st 2 aM,sp st 3 aD,sp st 7 rfl,sp st 8 rfl,cW,b5,bB,bC,bD,bE,bF,bG,bH⟩
    ·replace a:=Aq a aQ;refine An rfl aQ ?_;replace a:=bind_some a;obtain⟨aR,cH,a⟩:=a;replace a:=AF a;obtain⟨cI,a⟩:=a;refine BK 7 [Kc (I u),Kc (pt b1 3),Kc (I c.Flat),Kc (.agg (Ai f g d e i j m n o p q r c).toArray),Kc (I b),Kc (I aR),Kc (I (c.Flat*aR))] mixed rfl rfl
         (Aa (oD (fun K=>Au (es (t:=7) ((K.later 8 7 _ rfl rfl rfl).trans aN))))
         (Aa (oD (fun K=>Ad (es ((K.out 3 rfl).trans aD)) (Pf _ _)))
         (Aa (oD (fun K=>As Bh (es (K.dq 1 30)) (s.ext K.AD) rfl))
         (Aa (oD (fun K=>AK (l:=(Ai f g d e i j m n o p q r c)) Cc (es ((K.out 3 rfl).trans aD)) (s.ext K.AD) rfl rfl))
         (Aa (oD (fun K=>Au (es ((K.out 8 rfl).trans aE))))
         (Aa (oE (fun K=>(Aj Nn rfl (CN (es (K.dq 3 32)) (es (K.dq 4 33))) (RE bP c b f g d e i j m n o p q r ZA _ (x.mv (Ac K.AD)).all (y.mv (Ac K.AD)).all (z.mv (Ac K.AD)).all (aA.mv (Ac K.AD)).all (aB.mv (Ac K.AD)).all (aC.mv (Ac K.AD)).all aR cH)).mono (fun _ _ h=>⟨h.2,h.1⟩)))
         (Aa (oD (fun K=>N0 (es (K.dq 2 31)) (es (K.dq 5 34)) cI))
         (BI _)))))))) ?_
     intro c4;rintro _ rfl _ rfl _ rfl _ rfl _ rfl _ rfl _ rfl aS;have cX:=bQ.ext aS;replace a:=AF a;obtain⟨cJ,a⟩:=a;refine wD (fun st=>BG (eR st) (eR st) cJ)<|wA (v:=I (u+(c.Flat*aR))) rfl<|AU<|CS<|Al<|wM (v:=I b) aE ?_;replace a:=AF a;obtain⟨cK,a⟩:=a;refine wD (fun st=>BG (eR st) (eR st) cK)<|wA (v:=I (b+1)) rfl<|AU ?_;have b6:=(s.ext aS);have ⟨bI,bJ,bK,bL,bM,bN,bO⟩:=Ea x y z aA aB aC aF (Ac aS);refine Bi b4 (Nat.lt_succ_self _) (fun st=>?_);exact⟨(u+(c.Flat*aR)),(b+1),a,qo st,sp st 1 aL,sp st 2 aM,sp st 3 aD,sp st 7 rfl,sp st 8 rfl,cX,b6,bI,bJ,bK,bL,bM,bN,bO⟩
   ·replace a:=Aq a aP;refine An rfl aP<|Dq ?_;obtain rfl:=oi a;refine BC (fun st=>?_);exact⟨rfl,qo st,sp st 7 aN,bQ⟩
 case cQ=>
  rintro cO cZ c5 (⟨rfl,b7,bS,cL⟩);refine lf b7<|AZ<|BS<|cr<|wM (v:=I z2) bS<|wA (v:=I z2) rfl<|wn<|Av ?_;obtain rfl:=oi a;refine Ay rfl rfl ?_;exact⟨cL.AS,rfl⟩
theorem a51 u c a b(Z:Nat→Prop) w(h:Sl (Ao .i64) w Z a b c) p(d:Cr u c=some p):
 B7 Tryz.prog 51 #[.slice a c.length b] w (fun v w'=>Ext w w'∧(Fq (Ao .i64)).R w' (zf Z w []) v p):=by
 unfold Cr at d;refine rq (N:=5) Tryz.func51 fun z ha aA=>?_;have o:=sA 0 ha;clear ha;have q:Hp FN [] w [] w:=Hp.start (BL.none w);have e:=h.mv (Bd (Z:=Z) (L:=[]) w);refine cr<|wA (v:=.slice none 0 0) rfl<|wr<|wM (v:=.slice a c.length b) o ?_;have g:=q.nil;have r:BH (Ao .i64) 3 w.heap.size w (zf Z w [none]) none 0 ([]:List Int):=BH.nil _ _ _ _ _;replace d:=Ci d;obtain⟨i,d⟩:=d;have f:=(e.mv B8);refine wE (fun st=>I0 (ys:=c) Tryz.underlying31 HG rfl rfl (by decide) (eR st) rfl (eR st) r f.n (by have:=i;simp only[maxLen];omega) (by have:=i;omega) g.sz) ?_;rintro _ aB ⟨x,y,rfl,j,l,s⟩;have m:=g.row j 0 rfl l;have t:=Eb s (g.DE j 0 rfl (fun k hk=>(l k hk).1));refine wA (v:=.slice x ((([]:List Int)++c).length) y) rfl<|wn<|Av ?_;obtain rfl:=oi d;refine Ay rfl rfl ?_;exact⟨m.AS,⟨_,_,rfl,m.HP (M:=[]) 0 rfl [] rfl trivial t⟩⟩
theorem X7 aV p a b c d e f g h i j k m(Z:Nat→Prop) w(aM:Sl Az w Z a b p.Ag)(aN:Sl (Bs (Ao .i64)) w Z c d p.Ab)(aO:Sl AH w Z e f p.Ak)(aP:Sl Ba w Z g h p.AJ)(aQ:Sl Bc w Z i j p.Aw)(aR:Sl Bp w Z k m p.Ar) aZ(o:CY aV p=some aZ):
 B7 Tryz.prog 48 #[.agg (Ai a b c d e f g h i j k m p).toArray] w (fun v w'=>Ext w w'∧Cm.R w' (zf Z w []) v aZ):=by
 unfold CY at o;refine rq (N:=10) Tryz.func48 fun a8 ha a9=>?_;have aW:=sA 0 ha;clear ha;have aT:Hp FN [] w [] w:=Hp.start (BL.none w);have ⟨z,aA,aB,aC,aD,aE⟩:=Cp aM aN aO aP aQ aR (Bd (Z:=Z) (L:=[]) w);refine cr<|wE (fun st=>BP (v:=.agg (Ai a b c d e f g h i j k m p).toArray) (cs:=(Ai a b c d e f g h i j k m p).toArray) (ee st aW) rfl) ?_;rintro _ w1 ⟨b1,rfl,y⟩;have a0:=aT.nb y;have a7:=aT.BU y;refine wA (v:=.bool false) rfl<|wr<|wD (fun st=>AK (l:=(Ai a b c d e f g h i j k m p)) Cc (eR st) y.bk rfl rfl) ?_;have ⟨q,r,s,t,u,x⟩:=Cp z aA aB aC aD aE (AA y);replace o:=bind_some o;obtain⟨aX,a2,o⟩:=o;refine wE (fun st=>Aj Pr (eR st) (Cy (eR st)) (U8 aV p a b c d e f g h i j k m ZA _ q.all r.all s.all t.all u.all x.all aX a2)) ?_;rintro _ bA ⟨aL,rfl⟩;have aU:=a0.ext aL;refine wM (v:=.bool aX) rfl ?_;rcases Ae (aX) with n|n
 ·replace o:=Ap o n;have aS:=(y.bk.ext aL);refine wG n (fun st=>AK (l:=(Ai a b c d e f g h i j k m p)) Cc (eR st) aS rfl rfl) ?_;have ⟨aF,aG,aH,aI,aJ,aK⟩:=Cp q r s t u x (Ac aL);replace o:=bind_some o;obtain⟨aY,a3,o⟩:=o;refine wX n (fun st=>Aj OC (eR st) (Cy (eR st)) (a116 aV p a b c d e f g h i j k m ZA _ aF.all aG.all aH.all aI.all aJ.all aK.all aY a3)) ?_;rintro _ bB ⟨a4,rfl⟩;have a5:=aU.ext a4;refine wG n (fun st=>CT (eR st) (eR st))<|wD (fun st=>AW (v:=.bool (aY==0)) (eR st) n (eR st))<|wA (v:=.bool (aY==0)) rfl<|wn<|Av ?_;obtain rfl:=oi o;refine Ay rfl rfl ?_;exact⟨a5.AS,rfl⟩
 ·replace o:=Aq o n;refine wF n<|wF n<|wF n<|wD (fun st=>Bo (v:=.bool false) (eR st) n (eR st))<|wA (v:=.bool false) rfl<|wn<|Av ?_;obtain rfl:=oi o;refine Ay rfl rfl ?_;exact⟨aU.AS,rfl⟩
theorem a49 aM b r f g c d h i j l m n o p(Z:Nat→Prop) w(s:Sl Az w Z f g b.Ag)(t:Sl (Bs (Ao .i64)) w Z c d b.Ab)(u:Sl AH w Z h i b.Ak)(x:Sl Ba w Z j l b.AJ)(y:Sl Bc w Z m n b.Aw)(z:Sl Bp w Z o p b.Ar) aN(a:Em aM b r=some aN):
 B7 Tryz.prog 49 #[.agg (Ai f g c d h i j l m n o p b).toArray,.int .u8 r] w (fun v w'=>Ext w w'∧(Fq (Ao .i64)).R w' (zf Z w []) v aN):=by
 unfold Em at a;refine rq (N:=16) Tryz.func49 fun aY ha aZ=>?_;have aE:=sA 0 ha;have aF:=sA 1 ha;clear ha;have aC:Hp FN [] w [] w:=Hp.start (BL.none w);have ⟨aG,aH,aI,aJ,aK,aL⟩:=Cp s t u x y z (Bd (Z:=Z) (L:=[]) w);refine cr<|wE (fun st=>BP (v:=.agg (Ai f g c d h i j l m n o p b).toArray) (cs:=(Ai f g c d h i j l m n o p b).toArray) (ee st aE) rfl) ?_;rintro _ w1 ⟨b1,rfl,q⟩;have aD:=aC.nb q;have aX:=aC.BU q;refine wA (v:=.slice none 0 0) rfl<|wr<|wM (v:=.int .u8 r) aF ?_;replace a:=Dy a;obtain⟨aO,a⟩:=a;refine wD (fun st=>Er (k:=.i64) V5 Tryz.underlying3 (eR st) aO)<|wD (fun st=>Ad (eR st) (DQ _ _))<|wD (fun st=>Ad (eR st) (DP _ _))<|wD (fun st=>As (v:=.slice c b.Ab.length d) DH (eR st) q.bk rfl)<|wD (fun st=>Be Tryz.underlying23 (eR st)) ?_;replace a:=Dy a;obtain⟨aP,a⟩:=a;refine wD (fun st=>Er (k:=.u64) Ho Tryz.underlying91 (eR st) aP) ?_;replace a:=E9 a;obtain⟨aQ,a⟩:=a;refine wD (fun st=>IM (eR st) (eR st) aQ) ?_;replace a:=AF a;obtain⟨aR,a⟩:=a;refine wD (fun st=>El (eR st) (eR st) aR) ?_;replace a:=G6 a;obtain⟨aS,a⟩:=a;refine wD (fun st=>R9 (eR st) (eR st) aS) ?_;replace a:=bind_some a;obtain⟨aT,aU,a⟩:=a;refine wE (fun st=>Aj Ms (eR st) (Cy (eR st)) (QU aM (Lg r ((C3 (1:Int) (b.Ab.length:Int))-1)) (zf Z w [some b1]) _ aT aU)) ?_;rintro _ a0 ⟨aV,⟨aA,aB,rfl,e⟩⟩;have aW:=aD.ext aV;have e:=e.mv (aD.CQ (Nat.le_refl _));refine wA (v:=.slice aA aT.length aB) rfl<|wn<|Av ?_;obtain rfl:=oi a;refine Ay rfl rfl ?_;exact⟨aW.AS,⟨_,_,rfl,e.mv (BQ (CE [] trivial))⟩⟩
end Go.Proofs.YtbhofkcbfblijaaGreat
end
section
namespace Go.Proofs.YtbhofkcbfblijaaGreat
open Go.RowKit Go.ChangeShapes Go.WideShapes
section
variable{H:Type}{enc:TypeId×Value→H}{P:Program}{W W':World}
variable{α:Type}{e:ED α}{wf:α→Prop}{t:TypeId}{b0:Nat}{v:Value}{d:DataW H}{p:List MemPlace}{sp:Nat→Bool}
theorem MG{k:IntKind}(a:P.underlying t=some (.int k))(b:Value.okWide P W .any b0 t v)(h:DataW.Trod enc P W 0 sp true t v d p):∃n,v=.int k n∧IH k n:=by
 obtain⟨n,h1,_,_,c⟩:=open_int a b h;exact⟨n,h1,c⟩
end
theorem T5{x:Int}(h:IH .u8 x):0≤x∧x<256:=by
 have h2:(decide (IntKind.u8.min≤x)&&decide (x≤IntKind.u8.max))=true:=h;rw[Bool.and_eq_true,decide_eq_true_eq,decide_eq_true_eq] at h2;have a:IntKind.u8.min=0:=by decide
 have b:IntKind.u8.max=255:=by decide
 omega
theorem Rn{x:Int}(h:IH .u16 x):0≤x∧x<65536:=by
 have h2:(decide (IntKind.u16.min≤x)&&decide (x≤IntKind.u16.max))=true:=h;rw[Bool.and_eq_true,decide_eq_true_eq,decide_eq_true_eq] at h2;have a:IntKind.u16.min=0:=by decide
 have b:IntKind.u16.max=65535:=by decide
 omega
end Go.Proofs.YtbhofkcbfblijaaGreat
end
