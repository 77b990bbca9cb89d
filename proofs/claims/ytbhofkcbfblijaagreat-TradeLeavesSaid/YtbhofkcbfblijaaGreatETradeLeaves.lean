import Derived.Test.YtbhofkcbfblijaaGreatCH6
import Derived.WalkKit
import Derived.KernelRfl
import Derived.WalkSpells
import Derived.WalkLawsBesides
import Derived.Maps.AppendAt
import Derived.OrdersIn
import Derived.RangeFuncIn
import Derived.RangeFuncLeaves
import Derived.RangeFuncRecord
import Derived.RangeFuncSeq
import Derived.Scope
import Derived.DeepKeys3
import Derived.Laws.CopyRow
import Derived.Laws.OwnMore
import Derived.Laws.MakeOwn
import Derived.Laws.IdiomCopy
import Derived.Sort.OwnSortedInts
import Derived.Lib.RowBridge
import Derived.Shelf.Sort.Plain
import Derived.Ground.Names2Prog
import Derived.Shelf.Slices.Clone
import Derived.Shelf.Slices.CompactI
import Derived.Shelf.Slices.In.SortNone
import Derived.Ground.SlgnProg
import Derived.Shelf.SlicesE.Clone
import Derived.ProofKit
import Derived.ChangeSame
import Derived.SizedLaws
import Derived.Deep.Slices
import Derived.JoinedOf
import Derived.Test.YtbhofkcbfblijaaGreatProg
import Derived.Test.YtbhofkcbfblijaaGreatRows
/-
  What the law TradeLeaves needs beside the base that several claims of this seat share: contracts, and the plain law.
-/
set_option linter.all false
section
namespace Go.Proofs.YtbhofkcbfblijaaGreat
open Go.RowKit Go.WideShapes
def EK(a n:Int):Int:=a/2^n.toNat
def HV(a n:Int):Option Unit:=if 0≤n∧n<64 then some () else none
theorem GS{α:Type}{a n:Int}{f:Unit→Option α}{r:α}(h:(HV a n).bind f=some r):(0≤n∧n<64)∧f ()=some r:=by
 unfold HV at h;split at h
 ·exact⟨by assumption,h⟩
 ·cases h
def Lg(a b:Int):Int:=((a.toNat&&&b.toNat:Nat):Int)
def Ft(a b:Int):Int:=((a.toNat|||b.toNat:Nat):Int)
def Qz(a b:Int):Int:=((a.toNat^^^(a.toNat&&&b.toNat):Nat):Int)
section
variable{P:Program}{a:Act}{w:World}{dst:Option Tmp}{ty:TypeId}{pos:String}{Ds:Array Edge}{g:Option (Nat×Bool)}
theorem KI{x y:Operand}{m n:Int}{k:IntKind}{t b:TypeId}(c:a.eval x=.int .i64 m)(d:a.eval y=.int k n)(h:0≤n∧n<64):Dm P ⟨dst,.binOp .shr t x y b,ty,pos,Ds,g⟩ a w (fun u w'=>u=.int .i64 (EK m n)∧w'=w):=
 DS (by
  have hn:¬n<0:=by omega
  have hb:min n.toNat IntKind.i64.bits=n.toNat:=by
   have:IntKind.i64.bits=64:=rfl;omega
  have e:m.fdiv (2^n.toNat)=m/2^n.toNat:=Int.fdiv_eq_ediv_of_nonneg m (Int.le_of_lt (Int.pow_pos (by decide)));simp[execOp,c,d,eqGuard,binOp,Op.shift,hn,hb,e,EK])
theorem R9{x y:Operand}{m n:Int}{t b:TypeId}(c:a.eval x=.int .i64 m)(d:a.eval y=.int .i64 n)(h:(0≤m∧m≤9223372036854775807)∧(0≤n∧n≤9223372036854775807)):Dm P ⟨dst,.binOp .and t x y b,ty,pos,Ds,g⟩ a w (fun u w'=>u=.int .i64 (Lg m n)∧w'=w):=
 DS (by
  have e:(BitVec.ofInt 64 m&&&BitVec.ofInt 64 n).toNat=m.toNat&&&n.toNat:=by rw[BitVec.toNat_and,JR h.1.1 h.1.2,JR h.2.1 h.2.2]
  have f:IntKind.i64.wrap ((m.toNat&&&n.toNat:Nat):Int)=((m.toNat&&&n.toNat:Nat):Int):=K9 (Nat.le_trans Nat.and_le_left (by omega));have key:(Op.intBits .and .i64 m n).run P w=.ok (.int .i64 (Lg m n)) w:=by
   show(pure (Value.int .i64 (IntKind.i64.wrap ((BitVec.ofInt 64 m&&&BitVec.ofInt 64 n).toNat:Int))):Sem Value).run P w=_;rw[e,f];rfl
  simp[execOp,c,d,eqGuard,binOp,key])
theorem L6{x y:Operand}{m n:Int}{t b:TypeId}(c:a.eval x=.int .i64 m)(d:a.eval y=.int .i64 n)(h:(0≤m∧m≤9223372036854775807)∧(0≤n∧n≤9223372036854775807)):Dm P ⟨dst,.binOp .or t x y b,ty,pos,Ds,g⟩ a w (fun u w'=>u=.int .i64 (Ft m n)∧w'=w):=
 DS (by
  have e:(BitVec.ofInt 64 m|||BitVec.ofInt 64 n).toNat=m.toNat|||n.toNat:=by rw[BitVec.toNat_or,JR h.1.1 h.1.2,JR h.2.1 h.2.2]
  have i:m.toNat|||n.toNat<2^63:=Nat.or_lt_two_pow (by omega) (by omega);have f:IntKind.i64.wrap ((m.toNat|||n.toNat:Nat):Int)=((m.toNat|||n.toNat:Nat):Int):=K9 (by omega);have key:(Op.intBits .or .i64 m n).run P w=.ok (.int .i64 (Ft m n)) w:=by
   show(pure (Value.int .i64 (IntKind.i64.wrap ((BitVec.ofInt 64 m|||BitVec.ofInt 64 n).toNat:Int))):Sem Value).run P w=_;rw[e,f];rfl
  simp[execOp,c,d,eqGuard,binOp,key])
theorem AaH(x y:BitVec 64):(x&&&~~~y).toNat=x.toNat^^^(x.toNat&&&y.toNat):=by
 have:x&&&~~~y=x^^^(x&&&y):=by ext i hi;simp;cases x[i]<;>simp
 rw[this,BitVec.toNat_xor,BitVec.toNat_and]
theorem AbP{x y:Operand}{m n:Int}{t b:TypeId}(c:a.eval x=.int .i64 m)(d:a.eval y=.int .i64 n)(h:(0≤m∧m≤9223372036854775807)∧(0≤n∧n≤9223372036854775807)):Dm P ⟨dst,.binOp .andNot t x y b,ty,pos,Ds,g⟩ a w (fun u w'=>u=.int .i64 (Qz m n)∧w'=w):=
 DS (by
  have e:(BitVec.ofInt 64 m&&&~~~(BitVec.ofInt 64 n)).toNat=m.toNat^^^(m.toNat&&&n.toNat):=by rw[AaH,JR h.1.1 h.1.2,JR h.2.1 h.2.2]
  have i:m.toNat^^^(m.toNat&&&n.toNat)<2^63:=Nat.xor_lt_two_pow (by omega) (Nat.and_lt_two_pow _ (by omega));have f:IntKind.i64.wrap ((m.toNat^^^(m.toNat&&&n.toNat):Nat):Int)=((m.toNat^^^(m.toNat&&&n.toNat):Nat):Int):=K9 (by omega);have key:(Op.intBits .andNot .i64 m n).run P w=.ok (.int .i64 (Qz m n)) w:=by
   show(pure (Value.int .i64 (IntKind.i64.wrap ((BitVec.ofInt 64 m&&&~~~(BitVec.ofInt 64 n)).toNat:Int))):Sem Value).run P w=_;rw[e,f];rfl
  simp[execOp,c,d,eqGuard,binOp,key])
end
def Bm(d:Nat)(b:AO)(c:List Int):Nat→Int→Option ((Bool)⊕(Unit))
 |0,_=>none
 |e+1,a=>cond (decide (a<(c.length:Int))) (cond (decide (a<(b.Ax.length:Int))) ((idx c a).bind fun f=>(idx b.Ax a).bind fun g=>(idx b.Ax a).bind fun h=>(Cn d f g.Lo h.Hi).bind fun i=>cond (!i) (some (.inl false)) ((i64 (a+1)).bind fun _=>Bm d b c e (a+1))) (some (.inr ()))) (some (.inr ()))
def Ck(b:Nat)(c:AO)(d:List Int):Option (Bool):=
 (Bm b c d b (0:Int)).bind fun z=>Sum.elim (fun a=>some (a)) (fun a=>some ((d.length:Int)==(c.Ax.length:Int))) z
def Cj(c:Nat)(d:AO)(a:List Int)(b:Int):Option (Int):=
 cond (decide (b<(a.length:Int))) ((idx a b).bind fun e=>some (e)) ((i64 (b-(a.length:Int))).bind fun _=>(idx d.Bv (b-(a.length:Int))).bind fun f=>(DM c a f).bind fun g=>some (g))
def Cf(b:Nat)(c:AO)(d:List Int)(a:DL):Option (Bool):=
 cond (a.Ce) ((i64 (a.Number+(c.Ax.length:Int))).bind fun _=>(Cj b c d (a.Number+(c.Ax.length:Int))).bind fun g=>(Cn b g a.AM a.AN).bind fun h=>some (h)) ((Cj b c d a.Number).bind fun e=>(Cn b e a.AM a.AN).bind fun f=>some (f))
def AL(c:Nat)(b:AO)(d:List Int):Nat→Int→Option ((Bool)⊕(Unit))
 |0,_=>none
 |g+1,a=>cond (decide (a<(b.AQ.length:Int))) ((idx b.AQ a).bind fun e=>(Cf c b d e).bind fun f=>cond (!f) (some (.inl false)) ((i64 (a+1)).bind fun _=>AL c b d g (a+1))) (some (.inr ()))
def BZ(b:Nat)(c:AO)(d:List Int):Option (Bool):=
 (Ck b c d).bind fun e=>cond (!e) (some (false)) ((AL b c d b (0:Int)).bind fun z=>Sum.elim (fun a=>some (a)) (fun a=>some (true)) z)
def GH(c:List Int)(b:Int):Nat→Int→Option ((Bool)⊕(Unit))
 |0,_=>none
 |e+1,a=>cond (decide (a<(c.length:Int))) ((idx c a).bind fun d=>(LU d b).bind fun _=>cond ((Lg d b)==b) (some (.inl true)) ((i64 (a+1)).bind fun _=>GH c b e (a+1))) (some (.inr ()))
def JM(b:Nat)(c:List Int)(d:Int):Option (Bool):=
 (GH c d b (0:Int)).bind fun z=>Sum.elim (fun a=>some (a)) (fun a=>some (false)) z
def Bj(c:Nat)(d:AO):Nat→(List (List Int))→Int→Option ((List (List Int)))
 |0,_,_=>none
 |f+1,b,a=>(Ez c d).bind fun g=>cond (decide (a<g)) ((FM c d a).bind fun e=>(BZ c d e).bind fun h=>cond (h) ((Es (((b.length+[e].length:Nat):Int)≤140737488355328/24)).bind fun _=>(i64 (a+1)).bind fun _=>Bj c d f (b++[e]) (a+1)) ((i64 (a+1)).bind fun _=>Bj c d f b (a+1))) (some (b))
def By(a:Nat)(b:AO):Option ((List (List Int))):=
 (Bj a b a ([]:List (List Int)) (0:Int)).bind fun z2=>some (z2)
def BO(c:Int):Nat→(List Int)→Int→Option ((List Int))
 |0,_,_=>none
 |d+1,b,a=>(EI .u64 a).bind fun _=>(HV c a).bind fun _=>cond (decide ((0:Int)<(EK c a))) ((EI .u64 a).bind fun _=>(HV c a).bind fun _=>(rem (EK c a) (2:Int)).bind fun _=>cond (((EK c a)%2)==1) ((Es (((b.length+[a].length:Nat):Int)≤140737488355328/8)).bind fun _=>(i64 (a+1)).bind fun _=>BO c d (b++[a]) (a+1)) ((i64 (a+1)).bind fun _=>BO c d b (a+1))) (some (b))
def CI(a:Nat)(b:Int):Option ((List Int)):=
 (BO b a ([]:List Int) (0:Int)).bind fun c=>some (c)
def Cd(b:List Int)(c:List Int):Nat→Int→Option ((Bool)⊕(Unit))
 |0,_=>none
 |e+1,a=>cond (decide (a<(b.length:Int))) (cond (decide (a<(c.length:Int))) ((idx b a).bind fun f=>(idx c a).bind fun g=>cond (f !=g) ((idx b a).bind fun h=>(idx c a).bind fun d=>some (.inl (decide (h<d)))) ((i64 (a+1)).bind fun _=>Cd b c e (a+1))) (some (.inr ()))) (some (.inr ()))
def C0(d:Nat)(b:List Int)(c:List Int):Option (Bool):=
 (Cd b c d (0:Int)).bind fun z=>Sum.elim (fun a=>some (a)) (fun a=>some (decide ((b.length:Int)<(c.length:Int)))) z
def F3(c:Nat)(a:List Int)(b:List Int):Option (Bool):=
 cond (decide ((a.length:Int)<(b.length:Int))) (some (true)) (cond ((a.length:Int)==(b.length:Int)) ((C0 c a b).bind fun d=>some (d)) (some (false)))
def Bn(d:Nat)(c:Ah)(e:List Int):Nat→Int→Int→Option (Int)
 |0,_,_=>none
 |f+1,b,a=>cond (decide (a<(c.Ar.length:Int))) ((idx c.Ar a).bind fun g=>(idx c.Ar a).bind fun i=>(Eg d c e i.Ce).bind fun j=>(Cn d j g.CA g.CB).bind fun h=>cond (h) ((EI .u64 a).bind fun _=>(FL (1:Int) a).bind fun _=>(LU b (C3 (1:Int) a)).bind fun _=>(i64 (a+1)).bind fun _=>Bn d c e f (Ft b (C3 (1:Int) a)) (a+1)) ((i64 (a+1)).bind fun _=>Bn d c e f b (a+1))) (some (b))
def Cg(a:Nat)(b:Ah)(c:List Int):Option (Int):=
 (Bn a b c a (0:Int) (0:Int)).bind fun z2=>some (z2)
def Ch(b:Nat)(a:Ah):Option (Int):=
 (EI .u64 (a.Ar.length:Int)).bind fun _=>(FL (1:Int) (a.Ar.length:Int)).bind fun _=>(i64 ((C3 (1:Int) (a.Ar.length:Int))-1)).bind fun _=>some ((C3 (1:Int) (a.Ar.length:Int))-1)
def IW(d:Nat)(e:Ah)(c:(List (List Int))):Nat→(List Int)→Int→Option ((List Int))
 |0,_,_=>none
 |g+1,b,a=>cond (decide (a<(c.length:Int))) ((idx c a).bind fun h=>(Cg d e h).bind fun f=>(Es (((b.length+[f].length:Nat):Int)≤140737488355328/8)).bind fun _=>(i64 (a+1)).bind fun _=>IW d e c g (b++[f]) (a+1)) (some (b))
def LZ(b:Nat)(a:Ah):Option ((List Int)):=
 (By b (⟨a.Ag,a.Ab,a.Ak⟩:AO)).bind fun c=>(IW b a c b ([]:List Int) (0:Int)).bind fun z4=>some (z4)
def H4(b:Nat)(c:Ah)(d:List Int):Nat→Int→Option ((Int)⊕(Unit))
 |0,_=>none
 |e+1,a=>cond (decide (a<(c.Ar.length:Int))) ((EI .u64 a).bind fun _=>(FL (2:Int) a).bind fun _=>(i64 ((C3 (2:Int) a)-1)).bind fun _=>(JM b d ((C3 (2:Int) a)-1)).bind fun f=>cond (!f) (some (.inl a)) ((i64 (a+1)).bind fun _=>H4 b c d e (a+1))) (some (.inr ()))
def Mx(b:Nat)(c:Ah)(d:List Int):Option (Int):=
 (H4 b c d b (0:Int)).bind fun z=>Sum.elim (fun a=>some (a)) (fun a=>some ((-1))) z
def GI(c:Nat)(d:Ah)(e:List Int):Nat→(List Int)→Int→Option ((List Int))
 |0,_,_=>none
 |h+1,b,a=>(Ch c d).bind fun k=>cond (decide (a≤k)) ((CI c a).bind fun f=>(F3 c f b).bind fun i=>cond (i) ((Ch c d).bind fun g=>(LU g a).bind fun _=>(JM c e (Qz g a)).bind fun j=>cond (j) ((i64 (a+1)).bind fun _=>GI c d e h f (a+1)) ((i64 (a+1)).bind fun _=>GI c d e h b (a+1))) ((i64 (a+1)).bind fun _=>GI c d e h b (a+1))) (some (b))
def K7(a:Nat)(b:Ah)(c:List Int):Option ((List Int)):=
 (Ch a b).bind fun d=>(CI a d).bind fun e=>(GI a b c a e (0:Int)).bind fun f=>some (f)
def C2(a:Nat)(b:Ah):Option (Int):=
 (Fy a b).bind fun c=>some (c)
def CU(b:Nat)(a:Ah):Option (Int):=
 (C2 b a).bind fun c=>cond (c !=0) (some (c)) ((By b (⟨a.Ag,a.Ab,a.Ak⟩:AO)).bind fun d=>cond ((d.length:Int)==0) (some (11)) (some (0)))
end Go.Proofs.YtbhofkcbfblijaaGreat
end
section
namespace Go.Proofs.YtbhofkcbfblijaaGreat
theorem Rl{β:Type}{n:Nat}{a b:Int}{f:Unit→Option β}(h:0≤a∧a≤b∧b≤(n:Int)):(Ph n a b).bind f=f ():=bd (if_pos h)
theorem Mt(r:Bl)(rs:List Bl):Eu (r::rs) []=false:=rfl
theorem Mu(x:Int)(xs:List Int):Eu [] (x::xs)=false:=rfl
namespace OkC
variable{c:AO}(h:OkC c)
include h
end OkC
section
variable{K:Nat}(hK:1000≤K)
include hK
theorem Hv(c:AO)(l:List Int)(hh:c.Ax.length≤100)(hl:l.length≤100):∀(n m i:Nat),l.length=i+n→i≤c.Ax.length→n<m→
  (Bm K c l m (i:Int)).bind (fun z=>Sum.elim (fun q=>some q) (fun _=>some ((l.length:Int)==(c.Ax.length:Int))) z)=some (Eu (c.Ax.drop i) (l.drop i))
 |n,0,i,h,_,hm=>by omega
 |0,m+1,i,h,hi,hm=>by
  rw[Bm.eq_2,cf (df (by omega)),List.drop_eq_nil_of_le (by omega:l.length≤i)];show some ((l.length:Int)==(c.Ax.length:Int))=_
  by_cases e:i<c.Ax.length
  ·rw[List.drop_eq_getElem_cons e,IU (by omega),Mt]
  ·rw[List.drop_eq_nil_of_le (by omega),F9 (by omega),OQ]
 |n+1,m+1,i,h,hi,hm=>by
  have h1:i<l.length:=by omega
  rw[Bm.eq_2,ct (dt (by omega)),List.drop_eq_getElem_cons h1]
  by_cases e:i<c.Ax.length
  ·rw[ct (dt (by omega)),B5 h1,B5 e,B5 e,bd (Hs ..),List.drop_eq_getElem_cons e,Eu];cases DK l[i] c.Ax[i].Lo c.Ax[i].Hi with
   |false=>rw[nf,Bool.false_and];rfl
   |true=>
    rw[nt,Br (by omega) (by omega),CP i,Bool.true_and];exact Hv c l hh hl n m (i+1) (by omega) (by omega) (by omega)
  ·rw[cf (df (by omega)),List.drop_eq_nil_of_le (by omega:c.Ax.length≤i)];show some ((l.length:Int)==(c.Ax.length:Int))=_;rw[IU (by omega),Mu]
theorem IX(c:AO)(l:List Int)(hh:c.Ax.length≤100)(hl:l.length≤100):Ck K c l=some (Eu c.Ax l):=by
 have:=Hv hK c l hh hl l.length K 0 (by omega) (by omega) (by omega);rw[Int.natCast_zero,List.drop_zero,List.drop_zero] at this;exact this
end
section
variable{K:Nat}(hK:1000≤K)
include hK
theorem Kg{c:AO}(b:OkC c){l:List Int}(hl:Eu c.Ax l=true){t:DL}(d:t∈c.AQ):Cf K c l t=some (DK (Ew c l t) t.AM t.AN):=by
 obtain⟨h0,h1,h2⟩:=b.Qp t d;have hh:=KS hl;have:=b.hl;have:=b.cl;unfold Cf Ew;cases e:t.Ce with
 |true=>
  have f:=h1 e;obtain⟨k,hk⟩:∃k:Nat,t.Number=k:=⟨t.Number.toNat,by omega⟩;have a:k<c.Bv.length:=by omega
  rw[ct rfl,Br (by omega) (by omega),ct rfl,hk];unfold Cj;have g:(k:Int)+(c.Ax.length:Int)-(l.length:Int)=(k:Int):=by omega
  rw[cf (df (by omega)),Br (by omega) (by omega),g,B5 a,bd (KV hK b hl a),Option.bind_some,bd (Hs ..),Int.toNat_natCast,Cl _ a]
 |false=>
  have f:=h2 e;obtain⟨k,hk⟩:∃k:Nat,t.Number=k:=⟨t.Number.toNat,by omega⟩;have a:k<l.length:=by omega
  rw[cf rfl,cf rfl,hk];unfold Cj;rw[ct (dt (by omega)),B5 a,Option.bind_some,bd (Hs ..),Int.toNat_natCast,Cl _ a]
theorem IY{c:AO}(a:OkC c){l:List Int}(b:l.length≤100):BZ K c l=some (Dr c l):=by
 have:=a.hl;have:=a.tl;unfold BZ Dr;rw[bd (IX hK c l (by omega) b)];cases hl:Eu c.Ax l with
 |false=>rw[nf,Bool.false_and]
 |true=>
  have h:AL K c l K 0=some (cond (c.AQ.all fun t=>DK (Ew c l t) t.AM t.AN) (.inr ()) (.inl false)):=
   JT c.AQ (fun m i=>AL K c l m (i:Int)) (fun t=>DK (Ew c l t) t.AM t.AN) false
    (fun m i hi=>by
     show AL K c l (m+1) (i:Int)=_;rw[AL.eq_2,ct (dt (by omega)),B5 hi,bd (Kg hK a hl (List.getElem_mem hi))];cases DK (Ew c l c.AQ[i]) c.AQ[i].AM c.AQ[i].AN with
     |false=>rw[nf,cf rfl]
     |true=>rw[nt,Br (by omega) (by omega),CP i,ct rfl])
    (fun m=>by
     show AL K c l (m+1) (c.AQ.length:Int)=_;rw[AL.eq_2,cf (df (by omega))]) (by omega)
  rw[nt,bd h,Bool.true_and];unfold Oh;cases c.AQ.all fun t=>DK (Ew c l t) t.AM t.AN with
  |false=>rfl
  |true=>rfl
theorem Kh(rs:List Bl):∀n,(HK rs n).length=rs.length:=by
 clear hK
 induction rs with
 |nil=>intro n;rfl
 |cons r rs ih=>intro n;rw[HK,List.length_cons,List.length_cons,ih]
theorem Fb{c:AO}(a:OkC c):∀(d m i:Nat) (acc:List (List Int)),Gt c.Ax=(i:Int)+d→d<m→acc.length≤i→
  Bj K c m acc (i:Int)=some (acc++((List.range' i d).map fun n:Nat=>HK c.Ax (n:Int)).filter (Dr c))
 |d,0,i,acc,h,hm,_=>by omega
 |0,m+1,i,acc,h,hm,_=>by
  rw[Bj.eq_2,bd (Kp hK a),cf (df (by omega))];simp
 |d+1,m+1,i,acc,h,hm,ha=>by
  have b:=a.many;have hh:=a.hl;rw[Bj.eq_2,bd (Kp hK a),ct (dt (by omega)),bd (Po hK (by omega) a.ok (by omega)),bd (IY hK a (by rw[Kh hK];omega)),List.range'_succ,List.map_cons,List.filter_cons];cases Dr c (HK c.Ax (i:Int)) with
  |true=>
   rw[ct rfl,DG (by simp;omega),Br (by omega) (by omega),CP i,Fb a d m (i+1) _ (by omega) (by omega) (by simp;omega),List.append_assoc];rfl
  |false=>
   rw[cf rfl,Br (by omega) (by omega),CP i,Fb a d m (i+1) _ (by omega) (by omega) (by omega)];rfl
theorem Hz{c:AO}(a:OkC c):By K c=some (BR c):=by
 unfold By BR;have h1:=NC hK a;have h2:=a.many;have:=Fb hK a (Gt c.Ax).toNat K 0 [] (by omega) (by omega) (by simp);rw[Int.natCast_zero,List.nil_append] at this;rw[bd this,List.range_eq_range']
end
section
variable{K:Nat}(hK:1000≤K)
include hK
end
def Di(M:List Int):Nat→List Cu→Nat
 |_,[]=>0
 |i,n::ns=>(if EB M n=true then 2^i else 0)|||Di M (i+1) ns
theorem X8(M:List Int)(k:Nat):∀(ns:List Cu) (i:Nat),i+ns.length≤k→Di M i ns<2^k
 |[],i,_=>Nat.two_pow_pos k
 |n::ns,i,h=>by
  rw[List.length_cons] at h;rw[Di];refine Nat.or_lt_two_pow ?_ (X8 M k ns (i+1) (by omega));split
  ·exact Nat.pow_lt_pow_right (by omega) (by omega)
  ·exact Nat.two_pow_pos k
theorem E0(M:List Int):∀(ns:List Cu) (i j:Nat),(Di M i ns).testBit j=true↔∃q,∃hq:q<ns.length,j=i+q∧EB M ns[q]=true
 |[],i,j=>by simp[Di]
 |n::ns,i,j=>by
  rw[Di,Nat.testBit_or,Bool.or_eq_true,E0 M ns (i+1) j];constructor
  ·rintro(h|⟨q,hq,rfl,h⟩)
   ·split at h
    ·rename_i hn
     rw[Nat.testBit_two_pow,decide_eq_true_eq] at h;exact⟨0,by simp,by omega,by simpa using hn⟩
    ·simp at h
   ·exact⟨q+1,by simpa using hq,by omega,by simpa using h⟩
  ·rintro⟨q,hq,rfl,h⟩;cases q with
   |zero=>
    left;rw[if_pos (by simpa using h),Nat.testBit_two_pow];simp
   |succ q=>exact .inr ⟨q,by simpa using hq,by omega,by simpa using h⟩
theorem X9 {a m:Nat}:a&&&m=m↔∀j,m.testBit j=true→a.testBit j=true:=by
 constructor
 ·intro h j hj;rw[←h,Nat.testBit_and,Bool.and_eq_true] at hj;exact hj.1
 ·intro h;refine Nat.eq_of_testBit_eq fun j=>?_;rw[Nat.testBit_and];cases hm:m.testBit j with
  |false=>rw[Bool.and_false]
  |true=>rw[h j hm,Bool.and_true]
theorem GU:∀i:Nat,i<6→EI .u64 (i:Int)=some ()∧FL 1 (i:Int)=some ()∧C3 1 (i:Int)=((2^i:Nat):Int)∧2^i≤32∧1≤2^i∧FL 2 (i:Int)=some ()∧C3 2 (i:Int)=((2^(i+1):Nat):Int):=by decide+kernel
theorem N4(a b:Nat):Ft (a:Int) (b:Int)=((a|||b:Nat):Int):=by unfold Ft;rw[Int.toNat_natCast,Int.toNat_natCast]
theorem Uj(a b:Nat):Lg (a:Int) (b:Int)=((a&&&b:Nat):Int):=by unfold Lg;rw[Int.toNat_natCast,Int.toNat_natCast]
theorem FG{c:AO}(a:OkC c):(BR c).length≤150:=by
 have:=a.many;unfold BR;refine Nat.le_trans (List.length_filter_le _ _) ?_;rw[List.length_map,List.length_range];omega
section
variable{K:Nat}(hK:1000≤K)
include hK
theorem Ki{t:Ah}(f:OkT t){l:List Int}(hl:Eu t.Ag l=true):Cg K t l=some ((Di (AB t l) 0 t.Ar:Nat):Int):=by
 have o:=f.nl;have a:∀(d m i:Nat) (s:Nat),t.Ar.length=i+d→d<m→s<2^5→Bn K t l m (s:Int) (i:Int)=some ((s|||Di (AB t l) i (t.Ar.drop i):Nat):Int):=by
  intro d
  induction d with
  |zero=>
   intro m i s h hm hs;obtain⟨m,rfl⟩:∃g,m=g+1:=⟨m-1,by omega⟩;rw[Bn.eq_2,cf (df (by omega)),List.drop_eq_nil_of_le (by omega),Di,Nat.or_zero]
  |succ d ih=>
   intro m i s h hm hs;obtain⟨m,rfl⟩:∃g,m=g+1:=⟨m-1,by omega⟩;have hi:i<t.Ar.length:=by omega
   obtain⟨h1,h2⟩:=(f.note _ (List.getElem_mem hi)).1;obtain⟨k,hk⟩:∃k:Nat,t.Ar[i].Ce=k:=⟨t.Ar[i].Ce.toNat,by omega⟩;have b:k<t.Ab.length:=by omega
   have c:k<(AB t l).length:=by rw[DC];exact b
   obtain⟨s1,s2,j,p,q,_⟩:=GU i (by omega);have e:DK ((AB t l)[k]'c) t.Ar[i].CA t.Ar[i].CB=EB (AB t l) t.Ar[i]:=by
    unfold EB;rw[hk,Int.toNat_natCast,Cl _ c]
   rw[Bn.eq_2,ct (dt (by omega)),B5 hi,B5 hi,hk,bd (Ld hK f hl b),bd (Hs ..),e,List.drop_eq_getElem_cons hi,Di];have n:2^i<2^5:=Nat.pow_lt_pow_right (by omega) (by omega);cases EB (AB t l) t.Ar[i] with
   |true=>
    rw[ct rfl,bd s1,bd s2,j,MC (by omega) (by omega),Br (by omega) (by omega),CP i,N4,if_pos rfl,ih m (i+1) _ (by omega) (by omega) (Nat.or_lt_two_pow hs n),Nat.or_assoc]
   |false=>rw[cf rfl,Br (by omega) (by omega),CP i,if_neg (by simp),Nat.zero_or,ih m (i+1) _ (by omega) (by omega) hs]
 have:=a t.Ar.length K 0 0 (by omega) (by omega) (by omega);rw[Int.natCast_zero,List.drop_zero,Nat.zero_or] at this;unfold Cg;rw[bd this]
theorem K8{t:Ah}(a:OkT t):Ch K t=some ((2^t.Ar.length-1:Nat):Int):=by
 have d:=a.nl;obtain⟨s1,s2,b,e,c,_⟩:=GU t.Ar.length (by omega);unfold Ch;rw[bd s1,bd s2,b,Br (by omega) (by omega),Int.natCast_sub c];rfl
theorem Afy{t:Ah}(a:OkT t):LZ K t=some ((BR t.C).map fun l=>((Di (AB t l) 0 t.Ar:Nat):Int)):=by
 have hlen:=FG a.c;have h:By K ⟨t.Ag,t.Ab,t.Ak⟩=some (BR t.C):=Hz hK (c:=t.C) a.c;have b:∀(d m i:Nat) (acc:List Int),(BR t.C).length=i+d→d<m→acc.length≤i→IW K t (BR t.C) m acc (i:Int)=some (acc++((BR t.C).drop i).map fun l=>((Di (AB t l) 0 t.Ar:Nat):Int)):=by
  intro d
  induction d with
  |zero=>
   intro m i acc h hm ha;obtain⟨m,rfl⟩:∃e,m=e+1:=⟨m-1,by omega⟩;rw[IW.eq_2,cf (df (by omega)),List.drop_eq_nil_of_le (by omega),List.map_nil,List.append_nil]
  |succ d ih=>
   intro m i acc h hm ha;obtain⟨m,rfl⟩:∃e,m=e+1:=⟨m-1,by omega⟩;have hi:i<(BR t.C).length:=by omega
   have f:=(Gd a.c).1 (List.getElem_mem hi);rw[IW.eq_2,ct (dt (by omega)),B5 hi,bd (Ki hK a (Jr f)),DG (by simp;omega),Br (by omega) (by omega),CP i,ih m (i+1) _ (by omega) (by omega) (by simp;omega),List.drop_eq_getElem_cons hi,List.map_cons,List.append_assoc];rfl
 have:=b (BR t.C).length K 0 [] (by omega) (by omega) (by simp);rw[Int.natCast_zero,List.drop_zero,List.nil_append] at this;unfold LZ;rw[bd h,bd this]
end
section
variable{K:Nat}(hK:1000≤K)
include hK
theorem NZ{t:Ah}(h:Ri t):C2 K t=some (DV t):=by
 unfold C2;rw[bd (MN hK t h)]
end
section
variable{K:Nat}(hK:1000≤K)
include hK
theorem L7{t:Ah}(h:Eh t=true):CU K t=some (De t):=by
 unfold CU De;rw[bd (NZ hK (Gn h))]
 by_cases h0:DV t=0
 ·have a:=Eo h h0;have b:By K ⟨t.Ag,t.Ab,t.Ak⟩=some (BR t.C):=Hz hK (c:=t.C) a.c;rw[cf (EW h0),if_neg (by simp[h0]),bd b]
  by_cases h1:BR t.C=[]
  ·rw[ct ((QJ _).2 h1),if_pos h1]
  ·rw[cf (NP h1),if_neg h1]
 ·rw[ct (FX h0),if_pos h0]
end
theorem MS{β:Type}{f:Unit→Option β}{x:Nat}(h:x<64):(EI .u64 (x:Int)).bind f=f ():=bd (by
 have:∀x:Nat,x<64→EI .u64 (x:Int)=some ():=by decide+kernel
 exact this x h)
theorem KL{β:Type}{f:Unit→Option β}{a:Int}{x:Nat}(h:x<64):(HV a (x:Int)).bind f=f ():=bd (if_pos ⟨by omega,by omega⟩)
theorem Iv(s x:Nat):EK (s:Int) (x:Int)=((s/2^x:Nat):Int):=by
 unfold EK;rw[show(x:Int).toNat=x by omega];simp
theorem Aee(a b:Nat):Qz (a:Int) (b:Int)=((a^^^(a&&&b):Nat):Int):=by unfold Qz;rw[Int.toNat_natCast,Int.toNat_natCast]
theorem tb(s i:Nat):(s/2^i%2==1)=s.testBit i:=by rw[Nat.testBit_eq_decide_div_mod_eq];rfl
theorem Hc:∀a:List Int,lexB a a=false
 |[]=>rfl
 |a::b=>by rw[lexB,if_pos rfl,Hc b]
theorem Jb:∀a b c:List Int,lexB a b=true→lexB b c=true→lexB a c=true
 |[],b,[],h1,h2=>by cases b<;>cases h1;cases h2
 |[],b,c::g,h1,h2=>rfl
 |a::d,[],c,h1,h2=>by cases h1
 |a::d,b::h,[],h1,h2=>by cases h2
 |a::d,b::h,c::g,h1,h2=>by
  rw[lexB] at h1 h2⊢
  by_cases e:a=b
  ·subst e;rw[if_pos rfl] at h1
   by_cases f:a=c
   ·subst f;rw[if_pos rfl] at h2⊢;exact Jb d h g h1 h2
   ·rw[if_neg f] at h2⊢;exact h2
  ·rw[if_neg e,decide_eq_true_eq] at h1
   by_cases f:b=c
   ·subst f;rw[if_neg e,decide_eq_true_eq];exact h1
   ·rw[if_neg f,decide_eq_true_eq] at h2;rw[if_neg (by omega),decide_eq_true_eq];omega
theorem MT(a:List Int):sh a a=false:=by
 rw[Bool.eq_false_iff];intro h;rcases NQ.1 h with h|h
 ·omega
 ·rw[Hc] at h;cases h.2
theorem NH{a b c:List Int}(h:sh a b=true)(g:sh b c=true):sh a c=true:=by
 rw[NQ] at h g⊢;rcases h with h|h<;>rcases g with g|g
 ·exact .inl (by omega)
 ·exact .inl (by omega)
 ·exact .inl (by omega)
 ·exact .inr ⟨by omega,Jb _ _ _ h.2 g.2⟩
theorem KM{s x:Nat}(a:x<8):(BE s).contains (x:Int)=s.testBit x:=by
 rw[Bool.eq_iff_iff,List.contains_iff_mem,Kf];constructor
 ·rintro⟨y,b,h,e⟩;obtain rfl:x=y:=by omega
  exact h
 ·intro h;exact⟨x,a,h,rfl⟩
theorem Js(s:Nat):(BE s).length≤8:=by
 unfold BE;rw[List.length_map];exact Nat.le_trans (List.length_filter_le _ _) (by simp)
section
variable{K:Nat}(hK:1000≤K)
include hK
theorem Jt(s:Nat)(hs:s<2^8):∀(d m p:Nat) (acc:List Int),p+d=8→d<m→acc.length≤p→BO (s:Int) m acc (p:Int)=some (acc++((List.range' p d).filter fun x=>s.testBit x).map fun x:Nat=>(x:Int))
 |d,0,p,acc,_,h,_=>by omega
 |0,m+1,p,acc,a,_,ha=>by
  obtain rfl:p=8:=by omega
  rw[BO.eq_2,MS (by omega),KL (by omega),Iv,Nat.div_eq_of_lt hs,cf (df (by simp))];simp
 |d+1,m+1,p,acc,a,hm,ha=>by
  rw[BO.eq_2,MS (by omega),KL (by omega),Iv]
  by_cases h0:s/2^p=0
  ·rw[h0,cf (df (by simp))];have:(List.range' p (d+1)).filter (fun x=>s.testBit x)=[]:=by
    rw[List.filter_eq_nil_iff];intro x b;rw[List.mem_range'_1] at b;have h1:s<2^p:=by
     rcases Nat.div_eq_zero_iff.1 h0 with h|h
     ·have:=Nat.two_pow_pos p;omega
     ·exact h
    rw[Nat.testBit_lt_two_pow (Nat.lt_of_lt_of_le h1 (Nat.pow_le_pow_right (by omega) (by omega)))];simp
   rw[this,List.map_nil,List.append_nil]
  ·have hq:(0:Int)<((s/2^p:Nat):Int):=by generalize s/2^p=q at h0;omega
   rw[ct (dt hq),MS (by omega),KL (by omega),LF (Int.le_of_lt hq) (by omega),List.range'_succ,List.filter_cons];have e:((((s/2^p:Nat):Int)%2)==1)=s.testBit p:=by
    rw[←tb,Bool.eq_iff_iff,beq_iff_eq,beq_iff_eq];omega
   rw[e];cases s.testBit p with
   |true=>
    rw[ct rfl,DG (by simp;omega),Br (by omega) (by omega),CP p,Jt s hs d m (p+1) _ (by omega) (by omega) (by simp;omega),if_pos rfl,List.map_cons,List.append_assoc];rfl
   |false=>rw[cf rfl,Br (by omega) (by omega),CP p,Jt s hs d m (p+1) _ (by omega) (by omega) (by omega),if_neg (by simp)]
theorem Nq{s:Nat}(hs:s<2^8):CI K (s:Int)=some (BE s):=by
 unfold CI BE;have:=Jt hK s hs 8 K 0 [] (by omega) (by omega) (by simp);rw[Int.natCast_zero,List.nil_append,←List.range_eq_range'] at this;rw[bd this]
omit hK in
theorem KO (a b:List Int) (ha:a.length≤900) (hb:b.length≤900):∀(n m i:Nat),a.length=i+n→i≤b.length→n<m→
  (Cd a b m (i:Int)).bind (fun z=>Sum.elim (fun q1=>some q1) (fun _=>some (decide ((a.length:Int)<(b.length:Int)))) z)=some (lexB (a.drop i) (b.drop i))
 |n,0,i,h,_,hm=>by omega
 |0,m+1,i,h,Ve,hm=>by
  rw[Cd.eq_2,cf (df (by omega)),List.drop_eq_nil_of_le (by omega:a.length≤i)]
  show some _=_
  by_cases e:i<b.length
  ·rw[List.drop_eq_getElem_cons e,dt (by omega)];rfl
  ·rw[List.drop_eq_nil_of_le (by omega:b.length≤i),df (by omega)];rfl
 |n+1,m+1,i,h,Ve,hm=>by
  have hi:i<a.length:=by omega
  rw[Cd.eq_2,ct (dt (by omega)),List.drop_eq_getElem_cons hi]
  by_cases hj:i<b.length
  ·rw[ct (dt (by omega)),B5 hi,B5 hj,List.drop_eq_getElem_cons hj,lexB]
   by_cases he:a[i]=b[i]
   ·rw[if_pos he,cf (by simp[he]),Br (by omega) (by omega),CP i]
    exact KO a b ha hb n m (i+1) (by omega) (by omega) (by omega)
   ·rw[if_neg he,ct (by simp[he]),B5 hi,B5 hj]
    rfl
  ·rw[cf (df (by omega)),List.drop_eq_nil_of_le (by omega:b.length≤i)]
   show some _=_
   rw[df (by omega)];rfl
theorem NK{a b:List Int}(ha:a.length≤900)(hb:b.length≤900):C0 K a b=some (lexB a b):=by
 unfold C0;have:=KO a b ha hb a.length K 0 (by omega) (by omega) (by omega);rw[Int.natCast_zero,List.drop_zero,List.drop_zero] at this;exact this
theorem Td{a b:List Int}(ha:a.length≤900)(hb:b.length≤900):F3 K a b=some (sh a b):=by
 unfold F3 sh
 by_cases h:a.length<b.length
 ·rw[ct (dt (by omega)),dt h];rfl
 ·rw[cf (df (by omega)),df h,Bool.false_or]
  by_cases h2:a.length=b.length
  ·rw[ct (by simp[h2]),bd (NK hK ha hb)];simp[h2]
  ·rw[cf (by simp;omega)];simp[h2]
omit hK in
theorem L4:∀i:Nat,i<8→EI .u64 (i:Int)=some ()∧FL 1 (i:Int)=some ()∧C3 1 (i:Int)=((2^i:Nat):Int)∧2^i≤128∧1≤2^i∧FL 2 (i:Int)=some ()∧C3 2 (i:Int)=((2^(i+1):Nat):Int):=by decide+kernel
theorem Afz(A:List Nat)(c:∀a∈A,a<2^20)(w:Nat)(hw:w<2^20)(hl:A.length≤900):JM K (A.map fun a:Nat=>(a:Int)) (w:Int)=some (A.any fun a=>a&&&w==w):=by
 have h:=JT (A.map fun a:Nat=>(a:Int)) (fun m i=>GH (A.map fun a:Nat=>(a:Int)) (w:Int) m (i:Int)) (fun a=> !(a.toNat&&&w==w)) true
  (fun m i hi=>by
   show GH (A.map fun a:Nat=>(a:Int)) (w:Int) (m+1) (i:Int)=_;have b:i<A.length:=by simpa using hi
   have hb:=c _ (List.getElem_mem b);have e:((A.map fun a:Nat=>(a:Int))[i]'hi)=(A[i]:Int):=by simp
   have d:(((A[i]&&&w:Nat):Int)==(w:Int))=(A[i]&&&w==w):=Aa8 _ _;rw[GH.eq_2,ct (dt (by omega)),B5 hi,e,MC (by omega) (by omega),Uj,Int.toNat_natCast,d];rw[List.length_map] at hi;cases A[i]&&&w==w with
   |true=>rw[ct rfl];rfl
   |false=>rw[cf rfl,Br (by omega) (by omega),CP i];rfl)
  (fun m=>by
   show GH (A.map fun a:Nat=>(a:Int)) (w:Int) (m+1) (((A.map fun a:Nat=>(a:Int)).length:Nat):Int)=_;rw[GH.eq_2,cf (df (by omega))]) (k:=K) (by simp;omega)
 unfold JM;have f:GH (A.map fun a:Nat=>(a:Int)) (w:Int) K 0=_:=h;rw[bd f];have e:((A.map fun a:Nat=>(a:Int)).all fun a=> !(a.toNat&&&w==w))= !(A.any fun a=>a&&&w==w):=by
  rw[List.all_map,List.any_eq_not_all_not,Bool.not_not];rfl
 rw[e];cases A.any fun a=>a&&&w==w<;>rfl
end
def Gf (n:Nat):Nat→List Int→Nat→List (List Int)
 |0,l,_=>[l]
 |m+1,l,a=>(List.range' a (n-m-a)).flatMap fun t:Nat=>Gf n m (l++[(t:Int)]) (t+1)
def F5(n i d:Nat):List (List Int):=(List.range' i d).flatMap fun m=>Gf n m [] 0
def FF (p:List Int→Bool):List Int→List (List Int)→List Int
 |cur,[]=>cur
 |_,c::cs=>if p c=true then c else FF p c cs
theorem Ju(p:List Int→Bool):∀(xs ys:List (List Int)) (cur:List Int),xs.any p=false→FF p cur (xs++ys)=FF p (FF p cur xs) ys
 |[],ys,cur,_=>rfl
 |x::xs,ys,cur,h=>by
  rw[List.any_cons,Bool.or_eq_false_iff] at h;simp only[List.cons_append,FF,h.1];exact Ju p xs ys x h.2
theorem Jv(p:List Int→Bool):∀(xs ys:List (List Int)) (cur:List Int),xs.any p=true→FF p cur (xs++ys)=FF p cur xs
 |[],ys,cur,h=>by cases h
 |x::xs,ys,cur,h=>by
  simp only[List.cons_append,FF];cases a:p x with
  |true=>rfl
  |false=>
   rw[List.any_cons,a,Bool.false_or] at h;exact Jv p xs ys x h
theorem LJ{p:List Int→Bool}:∀{L:List (List Int)} (cur:List Int),L.any p=true→∃A x B,L=A++x::B∧p x=true∧(∀a∈A,p a=false)∧FF p cur L=x
 |[],cur,h=>by cases h
 |c::L,cur,h=>by
  by_cases b:p c=true
  ·exact⟨[],c,L,rfl,b,by simp,by rw[FF,if_pos b]⟩
  ·have d:p c=false:=by simpa using b
   rw[List.any_cons,d,Bool.false_or] at h;obtain⟨A,x,B,h1,h2,e,f⟩:=LJ c h;refine⟨c::A,x,B,by rw[h1];rfl,h2,?_,by rw[FF,if_neg b];exact f⟩;intro a ha;rcases List.mem_cons.1 ha with rfl|ha
   ·exact d
   ·exact e a ha
theorem Ns:∀n:Nat,n<8→∀l∈F5 n 0 (n+1),∃s:Nat,s<2^n∧BE s=l:=by decide+kernel
theorem Nt:∀n:Nat,n<8→∀s:Nat,s<2^n→BE s∈F5 n 0 (n+1):=by decide+kernel
theorem M0:∀n:Nat,n<8→(F5 n 0 (n+1)).Pairwise fun a b=>sh a b=true:=by decide+kernel
theorem O4{n:Nat}(hn:n<8){p:List Int→Bool}(cur:List Int)(h:(F5 n 0 (n+1)).any p=true):Nd n p (FF p cur (F5 n 0 (n+1))):=by
 obtain⟨A,x,B,g1,g2,g3,g4⟩:=LJ cur h;rw[g4];have hs:=M0 n hn;refine⟨Ns n hn x (by rw[g1];simp),g2,fun s b c=>?_⟩;have a:=Nt n hn s b;rw[g1] at a hs;rw[List.pairwise_append] at hs;rcases List.mem_append.1 a with h|h
 ·rw[g3 _ h] at c;cases c
 ·rcases List.mem_cons.1 h with h|h
  ·rw[h];exact MT _
  ·have h1:=(List.pairwise_cons.1 hs.2.1).1 _ h;rw[Bool.eq_false_iff];intro h2;have:=NH h1 h2;rw[MT] at this;cases this
theorem O5{n:Nat}(hn:n<8)(p:List Int→Bool):(F5 n 0 (n+1)).any p=true↔∃s,s<2^n∧p (BE s)=true:=by
 rw[List.any_eq_true];constructor
 ·rintro⟨l,hl,a⟩;obtain⟨s,hs,rfl⟩:=Ns n hn l hl;exact⟨s,hs,a⟩
 ·rintro⟨s,hs,a⟩;exact⟨_,Nt n hn s hs,a⟩
section
variable{K:Nat}(hK:1000≤K)
include hK
theorem Oo{σ:Type}{I:σ→Prop}{p:List Int→Bool}{n m:Nat}{l:List Int}(hn:n<8)(hm:l.length+(m+1)≤n)(b:(List Int)→Int→Int→(List Int)→Int→σ→Option (Bool×(List Int)×σ))
  (ih:∀(t:Nat) (q:List Int) (s:σ),t<n→I s→∃c,I c∧b (l++[(t:Int)]) ((t+1:Nat):Int) (m:Int) q (n:Int) s=some ((Gf n m (l++[(t:Int)]) (t+1)).any p,FF p q (Gf n m (l++[(t:Int)]) (t+1)),c)):
  ∀(d k i:Nat) (q:List Int) (s:σ),d=n-m-i→d<k→i≤n→I s→∃c,I c∧
   (En b l ((m+1:Nat):Int) (n:Int) k (i:Int) q s).bind (fun z=>Sum.elim (fun a=>some (a.1,a.2.1,a.2.2)) (fun a=>some (false,a.1,a.2)) z)=
   some (((List.range' i d).flatMap fun t:Nat=>Gf n m (l++[(t:Int)]) (t+1)).any p,FF p q ((List.range' i d).flatMap fun t:Nat=>Gf n m (l++[(t:Int)]) (t+1)),c)
 |d,0,i,q,s,h,hk,_,_=>by omega
 |0,k+1,i,q,s,h,hk,hi,hs=>by
  refine⟨s,hs,?_⟩;rw[En.eq_2,Br (by omega) (by omega),cf (df (by omega))];rfl
 |d+1,k+1,i,q,s,h,hk,hi,hs=>by
  have g:(((m+1:Nat):Int)-1)=(m:Int):=by omega
  obtain⟨s1,e,g1⟩:=ih i q s (by omega) hs;rw[En.eq_2,Br (by omega) (by omega),ct (dt (by omega)),DG (by omega),DG (by simp;omega),Br (by omega) (by omega),Br (by omega) (by omega),g,CP i,bd g1,List.range'_succ,List.flatMap_cons];cases ha:(Gf n m (l++[(i:Int)]) (i+1)).any p with
  |true=>
   refine⟨s1,e,?_⟩;rw[List.any_append,ha,Jv p _ _ _ ha,Bool.true_or];rfl
  |false=>
   obtain⟨s2,f,g2⟩:=Oo hn hm b ih d k (i+1) (FF p q (Gf n m (l++[(i:Int)]) (i+1))) s1 (by omega) (by omega) (by omega) e;refine⟨s2,f,?_⟩;rw[List.any_append,ha,Ju p _ _ _ ha,Bool.false_or,cf rfl,Br (by omega) (by omega)];exact g2
theorem Px{σ:Type}{I:σ→Prop}{p:List Int→Bool}{n:Nat}(hn:n<8)(cb:σ→List Int→Option (Bool×σ))(d:∀s x,I s→x.length≤n→(∀y∈x,0≤y∧y<(n:Int))→∃b,I b∧cb s x=some (p x,b)):
  ∀(m k a:Nat) (l q:List Int) (s:σ),m<k→I s→l.length+m≤n→(∀y∈l,0≤y∧y<(n:Int))→a≤n→∃b,I b∧D6 K cb k l (a:Int) (m:Int) q (n:Int) s=some ((Gf n m l a).any p,FF p q (Gf n m l a),b)
 |m,0,a,l,q,s,h,_,_,_,_=>by omega
 |0,k+1,a,l,q,s,h,hs,hl,hb,_=>by
  obtain⟨s1,h1,g⟩:=d s l hs (by omega) hb;refine⟨s1,h1,?_⟩;rw[D6.eq_2,ct (F9 (by omega)),bd g,Gf,List.any_cons,List.any_nil,Bool.or_false,FF,FF];cases p l<;>rfl
 |m+1,k+1,a,l,q,s,h,hs,hl,hb,e=>by
  rw[D6.eq_2,cf (IU (by omega)),Gf];exact Oo hK (p:=p) hn hl (D6 K cb k) (fun t q s f hs=>Px hn cb d m k (t+1) (l++[(t:Int)]) q s (by omega) hs (by simp;omega) (fun y c=>by
   rcases List.mem_append.1 c with c|c
   ·exact hb y c
   ·rw[List.mem_singleton.1 c];omega) (by omega)) (n-m-a) K a q s rfl (by omega) e hs
theorem Nu{σ:Type}{I:σ→Prop}{p:List Int→Bool}{n:Nat}(hn:n<8)(cb:σ→List Int→Option (Bool×σ))(b:∀s x,I s→x.length≤n→(∀y∈x,0≤y∧y<(n:Int))→∃a,I a∧cb s x=some (p x,a)):
  ∀(d k i:Nat) (q:List Int) (s:σ),n+1=i+d→d<k→I s→∃a,I a∧EM cb K (n:Int) k false (i:Int) q s=some ((F5 n i d).any p,FF p q (F5 n i d),a)
 |d,0,i,q,s,h,hk,_=>by omega
 |0,k+1,i,q,s,h,hk,hs=>by
  refine⟨s,hs,?_⟩;rw[EM.eq_2,cf (df (by omega))];rfl
 |d+1,k+1,i,q,s,h,hk,hs=>by
  obtain⟨s1,c,g1⟩:=Px hK hn cb b i K 0 [] q s (by omega) hs (by simp;omega) (by simp) (by omega);rw[Int.natCast_zero] at g1;rw[EM.eq_2,ct (dt (by omega)),bd g1];unfold F5;rw[List.range'_succ,List.flatMap_cons];cases ha:(Gf n i [] 0).any p with
  |true=>
   refine⟨s1,c,?_⟩;rw[List.any_append,ha,Jv p _ _ _ ha,Bool.true_or];rfl
  |false=>
   obtain⟨s2,e,g2⟩:=Nu hn cb b d k (i+1) (FF p q (Gf n i [] 0)) s1 (by omega) (by omega) c;refine⟨s2,e,?_⟩;rw[List.any_append,ha,Ju p _ _ _ ha,Bool.false_or,cf rfl,Br (by omega) (by omega),CP i];exact g2
theorem NI{σ:Type}{I:σ→Prop}{p:List Int→Bool}{n:Nat}(hn:n<8)(cb:σ→List Int→Option (Bool×σ))(b:∀s x,I s→x.length≤n→(∀y∈x,0≤y∧y<(n:Int))→∃a,I a∧cb s x=some (p x,a)){s:σ}(hs:I s):
  ∃a,I a∧Fa K cb (n:Int) s=some (FF p [] (F5 n 0 (n+1)),(F5 n 0 (n+1)).any p,a):=by
 obtain⟨s1,c,g1⟩:=Nu hK hn cb b (n+1) K 0 [] s (by omega) (by omega) hs;refine⟨s1,c,?_⟩;unfold Fa;rw[Int.natCast_zero] at g1;rw[Br (by omega) (by omega),bd g1]
end
def Rc(p:List Int→Bool)(cur:List Int)(s:Nat):List Int:=if (sh (BE s) cur&&p (BE s))=true then BE s else cur
theorem ZQ{σ:Type}(f:σ→Nat→σ)(c:σ)(k:Nat):(List.range (k+1)).foldl f c=f ((List.range k).foldl f c) k:=by rw[List.range_succ,List.foldl_append];rfl
theorem Ya{n:Nat}{p:List Int→Bool}{c0:List Int}(h0:∃s,s<2^n∧BE s=c0)(d:p c0=true):∀k,k≤2^n→
  (∃s,s<2^n∧BE s=(List.range k).foldl (Rc p) c0)∧p ((List.range k).foldl (Rc p) c0)=true∧∀s,s<k→p (BE s)=true→sh (BE s) ((List.range k).foldl (Rc p) c0)=false
 |0,_=>⟨h0,d,fun s hs=>by omega⟩
 |k+1,hk=>by
  obtain⟨h1,h2,c⟩:=Ya h0 d k (by omega);rw[ZQ];generalize (List.range k).foldl (Rc p) c0=cur at h1 h2 c;unfold Rc
  by_cases a:(sh (BE k) cur&&p (BE k))=true
  ·rw[if_pos a];rw[Bool.and_eq_true] at a;refine⟨⟨k,by omega,rfl⟩,a.2,fun s hs b=>?_⟩;rcases Nat.lt_or_ge s k with h|h
   ·rw[Bool.eq_false_iff];intro hh;have:=c s h b;rw[NH hh a.1] at this;cases this
   ·obtain rfl:s=k:=by omega
    exact MT _
  ·rw[if_neg a];refine⟨h1,h2,fun s hs b=>?_⟩;rcases Nat.lt_or_ge s k with h|h
   ·exact c s h b
   ·obtain rfl:s=k:=by omega
    rw[b,Bool.and_true] at a;simpa using a
theorem AaI{n:Nat}{p:List Int→Bool}{c0:List Int}(h0:∃s,s<2^n∧BE s=c0)(a:p c0=true):Nd n p ((List.range (2^n)).foldl (Rc p) c0):=by
 obtain⟨h1,h2,b⟩:=Ya h0 a (2^n) (Nat.le_refl _);exact⟨h1,h2,b⟩
theorem WC{α β a:Type}{z:β}{x y:a}:cond (((([]:List α),z).1.length:Int)==0) x y=x:=rfl
section
variable{K:Nat}(hK:1000≤K)
include hK
theorem QV{l:List Int}(hl:l.length≤900):Dk K l l=some true:=by
 unfold Dk;have h:CX l l K 0=some (cond (l.all fun _=>true) (.inr ()) (.inl false)):=JT l (fun m i=>CX l l m (i:Int)) (fun _=>true) false
  (fun m i hi=>by
   show CX l l (m+1) (i:Int)=_;rw[CX.eq_2,ct (dt (by omega)),B5 hi,B5 hi,cf (EW rfl),Br (by omega) (by omega),CP i,ct rfl])
  (fun m=>by
   show CX l l (m+1) (l.length:Int)=_;rw[CX.eq_2,cf (df (by omega))]) (by omega)
 rw[cf (EW rfl),bd h,show(l.all fun _=>true)=true from List.all_eq_true.2 fun _ _=>rfl];rfl
end
theorem OH{α:Type}(x:List α)(a:Nat):HL x (0:Int) (a:Int)=x.take a:=by unfold HL;simp
def EF(t:Ah)(o:CH):Int:=(t.AJ.getD o.Dh.toNat ⟨0,0⟩).BN
def Hd (t:Ah) (o:CH) (k:Nat):Bool:=decide (o.Df≤(t.Ab.getD k []).sum)&&(Bf t).all fun l=>decide (EF t o≤DZ l (t.Ab.getD k []))
def GB(t:Ah)(o:CH):List Int:=((List.range t.Ab.length).filter (Hd t o)).map fun k:Nat=>(k:Int)
def DA(t:Ah):List (List Int):=t.Aw.map (GB t)
def Dz:List (List Int)→List Int→List Int→Bool
 |[],_,[]=>true
 |s::S,out,x::xs=>s.contains x&&(!out.contains x&&Dz S (out++[x]) xs)
 |_,_,_=>false
structure Hl (t:Ah) (d:List Int):Prop where
 is:Dz (DA t) [] d=true
 first:∀d',Dz (DA t) [] d'=true→lexB d' d=false
theorem Hl.uniq{t:Ah}{d d':List Int}(h:Hl t d)(g:Hl t d'):d=d':=MX _ _ (g.first d h.is) (h.first d' g.is)
section
variable{K:Nat}(hK:1000≤K)
include hK
end
theorem oe{α β b:Type}{a:α}{z:b}{x:β}{f:α→β}:Option.elim (some a,z).1 x f=f a:=rfl
theorem U9{α b:Type}{a:α}{x y:b}:cond ((a,(0:Int)).2 !=0) x y=y:=rfl
section
variable{K:Nat}(hK:1000≤K)
include hK
end
def G9 (t:Ah) (out:List Int):Bool:=(BR t.C).any fun l=>CK (AB t l) out 0 t.Ar
def Dp(t:Ah)(ns:List Cu):Ah:=⟨t.Ag,t.Ab,t.Ak,t.Flat,t.AJ,t.Aw,ns⟩
theorem Sc{t:Ah}(a:OkT t){ns:List Cu}(hl:ns.length≤5)(hn:∀n∈ns,Kb t n=true):OkT (Dp t ns):=by
 refine⟨?_,?_,a.many⟩
 ·obtain⟨h1,h2,b,i⟩:=a.len;exact⟨h1,h2,b,by show ns.length≤_;omega⟩
 ·have h:=HE a.fault;unfold DV;have e:(Dp t ns).C=t.C:=rfl;have c:(Dp t ns).AJ=t.AJ:=rfl;have d:(Dp t ns).Aw=t.Aw:=rfl;have f:(Dp t ns).Ar=ns:=rfl;have g:(Dp t ns).Flat=t.Flat:=rfl;have j:(fun o=>LG (Dp t ns) o)=LG t:=rfl;have k:(fun o=>Kb (Dp t ns) o)=Kb t:=rfl;have h1:t.Aw.all (LG (Dp t ns))=true:=List.all_eq_true.2 h.2.2.2.2.2.2.2.1;have h2:ns.all (Kb (Dp t ns))=true:=List.all_eq_true.2 hn;rw[e,c,d,f,g,if_neg (by simp[h.1]),if_neg (by omega),if_neg (by have:=Ei.2 h.2.2.2.2.1;simp[this]),if_neg (by omega),if_neg (by simp[h.2.2.2.2.2.2.1]),if_neg (by simp[h1]),if_neg (by simp[h2])]
theorem Uk{t:Ah}(a:OkT t):∀n∈t.Ar,Kb t n=true:=(HE a.fault).2.2.2.2.2.2.2.2
theorem Ul{t:Ah}{L:List (List Int)}(h:Tr t L)(ns:List Cu):Tr (Dp t ns) L:=⟨h.P8,h.all,h.len⟩
theorem S9{t:Ah}{m:List (List Int×Int)}(h:EC t m)(ns:List Cu):EC (Dp t ns) m:=h
theorem Qs (M:List Int) {ns:List Cu} (h5:ns.length≤5):CK M (BE (2^ns.length-1)) 0 ns=true:=by
 rw[HU];intro j hj;left;rw[Nat.zero_add,KM (by omega),Nat.testBit_two_pow_sub_one];simpa using hj
def Gv (t:Ah) (k:Nat):Bool:=G9 (Dp t (t.Ar.take k)) []
theorem He(M:List Int)(ns:List Cu):CK M [] 0 ns=true↔∀n∈ns,EB M n=true:=by
 rw[HU];constructor
 ·intro h n hn;obtain⟨j,hj,rfl⟩:=List.getElem_of_mem hn;rcases h j hj with h1|h1
  ·simp at h1
  ·exact h1
 ·intro h j hj;exact .inr (h _ (List.getElem_mem hj))
theorem Hy{t:Ah}{j k:Nat}(h:j≤k)(hk:Gv t k=true):Gv t j=true:=by
 unfold Gv G9 at hk⊢;rw[List.any_eq_true] at hk⊢;obtain⟨l,hl,hr⟩:=hk;refine⟨l,hl,?_⟩;have a:AB (Dp t (t.Ar.take k)) l=AB t l:=rfl;have b:AB (Dp t (t.Ar.take j)) l=AB t l:=rfl;have c:(Dp t (t.Ar.take k)).Ar=t.Ar.take k:=rfl;have d:(Dp t (t.Ar.take j)).Ar=t.Ar.take j:=rfl;rw[a,c,He] at hr;rw[b,d,He];exact fun n hn=>hr n (List.take_subset_take_left _ h hn)
structure G5 (t:Ah) (i:Nat):Prop where
 lt:i<t.Ar.length
 before:Gv t i=true
 not:Gv t (i+1)=false
theorem G5.uniq{t:Ah}{i j:Nat}(h:G5 t i)(g:G5 t j):i=j:=by
 rcases Nat.lt_trichotomy i j with h1|h1|h1
 ·have:=Hy (show i+1≤j by omega) g.before;rw[h.not] at this;cases this
 ·exact h1
 ·have:=Hy (show j+1≤i by omega) h.before;rw[g.not] at this;cases this
section
variable{K:Nat}(hK:1000≤K)
include hK
theorem Ta{t:Ah}(b:OkT t){out:List Int}(d:out.length≤900){L:List (List Int)}(c:Tr t L){m:List (List Int×Int)}(hm:EC t m):
  ∃a,EC t a∧CF K (wk t (L.map (Bq t)) m) out=some (G9 t out,a):=by
 obtain⟨a,h1,h2⟩:=Lp hK b d c.len hm;refine⟨a,h1,?_⟩;rw[h2];unfold G9;rw[OR hK b c _ (Ma hK b out)]
theorem V1{t:Ah}(h:Eh t=true):∃x,JA K t=some (x,De t)∧(De t≠0→x=[])∧(De t=0→Nd t.Ar.length (G9 t) x):=by
 unfold JA;rcases KW hK h true with⟨h0,_,L,i,a,e⟩|⟨h0,e⟩
 ·have b:=Eo h (C5 h0).1;have c:=b.nl;obtain⟨m,k,g1⟩:=NI hK (n:=t.Ar.length) (by omega) (I:=EC t) (p:=G9 t) (fun(st:(List (List Int×Int))) (x:(List Int))=>(CF K (wk t (L.map (Bq t)) st) x).bind fun r=>some (r.1,r.2)) (fun s x hs o hb=>by
   obtain⟨j,d,g⟩:=Ta hK b (out:=x) (by omega) i hs;refine⟨j,d,?_⟩;show(CF K (wk t (L.map (Bq t)) s) x).bind _=_;rw[bd g]) (LN t)
  have f:Fa K (fun(st:(List (List Int×Int))) (x:(List Int))=>(CF K (⟨(wk t (L.map (Bq t)) []).AX,(wk t (L.map (Bq t)) []).AY,(wk t (L.map (Bq t)) []).AT,(wk t (L.map (Bq t)) []).CV,(wk t (L.map (Bq t)) []).Bx,(wk t (L.map (Bq t)) []).Bw,(wk t (L.map (Bq t)) []).BT,(wk t (L.map (Bq t)) []).weights,(wk t (L.map (Bq t)) []).Dg,st⟩:CZ) x).bind fun r=>some (r.1,r.2)) (t.Ar.length:Int) (wk t (L.map (Bq t)) []).known=_:=g1;rw[bd e,oe,U9,bd f,h0];refine⟨_,rfl,fun g=>absurd rfl g,fun _=>O4 (by omega) [] ?_⟩;rw[O5 (by omega)];have q:=Nat.two_pow_pos t.Ar.length;refine⟨2^t.Ar.length-1,by omega,?_⟩;unfold G9;rw[List.any_eq_true];obtain⟨l,hl⟩:=List.exists_mem_of_ne_nil _ (C5 h0).2;exact⟨l,hl,Qs _ c⟩
 ·have a:De t≠0:=fun g=>h0 ⟨g,rfl⟩;refine⟨[],?_,fun _=>rfl,fun g=>absurd g a⟩;rw[if_neg (by simp)] at e;rw[bd e];show cond (_ !=0) _ _=_;rw[ct (FX a)]
theorem Ra{t:Ah}(h0:BR t.C≠[]):Gv t 0=true:=by
 unfold Gv G9;obtain⟨l,hl⟩:=List.exists_mem_of_ne_nil _ h0;rw[List.any_eq_true];exact⟨l,hl,rfl⟩
theorem V2{t:Ah}(h:Eh t=true):∃n e,Jz K t=some (n,e)∧(De t≠0→n=0∧e=De t)∧(De t=0→((∃i:Nat,e=0∧n=i∧G5 t i)∨e=7∧n=0∧Gv t t.Ar.length=true)):=by
 unfold Jz;rcases KW hK h true with⟨h0,_,L,s,a,e⟩|⟨h0,e⟩
 ·have f:=Eo h (C5 h0).1;have w:=f.nl;have c:∀(d k i:Nat) (b:List Cu) (m:List (List Int×Int)),t.Ar.length=i+d→d<k→EC t m→Gv t i=true→
    ∃n e,(H2 K t (wk t (L.map (Bq t)) []) k (i:Int) b m).bind (fun z=>Sum.elim (fun q=>some (q.1,q.2.1)) (fun _=>some (0,7)) z)=some (n,e)∧((∃i:Nat,e=0∧n=i∧G5 t i)∨e=7∧n=0∧Gv t t.Ar.length=true):=by
   intro d
   induction d with
   |zero=>
    intro k i b m u hk hm j;obtain⟨k,rfl⟩:∃k',k=k'+1:=⟨k-1,by omega⟩;obtain rfl:i=t.Ar.length:=by omega
    refine⟨0,7,?_,.inr ⟨rfl,rfl,j⟩⟩;rw[H2.eq_2,cf (df (by omega))];rfl
   |succ d ih=>
    intro k i b m u hk hm j;obtain⟨k,rfl⟩:∃k',k=k'+1:=⟨k-1,by omega⟩;have l:OkT (Dp t (t.Ar.take (i+1))):=Sc f (by simp;omega) fun n hn=>Uk f n (List.mem_of_mem_take hn);obtain⟨o,p,g1⟩:=Ta hK l (out:=[]) (by simp) (Ul s _) (S9 hm _);have r:CF K (⟨(wk t (L.map (Bq t)) []).AX,(wk t (L.map (Bq t)) []).AY,(wk t (L.map (Bq t)) []).AT,(wk t (L.map (Bq t)) []).CV,(wk t (L.map (Bq t)) []).Bx,(wk t (L.map (Bq t)) []).Bw,t.Ar.take (i+1),(wk t (L.map (Bq t)) []).weights,(wk t (L.map (Bq t)) []).Dg,m⟩:CZ) []=some (Gv t (i+1),o):=g1;rw[H2.eq_2,ct (dt (by omega)),Br (by omega) (by omega),Rl (by omega),CP i,OH,bd r];cases hq:Gv t (i+1) with
    |false=>
     exact⟨i,0,rfl,.inl ⟨i,rfl,rfl,by omega,j,hq⟩⟩
    |true=>
     rw[nt,Br (by omega) (by omega)];exact ih k (i+1) _ o (by omega) (by omega) p hq
  obtain⟨n,v,g1,g2⟩:=c t.Ar.length K 0 (wk t (L.map (Bq t)) []).BT [] (by omega) (by omega) (LN t) (Ra hK (C5 h0).2);refine⟨n,v,?_,fun g=>absurd h0 g,fun _=>g2⟩;rw[bd e,oe,U9];exact g1
 ·have a:De t≠0:=fun g=>h0 ⟨g,rfl⟩;refine⟨0,De t,?_,fun _=>⟨rfl,rfl⟩,fun g=>absurd g a⟩;rw[if_neg (by simp)] at e;rw[bd e];show cond (_ !=0) _ _=_;rw[ct (FX a)]
theorem Yb{t:Ah}(b:OkT t){w:Nat}(hw:w<2^20)(q:List Int→Bool)(hq:∀l,(Di (AB t l) 0 t.Ar&&&w==w)=q l):JM K ((BR t.C).map fun l=>((Di (AB t l) 0 t.Ar:Nat):Int)) (w:Int)=some ((BR t.C).any q):=by
 have hlen:=FG b.c;have d:=b.nl;have:=Afz hK ((BR t.C).map fun l=>Di (AB t l) 0 t.Ar) (fun a ha=>by
  obtain⟨l,_,rfl⟩:=List.mem_map.1 ha;exact X8 _ _ _ _ (by omega)) w hw (by simp;omega)
 rw[List.map_map] at this;have e:((fun a:Nat=>(a:Int))∘fun l=>Di (AB t l) 0 t.Ar)=fun l=>((Di (AB t l) 0 t.Ar:Nat):Int):=rfl;rw[e] at this;rw[this,List.any_map]
 congr 2
 funext l
 exact hq l
omit hK in
theorem Zp (n s j:Nat):((2^n-1)^^^((2^n-1)&&&s)).testBit j=(decide (j<n)&& !s.testBit j):=by
 rw[Nat.testBit_xor,Nat.testBit_and,Nat.testBit_two_pow_sub_one]
 cases decide (j<n)<;>cases s.testBit j<;>rfl
omit hK in
theorem AbQ (M:List Int) (ns:List Cu) (h5:ns.length≤5) (s:Nat):(Di M 0 ns&&&((2^ns.length-1)^^^((2^ns.length-1)&&&s))==((2^ns.length-1)^^^((2^ns.length-1)&&&s)))=CK M (BE s) 0 ns:=by
 rw[Bool.eq_iff_iff,beq_iff_eq,X9,HU]
 constructor
 ·intro h j hj
  cases hs:s.testBit j with
  |true=>left;rw[Nat.zero_add,KM (by omega)];exact hs
  |false=>
   right
   obtain⟨q,hq,e,hn⟩:=(E0 M ns 0 j).1 (h j (by rw[Zp,hs,dt hj];rfl))
   obtain rfl:j=q:=by omega
   exact hn
 ·intro h j hj
  rw[Zp,Bool.and_eq_true,decide_eq_true_eq] at hj
  refine(E0 M ns 0 j).2 ⟨j,hj.1,by omega,?_⟩
  rcases h j hj.1 with h1|h1
  ·rw[Nat.zero_add,KM (by omega)] at h1
   rw[h1] at hj;exact absurd hj.2 (by decide)
  ·exact h1
omit hK in
theorem AbR (M:List Int) (ns:List Cu) {k:Nat} (hk:k≤ns.length):(Di M 0 ns&&&(2^k-1)==2^k-1)=CK M [] 0 (ns.take k):=by
 rw[Bool.eq_iff_iff,beq_iff_eq,X9,He]
 constructor
 ·intro h n hn
  obtain⟨j,hj,rfl⟩:=List.getElem_of_mem hn
  rw[List.length_take] at hj
  obtain⟨q,hq,e,hn⟩:=(E0 M ns 0 j).1 (h j (by rw[Nat.testBit_two_pow_sub_one];simp;omega))
  obtain rfl:j=q:=by omega
  rw[List.getElem_take];exact hn
 ·intro h j hj
  rw[Nat.testBit_two_pow_sub_one,decide_eq_true_eq] at hj
  refine(E0 M ns 0 j).2 ⟨j,by omega,by omega,h _ ?_⟩
  exact List.mem_take_iff_getElem.2 ⟨j,by omega,rfl⟩
theorem Sd{t:Ah}(a:OkT t):∀(d m i:Nat) (cur:List Int),2^t.Ar.length=i+d→d<m→cur.length≤8→
  GI K t ((BR t.C).map fun l=>((Di (AB t l) 0 t.Ar:Nat):Int)) m cur (i:Int)=some ((List.range' i d).foldl (Rc (G9 t)) cur)
 |d,0,i,cur,h,hm,_=>by omega
 |0,m+1,i,cur,h,hm,c=>by
  have j:=Nat.two_pow_pos t.Ar.length;rw[GI.eq_2,bd (K8 hK a),cf (df (by omega))];rfl
 |d+1,m+1,i,cur,h,hm,c=>by
  have b:=a.nl;have f:2^t.Ar.length≤2^5:=Nat.pow_le_pow_right (by omega) b;have hlen:=Js i;have hw:(2^t.Ar.length-1)^^^((2^t.Ar.length-1)&&&i)<2^20:=by
   refine Nat.xor_lt_two_pow (by omega) (Nat.lt_of_le_of_lt Nat.and_le_left (by omega))
  have e:=Yb hK a hw (fun l=>CK (AB t l) (BE i) 0 t.Ar) (fun l=>AbQ _ _ b i);rw[GI.eq_2,bd (K8 hK a),ct (dt (by omega)),bd (Nq hK (by omega)),bd (Td hK (by omega) (by omega)),List.range'_succ,List.foldl_cons];unfold Rc;cases g:sh (BE i) cur with
  |false=>
   rw[cf rfl,Br (by omega) (by omega),CP i,Sd a d m (i+1) cur (by omega) (by omega) c,Bool.false_and,if_neg (by simp)];rfl
  |true=>
   rw[ct rfl,bd (K8 hK a),MC (by omega) (by omega),Aee,bd e,Bool.true_and];show cond (G9 t (BE i)) _ _=_;cases G9 t (BE i) with
   |true=>rw[ct rfl,Br (by omega) (by omega),CP i,Sd a d m (i+1) _ (by omega) (by omega) hlen,if_pos rfl];rfl
   |false=>rw[cf rfl,Br (by omega) (by omega),CP i,Sd a d m (i+1) _ (by omega) (by omega) c,if_neg (by simp)];rfl
theorem AbS{t:Ah}(b:OkT t)(c:BR t.C≠[]):∃x,K7 K t ((BR t.C).map fun l=>((Di (AB t l) 0 t.Ar:Nat):Int))=some x∧Nd t.Ar.length (G9 t) x:=by
 have a:=b.nl;have e:=Nat.two_pow_pos t.Ar.length;have d:2^t.Ar.length≤2^5:=Nat.pow_le_pow_right (by omega) a;have g:=Sd hK b (2^t.Ar.length) K 0 (BE (2^t.Ar.length-1)) (by omega) (by omega) (Js _);rw[Int.natCast_zero,←List.range_eq_range'] at g;refine⟨_,?_,AaI (n:=t.Ar.length) (p:=G9 t) (c0:=BE (2^t.Ar.length-1)) ⟨_,by omega,rfl⟩ ?_⟩
 ·unfold K7;rw[bd (K8 hK b),bd (Nq hK (by omega)),bd g]
 ·unfold G9;rw[List.any_eq_true];obtain⟨l,hl⟩:=List.exists_mem_of_ne_nil _ c;exact⟨l,hl,Qs _ a⟩
theorem AbT{t:Ah}(f:OkT t)(g:BR t.C≠[]):∃n,Mx K t ((BR t.C).map fun l=>((Di (AB t l) 0 t.Ar:Nat):Int))=some n∧((∃i:Nat,n=i∧G5 t i)∨n=-1∧Gv t t.Ar.length=true):=by
 have o:=f.nl;have a:∀(d m i:Nat),t.Ar.length=i+d→d<m→Gv t i=true→
   ∃n,(H4 K t ((BR t.C).map fun l=>((Di (AB t l) 0 t.Ar:Nat):Int)) m (i:Int)).bind (fun z=>Sum.elim (fun q=>some q) (fun _=>some (-1)) z)=some n∧((∃i:Nat,n=i∧G5 t i)∨n=-1∧Gv t t.Ar.length=true):=by
  intro d
  induction d with
  |zero=>
   intro m i h hm b;obtain⟨m,rfl⟩:∃k',m=k'+1:=⟨m-1,by omega⟩;obtain rfl:i=t.Ar.length:=by omega
   exact⟨-1,by rw[H4.eq_2,cf (df (by omega))];rfl,.inr ⟨rfl,b⟩⟩
  |succ d ih=>
   intro m i h hm b;obtain⟨m,rfl⟩:∃k',m=k'+1:=⟨m-1,by omega⟩;obtain⟨s1,s2,s,u,v,j,k⟩:=L4 i (by omega);have p:2^(i+1)≤2^5:=Nat.pow_le_pow_right (by omega) (by omega);have r:=Nat.two_pow_pos (i+1);have e:((2^(i+1):Nat):Int)-1=((2^(i+1)-1:Nat):Int):=by omega
   have c:_=some (Gv t (i+1)):=Yb hK f (w:=2^(i+1)-1) (by omega) (fun l=>CK (AB t l) [] 0 (t.Ar.take (i+1))) (fun l=>AbR _ _ (by omega));rw[H4.eq_2,ct (dt (by omega)),bd s1,bd j,k,e,Br (by omega) (by omega),bd c];cases hq:Gv t (i+1) with
   |false=>exact⟨i,rfl,.inl ⟨i,rfl,by omega,b,hq⟩⟩
   |true=>
    rw[nt,Br (by omega) (by omega),CP i];exact ih m (i+1) (by omega) (by omega) hq
 exact a t.Ar.length K 0 (by omega) (by omega) (Ra hK g)
end
end Go.Proofs.YtbhofkcbfblijaaGreat
end
section
namespace Go.Proofs.YtbhofkcbfblijaaGreat
namespace HF
theorem Li(b o:Nat)(w:World):(Instr.fieldAt 44 (.pointer (some ⟨b,o,none⟩)) 0).run Tryz.prog w=.ok (.pointer (some ⟨b,o,none⟩)) w:=by kernel_rfl
theorem Lj(b o:Nat)(w:World):(Instr.fieldAt 44 (.pointer (some ⟨b,o,none⟩)) 1).run Tryz.prog w=.ok (.pointer (some ⟨b,o+1,none⟩)) w:=by kernel_rfl
theorem Jw:Bg Tryz.prog 31:=by unfold Bg;kernel_rfl
theorem GV(b:Nat)(w:World):(Instr.fieldAt 44 (.pointer (some ⟨b,2,none⟩)) 0).run Tryz.prog w=.ok (.pointer (some ⟨b,2,none⟩)) w:=by kernel_rfl
theorem GW(b:Nat)(w:World):(Instr.fieldAt 44 (.pointer (some ⟨b,2,none⟩)) 1).run Tryz.prog w=.ok (.pointer (some ⟨b,3,none⟩)) w:=by kernel_rfl
theorem Mw:Bg Tryz.prog 77:=by unfold Bg;kernel_rfl
theorem Lk:Bg Tryz.prog 146:=by unfold Bg;kernel_rfl
theorem Ll:Bg Tryz.prog 100:=by unfold Bg;kernel_rfl
theorem PA:Bg Tryz.prog 73:=by unfold Bg;kernel_rfl
theorem Lm:Bg Tryz.prog 114:=by unfold Bg;kernel_rfl
theorem LK:Bg Tryz.prog 61:=by unfold Bg;kernel_rfl
theorem Kw:Bg Tryz.prog 28:=by unfold Bg;kernel_rfl
theorem Ms:Bg Tryz.prog 63:=by unfold Bg;kernel_rfl
theorem Yc:Bg Tryz.prog 62:=by unfold Bg;kernel_rfl
theorem Zq:Bg Tryz.prog 115:=by unfold Bg;kernel_rfl
theorem OT:Bg Tryz.prog 65:=by unfold Bg;kernel_rfl
theorem PB:Bg Tryz.prog 44:=by unfold Bg;kernel_rfl
theorem Ae8:Bg Tryz.prog 45:=by unfold Bg;kernel_rfl
theorem Ae9:Bg Tryz.prog 46:=by unfold Bg;kernel_rfl
theorem Afa:Bg Tryz.prog 47:=by unfold Bg;kernel_rfl
end HF
end Go.Proofs.YtbhofkcbfblijaaGreat
end
section
namespace Go.Proofs.YtbhofkcbfblijaaGreat
open Go.RowKit Go.WideShapes
set_option maxRecDepth 20000
open HF
attribute [local irreducible] Dm WL CC CW LV B7 Ih GL One Bg
theorem QW a0 e y c d m n o p i j(Z:Nat→Prop) w(a2:Sl Az w Z c d e.Ax)(a3:Sl (Bs (Ao .i64)) w Z m n e.Bv)(a4:Sl AH w Z o p e.AQ)(a5:Sl (Ao .i64) w Z i j y) bN(a:Ck a0 e y=some bN):
 B7 Tryz.prog 77 #[.agg (AE c d m n o p e).toArray,.slice i y.length j] w (fun v w'=>Ext w w'∧Cm.R w' (zf Z w []) v bN):=by
 unfold Ck at a;refine rq (N:=43) Tryz.func77 fun cP ha cQ=>?_;have bB:=sA 0 ha;have bC:=sA 1 ha;clear ha;have a9:Hp FN [] w [] w:=Hp.start (BL.none w);have ⟨aH,aI,aJ,aK⟩:=Et a2 a3 a4 a5 (Bd (Z:=Z) (L:=[]) w);refine cr<|wE (fun st=>BP (v:=.agg (AE c d m n o p e).toArray) (cs:=(AE c d m n o p e).toArray) (ee st bB) rfl) ?_;rintro _ w1 ⟨b1,rfl,aG⟩;have bO:=a9.nb aG;have cL:=a9.BU aG;refine wA (v:=.bool false) rfl<|wn<|Af<|cr<|wA (v:=I 0) rfl<|wn<|AI ?_;replace a:=bind_some a;obtain⟨z2,aB,a⟩:=a;refine BX (fun bD s z=>(bD=.ret∧∃aC,z2=.inl aC∧Fo X0 43 s∧sl s 4=.bool aC∧Hp FN [] w [some b1] z)∨(bD=.exit 0∧∃aC,z2=.inr aC∧Fo X0 43 s∧sl s 1=.slice i y.length j∧sl s 2=pt b1 0∧Hp FN [] w [some b1] z∧Bk z b1 26 (AE c d m n o p e).toArray∧Sl Az z (zf Z w [some b1]) c d e.Ax∧Sl (Bs (Ao .i64)) z (zf Z w [some b1]) m n e.Bv∧Sl AH z (zf Z w [some b1]) o p e.AQ∧Sl (Ao .i64) z (zf Z w [some b1]) i j y)) ?bP ?bQ
 case bP=>
  clear a;refine BW (fun bE s z=>∃b,Bm a0 e y bE b=some z2∧Fo X0 43 s∧sl s 1=.slice i y.length j∧sl s 2=pt b1 0∧sl s 5=I b∧Hp FN [] w [some b1] z∧Bk z b1 26 (AE c d m n o p e).toArray∧Sl Az z (zf Z w [some b1]) c d e.Ax∧Sl (Bs (Ao .i64)) z (zf Z w [some b1]) m n e.Bv∧Sl AH z (zf Z w [some b1]) o p e.AQ∧Sl (Ao .i64) z (zf Z w [some b1]) i j y) a0 ?bR ?bS
  case bR=>
   intro st;have ⟨aL,aM,aN,aO⟩:=Et aH aI aJ aK (AA aG);exact⟨(0:Int),aB,qo st,sp st 1 bC,sp st 2 rfl,sp st 5 rfl,bO,aG.bk,aL,aM,aN,aO⟩
  case bS=>
   rintro(_|bE) cR cS ⟨b,aB,bF,aA,q,r,aT,h,f,t,u,l⟩
   ·exact absurd (show none=some _ from aB) (by simp)
   rw[Bm.eq_2] at aB;have a:=aB;clear aB;refine ro bF<|Af<|cr<|wM (v:=I b) r<|wM (v:=.slice i y.length j) aA<|wD (fun st=>Be Tryz.underlying31 (eR st))<|wD (fun st=>B9 (eR st) (eR st))<|wM (v:=.bool (decide (b<(y.length:Int)))) rfl ?_;rcases Ae (decide (b<(y.length:Int))) with g|g
   ·replace a:=Ap a g;refine wN g (v:=I b) r<|wG g (fun st=>Ad (ee st q) (Ej _ _))<|wG g (fun st=>As (v:=.slice c e.Ax.length d) EJ (eR st) h rfl)<|wG g (fun st=>Be Tryz.underlying22 (eR st))<|wG g (fun st=>B9 (eR st) (eR st))<|wD (fun st=>AW (v:=.bool (decide (b<(e.Ax.length:Int)))) (eR st) g (eR st))<|wn ?_;rcases Ae (decide (b<(e.Ax.length:Int))) with aE|aE
    ·replace a:=Ap a aE;refine Am rfl aE<|cn<|Af<|AI<|Af ?_;replace a:=AP a;obtain⟨i6,bT,bU,bV,bW,a⟩:=a;obtain⟨cM,cN,_,bX,rfl,bY⟩:=Sl.Cz l rfl bV;replace a:=AP a;obtain⟨i7,bZ,b4,b5,b6,a⟩:=a;obtain⟨b7,b8,_,b9,rfl,cA⟩:=Sl.elem f (by decide) b5;replace a:=AP a;obtain⟨i8,cB,cC,cD,cE,a⟩:=a;obtain⟨cF,cG,_,cH,rfl,cI⟩:=Sl.elem f (by decide) cD;refine BK 16 [Kc (.slice i y.length j),Kc (I b),Kc (pt cM (cN+i6)),Kc (I bT),Kc (pt b1 0),Kc (.slice c e.Ax.length d),Kc (I b),Kc (pt b7 (b8+i7*2)),Kc (pt b7 (b8+i7*2)),Kc (I bZ.Lo),Kc (pt b1 0),Kc (.slice c e.Ax.length d),Kc (I b),Kc (pt cF (cG+i8*2)),Kc (pt cF (cG+i8*2+1)),Kc (I cB.Hi)] mixed rfl rfl
         (Aa (oD (fun K=>Au (es ((K.out 1 rfl).trans aA))))
         (Aa (oD (fun K=>Au (es ((K.out 5 rfl).trans r))))
         (Aa (oD (fun K=>AR (k:=i6) Tryz.underlying31 C7 (es (K.dq 0 19)) bX (es (K.dq 1 20)) bU bW))
         (Aa (oD (fun K=>Bb Bh (es (K.dq 2 21)) (bY.mv (Ac K.AD)) rfl))
         (Aa (oD (fun K=>Ad (es ((K.out 2 rfl).trans q)) (Ej _ _)))
         (Aa (oD (fun K=>As EJ (es (K.dq 4 23)) (h.ext K.AD) rfl))
         (Aa (oD (fun K=>Au (es ((K.out 5 rfl).trans r))))
         (Aa (oD (fun K=>BD (k:=i7) Tryz.underlying22 Gu (es (K.dq 5 24)) b9 (es (K.dq 6 25)) b4 b6))
         (Aa (oD (fun K=>Ad (es (K.dq 7 26)) (Li _ _ _)))
         (Aa (oD (fun K=>Bb Bh (es (K.dq 8 27)) (cA.mv (Ac K.AD)) rfl))
         (Aa (oD (fun K=>Ad (es ((K.out 2 rfl).trans q)) (Ej _ _)))
         (Aa (oD (fun K=>As EJ (es (K.dq 10 29)) (h.ext K.AD) rfl))
         (Aa (oD (fun K=>Au (es ((K.out 5 rfl).trans r))))
         (Aa (oD (fun K=>BD (k:=i8) Tryz.underlying22 Gu (es (K.dq 11 30)) cH (es (K.dq 12 31)) cC cE))
         (Aa (oD (fun K=>Ad (es (K.dq 13 32)) (Lj _ _ _)))
         (Aa (oD (fun K=>Fu Bh (es (K.dq 14 33)) (cI.mv (Ac K.AD)) rfl))
         (BI _))))))))))))))))) ?_
     intro cV;rintro _ rfl _ rfl _ rfl _ rfl _ rfl _ rfl _ rfl _ rfl _ rfl _ rfl _ rfl _ rfl _ rfl _ rfl _ rfl _ rfl aU;have cJ:=aT.ext aU;replace a:=bind_some a;obtain⟨a7,cK,a⟩:=a;refine wE (fun st=>Aj DR (eR st) (Dx (eR st) (eR st) (eR st)) (GZ a0 bT bZ.Lo cB.Hi ZA _ a7 cK)) ?_;rintro _ cT ⟨aV,rfl⟩;have bA:=cJ.ext aV;refine wD (fun st=>CJ (eR st))<|wn ?_;rcases Ae (!a7) with x|x
     ·replace a:=Ap a x;have bL:a7=false:=by simpa using x
      refine Am rfl x<|cr<|wA (v:=.bool false) rfl<|wn<|Av<|Dd<|AG ?_;obtain rfl:=oi a;refine BC (fun st=>?_);exact .inl ⟨rfl,false,rfl,qo st,sp st 4 rfl,bA⟩
     ·replace a:=Aq a x;have bM:a7=true:=by simpa using x
      refine An rfl x<|Ct<|CS<|Al<|wM (v:=I b) r ?_;replace a:=AF a;obtain⟨bG,a⟩:=a;refine wD (fun st=>BG (eR st) (eR st) bG)<|wA (v:=I (b+1)) rfl<|AU ?_;have a8:=((h.ext aU).ext aV);have ⟨aP,aQ,aR,aS⟩:=Et f t u l (mt (Ac aU) (Ac aV));refine Bi bE (Nat.lt_succ_self _) (fun st=>?_);exact⟨(b+1),a,qo st,sp st 1 aA,sp st 2 q,sp st 5 rfl,bA,a8,aP,aQ,aR,aS⟩
    ·replace a:=Aq a aE;refine An rfl aE<|Dq ?_;obtain rfl:=oi a;refine BC (fun st=>?_);exact .inr ⟨rfl,(),rfl,qo st,sp st 1 aA,sp st 2 q,aT,h,f,t,u,l⟩
   ·replace a:=Aq a g;refine wF g<|wF g<|wF g<|wF g<|wF g<|wD (fun st=>Bo (v:=.bool false) (eR st) g (eR st))<|wn<|An rfl rfl<|Dq ?_;obtain rfl:=oi a;refine BC (fun st=>?_);exact .inr ⟨rfl,(),rfl,qo st,sp st 1 aA,sp st 2 q,aT,h,f,t,u,l⟩
 case bQ=>
  rintro bD cO cU (⟨rfl,aC,rfl,aD,aW,aF⟩|⟨rfl,aC,rfl,aD,aX,aY,aF,aZ,bH,bI,bJ,bK⟩)
  ·skip
   replace a:=C9 a;refine lf aD<|Dd ?_;obtain rfl:=oi a;refine Ay rfl aW ?_;exact⟨aF.AS,rfl⟩
  ·skip
   replace a:=Da a;refine lf aD<|AZ<|BS<|cr<|wM (v:=.slice i y.length j) aX<|wD (fun st=>Be Tryz.underlying31 (eR st))<|wD (fun st=>Ad (ee st aY) (Ej _ _))<|wD (fun st=>As (v:=.slice c e.Ax.length d) EJ (eR st) aZ rfl)<|wD (fun st=>Be Tryz.underlying22 (eR st))<|wD (fun st=>CT (eR st) (eR st))<|wA (v:=.bool ((y.length:Int)==(e.Ax.length:Int))) rfl<|wn<|Av ?_;obtain rfl:=oi a;refine Ay rfl rfl ?_;exact⟨aF.AS,rfl⟩
theorem a31 aJ p i s j l e f m n b c(Z:Nat→Prop) w(z:Sl Az w Z j l p.Ax)(aA:Sl (Bs (Ao .i64)) w Z e f p.Bv)(aB:Sl AH w Z m n p.AQ)(aC:Sl (Ao .i64) w Z b c i) aK(a:Cj aJ p i s=some aK):
 B7 Tryz.prog 31 #[.agg (AE j l e f m n p).toArray,.slice b i.length c,I s] w (fun v w'=>Ext w w'∧(DT .i64).R w' (zf Z w []) v aK):=by
 unfold Cj at a;refine rq (N:=25) Tryz.func31 fun a4 ha a5=>?_;have aG:=sA 0 ha;have o:=sA 1 ha;have r:=sA 2 ha;clear ha;have aE:Hp FN [] w [] w:=Hp.start (BL.none w);have ⟨aH,t,aI,g⟩:=Et z aA aB aC (Bd (Z:=Z) (L:=[]) w);refine cr<|wE (fun st=>BP (v:=.agg (AE j l e f m n p).toArray) (cs:=(AE j l e f m n p).toArray) (ee st aG) rfl) ?_;rintro _ w1 ⟨b1,rfl,h⟩;have aF:=aE.nb h;have a3:=aE.BU h;refine wA (v:=I 0) rfl<|wn<|Af<|cr<|wM (v:=I s) r<|wM (v:=.slice b i.length c) o<|wD (fun st=>Be Tryz.underlying31 (eR st))<|wD (fun st=>B9 (eR st) (eR st))<|wn ?_;rcases Ae (decide (s<(i.length:Int))) with q|q
 ·replace a:=Ap a q;refine Am rfl q<|cr<|wM (v:=.slice b i.length c) o<|wM (v:=I s) r ?_;replace a:=AP a;obtain⟨i3,aL,aM,aN,aO,a⟩:=a;have d:=(g.mv (AA h));obtain⟨b3,a7,_,aP,rfl,aQ⟩:=Sl.Cz d rfl aN;refine wD (fun st=>AR (k:=i3) Tryz.underlying31 C7 (eR st) aP (eR st) aM aO)<|wD (fun st=>Bb (v:=I aL) Bh (eR st) aQ rfl)<|wA (v:=I aL) rfl<|wn<|Av<|AG ?_;obtain rfl:=oi a;refine Ay rfl rfl ?_;exact⟨aF.AS,rfl⟩
 ·replace a:=Aq a q;refine An rfl q<|cn<|cr<|wM (v:=.slice b i.length c) o<|wD (fun st=>Ad (eR st) (DP _ _))<|wD (fun st=>As (v:=.slice e p.Bv.length f) DH (eR st) h.bk rfl)<|wM (v:=I s) r<|wM (v:=.slice b i.length c) o<|wD (fun st=>Be Tryz.underlying31 (eR st)) ?_;replace a:=AF a;obtain⟨aR,a⟩:=a;refine wD (fun st=>El (eR st) (eR st) aR) ?_;replace a:=AP a;obtain⟨i5,aS,aT,aU,aV,a⟩:=a;have u:=(t.mv (AA h));obtain⟨a8,a9,_,aW,⟨x,y,rfl,aD⟩,aX⟩:=Sl.Cz u rfl aU;refine wD (fun st=>AR (k:=i5) Tryz.underlying23 ES (eR st) aW (eR st) aT aV)<|wD (fun st=>Bb (v:=.slice x aS.length y) DB (eR st) aX rfl) ?_;have d:=(g.mv (AA h));replace a:=bind_some a;obtain⟨aY,aZ,a⟩:=a;refine wE (fun st=>Aj Nk (eR st) (CN (eR st) (eR st)) (a87 aJ i aS b c x y ZA _ d.all aD.all aY aZ)) ?_;rintro _ bA ⟨a0,rfl⟩;have a2:=aF.ext a0;refine wA (v:=I aY) rfl<|wn<|Av ?_;obtain rfl:=oi a;refine Ay rfl rfl ?_;exact⟨a2.AS,rfl⟩
theorem a146 aC k aB a c d e f g i m n(Z:Nat→Prop) w(aF:Sl Az w Z c d k.Ax)(aG:Sl (Bs (Ao .i64)) w Z e f k.Bv)(aH:Sl AH w Z g i k.AQ)(aI:Sl (Ao .i64) w Z m n aB) aT(b:Cf aC k aB a=some aT):
 B7 Tryz.prog 146 #[.agg (AE c d e f g i k).toArray,.slice m aB.length n,.agg #[.bool a.Ce,I a.Number,I a.AM,I a.AN]] w (fun v w'=>Ext w w'∧Cm.R w' (zf Z w []) v aT):=by
 unfold Cf at b;refine rq (N:=28) Tryz.func146 fun a9 ha bA=>?_;have aN:=sA 0 ha;have aD:=sA 1 ha;have aO:=sA 2 ha;clear ha;have aJ:Hp FN [] w [] w:=Hp.start (BL.none w);have ⟨t,u,x,y⟩:=Et aF aG aH aI (Bd (Z:=Z) (L:=[]) w);refine cr<|wE (fun st=>BP (v:=.agg (AE c d e f g i k).toArray) (cs:=(AE c d e f g i k).toArray) (ee st aN) rfl) ?_;rintro _ w1 ⟨b1,rfl,z⟩;have aK:=aJ.nb z;have a7:=aJ.BU z;refine wE (fun st=>BP (v:=.agg #[.bool a.Ce,I a.Number,I a.AM,I a.AN]) (cs:= #[.bool a.Ce,I a.Number,I a.AM,I a.AN]) (ee st aO) rfl) ?_;rintro _ w2 ⟨b2,rfl,j⟩;have aL:=aK.nb j;have a8:=aK.BU j;refine wA (v:=.bool false) rfl<|wr<|wD (fun st=>Ad (eR st) (Nj _ _))<|wD (fun st=>As (v:=I a.Number) Bh (eR st) j.bk rfl)<|wA (v:=I a.Number) rfl<|wn<|Af<|cr<|wD (fun st=>Ad (eR st) (NW _ _))<|wD (fun st=>As (v:=.bool a.Ce) L3 (eR st) j.bk rfl)<|wn ?_;rcases Ae (a.Ce) with aA|aA
 ·replace b:=Ap b aA;refine Am rfl aA<|Al<|wM (v:=I a.Number) rfl<|wD (fun st=>Ad (eR st) (Ej _ _)) ?_;have s:=(z.bk.ext j.gr);refine wD (fun st=>As (v:=.slice c k.Ax.length d) EJ (eR st) s rfl)<|wD (fun st=>Be Tryz.underlying22 (eR st)) ?_;replace b:=AF b;obtain⟨aU,b⟩:=b;refine wD (fun st=>BG (eR st) (eR st) aU)<|wA (v:=I (a.Number+(k.Ax.length:Int))) rfl<|wn<|Af ?_;have ⟨o,p,q,r⟩:=Et t u x y (mt (AA z) (AA j));replace b:=bind_some b;obtain⟨aP,aV,b⟩:=b;refine BK 10 [Kc (.agg (AE c d e f g i k).toArray),Kc (.slice m aB.length n),Kc (I (a.Number+(k.Ax.length:Int))),Kc (I aP),Kc (pt b2 2),Kc (pt b2 2),Kc (I a.AM),Kc (pt b2 2),Kc (pt b2 3),Kc (I a.AN)] mixed rfl rfl
      (Aa (oD (fun K=>AK (l:=(AE c d e f g i k)) Dt (K.kO 3) (s.ext K.AD) rfl rfl))
      (Aa (oD (fun K=>Au (es ((K.out 1 rfl).trans aD))))
      (Aa (oD (fun K=>Au (K.kO 7)))
      (Aa (oE (fun K=>(Aj Jw rfl (Dx (es (K.dq 0 17)) (es (K.dq 1 18)) (es (K.dq 2 19))) (a31 aC k aB (a.Number+(k.Ax.length:Int)) c d e f g i m n ZA _ (o.mv (Ac K.AD)).all (p.mv (Ac K.AD)).all (q.mv (Ac K.AD)).all (r.mv (Ac K.AD)).all aP aV)).mono (fun _ _ h=>⟨h.2,h.1⟩)))
      (Aa (oD (fun K=>Ad (K.kO 5) (FZ _ _)))
      (Aa (oD (fun K=>Ad (es (K.dq 4 21)) (GV _ _)))
      (Aa (oD (fun K=>As Bh (es (K.dq 5 22)) (j.bk.ext K.AD) rfl))
      (Aa (oD (fun K=>Ad (K.kO 5) (FZ _ _)))
      (Aa (oD (fun K=>Ad (es (K.dq 7 24)) (GW _ _)))
      (Aa (oD (fun K=>As Bh (es (K.dq 8 25)) (j.bk.ext K.AD) rfl))
      (BI _))))))))))) ?_
  intro bC;rintro _ rfl _ rfl _ rfl _ rfl _ rfl _ rfl _ rfl _ rfl _ rfl _ rfl aW;have aX:=aL.ext aW;replace b:=bind_some b;obtain⟨aY,aZ,b⟩:=b;refine wE (fun st=>Aj DR (eR st) (Dx (eR st) (eR st) (eR st)) (GZ aC aP a.AM a.AN ZA _ aY aZ)) ?_;rintro _ bD ⟨a0,rfl⟩;have a2:=aX.ext a0;refine wA (v:=.bool aY) rfl<|wn<|Av ?_;obtain rfl:=oi b;refine Ay rfl rfl ?_;exact⟨a2.AS,rfl⟩
 ·replace b:=Aq b aA;refine An rfl aA<|cn<|Af ?_;have s:=(z.bk.ext j.gr);have ⟨o,p,q,r⟩:=Et t u x y (mt (AA z) (AA j));replace b:=bind_some b;obtain⟨aE,aQ,b⟩:=b;refine BK 10 [Kc (.agg (AE c d e f g i k).toArray),Kc (.slice m aB.length n),Kc (I a.Number),Kc (I aE),Kc (pt b2 2),Kc (pt b2 2),Kc (I a.AM),Kc (pt b2 2),Kc (pt b2 3),Kc (I a.AN)] mixed rfl rfl
      (Aa (oD (fun K=>AK (l:=(AE c d e f g i k)) Dt (K.kO 3) (s.ext K.AD) rfl rfl))
      (Aa (oD (fun K=>Au (es ((K.out 1 rfl).trans aD))))
      (Aa (oD (fun K=>Au (K.kO 7)))
      (Aa (oE (fun K=>(Aj Jw rfl (Dx (es (K.dq 0 17)) (es (K.dq 1 18)) (es (K.dq 2 19))) (a31 aC k aB a.Number c d e f g i m n ZA _ (o.mv (Ac K.AD)).all (p.mv (Ac K.AD)).all (q.mv (Ac K.AD)).all (r.mv (Ac K.AD)).all aE aQ)).mono (fun _ _ h=>⟨h.2,h.1⟩)))
      (Aa (oD (fun K=>Ad (K.kO 5) (FZ _ _)))
      (Aa (oD (fun K=>Ad (es (K.dq 4 21)) (GV _ _)))
      (Aa (oD (fun K=>As Bh (es (K.dq 5 22)) (j.bk.ext K.AD) rfl))
      (Aa (oD (fun K=>Ad (K.kO 5) (FZ _ _)))
      (Aa (oD (fun K=>Ad (es (K.dq 7 24)) (GW _ _)))
      (Aa (oD (fun K=>As Bh (es (K.dq 8 25)) (j.bk.ext K.AD) rfl))
      (BI _))))))))))) ?_
  intro bE;rintro _ rfl _ rfl _ rfl _ rfl _ rfl _ rfl _ rfl _ rfl _ rfl _ rfl a3;have a4:=aL.ext a3;replace b:=bind_some b;obtain⟨aM,aR,b⟩:=b;refine wE (fun st=>Aj DR (eR st) (Dx (eR st) (eR st) (eR st)) (GZ aC aE a.AM a.AN ZA _ aM aR)) ?_;rintro _ bB ⟨aS,rfl⟩;have a5:=a4.ext aS;refine wA (v:=.bool aM) rfl<|wn<|Av ?_;obtain rfl:=oi b;refine Ay rfl rfl ?_;exact⟨a5.AS,rfl⟩
theorem O6 a7 h u d e f g b c j m(Z:Nat→Prop) w(bC:Sl Az w Z d e h.Ax)(bD:Sl (Bs (Ao .i64)) w Z f g h.Bv)(bE:Sl AH w Z b c h.AQ)(bF:Sl (Ao .i64) w Z j m u) b5(a:BZ a7 h u=some b5):
 B7 Tryz.prog 100 #[.agg (AE d e f g b c h).toArray,.slice j u.length m] w (fun v w'=>Ext w w'∧Cm.R w' (zf Z w []) v b5):=by
 unfold BZ at a;refine rq (N:=26) Tryz.func100 fun cJ ha cK=>?_;have bN:=sA 0 ha;have a8:=sA 1 ha;clear ha;have bJ:Hp FN [] w [] w:=Hp.start (BL.none w);have ⟨aT,aU,aV,aW⟩:=Et bC bD bE bF (Bd (Z:=Z) (L:=[]) w);refine cr<|wE (fun st=>BP (v:=.agg (AE d e f g b c h).toArray) (cs:=(AE d e f g b c h).toArray) (ee st bN) rfl) ?_;rintro _ w1 ⟨b1,rfl,aK⟩;have b6:=bJ.nb aK;have cF:=bJ.BU aK;refine wA (v:=.bool false) rfl<|wn<|Af<|cr<|wD (fun st=>AK (l:=(AE d e f g b c h)) Dt (eR st) aK.bk rfl rfl)<|wM (v:=.slice j u.length m) a8 ?_;have ⟨x,y,z,aA⟩:=Et aT aU aV aW (AA aK);replace a:=bind_some a;obtain⟨bG,b7,a⟩:=a;refine wE (fun st=>Aj Mw (eR st) (CN (eR st) (eR st)) (QW a7 h u d e f g b c j m ZA _ x.all y.all z.all aA.all bG b7)) ?_;rintro _ cP ⟨a9,rfl⟩;have bK:=b6.ext a9;refine wD (fun st=>CJ (eR st))<|wn ?_;rcases Ae (!bG) with s|s
 ·replace a:=Ap a s;have cG:bG=false:=by simpa using s
  refine Am rfl s<|cr<|wA (v:=.bool false) rfl<|wn<|Av<|AG ?_;obtain rfl:=oi a;refine Ay rfl rfl ?_;exact⟨bK.AS,rfl⟩
 ·replace a:=Aq a s;have cH:bG=true:=by simpa using s
  refine An rfl s<|cn<|Af<|cr<|wA (v:=I 0) rfl<|wn<|AI ?_;replace a:=bind_some a;obtain⟨bO,aB,a⟩:=a;refine BX (fun bP q aH=>(bP=.ret∧∃aC,bO=.inl aC∧Fo X0 26 q∧sl q 4=.bool aC∧Hp FN [] w [some b1] aH)∨(bP=.exit 0∧∃aC,bO=.inr aC∧Fo X0 26 q∧Hp FN [] w [some b1] aH)) ?b8 ?b9
  case b8=>
   clear a;refine BW (fun bQ q aH=>∃i,AL a7 h u bQ i=some bO∧Fo X0 26 q∧sl q 1=.slice j u.length m∧sl q 2=pt b1 0∧sl q 5=I i∧Hp FN [] w [some b1] aH∧Bk aH b1 26 (AE d e f g b c h).toArray∧Sl Az aH (zf Z w [some b1]) d e h.Ax∧Sl (Bs (Ao .i64)) aH (zf Z w [some b1]) f g h.Bv∧Sl AH aH (zf Z w [some b1]) b c h.AQ∧Sl (Ao .i64) aH (zf Z w [some b1]) j m u) a7 ?cA ?cB
   case cA=>
    intro st;have bH:=(aK.bk.ext a9);have ⟨aX,aY,aZ,a0⟩:=Et x y z aA (Ac a9);exact⟨(0:Int),aB,qo st,sp st 1 a8,sp st 2 rfl,sp st 5 rfl,bK,bH,aX,aY,aZ,a0⟩
   case cB=>
    rintro(_|bQ) cL cM ⟨i,aB,bR,aR,r,aI,bL,o,aM,aN,t,aO⟩
    ·exact absurd (show none=some _ from aB) (by simp)
    rw[AL.eq_2] at aB;have a:=aB;clear aB;refine ro bR<|Af<|cr<|wM (v:=I i) aI<|wD (fun st=>Ad (ee st r) (II _ _))<|wD (fun st=>As (v:=.slice b h.AQ.length c) JI (eR st) o rfl)<|wD (fun st=>Be Tryz.underlying24 (eR st))<|wD (fun st=>B9 (eR st) (eR st))<|wn ?_;rcases Ae (decide (i<(h.AQ.length:Int))) with aL|aL
    ·replace a:=Ap a aL;refine Am rfl aL<|cn<|Af<|AI<|Af ?_;replace a:=AP a;obtain⟨i10,p,bS,bT,bU,a⟩:=a;obtain⟨cC,cD,_,bV,rfl,bW⟩:=Sl.elem t (by decide) bT;refine BK 7 [Kc (.agg (AE d e f g b c h).toArray),Kc (.slice j u.length m),Kc (pt b1 2),Kc (.slice b h.AQ.length c),Kc (I i),Kc (pt cC (cD+i10*4)),Kc (.agg #[.bool p.Ce,I p.Number,I p.AM,I p.AN])] mixed rfl rfl
         (Aa (oD (fun K=>AK (l:=(AE d e f g b c h)) Dt (es ((K.out 2 rfl).trans r)) (o.ext K.AD) rfl rfl))
         (Aa (oD (fun K=>Au (es ((K.out 1 rfl).trans aR))))
         (Aa (oD (fun K=>Ad (es ((K.out 2 rfl).trans r)) (II _ _)))
         (Aa (oD (fun K=>As JI (es (K.dq 2 19)) (o.ext K.AD) rfl))
         (Aa (oD (fun K=>Au (es ((K.out 5 rfl).trans aI))))
         (Aa (oD (fun K=>BD (k:=i10) Tryz.underlying24 OX (es (K.dq 3 20)) bV (es (K.dq 4 21)) bS bU))
         (Aa (oD (fun K=>DF (l:=[.bool p.Ce,I p.Number,I p.AM,I p.AN]) OS (es (K.dq 5 22)) (bW.mv (Ac K.AD)) rfl rfl))
         (BI _)))))))) ?_
     intro cQ;rintro _ rfl _ rfl _ rfl _ rfl _ rfl _ rfl _ rfl bA;have cE:=bL.ext bA;have ⟨aD,aE,aF,aG⟩:=Et aM aN t aO (Ac bA);replace a:=bind_some a;obtain⟨aS,bX,a⟩:=a;refine wE (fun st=>Aj Lk (eR st) (Dx (eR st) (eR st) (eR st)) (a146 a7 h u p d e f g b c j m ZA _ aD.all aE.all aF.all aG.all aS bX)) ?_;rintro _ cN ⟨aP,rfl⟩;have bM:=cE.ext aP;refine wD (fun st=>CJ (eR st))<|wn ?_;rcases Ae (!aS) with n|n
     ·replace a:=Ap a n;have bZ:aS=false:=by simpa using n
      refine Am rfl n<|cr<|wA (v:=.bool false) rfl<|wn<|Av<|Dd<|AG ?_;obtain rfl:=oi a;refine BC (fun st=>?_);exact .inl ⟨rfl,false,rfl,qo st,sp st 4 rfl,bM⟩
     ·replace a:=Aq a n;have b4:aS=true:=by simpa using n
      refine An rfl n<|Ct<|CS<|Al<|wM (v:=I i) aI ?_;replace a:=AF a;obtain⟨bY,a⟩:=a;refine wD (fun st=>BG (eR st) (eR st) bY)<|wA (v:=I (i+1)) rfl<|AU ?_;have bI:=((o.ext bA).ext aP);have ⟨a2,a3,a4,a5⟩:=Et aD aE aF aG (Ac aP);refine Bi bQ (Nat.lt_succ_self _) (fun st=>?_);exact⟨(i+1),a,qo st,sp st 1 aR,sp st 2 r,sp st 5 rfl,bM,bI,a2,a3,a4,a5⟩
    ·replace a:=Aq a aL;refine An rfl aL<|Dq ?_;obtain rfl:=oi a;refine BC (fun st=>?_);exact .inr ⟨rfl,(),rfl,qo st,bL⟩
  case b9=>
   rintro bP cI cO (⟨rfl,aC,rfl,aJ,bB,aQ⟩|⟨rfl,aC,rfl,aJ,aQ⟩)
   ·skip
    replace a:=C9 a;refine lf aJ<|Dd ?_;obtain rfl:=oi a;refine Ay rfl bB ?_;exact⟨aQ.AS,rfl⟩
   ·skip
    replace a:=Da a;refine lf aJ<|AZ<|BS<|cr<|wA (v:=.bool true) rfl<|wn<|Av ?_;obtain rfl:=oi a;refine Ay rfl rfl ?_;exact⟨aQ.AS,rfl⟩
theorem Afb aD m n d e(Z:Nat→Prop) w(s:Sl (Ao .i64) w Z d e m) aE(a:JM aD m n=some aE):
 B7 Tryz.prog 115 #[.slice d m.length e,I n] w (fun v w'=>Ext w w'∧Cm.R w' (zf Z w []) v aE):=by
 unfold JM at a;refine rq (N:=20) Tryz.func115 fun aS ha aT=>?_;have x:=sA 0 ha;have y:=sA 1 ha;clear ha;have u:Hp FN [] w [] w:=Hp.start (BL.none w);have q:=s.mv (Bd (Z:=Z) (L:=[]) w);refine cr<|wA (v:=.bool false) rfl<|wn<|Af<|cr<|wA (v:=I 0) rfl<|wn<|AI ?_;replace a:=bind_some a;obtain⟨z,f,a⟩:=a;refine BX (fun aA c t=>(aA=.ret∧∃g,z=.inl g∧Fo X0 20 c∧sl c 4=.bool g∧w=t)∨(aA=.exit 0∧∃g,z=.inr g∧Fo X0 20 c∧w=t)) ?aF ?aG
 case aF=>
  clear a;refine BW (fun aB c t=>∃b,GH m n aB b=some z∧Fo X0 20 c∧sl c 0=.slice d m.length e∧sl c 1=I n∧sl c 5=I b∧w=t) aD ?aH ?aI
  case aH=>
   intro st;exact⟨(0:Int),f,qo st,sp st 0 x,sp st 1 y,sp st 5 rfl,rfl⟩
  case aI=>
   rintro(_|aB) aU _ ⟨b,f,aC,h,i,j,rfl⟩
   ·exact absurd (show none=some _ from f) (by simp)
   rw[GH.eq_2] at f;have a:=f;clear f;refine ro aC<|Af<|cr<|wM (v:=I b) j<|wM (v:=.slice d m.length e) h<|wD (fun st=>Be Tryz.underlying31 (eR st))<|wD (fun st=>B9 (eR st) (eR st))<|wn ?_;rcases Ae (decide (b<(m.length:Int))) with o|o
   ·replace a:=Ap a o;refine Am rfl o<|cn<|Af<|AI<|cr<|wM (v:=.slice d m.length e) h<|wM (v:=I b) j ?_;replace a:=AP a;obtain⟨i3,aJ,aK,aL,aM,a⟩:=a;obtain⟨b3,aV,_,aN,rfl,aO⟩:=Sl.Cz q rfl aL;refine wD (fun st=>AR (k:=i3) Tryz.underlying31 C7 (eR st) aN (eR st) aK aM)<|wD (fun st=>Bb (v:=I aJ) Bh (eR st) aO rfl)<|wM (v:=I n) i ?_;replace a:=G6 a;obtain⟨aP,a⟩:=a;refine wD (fun st=>R9 (eR st) (eR st) aP)<|wM (v:=I n) i<|wD (fun st=>CT (eR st) (eR st))<|wn ?_;rcases Ae ((Lg aJ n)==n) with p|p
    ·replace a:=Ap a p;refine Am rfl p<|cr<|wA (v:=.bool true) rfl<|wn<|Av<|Dd<|AG ?_;obtain rfl:=oi a;refine BC (fun st=>?_);exact .inl ⟨rfl,true,rfl,qo st,sp st 4 rfl,rfl⟩
    ·replace a:=Aq a p;refine An rfl p<|Ct<|CS<|Al<|wM (v:=I b) j ?_;replace a:=AF a;obtain⟨aQ,a⟩:=a;refine wD (fun st=>BG (eR st) (eR st) aQ)<|wA (v:=I (b+1)) rfl<|AU ?_;refine Bi aB (Nat.lt_succ_self _) (fun st=>?_);exact⟨(b+1),a,qo st,sp st 0 h,sp st 1 i,sp st 5 rfl,rfl⟩
   ·replace a:=Aq a o;refine An rfl o<|Dq ?_;obtain rfl:=oi a;refine BC (fun st=>?_);exact .inr ⟨rfl,(),rfl,qo st,rfl⟩
 case aG=>
  rintro aA aR _ (⟨rfl,g,rfl,l,r,rfl⟩|⟨rfl,g,rfl,l,rfl⟩)
  ·skip
   replace a:=C9 a;refine lf l<|Dd ?_;obtain rfl:=oi a;refine Ay rfl r ?_;exact⟨u.AS,rfl⟩
  ·skip
   replace a:=Da a;refine lf l<|AZ<|BS<|cr<|wA (v:=.bool false) rfl<|wn<|Av ?_;obtain rfl:=oi a;refine Ay rfl rfl ?_;exact⟨u.AS,rfl⟩
theorem a28 a3 q f g h i j m(Z:Nat→Prop) w(bQ:Sl Az w Z f g q.Ax)(bR:Sl (Bs (Ao .i64)) w Z h i q.Bv)(bS:Sl AH w Z j m q.AQ) cB(a:By a3 q=some cB):
 B7 Tryz.prog 28 #[.agg (AE f g h i j m q).toArray] w (fun v w'=>Ext w w'∧(Fq (Bs (Ao .i64))).R w' (zf Z w []) v cB):=by
 unfold By at a;refine rq (N:=23) Tryz.func28 fun cW ha cX=>?_;have b5:=sA 0 ha;clear ha;have bY:Hp FN [] w [] w:=Hp.start (BL.none w);have ⟨a4,a5,a7⟩:=DU bQ bR bS (Bd (Z:=Z) (L:=[]) w);refine cr<|wE (fun st=>BP (v:=.agg (AE f g h i j m q).toArray) (cs:=(AE f g h i j m q).toArray) (ee st b5) rfl) ?_;rintro _ w1 ⟨b1,rfl,a0⟩;have cC:=bY.nb a0;have cU:=bY.BU a0;refine wA (v:=.slice none 0 0) rfl<|wr<|wA (v:=.slice none 0 0) rfl<|wn<|Af<|cr<|wA (v:=I 0) rfl<|wn<|AI ?_;have cD:=cC.nil;have cE:BH (Bs (Ao .i64)) 31 w.heap.size w1 (zf Z w [none,some b1]) none 0 ([]:List (List Int)):=BH.nil _ _ _ _ _;replace a:=bind_some a;obtain⟨z2,aN,a⟩:=a;refine BX (fun cF aF aR=>(cF=.exit 0∧∃c n,Fo X0 23 aF∧sl aF 3=.slice c z2.length n∧Hp FN [] w [ob c,some b1] aR∧BH (Bs (Ao .i64)) 31 w.heap.size aR (zf Z w [ob c,some b1]) c n z2)) ?cG ?cH
 case cG=>
  clear a;refine BW (fun bT aF aR=>∃r,∃d,∃b t,Bj a3 q bT r d=some z2∧Fo X0 23 aF∧sl aF 1=pt b1 0∧sl aF 3=.slice b r.length t∧sl aF 4=I d∧Hp FN [] w [ob b,some b1] aR∧BH (Bs (Ao .i64)) 31 w.heap.size aR (zf Z w [ob b,some b1]) b t r∧Bk aR b1 26 (AE f g h i j m q).toArray∧Sl Az aR (zf Z w [ob b,some b1]) f g q.Ax∧Sl (Bs (Ao .i64)) aR (zf Z w [ob b,some b1]) h i q.Bv∧Sl AH aR (zf Z w [ob b,some b1]) j m q.AQ) a3 ?cI ?cJ
  case cI=>
   intro st;have bU:=a0.bk;have ⟨a8,a9,bA⟩:=DU a4 a5 a7 (mt (AA a0) B8);exact⟨([]:List (List Int)),(0:Int),none,0,aN,qo st,sp st 1 rfl,sp st 3 rfl,sp st 4 rfl,cD,cE,bU,a8,a9,bA⟩
  case cJ=>
   rintro(_|bT) cY cZ ⟨r,d,b,t,aN,b6,y,aS,aE,cK,x,aV,aG,aH,aI⟩
   ·exact absurd (show none=some _ from aN) (by simp)
   rw[Bj.eq_2] at aN;have a:=aN;clear aN;refine ro b6<|Af<|cr<|wM (v:=I d) aE<|wD (fun st=>AK (l:=(AE f g h i j m q)) Dt (ee st y) aV rfl rfl) ?_;replace a:=bind_some a;obtain⟨cL,cM,a⟩:=a;refine wE (fun st=>Aj Ol (eR st) (Cy (eR st)) (a59 a3 q f g h i j m ZA _ aG.all aH.all aI.all cL cM)) ?_;rintro _ c5 ⟨z,rfl⟩;have bK:=cK.ext z;refine wD (fun st=>B9 (eR st) (eR st))<|wn ?_;rcases Ae (decide (d<cL)) with aW|aW
   ·replace a:=Ap a aW;refine Am rfl aW<|cn<|Af<|AI<|Af<|Al ?_;have a2:=(aV.ext z);refine wD (fun st=>AK (l:=(AE f g h i j m q)) Dt (ee st y) a2 rfl rfl)<|wM (v:=I d) aE ?_;have ⟨aO,aP,aQ⟩:=DU aG aH aI (Ac z);replace a:=bind_some a;obtain⟨aJ,cN,a⟩:=a;refine wE (fun st=>Aj Pq (eR st) (CN (eR st) (eR st)) (U7 a3 q d f g h i j m (zf Z w [ob b,some b1]) _ aO aP aQ aJ cN)) ?_;rintro _ c6 ⟨aK,⟨o,p,rfl,aA⟩⟩;have cO:=bK.ext aK;have aA:=aA.mv (bK.CQ (Nat.le_refl _));refine wA (v:=.slice o aJ.length p) rfl<|wn<|Af<|Al ?_;have aT:=(a2.ext aK);refine wD (fun st=>AK (l:=(AE f g h i j m q)) Dt (ee st y) aT rfl rfl)<|wM (v:=.slice o aJ.length p) rfl ?_;have ⟨aB,aC,aD⟩:=DU aO aP aQ (Ac aK);replace a:=bind_some a;obtain⟨cP,cQ,a⟩:=a;refine wE (fun st=>Aj Ll (eR st) (CN (eR st) (eR st)) (O6 a3 q aJ f g h i j m o p ZA _ aB.all aC.all aD.all aA.all cP cQ)) ?_;rintro _ c0 ⟨u,rfl⟩;have bL:=cO.ext u;refine wn ?_;rcases Ae (cP) with aL|aL
    ·replace a:=Ap a aL;refine Am rfl aL<|Al<|wM (v:=.slice b r.length t) aS<|wM (v:=.slice o aJ.length p) rfl<|wE (fun st=>Cx (e:=31) (vs:= #[(0,.slice o aJ.length p)]) (cs:= #[.slice o aJ.length p]) (I5 (eR st)) (by kernel_rfl)) ?_;rintro _ c1 ⟨c2,rfl,s⟩;have aX:=bL.nb s;have cR:=bL.BU s;have bB:=((((x.ext z (Ac z)).ext aK (Ac aK)).ext u (Ac u)).ext s.gr (AA s));replace a:=Ci a;obtain⟨bM,a⟩:=a;have aY:=((aA.mv (Ac u)).mv (AA s));refine wE (fun st=>Hg (ys:=[aJ]) Tryz.underlying23 Kr rfl rfl (by decide) (eR st) rfl (eR st) bB (GK (CM:=[[.slice o aJ.length p]]) s.bk ⟨⟨_,_,rfl,aY⟩,trivial⟩ rfl) (by have:=bM;simp only[maxLen];omega) (by have:=bM;omega) aX.sz (by simp)) ?_;rintro _ c3 ⟨bZ,b4,rfl,aU,aZ,b7⟩;have cS:=aX.row aU 1 rfl aZ;have b8:=Eb b7 (aX.DE aU 1 rfl (fun k hk=>(aZ k hk).1));refine wA (v:=.slice bZ ((r++[aJ]).length) b4) rfl<|AU<|CS<|Al<|wM (v:=I d) aE ?_;replace a:=AF a;obtain⟨b9,a⟩:=a;refine wD (fun st=>BG (eR st) (eR st) b9)<|wA (v:=I (d+1)) rfl<|AU ?_;have cT:=cS.erase 0;have bN:=(b8.up (AV 0));have bV:=(((aT.ext u).ext s.gr).gr aU (aX.nq 2 1));have ⟨bC,bD,bE⟩:=DU aB aC aD (mt (Ac u) (mt (AA s) (mt (aX.DE aU 1 rfl (fun k hk=>(aZ k hk).1)) (AV 0))));refine Bi bT (Nat.lt_succ_self _) (fun st=>?_);exact⟨(r++[aJ]),(d+1),bZ,b4,a,qo st,sp st 1 y,sp st 3 rfl,sp st 4 rfl,cT,bN,bV,bC,bD,bE⟩
    ·replace a:=Aq a aL;refine An rfl aL<|Ct<|CS<|Al<|wM (v:=I d) aE ?_;replace a:=AF a;obtain⟨cA,a⟩:=a;refine wD (fun st=>BG (eR st) (eR st) cA)<|wA (v:=I (d+1)) rfl<|AU ?_;have bF:=(((x.ext z (Ac z)).ext aK (Ac aK)).ext u (Ac u));have bW:=(aT.ext u);have ⟨bG,bH,bI⟩:=DU aB aC aD (Ac u);refine Bi bT (Nat.lt_succ_self _) (fun st=>?_);exact⟨r,(d+1),b,t,a,qo st,sp st 1 y,sp st 3 aS,sp st 4 rfl,bL,bF,bW,bG,bH,bI⟩
   ·replace a:=Aq a aW;refine An rfl aW<|Dq ?_;obtain rfl:=oi a;have bJ:=(x.ext z (Ac z));refine BC (fun st=>?_);exact⟨rfl,b,t,qo st,sp st 3 aS,bK,bJ⟩
 case cH=>
  rintro cF cV c4 (⟨rfl,c,n,bX,bO,bP,aM⟩);refine lf bX<|AZ<|BS<|cr<|wM (v:=.slice c z2.length n) bO<|wA (v:=.slice c z2.length n) rfl<|wn<|Av ?_;obtain rfl:=oi a;refine Ay rfl rfl ?_;exact⟨bP.AS,⟨_,_,rfl,bP.HP (M:=[]) 0 rfl [] rfl trivial aM⟩⟩
theorem QU aS r(Z:Nat→Prop) w aT(a:CI aS r=some aT):
 B7 Tryz.prog 63 #[I r] w (fun v w'=>Ext w w'∧(Fq (Ao .i64)).R w' (zf Z w []) v aT):=by
 unfold CI at a;refine rq (N:=23) Tryz.func63 fun bC ha bD=>?_;have aM:=sA 0 ha;clear ha;have aU:Hp FN [] w [] w:=Hp.start (BL.none w);refine cr<|wA (v:=.slice none 0 0) rfl<|wr<|wA (v:=.slice none 0 0) rfl<|wn<|Af<|cr<|wA (v:=I 0) rfl<|wn<|AI ?_;have aV:=aU.nil;have aW:BH (Ao .i64) 3 w.heap.size w (zf Z w [none]) none 0 ([]:List Int):=BH.nil _ _ _ _ _;replace a:=bind_some a;obtain⟨y,p,a⟩:=a;refine BX (fun aX m z=>(aX=.exit 0∧∃c d,Fo X0 23 m∧sl m 3=.slice c y.length d∧Hp FN [] w [ob c] z∧BH (Ao .i64) 3 w.heap.size z (zf Z w [ob c]) c d y)) ?aY ?aZ
 case aY=>
  clear a;refine BW (fun aH m z=>∃g,∃b,∃f h,BO r aH g b=some y∧Fo X0 23 m∧sl m 0=I r∧sl m 3=.slice f g.length h∧sl m 4=I b∧Hp FN [] w [ob f] z∧BH (Ao .i64) 3 w.heap.size z (zf Z w [ob f]) f h g) aS ?a0 ?a2
  case a0=>
   intro st;exact⟨([]:List Int),(0:Int),none,0,p,qo st,sp st 0 aM,sp st 3 rfl,sp st 4 rfl,aV,aW⟩
  case a2=>
   rintro(_|aH) bE bF ⟨g,b,f,h,p,aN,l,q,j,u,i⟩
   ·exact absurd (show none=some _ from p) (by simp)
   rw[BO.eq_2] at p;have a:=p;clear p;refine ro aN<|Af<|cr<|wM (v:=I r) l<|wM (v:=I b) j ?_;replace a:=Dy a;obtain⟨a3,a⟩:=a;refine wD (fun st=>Er (k:=.u64) Ho Tryz.underlying91 (eR st) a3) ?_;replace a:=GS a;obtain⟨a4,a⟩:=a;refine wD (fun st=>KI (eR st) (eR st) a4)<|wD (fun st=>Gs (eR st) (eR st))<|wn ?_;rcases Ae (decide ((0:Int)<(EK r b))) with s|s
   ·replace a:=Ap a s;refine Am rfl s<|cn<|Af<|AI<|cr<|wM (v:=I r) l<|wM (v:=I b) j ?_;replace a:=Dy a;obtain⟨a5,a⟩:=a;refine wD (fun st=>Er (k:=.u64) Ho Tryz.underlying91 (eR st) a5) ?_;replace a:=GS a;obtain⟨a7,a⟩:=a;refine wD (fun st=>KI (eR st) (eR st) a7) ?_;replace a:=GM a;obtain⟨aJ,a⟩:=a;refine wD (fun st=>JO (eR st) (eR st) aJ.1 aJ.2)<|wD (fun st=>CT (eR st) (eR st))<|wn ?_;rcases Ae (((EK r b)%2)==1) with t|t
    ·replace a:=Ap a t;refine Am rfl t<|Al<|wM (v:=.slice f g.length h) q<|wM (v:=I b) j<|wE (fun st=>Cx (e:=3) (vs:= #[(0,I b)]) (cs:= #[I b]) (I5 (eR st)) (by kernel_rfl)) ?_;rintro _ bG ⟨bH,rfl,n⟩;have aA:=u.nb n;have a8:=u.BU n;have x:=(i.ext n.gr (AA n));replace a:=Ci a;obtain⟨aB,a⟩:=a;refine wE (fun st=>Hg (ys:=[b]) Tryz.underlying31 HG rfl rfl (by decide) (eR st) rfl (eR st) x (GK (CM:=[[I b]]) n.bk ⟨rfl,trivial⟩ rfl) (by have:=aB;simp only[maxLen];omega) (by have:=aB;omega) aA.sz (by simp)) ?_;rintro _ bI ⟨aK,aL,rfl,aC,aD,aO⟩;have a9:=aA.row aC 1 rfl aD;have aP:=Eb aO (aA.DE aC 1 rfl (fun k hk=>(aD k hk).1));refine wA (v:=.slice aK ((g++[b]).length) aL) rfl<|AU<|CS<|Al<|wM (v:=I b) j ?_;replace a:=AF a;obtain⟨aQ,a⟩:=a;refine wD (fun st=>BG (eR st) (eR st) aQ)<|wA (v:=I (b+1)) rfl<|AU ?_;have bA:=a9.erase 0;have aE:=(aP.up (AV 0));refine Bi aH (Nat.lt_succ_self _) (fun st=>?_);exact⟨(g++[b]),(b+1),aK,aL,a,qo st,sp st 0 l,sp st 3 rfl,sp st 4 rfl,bA,aE⟩
    ·replace a:=Aq a t;refine An rfl t<|Ct<|CS<|Al<|wM (v:=I b) j ?_;replace a:=AF a;obtain⟨aR,a⟩:=a;refine wD (fun st=>BG (eR st) (eR st) aR)<|wA (v:=I (b+1)) rfl<|AU ?_;refine Bi aH (Nat.lt_succ_self _) (fun st=>?_);exact⟨g,(b+1),f,h,a,qo st,sp st 0 l,sp st 3 q,sp st 4 rfl,u,i⟩
   ·replace a:=Aq a s;refine An rfl s<|Dq ?_;obtain rfl:=oi a;refine BC (fun st=>?_);exact⟨rfl,f,h,qo st,sp st 3 q,u,i⟩
 case aZ=>
  rintro aX bB bJ (⟨rfl,c,d,aI,aF,aG,o⟩);refine lf aI<|AZ<|BS<|cr<|wM (v:=.slice c y.length d) aF<|wA (v:=.slice c y.length d) rfl<|wn<|Av ?_;obtain rfl:=oi a;refine Ay rfl rfl ?_;exact⟨aG.AS,⟨_,_,rfl,aG.HP (M:=[]) 0 rfl [] rfl trivial o⟩⟩
theorem Vf a2 o p e f g h(Z:Nat→Prop) w(aJ:Sl (Ao .i64) w Z e f o)(aK:Sl (Ao .i64) w Z g h p) a3(a:C0 a2 o p=some a3):
 B7 Tryz.prog 73 #[.slice e o.length f,.slice g p.length h] w (fun v w'=>Ext w w'∧Cm.R w' (zf Z w []) v a3):=by
 unfold C0 at a;refine rq (N:=41) Tryz.func73 fun b6 ha b7=>?_;have aM:=sA 0 ha;have aN:=sA 1 ha;clear ha;have a4:Hp FN [] w [] w:=Hp.start (BL.none w);have ⟨aC,aD⟩:=Nb aJ aK (Bd (Z:=Z) (L:=[]) w);refine cr<|wA (v:=.bool false) rfl<|wn<|Af<|cr<|wA (v:=I 0) rfl<|wn<|AI ?_;replace a:=bind_some a;obtain⟨aO,s,a⟩:=a;refine BX (fun aP n x=>(aP=.ret∧∃t,aO=.inl t∧Fo X0 41 n∧sl n 4=.bool t∧Hp FN [] w [] x)∨(aP=.exit 0∧∃t,aO=.inr t∧Fo X0 41 n∧sl n 0=.slice e o.length f∧sl n 1=.slice g p.length h∧Hp FN [] w [] x∧Sl (Ao .i64) x (zf Z w []) e f o∧Sl (Ao .i64) x (zf Z w []) g h p)) ?a5 ?a7
 case a5=>
  clear a;refine BW (fun aQ n x=>∃b,Cd o p aQ b=some aO∧Fo X0 41 n∧sl n 0=.slice e o.length f∧sl n 1=.slice g p.length h∧sl n 5=I b∧Hp FN [] w [] x∧Sl (Ao .i64) x (zf Z w []) e f o∧Sl (Ao .i64) x (zf Z w []) g h p) a2 ?a8 ?a9
  case a8=>
   intro st;exact⟨(0:Int),s,qo st,sp st 0 aM,sp st 1 aN,sp st 5 rfl,a4,aC,aD⟩
  case a9=>
   rintro(_|aQ) b8 b9 ⟨b,s,aR,l,m,j,aE,c,d⟩
   ·exact absurd (show none=some _ from s) (by simp)
   rw[Cd.eq_2] at s;have a:=s;clear s;refine ro aR<|Af<|cr<|wM (v:=I b) j<|wM (v:=.slice e o.length f) l<|wD (fun st=>Be Tryz.underlying31 (eR st))<|wD (fun st=>B9 (eR st) (eR st))<|wM (v:=.bool (decide (b<(o.length:Int)))) rfl ?_;rcases Ae (decide (b<(o.length:Int))) with i|i
   ·replace a:=Ap a i;refine wN i (v:=I b) j<|wN i (v:=.slice g p.length h) m<|wG i (fun st=>Be Tryz.underlying31 (eR st))<|wG i (fun st=>B9 (eR st) (eR st))<|wD (fun st=>AW (v:=.bool (decide (b<(p.length:Int)))) (eR st) i (eR st))<|wn ?_;rcases Ae (decide (b<(p.length:Int))) with y|y
    ·replace a:=Ap a y;refine Am rfl y<|cn<|Af<|AI<|Af ?_;replace a:=AP a;obtain⟨i5,bA,bB,bC,bD,a⟩:=a;obtain⟨bV,bW,_,bE,rfl,bF⟩:=Sl.Cz c rfl bC;replace a:=AP a;obtain⟨i6,bG,bH,bI,bJ,a⟩:=a;obtain⟨bX,bY,_,bK,rfl,bL⟩:=Sl.Cz d rfl bI;refine BK 8 [Kc (.slice e o.length f),Kc (I b),Kc (pt bV (bW+i5)),Kc (I bA),Kc (.slice g p.length h),Kc (I b),Kc (pt bX (bY+i6)),Kc (I bG)] mixed rfl rfl
         (Aa (oD (fun K=>Au (es ((K.out 0 rfl).trans l))))
         (Aa (oD (fun K=>Au (es ((K.out 5 rfl).trans j))))
         (Aa (oD (fun K=>AR (k:=i5) Tryz.underlying31 C7 (es (K.dq 0 18)) bE (es (K.dq 1 19)) bB bD))
         (Aa (oD (fun K=>Bb Bh (es (K.dq 2 20)) (bF.mv (Ac K.AD)) rfl))
         (Aa (oD (fun K=>Au (es ((K.out 1 rfl).trans m))))
         (Aa (oD (fun K=>Au (es ((K.out 5 rfl).trans j))))
         (Aa (oD (fun K=>AR (k:=i6) Tryz.underlying31 C7 (es (K.dq 4 22)) bK (es (K.dq 5 23)) bH bJ))
         (Aa (oD (fun K=>Bb Bh (es (K.dq 6 24)) (bL.mv (Ac K.AD)) rfl))
         (BI _))))))))) ?_
     intro cB;rintro _ rfl _ rfl _ rfl _ rfl _ rfl _ rfl _ rfl _ rfl aB;have aL:=aE.ext aB;refine wD (fun st=>Db (eR st) (eR st))<|wn ?_;rcases Ae (bA !=bG) with z|z
     ·replace a:=Ap a z;refine Am rfl z<|Af ?_;replace a:=AP a;obtain⟨i9,aS,bM,bN,bO,a⟩:=a;have q:=(c.mv (Ac aB));obtain⟨bZ,b4,_,bP,rfl,bQ⟩:=Sl.Cz q rfl bN;replace a:=AP a;obtain⟨i10,aF,aT,aU,aV,a⟩:=a;have r:=(d.mv (Ac aB));obtain⟨bR,bS,_,aW,rfl,aX⟩:=Sl.Cz r rfl aU;refine BK 8 [Kc (.slice e o.length f),Kc (I b),Kc (pt bZ (b4+i9)),Kc (I aS),Kc (.slice g p.length h),Kc (I b),Kc (pt bR (bS+i10)),Kc (I aF)] mixed rfl rfl
          (Aa (oD (fun K=>Au (es ((K.out 0 rfl).trans l))))
          (Aa (oD (fun K=>Au (es ((K.out 5 rfl).trans j))))
          (Aa (oD (fun K=>AR (k:=i9) Tryz.underlying31 C7 (es (K.dq 0 27)) bP (es (K.dq 1 28)) bM bO))
          (Aa (oD (fun K=>Bb Bh (es (K.dq 2 29)) (bQ.mv (Ac K.AD)) rfl))
          (Aa (oD (fun K=>Au (es ((K.out 1 rfl).trans m))))
          (Aa (oD (fun K=>Au (es ((K.out 5 rfl).trans j))))
          (Aa (oD (fun K=>AR (k:=i10) Tryz.underlying31 C7 (es (K.dq 4 31)) aW (es (K.dq 5 32)) aT aV))
          (Aa (oD (fun K=>Bb Bh (es (K.dq 6 33)) (aX.mv (Ac K.AD)) rfl))
          (BI _))))))))) ?_
      intro cC;rintro _ rfl _ rfl _ rfl _ rfl _ rfl _ rfl _ rfl _ rfl bT;have bU:=aL.ext bT;refine wD (fun st=>B9 (eR st) (eR st))<|wA (v:=.bool (decide (aS<aF))) rfl<|wn<|Av<|Dd<|AG ?_;obtain rfl:=oi a;refine BC (fun st=>?_);exact .inl ⟨rfl,(decide (aS<aF)),rfl,qo st,sp st 4 rfl,bU⟩
     ·replace a:=Aq a z;refine An rfl z<|Ct<|CS<|Al<|wM (v:=I b) j ?_;replace a:=AF a;obtain⟨aY,a⟩:=a;refine wD (fun st=>BG (eR st) (eR st) aY)<|wA (v:=I (b+1)) rfl<|AU ?_;have ⟨q,r⟩:=Nb c d (Ac aB);refine Bi aQ (Nat.lt_succ_self _) (fun st=>?_);exact⟨(b+1),a,qo st,sp st 0 l,sp st 1 m,sp st 5 rfl,aL,q,r⟩
    ·replace a:=Aq a y;refine An rfl y<|Dq ?_;obtain rfl:=oi a;refine BC (fun st=>?_);exact .inr ⟨rfl,(),rfl,qo st,sp st 0 l,sp st 1 m,aE,c,d⟩
   ·replace a:=Aq a i;refine wF i<|wF i<|wF i<|wF i<|wD (fun st=>Bo (v:=.bool false) (eR st) i (eR st))<|wn<|An rfl rfl<|Dq ?_;obtain rfl:=oi a;refine BC (fun st=>?_);exact .inr ⟨rfl,(),rfl,qo st,sp st 0 l,sp st 1 m,aE,c,d⟩
 case a7=>
  rintro aP b5 cA (⟨rfl,t,rfl,u,aG,aA⟩|⟨rfl,t,rfl,u,aH,aI,aA,aZ,a0⟩)
  ·skip
   replace a:=C9 a;refine lf u<|Dd ?_;obtain rfl:=oi a;refine Ay rfl aG ?_;exact⟨aA.AS,rfl⟩
  ·skip
   replace a:=Da a;refine lf u<|AZ<|BS<|cr<|wM (v:=.slice e o.length f) aH<|wD (fun st=>Be Tryz.underlying31 (eR st))<|wM (v:=.slice g p.length h) aI<|wD (fun st=>Be Tryz.underlying31 (eR st))<|wD (fun st=>B9 (eR st) (eR st))<|wA (v:=.bool (decide ((o.length:Int)<(p.length:Int)))) rfl<|wn<|Av ?_;obtain rfl:=oi a;refine Ay rfl rfl ?_;exact⟨aA.AS,rfl⟩
theorem a62 r h i d e f g(Z:Nat→Prop) w(o:Sl (Ao .i64) w Z d e h)(p:Sl (Ao .i64) w Z f g i) s(c:F3 r h i=some s):
 B7 Tryz.prog 62 #[.slice d h.length e,.slice f i.length g] w (fun v w'=>Ext w w'∧Cm.R w' (zf Z w []) v s):=by
 unfold F3 at c;refine rq (N:=22) Tryz.func62 fun y ha z=>?_;have j:=sA 0 ha;have k:=sA 1 ha;clear ha;have n:Hp FN [] w [] w:=Hp.start (BL.none w);have ⟨l,m⟩:=Nb o p (Bd (Z:=Z) (L:=[]) w);refine cr<|wA (v:=.bool false) rfl<|wr<|wM (v:=.slice d h.length e) j<|wD (fun st=>Be Tryz.underlying31 (eR st))<|wM (v:=.slice f i.length g) k<|wD (fun st=>Be Tryz.underlying31 (eR st))<|wD (fun st=>B9 (eR st) (eR st))<|wM (v:=.bool (decide ((h.length:Int)<(i.length:Int)))) rfl ?_;rcases Ae (decide ((h.length:Int)<(i.length:Int))) with a|a
 ·replace c:=Ap c a;refine wF a<|wF a<|wF a<|wF a<|wF a<|wF a<|FT rfl rfl rfl rfl (by decide)<|FT rfl rfl rfl rfl (by decide)<|FT rfl rfl rfl rfl (by decide)<|wF a<|wD (fun st=>AW (v:=.bool true) (eR st) a (eR st))<|wA (v:=.bool true) rfl<|wn<|Av ?_;obtain rfl:=oi c;refine Ay rfl rfl ?_;exact⟨n.AS,rfl⟩
 ·replace c:=Aq c a;refine wN a (v:=.slice d h.length e) j<|wG a (fun st=>Be Tryz.underlying31 (eR st))<|wN a (v:=.slice f i.length g) k<|wG a (fun st=>Be Tryz.underlying31 (eR st))<|wG a (fun st=>CT (eR st) (eR st))<|wG a (fun st=>Au (v:=.bool ((h.length:Int)==(i.length:Int))) (eR st)) ?_;rcases Ae ((h.length:Int)==(i.length:Int)) with b|b
  ·replace c:=Ap c b;refine wN b (v:=.slice d h.length e) j<|wG b (fun st=>Au (v:=.slice f i.length g) (ee st k)) ?_;replace c:=bind_some c;obtain⟨q,t,c⟩:=c;refine wX b (fun st=>Aj PA (eR st) (CN (eR st) (eR st)) (Vf r h i d e f g ZA _ l.all m.all q t)) ?_;rintro _ aA ⟨u,rfl⟩;have x:=n.ext u;refine wG a (fun st=>AW (v:=.bool q) (eR st) b (eR st))<|wD (fun st=>Bo (v:=.bool q) (eR st) a (eR st))<|wA (v:=.bool q) rfl<|wn<|Av ?_;obtain rfl:=oi c;refine Ay rfl rfl ?_;exact⟨x.AS,rfl⟩
  ·replace c:=Aq c b;refine wF b<|wF b<|wF b<|wG a (fun st=>Bo (v:=.bool false) (eR st) b (eR st))<|wD (fun st=>Bo (v:=.bool false) (eR st) a (eR st))<|wA (v:=.bool false) rfl<|wn<|Av ?_;obtain rfl:=oi c;refine Ay rfl rfl ?_;exact⟨n.AS,rfl⟩
theorem O7 bZ c aU f g i j m o p q r s d e z aA(Z:Nat→Prop) w(b6:Sl Az w Z f g c.Ag)(b7:Sl (Bs (Ao .i64)) w Z i j c.Ab)(b8:Sl AH w Z m o c.Ak)(b9:Sl Ba w Z p q c.AJ)(cA:Sl Bc w Z r s c.Aw)(cB:Sl Bp w Z d e c.Ar)(cC:Sl (Ao .i64) w Z z aA aU) cV(a:Cg bZ c aU=some cV):
 B7 Tryz.prog 114 #[.agg (Ai f g i j m o p q r s d e c).toArray,.slice z aU.length aA] w (fun v w'=>Ext w w'∧(DT .i64).R w' (zf Z w []) v cV):=by
 unfold Cg at a;refine rq (N:=41) Tryz.func114 fun dO ha dP=>?_;have cK:=sA 0 ha;have cL:=sA 1 ha;clear ha;have cH:Hp FN [] w [] w:=Hp.start (BL.none w);have ⟨a7,a8,a9,bA,bB,bC,bD⟩:=Ea b6 b7 b8 b9 cA cB cC (Bd (Z:=Z) (L:=[]) w);refine cr<|wE (fun st=>BP (v:=.agg (Ai f g i j m o p q r s d e c).toArray) (cs:=(Ai f g i j m o p q r s d e c).toArray) (ee st cK) rfl) ?_;rintro _ w1 ⟨b1,rfl,a4⟩;have cW:=cH.nb a4;have dL:=cH.BU a4;refine wA (v:=I 0) rfl<|wr<|wA (v:=I 0) rfl<|wn<|Af<|cr<|wA (v:=I 0) rfl<|wn<|AI ?_;replace a:=bind_some a;obtain⟨z2,aP,a⟩:=a;refine BX (fun cX aH aJ=>(cX=.exit 0∧Fo X0 41 aH∧sl aH 5=I z2∧Hp FN [] w [some b1] aJ)) ?cY ?cZ
 case cY=>
  clear a;refine BW (fun cD aH aJ=>∃y,∃b,Bn bZ c aU cD y b=some z2∧Fo X0 41 aH∧sl aH 1=.slice z aU.length aA∧sl aH 2=pt b1 0∧sl aH 5=I y∧sl aH 6=I b∧Hp FN [] w [some b1] aJ∧Bk aJ b1 67 (Ai f g i j m o p q r s d e c).toArray∧Sl Az aJ (zf Z w [some b1]) f g c.Ag∧Sl (Bs (Ao .i64)) aJ (zf Z w [some b1]) i j c.Ab∧Sl AH aJ (zf Z w [some b1]) m o c.Ak∧Sl Ba aJ (zf Z w [some b1]) p q c.AJ∧Sl Bc aJ (zf Z w [some b1]) r s c.Aw∧Sl Bp aJ (zf Z w [some b1]) d e c.Ar∧Sl (Ao .i64) aJ (zf Z w [some b1]) z aA aU) bZ ?c0 ?c1
  case c0=>
   intro st;have ⟨bE,bF,bG,bH,bI,bJ,bK⟩:=Ea a7 a8 a9 bA bB bC bD (AA a4);exact⟨(0:Int),(0:Int),aP,qo st,sp st 1 cL,sp st 2 rfl,sp st 5 rfl,sp st 6 rfl,cW,a4.bk,bE,bF,bG,bH,bI,bJ,bK⟩
  case c1=>
   rintro(_|cD) dQ dR ⟨y,b,aP,cM,aS,t,aT,u,b4,aK,aX,aY,aZ,a0,a2,aL,a3⟩
   ·exact absurd (show none=some _ from aP) (by simp)
   rw[Bn.eq_2] at aP;have a:=aP;clear aP;refine ro cM<|Af<|cr<|wM (v:=I b) u<|wD (fun st=>Ad (ee st t) (EN _ _))<|wD (fun st=>As (v:=.slice d c.Ar.length e) FE (eR st) aK rfl)<|wD (fun st=>Be Tryz.underlying65 (eR st))<|wD (fun st=>B9 (eR st) (eR st))<|wn ?_;rcases Ae (decide (b<(c.Ar.length:Int))) with aV|aV
   ·replace a:=Ap a aV;refine Am rfl aV<|cn<|Af<|AI<|cr<|wD (fun st=>Ad (ee st t) (EN _ _))<|wD (fun st=>As (v:=.slice d c.Ar.length e) FE (eR st) aK rfl)<|wM (v:=I b) u ?_;replace a:=AP a;obtain⟨i4,aO,c2,c3,c4,a⟩:=a;obtain⟨dU,dV,_,c5,rfl,c6⟩:=Sl.elem aL (by decide) c3;refine wD (fun st=>BD (k:=i4) Tryz.underlying65 J4 (eR st) c5 (eR st) c2 c4)<|wD (fun st=>Ad (eR st) (MY _ _ _))<|wD (fun st=>L9 (l:=[I aO.CA,I aO.CB]) GR (eR st) c6 rfl rfl)<|wE (fun st=>CR (cs:= #[I 0,I 0]) IJ rfl) ?_;rintro _ dW ⟨c7,rfl,aQ⟩;have a5:=b4.nb aQ;have dM:=b4.BU aQ;refine Cs rfl rfl (fun st=>Ca (n:=2) (l:=[I aO.CA,I aO.CB]) (DO:= #[I aO.CA,I aO.CB]) (eR st) (eR st) Gu aQ.bk rfl rfl (show 0+2≤2 by decide) (BJ rfl) rfl) ?_;rintro _ dX aR;have c8:=a5.gr aR.gr 0 rfl;refine wn<|Af ?_;have aI:=((aK.ext aQ.gr).gr aR.gr (a5.nq 1 0));replace a:=AP a;obtain⟨i8,c9,dA,dB,dC,a⟩:=a;have x:=((aL.mv (AA aQ)).mv (a5.Co aR.gr 0 rfl));obtain⟨dD,dE,_,dF,rfl,dG⟩:=Sl.elem x (by decide) dB;have ⟨aB,aC,aD,aE,aF,aG⟩:=Cp aX aY aZ a0 a2 a3 (mt (AA aQ) (a5.Co aR.gr 0 rfl));replace a:=bind_some a;obtain⟨cN,dH,a⟩:=a;refine BK 13 [Kc (.agg (Ai f g i j m o p q r s d e c).toArray),Kc (.slice z aU.length aA),Kc (pt b1 6),Kc (.slice d c.Ar.length e),Kc (I b),Kc (pt dD (dE+i8*3)),Kc (pt dD (dE+i8*3)),Kc (I c9.Ce),Kc (I cN),Kc (pt c7 0),Kc (I aO.CA),Kc (pt c7 1),Kc (I aO.CB)] mixed rfl rfl
        (Aa (oD (fun K=>AK (l:=(Ai f g i j m o p q r s d e c)) Cc (es ((K.out 2 rfl).trans t)) (aI.ext K.AD) rfl rfl))
        (Aa (oD (fun K=>Au (es ((K.out 1 rfl).trans aS))))
        (Aa (oD (fun K=>Ad (es ((K.out 2 rfl).trans t)) (EN _ _)))
        (Aa (oD (fun K=>As FE (es (K.dq 2 23)) (aI.ext K.AD) rfl))
        (Aa (oD (fun K=>Au (es ((K.out 6 rfl).trans u))))
        (Aa (oD (fun K=>BD (k:=i8) Tryz.underlying65 J4 (es (K.dq 3 24)) dF (es (K.dq 4 25)) dA dC))
        (Aa (oD (fun K=>Ad (es (K.dq 5 26)) (Mp _ _ _)))
        (Aa (oD (fun K=>Bb Bh (es (K.dq 6 27)) (dG.mv (Ac K.AD)) rfl))
        (Aa (oE (fun K=>(Aj Mq rfl (Dx (es (K.dq 0 21)) (es (K.dq 1 22)) (es (K.dq 7 28))) (QQ bZ c aU c9.Ce f g i j m o p q r s d e z aA ZA _ (aB.mv (Ac K.AD)).all (aC.mv (Ac K.AD)).all (aD.mv (Ac K.AD)).all (aE.mv (Ac K.AD)).all (aF.mv (Ac K.AD)).all (x.mv (Ac K.AD)).all (aG.mv (Ac K.AD)).all cN dH)).mono (fun _ _ h=>⟨h.2,h.1⟩)))
        (Aa (oD (fun K=>Ad (K.kO 7) (JG _ _)))
        (Aa (oD (fun K=>As Bh (es (K.dq 9 30)) (aR.bk.ext K.AD) rfl))
        (Aa (oD (fun K=>Ad (K.kO 7) (Le _ _)))
        (Aa (oD (fun K=>As Bh (es (K.dq 11 32)) (aR.bk.ext K.AD) rfl))
        (BI _)))))))))))))) ?_
    intro dY;rintro _ rfl _ rfl _ rfl _ rfl _ rfl _ rfl _ rfl _ rfl _ rfl _ rfl _ rfl _ rfl _ rfl aW;have dI:=c8.ext aW;replace a:=bind_some a;obtain⟨cI,cO,a⟩:=a;refine wE (fun st=>Aj DR (eR st) (Dx (eR st) (eR st) (eR st)) (GZ bZ cN aO.CA aO.CB ZA _ cI cO)) ?_;rintro _ dS ⟨aM,rfl⟩;have cJ:=dI.ext aM;refine wn ?_;rcases Ae (cI) with aN|aN
    ·replace a:=Ap a aN;refine Am rfl aN<|Al<|wM (v:=I y) aT<|wM (v:=I b) u ?_;replace a:=Dy a;obtain⟨cP,a⟩:=a;refine wD (fun st=>Er (k:=.u64) Ho Tryz.underlying91 (eR st) cP) ?_;replace a:=E9 a;obtain⟨cQ,a⟩:=a;refine wD (fun st=>IM (eR st) (eR st) cQ) ?_;replace a:=G6 a;obtain⟨cR,a⟩:=a;refine wD (fun st=>L6 (eR st) (eR st) cR)<|wA (v:=I (Ft y (C3 (1:Int) b))) rfl<|AU<|CS<|Al<|wM (v:=I b) u ?_;replace a:=AF a;obtain⟨cS,a⟩:=a;refine wD (fun st=>BG (eR st) (eR st) cS)<|wA (v:=I (b+1)) rfl<|AU ?_;have dJ:=cJ.erase 0;have cE:=((aI.ext aW).ext aM);have ⟨bL,bM,bN,bO,bP,bQ,bR⟩:=Ea aB aC aD aE aF x aG (mt (Ac aW) (mt (Ac aM) (AV 0)));refine Bi cD (Nat.lt_succ_self _) (fun st=>?_);exact⟨(Ft y (C3 (1:Int) b)),(b+1),a,qo st,sp st 1 aS,sp st 2 t,sp st 5 rfl,sp st 6 rfl,dJ,cE,bL,bM,bN,bO,bP,bQ,bR⟩
    ·replace a:=Aq a aN;refine An rfl aN<|Ct<|CS<|Al<|wM (v:=I b) u ?_;replace a:=AF a;obtain⟨cT,a⟩:=a;refine wD (fun st=>BG (eR st) (eR st) cT)<|wA (v:=I (b+1)) rfl<|AU ?_;have dK:=cJ.erase 0;have cF:=((aI.ext aW).ext aM);have ⟨bS,bT,bU,bV,bW,bX,bY⟩:=Ea aB aC aD aE aF x aG (mt (Ac aW) (mt (Ac aM) (AV 0)));refine Bi cD (Nat.lt_succ_self _) (fun st=>?_);exact⟨y,(b+1),a,qo st,sp st 1 aS,sp st 2 t,sp st 5 aT,sp st 6 rfl,dK,cF,bS,bT,bU,bV,bW,bX,bY⟩
   ·replace a:=Aq a aV;refine An rfl aV<|Dq ?_;obtain rfl:=oi a;refine BC (fun st=>?_);exact⟨rfl,qo st,sp st 5 aT,b4⟩
 case cZ=>
  rintro cX dN dT (⟨rfl,cG,b5,cU⟩);refine lf cG<|AZ<|BS<|cr<|wM (v:=I z2) b5<|wA (v:=I z2) rfl<|wn<|Av ?_;obtain rfl:=oi a;refine Ay rfl rfl ?_;exact⟨cU.AS,rfl⟩
theorem Qd aM b e f g h i j l m n o c d(Z:Nat→Prop) w(q:Sl Az w Z e f b.Ag)(r:Sl (Bs (Ao .i64)) w Z g h b.Ab)(s:Sl AH w Z i j b.Ak)(t:Sl Ba w Z l m b.AJ)(u:Sl Bc w Z n o b.Aw)(x:Sl Bp w Z c d b.Ar) aG(a:Ch aM b=some aG):
 B7 Tryz.prog 61 #[.agg (Ai e f g h i j l m n o c d b).toArray] w (fun v w'=>Ext w w'∧(DT .i64).R w' (zf Z w []) v aG):=by
 unfold Ch at a;refine rq (N:=9) Tryz.func61 fun aN ha aO=>?_;have z:=sA 0 ha;clear ha;have y:Hp FN [] w [] w:=Hp.start (BL.none w);have ⟨aA,aB,aC,aD,aE,aF⟩:=Cp q r s t u x (Bd (Z:=Z) (L:=[]) w);refine cr<|wE (fun st=>BP (v:=.agg (Ai e f g h i j l m n o c d b).toArray) (cs:=(Ai e f g h i j l m n o c d b).toArray) (ee st z) rfl) ?_;rintro _ w1 ⟨b1,rfl,p⟩;have aH:=y.nb p;have aL:=y.BU p;refine wA (v:=I 0) rfl<|wr<|wD (fun st=>Ad (eR st) (EN _ _))<|wD (fun st=>As (v:=.slice c b.Ar.length d) FE (eR st) p.bk rfl)<|wD (fun st=>Be Tryz.underlying65 (eR st)) ?_;replace a:=Dy a;obtain⟨aI,a⟩:=a;refine wD (fun st=>Er (k:=.u64) Ho Tryz.underlying91 (eR st) aI) ?_;replace a:=E9 a;obtain⟨aJ,a⟩:=a;refine wD (fun st=>IM (eR st) (eR st) aJ) ?_;replace a:=AF a;obtain⟨aK,a⟩:=a;refine wD (fun st=>El (eR st) (eR st) aK)<|wA (v:=I ((C3 (1:Int) (b.Ar.length:Int))-1)) rfl<|wn<|Av ?_;obtain rfl:=oi a;refine Ay rfl rfl ?_;exact⟨aH.AS,rfl⟩
theorem a45 bW d f g i j m o q r s x y z(Z:Nat→Prop) w(b8:Sl Az w Z f g d.Ag)(b9:Sl (Bs (Ao .i64)) w Z i j d.Ab)(cA:Sl AH w Z m o d.Ak)(cB:Sl Ba w Z q r d.AJ)(cC:Sl Bc w Z s x d.Aw)(cD:Sl Bp w Z y z d.Ar) cS(b:LZ bW d=some cS):
 B7 Tryz.prog 45 #[.agg (Ai f g i j m o q r s x y z d).toArray] w (fun v w'=>Ext w w'∧(Fq (Ao .i64)).R w' (zf Z w []) v cS):=by
 unfold LZ at b;refine rq (N:=25) Tryz.func45 fun dH ha dI=>?_;have cM:=sA 0 ha;clear ha;have cI:Hp FN [] w [] w:=Hp.start (BL.none w);have ⟨bD,bE,bF,bG,bH,bI⟩:=Cp b8 b9 cA cB cC cD (Bd (Z:=Z) (L:=[]) w);refine cr<|wE (fun st=>BP (v:=.agg (Ai f g i j m o q r s x y z d).toArray) (cs:=(Ai f g i j m o q r s x y z d).toArray) (ee st cM) rfl) ?_;rintro _ w1 ⟨b1,rfl,aS⟩;have cJ:=cI.nb aS;have dA:=cI.BU aS;refine wA (v:=.slice none 0 0) rfl<|wr<|wA (v:=.slice none 0 0) rfl<|wr<|wD (fun st=>Ad (eR st) (DQ _ _))<|wD (fun st=>AK (l:=[.slice f d.Ag.length g,.slice i d.Ab.length j,.slice m d.Ak.length o]) Dt (eR st) aS.bk rfl rfl) ?_;have ⟨aT,aU,aV⟩:=DU bD bE bF (AA aS);replace b:=bind_some b;obtain⟨a0,cT,b⟩:=b;refine wE (fun st=>Aj Kw (eR st) (Cy (eR st)) (a28 bW (⟨d.Ag,d.Ab,d.Ak⟩:AO) f g i j m o (zf Z w [some b1]) _ aT aU aV a0 cT)) ?_;rintro _ dD ⟨bA,⟨aC,aD,rfl,aJ⟩⟩;have cU:=cJ.ext bA;have aJ:=aJ.mv (cJ.CQ (Nat.le_refl _));refine wA (v:=.slice aC a0.length aD) rfl<|wn<|Af<|cr<|wA (v:=I 0) rfl<|wn<|AI ?_;have cV:=cU.nil;have cW:BH (Ao .i64) 3 w.heap.size dD (zf Z w [none,some b1]) none 0 ([]:List Int):=BH.nil _ _ _ _ _;replace b:=bind_some b;obtain⟨z4,aW,b⟩:=b;refine BX (fun cX aG aF=>(cX=.exit 0∧∃c p,Fo X0 25 aG∧sl aG 3=.slice c z4.length p∧Hp FN [] w [ob c,some b1] aF∧BH (Ao .i64) 3 w.heap.size aF (zf Z w [ob c,some b1]) c p z4)) ?cY ?cZ
 case cY=>
  clear b;refine BW (fun cN aG aF=>∃aB,∃aA,∃a aE,IW bW d a0 cN aB aA=some z4∧Fo X0 25 aG∧sl aG 1=pt b1 0∧sl aG 3=.slice a aB.length aE∧sl aG 4=.slice aC a0.length aD∧sl aG 5=I aA∧Hp FN [] w [ob a,some b1] aF∧BH (Ao .i64) 3 w.heap.size aF (zf Z w [ob a,some b1]) a aE aB∧Bk aF b1 67 (Ai f g i j m o q r s x y z d).toArray∧Sl Az aF (zf Z w [ob a,some b1]) f g d.Ag∧Sl (Bs (Ao .i64)) aF (zf Z w [ob a,some b1]) i j d.Ab∧Sl AH aF (zf Z w [ob a,some b1]) m o d.Ak∧Sl Ba aF (zf Z w [ob a,some b1]) q r d.AJ∧Sl Bc aF (zf Z w [ob a,some b1]) s x d.Aw∧Sl Bp aF (zf Z w [ob a,some b1]) y z d.Ar∧Sl (Bs (Ao .i64)) aF (zf Z w [ob a,some b1]) aC aD a0) bW ?c0 ?c1
  case c0=>
   intro st;have cE:=(aS.bk.ext bA);have ⟨bJ,bK,bL⟩:=DU aT aU aV (mt (Ac bA) B8);have ⟨bM,bN,bO⟩:=DU bG bH bI (mt (AA aS) (mt (Ac bA) B8));have a7:=(aJ.mv B8);exact⟨([]:List Int),(0:Int),none,0,aW,qo st,sp st 1 rfl,sp st 3 rfl,sp st 4 rfl,sp st 5 rfl,cV,cW,cE,bJ,bK,bL,bM,bN,bO,a7⟩
  case c1=>
   rintro(_|cN) dJ dK ⟨aB,aA,a,aE,aW,cO,bB,bC,aX,aY,bX,aK,a2,aL,aM,aN,aO,aP,aQ,aH⟩
   ·exact absurd (show none=some _ from aW) (by simp)
   rw[IW.eq_2] at aW;have b:=aW;clear aW;refine ro cO<|Af<|cr<|wM (v:=I aA) aY<|wM (v:=.slice aC a0.length aD) aX<|wD (fun st=>Be Tryz.underlying23 (eR st))<|wD (fun st=>B9 (eR st) (eR st))<|wn ?_;rcases Ae (decide (aA<(a0.length:Int))) with a3|a3
   ·replace b:=Ap b a3;refine Am rfl a3<|cn<|Af<|AI ?_;replace b:=AP b;obtain⟨i8,c2,c3,c4,c5,b⟩:=b;obtain⟨dE,dF,_,c6,⟨bY,bZ,rfl,cF⟩,c7⟩:=Sl.Cz aH rfl c4;replace b:=bind_some b;obtain⟨aI,c8,b⟩:=b;refine BK 8 [Kc (.slice a aB.length aE),Kc (.agg (Ai f g i j m o q r s x y z d).toArray),Kc (.slice aC a0.length aD),Kc (I aA),Kc (pt dE (dF+i8)),Kc (.slice bY c2.length bZ),Kc (I aI),Kv (Fq (Ao .i64)) (zf Z w [ob a,some b1]) [aI]] mixed rfl rfl
        (Aa (oD (fun K=>Au (es (t:=3) ((K.later 9 3 _ rfl rfl rfl).trans bC))))
        (Aa (oD (fun K=>AK (l:=(Ai f g i j m o q r s x y z d)) Cc (es ((K.out 1 rfl).trans bB)) (a2.ext K.AD) rfl rfl))
        (Aa (oD (fun K=>Au (es ((K.out 4 rfl).trans aX))))
        (Aa (oD (fun K=>Au (es ((K.out 5 rfl).trans aY))))
        (Aa (oD (fun K=>AR (k:=i8) Tryz.underlying23 ES (es (K.dq 2 17)) c6 (es (K.dq 3 18)) c3 c5))
        (Aa (oD (fun K=>Bb DB (es (K.dq 4 19)) (c7.mv (Ac K.AD)) rfl))
        (Aa (oE (fun K=>(Aj Lm rfl (CN (es (K.dq 1 16)) (es (K.dq 5 20))) (O7 bW d c2 f g i j m o q r s x y z bY bZ ZA _ (aL.mv (Ac K.AD)).all (aM.mv (Ac K.AD)).all (aN.mv (Ac K.AD)).all (aO.mv (Ac K.AD)).all (aP.mv (Ac K.AD)).all (aQ.mv (Ac K.AD)).all (cF.mv (Ac K.AD)).all aI c8)).mono (fun _ _ h=>⟨h.2,h.1⟩)))
        (Aa (MH rfl rfl (fun a' w' ph K=>(Cx (e:=3) (vs:= #[(0,I aI)]) (cs:= #[I aI]) (I5 (es (K.dq 6 21))) (by kernel_rfl)).mono (fun u CO ⟨dN,hu,hn⟩=>⟨⟨_,_,hu,JQ (xs:=[aI]) (CM:=[[I aI]]) hn.bk ((bX.ext K.AD).kn (Nat.le_of_eq hn.IL.symm)) (R2.mv (Ac hn.gr) (show R2 (Ao .i64) w' (zf Z w [ob a,some b1]) [[I aI]] [aI] from⟨rfl,trivial⟩)) rfl (Nat.le_refl _)⟩,hn.gr⟩)))
        (BI _))))))))) ?_
    intro dO;rintro _ rfl _ rfl _ rfl _ rfl _ rfl _ rfl _ rfl _ ⟨dB,dC,rfl,b4⟩ a4;have a5:=bX.ext a4;have bP:=(aK.ext a4 (Ac a4));replace b:=Ci b;obtain⟨b5,b⟩:=b;refine wE (fun st=>I0 (ys:=[aI]) Tryz.underlying31 HG rfl rfl (by decide) (eR st) rfl (eR st) bP b4.n (by have:=b5;simp only[maxLen];omega) (by have:=b5;omega) a5.sz) ?_;rintro _ dL ⟨cK,cL,rfl,aZ,a8,cP⟩;have c9:=a5.row aZ 0 rfl a8;have cQ:=Eb cP (a5.DE aZ 0 rfl (fun k hk=>(a8 k hk).1));refine wA (v:=.slice cK ((aB++[aI]).length) cL) rfl<|AU<|CS<|Al<|wM (v:=I aA) aY ?_;replace b:=AF b;obtain⟨cR,b⟩:=b;refine wD (fun st=>BG (eR st) (eR st) cR)<|wA (v:=I (aA+1)) rfl<|AU ?_;have cG:=((a2.ext a4).gr aZ (a5.nq 1 0));have ⟨bQ,bR,bS,bT,bU,bV,a9⟩:=Ea aL aM aN aO aP aQ aH (mt (Ac a4) (a5.DE aZ 0 rfl (fun k hk=>(a8 k hk).1)));refine Bi cN (Nat.lt_succ_self _) (fun st=>?_);exact⟨(aB++[aI]),(aA+1),cK,cL,b,qo st,sp st 1 bB,sp st 3 rfl,sp st 4 aX,sp st 5 rfl,c9,cQ,cG,bQ,bR,bS,bT,bU,bV,a9⟩
   ·replace b:=Aq b a3;refine An rfl a3<|Dq ?_;obtain rfl:=oi b;refine BC (fun st=>?_);exact⟨rfl,a,aE,qo st,sp st 3 bC,bX,aK⟩
 case cZ=>
  rintro cX dG dM (⟨rfl,c,p,cH,b6,b7,aR⟩);refine lf cH<|AZ<|BS<|cr<|wM (v:=.slice c z4.length p) b6<|wA (v:=.slice c z4.length p) rfl<|wn<|Av ?_;obtain rfl:=oi b;refine Ay rfl rfl ?_;exact⟨b7.AS,⟨_,_,rfl,b7.HP (M:=[]) 0 rfl [] rfl trivial aR⟩⟩
theorem a47 bE c aC f g h i j l m n o p d e q r(Z:Nat→Prop) w(bF:Sl Az w Z f g c.Ag)(bG:Sl (Bs (Ao .i64)) w Z h i c.Ab)(bH:Sl AH w Z j l c.Ak)(bI:Sl Ba w Z m n c.AJ)(bJ:Sl Bc w Z o p c.Aw)(bK:Sl Bp w Z d e c.Ar)(bL:Sl (Ao .i64) w Z q r aC) bX(a:Mx bE c aC=some bX):
 B7 Tryz.prog 47 #[.agg (Ai f g h i j l m n o p d e c).toArray,.slice q aC.length r] w (fun v w'=>Ext w w'∧(DT .i64).R w' (zf Z w []) v bX):=by
 unfold Mx at a;refine rq (N:=21) Tryz.func47 fun cF ha cG=>?_;have bR:=sA 0 ha;have bS:=sA 1 ha;clear ha;have bO:Hp FN [] w [] w:=Hp.start (BL.none w);have ⟨aP,aQ,aR,aS,aT,aU,aV⟩:=Ea bF bG bH bI bJ bK bL (Bd (Z:=Z) (L:=[]) w);refine cr<|wE (fun st=>BP (v:=.agg (Ai f g h i j l m n o p d e c).toArray) (cs:=(Ai f g h i j l m n o p d e c).toArray) (ee st bR) rfl) ?_;rintro _ w1 ⟨b1,rfl,aM⟩;have bY:=bO.nb aM;have cD:=bO.BU aM;refine wA (v:=I 0) rfl<|wn<|Af<|cr<|wA (v:=I 0) rfl<|wn<|AI ?_;replace a:=bind_some a;obtain⟨z2,z,a⟩:=a;refine BX (fun bT s t=>(bT=.ret∧∃aA,z2=.inl aA∧Fo X0 21 s∧sl s 4=I aA∧Hp FN [] w [some b1] t)∨(bT=.exit 0∧∃aA,z2=.inr aA∧Fo X0 21 s∧Hp FN [] w [some b1] t)) ?bZ ?b4
 case bZ=>
  clear a;refine BW (fun bU s t=>∃b,H4 bE c aC bU b=some z2∧Fo X0 21 s∧sl s 1=.slice q aC.length r∧sl s 2=pt b1 0∧sl s 5=I b∧Hp FN [] w [some b1] t∧Bk t b1 67 (Ai f g h i j l m n o p d e c).toArray∧Sl Az t (zf Z w [some b1]) f g c.Ag∧Sl (Bs (Ao .i64)) t (zf Z w [some b1]) h i c.Ab∧Sl AH t (zf Z w [some b1]) j l c.Ak∧Sl Ba t (zf Z w [some b1]) m n c.AJ∧Sl Bc t (zf Z w [some b1]) o p c.Aw∧Sl Bp t (zf Z w [some b1]) d e c.Ar∧Sl (Ao .i64) t (zf Z w [some b1]) q r aC) bE ?b5 ?b6
  case b5=>
   intro st;have ⟨aW,aX,aY,aZ,a0,a2,a3⟩:=Ea aP aQ aR aS aT aU aV (AA aM);exact⟨(0:Int),z,qo st,sp st 1 bS,sp st 2 rfl,sp st 5 rfl,bY,aM.bk,aW,aX,aY,aZ,a0,a2,a3⟩
  case b6=>
   rintro(_|bU) cH cI ⟨b,z,bV,aN,aO,u,bP,aD,aF,aG,aH,aI,aJ,aK,x⟩
   ·exact absurd (show none=some _ from z) (by simp)
   rw[H4.eq_2] at z;have a:=z;clear z;refine ro bV<|Af<|cr<|wM (v:=I b) u<|wD (fun st=>Ad (ee st aO) (EN _ _))<|wD (fun st=>As (v:=.slice d c.Ar.length e) FE (eR st) aD rfl)<|wD (fun st=>Be Tryz.underlying65 (eR st))<|wD (fun st=>B9 (eR st) (eR st))<|wn ?_;rcases Ae (decide (b<(c.Ar.length:Int))) with aE|aE
   ·replace a:=Ap a aE;refine Am rfl aE<|cn<|Af<|AI<|cr<|wM (v:=.slice q aC.length r) aN<|wM (v:=I b) u ?_;replace a:=Dy a;obtain⟨b7,a⟩:=a;refine wD (fun st=>Er (k:=.u64) Ho Tryz.underlying91 (eR st) b7) ?_;replace a:=E9 a;obtain⟨b8,a⟩:=a;refine wD (fun st=>IM (eR st) (eR st) b8) ?_;replace a:=AF a;obtain⟨b9,a⟩:=a;refine wD (fun st=>El (eR st) (eR st) b9) ?_;replace a:=bind_some a;obtain⟨bM,cA,a⟩:=a;refine wE (fun st=>Aj Zq (eR st) (CN (eR st) (eR st)) (Afb bE aC ((C3 (2:Int) b)-1) q r ZA _ x.all bM cA)) ?_;rintro _ cK ⟨bC,rfl⟩;have bQ:=bP.ext bC;refine wD (fun st=>CJ (eR st))<|wn ?_;rcases Ae (!bM) with y|y
    ·replace a:=Ap a y;have cB:bM=false:=by simpa using y
     refine Am rfl y<|cr<|wM (v:=I b) u<|wA (v:=I b) rfl<|wn<|Av<|Dd<|AG ?_;obtain rfl:=oi a;refine BC (fun st=>?_);exact .inl ⟨rfl,b,rfl,qo st,sp st 4 rfl,bQ⟩
    ·replace a:=Aq a y;have cC:bM=true:=by simpa using y
     refine An rfl y<|Ct<|CS<|Al<|wM (v:=I b) u ?_;replace a:=AF a;obtain⟨bW,a⟩:=a;refine wD (fun st=>BG (eR st) (eR st) bW)<|wA (v:=I (b+1)) rfl<|AU ?_;have bN:=(aD.ext bC);have ⟨a4,a5,a7,a8,a9,bA,bB⟩:=Ea aF aG aH aI aJ aK x (Ac bC);refine Bi bU (Nat.lt_succ_self _) (fun st=>?_);exact⟨(b+1),a,qo st,sp st 1 aN,sp st 2 aO,sp st 5 rfl,bQ,bN,a4,a5,a7,a8,a9,bA,bB⟩
   ·replace a:=Aq a aE;refine An rfl aE<|Dq ?_;obtain rfl:=oi a;refine BC (fun st=>?_);exact .inr ⟨rfl,(),rfl,qo st,bP⟩
 case b4=>
  rintro bT cE cJ (⟨rfl,aA,rfl,aB,bD,aL⟩|⟨rfl,aA,rfl,aB,aL⟩)
  ·skip
   replace a:=C9 a;refine lf aB<|Dd ?_;obtain rfl:=oi a;refine Ay rfl bD ?_;exact⟨aL.AS,rfl⟩
  ·skip
   replace a:=Da a;refine lf aB<|AZ<|BS<|cr<|wA (v:=I (-1)) rfl<|wn<|Av ?_;obtain rfl:=oi a;refine Ay rfl rfl ?_;exact⟨aL.AS,rfl⟩
theorem a46 bI s bT f g h i j k m n o p q r aU aV(Z:Nat→Prop) w(cS:Sl Az w Z f g s.Ag)(cT:Sl (Bs (Ao .i64)) w Z h i s.Ab)(cU:Sl AH w Z j k s.Ak)(cV:Sl Ba w Z m n s.AJ)(cW:Sl Bc w Z o p s.Aw)(cX:Sl Bp w Z q r s.Ar)(cY:Sl (Ao .i64) w Z aU aV bT) dJ(a:K7 bI s bT=some dJ):
 B7 Tryz.prog 46 #[.agg (Ai f g h i j k m n o p q r s).toArray,.slice aU bT.length aV] w (fun v w'=>Ext w w'∧(Fq (Ao .i64)).R w' (zf Z w []) v dJ):=by
 unfold K7 at a;refine rq (N:=32) Tryz.func46 fun d3 ha d4=>?_;have c6:=sA 0 ha;have c7:=sA 1 ha;clear ha;have c1:Hp FN [] w [] w:=Hp.start (BL.none w);have ⟨b4,b5,b6,b7,b8,b9,cA⟩:=Ea cS cT cU cV cW cX cY (Bd (Z:=Z) (L:=[]) w);refine cr<|wE (fun st=>BP (v:=.agg (Ai f g h i j k m n o p q r s).toArray) (cs:=(Ai f g h i j k m n o p q r s).toArray) (ee st c6) rfl) ?_;rintro _ w1 ⟨b1,rfl,bK⟩;have dK:=c1.nb bK;have d1:=c1.BU bK;refine wA (v:=.slice none 0 0) rfl<|wr<|wD (fun st=>AK (l:=(Ai f g h i j k m n o p q r s)) Cc (eR st) bK.bk rfl rfl) ?_;have ⟨bL,bM,bN,bO,bP,bQ⟩:=Cp b4 b5 b6 b7 b8 b9 (AA bK);replace a:=bind_some a;obtain⟨dL,dM,a⟩:=a;refine wE (fun st=>Aj LK (eR st) (Cy (eR st)) (Qd bI s f g h i j k m n o p q r ZA _ bL.all bM.all bN.all bO.all bP.all bQ.all dL dM)) ?_;rintro _ eA ⟨bW,rfl⟩;have c2:=dK.ext bW;replace a:=bind_some a;obtain⟨c8,dN,a⟩:=a;refine wE (fun st=>Aj Ms (eR st) (Cy (eR st)) (QU bI dL (zf Z w [some b1]) _ c8 dN)) ?_;rintro _ eB ⟨bX,⟨bY,bZ,rfl,bC⟩⟩;have dO:=c2.ext bX;have bC:=bC.mv (c2.CQ (Nat.le_refl _));refine wA (v:=.slice bY c8.length bZ) rfl<|wn<|Af<|cr<|wA (v:=I 0) rfl<|wn<|AI ?_;replace a:=bind_some a;obtain⟨cM,bR,a⟩:=a;refine BX (fun dP a8 aW=>(dP=.exit 0∧∃t u,Fo X0 32 a8∧sl a8 5=.slice t cM.length u∧Hp FN [] w [some b1] aW∧Sl (Ao .i64) aW (zf Z w [some b1]) t u cM)) ?dQ ?dR
 case dQ=>
  clear a;refine BW (fun cN a8 aW=>∃x,∃b,∃d e,GI bI s bT cN x b=some cM∧Fo X0 32 a8∧sl a8 1=.slice aU bT.length aV∧sl a8 2=pt b1 0∧sl a8 5=.slice d x.length e∧sl a8 6=I b∧Hp FN [] w [some b1] aW∧Sl (Ao .i64) aW (zf Z w [some b1]) d e x∧Bk aW b1 67 (Ai f g h i j k m n o p q r s).toArray∧Sl Az aW (zf Z w [some b1]) f g s.Ag∧Sl (Bs (Ao .i64)) aW (zf Z w [some b1]) h i s.Ab∧Sl AH aW (zf Z w [some b1]) j k s.Ak∧Sl Ba aW (zf Z w [some b1]) m n s.AJ∧Sl Bc aW (zf Z w [some b1]) o p s.Aw∧Sl Bp aW (zf Z w [some b1]) q r s.Ar∧Sl (Ao .i64) aW (zf Z w [some b1]) aU aV bT) bI ?dS ?dT
  case dS=>
   intro st;have cZ:=((bK.bk.ext bW).ext bX);have ⟨cB,cC,cD,cE,cF,cG⟩:=Cp bL bM bN bO bP bQ (mt (Ac bW) (Ac bX));have cH:=(((cA.mv (AA bK)).mv (Ac bW)).mv (Ac bX));exact⟨c8,(0:Int),bY,bZ,bR,qo st,sp st 1 c7,sp st 2 rfl,sp st 5 rfl,sp st 6 rfl,dO,bC,cZ,cB,cC,cD,cE,cF,cG,cH⟩
  case dT=>
   rintro(_|cN) d5 d6 ⟨x,b,d,e,bR,c9,bA,aS,bB,aJ,dU,bD,bE,aL,aM,aN,aO,aP,aQ,bF⟩
   ·exact absurd (show none=some _ from bR) (by simp)
   rw[GI.eq_2] at bR;have a:=bR;clear bR;refine ro c9<|Af<|cr<|wM (v:=I b) aJ<|wD (fun st=>AK (l:=(Ai f g h i j k m n o p q r s)) Cc (ee st aS) bE rfl rfl) ?_;replace a:=bind_some a;obtain⟨dV,dW,a⟩:=a;refine wE (fun st=>Aj LK (eR st) (Cy (eR st)) (Qd bI s f g h i j k m n o p q r ZA _ aL.all aM.all aN.all aO.all aP.all aQ.all dV dW)) ?_;rintro _ eC ⟨a9,rfl⟩;have cO:=dU.ext a9;refine wD (fun st=>JP (eR st) (eR st))<|wn ?_;rcases Ae (decide (b≤dV)) with bU|bU
   ·replace a:=Ap a bU;refine Am rfl bU<|cn<|Af<|AI<|cr<|wM (v:=I b) aJ ?_;replace a:=bind_some a;obtain⟨bG,dA,a⟩:=a;refine wE (fun st=>Aj Ms (eR st) (Cy (eR st)) (QU bI b (zf Z w [some b1]) _ bG dA)) ?_;rintro _ d7 ⟨aR,⟨y,z,rfl,aK⟩⟩;have dX:=cO.ext aR;have aK:=aK.mv (cO.CQ (Nat.le_refl _));refine wA (v:=.slice y bG.length z) rfl<|wr<|wM (v:=.slice y bG.length z) rfl<|wM (v:=.slice d x.length e) bB ?_;have aX:=((bD.mv (Ac a9)).mv (Ac aR));replace a:=bind_some a;obtain⟨cP,dB,a⟩:=a;refine wE (fun st=>Aj Yc (eR st) (CN (eR st) (eR st)) (a62 bI bG x y z d e ZA _ aK.all aX.all cP dB)) ?_;rintro _ dY ⟨aG,rfl⟩;have c3:=dX.ext aG;refine wM (v:=.bool cP) rfl ?_;rcases Ae (cP) with c|c
    ·replace a:=Ap a c;refine wG c (fun st=>Au (v:=.slice aU bT.length aV) (ee st bA)) ?_;have aT:=(((bE.ext a9).ext aR).ext aG);refine wG c (fun st=>AK (l:=(Ai f g h i j k m n o p q r s)) Cc (ee st aS) aT rfl rfl) ?_;have ⟨aA,aB,aC,aD,aE,aF⟩:=Cp aL aM aN aO aP aQ (mt (Ac a9) (mt (Ac aR) (Ac aG)));replace a:=bind_some a;obtain⟨c4,dC,a⟩:=a;refine wX c (fun st=>Aj LK (eR st) (Cy (eR st)) (Qd bI s f g h i j k m n o p q r ZA _ aA.all aB.all aC.all aD.all aE.all aF.all c4 dC)) ?_;rintro _ d8 ⟨aI,rfl⟩;have dZ:=c3.ext aI;refine wG c (fun st=>Au (v:=I b) (ee st aJ)) ?_;replace a:=G6 a;obtain⟨dD,a⟩:=a;refine wG c (fun st=>AbP (eR st) (eR st) dD) ?_;have aY:=((((bF.mv (Ac a9)).mv (Ac aR)).mv (Ac aG)).mv (Ac aI));replace a:=bind_some a;obtain⟨cQ,dE,a⟩:=a;refine wX c (fun st=>Aj Zq (eR st) (CN (eR st) (eR st)) (Afb bI bT (Qz c4 b) aU aV ZA _ aY.all cQ dE)) ?_;rintro _ d0 ⟨aH,rfl⟩;have c5:=dZ.ext aH;refine wD (fun st=>AW (v:=.bool cQ) (eR st) c (eR st))<|wn ?_;rcases Ae (cQ) with bH|bH
     ·replace a:=Ap a bH;refine Am rfl bH<|Al<|wM (v:=.slice y bG.length z) rfl<|wA (v:=.slice y bG.length z) rfl<|AU<|CS<|Al<|wM (v:=I b) aJ ?_;replace a:=AF a;obtain⟨dF,a⟩:=a;refine wD (fun st=>BG (eR st) (eR st) dF)<|wA (v:=I (b+1)) rfl<|AU ?_;have bV:=(((aK.mv (Ac aG)).mv (Ac aI)).mv (Ac aH));have bS:=((aT.ext aI).ext aH);have ⟨aZ,a0,a2,a3,a4,a5⟩:=Cp aA aB aC aD aE aF (mt (Ac aI) (Ac aH));have a7:=(aY.mv (Ac aH));refine Bi cN (Nat.lt_succ_self _) (fun st=>?_);exact⟨bG,(b+1),y,z,a,qo st,sp st 1 bA,sp st 2 aS,sp st 5 rfl,sp st 6 rfl,c5,bV,bS,aZ,a0,a2,a3,a4,a5,a7⟩
     ·replace a:=Aq a bH;refine An rfl bH<|Ct<|CS<|Al<|wM (v:=I b) aJ ?_;replace a:=AF a;obtain⟨dG,a⟩:=a;refine wD (fun st=>BG (eR st) (eR st) dG)<|wA (v:=I (b+1)) rfl<|AU ?_;have cI:Sl (Ao .i64) d0 (zf Z w [some b1]) d e x:=(((aX.mv (Ac aG)).mv (Ac aI)).mv (Ac aH));have bS:=((aT.ext aI).ext aH);have ⟨aZ,a0,a2,a3,a4,a5⟩:=Cp aA aB aC aD aE aF (mt (Ac aI) (Ac aH));have a7:=(aY.mv (Ac aH));refine Bi cN (Nat.lt_succ_self _) (fun st=>?_);exact⟨x,(b+1),d,e,a,qo st,sp st 1 bA,sp st 2 aS,sp st 5 bB,sp st 6 rfl,c5,cI,bS,aZ,a0,a2,a3,a4,a5,a7⟩
    ·replace a:=Aq a c;refine wF c<|wF c<|wF c<|wF c<|wF c<|wF c<|wD (fun st=>Bo (v:=.bool false) (eR st) c (eR st))<|wn<|An rfl rfl<|Ct<|CS<|Al<|wM (v:=I b) aJ ?_;replace a:=AF a;obtain⟨dH,a⟩:=a;refine wD (fun st=>BG (eR st) (eR st) dH)<|wA (v:=I (b+1)) rfl<|AU ?_;have cJ:Sl (Ao .i64) dY (zf Z w [some b1]) d e x:=(aX.mv (Ac aG));have aT:=(((bE.ext a9).ext aR).ext aG);have ⟨aA,aB,aC,aD,aE,aF,cK⟩:=Ea aL aM aN aO aP aQ bF (mt (Ac a9) (mt (Ac aR) (Ac aG)));refine Bi cN (Nat.lt_succ_self _) (fun st=>?_);exact⟨x,(b+1),d,e,a,qo st,sp st 1 bA,sp st 2 aS,sp st 5 bB,sp st 6 rfl,c3,cJ,aT,aA,aB,aC,aD,aE,aF,cK⟩
   ·replace a:=Aq a bU;refine An rfl bU<|Dq ?_;obtain rfl:=oi a;have cL:=(bD.mv (Ac a9));refine BC (fun st=>?_);exact⟨rfl,d,e,qo st,sp st 5 bB,cO,cL⟩
 case dR=>
  rintro dP d2 d9 (⟨rfl,t,u,c0,cR,dI,bJ⟩);refine lf c0<|AZ<|BS<|cr<|wM (v:=.slice t cM.length u) cR<|wA (v:=.slice t cM.length u) rfl<|wn<|Av ?_;obtain rfl:=oi a;refine Ay rfl rfl ?_;exact⟨dI.AS,⟨_,_,rfl,bJ.mv (BQ (CE [] trivial))⟩⟩
theorem T6 aM n a b c d e f g h i j k m(Z:Nat→Prop) w(aE:Sl Az w Z a b n.Ag)(aF:Sl (Bs (Ao .i64)) w Z c d n.Ab)(aG:Sl AH w Z e f n.Ak)(aH:Sl Ba w Z g h n.AJ)(aI:Sl Bc w Z i j n.Aw)(aJ:Sl Bp w Z k m n.Ar) aN(p:C2 aM n=some aN):
 B7 Tryz.prog 65 #[.agg (Ai a b c d e f g h i j k m n).toArray] w (fun v w'=>Ext w w'∧(DT .i64).R w' (zf Z w []) v aN):=by
 unfold C2 at p;refine rq (N:=5) Tryz.func65 fun aU ha aV=>?_;have aL:=sA 0 ha;clear ha;have aK:Hp FN [] w [] w:=Hp.start (BL.none w);have ⟨q,r,s,t,u,x⟩:=Cp aE aF aG aH aI aJ (Bd (Z:=Z) (L:=[]) w);refine cr<|wE (fun st=>BP (v:=.agg (Ai a b c d e f g h i j k m n).toArray) (cs:=(Ai a b c d e f g h i j k m n).toArray) (ee st aL) rfl) ?_;rintro _ w1 ⟨b1,rfl,o⟩;have aO:=aK.nb o;have aT:=aK.BU o;refine wA (v:=I 0) rfl<|wr<|wD (fun st=>AK (l:=(Ai a b c d e f g h i j k m n)) Cc (eR st) o.bk rfl rfl) ?_;have ⟨y,z,aA,aB,aC,aD⟩:=Cp q r s t u x (AA o);replace p:=bind_some p;obtain⟨aP,aQ,p⟩:=p;refine wE (fun st=>Aj OC (eR st) (Cy (eR st)) (a116 aM n a b c d e f g h i j k m ZA _ y.all z.all aA.all aB.all aC.all aD.all aP aQ)) ?_;rintro _ aW ⟨aR,rfl⟩;have aS:=aO.ext aR;refine wA (v:=I aP) rfl<|wn<|Av ?_;obtain rfl:=oi p;refine Ay rfl rfl ?_;exact⟨aS.AS,rfl⟩
theorem Vg aW b c d e f g h i j k m n o(Z:Nat→Prop) w(aN:Sl Az w Z c d b.Ag)(aO:Sl (Bs (Ao .i64)) w Z e f b.Ab)(aP:Sl AH w Z g h b.Ak)(aQ:Sl Ba w Z i j b.AJ)(aR:Sl Bc w Z k m b.Aw)(aS:Sl Bp w Z n o b.Ar) aY(a:CU aW b=some aY):
 B7 Tryz.prog 44 #[.agg (Ai c d e f g h i j k m n o b).toArray] w (fun v w'=>Ext w w'∧(DT .i64).R w' (zf Z w []) v aY):=by
 unfold CU at a;refine rq (N:=14) Tryz.func44 fun a9 ha bA=>?_;have aX:=sA 0 ha;clear ha;have aU:Hp FN [] w [] w:=Hp.start (BL.none w);have ⟨y,z,aA,aB,aC,aD⟩:=Cp aN aO aP aQ aR aS (Bd (Z:=Z) (L:=[]) w);refine cr<|wE (fun st=>BP (v:=.agg (Ai c d e f g h i j k m n o b).toArray) (cs:=(Ai c d e f g h i j k m n o b).toArray) (ee st aX) rfl) ?_;rintro _ w1 ⟨b1,rfl,s⟩;have aZ:=aU.nb s;have a5:=aU.BU s;refine wA (v:=I 0) rfl<|wn<|Af<|cr<|wD (fun st=>AK (l:=(Ai c d e f g h i j k m n o b)) Cc (eR st) s.bk rfl rfl) ?_;have ⟨p,q,r,aE,aF,aG⟩:=Cp y z aA aB aC aD (AA s);replace a:=bind_some a;obtain⟨aH,a0,a⟩:=a;refine wE (fun st=>Aj OT (eR st) (Cy (eR st)) (T6 aW b c d e f g h i j k m n o ZA _ p.all q.all r.all aE.all aF.all aG.all aH a0)) ?_;rintro _ bB ⟨aL,rfl⟩;have aM:=aZ.ext aL;refine wA (v:=I aH) rfl<|wr<|wM (v:=I aH) rfl<|wD (fun st=>Db (eR st) (eR st))<|wn ?_;rcases Ae (aH !=0) with t|t
 ·replace a:=Ap a t;refine Am rfl t<|cr<|wM (v:=I aH) rfl<|wA (v:=I aH) rfl<|wn<|Av<|AG ?_;obtain rfl:=oi a;refine Ay rfl rfl ?_;exact⟨aM.AS,rfl⟩
 ·replace a:=Aq a t;refine An rfl t<|cn<|Af<|cr<|wD (fun st=>Ad (eR st) (DQ _ _)) ?_;have aT:=(s.bk.ext aL);refine wD (fun st=>AK (l:=[.slice c b.Ag.length d,.slice e b.Ab.length f,.slice g b.Ak.length h]) Dt (eR st) aT rfl rfl) ?_;have ⟨aI,aJ,aK⟩:=DU p q r (Ac aL);replace a:=bind_some a;obtain⟨a2,a3,a⟩:=a;refine wE (fun st=>Aj Kw (eR st) (Cy (eR st)) (a28 aW (⟨b.Ag,b.Ab,b.Ak⟩:AO) c d e f g h (zf Z w [some b1]) _ aI aJ aK a2 a3)) ?_;rintro _ bC ⟨a4,⟨a7,a8,rfl,u⟩⟩;have aV:=aM.ext a4;have u:=u.mv (aM.CQ (Nat.le_refl _));refine wD (fun st=>Be Tryz.underlying23 (eR st))<|wD (fun st=>CT (eR st) (eR st))<|wn ?_;rcases Ae ((a2.length:Int)==0) with x|x
  ·replace a:=Ap a x;refine Am rfl x<|cr<|wA (v:=I 11) rfl<|wn<|Av<|AG ?_;obtain rfl:=oi a;refine Ay rfl rfl ?_;exact⟨aV.AS,rfl⟩
  ·replace a:=Aq a x;refine An rfl x<|cn<|cr<|wA (v:=I 0) rfl<|wn<|Av ?_;obtain rfl:=oi a;refine Ay rfl rfl ?_;exact⟨aV.AS,rfl⟩
end Go.Proofs.YtbhofkcbfblijaaGreat
end
