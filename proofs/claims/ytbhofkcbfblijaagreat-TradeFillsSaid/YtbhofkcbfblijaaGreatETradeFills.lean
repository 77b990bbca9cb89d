import Derived.Test.YtbhofkcbfblijaaGreatCH6
import Derived.WalkKit
import Derived.KernelRfl
import Derived.WalkSpells
import Derived.WalkLawsBesides
import Derived.Maps.AppendAt
import Derived.OrdersIn
import Derived.RangeFuncIn
import Derived.RangeFuncLeaves
import Derived.RangeFuncRecord
import Derived.RangeFuncSeq
import Derived.Scope
import Derived.DeepKeys3
import Derived.Laws.CopyRow
import Derived.Laws.OwnMore
import Derived.Laws.MakeOwn
import Derived.Laws.IdiomCopy
import Derived.Sort.OwnSortedInts
import Derived.Lib.RowBridge
import Derived.Shelf.Sort.Plain
import Derived.Ground.Names2Prog
import Derived.Shelf.Slices.Clone
import Derived.Shelf.Slices.CompactI
import Derived.Shelf.Slices.In.SortNone
import Derived.Ground.SlgnProg
import Derived.Shelf.SlicesE.Clone
import Derived.ProofKit
import Derived.ChangeSame
import Derived.SizedLaws
import Derived.Deep.Slices
import Derived.JoinedOf
import Derived.Test.YtbhofkcbfblijaaGreatProg
import Derived.Test.YtbhofkcbfblijaaGreatRows
/-
  What the law TradeFills needs beside the base that several claims of this seat share: contracts, and the plain law.
-/
set_option linter.all false
section
namespace Go.Proofs.YtbhofkcbfblijaaGreat
open Go.RowKit Go.WideShapes
def Ft(a b:Int):Int:=((a.toNat|||b.toNat:Nat):Int)
section
variable{P:Program}{a:Act}{w:World}{dst:Option Tmp}{ty:TypeId}{pos:String}{Ds:Array Edge}{g:Option (Nat×Bool)}
theorem L6{x y:Operand}{m n:Int}{t b:TypeId}(c:a.eval x=.int .i64 m)(d:a.eval y=.int .i64 n)(h:(0≤m∧m≤9223372036854775807)∧(0≤n∧n≤9223372036854775807)):Dm P ⟨dst,.binOp .or t x y b,ty,pos,Ds,g⟩ a w (fun u w'=>u=.int .i64 (Ft m n)∧w'=w):=
 DS (by
  have e:(BitVec.ofInt 64 m|||BitVec.ofInt 64 n).toNat=m.toNat|||n.toNat:=by rw[BitVec.toNat_or,JR h.1.1 h.1.2,JR h.2.1 h.2.2]
  have i:m.toNat|||n.toNat<2^63:=Nat.or_lt_two_pow (by omega) (by omega);have f:IntKind.i64.wrap ((m.toNat|||n.toNat:Nat):Int)=((m.toNat|||n.toNat:Nat):Int):=K9 (by omega);have key:(Op.intBits .or .i64 m n).run P w=.ok (.int .i64 (Ft m n)) w:=by
   show(pure (Value.int .i64 (IntKind.i64.wrap ((BitVec.ofInt 64 m|||BitVec.ofInt 64 n).toNat:Int))):Sem Value).run P w=_;rw[e,f];rfl
  simp[execOp,c,d,eqGuard,binOp,key])
theorem Sa{x y:Operand}{b c:Bool}{t d:TypeId}(hb:∀b c w,(Op.equal t (.bool b) (.bool c)).run P w=.ok (b==c) w)(e:a.eval x=.bool b)(f:a.eval y=.bool c):
  Dm P ⟨dst,.binOp .neq t x y d,ty,pos,Ds,g⟩ a w (fun u w'=>u=.bool (b !=c)∧w'=w):=by
 refine Tt e f ?_;show(do eqGuard .neq t x y (.bool b) (.bool c);pure (Value.bool (!(←Op.equal t (.bool b) (.bool c)))):Sem Value).run P w=_;have h:(eqGuard .neq t x y (.bool b) (.bool c)).run P w=.ok () w:=by simp[eqGuard]
 simp only[Sem.run_bind,h,Result.andThen_ok,hb,Sem.run_pure];rfl
end
def ER(g:Nat)(h:Ah)(d:List Int)(c:CZ):Nat→Int→(List (List Int×Int))→Option ((Bool×(List (List Int×Int)))⊕((List (List Int×Int))))
 |0,_,_=>none
 |l+1,a,b=>cond (decide (a<(d.length:Int))) ((idx d a).bind fun e=>(GO g h e).bind fun i=>cond (!i) (some (.inl (false,b))) ((Ph d.length (0:Int) a).bind fun _=>(G1 g (HL d (0:Int) a) e).bind fun j=>cond (j) (some (.inl (false,b))) ((idx h.Aw a).bind fun k=>(EY g (⟨c.AX,c.AY,c.AT,c.CV,c.Bx,c.Bw,c.BT,c.weights,c.Dg,b⟩:CZ) k e).bind fun f=>cond (!f.1) (some (.inl (false,f.2))) ((i64 (a+1)).bind fun _=>ER g h d c l (a+1) f.2)))) (some (.inr b))
def Gh(b:Nat)(c:Ah)(e:List Int):Option (Bool):=
 (Cw b c true).bind fun d=>Option.elim d.1 (cond (d.2 !=0) (some (false)) (none)) (fun f=>cond (d.2 !=0) (some (false)) (cond ((e.length:Int) !=(c.Aw.length:Int)) (some (false)) ((ER b c e f b (0:Int) f.known).bind fun z=>Sum.elim (fun a=>some (a.1)) (fun a=>some (true)) z)))
def Bm(d:Nat)(b:AO)(c:List Int):Nat→Int→Option ((Bool)⊕(Unit))
 |0,_=>none
 |e+1,a=>cond (decide (a<(c.length:Int))) (cond (decide (a<(b.Ax.length:Int))) ((idx c a).bind fun f=>(idx b.Ax a).bind fun g=>(idx b.Ax a).bind fun h=>(Cn d f g.Lo h.Hi).bind fun i=>cond (!i) (some (.inl false)) ((i64 (a+1)).bind fun _=>Bm d b c e (a+1))) (some (.inr ()))) (some (.inr ()))
def Ck(b:Nat)(c:AO)(d:List Int):Option (Bool):=
 (Bm b c d b (0:Int)).bind fun z=>Sum.elim (fun a=>some (a)) (fun a=>some ((d.length:Int)==(c.Ax.length:Int))) z
def Cj(c:Nat)(d:AO)(a:List Int)(b:Int):Option (Int):=
 cond (decide (b<(a.length:Int))) ((idx a b).bind fun e=>some (e)) ((i64 (b-(a.length:Int))).bind fun _=>(idx d.Bv (b-(a.length:Int))).bind fun f=>(DM c a f).bind fun g=>some (g))
def Cf(b:Nat)(c:AO)(d:List Int)(a:DL):Option (Bool):=
 cond (a.Ce) ((i64 (a.Number+(c.Ax.length:Int))).bind fun _=>(Cj b c d (a.Number+(c.Ax.length:Int))).bind fun g=>(Cn b g a.AM a.AN).bind fun h=>some (h)) ((Cj b c d a.Number).bind fun e=>(Cn b e a.AM a.AN).bind fun f=>some (f))
def AL(c:Nat)(b:AO)(d:List Int):Nat→Int→Option ((Bool)⊕(Unit))
 |0,_=>none
 |g+1,a=>cond (decide (a<(b.AQ.length:Int))) ((idx b.AQ a).bind fun e=>(Cf c b d e).bind fun f=>cond (!f) (some (.inl false)) ((i64 (a+1)).bind fun _=>AL c b d g (a+1))) (some (.inr ()))
def BZ(b:Nat)(c:AO)(d:List Int):Option (Bool):=
 (Ck b c d).bind fun e=>cond (!e) (some (false)) ((AL b c d b (0:Int)).bind fun z=>Sum.elim (fun a=>some (a)) (fun a=>some (true)) z)
def Bj(c:Nat)(d:AO):Nat→(List (List Int))→Int→Option ((List (List Int)))
 |0,_,_=>none
 |f+1,b,a=>(Ez c d).bind fun g=>cond (decide (a<g)) ((FM c d a).bind fun e=>(BZ c d e).bind fun h=>cond (h) ((Es (((b.length+[e].length:Nat):Int)≤140737488355328/24)).bind fun _=>(i64 (a+1)).bind fun _=>Bj c d f (b++[e]) (a+1)) ((i64 (a+1)).bind fun _=>Bj c d f b (a+1))) (some (b))
def By(a:Nat)(b:AO):Option ((List (List Int))):=
 (Bj a b a ([]:List (List Int)) (0:Int)).bind fun z2=>some (z2)
def Bn(d:Nat)(c:Ah)(e:List Int):Nat→Int→Int→Option (Int)
 |0,_,_=>none
 |f+1,b,a=>cond (decide (a<(c.Ar.length:Int))) ((idx c.Ar a).bind fun g=>(idx c.Ar a).bind fun i=>(Eg d c e i.Ce).bind fun j=>(Cn d j g.CA g.CB).bind fun h=>cond (h) ((EI .u64 a).bind fun _=>(FL (1:Int) a).bind fun _=>(LU b (C3 (1:Int) a)).bind fun _=>(i64 (a+1)).bind fun _=>Bn d c e f (Ft b (C3 (1:Int) a)) (a+1)) ((i64 (a+1)).bind fun _=>Bn d c e f b (a+1))) (some (b))
def Cg(a:Nat)(b:Ah)(c:List Int):Option (Int):=
 (Bn a b c a (0:Int) (0:Int)).bind fun z2=>some (z2)
def Ch(b:Nat)(a:Ah):Option (Int):=
 (EI .u64 (a.Ar.length:Int)).bind fun _=>(FL (1:Int) (a.Ar.length:Int)).bind fun _=>(i64 ((C3 (1:Int) (a.Ar.length:Int))-1)).bind fun _=>some ((C3 (1:Int) (a.Ar.length:Int))-1)
def Bt(d:Nat)(e:Ah)(c:(List (List Int))):Nat→(List (List Int))→Int→Option ((List (List Int)))
 |0,_,_=>none
 |g+1,b,a=>cond (decide (a<(c.length:Int))) ((idx c a).bind fun i=>(Cg d e i).bind fun j=>(Ch d e).bind fun h=>cond (j==h) ((idx c a).bind fun f=>(Es (((b.length+[f].length:Nat):Int)≤140737488355328/24)).bind fun _=>(i64 (a+1)).bind fun _=>Bt d e c g (b++[f]) (a+1)) ((i64 (a+1)).bind fun _=>Bt d e c g b (a+1))) (some (b))
def Cq(b:Nat)(a:Ah):Option ((List (List Int))):=
 (By b (⟨a.Ag,a.Ab,a.Ak⟩:AO)).bind fun c=>(Bt b a c b ([]:List (List Int)) (0:Int)).bind fun z4=>some (z4)
def Dv(d:Nat)(b:Ah)(c:List (List Int))(e:Int)(x2:CH):Nat→Int→Option ((Bool)⊕(Unit))
 |0,_=>none
 |h+1,a=>cond (decide (a<(c.length:Int))) ((idx c a).bind fun i=>(idx b.Ab e).bind fun j=>(DM d i j).bind fun f=>(idx b.AJ x2.Dh).bind fun g=>cond (decide (f<g.BN)) (some (.inl false)) ((i64 (a+1)).bind fun _=>Dv d b c e x2 h (a+1))) (some (.inr ()))
def Gy(b:Nat)(c:Ah)(f:List (List Int))(g:Int)(d:Int):Option (Bool):=
 (idx c.Aw g).bind fun x2=>(Dv b c f d x2 b (0:Int)).bind fun z=>Sum.elim (fun a=>some (a)) (fun a=>(Ef b c d).bind fun e=>some (decide (x2.Df≤e))) z
def EX(c:List Int)(b:Int):Nat→Int→Option ((Bool)⊕(Unit))
 |0,_=>none
 |f+1,a=>cond (decide (a<b)) ((idx c a).bind fun d=>(idx c b).bind fun e=>cond (d==e) (some (.inl false)) ((i64 (a+1)).bind fun _=>EX c b f (a+1))) (some (.inr ()))
def GX(d:Nat)(e:Ah)(f:List (List Int))(b:List Int):Nat→Int→Option ((Bool)⊕(Unit))
 |0,_=>none
 |i+1,a=>cond (decide (a<(b.length:Int))) ((idx b a).bind fun j=>(i64 ((e.Ab.length:Int)-1)).bind fun _=>(Cn d j 0 ((e.Ab.length:Int)-1)).bind fun k=>cond (!k) (some (.inl false)) ((idx b a).bind fun g=>(Gy d e f a g).bind fun h=>cond (!h) (some (.inl false)) ((EX b a d (0:Int)).bind fun z=>Sum.elim (fun c=>some (.inl c)) (fun c=>(i64 (a+1)).bind fun _=>GX d e f b i (a+1)) z))) (some (.inr ()))
def Ix(b:Nat)(c:Ah)(e:List (List Int))(d:List Int):Option (Bool):=
 cond ((d.length:Int) !=(c.Aw.length:Int)) (some (false)) ((GX b c e d b (0:Int)).bind fun z=>Sum.elim (fun a=>some (a)) (fun a=>some (true)) z)
def HB(c:Ah):Nat→Int→Int→Option (Int)
 |0,_,_=>none
 |d+1,a,b=>cond (decide (b<(c.Aw.length:Int))) ((i64 (a*(c.Ab.length:Int))).bind fun _=>(i64 (b+1)).bind fun _=>HB c d (a*(c.Ab.length:Int)) (b+1)) (some (a))
def GJ(d:Ah):Nat→Int→Int→(List Int)→Option ((List Int))
 |0,_,_,_=>none
 |e+1,a,b,c=>cond (decide ((0:Int)≤b)) ((rem a (d.Ab.length:Int)).bind fun _=>(quo a (d.Ab.length:Int)).bind fun _=>(i64 (a/(d.Ab.length:Int))).bind fun _=>(idx c b).bind fun f=>(i64 (b-1)).bind fun _=>GJ d e (a/(d.Ab.length:Int)) (b-1) (c.set b.toNat (a%(d.Ab.length:Int)))) (some (c))
def Iy(d:Nat)(b:Ah)(e:List (List Int))(z2:Int):Nat→Int→Option (((List Int)×Bool)⊕(Unit))
 |0,_=>none
 |g+1,a=>cond (decide (a<z2)) ((mkO (b.Aw.length:Int) 8).bind fun _=>(i64 (((List.replicate (b.Aw.length:Int).toNat (0:Int)).length:Int)-1)).bind fun _=>(GJ b d a (((List.replicate (b.Aw.length:Int).toNat (0:Int)).length:Int)-1) (List.replicate (b.Aw.length:Int).toNat (0:Int))).bind fun c=>(Ix d b e c).bind fun f=>cond (f) (some (.inl (c,true))) ((i64 (a+1)).bind fun _=>Iy d b e z2 g (a+1))) (some (.inr ()))
def LM(b:Nat)(c:Ah)(d:List (List Int)):Option ((List Int)×Bool):=
 (HB c b (1:Int) (0:Int)).bind fun z2=>(Iy b c d z2 b (0:Int)).bind fun z=>Sum.elim (fun a=>some ((a.1,a.2))) (fun a=>some ((([]:List Int),false))) z
def Cr(b:Nat)(a:List Int):Option ((List Int)):=
 (Es (((([]:List Int).length+a.length:Nat):Int)≤140737488355328/8)).bind fun _=>some (([]:List Int)++a)
def C2(a:Nat)(b:Ah):Option (Int):=
 (Fy a b).bind fun c=>some (c)
def CU(b:Nat)(a:Ah):Option (Int):=
 (C2 b a).bind fun c=>cond (c !=0) (some (c)) ((By b (⟨a.Ag,a.Ab,a.Ak⟩:AO)).bind fun d=>cond ((d.length:Int)==0) (some (11)) (some (0)))
def DN(a:Nat)(b:Ah):Option ((List (List Int))×Int):=
 (CU a b).bind fun c=>cond (c !=0) (some ((([]:List (List Int)),c))) ((Cq a b).bind fun d=>cond ((d.length:Int)==0) (some ((([]:List (List Int)),9))) (some ((d,0))))
end Go.Proofs.YtbhofkcbfblijaaGreat
end
section
namespace Go.Proofs.YtbhofkcbfblijaaGreat
theorem Rl{β:Type}{n:Nat}{a b:Int}{f:Unit→Option β}(h:0≤a∧a≤b∧b≤(n:Int)):(Ph n a b).bind f=f ():=bd (if_pos h)
theorem Mt(r:Bl)(rs:List Bl):Eu (r::rs) []=false:=rfl
theorem Mu(x:Int)(xs:List Int):Eu [] (x::xs)=false:=rfl
namespace OkC
variable{c:AO}(h:OkC c)
include h
end OkC
section
variable{K:Nat}(hK:1000≤K)
include hK
theorem Hv(c:AO)(l:List Int)(hh:c.Ax.length≤100)(hl:l.length≤100):∀(n m i:Nat),l.length=i+n→i≤c.Ax.length→n<m→
  (Bm K c l m (i:Int)).bind (fun z=>Sum.elim (fun q=>some q) (fun _=>some ((l.length:Int)==(c.Ax.length:Int))) z)=some (Eu (c.Ax.drop i) (l.drop i))
 |n,0,i,h,_,hm=>by omega
 |0,m+1,i,h,hi,hm=>by
  rw[Bm.eq_2,cf (df (by omega)),List.drop_eq_nil_of_le (by omega:l.length≤i)];show some ((l.length:Int)==(c.Ax.length:Int))=_
  by_cases e:i<c.Ax.length
  ·rw[List.drop_eq_getElem_cons e,IU (by omega),Mt]
  ·rw[List.drop_eq_nil_of_le (by omega),F9 (by omega),OQ]
 |n+1,m+1,i,h,hi,hm=>by
  have h1:i<l.length:=by omega
  rw[Bm.eq_2,ct (dt (by omega)),List.drop_eq_getElem_cons h1]
  by_cases e:i<c.Ax.length
  ·rw[ct (dt (by omega)),B5 h1,B5 e,B5 e,bd (Hs ..),List.drop_eq_getElem_cons e,Eu];cases DK l[i] c.Ax[i].Lo c.Ax[i].Hi with
   |false=>rw[nf,Bool.false_and];rfl
   |true=>
    rw[nt,Br (by omega) (by omega),CP i,Bool.true_and];exact Hv c l hh hl n m (i+1) (by omega) (by omega) (by omega)
  ·rw[cf (df (by omega)),List.drop_eq_nil_of_le (by omega:c.Ax.length≤i)];show some ((l.length:Int)==(c.Ax.length:Int))=_;rw[IU (by omega),Mu]
theorem IX(c:AO)(l:List Int)(hh:c.Ax.length≤100)(hl:l.length≤100):Ck K c l=some (Eu c.Ax l):=by
 have:=Hv hK c l hh hl l.length K 0 (by omega) (by omega) (by omega);rw[Int.natCast_zero,List.drop_zero,List.drop_zero] at this;exact this
end
section
variable{K:Nat}(hK:1000≤K)
include hK
theorem Kg{c:AO}(b:OkC c){l:List Int}(hl:Eu c.Ax l=true){t:DL}(d:t∈c.AQ):Cf K c l t=some (DK (Ew c l t) t.AM t.AN):=by
 obtain⟨h0,h1,h2⟩:=b.Qp t d;have hh:=KS hl;have:=b.hl;have:=b.cl;unfold Cf Ew;cases e:t.Ce with
 |true=>
  have f:=h1 e;obtain⟨k,hk⟩:∃k:Nat,t.Number=k:=⟨t.Number.toNat,by omega⟩;have a:k<c.Bv.length:=by omega
  rw[ct rfl,Br (by omega) (by omega),ct rfl,hk];unfold Cj;have g:(k:Int)+(c.Ax.length:Int)-(l.length:Int)=(k:Int):=by omega
  rw[cf (df (by omega)),Br (by omega) (by omega),g,B5 a,bd (KV hK b hl a),Option.bind_some,bd (Hs ..),Int.toNat_natCast,Cl _ a]
 |false=>
  have f:=h2 e;obtain⟨k,hk⟩:∃k:Nat,t.Number=k:=⟨t.Number.toNat,by omega⟩;have a:k<l.length:=by omega
  rw[cf rfl,cf rfl,hk];unfold Cj;rw[ct (dt (by omega)),B5 a,Option.bind_some,bd (Hs ..),Int.toNat_natCast,Cl _ a]
theorem IY{c:AO}(a:OkC c){l:List Int}(b:l.length≤100):BZ K c l=some (Dr c l):=by
 have:=a.hl;have:=a.tl;unfold BZ Dr;rw[bd (IX hK c l (by omega) b)];cases hl:Eu c.Ax l with
 |false=>rw[nf,Bool.false_and]
 |true=>
  have h:AL K c l K 0=some (cond (c.AQ.all fun t=>DK (Ew c l t) t.AM t.AN) (.inr ()) (.inl false)):=
   JT c.AQ (fun m i=>AL K c l m (i:Int)) (fun t=>DK (Ew c l t) t.AM t.AN) false
    (fun m i hi=>by
     show AL K c l (m+1) (i:Int)=_;rw[AL.eq_2,ct (dt (by omega)),B5 hi,bd (Kg hK a hl (List.getElem_mem hi))];cases DK (Ew c l c.AQ[i]) c.AQ[i].AM c.AQ[i].AN with
     |false=>rw[nf,cf rfl]
     |true=>rw[nt,Br (by omega) (by omega),CP i,ct rfl])
    (fun m=>by
     show AL K c l (m+1) (c.AQ.length:Int)=_;rw[AL.eq_2,cf (df (by omega))]) (by omega)
  rw[nt,bd h,Bool.true_and];unfold Oh;cases c.AQ.all fun t=>DK (Ew c l t) t.AM t.AN with
  |false=>rfl
  |true=>rfl
theorem Kh(rs:List Bl):∀n,(HK rs n).length=rs.length:=by
 clear hK
 induction rs with
 |nil=>intro n;rfl
 |cons r rs ih=>intro n;rw[HK,List.length_cons,List.length_cons,ih]
theorem Fb{c:AO}(a:OkC c):∀(d m i:Nat) (acc:List (List Int)),Gt c.Ax=(i:Int)+d→d<m→acc.length≤i→
  Bj K c m acc (i:Int)=some (acc++((List.range' i d).map fun n:Nat=>HK c.Ax (n:Int)).filter (Dr c))
 |d,0,i,acc,h,hm,_=>by omega
 |0,m+1,i,acc,h,hm,_=>by
  rw[Bj.eq_2,bd (Kp hK a),cf (df (by omega))];simp
 |d+1,m+1,i,acc,h,hm,ha=>by
  have b:=a.many;have hh:=a.hl;rw[Bj.eq_2,bd (Kp hK a),ct (dt (by omega)),bd (Po hK (by omega) a.ok (by omega)),bd (IY hK a (by rw[Kh hK];omega)),List.range'_succ,List.map_cons,List.filter_cons];cases Dr c (HK c.Ax (i:Int)) with
  |true=>
   rw[ct rfl,DG (by simp;omega),Br (by omega) (by omega),CP i,Fb a d m (i+1) _ (by omega) (by omega) (by simp;omega),List.append_assoc];rfl
  |false=>
   rw[cf rfl,Br (by omega) (by omega),CP i,Fb a d m (i+1) _ (by omega) (by omega) (by omega)];rfl
theorem Hz{c:AO}(a:OkC c):By K c=some (BR c):=by
 unfold By BR;have h1:=NC hK a;have h2:=a.many;have:=Fb hK a (Gt c.Ax).toNat K 0 [] (by omega) (by omega) (by simp);rw[Int.natCast_zero,List.nil_append] at this;rw[bd this,List.range_eq_range']
end
section
variable{K:Nat}(hK:1000≤K)
include hK
end
end Go.Proofs.YtbhofkcbfblijaaGreat
end
section
namespace Go.Proofs.YtbhofkcbfblijaaGreat
namespace OkT
variable{t:Ah}(h:OkT t)
include h
theorem ol:t.Aw.length≤3:=(HE h.fault).2.2.1
end OkT
section
variable{K:Nat}(hK:1000≤K)
include hK
end
section
variable{K:Nat}(hK:1000≤K)
include hK
end
end Go.Proofs.YtbhofkcbfblijaaGreat
end
section
namespace Go.Proofs.YtbhofkcbfblijaaGreat
def Di(M:List Int):Nat→List Cu→Nat
 |_,[]=>0
 |i,n::ns=>(if EB M n=true then 2^i else 0)|||Di M (i+1) ns
theorem E0(M:List Int):∀(ns:List Cu) (i j:Nat),(Di M i ns).testBit j=true↔∃q,∃hq:q<ns.length,j=i+q∧EB M ns[q]=true
 |[],i,j=>by simp[Di]
 |n::ns,i,j=>by
  rw[Di,Nat.testBit_or,Bool.or_eq_true,E0 M ns (i+1) j];constructor
  ·rintro(h|⟨q,hq,rfl,h⟩)
   ·split at h
    ·rename_i hn
     rw[Nat.testBit_two_pow,decide_eq_true_eq] at h;exact⟨0,by simp,by omega,by simpa using hn⟩
    ·simp at h
   ·exact⟨q+1,by simpa using hq,by omega,by simpa using h⟩
  ·rintro⟨q,hq,rfl,h⟩;cases q with
   |zero=>
    left;rw[if_pos (by simpa using h),Nat.testBit_two_pow];simp
   |succ q=>exact .inr ⟨q,by simpa using hq,by omega,by simpa using h⟩
theorem Kx(M:List Int)(ns:List Cu):Di M 0 ns=2^ns.length-1↔CK M [] 0 ns=true:=by
 rw[HU];constructor
 ·intro h j hj;have:=(E0 M ns 0 j).1 (by rw[h,Nat.testBit_two_pow_sub_one];simpa using hj);obtain⟨q,hq,e,h2⟩:=this;obtain rfl:j=q:=by omega
  exact .inr h2
 ·intro h;refine Nat.eq_of_testBit_eq fun j=>?_;rw[Nat.testBit_two_pow_sub_one,Bool.eq_iff_iff,E0,decide_eq_true_eq];constructor
  ·rintro⟨q,hq,rfl,_⟩;omega
  ·intro hj;rcases h j hj with h1|h1
   ·simp at h1
   ·exact⟨j,hj,by omega,h1⟩
theorem GU:∀i:Nat,i<6→EI .u64 (i:Int)=some ()∧FL 1 (i:Int)=some ()∧C3 1 (i:Int)=((2^i:Nat):Int)∧2^i≤32∧1≤2^i∧FL 2 (i:Int)=some ()∧C3 2 (i:Int)=((2^(i+1):Nat):Int):=by decide+kernel
theorem N4(a b:Nat):Ft (a:Int) (b:Int)=((a|||b:Nat):Int):=by unfold Ft;rw[Int.toNat_natCast,Int.toNat_natCast]
def CL(t:Ah)(l:List Int):Bool:=Dr t.C l&&CK (AB t l) [] 0 t.Ar
theorem FG{c:AO}(a:OkC c):(BR c).length≤150:=by
 have:=a.many;unfold BR;refine Nat.le_trans (List.length_filter_le _ _) ?_;rw[List.length_map,List.length_range];omega
section
variable{K:Nat}(hK:1000≤K)
include hK
theorem Ki{t:Ah}(f:OkT t){l:List Int}(hl:Eu t.Ag l=true):Cg K t l=some ((Di (AB t l) 0 t.Ar:Nat):Int):=by
 have o:=f.nl;have a:∀(d m i:Nat) (s:Nat),t.Ar.length=i+d→d<m→s<2^5→Bn K t l m (s:Int) (i:Int)=some ((s|||Di (AB t l) i (t.Ar.drop i):Nat):Int):=by
  intro d
  induction d with
  |zero=>
   intro m i s h hm hs;obtain⟨m,rfl⟩:∃g,m=g+1:=⟨m-1,by omega⟩;rw[Bn.eq_2,cf (df (by omega)),List.drop_eq_nil_of_le (by omega),Di,Nat.or_zero]
  |succ d ih=>
   intro m i s h hm hs;obtain⟨m,rfl⟩:∃g,m=g+1:=⟨m-1,by omega⟩;have hi:i<t.Ar.length:=by omega
   obtain⟨h1,h2⟩:=(f.note _ (List.getElem_mem hi)).1;obtain⟨k,hk⟩:∃k:Nat,t.Ar[i].Ce=k:=⟨t.Ar[i].Ce.toNat,by omega⟩;have b:k<t.Ab.length:=by omega
   have c:k<(AB t l).length:=by rw[DC];exact b
   obtain⟨s1,s2,j,p,q,_⟩:=GU i (by omega);have e:DK ((AB t l)[k]'c) t.Ar[i].CA t.Ar[i].CB=EB (AB t l) t.Ar[i]:=by
    unfold EB;rw[hk,Int.toNat_natCast,Cl _ c]
   rw[Bn.eq_2,ct (dt (by omega)),B5 hi,B5 hi,hk,bd (Ld hK f hl b),bd (Hs ..),e,List.drop_eq_getElem_cons hi,Di];have n:2^i<2^5:=Nat.pow_lt_pow_right (by omega) (by omega);cases EB (AB t l) t.Ar[i] with
   |true=>
    rw[ct rfl,bd s1,bd s2,j,MC (by omega) (by omega),Br (by omega) (by omega),CP i,N4,if_pos rfl,ih m (i+1) _ (by omega) (by omega) (Nat.or_lt_two_pow hs n),Nat.or_assoc]
   |false=>rw[cf rfl,Br (by omega) (by omega),CP i,if_neg (by simp),Nat.zero_or,ih m (i+1) _ (by omega) (by omega) hs]
 have:=a t.Ar.length K 0 0 (by omega) (by omega) (by omega);rw[Int.natCast_zero,List.drop_zero,Nat.zero_or] at this;unfold Cg;rw[bd this]
theorem K8{t:Ah}(a:OkT t):Ch K t=some ((2^t.Ar.length-1:Nat):Int):=by
 have d:=a.nl;obtain⟨s1,s2,b,e,c,_⟩:=GU t.Ar.length (by omega);unfold Ch;rw[bd s1,bd s2,b,Br (by omega) (by omega),Int.natCast_sub c];rfl
theorem Mg{t:Ah}(l:List Int):(((Di (AB t l) 0 t.Ar:Nat):Int)==((2^t.Ar.length-1:Nat):Int))=CK (AB t l) [] 0 t.Ar:=by
 rw[Bool.eq_iff_iff,beq_iff_eq,←Kx];omega
theorem JH{t:Ah}(a:OkT t):Cq K t=some (Bf t):=by
 have hlen:=FG a.c;have h:By K ⟨t.Ag,t.Ab,t.Ak⟩=some (BR t.C):=Hz hK (c:=t.C) a.c;have b:∀(d m i:Nat) (acc:List (List Int)),(BR t.C).length=i+d→d<m→acc.length≤i→Bt K t (BR t.C) m acc (i:Int)=some (acc++((BR t.C).drop i).filter fun l=>CK (AB t l) [] 0 t.Ar):=by
  intro d
  induction d with
  |zero=>
   intro m i acc h hm ha;obtain⟨m,rfl⟩:∃e,m=e+1:=⟨m-1,by omega⟩;rw[Bt.eq_2,cf (df (by omega)),List.drop_eq_nil_of_le (by omega),List.filter_nil,List.append_nil]
  |succ d ih=>
   intro m i acc h hm ha;obtain⟨m,rfl⟩:∃e,m=e+1:=⟨m-1,by omega⟩;have hi:i<(BR t.C).length:=by omega
   have f:=(Gd a.c).1 (List.getElem_mem hi);rw[Bt.eq_2,ct (dt (by omega)),B5 hi,bd (Ki hK a (Jr f)),bd (K8 hK a),Mg hK,List.drop_eq_getElem_cons hi,List.filter_cons];cases CK (AB t (BR t.C)[i]) [] 0 t.Ar with
   |true=>
    rw[ct rfl,if_pos rfl,B5 hi,DG (by simp;omega),Br (by omega) (by omega),CP i,ih m (i+1) _ (by omega) (by omega) (by simp;omega),List.append_assoc];rfl
   |false=>rw[cf rfl,if_neg (by simp),Br (by omega) (by omega),CP i,ih m (i+1) _ (by omega) (by omega) (by omega)]
 have:=b (BR t.C).length K 0 [] (by omega) (by omega) (by simp);rw[Int.natCast_zero,List.drop_zero,List.nil_append] at this;unfold Cq Bf;rw[bd h,bd this]
end
section
variable{K:Nat}(hK:1000≤K)
include hK
theorem J5(l:List Int)(hl:l.length≤1000):Cr K l=some l:=Oi hK l hl
theorem NZ{t:Ah}(h:Ri t):C2 K t=some (DV t):=by
 unfold C2;rw[bd (MN hK t h)]
end
def BY(t:Ah):Int:=if De t≠0 then De t else if Bf t=[] then 9 else 0
theorem C8{t:Ah}(h:BY t=0):De t=0∧Bf t≠[]:=by
 unfold BY at h;split at h
 ·rename_i h1;exact absurd h h1
 rename_i h1
 split at h
 ·cases h
 exact⟨Decidable.byContradiction h1,‹_›⟩
section
variable{K:Nat}(hK:1000≤K)
include hK
theorem L7{t:Ah}(h:Eh t=true):CU K t=some (De t):=by
 unfold CU De;rw[bd (NZ hK (Gn h))]
 by_cases h0:DV t=0
 ·have a:=Eo h h0;have b:By K ⟨t.Ag,t.Ab,t.Ak⟩=some (BR t.C):=Hz hK (c:=t.C) a.c;rw[cf (EW h0),if_neg (by simp[h0]),bd b]
  by_cases h1:BR t.C=[]
  ·rw[ct ((QJ _).2 h1),if_pos h1]
  ·rw[cf (NP h1),if_neg h1]
 ·rw[ct (FX h0),if_pos h0]
theorem QX{t:Ah}(h:Eh t=true):DN K t=some (if BY t=0 then Bf t else [],BY t):=by
 unfold DN;rw[bd (L7 hK h)]
 by_cases h0:De t=0
 ·have a:=Eo h (C5 h0).1;rw[cf (EW h0),bd (JH hK a)]
  by_cases h1:Bf t=[]
  ·have e:BY t=9:=by unfold BY;rw[if_neg (by simp[h0]),if_pos h1]
   rw[ct ((QJ _).2 h1),e,if_neg (by omega)]
  ·have e:BY t=0:=by unfold BY;rw[if_neg (by simp[h0]),if_neg h1]
   rw[cf (NP h1),e,if_pos rfl]
 ·have e:BY t=De t:=by unfold BY;rw[if_pos h0]
  rw[ct (FX h0),e,if_neg h0]
theorem H8{t:Ah}(h:Eh t=true)(c:Bool):
  (BY t=0∧c=true∧∃L m,Tr t L∧EC t m∧Cw K t c=some (some (wk t (L.map (Bq t)) m),0))∨
  (¬(BY t=0∧c=true)∧Cw K t c=some (none,if DV t=0∧c=false then 2 else BY t)):=by
 unfold Cw;rcases KW hK h c with⟨h0,n,L,i,d,e⟩|⟨h0,e⟩
 ·have j:=Eo h (C5 h0).1;rw[bd e];obtain⟨m,hm,g⟩:=Lp hK j (out:=[]) (by simp) i.len (LN t);have o:(L.any fun l=>CK (AB t l) [] 0 t.Ar)=(BR t.C).any fun l=>CK (AB t l) [] 0 t.Ar:=OR hK j i _ (Ma hK j [])
  by_cases h1:Bf t=[]
  ·have f:BY t=9:=by unfold BY;rw[if_neg (by simp[h0]),if_pos h1]
   refine .inr ⟨by rw[f];simp,?_⟩;have k:((BR t.C).any fun l=>CK (AB t l) [] 0 t.Ar)=false:=by
    rw[Bool.eq_false_iff];intro hh;obtain⟨l,hl,hr⟩:=List.any_eq_true.1 hh;have:l∈Bf t:=List.mem_filter.2 ⟨hl,hr⟩;rw[h1] at this;cases this
   show(cond ((0:Int) !=0) (some ((none:Option CZ),(0:Int))) ((CF K (wk t (L.map (Bq t)) []) []).bind _)=_);rw[cf (EW rfl),bd g,o,k,nf,f,n,if_neg (by simp)]
  ·have f:BY t=0:=by unfold BY;rw[if_neg (by simp[h0]),if_neg h1]
   have k:((BR t.C).any fun l=>CK (AB t l) [] 0 t.Ar)=true:=by
    obtain⟨l,hl⟩:=List.exists_mem_of_ne_nil _ h1;obtain⟨a,b⟩:=List.mem_filter.1 hl;exact List.any_eq_true.2 ⟨l,a,b⟩
   refine .inl ⟨f,n,L,m,i,hm,?_⟩;show(cond ((0:Int) !=0) (some ((none:Option CZ),(0:Int))) ((CF K (wk t (L.map (Bq t)) []) []).bind _)=_);rw[cf (EW rfl),bd g,o,k,nt];rfl
 ·rw[bd e];have d:(if DV t=0∧c=false then (2:Int) else De t)≠0:=by
   split
   ·omega
   ·rename_i hh
    intro g;refine h0 ⟨g,?_⟩;cases c with
    |true=>rfl
    |false=>exact absurd ⟨(C5 g).1,rfl⟩ hh
  refine .inr ⟨fun g=>h0 ⟨(C8 g.1).1,g.2⟩,?_⟩;show cond (_ !=0) _ _=_;rw[ct (FX d)]
  congr 2
  split
  ·rfl
  ·rename_i hh
   have:De t≠0:=by rw[if_neg hh] at d;exact d
   unfold BY;rw[if_pos this]
end
theorem Hc:∀a:List Int,lexB a a=false
 |[]=>rfl
 |a::b=>by rw[lexB,if_pos rfl,Hc b]
theorem Nw:∀a b:List Int,lexB a b=true→lexB b a=false
 |[],[],h=>by cases h
 |[],b::c,_=>rfl
 |a::d,[],h=>by cases h
 |a::d,b::c,h=>by
  rw[lexB] at h⊢
  by_cases e:a=b
  ·rw[if_pos e] at h;rw[if_pos e.symm];exact Nw d c h
  ·rw[if_neg e,decide_eq_true_eq] at h;rw[if_neg (Ne.symm e),decide_eq_false_iff_not];omega
section
variable{K:Nat}(hK:1000≤K)
include hK
end
theorem Gk{t:Ah}(a:OkT t){l l':List Int}(h:Bq t l=Bq t l'):AB t l=AB t l':=MP a.kl h
theorem FK{t:Ah}{out:List Int}{L:List (List Int)}{x:BA×BA}:x∈GF t out L↔∃l∈L,CK (AB t l) out 0 t.Ar=true∧x=(Bq t l,arr (AB t l)):=by
 unfold GF;simp only[List.mem_map,List.mem_filter];constructor
 ·rintro⟨l,⟨h1,h2⟩,rfl⟩;exact⟨l,h1,h2,rfl⟩
 ·rintro⟨l,h1,h2,rfl⟩;exact⟨l,⟨h1,h2⟩,rfl⟩
theorem D0{t:Ah}(a:OkT t){l:List Int}:l∈Bf t↔CL t l=true:=by
 unfold Bf CL;rw[List.mem_filter,Gd a.c,Bool.and_eq_true]
section
variable{K:Nat}(hK:1000≤K)
include hK
end
section
variable{K:Nat}(hK:1000≤K)
include hK
theorem Iz{t:Ah}(a:OkT t):(Bf t).length≤150:=Nat.le_trans (List.length_filter_le _ _) (FG a.c)
theorem Je{t:Ah}(a:OkT t){l:List Int}(h:l∈Bf t):Eu t.Ag l=true:=by
 have h1:=(D0 a).1 h;unfold CL at h1;rw[Bool.and_eq_true] at h1;exact Jr h1.1
end
theorem WC{α β a:Type}{z:β}{x y:a}:cond (((([]:List α),z).1.length:Int)==0) x y=x:=rfl
theorem X3(b:Bool):(b !=b)=false:=by cases b<;>rfl
section
variable{K:Nat}(hK:1000≤K)
include hK
theorem QV{l:List Int}(hl:l.length≤900):Dk K l l=some true:=by
 unfold Dk;have h:CX l l K 0=some (cond (l.all fun _=>true) (.inr ()) (.inl false)):=JT l (fun m i=>CX l l m (i:Int)) (fun _=>true) false
  (fun m i hi=>by
   show CX l l (m+1) (i:Int)=_;rw[CX.eq_2,ct (dt (by omega)),B5 hi,B5 hi,cf (EW rfl),Br (by omega) (by omega),CP i,ct rfl])
  (fun m=>by
   show CX l l (m+1) (l.length:Int)=_;rw[CX.eq_2,cf (df (by omega))]) (by omega)
 rw[cf (EW rfl),bd h,show(l.all fun _=>true)=true from List.all_eq_true.2 fun _ _=>rfl];rfl
end
theorem OH{α:Type}(x:List α)(a:Nat):HL x (0:Int) (a:Int)=x.take a:=by unfold HL;simp
def EF(t:Ah)(o:CH):Int:=(t.AJ.getD o.Dh.toNat ⟨0,0⟩).BN
def Hd (t:Ah) (o:CH) (k:Nat):Bool:=decide (o.Df≤(t.Ab.getD k []).sum)&&(Bf t).all fun l=>decide (EF t o≤DZ l (t.Ab.getD k []))
def GB(t:Ah)(o:CH):List Int:=((List.range t.Ab.length).filter (Hd t o)).map fun k:Nat=>(k:Int)
theorem Mb{t:Ah}{o:CH}{x:Int}:x∈GB t o↔∃k:Nat,k<t.Ab.length∧Hd t o k=true∧x=k:=by
 unfold GB;simp only[List.mem_map,List.mem_filter,List.mem_range];constructor
 ·rintro⟨k,⟨h1,h2⟩,rfl⟩;exact⟨k,h1,h2,rfl⟩
 ·rintro⟨k,h1,h2,rfl⟩;exact⟨k,⟨h1,h2⟩,rfl⟩
theorem Q1(t:Ah)(o:CH):(GB t o).Pairwise (· <·):=by
 unfold GB;rw[List.pairwise_map];have h:(List.range t.Ab.length).Pairwise (fun a b:Nat=>a<b):=List.pairwise_lt_range;exact(h.sublist (List.filter_sublist)).imp fun h=>by omega
theorem Pg(t:Ah)(o:CH):(GB t o).length≤t.Ab.length:=by
 unfold GB;rw[List.length_map];exact Nat.le_trans (List.length_filter_le _ _) (by simp)
def DA(t:Ah):List (List Int):=t.Aw.map (GB t)
def Dz:List (List Int)→List Int→List Int→Bool
 |[],_,[]=>true
 |s::S,out,x::xs=>s.contains x&&(!out.contains x&&Dz S (out++[x]) xs)
 |_,_,_=>false
theorem Kj:∀{S:List (List Int)} {out d:List Int},Dz S out d=true→d.length=S.length
 |[],_,[],_=>rfl
 |[],_,_::_,h=>by cases h
 |_::_,_,[],h=>by cases h
 |s::S,out,x::xs,h=>by
  rw[Dz,Bool.and_eq_true,Bool.and_eq_true] at h;rw[List.length_cons,List.length_cons,Kj h.2.2]
theorem PS:∀{S:List (List Int)} {out d:List Int},Dz S out d=true→∀i (h1:i<d.length) (h2:i<S.length),d[i]∈S[i]
 |[],_,[],_,i,h1,_=>by simp at h1
 |[],_,_::_,h,_,_,_=>by cases h
 |_::_,_,[],h,_,_,_=>by cases h
 |s::S,out,x::xs,h,i,h1,h2=>by
  rw[Dz,Bool.and_eq_true,Bool.and_eq_true] at h;cases i with
  |zero=>simpa using h.1
  |succ i=>simpa using PS h.2.2 i (by simpa using h1) (by simpa using h2)
structure Hl (t:Ah) (d:List Int):Prop where
 is:Dz (DA t) [] d=true
 first:∀d',Dz (DA t) [] d'=true→lexB d' d=false
theorem Hl.uniq{t:Ah}{d d':List Int}(h:Hl t d)(g:Hl t d'):d=d':=MX _ _ (g.first d h.is) (h.first d' g.is)
section
variable{K:Nat}(hK:1000≤K)
include hK
theorem PT{t:Ah}(c:OkT t){L:List (List Int)}(j:Tr t L){m:List (List Int×Int)}(hm:EC t m){o:CH}(aB:0≤o.Dh∧o.Dh<t.AJ.length){k:Nat}(hk:k<t.Ab.length):
  ∃e,EC t e∧EY K (wk t (L.map (Bq t)) m) o (k:Int)=some (Hd t o k,e):=by
 have d:=c.kl;have f:k<(wk t (L.map (Bq t)) m).weights.length:=by show k<(List.map _ _).length;simpa using hk
 have v:(wk t (L.map (Bq t)) m).weights[k]'f=(t.Ab.getD k []).sum:=by rw[Cl _ hk];simp[wk]
 unfold EY Hd;rw[B5 f,v]
 by_cases hw:(t.Ab.getD k []).sum<o.Df
 ·exact⟨m,hm,by rw[ct (dt hw),df (by omega),Bool.false_and];rfl⟩
 rw[cf (df hw),dt (by omega),Bool.true_and];obtain⟨g,q⟩:∃g:Nat,o.Dh=g:=⟨o.Dh.toNat,by omega⟩;have i:g<t.AJ.length:=by omega
 have r:EF t o=t.AJ[g].BN:=by unfold EF;rw[q,Int.toNat_natCast,Cl _ i]
 have s:∀l:List Int,DI (wk t (L.map (Bq t)) m) o (k:Int) (Bq t l,arr (AB t l))=some (if EF t o≤DZ l (t.Ab.getD k []) then (true,false) else (false,true)):=fun l=>by
  have h1:idx [(Bq t l).a0,(Bq t l).a1,(Bq t l).a2] (k:Int)=some (DZ l (t.Ab.getD k [])):=by
   have:=HN (l:=t.Ab.map (DZ l)) (by simpa using d) (k:=k) (by simpa using hk);rw[List.getElem_map] at this;rw[Cl _ hk];exact this
  unfold DI;rw[bd h1,q];show(idx t.AJ (g:Int)).bind _=_;rw[B5 i,r]
  by_cases h2:DZ l (t.Ab.getD k [])<t.AJ[g].BN
  ·rw[ct (dt h2),if_neg (by omega)]
  ·rw[cf (df h2),if_pos (by omega)]
 have hr:∃b,run (fun(st:Bool) (x:BA×BA)=>cond st none (DI (wk t (L.map (Bq t)) m) o (k:Int) x)) (GF t [] L) false=some (b, !((GF t [] L).all fun x=>decide (EF t o≤([x.1.a0,x.1.a1,x.1.a2]:List Int).getD k 0))):=by
  have n:∀x∈GF t [] L,DI (wk t (L.map (Bq t)) m) o (k:Int) x=some (if EF t o≤([x.1.a0,x.1.a1,x.1.a2]:List Int).getD k 0 then (true,false) else (false,true)):=fun x p=>by
   obtain⟨l,_,_,rfl⟩:=FK.1 p;rw[s l];have h1:=HN (l:=t.Ab.map (DZ l)) (by simpa using d) (k:=k) (by simpa using hk);rw[idx_eq (show k<([(arr (t.Ab.map (DZ l))).a0,(arr (t.Ab.map (DZ l))).a1,(arr (t.Ab.map (DZ l))).a2]:List Int).length by simp;omega),List.getElem_map] at h1;have h2:([(Bq t l).a0,(Bq t l).a1,(Bq t l).a2]:List Int).getD k 0=DZ l (t.Ab.getD k []):=by
    rw[Cl _ hk,←Option.some.inj h1,Cl _ (show k<([(Bq t l).a0,(Bq t l).a1,(Bq t l).a2]:List Int).length by simp;omega)];rfl
   show some _=some (if EF t o≤([(Bq t l).a0,(Bq t l).a1,(Bq t l).a2]:List Int).getD k 0 then (true,false) else (false,true));rw[h2]
  generalize GF t [] L=X at n
  induction X with
  |nil=>exact⟨true,rfl⟩
  |cons x X ih=>
   obtain⟨b,hb⟩:=ih fun y w=>n y (List.mem_cons_of_mem _ w);rw[run];show∃b,(DI (wk t (L.map (Bq t)) m) o (k:Int) x).bind _=_;rw[bd (n x (List.mem_cons_self ..)),List.all_cons]
   by_cases h1:EF t o≤([x.1.a0,x.1.a1,x.1.a2]:List Int).getD k 0
   ·rw[if_pos h1,dt h1,Bool.true_and];exact⟨b,hb⟩
   ·rw[if_neg h1,df h1,Bool.false_and];exact⟨false,rfl⟩
 obtain⟨b,hr⟩:=hr;obtain⟨e,a,z⟩:=NF hK c (out:=[]) (by simp) _ j.len hm hr;refine⟨e,a,?_⟩;rw[bd z];have aA:((GF t [] L).all fun x=>decide (EF t o≤([x.1.a0,x.1.a1,x.1.a2]:List Int).getD k 0))=(Bf t).all fun l=>decide (EF t o≤DZ l (t.Ab.getD k [])):=by
  have hs:∀l:List Int,([(Bq t l).a0,(Bq t l).a1,(Bq t l).a2]:List Int).getD k 0=DZ l (t.Ab.getD k []):=fun l=>by
   have h1:=HN (l:=t.Ab.map (DZ l)) (by simpa using d) (k:=k) (by simpa using hk);rw[idx_eq (show k<([(arr (t.Ab.map (DZ l))).a0,(arr (t.Ab.map (DZ l))).a1,(arr (t.Ab.map (DZ l))).a2]:List Int).length by simp;omega),List.getElem_map] at h1;rw[Cl _ hk,←Option.some.inj h1,Cl _ (show k<([(Bq t l).a0,(Bq t l).a1,(Bq t l).a2]:List Int).length by simp;omega)];rfl
  rw[Bool.eq_iff_iff,List.all_eq_true,List.all_eq_true];constructor
  ·intro h l hl;have a:=(D0 c).1 hl;unfold CL at a;rw[Bool.and_eq_true] at a;obtain⟨l',h5,u⟩:=j.all l a.1;have:=h (Bq t l',arr (AB t l')) (FK.2 ⟨l',h5,by rw[Gk c u];exact a.2,rfl⟩);rw[←hs l,←u];exact this
  ·intro h x p;obtain⟨l,h1,h2,rfl⟩:=FK.1 p;have:=h l ((D0 c).2 (by unfold CL;rw[j.P8 l h1,h2];rfl));rw[←hs l] at this;exact this
 rw[aA];cases (Bf t).all fun l=>decide (EF t o≤DZ l (t.Ab.getD k []))<;>rfl
theorem OK{t:Ah}(l:OkT t){L:List (List Int)}(w:Tr t L){m:List (List Int×Int)}(hm:EC t m):∃a,EC t a∧E5 K (wk t (L.map (Bq t)) m)=some (DA t,a):=by
 have z:=l.kl;have aA:=l.ol;have aB:((wk t (L.map (Bq t)) m).weights.length:Int)=t.Ab.length:=by show((List.map _ _).length:Int)=_;simp
 have r:(wk t (L.map (Bq t)) m).Bw=t.Aw:=rfl;have s:∀(o:CH),o∈t.Aw→∀(d n i:Nat) (acc:List Int) (b:List (List Int×Int)),t.Ab.length=i+d→d<n→acc.length≤i→EC t b→
   ∃c,EC t c∧Dj K (wk t (L.map (Bq t)) m) o n acc (i:Int) b=some (acc++((List.range' i d).filter (Hd t o)).map (fun k:Nat=>(k:Int)),c):=by
  intro o x d
  induction d with
  |zero=>
   intro n i acc b p hn ha e;obtain⟨n,rfl⟩:∃a,n=a+1:=⟨n-1,by omega⟩;exact⟨b,e,by rw[Dj.eq_2,cf (df (by omega))];simp⟩
  |succ d ih=>
   intro n i acc b p hn ha e;obtain⟨n,rfl⟩:∃a,n=a+1:=⟨n-1,by omega⟩;obtain⟨c,j,g⟩:=PT hK l w e (l.order o x).1 (k:=i) (by omega);rw[Dj.eq_2,ct (dt (by omega)),List.range'_succ,List.filter_cons];show∃h,EC t h∧(EY K (wk t (L.map (Bq t)) b) o (i:Int)).bind _=_;rw[bd g];cases hs:Hd t o i with
   |true=>
    obtain⟨h,f,g3⟩:=ih n (i+1) (acc++[(i:Int)]) c (by omega) (by omega) (by simp;omega) j;refine⟨h,f,?_⟩;rw[ct rfl,DG (by simp;omega),Br (by omega) (by omega),CP i];show Dj K (wk t (L.map (Bq t)) m) o n (acc++[(i:Int)]) ((i+1:Nat):Int) c=_;rw[g3,if_pos rfl,List.map_cons,List.append_assoc];rfl
   |false=>
    obtain⟨h,f,g3⟩:=ih n (i+1) acc c (by omega) (by omega) (by omega) j;refine⟨h,f,?_⟩;rw[cf rfl,Br (by omega) (by omega),CP i];show Dj K (wk t (L.map (Bq t)) m) o n acc ((i+1:Nat):Int) c=_;rw[g3,if_neg (by simp)]
 have q:∀(d n i:Nat) (acc:List (List Int)) (b:List (List Int×Int)),t.Aw.length=i+d→d<n→acc.length≤i→EC t b→
   ∃c,EC t c∧Dw K (wk t (L.map (Bq t)) m) n acc (i:Int) b=some (acc++(t.Aw.drop i).map (GB t),c):=by
  intro d
  induction d with
  |zero=>
   intro n i acc b p hn ha e;obtain⟨n,rfl⟩:∃a,n=a+1:=⟨n-1,by omega⟩;exact⟨b,e,by rw[Dw.eq_2,r,cf (df (by omega)),List.drop_eq_nil_of_le (by omega)];simp⟩
  |succ d ih=>
   intro n i acc b p hn ha e;obtain⟨n,rfl⟩:∃a,n=a+1:=⟨n-1,by omega⟩;have hi:i<t.Aw.length:=by omega
   obtain⟨c,j,g2⟩:=s _ (List.getElem_mem hi) t.Ab.length K 0 [] b (by omega) (by omega) (by simp) e;obtain⟨h,f,g3⟩:=ih n (i+1) (acc++[GB t t.Aw[i]]) c (by omega) (by omega) (by simp;omega) j;refine⟨h,f,?_⟩;rw[Int.natCast_zero,List.nil_append,←List.range_eq_range'] at g2;rw[Dw.eq_2,r,ct (dt (by omega)),B5 hi,bd g2,DG (by simp;omega),Br (by omega) (by omega),CP i];have u:Dw K (wk t (L.map (Bq t)) m) n (acc++[GB t t.Aw[i]]) ((i+1:Nat):Int) c=_:=g3;rw[List.drop_eq_getElem_cons hi,List.map_cons];refine u.trans ?_;rw[List.append_assoc];rfl
 obtain⟨a,v,g⟩:=q t.Aw.length K 0 [] m (by omega) (by omega) (by simp) hm;refine⟨a,v,?_⟩;unfold E5;rw[Int.natCast_zero,List.nil_append,List.drop_zero] at g;have y:Dw K (wk t (L.map (Bq t)) m) K [] 0 (wk t (L.map (Bq t)) m).known=some (DA t,a):=g;rw[bd y]
def PU (S:List (List Int)) (out:List Int) (r:Bool×List Int):Prop:=
 (r.1=true∧∃e,r.2=out++e∧Dz S out e=true∧∀a,Dz S out a=true→lexB a e=false)∨(r.1=false∧r.2=out∧∀a,Dz S out a=false)
theorem PV(S:List (List Int))(t:S.length≤100)(i:Nat)(hi:i<S.length)(hs:S[i].Pairwise (· <·))(hl:S[i].length≤100)(out:List Int)(u:out.length=i)(c:Int→List (List Int)→List Int→Option (Bool×List Int))
  (ih:∀x,∃r,c ((i+1:Nat):Int) S (out++[x])=some r∧PU (S.drop (i+1)) (out++[x]) r):
  ∀(d m j:Nat),S[i].length=j+d→d<m→(∀x∈S[i].take j,∀a,out.contains x=true∨Dz (S.drop (i+1)) (out++[x]) a=false)→
   ∃r,(Gg c K (i:Int) S S[i] m (j:Int) out).bind (fun z=>Sum.elim (fun q=>some (q.1,q.2)) (fun q=>some (false,q)) z)=some r∧PU (S.drop i) out r
 |d,0,j,h,hm,_=>by omega
 |0,m+1,j,h,hm,l=>by
  rw[Gg.eq_2,cf (df (by omega))];refine⟨(false,out),rfl,.inr ⟨rfl,rfl,fun a=>?_⟩⟩;rw[List.drop_eq_getElem_cons hi];cases a with
  |nil=>rfl
  |cons x xs=>
   rw[Dz,Bool.eq_false_iff];intro hh;rw[Bool.and_eq_true,Bool.and_eq_true] at hh;rw[List.take_of_length_le (by omega)] at l;rcases l x (by simpa using hh.1) xs with h1|h1
   ·rw[h1] at hh;exact absurd hh.2.1 (by decide)
   ·rw[h1] at hh;exact absurd hh.2.2 (by decide)
 |d+1,m+1,j,h,hm,l=>by
  have hj:j<S[i].length:=by omega
  have next:(∀a,out.contains S[i][j]=true∨Dz (S.drop (i+1)) (out++[S[i][j]]) a=false)→∀x∈S[i].take (j+1),∀a,out.contains x=true∨Dz (S.drop (i+1)) (out++[x]) a=false:=fun hn x k a=>by
   rw[List.take_succ_eq_append_getElem hj] at k;rcases List.mem_append.1 k with k|k
   ·exact l x k a
   ·rw[List.mem_singleton.1 k];exact hn a
  rw[Gg.eq_2,ct (dt (by omega)),B5 hj,bd (KH hK out _ (by omega))];cases v:out.contains S[i][j] with
  |true=>
   rw[ct rfl,Br (by omega) (by omega),CP j];exact PV S t i hi hs hl out u c ih d m (j+1) (by omega) (by omega) (next fun _=>.inl v)
  |false=>
   obtain⟨r,hr,w⟩:=ih S[i][j];rw[cf rfl,DG (by simp;omega),Br (by omega) (by omega),CP i,bd hr];rcases w with⟨h1,e,h2,o,y⟩|⟨h1,h2,o⟩
   ·obtain⟨p,s⟩:=r;obtain rfl:p=true:=h1;obtain rfl:s=out++[S[i][j]]++e:=h2;refine⟨(true,out++[S[i][j]]++e),rfl,.inl ⟨rfl,S[i][j]::e,by simp,?_,fun a b=>?_⟩⟩
    ·rw[List.drop_eq_getElem_cons hi,Dz,o,v];simp
    ·rw[List.drop_eq_getElem_cons hi] at b;cases a with
     |nil=>cases b
     |cons x xs=>
      rw[Dz,Bool.and_eq_true,Bool.and_eq_true] at b;have k:x∈S[i]:=by simpa using b.1
      rw[lexB]
      by_cases n:x=S[i][j]
      ·subst n;rw[if_pos rfl];exact y xs b.2.2
      ·rw[if_neg n];refine df fun aA=>?_;obtain⟨q,hq,rfl⟩:=List.getElem_of_mem k;rcases Nat.lt_or_ge q j with f|f
       ·rcases l S[i][q] (List.mem_take_iff_getElem.2 ⟨q,by omega,rfl⟩) xs with g|g
        ·rw[g] at b;exact absurd b.2.1 (by decide)
        ·rw[g] at b;exact absurd b.2.2 (by decide)
       ·rcases Nat.lt_or_eq_of_le f with f|f
        ·have:=(List.pairwise_iff_getElem.1 hs) j q hj hq f;omega
        ·subst f;exact n rfl
   ·obtain⟨p,s⟩:=r;obtain rfl:p=false:=h1;obtain rfl:s=out++[S[i][j]]:=h2;rw[cf rfl];show∃r,((Ph (out++[S[i][j]]).length (0:Int) (i:Int)).bind fun _=>(i64 ((j:Int)+1)).bind fun _=>Gg c K (i:Int) S S[i] m ((j:Int)+1) (HL (out++[S[i][j]]) (0:Int) (i:Int))).bind _=some r∧_;rw[Rl (by simp;omega),Br (by omega) (by omega),CP j,OH,List.take_append_of_le_length (by omega),List.take_of_length_le (by omega)];exact PV S t i hi hs hl out u c ih d m (j+1) (by omega) (by omega) (next fun a=>.inr (o a))
theorem Tk(S:List (List Int))(b:S.length≤100)(hs:∀s∈S,s.Pairwise (· <·)∧s.length≤100):∀(d k i:Nat) (out:List Int),S.length=i+d→d<k→out.length=i→∃r,Hn K k (i:Int) S out=some r∧PU (S.drop i) out r
 |d,0,i,out,h,hk,_=>by omega
 |0,k+1,i,out,h,hk,c=>by
  rw[Hn.eq_2,ct (F9 (by omega)),List.drop_eq_nil_of_le (by omega)];refine⟨_,rfl,.inl ⟨rfl,[],by simp,rfl,fun f e=>?_⟩⟩;cases f with
  |nil=>rfl
  |cons x xs=>cases e
 |d+1,k+1,i,out,h,hk,c=>by
  have hi:i<S.length:=by omega
  have a:=hs _ (List.getElem_mem hi);rw[Hn.eq_2,cf (IU (by omega)),B5 hi];have:=PV hK S b i hi a.1 a.2 out c (Hn K k) (fun x=>Tk S b hs d k (i+1) (out++[x]) (by omega) (by omega) (by simp;omega)) S[i].length K 0 (by omega) (by omega) (by simp);rw[Int.natCast_zero] at this;exact this
theorem Yj{t:Ah}(h:Eh t=true):∃x e,J2 K t=some (x,e)∧(BY t≠0→x=[]∧e=BY t)∧(BY t=0→(e=0∧Hl t x∨e=10∧x=[]∧∀d,Dz (DA t) [] d=false)):=by
 unfold J2;rcases H8 hK h true with⟨h0,_,L,m,f,hm,e⟩|⟨h0,e⟩
 ·have b:=Eo h (C5 (C8 h0).1).1;have j:=b.kl;have k:=b.ol;obtain⟨n,l,g1⟩:=OK hK b f hm;obtain⟨r,g2,g3⟩:=Tk hK (DA t) (by unfold DA;simp;omega) (fun s hs=>by
   obtain⟨o,_,rfl⟩:=List.mem_map.1 hs;have:=Pg t o;exact⟨Q1 t o,by omega⟩) (DA t).length K 0 [] (by omega) (by unfold DA;simp;omega) rfl
  rw[Int.natCast_zero] at g2;rw[bd e];show∃x e,(E5 K (wk t (L.map (Bq t)) m)).bind _=_∧_;rw[bd g1,bd g2];rcases g3 with⟨h1,x,h2,c,i⟩|⟨h1,h2,c⟩
  ·refine⟨x,0,?_,fun g=>absurd h0 g,fun _=>.inl ⟨rfl,c,i⟩⟩;rw[h1,nt,h2];rfl
  ·refine⟨[],10,?_,fun g=>absurd h0 g,fun _=>.inr ⟨rfl,rfl,c⟩⟩;rw[h1,nf]
 ·have a:BY t≠0:=fun g=>h0 ⟨g,rfl⟩;refine⟨[],BY t,?_,fun _=>⟨rfl,rfl⟩,fun g=>absurd g a⟩;rw[if_neg (by simp)] at e;rw[bd e];show cond (_ !=0) _ _=_;rw[ct (FX a)]
end
theorem Fj(t:Ah):(DA t).length=t.Aw.length:=List.length_map ..
theorem K0{t:Ah}{i:Nat}(hi:i<t.Aw.length):(DA t)[i]'(by rw[Fj];exact hi)=GB t t.Aw[i]:=by simp[DA]
theorem Re{t:Ah}{o:CH}{x:Int}:(GB t o).contains x=(DK x 0 ((t.Ab.length:Int)-1)&&Hd t o x.toNat):=by
 rw[Bool.eq_iff_iff,List.contains_iff_mem,Mb,Bool.and_eq_true,Ei];constructor
 ·rintro⟨k,h1,h2,rfl⟩;exact⟨by omega,by rw[Int.toNat_natCast];exact h2⟩
 ·rintro⟨h1,h2⟩;exact⟨x.toNat,by omega,h2,by omega⟩
def O8 (c:Nat):Nat→Nat→List Int
 |0,_=>[]
 |k+1,n=>O8 c k (n/c)++[((n%c:Nat):Int)]
theorem Yk(c:Nat):∀k n,(O8 c k n).length=k
 |0,_=>rfl
 |k+1,n=>by rw[O8,List.length_append,Yk c k];rfl
theorem AbW:∀c,c<4→∀k,k<4→∀a,a<c^k→∀b,b<a→lexB (O8 c k b) (O8 c k a)=true:=by decide+kernel
theorem AbX:∀c,c<4→∀x,x<c→∃n,n<c^1∧O8 c 1 n=[(x:Int)]:=by decide+kernel
theorem AbY:∀c,c<4→∀x,x<c→∀y,y<c→∃n,n<c^2∧O8 c 2 n=[(x:Int),(y:Int)]:=by decide+kernel
theorem AbZ:∀c,c<4→∀x,x<c→∀y,y<c→∀z,z<c→∃n,n<c^3∧O8 c 3 n=[(x:Int),(y:Int),(z:Int)]:=by decide+kernel
theorem Aek{c k:Nat}(a:c<4)(hk:k<4){d:List Int}(hl:d.length=k)(h:∀x∈d,0≤x∧x<(c:Int)):∃n,n<c^k∧O8 c k n=d:=by
 match d,hl with
 |[],rfl=>exact⟨0,by simp,rfl⟩
 |[x],rfl=>
  have h1:=h x (by simp);obtain⟨n,hn,e⟩:=AbX c a x.toNat (by omega);refine⟨n,hn,?_⟩;rw[Int.toNat_of_nonneg (by omega)] at e;exact e
 |[x,y],rfl=>
  have h1:=h x (by simp);have h2:=h y (by simp);obtain⟨n,hn,e⟩:=AbY c a x.toNat (by omega) y.toNat (by omega);refine⟨n,hn,?_⟩;rw[Int.toNat_of_nonneg (by omega),Int.toNat_of_nonneg (by omega)] at e;exact e
 |[x,y,z],rfl=>
  have h1:=h x (by simp);have h2:=h y (by simp);have b:=h z (by simp);obtain⟨n,hn,e⟩:=AbZ c a x.toNat (by omega) y.toNat (by omega) z.toNat (by omega);refine⟨n,hn,?_⟩;rw[Int.toNat_of_nonneg (by omega),Int.toNat_of_nonneg (by omega),Int.toNat_of_nonneg (by omega)] at e;exact e
 |_::_::_::_::_,rfl=>simp at hk;omega
theorem AaJ{t:Ah}{d:List Int}(h:Dz (DA t) [] d=true):∀x∈d,0≤x∧x<(t.Ab.length:Int):=fun x a=>by
 obtain⟨i,hi,rfl⟩:=List.getElem_of_mem a;have hl:=Kj h;rw[Fj] at hl;have:=PS h i hi (by rw[Fj];omega);rw[K0 (by omega)] at this;obtain⟨k,hk,_,e⟩:=Mb.1 this;omega
section
variable{K:Nat}(hK:1000≤K)
include hK
theorem Us(t:Ah)(hl:t.Ab.length≤100)(x:Int):GO K t x=some (DK x 0 ((t.Ab.length:Int)-1)):=by
 unfold GO;rw[Br (by omega) (by omega),bd (I7 ..)]
theorem RK{t:Ah}(a:OkT t){L:List (List Int)}(f:Tr t L)(j:List (List Int×Int))(d:List Int)(u:d.length=t.Aw.length):∀(e n i:Nat) (m:List (List Int×Int)),d.length=i+e→e<n→EC t m→
  ∃l,(ER K t d (wk t (L.map (Bq t)) j) n (i:Int) m).bind (fun z=>Sum.elim (fun q=>some q.1) (fun _=>some true) z)=some (Dz ((DA t).drop i) (d.take i) (d.drop i))∧EC t l
 |e,0,i,m,h,hn,_=>by omega
 |0,n+1,i,m,h,hn,hm=>by
  refine⟨m,?_,hm⟩;rw[ER.eq_2,cf (df (by omega)),List.drop_eq_nil_of_le (by rw[Fj];omega),List.drop_eq_nil_of_le (by omega)];rfl
 |e+1,n+1,i,m,h,hn,hm=>by
  have hi:i<d.length:=by omega
  have b:i<t.Aw.length:=by omega
  have o:i<(DA t).length:=by rw[Fj];omega
  have w:=a.kl;have y:=a.ol;rw[ER.eq_2,ct (dt (by omega)),B5 hi,bd (Us hK t (by omega) _),List.drop_eq_getElem_cons o,List.drop_eq_getElem_cons hi,K0 b,Dz,Re];cases hr:DK d[i] 0 ((t.Ab.length:Int)-1) with
  |false=>exact⟨m,by rw[nf];rfl,hm⟩
  |true=>
   have aA:=Ei.1 hr;obtain⟨x,p⟩:∃x:Nat,d[i]=(x:Int):=⟨d[i].toNat,by omega⟩;rw[nt,Rl (by omega),OH,bd (KH hK _ _ (by simp;omega))];cases aB:(d.take i).contains d[i] with
   |true=>exact⟨m,by rw[ct rfl,Bool.not_true,Bool.false_and,Bool.and_false];rfl,hm⟩
   |false=>
    obtain⟨r,c,g⟩:=PT hK a f hm (a.order _ (List.getElem_mem b)).1 (k:=x) (by omega);rw[cf rfl,B5 b];show∃l,((EY K (wk t (L.map (Bq t)) m) t.Aw[i] d[i]).bind _).bind _=_∧_;rw[p,bd g,Int.toNat_natCast];cases Hd t t.Aw[i] x with
    |false=>exact⟨r,by rw[nf,Bool.and_false,Bool.false_and];rfl,c⟩
    |true=>
     obtain⟨v,g2,s⟩:=RK a f j d u e n (i+1) r (by omega) (by omega) c;refine⟨v,?_,s⟩;rw[nt,Br (by omega) (by omega),CP i,g2,List.take_succ_eq_append_getElem hi,p];simp
theorem OU{t:Ah}(h:Eh t=true){d:List Int}(i:d.length≤900):Gh K t d=some (decide (BY t=0)&&Dz (DA t) [] d):=by
 unfold Gh;rcases H8 hK h true with⟨h0,_,L,m,c,hm,e⟩|⟨h0,e⟩
 ·have b:=Eo h (C5 (C8 h0).1).1;rw[bd e,dt h0,Bool.true_and];show cond ((d.length:Int) !=(t.Aw.length:Int)) _ _=_
  by_cases hl:d.length=t.Aw.length
  ·have f:=b.ol;obtain⟨j,g,_⟩:=RK hK b c m d hl d.length K 0 m (by omega) (by omega) hm;rw[Int.natCast_zero,List.drop_zero,List.drop_zero,List.take_zero] at g;rw[cf (EW (by omega))];exact g
  ·rw[ct (FX (by omega))]
   congr 1
   cases hb:Dz (DA t) [] d with
   |false=>rfl
   |true=>have:=Kj hb;rw[Fj] at this;exact absurd this hl
 ·have a:BY t≠0:=fun g=>h0 ⟨g,rfl⟩;rw[if_neg (by simp)] at e;rw[bd e,df a,Bool.false_and];show cond (_ !=0) _ _=_;rw[ct (FX a)]
theorem Ut{t:Ah}(a:OkT t){i k:Nat}(hi:i<t.Aw.length)(hk:k<t.Ab.length):Gy K t (Bf t) (i:Int) (k:Int)=some (Hd t t.Aw[i] k):=by
 have o:=Iz hK a;have p:=(a.order _ (List.getElem_mem hi)).1;obtain⟨g,e⟩:∃g:Nat,t.Aw[i].Dh=g:=⟨t.Aw[i].Dh.toNat,by omega⟩;have d:g<t.AJ.length:=by omega
 have f:EF t t.Aw[i]=t.AJ[g].BN:=by unfold EF;rw[e,Int.toNat_natCast,Cl _ d]
 unfold Gy;rw[B5 hi];have hl:Dv K t (Bf t) (k:Int) t.Aw[i] K 0=some (cond ((Bf t).all fun l=>decide (EF t t.Aw[i]≤DZ l (t.Ab.getD k []))) (.inr ()) (.inl false)):=
  JT (Bf t) (fun m j=>Dv K t (Bf t) (k:Int) t.Aw[i] m (j:Int)) (fun l=>decide (EF t t.Aw[i]≤DZ l (t.Ab.getD k []))) false
   (fun m j hj=>by
    show Dv K t (Bf t) (k:Int) t.Aw[i] (m+1) (j:Int)=_;have n:=Je hK a (List.getElem_mem hj);have b:DM K (Bf t)[j] t.Ab[k]=some (DZ (Bf t)[j] t.Ab[k]):=KV hK (c:=t.C) a.c n hk;rw[Dv.eq_2,ct (dt (by omega)),B5 hj,B5 hk,bd b,e,B5 d,f,Cl _ hk]
    by_cases h:DZ (Bf t)[j] t.Ab[k]<t.AJ[g].BN
    ·rw[ct (dt h),df (by omega),cf rfl]
    ·rw[cf (df h),dt (by omega),Br (by omega) (by omega),CP j,ct rfl])
   (fun m=>by
    show Dv K t (Bf t) (k:Int) t.Aw[i] (m+1) ((Bf t).length:Int)=_;rw[Dv.eq_2,cf (df (by omega))]) (by omega)
 rw[bd hl];unfold Hd;cases (Bf t).all fun l=>decide (EF t t.Aw[i]≤DZ l (t.Ab.getD k [])) with
 |false=>rw[cf rfl,Bool.and_false];rfl
 |true=>
  rw[ct rfl,Bool.and_true];show(Ef K t (k:Int)).bind _=_;rw[bd (MW hK a hk),Cl _ hk]
theorem Zt{t:Ah}(a:OkT t)(d:List Int)(o:d.length=t.Aw.length):∀(e n i:Nat),d.length=i+e→e<n→
  (GX K t (Bf t) d n (i:Int)).bind (fun z=>Sum.elim (fun q=>some q) (fun _=>some true) z)=some (Dz ((DA t).drop i) (d.take i) (d.drop i))
 |e,0,i,h,hn=>by omega
 |0,n+1,i,h,hn=>by
  rw[GX.eq_2,cf (df (by omega)),List.drop_eq_nil_of_le (by rw[Fj];omega),List.drop_eq_nil_of_le (by omega)];rfl
 |e+1,n+1,i,h,hn=>by
  have hi:i<d.length:=by omega
  have b:i<t.Aw.length:=by omega
  have f:i<(DA t).length:=by rw[Fj];omega
  have u:=a.kl;have v:=a.ol;rw[GX.eq_2,ct (dt (by omega)),B5 hi,Br (by omega) (by omega),bd (Hs ..),List.drop_eq_getElem_cons f,List.drop_eq_getElem_cons hi,K0 b,Dz,Re];cases hr:DK d[i] 0 ((t.Ab.length:Int)-1) with
  |false=>rw[nf];rfl
  |true=>
   have w:=Ei.1 hr;obtain⟨x,c⟩:∃x:Nat,d[i]=(x:Int):=⟨d[i].toNat,by omega⟩;rw[nt,B5 hi,c,bd (Ut hK a b (k:=x) (by omega)),Int.toNat_natCast];cases Hd t t.Aw[i] x with
   |false=>rw[nf,Bool.and_false,Bool.false_and];rfl
   |true=>
    have hl:EX d (i:Int) K 0=some (cond ((d.take i).all fun y=> !(y==d[i])) (.inr ()) (.inl false)):=by
     have aA:(d.take i).length=i:=by simp;omega
     have:=JT (d.take i) (fun m j=>EX d (i:Int) m (j:Int)) (fun y=> !(y==d[i])) false
      (fun m j hj=>by
       show EX d (i:Int) (m+1) (j:Int)=_;have g:j<d.length:=by omega
       rw[EX.eq_2,ct (dt (by omega)),B5 g,B5 hi,List.getElem_take];cases d[j]==d[i] with
       |true=>rw[ct rfl,nt]
       |false=>rw[cf rfl,nf,Br (by omega) (by omega),CP j])
      (fun m=>by
       show EX d (i:Int) (m+1) (((d.take i).length:Nat):Int)=_;rw[EX.eq_2,cf (df (by omega))]) (k:=K) (by omega)
     exact this
    have p:((d.take i).all fun y=> !(y==d[i]))= !(d.take i).contains d[i]:=by
     rw[Bool.eq_iff_iff,List.all_eq_true,Bool.not_eq_true'];constructor
     ·intro h1;rw[Bool.eq_false_iff];intro h2;have:=h1 _ (List.contains_iff_mem.1 h2);simp at this
     ·intro h1 y r;rw[Bool.not_eq_true',Bool.eq_false_iff];intro h2;rw[beq_iff_eq] at h2;subst h2;rw[List.contains_iff_mem.2 r] at h1;cases h1
    rw[nt,bd hl,p];have l:d.take (i+1)=d.take i++[(x:Int)]:=by rw[List.take_succ_eq_append_getElem hi,c]
    rw[c] at*;cases aB:(d.take i).contains (x:Int) with
    |true=>rw[nt];rfl
    |false=>
     have s:∀(F:Unit→Option (Bool⊕Unit)) (G:Bool→Option (Bool⊕Unit)),Sum.elim G F (Sum.inr ())=F ():=fun _ _=>rfl;rw[nf,s,Br (by omega) (by omega),CP i,Zt a d o e n (i+1) (by omega) (by omega),l];simp
theorem Tl{t:Ah}(a:OkT t){d:List Int}(c:d.length≤900):Ix K t (Bf t) d=some (Dz (DA t) [] d):=by
 unfold Ix
 by_cases hl:d.length=t.Aw.length
 ·have b:=a.ol;have g:=Zt hK a d hl d.length K 0 (by omega) (by omega);rw[Int.natCast_zero,List.drop_zero,List.drop_zero,List.take_zero] at g;rw[cf (EW (by omega))];exact g
 ·rw[ct (FX (by omega))]
  congr 1
  cases hb:Dz (DA t) [] d with
  |false=>rfl
  |true=>have:=Kj hb;rw[Fj] at this;exact absurd this hl
theorem Yl{t:Ah}(b:OkT t)(c:0<t.Ab.length):∀(k n m:Nat) (out:List Int),k≤out.length→out.length≤100→k<m→n≤1000→
  GJ t m (n:Int) ((k:Int)-1) out=some (O8 t.Ab.length k n++out.drop k)
 |k,n,0,out,_,_,h,_=>by omega
 |0,n,m+1,out,_,_,h,_=>by
  rw[GJ.eq_2,cf (df (by omega))];rfl
 |k+1,n,m+1,out,hk,hl,h,hn=>by
  have g:=b.kl;have d:((k+1:Nat):Int)-1=(k:Int):=by omega
  have e:(n:Int)/(t.Ab.length:Int)=((n/t.Ab.length:Nat):Int):=by omega
  have f:(n:Int)%(t.Ab.length:Int)=((n%t.Ab.length:Nat):Int):=by omega
  have hle:n/t.Ab.length≤n:=Nat.div_le_self _ _;have a:k<out.length:=by omega
  have i:(0:Int)≤((n/t.Ab.length:Nat):Int):=Int.natCast_nonneg _;have j:((n/t.Ab.length:Nat):Int)≤1000:=Int.ofNat_le.2 (Nat.le_trans hle hn);rw[GJ.eq_2,d,ct (dt (by omega)),LF (by omega) (by omega),Vw (by omega) (by omega),e,f,Br (by omega) (by omega),B5 a,Br (by omega) (by omega),Int.toNat_natCast,Yl b c k _ m _ (by simp;omega) (by simp;omega) (by omega) (by omega),O8,List.append_assoc]
  congr 2
  rw[List.drop_eq_getElem_cons (by simpa using a),List.getElem_set_self,List.drop_set_of_lt (by omega)];rfl
theorem Zu{t:Ah}(a:OkT t):∀(d m i:Nat),t.Aw.length=i+d→d<m→HB t m ((t.Ab.length^i:Nat):Int) (i:Int)=some ((t.Ab.length^t.Aw.length:Nat):Int)
 |d,0,i,h,hm=>by omega
 |0,m+1,i,h,hm=>by
  obtain rfl:i=t.Aw.length:=by omega
  rw[HB.eq_2,cf (df (by omega))]
 |d+1,m+1,i,h,hm=>by
  have b:=a.kl;have c:=a.ol;have g:t.Ab.length^(i+1)≤3^(i+1):=Nat.pow_le_pow_left b _;have f:3^(i+1)≤3^3:=Nat.pow_le_pow_right (by omega) (by omega);have e:((t.Ab.length^i:Nat):Int)*(t.Ab.length:Int)=((t.Ab.length^(i+1):Nat):Int):=by rw[Nat.pow_succ,Int.natCast_mul]
  rw[HB.eq_2,ct (dt (by omega)),e,Br (by omega) (by omega),Br (by omega) (by omega),CP i,Zu a d m (i+1) (by omega) (by omega)]
theorem Ael{t:Ah}(f:OkT t):∃x b,LM K t (Bf t)=some (x,b)∧(b=true∧Hl t x∨b=false∧x=[]∧∀d,Dz (DA t) [] d=false):=by
 have p:=f.kl;have v:=f.ol;have y:t.Ab.length^t.Aw.length≤3^t.Aw.length:=Nat.pow_le_pow_left p _;have w:3^t.Aw.length≤3^3:=Nat.pow_le_pow_right (by omega) (by omega);have ON:∀d,Dz (DA t) [] d=true→∃n,n<t.Ab.length^t.Aw.length∧O8 t.Ab.length t.Aw.length n=d:=fun d a=>by
  have hl:=Kj a;rw[Fj] at hl;exact Aek (by omega) (by omega) hl (AaJ a)
 have k:∀(d m i:Nat),t.Ab.length^t.Aw.length=i+d→d<m→(∀j,j<i→Dz (DA t) [] (O8 t.Ab.length t.Aw.length j)=false)→
   ∃x b,(Iy K t (Bf t) ((t.Ab.length^t.Aw.length:Nat):Int) m (i:Int)).bind (fun z=>Sum.elim (fun q=>some (q.1,q.2)) (fun _=>some (([]:List Int),false)) z)=some (x,b)∧(b=true∧Hl t x∨b=false∧x=[]∧∀d,Dz (DA t) [] d=false):=by
  intro d
  induction d with
  |zero=>
   intro m i h hm c;obtain⟨m,rfl⟩:∃l,m=l+1:=⟨m-1,by omega⟩;refine⟨[],false,?_,.inr ⟨rfl,rfl,fun d=>?_⟩⟩
   ·rw[Iy.eq_2,cf (df (by omega))];rfl
   ·rw[Bool.eq_false_iff];intro a;obtain⟨n,hn,rfl⟩:=ON d a;rw[c n (by omega)] at a;cases a
  |succ d ih=>
   intro m i h hm c;obtain⟨m,rfl⟩:∃l,m=l+1:=⟨m-1,by omega⟩;have o:GJ t K (i:Int) (((List.replicate ((t.Aw.length:Int)).toNat (0:Int)).length:Int)-1) (List.replicate ((t.Aw.length:Int)).toNat (0:Int))=some (O8 t.Ab.length t.Aw.length i):=by
    have e:((List.replicate ((t.Aw.length:Int)).toNat (0:Int)).length:Int)=(t.Aw.length:Int):=by simp
    rw[e]
    by_cases h0:t.Aw.length=0
    ·obtain⟨r,rfl⟩:∃r,K=r+1:=⟨K-1,by omega⟩;rw[h0,GJ.eq_2,cf (df (by omega))];rfl
    ·have u:0<t.Ab.length:=by
      rcases Nat.eq_zero_or_pos t.Ab.length with e|e
      ·rw[e,Nat.zero_pow (by omega)] at h;omega
      ·exact e
     rw[Yl hK f u t.Aw.length i K _ (by simp) (by simp;omega) (by omega) (by omega),List.drop_eq_nil_of_le (by simp),List.append_nil]
   have hlen:=Yk t.Ab.length t.Aw.length i;rw[Iy.eq_2,ct (dt (by omega)),mkb (by omega) (by omega) (by omega),Br (by simp;omega) (by simp;omega),bd o,bd (Tl hK f (by omega))];cases a:Dz (DA t) [] (O8 t.Ab.length t.Aw.length i) with
   |true=>
    refine⟨_,true,rfl,.inl ⟨rfl,a,fun d' g=>?_⟩⟩;obtain⟨n,hn,rfl⟩:=ON d' g;rcases Nat.lt_trichotomy n i with h1|h1|h1
    ·rw[c n h1] at g;cases g
    ·subst h1;exact Hc _
    ·exact Nw _ _ (AbW _ (by omega) _ (by omega) n hn i h1)
   |false=>
    rw[cf rfl,Br (by omega) (by omega),CP i];exact ih m (i+1) (by omega) (by omega) fun j hj=>by
     rcases Nat.lt_or_eq_of_le (Nat.le_of_lt_succ hj) with h1|h1
     ·exact c j h1
     ·subst h1;exact a
 have h2:=Zu hK f t.Aw.length K 0 (by omega) (by omega);obtain⟨x,b,g1,g2⟩:=k (t.Ab.length^t.Aw.length) K 0 (by omega) (by omega) (fun j hj=>by omega);refine⟨x,b,?_,g2⟩;unfold LM;rw[Nat.pow_zero] at h2;have s:HB t K 1 0=_:=h2;rw[bd s];exact g1
end
end Go.Proofs.YtbhofkcbfblijaaGreat
end
section
namespace Go.Proofs.YtbhofkcbfblijaaGreat
namespace HF
theorem Li(b o:Nat)(w:World):(Instr.fieldAt 44 (.pointer (some ⟨b,o,none⟩)) 0).run Tryz.prog w=.ok (.pointer (some ⟨b,o,none⟩)) w:=by kernel_rfl
theorem Lj(b o:Nat)(w:World):(Instr.fieldAt 44 (.pointer (some ⟨b,o,none⟩)) 1).run Tryz.prog w=.ok (.pointer (some ⟨b,o+1,none⟩)) w:=by kernel_rfl
theorem Jw:Bg Tryz.prog 31:=by unfold Bg;kernel_rfl
theorem GV(b:Nat)(w:World):(Instr.fieldAt 44 (.pointer (some ⟨b,2,none⟩)) 0).run Tryz.prog w=.ok (.pointer (some ⟨b,2,none⟩)) w:=by kernel_rfl
theorem GW(b:Nat)(w:World):(Instr.fieldAt 44 (.pointer (some ⟨b,2,none⟩)) 1).run Tryz.prog w=.ok (.pointer (some ⟨b,3,none⟩)) w:=by kernel_rfl
theorem Mw:Bg Tryz.prog 77:=by unfold Bg;kernel_rfl
theorem Lk:Bg Tryz.prog 146:=by unfold Bg;kernel_rfl
theorem Ll:Bg Tryz.prog 100:=by unfold Bg;kernel_rfl
theorem Lm:Bg Tryz.prog 114:=by unfold Bg;kernel_rfl
theorem LK:Bg Tryz.prog 61:=by unfold Bg;kernel_rfl
theorem Kw:Bg Tryz.prog 28:=by unfold Bg;kernel_rfl
theorem Wf:GL Tryz.prog 126 2:=by unfold GL;exact⟨by kernel_rfl,by kernel_rfl⟩
theorem Uu:(Tryz.prog.info? 126).bind (·.zero)=some (.agg #[I 0,I 0]):=by kernel_rfl
theorem Uv(b:Nat)(w:World):(Instr.fieldAt 126 (.pointer (some ⟨b,0,none⟩)) 0).run Tryz.prog w=.ok (.pointer (some ⟨b,0,none⟩)) w:=by kernel_rfl
theorem Uw(b:Nat)(w:World):(Instr.fieldAt 126 (.pointer (some ⟨b,0,none⟩)) 1).run Tryz.prog w=.ok (.pointer (some ⟨b,1,none⟩)) w:=by kernel_rfl
theorem Wg:Bg Tryz.prog 123:=by unfold Bg;kernel_rfl
theorem AaK:Bg Tryz.prog 83:=by unfold Bg;kernel_rfl
theorem OT:Bg Tryz.prog 65:=by unfold Bg;kernel_rfl
theorem PB:Bg Tryz.prog 44:=by unfold Bg;kernel_rfl
theorem Nv:Bg Tryz.prog 53:=by unfold Bg;kernel_rfl
theorem J6:Bg Tryz.prog 51:=by unfold Bg;kernel_rfl
theorem Py:∀(b c:Bool) (w:World),(Op.equal 4 (.bool b) (.bool c)).run Tryz.prog w=.ok (b==c) w:=by intro b c w;cases b<;>cases c<;>kernel_rfl
theorem QZ:Bg Tryz.prog 39:=by unfold Bg;kernel_rfl
theorem Tm:Bg Tryz.prog 82:=by unfold Bg;kernel_rfl
theorem Aff:Bg Tryz.prog 84:=by unfold Bg;kernel_rfl
end HF
end Go.Proofs.YtbhofkcbfblijaaGreat
end
section
namespace Go.Proofs.YtbhofkcbfblijaaGreat
open Go.RowKit Go.WideShapes
set_option maxRecDepth 20000
open HF
attribute [local irreducible] Dm WL CC CW LV B7 Ih GL One Bg
set_option maxHeartbeats 4000000 in
theorem a82 cM i aJ p q r s t u y z m n aA aB aF aG(Z:Nat→Prop) w(eJ:Sl Az w Z p q i.Ag)(eK:Sl (Bs (Ao .i64)) w Z r s i.Ab)(eM:Sl AH w Z t u i.Ak)(eN:Sl Ba w Z y z i.AJ)(eO:Sl Bc w Z m n i.Aw)(eP:Sl Bp w Z aA aB i.Ar)(eQ:Sl (Ao .i64) w Z aF aG aJ) fS(a:Gh cM i aJ=some fS):
 B7 Tryz.prog 82 #[.agg (Ai p q r s t u y z m n aA aB i).toArray,.slice aF aJ.length aG] w (fun v w'=>Ext w w'∧Cm.R w' (zf Z w []) v fS):=by
 unfold Gh at a;refine rq (N:=54) Tryz.func82 fun f8 ha f9=>?_;have e1:=sA 0 ha;have cN:=sA 1 ha;clear ha;have eW:Hp FN [] w [] w:=Hp.start (BL.none w);have ⟨dI,dJ,dK,dL,dM,dN,dO⟩:=Ea eJ eK eM eN eO eP eQ (Bd (Z:=Z) (L:=[]) w);refine cr<|wE (fun st=>BP (v:=.agg (Ai p q r s t u y z m n aA aB i).toArray) (cs:=(Ai p q r s t u y z m n aA aB i).toArray) (ee st e1) rfl) ?_;rintro _ w1 ⟨b1,rfl,bO⟩;have b5:=eW.nb bO;have f5:=eW.BU bO;refine wA (v:=.bool false) rfl<|wr<|wD (fun st=>AK (l:=(Ai p q r s t u y z m n aA aB i)) FY (eR st) bO.bk rfl rfl) ?_;have ⟨bP,bQ,bR,bS,bT,bU⟩:=Cp dI dJ dK dL dM dN (AA bO);replace a:=bind_some a;obtain⟨aN,fT,a⟩:=a;refine wE (fun st=>Aj OB (eR st) (CN (eR st) (eR st)) (R7 cM i true p q r s t u y z m n aA aB (zf Z w [some b1]) _ bP bQ bR bS bT bU aN fT)) ?_;rintro _ f6 ⟨b6,⟨gJ,rfl,fU⟩⟩;rcases Ib.cases fU with⟨d4,rfl⟩|⟨aC,d4,b3,b,aQ,aR,aS,aT,aU,aV,aW,aX,aY,aZ,a0,a2,a3,a4,a5,a7,rfl,aO,fV,fW,d5,d6,d7,d8,d9,eA,eB,eC⟩
 ·replace a:=Qh d4 a;have fX:=b5.ext b6;refine wM (v:=.tuple #[.pointer none,I aN.2]) rfl<|wD (fun st=>Bz (v:=.pointer none) (eR st) rfl)<|wD (fun st=>Bz (v:=I aN.2) (eR st) rfl)<|wA (v:=.pointer none) rfl<|wA (v:=I aN.2) rfl<|wn<|Af<|cr<|wM (v:=I aN.2) rfl<|wD (fun st=>Db (eR st) (eR st))<|wM (v:=.bool (aN.2 !=0)) rfl ?_;rcases Ae (aN.2 !=0) with aK|aK
  ·replace a:=Ap a aK;refine wF aK<|wF aK<|wF aK<|wF aK<|wF aK<|wF aK<|wD (fun st=>AW (v:=.bool true) (eR st) aK (eR st))<|wn<|Am rfl rfl<|cr<|wA (v:=.bool false) rfl<|wn<|Av<|AG ?_;obtain rfl:=oi a;refine Ay rfl rfl ?_;exact⟨fX.AS,rfl⟩
  ·replace a:=Aq a aK;exact absurd a (by simp)
 ·replace a:=Qi d4 a;have eX:=b5.Mi b6 aO;have eS:w.heap.size≤b3:=Nat.le_trans b5.sz (aO.mem _ (by simp)).1;have fN:w.heap.size≤b:=Nat.le_trans b5.sz (aO.mem _ (by simp)).1;have ⟨cO,cP,cQ,cR,cS,cT,cU,cV⟩:=GN d5 d6 d7 d8 d9 eA eB eC (b5.Ov aO);have eD:=eX.erase 0;have e2:Rz f6 (zf Z w [some b,some b1]) (some ⟨b3,0,none⟩) (E4 aQ aR aS aT aU aV aW aX aY aZ a0 a2 a3 a4 a5 a7 b aC):=Ow fV (eX.lit 0 rfl eS) rfl;refine wM (v:=.tuple #[pt b3 0,I aN.2]) rfl<|wD (fun st=>Bz (v:=pt b3 0) (eR st) rfl)<|wD (fun st=>Bz (v:=I aN.2) (eR st) rfl)<|wA (v:=pt b3 0) rfl<|wA (v:=I aN.2) rfl<|wn<|Af<|cr<|wM (v:=I aN.2) rfl<|wD (fun st=>Db (eR st) (eR st))<|wM (v:=.bool (aN.2 !=0)) rfl ?_;rcases Ae (aN.2 !=0) with j|j
  ·replace a:=Ap a j;refine wF j<|wF j<|wF j<|wF j<|wF j<|wF j<|wD (fun st=>AW (v:=.bool true) (eR st) j (eR st))<|wn<|Am rfl rfl<|cr<|wA (v:=.bool false) rfl<|wn<|Av<|AG ?_;obtain rfl:=oi a;refine Ay rfl rfl ?_;exact⟨eD.AS,rfl⟩
  ·replace a:=Aq a j;refine wN j (v:=.slice aF aJ.length aG) cN<|wG j (fun st=>Be Tryz.underlying31 (eR st))<|wG j (fun st=>Ad (eR st) (Mf _ _)) ?_;have dD:=(bO.bk.ext b6);refine wG j (fun st=>As (v:=.slice m i.Aw.length n) Ni (eR st) dD rfl)<|wG j (fun st=>Be Tryz.underlying50 (eR st))<|wG j (fun st=>Db (eR st) (eR st))<|wD (fun st=>Bo (v:=.bool ((aJ.length:Int) !=(i.Aw.length:Int))) (eR st) j (eR st))<|wn ?_;rcases Ae ((aJ.length:Int) !=(i.Aw.length:Int)) with b7|b7
   ·replace a:=Ap a b7;refine Am rfl b7<|cr<|wA (v:=.bool false) rfl<|wn<|Av<|AG ?_;obtain rfl:=oi a;refine Ay rfl rfl ?_;exact⟨eD.AS,rfl⟩
   ·replace a:=Aq a b7;refine An rfl b7<|cn<|Af<|cr<|wM (v:=.slice aF aJ.length aG) cN<|wD (fun st=>Be Tryz.underlying31 (eR st))<|wM (v:=I 0) rfl<|wn<|AI ?_;replace a:=bind_some a;obtain⟨e3,bV,a⟩:=a;refine BX (fun e4 aH o=>(e4=.ret∧∃bW,e3=.inl bW∧Fo X0 54 aH∧sl aH 4=.bool bW.1∧Hp FN [] w [some b,some b1] o)∨(e4=.exit 0∧∃bW,e3=.inr bW∧Fo X0 54 aH∧Hp FN [] w [some b,some b1] o)) ?fY ?fZ
    case fY=>
     clear a;refine BW (fun e5 aH o=>∃g,∃f,ER cM i aJ aC e5 g f=some e3∧Fo X0 54 aH∧sl aH 1=.slice aF aJ.length aG∧sl aH 2=pt b1 0∧sl aH 5=pt b3 0∧sl aH 24=.slice aF aJ.length aG∧sl aH 25=I (aJ.length:Int)∧sl aH 26=I g∧Hp FN [] w [some b,some b1] o∧Bk o b1 53 (Ai p q r s t u y z m n aA aB i).toArray∧Sl Az o (zf Z w [some b,some b1]) p q i.Ag∧Sl (Bs (Ao .i64)) o (zf Z w [some b,some b1]) r s i.Ab∧Sl AH o (zf Z w [some b,some b1]) t u i.Ak∧Sl Ba o (zf Z w [some b,some b1]) y z i.AJ∧Sl Bc o (zf Z w [some b,some b1]) m n i.Aw∧Sl Bp o (zf Z w [some b,some b1]) aA aB i.Ar∧Sl (Ao .i64) o (zf Z w [some b,some b1]) aF aG aJ∧Sl Az o (zf Z w [some b,some b1]) aQ aR aC.AX∧Sl (Bs (Ao .i64)) o (zf Z w [some b,some b1]) aS aT aC.AY∧Sl AH o (zf Z w [some b,some b1]) aU aV aC.AT∧Sl Ba o (zf Z w [some b,some b1]) aW aX aC.Bx∧Sl Bc o (zf Z w [some b,some b1]) aY aZ aC.Bw∧Sl Bp o (zf Z w [some b,some b1]) a0 a2 aC.BT∧Sl (Ao .i64) o (zf Z w [some b,some b1]) a3 a4 aC.weights∧Sl Ep o (zf Z w [some b,some b1]) a5 a7 aC.Dg∧EE (fun x:Int=>I x) o b 2 f∧Rz o (zf Z w [some b,some b1]) (some ⟨b3,0,none⟩) (E4 aQ aR aS aT aU aV aW aX aY aZ a0 a2 a3 a4 a5 a7 b aC)) cM ?f0 ?f1
     case f0=>
      intro st;have ⟨dP,dQ,dR,dS,dT,dU⟩:=Cp bP bQ bR bS bT bU (mt (DY (Ac b6) aO) (AV 0));have dV:=(((dO.mv (AA bO)).mv (DY (Ac b6) aO)).mv (AV 0));have ⟨cW,cX,cY,cZ,c0,c1,c2,c3⟩:=GN cO cP cQ cR cS cT cU cV (AV 0);have eT:=fW;exact⟨(0:Int),aC.known,bV,qo st,sp st 1 cN,sp st 2 rfl,sp st 5 rfl,sp st 24 rfl,sp st 25 rfl,sp st 26 rfl,eD,dD,dP,dQ,dR,dS,dT,dU,dV,cW,cX,cY,cZ,c0,c1,c2,c3,eT,e2⟩
     case f1=>
      rintro(_|e5) gA gB ⟨g,f,bV,e6,dE,bZ,dF,b8,b9,aM,eY,cA,a8,a9,bA,bB,bC,bD,bE,cB,cC,cD,cE,cF,cG,cH,cI,eE,dW⟩
      ·exact absurd (show none=some _ from bV) (by simp)
      rw[ER.eq_2] at bV;have a:=bV;clear bV;refine ro e6<|cr<|wD (fun st=>B9 (ee st aM) (ee st b9))<|wn<|Af ?_;rcases Ae (decide (g<(aJ.length:Int))) with cJ|cJ
      ·replace a:=Ap a cJ;refine Am rfl cJ<|cn<|Af<|AI<|cr<|wM (v:=I g) aM ?_;replace a:=AP a;obtain⟨i10,aP,e7,e8,e9,a⟩:=a;obtain⟨gC,gD,_,fA,rfl,fB⟩:=Sl.Cz bE rfl e8;refine wD (fun st=>AR (k:=i10) Tryz.underlying31 C7 (ee st b8) fA (ee st aM) e7 e9)<|wD (fun st=>Bb (v:=I aP) Bh (eR st) fB rfl)<|wA (v:=I g) rfl<|wA (v:=I aP) rfl<|wr<|wD (fun st=>AK (l:=(Ai p q r s t u y z m n aA aB i)) FY (ee st bZ) cA rfl rfl)<|wM (v:=I aP) rfl ?_;replace a:=bind_some a;obtain⟨cK,fC,a⟩:=a;refine wE (fun st=>Aj VG (eR st) (CN (eR st) (eR st)) (AbA cM i aP p q r s t u y z m n aA aB ZA _ a8.all a9.all bA.all bB.all bC.all bD.all cK fC)) ?_;rintro _ f2 ⟨aD,rfl⟩;have eZ:=eY.ext aD;refine wD (fun st=>CJ (eR st))<|wM (v:=.bool !cK) rfl ?_;rcases Ae (!cK) with d|d
       ·replace a:=Ap a d;have fO:cK=false:=by simpa using d
        refine wF d<|wF d<|wF d<|wF d<|wF d<|wD (fun st=>AW (v:=.bool true) (eR st) d (eR st))<|wM (v:=.bool true) rfl<|wH<|wH<|wH<|wH<|wH<|wH<|wH<|wH<|wH<|wD (fun st=>AW (v:=.bool true) (eR st) rfl (eR st))<|wn<|Am rfl rfl<|cr<|wA (v:=.bool false) rfl<|wn<|Av<|Dd<|AG ?_;obtain rfl:=oi a;refine BC (fun st=>?_);exact .inl ⟨rfl,(false,f),rfl,qo st,sp st 4 rfl,eZ⟩
       ·replace a:=Aq a d;have fP:cK=true:=by simpa using d
        refine wN d (v:=.slice aF aJ.length aG) dE<|wG d (fun st=>Au (v:=I g) (eR st)) ?_;replace a:=O9 a;obtain⟨fD,a⟩:=a;have bX:=(bE.mv (Ac aD));refine wX d (fun st=>UR (e:=(Ao .i64)) (Z:=_) (xs:=aJ) Tryz.underlying31 C7 rfl (eR st) Vv (Xg (eR st)) bX fD) ?_;rintro _ f2 ⟨⟨f3,f4,rfl,fE⟩,rfl⟩;refine wG d (fun st=>Au (v:=I aP) (eR st)) ?_;replace a:=bind_some a;obtain⟨dG,fF,a⟩:=a;refine wX d (fun st=>Aj Pc (eR st) (CN (eR st) (eR st)) (S5 cM (HL aJ (0:Int) g) aP f3 f4 ZA _ fE.all dG fF)) ?_;rintro _ gE ⟨aE,rfl⟩;have h:=eZ.ext aE;refine wD (fun st=>Bo (v:=.bool dG) (eR st) d (eR st))<|wM (v:=.bool dG) rfl ?_;rcases Ae (dG) with c|c
        ·replace a:=Ap a c;refine wF c<|wF c<|wF c<|wF c<|wF c<|wF c<|wF c<|wF c<|wF c<|wD (fun st=>AW (v:=.bool true) (eR st) c (eR st))<|wn<|Am rfl rfl<|cr<|wA (v:=.bool false) rfl<|wn<|Av<|Dd<|AG ?_;obtain rfl:=oi a;refine BC (fun st=>?_);exact .inl ⟨rfl,(false,f),rfl,qo st,sp st 4 rfl,h⟩
        ·replace a:=Aq a c;refine wN c (v:=pt b3 0) dF<|wG c (fun st=>Ad (ee st bZ) (Mf _ _)) ?_;have dH:=((cA.ext aD).ext aE);refine wG c (fun st=>As (v:=.slice m i.Aw.length n) Ni (eR st) dH rfl)<|wG c (fun st=>Au (v:=I g) (eR st)) ?_;replace a:=AP a;obtain⟨i21,eF,fG,fH,fI,a⟩:=a;have bY:=((bC.mv (Ac aD)).mv (Ac aE));obtain⟨gF,gG,_,fJ,rfl,fK⟩:=Sl.elem bY (by decide) fH;refine wG c (fun st=>BD (k:=i21) Tryz.underlying50 SZ (eR st) fJ (eR st) fG fI)<|wG c (fun st=>DF (l:=[I eF.Dh,I eF.Df]) Qx (eR st) fK rfl rfl)<|wG c (fun st=>Au (v:=I aP) (eR st)) ?_;have ⟨bF,bG,bH,bI,bJ,bK,bL,bM⟩:=GN cB cC cD cE cF cG cH cI (mt (Ac aD) (Ac aE));have eU:=((eE.ext aD).ext aE);have cL:=((dW.mv (Ac aD)).mv (Ac aE));replace a:=bind_some a;obtain⟨bN,fL,a⟩:=a;refine wX c (fun st=>Aj VW (eR st) (Dx (eR st) (eR st) (eR st)) (a138 cM (⟨aC.AX,aC.AY,aC.AT,aC.CV,aC.Bx,aC.Bw,aC.BT,aC.weights,aC.Dg,f⟩:CZ) eF aP aQ aR aS aT aU aV aW aX aY aZ a0 a2 a3 a4 a5 a7 b3 b (ZC FN [some b]) _ (h.EP (F':=FN) (M:=[some b]) (C:=[]) [0] [] rfl ⟨rfl,trivial⟩ trivial eL) I9 (bF.mv (h.mz (F':=FN) (M:=[some b]) (C:=[]) [0] [] ⟨rfl,trivial⟩ trivial eL)) (bG.mv (h.mz (F':=FN) (M:=[some b]) (C:=[]) [0] [] ⟨rfl,trivial⟩ trivial eL)) (bH.mv (h.mz (F':=FN) (M:=[some b]) (C:=[]) [0] [] ⟨rfl,trivial⟩ trivial eL)) (bI.mv (h.mz (F':=FN) (M:=[some b]) (C:=[]) [0] [] ⟨rfl,trivial⟩ trivial eL)) (bJ.mv (h.mz (F':=FN) (M:=[some b]) (C:=[]) [0] [] ⟨rfl,trivial⟩ trivial eL)) (bK.mv (h.mz (F':=FN) (M:=[some b]) (C:=[]) [0] [] ⟨rfl,trivial⟩ trivial eL)) (bL.mv (h.mz (F':=FN) (M:=[some b]) (C:=[]) [0] [] ⟨rfl,trivial⟩ trivial eL)) (bM.mv (h.mz (F':=FN) (M:=[some b]) (C:=[]) [0] [] ⟨rfl,trivial⟩ trivial eL)) (cL.mv (h.mz (F':=FN) (M:=[some b]) (C:=[]) [0] [] ⟨rfl,trivial⟩ trivial eL)) eU bN fL)) ?_;rintro _ gH ⟨aI,rfl,eG⟩;have e0:=h.Ek aI (BM [0] ⟨rfl,trivial⟩ eL);refine wG c (fun st=>CJ (eR st))<|wD (fun st=>Bo (v:=.bool !bN.1) (eR st) c (eR st))<|wn ?_;rcases Ae (!bN.1) with aL|aL
         ·replace a:=Ap a aL;have fQ:bN.1=false:=by simpa using aL
          refine Am rfl aL<|cr<|wA (v:=.bool false) rfl<|wn<|Av<|Dd<|AG ?_;obtain rfl:=oi a;refine BC (fun st=>?_);exact .inl ⟨rfl,(false,bN.2),rfl,qo st,sp st 4 rfl,e0⟩
         ·replace a:=Aq a aL;have fR:bN.1=true:=by simpa using aL
          refine An rfl aL<|Ct<|CS<|Al ?_;replace a:=AF a;obtain⟨fM,a⟩:=a;refine wD (fun st=>BG (ee st aM) (eR st) fM)<|wM (v:=I (g+1)) rfl<|AU ?_;have eV:=(dH.Ek aI (h.EU 1 rfl [0] rfl ⟨rfl,trivial⟩ eL));have ⟨dX,dY,dZ,d0⟩:=Et a8 a9 bA bB (mt (Ac aD) (mt (Ac aE) (h.GD aI (BM [0] ⟨rfl,trivial⟩ eL))));have d1:=(bY.mv (h.GD aI (BM [0] ⟨rfl,trivial⟩ eL)));have d2:=(((bD.mv (Ac aD)).mv (Ac aE)).mv (h.GD aI (BM [0] ⟨rfl,trivial⟩ eL)));have d3:=((bX.mv (Ac aE)).mv (h.GD aI (BM [0] ⟨rfl,trivial⟩ eL)));have ⟨c4,c5,c6,c7,c8,c9,dA,dB⟩:=GN bF bG bH bI bJ bK bL bM (h.GD aI (BM [0] ⟨rfl,trivial⟩ eL));have eH:=(cL.mv (h.GD aI (BM [0] ⟨rfl,trivial⟩ eL)));refine Bi e5 (Nat.lt_succ_self _) (fun st=>?_);exact⟨(g+1),bN.2,a,qo st,sp st 1 dE,sp st 2 bZ,sp st 5 dF,sp st 24 b8,sp st 25 b9,sp st 26 rfl,e0,eV,dX,dY,dZ,d0,d1,d2,d3,c4,c5,c6,c7,c8,c9,dA,dB,eG,eH⟩
      ·replace a:=Aq a cJ;refine An rfl cJ<|Dq ?_;obtain rfl:=oi a;refine BC (fun st=>?_);exact .inr ⟨rfl,f,rfl,qo st,eY⟩
    case fZ=>
     rintro e4 f7 gI (⟨rfl,bW,rfl,b4,eI,dC⟩|⟨rfl,bW,rfl,b4,dC⟩)
     ·skip
      replace a:=C9 a;refine lf b4<|Dd ?_;obtain rfl:=oi a;refine Ay rfl eI ?_;exact⟨dC.AS,rfl⟩
     ·skip
      replace a:=Da a;refine lf b4<|AZ<|BS<|cr<|wA (v:=.bool true) rfl<|wn<|Av ?_;obtain rfl:=oi a;refine Ay rfl rfl ?_;exact⟨dC.AS,rfl⟩
theorem QW a0 e y c d m n o p i j(Z:Nat→Prop) w(a2:Sl Az w Z c d e.Ax)(a3:Sl (Bs (Ao .i64)) w Z m n e.Bv)(a4:Sl AH w Z o p e.AQ)(a5:Sl (Ao .i64) w Z i j y) bN(a:Ck a0 e y=some bN):
 B7 Tryz.prog 77 #[.agg (AE c d m n o p e).toArray,.slice i y.length j] w (fun v w'=>Ext w w'∧Cm.R w' (zf Z w []) v bN):=by
 unfold Ck at a;refine rq (N:=43) Tryz.func77 fun cP ha cQ=>?_;have bB:=sA 0 ha;have bC:=sA 1 ha;clear ha;have a9:Hp FN [] w [] w:=Hp.start (BL.none w);have ⟨aH,aI,aJ,aK⟩:=Et a2 a3 a4 a5 (Bd (Z:=Z) (L:=[]) w);refine cr<|wE (fun st=>BP (v:=.agg (AE c d m n o p e).toArray) (cs:=(AE c d m n o p e).toArray) (ee st bB) rfl) ?_;rintro _ w1 ⟨b1,rfl,aG⟩;have bO:=a9.nb aG;have cL:=a9.BU aG;refine wA (v:=.bool false) rfl<|wn<|Af<|cr<|wA (v:=I 0) rfl<|wn<|AI ?_;replace a:=bind_some a;obtain⟨z2,aB,a⟩:=a;refine BX (fun bD s z=>(bD=.ret∧∃aC,z2=.inl aC∧Fo X0 43 s∧sl s 4=.bool aC∧Hp FN [] w [some b1] z)∨(bD=.exit 0∧∃aC,z2=.inr aC∧Fo X0 43 s∧sl s 1=.slice i y.length j∧sl s 2=pt b1 0∧Hp FN [] w [some b1] z∧Bk z b1 26 (AE c d m n o p e).toArray∧Sl Az z (zf Z w [some b1]) c d e.Ax∧Sl (Bs (Ao .i64)) z (zf Z w [some b1]) m n e.Bv∧Sl AH z (zf Z w [some b1]) o p e.AQ∧Sl (Ao .i64) z (zf Z w [some b1]) i j y)) ?bP ?bQ
 case bP=>
  clear a;refine BW (fun bE s z=>∃b,Bm a0 e y bE b=some z2∧Fo X0 43 s∧sl s 1=.slice i y.length j∧sl s 2=pt b1 0∧sl s 5=I b∧Hp FN [] w [some b1] z∧Bk z b1 26 (AE c d m n o p e).toArray∧Sl Az z (zf Z w [some b1]) c d e.Ax∧Sl (Bs (Ao .i64)) z (zf Z w [some b1]) m n e.Bv∧Sl AH z (zf Z w [some b1]) o p e.AQ∧Sl (Ao .i64) z (zf Z w [some b1]) i j y) a0 ?bR ?bS
  case bR=>
   intro st;have ⟨aL,aM,aN,aO⟩:=Et aH aI aJ aK (AA aG);exact⟨(0:Int),aB,qo st,sp st 1 bC,sp st 2 rfl,sp st 5 rfl,bO,aG.bk,aL,aM,aN,aO⟩
  case bS=>
   rintro(_|bE) cR cS ⟨b,aB,bF,aA,q,r,aT,h,f,t,u,l⟩
   ·exact absurd (show none=some _ from aB) (by simp)
   rw[Bm.eq_2] at aB;have a:=aB;clear aB;refine ro bF<|Af<|cr<|wM (v:=I b) r<|wM (v:=.slice i y.length j) aA<|wD (fun st=>Be Tryz.underlying31 (eR st))<|wD (fun st=>B9 (eR st) (eR st))<|wM (v:=.bool (decide (b<(y.length:Int)))) rfl ?_;rcases Ae (decide (b<(y.length:Int))) with g|g
   ·replace a:=Ap a g;refine wN g (v:=I b) r<|wG g (fun st=>Ad (ee st q) (Ej _ _))<|wG g (fun st=>As (v:=.slice c e.Ax.length d) EJ (eR st) h rfl)<|wG g (fun st=>Be Tryz.underlying22 (eR st))<|wG g (fun st=>B9 (eR st) (eR st))<|wD (fun st=>AW (v:=.bool (decide (b<(e.Ax.length:Int)))) (eR st) g (eR st))<|wn ?_;rcases Ae (decide (b<(e.Ax.length:Int))) with aE|aE
    ·replace a:=Ap a aE;refine Am rfl aE<|cn<|Af<|AI<|Af ?_;replace a:=AP a;obtain⟨i6,bT,bU,bV,bW,a⟩:=a;obtain⟨cM,cN,_,bX,rfl,bY⟩:=Sl.Cz l rfl bV;replace a:=AP a;obtain⟨i7,bZ,b4,b5,b6,a⟩:=a;obtain⟨b7,b8,_,b9,rfl,cA⟩:=Sl.elem f (by decide) b5;replace a:=AP a;obtain⟨i8,cB,cC,cD,cE,a⟩:=a;obtain⟨cF,cG,_,cH,rfl,cI⟩:=Sl.elem f (by decide) cD;refine BK 16 [Kc (.slice i y.length j),Kc (I b),Kc (pt cM (cN+i6)),Kc (I bT),Kc (pt b1 0),Kc (.slice c e.Ax.length d),Kc (I b),Kc (pt b7 (b8+i7*2)),Kc (pt b7 (b8+i7*2)),Kc (I bZ.Lo),Kc (pt b1 0),Kc (.slice c e.Ax.length d),Kc (I b),Kc (pt cF (cG+i8*2)),Kc (pt cF (cG+i8*2+1)),Kc (I cB.Hi)] mixed rfl rfl
         (Aa (oD (fun K=>Au (es ((K.out 1 rfl).trans aA))))
         (Aa (oD (fun K=>Au (es ((K.out 5 rfl).trans r))))
         (Aa (oD (fun K=>AR (k:=i6) Tryz.underlying31 C7 (es (K.dq 0 19)) bX (es (K.dq 1 20)) bU bW))
         (Aa (oD (fun K=>Bb Bh (es (K.dq 2 21)) (bY.mv (Ac K.AD)) rfl))
         (Aa (oD (fun K=>Ad (es ((K.out 2 rfl).trans q)) (Ej _ _)))
         (Aa (oD (fun K=>As EJ (es (K.dq 4 23)) (h.ext K.AD) rfl))
         (Aa (oD (fun K=>Au (es ((K.out 5 rfl).trans r))))
         (Aa (oD (fun K=>BD (k:=i7) Tryz.underlying22 Gu (es (K.dq 5 24)) b9 (es (K.dq 6 25)) b4 b6))
         (Aa (oD (fun K=>Ad (es (K.dq 7 26)) (Li _ _ _)))
         (Aa (oD (fun K=>Bb Bh (es (K.dq 8 27)) (cA.mv (Ac K.AD)) rfl))
         (Aa (oD (fun K=>Ad (es ((K.out 2 rfl).trans q)) (Ej _ _)))
         (Aa (oD (fun K=>As EJ (es (K.dq 10 29)) (h.ext K.AD) rfl))
         (Aa (oD (fun K=>Au (es ((K.out 5 rfl).trans r))))
         (Aa (oD (fun K=>BD (k:=i8) Tryz.underlying22 Gu (es (K.dq 11 30)) cH (es (K.dq 12 31)) cC cE))
         (Aa (oD (fun K=>Ad (es (K.dq 13 32)) (Lj _ _ _)))
         (Aa (oD (fun K=>Fu Bh (es (K.dq 14 33)) (cI.mv (Ac K.AD)) rfl))
         (BI _))))))))))))))))) ?_
     intro cV;rintro _ rfl _ rfl _ rfl _ rfl _ rfl _ rfl _ rfl _ rfl _ rfl _ rfl _ rfl _ rfl _ rfl _ rfl _ rfl _ rfl aU;have cJ:=aT.ext aU;replace a:=bind_some a;obtain⟨a7,cK,a⟩:=a;refine wE (fun st=>Aj DR (eR st) (Dx (eR st) (eR st) (eR st)) (GZ a0 bT bZ.Lo cB.Hi ZA _ a7 cK)) ?_;rintro _ cT ⟨aV,rfl⟩;have bA:=cJ.ext aV;refine wD (fun st=>CJ (eR st))<|wn ?_;rcases Ae (!a7) with x|x
     ·replace a:=Ap a x;have bL:a7=false:=by simpa using x
      refine Am rfl x<|cr<|wA (v:=.bool false) rfl<|wn<|Av<|Dd<|AG ?_;obtain rfl:=oi a;refine BC (fun st=>?_);exact .inl ⟨rfl,false,rfl,qo st,sp st 4 rfl,bA⟩
     ·replace a:=Aq a x;have bM:a7=true:=by simpa using x
      refine An rfl x<|Ct<|CS<|Al<|wM (v:=I b) r ?_;replace a:=AF a;obtain⟨bG,a⟩:=a;refine wD (fun st=>BG (eR st) (eR st) bG)<|wA (v:=I (b+1)) rfl<|AU ?_;have a8:=((h.ext aU).ext aV);have ⟨aP,aQ,aR,aS⟩:=Et f t u l (mt (Ac aU) (Ac aV));refine Bi bE (Nat.lt_succ_self _) (fun st=>?_);exact⟨(b+1),a,qo st,sp st 1 aA,sp st 2 q,sp st 5 rfl,bA,a8,aP,aQ,aR,aS⟩
    ·replace a:=Aq a aE;refine An rfl aE<|Dq ?_;obtain rfl:=oi a;refine BC (fun st=>?_);exact .inr ⟨rfl,(),rfl,qo st,sp st 1 aA,sp st 2 q,aT,h,f,t,u,l⟩
   ·replace a:=Aq a g;refine wF g<|wF g<|wF g<|wF g<|wF g<|wD (fun st=>Bo (v:=.bool false) (eR st) g (eR st))<|wn<|An rfl rfl<|Dq ?_;obtain rfl:=oi a;refine BC (fun st=>?_);exact .inr ⟨rfl,(),rfl,qo st,sp st 1 aA,sp st 2 q,aT,h,f,t,u,l⟩
 case bQ=>
  rintro bD cO cU (⟨rfl,aC,rfl,aD,aW,aF⟩|⟨rfl,aC,rfl,aD,aX,aY,aF,aZ,bH,bI,bJ,bK⟩)
  ·skip
   replace a:=C9 a;refine lf aD<|Dd ?_;obtain rfl:=oi a;refine Ay rfl aW ?_;exact⟨aF.AS,rfl⟩
  ·skip
   replace a:=Da a;refine lf aD<|AZ<|BS<|cr<|wM (v:=.slice i y.length j) aX<|wD (fun st=>Be Tryz.underlying31 (eR st))<|wD (fun st=>Ad (ee st aY) (Ej _ _))<|wD (fun st=>As (v:=.slice c e.Ax.length d) EJ (eR st) aZ rfl)<|wD (fun st=>Be Tryz.underlying22 (eR st))<|wD (fun st=>CT (eR st) (eR st))<|wA (v:=.bool ((y.length:Int)==(e.Ax.length:Int))) rfl<|wn<|Av ?_;obtain rfl:=oi a;refine Ay rfl rfl ?_;exact⟨aF.AS,rfl⟩
theorem a31 aJ p i s j l e f m n b c(Z:Nat→Prop) w(z:Sl Az w Z j l p.Ax)(aA:Sl (Bs (Ao .i64)) w Z e f p.Bv)(aB:Sl AH w Z m n p.AQ)(aC:Sl (Ao .i64) w Z b c i) aK(a:Cj aJ p i s=some aK):
 B7 Tryz.prog 31 #[.agg (AE j l e f m n p).toArray,.slice b i.length c,I s] w (fun v w'=>Ext w w'∧(DT .i64).R w' (zf Z w []) v aK):=by
 unfold Cj at a;refine rq (N:=25) Tryz.func31 fun a4 ha a5=>?_;have aG:=sA 0 ha;have o:=sA 1 ha;have r:=sA 2 ha;clear ha;have aE:Hp FN [] w [] w:=Hp.start (BL.none w);have ⟨aH,t,aI,g⟩:=Et z aA aB aC (Bd (Z:=Z) (L:=[]) w);refine cr<|wE (fun st=>BP (v:=.agg (AE j l e f m n p).toArray) (cs:=(AE j l e f m n p).toArray) (ee st aG) rfl) ?_;rintro _ w1 ⟨b1,rfl,h⟩;have aF:=aE.nb h;have a3:=aE.BU h;refine wA (v:=I 0) rfl<|wn<|Af<|cr<|wM (v:=I s) r<|wM (v:=.slice b i.length c) o<|wD (fun st=>Be Tryz.underlying31 (eR st))<|wD (fun st=>B9 (eR st) (eR st))<|wn ?_;rcases Ae (decide (s<(i.length:Int))) with q|q
 ·replace a:=Ap a q;refine Am rfl q<|cr<|wM (v:=.slice b i.length c) o<|wM (v:=I s) r ?_;replace a:=AP a;obtain⟨i3,aL,aM,aN,aO,a⟩:=a;have d:=(g.mv (AA h));obtain⟨b3,a7,_,aP,rfl,aQ⟩:=Sl.Cz d rfl aN;refine wD (fun st=>AR (k:=i3) Tryz.underlying31 C7 (eR st) aP (eR st) aM aO)<|wD (fun st=>Bb (v:=I aL) Bh (eR st) aQ rfl)<|wA (v:=I aL) rfl<|wn<|Av<|AG ?_;obtain rfl:=oi a;refine Ay rfl rfl ?_;exact⟨aF.AS,rfl⟩
 ·replace a:=Aq a q;refine An rfl q<|cn<|cr<|wM (v:=.slice b i.length c) o<|wD (fun st=>Ad (eR st) (DP _ _))<|wD (fun st=>As (v:=.slice e p.Bv.length f) DH (eR st) h.bk rfl)<|wM (v:=I s) r<|wM (v:=.slice b i.length c) o<|wD (fun st=>Be Tryz.underlying31 (eR st)) ?_;replace a:=AF a;obtain⟨aR,a⟩:=a;refine wD (fun st=>El (eR st) (eR st) aR) ?_;replace a:=AP a;obtain⟨i5,aS,aT,aU,aV,a⟩:=a;have u:=(t.mv (AA h));obtain⟨a8,a9,_,aW,⟨x,y,rfl,aD⟩,aX⟩:=Sl.Cz u rfl aU;refine wD (fun st=>AR (k:=i5) Tryz.underlying23 ES (eR st) aW (eR st) aT aV)<|wD (fun st=>Bb (v:=.slice x aS.length y) DB (eR st) aX rfl) ?_;have d:=(g.mv (AA h));replace a:=bind_some a;obtain⟨aY,aZ,a⟩:=a;refine wE (fun st=>Aj Nk (eR st) (CN (eR st) (eR st)) (a87 aJ i aS b c x y ZA _ d.all aD.all aY aZ)) ?_;rintro _ bA ⟨a0,rfl⟩;have a2:=aF.ext a0;refine wA (v:=I aY) rfl<|wn<|Av ?_;obtain rfl:=oi a;refine Ay rfl rfl ?_;exact⟨a2.AS,rfl⟩
theorem a146 aC k aB a c d e f g i m n(Z:Nat→Prop) w(aF:Sl Az w Z c d k.Ax)(aG:Sl (Bs (Ao .i64)) w Z e f k.Bv)(aH:Sl AH w Z g i k.AQ)(aI:Sl (Ao .i64) w Z m n aB) aT(b:Cf aC k aB a=some aT):
 B7 Tryz.prog 146 #[.agg (AE c d e f g i k).toArray,.slice m aB.length n,.agg #[.bool a.Ce,I a.Number,I a.AM,I a.AN]] w (fun v w'=>Ext w w'∧Cm.R w' (zf Z w []) v aT):=by
 unfold Cf at b;refine rq (N:=28) Tryz.func146 fun a9 ha bA=>?_;have aN:=sA 0 ha;have aD:=sA 1 ha;have aO:=sA 2 ha;clear ha;have aJ:Hp FN [] w [] w:=Hp.start (BL.none w);have ⟨t,u,x,y⟩:=Et aF aG aH aI (Bd (Z:=Z) (L:=[]) w);refine cr<|wE (fun st=>BP (v:=.agg (AE c d e f g i k).toArray) (cs:=(AE c d e f g i k).toArray) (ee st aN) rfl) ?_;rintro _ w1 ⟨b1,rfl,z⟩;have aK:=aJ.nb z;have a7:=aJ.BU z;refine wE (fun st=>BP (v:=.agg #[.bool a.Ce,I a.Number,I a.AM,I a.AN]) (cs:= #[.bool a.Ce,I a.Number,I a.AM,I a.AN]) (ee st aO) rfl) ?_;rintro _ w2 ⟨b2,rfl,j⟩;have aL:=aK.nb j;have a8:=aK.BU j;refine wA (v:=.bool false) rfl<|wr<|wD (fun st=>Ad (eR st) (Nj _ _))<|wD (fun st=>As (v:=I a.Number) Bh (eR st) j.bk rfl)<|wA (v:=I a.Number) rfl<|wn<|Af<|cr<|wD (fun st=>Ad (eR st) (NW _ _))<|wD (fun st=>As (v:=.bool a.Ce) L3 (eR st) j.bk rfl)<|wn ?_;rcases Ae (a.Ce) with aA|aA
 ·replace b:=Ap b aA;refine Am rfl aA<|Al<|wM (v:=I a.Number) rfl<|wD (fun st=>Ad (eR st) (Ej _ _)) ?_;have s:=(z.bk.ext j.gr);refine wD (fun st=>As (v:=.slice c k.Ax.length d) EJ (eR st) s rfl)<|wD (fun st=>Be Tryz.underlying22 (eR st)) ?_;replace b:=AF b;obtain⟨aU,b⟩:=b;refine wD (fun st=>BG (eR st) (eR st) aU)<|wA (v:=I (a.Number+(k.Ax.length:Int))) rfl<|wn<|Af ?_;have ⟨o,p,q,r⟩:=Et t u x y (mt (AA z) (AA j));replace b:=bind_some b;obtain⟨aP,aV,b⟩:=b;refine BK 10 [Kc (.agg (AE c d e f g i k).toArray),Kc (.slice m aB.length n),Kc (I (a.Number+(k.Ax.length:Int))),Kc (I aP),Kc (pt b2 2),Kc (pt b2 2),Kc (I a.AM),Kc (pt b2 2),Kc (pt b2 3),Kc (I a.AN)] mixed rfl rfl
      (Aa (oD (fun K=>AK (l:=(AE c d e f g i k)) Dt (K.kO 3) (s.ext K.AD) rfl rfl))
      (Aa (oD (fun K=>Au (es ((K.out 1 rfl).trans aD))))
      (Aa (oD (fun K=>Au (K.kO 7)))
      (Aa (oE (fun K=>(Aj Jw rfl (Dx (es (K.dq 0 17)) (es (K.dq 1 18)) (es (K.dq 2 19))) (a31 aC k aB (a.Number+(k.Ax.length:Int)) c d e f g i m n ZA _ (o.mv (Ac K.AD)).all (p.mv (Ac K.AD)).all (q.mv (Ac K.AD)).all (r.mv (Ac K.AD)).all aP aV)).mono (fun _ _ h=>⟨h.2,h.1⟩)))
      (Aa (oD (fun K=>Ad (K.kO 5) (FZ _ _)))
      (Aa (oD (fun K=>Ad (es (K.dq 4 21)) (GV _ _)))
      (Aa (oD (fun K=>As Bh (es (K.dq 5 22)) (j.bk.ext K.AD) rfl))
      (Aa (oD (fun K=>Ad (K.kO 5) (FZ _ _)))
      (Aa (oD (fun K=>Ad (es (K.dq 7 24)) (GW _ _)))
      (Aa (oD (fun K=>As Bh (es (K.dq 8 25)) (j.bk.ext K.AD) rfl))
      (BI _))))))))))) ?_
  intro bC;rintro _ rfl _ rfl _ rfl _ rfl _ rfl _ rfl _ rfl _ rfl _ rfl _ rfl aW;have aX:=aL.ext aW;replace b:=bind_some b;obtain⟨aY,aZ,b⟩:=b;refine wE (fun st=>Aj DR (eR st) (Dx (eR st) (eR st) (eR st)) (GZ aC aP a.AM a.AN ZA _ aY aZ)) ?_;rintro _ bD ⟨a0,rfl⟩;have a2:=aX.ext a0;refine wA (v:=.bool aY) rfl<|wn<|Av ?_;obtain rfl:=oi b;refine Ay rfl rfl ?_;exact⟨a2.AS,rfl⟩
 ·replace b:=Aq b aA;refine An rfl aA<|cn<|Af ?_;have s:=(z.bk.ext j.gr);have ⟨o,p,q,r⟩:=Et t u x y (mt (AA z) (AA j));replace b:=bind_some b;obtain⟨aE,aQ,b⟩:=b;refine BK 10 [Kc (.agg (AE c d e f g i k).toArray),Kc (.slice m aB.length n),Kc (I a.Number),Kc (I aE),Kc (pt b2 2),Kc (pt b2 2),Kc (I a.AM),Kc (pt b2 2),Kc (pt b2 3),Kc (I a.AN)] mixed rfl rfl
      (Aa (oD (fun K=>AK (l:=(AE c d e f g i k)) Dt (K.kO 3) (s.ext K.AD) rfl rfl))
      (Aa (oD (fun K=>Au (es ((K.out 1 rfl).trans aD))))
      (Aa (oD (fun K=>Au (K.kO 7)))
      (Aa (oE (fun K=>(Aj Jw rfl (Dx (es (K.dq 0 17)) (es (K.dq 1 18)) (es (K.dq 2 19))) (a31 aC k aB a.Number c d e f g i m n ZA _ (o.mv (Ac K.AD)).all (p.mv (Ac K.AD)).all (q.mv (Ac K.AD)).all (r.mv (Ac K.AD)).all aE aQ)).mono (fun _ _ h=>⟨h.2,h.1⟩)))
      (Aa (oD (fun K=>Ad (K.kO 5) (FZ _ _)))
      (Aa (oD (fun K=>Ad (es (K.dq 4 21)) (GV _ _)))
      (Aa (oD (fun K=>As Bh (es (K.dq 5 22)) (j.bk.ext K.AD) rfl))
      (Aa (oD (fun K=>Ad (K.kO 5) (FZ _ _)))
      (Aa (oD (fun K=>Ad (es (K.dq 7 24)) (GW _ _)))
      (Aa (oD (fun K=>As Bh (es (K.dq 8 25)) (j.bk.ext K.AD) rfl))
      (BI _))))))))))) ?_
  intro bE;rintro _ rfl _ rfl _ rfl _ rfl _ rfl _ rfl _ rfl _ rfl _ rfl _ rfl a3;have a4:=aL.ext a3;replace b:=bind_some b;obtain⟨aM,aR,b⟩:=b;refine wE (fun st=>Aj DR (eR st) (Dx (eR st) (eR st) (eR st)) (GZ aC aE a.AM a.AN ZA _ aM aR)) ?_;rintro _ bB ⟨aS,rfl⟩;have a5:=a4.ext aS;refine wA (v:=.bool aM) rfl<|wn<|Av ?_;obtain rfl:=oi b;refine Ay rfl rfl ?_;exact⟨a5.AS,rfl⟩
theorem O6 a7 h u d e f g b c j m(Z:Nat→Prop) w(bC:Sl Az w Z d e h.Ax)(bD:Sl (Bs (Ao .i64)) w Z f g h.Bv)(bE:Sl AH w Z b c h.AQ)(bF:Sl (Ao .i64) w Z j m u) b5(a:BZ a7 h u=some b5):
 B7 Tryz.prog 100 #[.agg (AE d e f g b c h).toArray,.slice j u.length m] w (fun v w'=>Ext w w'∧Cm.R w' (zf Z w []) v b5):=by
 unfold BZ at a;refine rq (N:=26) Tryz.func100 fun cJ ha cK=>?_;have bN:=sA 0 ha;have a8:=sA 1 ha;clear ha;have bJ:Hp FN [] w [] w:=Hp.start (BL.none w);have ⟨aT,aU,aV,aW⟩:=Et bC bD bE bF (Bd (Z:=Z) (L:=[]) w);refine cr<|wE (fun st=>BP (v:=.agg (AE d e f g b c h).toArray) (cs:=(AE d e f g b c h).toArray) (ee st bN) rfl) ?_;rintro _ w1 ⟨b1,rfl,aK⟩;have b6:=bJ.nb aK;have cF:=bJ.BU aK;refine wA (v:=.bool false) rfl<|wn<|Af<|cr<|wD (fun st=>AK (l:=(AE d e f g b c h)) Dt (eR st) aK.bk rfl rfl)<|wM (v:=.slice j u.length m) a8 ?_;have ⟨x,y,z,aA⟩:=Et aT aU aV aW (AA aK);replace a:=bind_some a;obtain⟨bG,b7,a⟩:=a;refine wE (fun st=>Aj Mw (eR st) (CN (eR st) (eR st)) (QW a7 h u d e f g b c j m ZA _ x.all y.all z.all aA.all bG b7)) ?_;rintro _ cP ⟨a9,rfl⟩;have bK:=b6.ext a9;refine wD (fun st=>CJ (eR st))<|wn ?_;rcases Ae (!bG) with s|s
 ·replace a:=Ap a s;have cG:bG=false:=by simpa using s
  refine Am rfl s<|cr<|wA (v:=.bool false) rfl<|wn<|Av<|AG ?_;obtain rfl:=oi a;refine Ay rfl rfl ?_;exact⟨bK.AS,rfl⟩
 ·replace a:=Aq a s;have cH:bG=true:=by simpa using s
  refine An rfl s<|cn<|Af<|cr<|wA (v:=I 0) rfl<|wn<|AI ?_;replace a:=bind_some a;obtain⟨bO,aB,a⟩:=a;refine BX (fun bP q aH=>(bP=.ret∧∃aC,bO=.inl aC∧Fo X0 26 q∧sl q 4=.bool aC∧Hp FN [] w [some b1] aH)∨(bP=.exit 0∧∃aC,bO=.inr aC∧Fo X0 26 q∧Hp FN [] w [some b1] aH)) ?b8 ?b9
  case b8=>
   clear a;refine BW (fun bQ q aH=>∃i,AL a7 h u bQ i=some bO∧Fo X0 26 q∧sl q 1=.slice j u.length m∧sl q 2=pt b1 0∧sl q 5=I i∧Hp FN [] w [some b1] aH∧Bk aH b1 26 (AE d e f g b c h).toArray∧Sl Az aH (zf Z w [some b1]) d e h.Ax∧Sl (Bs (Ao .i64)) aH (zf Z w [some b1]) f g h.Bv∧Sl AH aH (zf Z w [some b1]) b c h.AQ∧Sl (Ao .i64) aH (zf Z w [some b1]) j m u) a7 ?cA ?cB
   case cA=>
    intro st;have bH:=(aK.bk.ext a9);have ⟨aX,aY,aZ,a0⟩:=Et x y z aA (Ac a9);exact⟨(0:Int),aB,qo st,sp st 1 a8,sp st 2 rfl,sp st 5 rfl,bK,bH,aX,aY,aZ,a0⟩
   case cB=>
    rintro(_|bQ) cL cM ⟨i,aB,bR,aR,r,aI,bL,o,aM,aN,t,aO⟩
    ·exact absurd (show none=some _ from aB) (by simp)
    rw[AL.eq_2] at aB;have a:=aB;clear aB;refine ro bR<|Af<|cr<|wM (v:=I i) aI<|wD (fun st=>Ad (ee st r) (II _ _))<|wD (fun st=>As (v:=.slice b h.AQ.length c) JI (eR st) o rfl)<|wD (fun st=>Be Tryz.underlying24 (eR st))<|wD (fun st=>B9 (eR st) (eR st))<|wn ?_;rcases Ae (decide (i<(h.AQ.length:Int))) with aL|aL
    ·replace a:=Ap a aL;refine Am rfl aL<|cn<|Af<|AI<|Af ?_;replace a:=AP a;obtain⟨i10,p,bS,bT,bU,a⟩:=a;obtain⟨cC,cD,_,bV,rfl,bW⟩:=Sl.elem t (by decide) bT;refine BK 7 [Kc (.agg (AE d e f g b c h).toArray),Kc (.slice j u.length m),Kc (pt b1 2),Kc (.slice b h.AQ.length c),Kc (I i),Kc (pt cC (cD+i10*4)),Kc (.agg #[.bool p.Ce,I p.Number,I p.AM,I p.AN])] mixed rfl rfl
         (Aa (oD (fun K=>AK (l:=(AE d e f g b c h)) Dt (es ((K.out 2 rfl).trans r)) (o.ext K.AD) rfl rfl))
         (Aa (oD (fun K=>Au (es ((K.out 1 rfl).trans aR))))
         (Aa (oD (fun K=>Ad (es ((K.out 2 rfl).trans r)) (II _ _)))
         (Aa (oD (fun K=>As JI (es (K.dq 2 19)) (o.ext K.AD) rfl))
         (Aa (oD (fun K=>Au (es ((K.out 5 rfl).trans aI))))
         (Aa (oD (fun K=>BD (k:=i10) Tryz.underlying24 OX (es (K.dq 3 20)) bV (es (K.dq 4 21)) bS bU))
         (Aa (oD (fun K=>DF (l:=[.bool p.Ce,I p.Number,I p.AM,I p.AN]) OS (es (K.dq 5 22)) (bW.mv (Ac K.AD)) rfl rfl))
         (BI _)))))))) ?_
     intro cQ;rintro _ rfl _ rfl _ rfl _ rfl _ rfl _ rfl _ rfl bA;have cE:=bL.ext bA;have ⟨aD,aE,aF,aG⟩:=Et aM aN t aO (Ac bA);replace a:=bind_some a;obtain⟨aS,bX,a⟩:=a;refine wE (fun st=>Aj Lk (eR st) (Dx (eR st) (eR st) (eR st)) (a146 a7 h u p d e f g b c j m ZA _ aD.all aE.all aF.all aG.all aS bX)) ?_;rintro _ cN ⟨aP,rfl⟩;have bM:=cE.ext aP;refine wD (fun st=>CJ (eR st))<|wn ?_;rcases Ae (!aS) with n|n
     ·replace a:=Ap a n;have bZ:aS=false:=by simpa using n
      refine Am rfl n<|cr<|wA (v:=.bool false) rfl<|wn<|Av<|Dd<|AG ?_;obtain rfl:=oi a;refine BC (fun st=>?_);exact .inl ⟨rfl,false,rfl,qo st,sp st 4 rfl,bM⟩
     ·replace a:=Aq a n;have b4:aS=true:=by simpa using n
      refine An rfl n<|Ct<|CS<|Al<|wM (v:=I i) aI ?_;replace a:=AF a;obtain⟨bY,a⟩:=a;refine wD (fun st=>BG (eR st) (eR st) bY)<|wA (v:=I (i+1)) rfl<|AU ?_;have bI:=((o.ext bA).ext aP);have ⟨a2,a3,a4,a5⟩:=Et aD aE aF aG (Ac aP);refine Bi bQ (Nat.lt_succ_self _) (fun st=>?_);exact⟨(i+1),a,qo st,sp st 1 aR,sp st 2 r,sp st 5 rfl,bM,bI,a2,a3,a4,a5⟩
    ·replace a:=Aq a aL;refine An rfl aL<|Dq ?_;obtain rfl:=oi a;refine BC (fun st=>?_);exact .inr ⟨rfl,(),rfl,qo st,bL⟩
  case b9=>
   rintro bP cI cO (⟨rfl,aC,rfl,aJ,bB,aQ⟩|⟨rfl,aC,rfl,aJ,aQ⟩)
   ·skip
    replace a:=C9 a;refine lf aJ<|Dd ?_;obtain rfl:=oi a;refine Ay rfl bB ?_;exact⟨aQ.AS,rfl⟩
   ·skip
    replace a:=Da a;refine lf aJ<|AZ<|BS<|cr<|wA (v:=.bool true) rfl<|wn<|Av ?_;obtain rfl:=oi a;refine Ay rfl rfl ?_;exact⟨aQ.AS,rfl⟩
theorem a28 a3 q f g h i j m(Z:Nat→Prop) w(bQ:Sl Az w Z f g q.Ax)(bR:Sl (Bs (Ao .i64)) w Z h i q.Bv)(bS:Sl AH w Z j m q.AQ) cB(a:By a3 q=some cB):
 B7 Tryz.prog 28 #[.agg (AE f g h i j m q).toArray] w (fun v w'=>Ext w w'∧(Fq (Bs (Ao .i64))).R w' (zf Z w []) v cB):=by
 unfold By at a;refine rq (N:=23) Tryz.func28 fun cW ha cX=>?_;have b5:=sA 0 ha;clear ha;have bY:Hp FN [] w [] w:=Hp.start (BL.none w);have ⟨a4,a5,a7⟩:=DU bQ bR bS (Bd (Z:=Z) (L:=[]) w);refine cr<|wE (fun st=>BP (v:=.agg (AE f g h i j m q).toArray) (cs:=(AE f g h i j m q).toArray) (ee st b5) rfl) ?_;rintro _ w1 ⟨b1,rfl,a0⟩;have cC:=bY.nb a0;have cU:=bY.BU a0;refine wA (v:=.slice none 0 0) rfl<|wr<|wA (v:=.slice none 0 0) rfl<|wn<|Af<|cr<|wA (v:=I 0) rfl<|wn<|AI ?_;have cD:=cC.nil;have cE:BH (Bs (Ao .i64)) 31 w.heap.size w1 (zf Z w [none,some b1]) none 0 ([]:List (List Int)):=BH.nil _ _ _ _ _;replace a:=bind_some a;obtain⟨z2,aN,a⟩:=a;refine BX (fun cF aF aR=>(cF=.exit 0∧∃c n,Fo X0 23 aF∧sl aF 3=.slice c z2.length n∧Hp FN [] w [ob c,some b1] aR∧BH (Bs (Ao .i64)) 31 w.heap.size aR (zf Z w [ob c,some b1]) c n z2)) ?cG ?cH
 case cG=>
  clear a;refine BW (fun bT aF aR=>∃r,∃d,∃b t,Bj a3 q bT r d=some z2∧Fo X0 23 aF∧sl aF 1=pt b1 0∧sl aF 3=.slice b r.length t∧sl aF 4=I d∧Hp FN [] w [ob b,some b1] aR∧BH (Bs (Ao .i64)) 31 w.heap.size aR (zf Z w [ob b,some b1]) b t r∧Bk aR b1 26 (AE f g h i j m q).toArray∧Sl Az aR (zf Z w [ob b,some b1]) f g q.Ax∧Sl (Bs (Ao .i64)) aR (zf Z w [ob b,some b1]) h i q.Bv∧Sl AH aR (zf Z w [ob b,some b1]) j m q.AQ) a3 ?cI ?cJ
  case cI=>
   intro st;have bU:=a0.bk;have ⟨a8,a9,bA⟩:=DU a4 a5 a7 (mt (AA a0) B8);exact⟨([]:List (List Int)),(0:Int),none,0,aN,qo st,sp st 1 rfl,sp st 3 rfl,sp st 4 rfl,cD,cE,bU,a8,a9,bA⟩
  case cJ=>
   rintro(_|bT) cY cZ ⟨r,d,b,t,aN,b6,y,aS,aE,cK,x,aV,aG,aH,aI⟩
   ·exact absurd (show none=some _ from aN) (by simp)
   rw[Bj.eq_2] at aN;have a:=aN;clear aN;refine ro b6<|Af<|cr<|wM (v:=I d) aE<|wD (fun st=>AK (l:=(AE f g h i j m q)) Dt (ee st y) aV rfl rfl) ?_;replace a:=bind_some a;obtain⟨cL,cM,a⟩:=a;refine wE (fun st=>Aj Ol (eR st) (Cy (eR st)) (a59 a3 q f g h i j m ZA _ aG.all aH.all aI.all cL cM)) ?_;rintro _ c5 ⟨z,rfl⟩;have bK:=cK.ext z;refine wD (fun st=>B9 (eR st) (eR st))<|wn ?_;rcases Ae (decide (d<cL)) with aW|aW
   ·replace a:=Ap a aW;refine Am rfl aW<|cn<|Af<|AI<|Af<|Al ?_;have a2:=(aV.ext z);refine wD (fun st=>AK (l:=(AE f g h i j m q)) Dt (ee st y) a2 rfl rfl)<|wM (v:=I d) aE ?_;have ⟨aO,aP,aQ⟩:=DU aG aH aI (Ac z);replace a:=bind_some a;obtain⟨aJ,cN,a⟩:=a;refine wE (fun st=>Aj Pq (eR st) (CN (eR st) (eR st)) (U7 a3 q d f g h i j m (zf Z w [ob b,some b1]) _ aO aP aQ aJ cN)) ?_;rintro _ c6 ⟨aK,⟨o,p,rfl,aA⟩⟩;have cO:=bK.ext aK;have aA:=aA.mv (bK.CQ (Nat.le_refl _));refine wA (v:=.slice o aJ.length p) rfl<|wn<|Af<|Al ?_;have aT:=(a2.ext aK);refine wD (fun st=>AK (l:=(AE f g h i j m q)) Dt (ee st y) aT rfl rfl)<|wM (v:=.slice o aJ.length p) rfl ?_;have ⟨aB,aC,aD⟩:=DU aO aP aQ (Ac aK);replace a:=bind_some a;obtain⟨cP,cQ,a⟩:=a;refine wE (fun st=>Aj Ll (eR st) (CN (eR st) (eR st)) (O6 a3 q aJ f g h i j m o p ZA _ aB.all aC.all aD.all aA.all cP cQ)) ?_;rintro _ c0 ⟨u,rfl⟩;have bL:=cO.ext u;refine wn ?_;rcases Ae (cP) with aL|aL
    ·replace a:=Ap a aL;refine Am rfl aL<|Al<|wM (v:=.slice b r.length t) aS<|wM (v:=.slice o aJ.length p) rfl<|wE (fun st=>Cx (e:=31) (vs:= #[(0,.slice o aJ.length p)]) (cs:= #[.slice o aJ.length p]) (I5 (eR st)) (by kernel_rfl)) ?_;rintro _ c1 ⟨c2,rfl,s⟩;have aX:=bL.nb s;have cR:=bL.BU s;have bB:=((((x.ext z (Ac z)).ext aK (Ac aK)).ext u (Ac u)).ext s.gr (AA s));replace a:=Ci a;obtain⟨bM,a⟩:=a;have aY:=((aA.mv (Ac u)).mv (AA s));refine wE (fun st=>Hg (ys:=[aJ]) Tryz.underlying23 Kr rfl rfl (by decide) (eR st) rfl (eR st) bB (GK (CM:=[[.slice o aJ.length p]]) s.bk ⟨⟨_,_,rfl,aY⟩,trivial⟩ rfl) (by have:=bM;simp only[maxLen];omega) (by have:=bM;omega) aX.sz (by simp)) ?_;rintro _ c3 ⟨bZ,b4,rfl,aU,aZ,b7⟩;have cS:=aX.row aU 1 rfl aZ;have b8:=Eb b7 (aX.DE aU 1 rfl (fun k hk=>(aZ k hk).1));refine wA (v:=.slice bZ ((r++[aJ]).length) b4) rfl<|AU<|CS<|Al<|wM (v:=I d) aE ?_;replace a:=AF a;obtain⟨b9,a⟩:=a;refine wD (fun st=>BG (eR st) (eR st) b9)<|wA (v:=I (d+1)) rfl<|AU ?_;have cT:=cS.erase 0;have bN:=(b8.up (AV 0));have bV:=(((aT.ext u).ext s.gr).gr aU (aX.nq 2 1));have ⟨bC,bD,bE⟩:=DU aB aC aD (mt (Ac u) (mt (AA s) (mt (aX.DE aU 1 rfl (fun k hk=>(aZ k hk).1)) (AV 0))));refine Bi bT (Nat.lt_succ_self _) (fun st=>?_);exact⟨(r++[aJ]),(d+1),bZ,b4,a,qo st,sp st 1 y,sp st 3 rfl,sp st 4 rfl,cT,bN,bV,bC,bD,bE⟩
    ·replace a:=Aq a aL;refine An rfl aL<|Ct<|CS<|Al<|wM (v:=I d) aE ?_;replace a:=AF a;obtain⟨cA,a⟩:=a;refine wD (fun st=>BG (eR st) (eR st) cA)<|wA (v:=I (d+1)) rfl<|AU ?_;have bF:=(((x.ext z (Ac z)).ext aK (Ac aK)).ext u (Ac u));have bW:=(aT.ext u);have ⟨bG,bH,bI⟩:=DU aB aC aD (Ac u);refine Bi bT (Nat.lt_succ_self _) (fun st=>?_);exact⟨r,(d+1),b,t,a,qo st,sp st 1 y,sp st 3 aS,sp st 4 rfl,bL,bF,bW,bG,bH,bI⟩
   ·replace a:=Aq a aW;refine An rfl aW<|Dq ?_;obtain rfl:=oi a;have bJ:=(x.ext z (Ac z));refine BC (fun st=>?_);exact⟨rfl,b,t,qo st,sp st 3 aS,bK,bJ⟩
 case cH=>
  rintro cF cV c4 (⟨rfl,c,n,bX,bO,bP,aM⟩);refine lf bX<|AZ<|BS<|cr<|wM (v:=.slice c z2.length n) bO<|wA (v:=.slice c z2.length n) rfl<|wn<|Av ?_;obtain rfl:=oi a;refine Ay rfl rfl ?_;exact⟨bP.AS,⟨_,_,rfl,bP.HP (M:=[]) 0 rfl [] rfl trivial aM⟩⟩
theorem O7 bZ c aU f g i j m o p q r s d e z aA(Z:Nat→Prop) w(b6:Sl Az w Z f g c.Ag)(b7:Sl (Bs (Ao .i64)) w Z i j c.Ab)(b8:Sl AH w Z m o c.Ak)(b9:Sl Ba w Z p q c.AJ)(cA:Sl Bc w Z r s c.Aw)(cB:Sl Bp w Z d e c.Ar)(cC:Sl (Ao .i64) w Z z aA aU) cV(a:Cg bZ c aU=some cV):
 B7 Tryz.prog 114 #[.agg (Ai f g i j m o p q r s d e c).toArray,.slice z aU.length aA] w (fun v w'=>Ext w w'∧(DT .i64).R w' (zf Z w []) v cV):=by
 unfold Cg at a;refine rq (N:=41) Tryz.func114 fun dO ha dP=>?_;have cK:=sA 0 ha;have cL:=sA 1 ha;clear ha;have cH:Hp FN [] w [] w:=Hp.start (BL.none w);have ⟨a7,a8,a9,bA,bB,bC,bD⟩:=Ea b6 b7 b8 b9 cA cB cC (Bd (Z:=Z) (L:=[]) w);refine cr<|wE (fun st=>BP (v:=.agg (Ai f g i j m o p q r s d e c).toArray) (cs:=(Ai f g i j m o p q r s d e c).toArray) (ee st cK) rfl) ?_;rintro _ w1 ⟨b1,rfl,a4⟩;have cW:=cH.nb a4;have dL:=cH.BU a4;refine wA (v:=I 0) rfl<|wr<|wA (v:=I 0) rfl<|wn<|Af<|cr<|wA (v:=I 0) rfl<|wn<|AI ?_;replace a:=bind_some a;obtain⟨z2,aP,a⟩:=a;refine BX (fun cX aH aJ=>(cX=.exit 0∧Fo X0 41 aH∧sl aH 5=I z2∧Hp FN [] w [some b1] aJ)) ?cY ?cZ
 case cY=>
  clear a;refine BW (fun cD aH aJ=>∃y,∃b,Bn bZ c aU cD y b=some z2∧Fo X0 41 aH∧sl aH 1=.slice z aU.length aA∧sl aH 2=pt b1 0∧sl aH 5=I y∧sl aH 6=I b∧Hp FN [] w [some b1] aJ∧Bk aJ b1 67 (Ai f g i j m o p q r s d e c).toArray∧Sl Az aJ (zf Z w [some b1]) f g c.Ag∧Sl (Bs (Ao .i64)) aJ (zf Z w [some b1]) i j c.Ab∧Sl AH aJ (zf Z w [some b1]) m o c.Ak∧Sl Ba aJ (zf Z w [some b1]) p q c.AJ∧Sl Bc aJ (zf Z w [some b1]) r s c.Aw∧Sl Bp aJ (zf Z w [some b1]) d e c.Ar∧Sl (Ao .i64) aJ (zf Z w [some b1]) z aA aU) bZ ?c0 ?c1
  case c0=>
   intro st;have ⟨bE,bF,bG,bH,bI,bJ,bK⟩:=Ea a7 a8 a9 bA bB bC bD (AA a4);exact⟨(0:Int),(0:Int),aP,qo st,sp st 1 cL,sp st 2 rfl,sp st 5 rfl,sp st 6 rfl,cW,a4.bk,bE,bF,bG,bH,bI,bJ,bK⟩
  case c1=>
   rintro(_|cD) dQ dR ⟨y,b,aP,cM,aS,t,aT,u,b4,aK,aX,aY,aZ,a0,a2,aL,a3⟩
   ·exact absurd (show none=some _ from aP) (by simp)
   rw[Bn.eq_2] at aP;have a:=aP;clear aP;refine ro cM<|Af<|cr<|wM (v:=I b) u<|wD (fun st=>Ad (ee st t) (EN _ _))<|wD (fun st=>As (v:=.slice d c.Ar.length e) FE (eR st) aK rfl)<|wD (fun st=>Be Tryz.underlying65 (eR st))<|wD (fun st=>B9 (eR st) (eR st))<|wn ?_;rcases Ae (decide (b<(c.Ar.length:Int))) with aV|aV
   ·replace a:=Ap a aV;refine Am rfl aV<|cn<|Af<|AI<|cr<|wD (fun st=>Ad (ee st t) (EN _ _))<|wD (fun st=>As (v:=.slice d c.Ar.length e) FE (eR st) aK rfl)<|wM (v:=I b) u ?_;replace a:=AP a;obtain⟨i4,aO,c2,c3,c4,a⟩:=a;obtain⟨dU,dV,_,c5,rfl,c6⟩:=Sl.elem aL (by decide) c3;refine wD (fun st=>BD (k:=i4) Tryz.underlying65 J4 (eR st) c5 (eR st) c2 c4)<|wD (fun st=>Ad (eR st) (MY _ _ _))<|wD (fun st=>L9 (l:=[I aO.CA,I aO.CB]) GR (eR st) c6 rfl rfl)<|wE (fun st=>CR (cs:= #[I 0,I 0]) IJ rfl) ?_;rintro _ dW ⟨c7,rfl,aQ⟩;have a5:=b4.nb aQ;have dM:=b4.BU aQ;refine Cs rfl rfl (fun st=>Ca (n:=2) (l:=[I aO.CA,I aO.CB]) (DO:= #[I aO.CA,I aO.CB]) (eR st) (eR st) Gu aQ.bk rfl rfl (show 0+2≤2 by decide) (BJ rfl) rfl) ?_;rintro _ dX aR;have c8:=a5.gr aR.gr 0 rfl;refine wn<|Af ?_;have aI:=((aK.ext aQ.gr).gr aR.gr (a5.nq 1 0));replace a:=AP a;obtain⟨i8,c9,dA,dB,dC,a⟩:=a;have x:=((aL.mv (AA aQ)).mv (a5.Co aR.gr 0 rfl));obtain⟨dD,dE,_,dF,rfl,dG⟩:=Sl.elem x (by decide) dB;have ⟨aB,aC,aD,aE,aF,aG⟩:=Cp aX aY aZ a0 a2 a3 (mt (AA aQ) (a5.Co aR.gr 0 rfl));replace a:=bind_some a;obtain⟨cN,dH,a⟩:=a;refine BK 13 [Kc (.agg (Ai f g i j m o p q r s d e c).toArray),Kc (.slice z aU.length aA),Kc (pt b1 6),Kc (.slice d c.Ar.length e),Kc (I b),Kc (pt dD (dE+i8*3)),Kc (pt dD (dE+i8*3)),Kc (I c9.Ce),Kc (I cN),Kc (pt c7 0),Kc (I aO.CA),Kc (pt c7 1),Kc (I aO.CB)] mixed rfl rfl
        (Aa (oD (fun K=>AK (l:=(Ai f g i j m o p q r s d e c)) Cc (es ((K.out 2 rfl).trans t)) (aI.ext K.AD) rfl rfl))
        (Aa (oD (fun K=>Au (es ((K.out 1 rfl).trans aS))))
        (Aa (oD (fun K=>Ad (es ((K.out 2 rfl).trans t)) (EN _ _)))
        (Aa (oD (fun K=>As FE (es (K.dq 2 23)) (aI.ext K.AD) rfl))
        (Aa (oD (fun K=>Au (es ((K.out 6 rfl).trans u))))
        (Aa (oD (fun K=>BD (k:=i8) Tryz.underlying65 J4 (es (K.dq 3 24)) dF (es (K.dq 4 25)) dA dC))
        (Aa (oD (fun K=>Ad (es (K.dq 5 26)) (Mp _ _ _)))
        (Aa (oD (fun K=>Bb Bh (es (K.dq 6 27)) (dG.mv (Ac K.AD)) rfl))
        (Aa (oE (fun K=>(Aj Mq rfl (Dx (es (K.dq 0 21)) (es (K.dq 1 22)) (es (K.dq 7 28))) (QQ bZ c aU c9.Ce f g i j m o p q r s d e z aA ZA _ (aB.mv (Ac K.AD)).all (aC.mv (Ac K.AD)).all (aD.mv (Ac K.AD)).all (aE.mv (Ac K.AD)).all (aF.mv (Ac K.AD)).all (x.mv (Ac K.AD)).all (aG.mv (Ac K.AD)).all cN dH)).mono (fun _ _ h=>⟨h.2,h.1⟩)))
        (Aa (oD (fun K=>Ad (K.kO 7) (JG _ _)))
        (Aa (oD (fun K=>As Bh (es (K.dq 9 30)) (aR.bk.ext K.AD) rfl))
        (Aa (oD (fun K=>Ad (K.kO 7) (Le _ _)))
        (Aa (oD (fun K=>As Bh (es (K.dq 11 32)) (aR.bk.ext K.AD) rfl))
        (BI _)))))))))))))) ?_
    intro dY;rintro _ rfl _ rfl _ rfl _ rfl _ rfl _ rfl _ rfl _ rfl _ rfl _ rfl _ rfl _ rfl _ rfl aW;have dI:=c8.ext aW;replace a:=bind_some a;obtain⟨cI,cO,a⟩:=a;refine wE (fun st=>Aj DR (eR st) (Dx (eR st) (eR st) (eR st)) (GZ bZ cN aO.CA aO.CB ZA _ cI cO)) ?_;rintro _ dS ⟨aM,rfl⟩;have cJ:=dI.ext aM;refine wn ?_;rcases Ae (cI) with aN|aN
    ·replace a:=Ap a aN;refine Am rfl aN<|Al<|wM (v:=I y) aT<|wM (v:=I b) u ?_;replace a:=Dy a;obtain⟨cP,a⟩:=a;refine wD (fun st=>Er (k:=.u64) Ho Tryz.underlying91 (eR st) cP) ?_;replace a:=E9 a;obtain⟨cQ,a⟩:=a;refine wD (fun st=>IM (eR st) (eR st) cQ) ?_;replace a:=G6 a;obtain⟨cR,a⟩:=a;refine wD (fun st=>L6 (eR st) (eR st) cR)<|wA (v:=I (Ft y (C3 (1:Int) b))) rfl<|AU<|CS<|Al<|wM (v:=I b) u ?_;replace a:=AF a;obtain⟨cS,a⟩:=a;refine wD (fun st=>BG (eR st) (eR st) cS)<|wA (v:=I (b+1)) rfl<|AU ?_;have dJ:=cJ.erase 0;have cE:=((aI.ext aW).ext aM);have ⟨bL,bM,bN,bO,bP,bQ,bR⟩:=Ea aB aC aD aE aF x aG (mt (Ac aW) (mt (Ac aM) (AV 0)));refine Bi cD (Nat.lt_succ_self _) (fun st=>?_);exact⟨(Ft y (C3 (1:Int) b)),(b+1),a,qo st,sp st 1 aS,sp st 2 t,sp st 5 rfl,sp st 6 rfl,dJ,cE,bL,bM,bN,bO,bP,bQ,bR⟩
    ·replace a:=Aq a aN;refine An rfl aN<|Ct<|CS<|Al<|wM (v:=I b) u ?_;replace a:=AF a;obtain⟨cT,a⟩:=a;refine wD (fun st=>BG (eR st) (eR st) cT)<|wA (v:=I (b+1)) rfl<|AU ?_;have dK:=cJ.erase 0;have cF:=((aI.ext aW).ext aM);have ⟨bS,bT,bU,bV,bW,bX,bY⟩:=Ea aB aC aD aE aF x aG (mt (Ac aW) (mt (Ac aM) (AV 0)));refine Bi cD (Nat.lt_succ_self _) (fun st=>?_);exact⟨y,(b+1),a,qo st,sp st 1 aS,sp st 2 t,sp st 5 aT,sp st 6 rfl,dK,cF,bS,bT,bU,bV,bW,bX,bY⟩
   ·replace a:=Aq a aV;refine An rfl aV<|Dq ?_;obtain rfl:=oi a;refine BC (fun st=>?_);exact⟨rfl,qo st,sp st 5 aT,b4⟩
 case cZ=>
  rintro cX dN dT (⟨rfl,cG,b5,cU⟩);refine lf cG<|AZ<|BS<|cr<|wM (v:=I z2) b5<|wA (v:=I z2) rfl<|wn<|Av ?_;obtain rfl:=oi a;refine Ay rfl rfl ?_;exact⟨cU.AS,rfl⟩
theorem Qd aM b e f g h i j l m n o c d(Z:Nat→Prop) w(q:Sl Az w Z e f b.Ag)(r:Sl (Bs (Ao .i64)) w Z g h b.Ab)(s:Sl AH w Z i j b.Ak)(t:Sl Ba w Z l m b.AJ)(u:Sl Bc w Z n o b.Aw)(x:Sl Bp w Z c d b.Ar) aG(a:Ch aM b=some aG):
 B7 Tryz.prog 61 #[.agg (Ai e f g h i j l m n o c d b).toArray] w (fun v w'=>Ext w w'∧(DT .i64).R w' (zf Z w []) v aG):=by
 unfold Ch at a;refine rq (N:=9) Tryz.func61 fun aN ha aO=>?_;have z:=sA 0 ha;clear ha;have y:Hp FN [] w [] w:=Hp.start (BL.none w);have ⟨aA,aB,aC,aD,aE,aF⟩:=Cp q r s t u x (Bd (Z:=Z) (L:=[]) w);refine cr<|wE (fun st=>BP (v:=.agg (Ai e f g h i j l m n o c d b).toArray) (cs:=(Ai e f g h i j l m n o c d b).toArray) (ee st z) rfl) ?_;rintro _ w1 ⟨b1,rfl,p⟩;have aH:=y.nb p;have aL:=y.BU p;refine wA (v:=I 0) rfl<|wr<|wD (fun st=>Ad (eR st) (EN _ _))<|wD (fun st=>As (v:=.slice c b.Ar.length d) FE (eR st) p.bk rfl)<|wD (fun st=>Be Tryz.underlying65 (eR st)) ?_;replace a:=Dy a;obtain⟨aI,a⟩:=a;refine wD (fun st=>Er (k:=.u64) Ho Tryz.underlying91 (eR st) aI) ?_;replace a:=E9 a;obtain⟨aJ,a⟩:=a;refine wD (fun st=>IM (eR st) (eR st) aJ) ?_;replace a:=AF a;obtain⟨aK,a⟩:=a;refine wD (fun st=>El (eR st) (eR st) aK)<|wA (v:=I ((C3 (1:Int) (b.Ar.length:Int))-1)) rfl<|wn<|Av ?_;obtain rfl:=oi a;refine Ay rfl rfl ?_;exact⟨aH.AS,rfl⟩
theorem a53 bN d f g i j m n p q r s t u(Z:Nat→Prop) w(cQ:Sl Az w Z f g d.Ag)(cR:Sl (Bs (Ao .i64)) w Z i j d.Ab)(cS:Sl AH w Z m n d.Ak)(cT:Sl Ba w Z p q d.AJ)(cU:Sl Bc w Z r s d.Aw)(cV:Sl Bp w Z t u d.Ar) dL(a:Cq bN d=some dL):
 B7 Tryz.prog 53 #[.agg (Ai f g i j m n p q r s t u d).toArray] w (fun v w'=>Ext w w'∧(Fq (Bs (Ao .i64))).R w' (zf Z w []) v dL):=by
 unfold Cq at a;refine rq (N:=32) Tryz.func53 fun eB ha eC=>?_;have c8:=sA 0 ha;clear ha;have c2:Hp FN [] w [] w:=Hp.start (BL.none w);have ⟨bO,bP,bQ,bR,bS,bT⟩:=Cp cQ cR cS cT cU cV (Bd (Z:=Z) (L:=[]) w);refine cr<|wE (fun st=>BP (v:=.agg (Ai f g i j m n p q r s t u d).toArray) (cs:=(Ai f g i j m n p q r s t u d).toArray) (ee st c8) rfl) ?_;rintro _ w1 ⟨b1,rfl,a9⟩;have c3:=c2.nb a9;have d6:=c2.BU a9;refine wA (v:=.slice none 0 0) rfl<|wr<|wA (v:=.slice none 0 0) rfl<|wr<|wD (fun st=>Ad (eR st) (DQ _ _))<|wD (fun st=>AK (l:=[.slice f d.Ag.length g,.slice i d.Ab.length j,.slice m d.Ak.length n]) Dt (eR st) a9.bk rfl rfl) ?_;have ⟨bA,bB,bC⟩:=DU bO bP bQ (AA a9);replace a:=bind_some a;obtain⟨bF,dM,a⟩:=a;refine wE (fun st=>Aj Kw (eR st) (Cy (eR st)) (a28 bN (⟨d.Ag,d.Ab,d.Ak⟩:AO) f g i j m n (zf Z w [some b1]) _ bA bB bC bF dM)) ?_;rintro _ d7 ⟨bM,⟨aD,aE,rfl,aW⟩⟩;have dN:=c3.ext bM;have aW:=aW.mv (c3.CQ (Nat.le_refl _));refine wA (v:=.slice aD bF.length aE) rfl<|wn<|Af<|cr<|wA (v:=I 0) rfl<|wn<|AI ?_;have dO:=dN.nil;have dP:BH (Bs (Ao .i64)) 31 w.heap.size d7 (zf Z w [none,some b1]) none 0 ([]:List (List Int)):=BH.nil _ _ _ _ _;replace a:=bind_some a;obtain⟨z4,bD,a⟩:=a;refine BX (fun dQ aS aL=>(dQ=.exit 0∧∃c x,Fo X0 32 aS∧sl aS 3=.slice c z4.length x∧Hp FN [] w [ob c,some b1] aL∧BH (Bs (Ao .i64)) 31 w.heap.size aL (zf Z w [ob c,some b1]) c x z4)) ?dR ?dS
 case dR=>
  clear a;refine BW (fun cW aS aL=>∃aB,∃o,∃b aF,Bt bN d bF cW aB o=some z4∧Fo X0 32 aS∧sl aS 1=pt b1 0∧sl aS 3=.slice b aB.length aF∧sl aS 4=.slice aD bF.length aE∧sl aS 5=I o∧Hp FN [] w [ob b,some b1] aL∧BH (Bs (Ao .i64)) 31 w.heap.size aL (zf Z w [ob b,some b1]) b aF aB∧Bk aL b1 67 (Ai f g i j m n p q r s t u d).toArray∧Sl Az aL (zf Z w [ob b,some b1]) f g d.Ag∧Sl (Bs (Ao .i64)) aL (zf Z w [ob b,some b1]) i j d.Ab∧Sl AH aL (zf Z w [ob b,some b1]) m n d.Ak∧Sl Ba aL (zf Z w [ob b,some b1]) p q d.AJ∧Sl Bc aL (zf Z w [ob b,some b1]) r s d.Aw∧Sl Bp aL (zf Z w [ob b,some b1]) t u d.Ar∧Sl (Bs (Ao .i64)) aL (zf Z w [ob b,some b1]) aD aE bF) bN ?dT ?dU
  case dT=>
   intro st;have cX:=(a9.bk.ext bM);have ⟨bU,bV,bW⟩:=DU bA bB bC (mt (Ac bM) B8);have ⟨bX,bY,bZ⟩:=DU bR bS bT (mt (AA a9) (mt (Ac bM) B8));have bJ:=(aW.mv B8);exact⟨([]:List (List Int)),(0:Int),none,0,bD,qo st,sp st 1 rfl,sp st 3 rfl,sp st 4 rfl,sp st 5 rfl,dO,dP,cX,bU,bV,bW,bX,bY,bZ,bJ⟩
  case dU=>
   rintro(_|cW) eD eE ⟨aB,o,b,aF,bD,c9,aT,bG,aI,aJ,c4,aH,aK,aX,aY,aZ,a0,a2,a3,aC⟩
   ·exact absurd (show none=some _ from bD) (by simp)
   rw[Bt.eq_2] at bD;have a:=bD;clear bD;refine ro c9<|Af<|cr<|wM (v:=I o) aJ<|wM (v:=.slice aD bF.length aE) aI<|wD (fun st=>Be Tryz.underlying23 (eR st))<|wD (fun st=>B9 (eR st) (eR st))<|wn ?_;rcases Ae (decide (o<(bF.length:Int))) with bI|bI
   ·replace a:=Ap a bI;refine Am rfl bI<|cn<|Af<|AI<|Af ?_;replace a:=AP a;obtain⟨i8,dV,dW,dX,dY,a⟩:=a;obtain⟨d8,d9,_,dZ,⟨cI,cJ,rfl,cY⟩,d0⟩:=Sl.Cz aC rfl dX;replace a:=bind_some a;obtain⟨dA,d1,a⟩:=a;refine BK 7 [Kc (.agg (Ai f g i j m n p q r s t u d).toArray),Kc (.slice aD bF.length aE),Kc (I o),Kc (pt d8 (d9+i8)),Kc (.slice cI dV.length cJ),Kc (I dA),Kc (.agg (Ai f g i j m n p q r s t u d).toArray)] mixed rfl rfl
        (Aa (oD (fun K=>AK (l:=(Ai f g i j m n p q r s t u d)) Cc (es ((K.out 1 rfl).trans aT)) (aK.ext K.AD) rfl rfl))
        (Aa (oD (fun K=>Au (es ((K.out 4 rfl).trans aI))))
        (Aa (oD (fun K=>Au (es ((K.out 5 rfl).trans aJ))))
        (Aa (oD (fun K=>AR (k:=i8) Tryz.underlying23 ES (es (K.dq 1 16)) dZ (es (K.dq 2 17)) dW dY))
        (Aa (oD (fun K=>Bb DB (es (K.dq 3 18)) (d0.mv (Ac K.AD)) rfl))
        (Aa (oE (fun K=>(Aj Lm rfl (CN (es (K.dq 0 15)) (es (K.dq 4 19))) (O7 bN d dV f g i j m n p q r s t u cI cJ ZA _ (aX.mv (Ac K.AD)).all (aY.mv (Ac K.AD)).all (aZ.mv (Ac K.AD)).all (a0.mv (Ac K.AD)).all (a2.mv (Ac K.AD)).all (a3.mv (Ac K.AD)).all (cY.mv (Ac K.AD)).all dA d1)).mono (fun _ _ h=>⟨h.2,h.1⟩)))
        (Aa (oD (fun K=>AK (l:=(Ai f g i j m n p q r s t u d)) Cc (es ((K.out 1 rfl).trans aT)) (aK.ext K.AD) rfl rfl))
        (BI _)))))))) ?_
    intro eN;rintro _ rfl _ rfl _ rfl _ rfl _ rfl _ rfl _ rfl aG;have d2:=c4.ext aG;have ⟨aM,aN,aO,aP,aQ,aR⟩:=Cp aX aY aZ a0 a2 a3 (Ac aG);replace a:=bind_some a;obtain⟨c5,dB,a⟩:=a;refine wE (fun st=>Aj LK (eR st) (Cy (eR st)) (Qd bN d f g i j m n p q r s t u ZA _ aM.all aN.all aO.all aP.all aQ.all aR.all c5 dB)) ?_;rintro _ eF ⟨y,rfl⟩;have cK:=d2.ext y;refine wD (fun st=>CT (eR st) (eR st))<|wn ?_;rcases Ae (dA==c5) with a4|a4
    ·replace a:=Ap a a4;refine Am rfl a4<|Al<|wM (v:=.slice b aB.length aF) bG<|wM (v:=.slice aD bF.length aE) aI<|wM (v:=I o) aJ ?_;replace a:=AP a;obtain⟨i13,a5,dC,dD,dE,a⟩:=a;have z:=((aC.mv (Ac aG)).mv (Ac y));obtain⟨eG,eH,_,dF,⟨aU,aV,rfl,cL⟩,dG⟩:=Sl.Cz z rfl dD;refine wD (fun st=>AR (k:=i13) Tryz.underlying23 ES (eR st) dF (eR st) dC dE)<|wD (fun st=>Bb (v:=.slice aU a5.length aV) DB (eR st) dG rfl)<|wE (fun st=>Cx (e:=31) (vs:= #[(0,.slice aU a5.length aV)]) (cs:= #[.slice aU a5.length aV]) (I5 (eR st)) (by kernel_rfl)) ?_;rintro _ eI ⟨eJ,rfl,aA⟩;have bE:=cK.nb aA;have d3:=cK.BU aA;have b4:=(((aH.ext aG (Ac aG)).ext y (Ac y)).ext aA.gr (AA aA));replace a:=Ci a;obtain⟨cM,a⟩:=a;have bK:=(cL.mv (AA aA));refine wE (fun st=>Hg (ys:=[a5]) Tryz.underlying23 Kr rfl rfl (by decide) (eR st) rfl (eR st) b4 (GK (CM:=[[.slice aU a5.length aV]]) aA.bk ⟨⟨_,_,rfl,bK⟩,trivial⟩ rfl) (by have:=cM;simp only[maxLen];omega) (by have:=cM;omega) bE.sz (by simp)) ?_;rintro _ eK ⟨c6,c7,rfl,a7,bH,dH⟩;have d4:=bE.row a7 1 rfl bH;have dI:=Eb dH (bE.DE a7 1 rfl (fun k hk=>(bH k hk).1));refine wA (v:=.slice c6 ((aB++[a5]).length) c7) rfl<|AU<|CS<|Al<|wM (v:=I o) aJ ?_;replace a:=AF a;obtain⟨dJ,a⟩:=a;refine wD (fun st=>BG (eR st) (eR st) dJ)<|wA (v:=I (o+1)) rfl<|AU ?_;have d5:=d4.erase 0;have cN:=(dI.up (AV 0));have cZ:=((((aK.ext aG).ext y).ext aA.gr).gr a7 (bE.nq 2 1));have ⟨b5,b6,b7,b8,b9,cA⟩:=Cp aM aN aO aP aQ aR (mt (Ac y) (mt (AA aA) (mt (bE.DE a7 1 rfl (fun k hk=>(bH k hk).1)) (AV 0))));have bL:=(((z.mv (AA aA)).mv (bE.DE a7 1 rfl (fun k hk=>(bH k hk).1))).mv (AV 0));refine Bi cW (Nat.lt_succ_self _) (fun st=>?_);exact⟨(aB++[a5]),(o+1),c6,c7,a,qo st,sp st 1 aT,sp st 3 rfl,sp st 4 aI,sp st 5 rfl,d5,cN,cZ,b5,b6,b7,b8,b9,cA,bL⟩
    ·replace a:=Aq a a4;refine An rfl a4<|Ct<|CS<|Al<|wM (v:=I o) aJ ?_;replace a:=AF a;obtain⟨dK,a⟩:=a;refine wD (fun st=>BG (eR st) (eR st) dK)<|wA (v:=I (o+1)) rfl<|AU ?_;have cB:=((aH.ext aG (Ac aG)).ext y (Ac y));have c0:=((aK.ext aG).ext y);have ⟨cC,cD,cE,cF,cG,cH⟩:=Cp aM aN aO aP aQ aR (Ac y);have z:=((aC.mv (Ac aG)).mv (Ac y));refine Bi cW (Nat.lt_succ_self _) (fun st=>?_);exact⟨aB,(o+1),b,aF,a,qo st,sp st 1 aT,sp st 3 bG,sp st 4 aI,sp st 5 rfl,cK,cB,c0,cC,cD,cE,cF,cG,cH,z⟩
   ·replace a:=Aq a bI;refine An rfl bI<|Dq ?_;obtain rfl:=oi a;refine BC (fun st=>?_);exact⟨rfl,b,aF,qo st,sp st 3 bG,c4,aH⟩
 case dS=>
  rintro dQ eA eM (⟨rfl,c,x,c1,cO,cP,a8⟩);refine lf c1<|AZ<|BS<|cr<|wM (v:=.slice c z4.length x) cO<|wA (v:=.slice c z4.length x) rfl<|wn<|Av ?_;obtain rfl:=oi a;refine Ay rfl rfl ?_;exact⟨cP.AS,⟨_,_,rfl,cP.HP (M:=[]) 0 rfl [] rfl trivial a8⟩⟩
theorem Ab0 bU b aR cU aW m o c d p q e f g i r s aA aB(Z:Nat→Prop) w(cB:Sl Az w Z m o b.Ag)(cC:Sl (Bs (Ao .i64)) w Z c d b.Ab)(cD:Sl AH w Z p q b.Ak)(cE:Sl Ba w Z e f b.AJ)(cF:Sl Bc w Z g i b.Aw)(cG:Sl Bp w Z r s b.Ar)(cH:Sl (Bs (Ao .i64)) w Z aA aB aR) dB(a:Gy bU b aR cU aW=some dB):
 B7 Tryz.prog 123 #[.agg (Ai m o c d p q e f g i r s b).toArray,.slice aA aR.length aB,I cU,I aW] w (fun v w'=>Ext w w'∧Cm.R w' (zf Z w []) v dB):=by
 unfold Gy at a;refine rq (N:=47) Tryz.func123 fun d6 ha d7=>?_;have cV:=sA 0 ha;have cW:=sA 1 ha;have cX:=sA 2 ha;have cY:=sA 3 ha;clear ha;have cN:Hp FN [] w [] w:=Hp.start (BL.none w);have ⟨a9,bA,bB,bC,bD,bE,bF⟩:=Ea cB cC cD cE cF cG cH (Bd (Z:=Z) (L:=[]) w);refine cr<|wE (fun st=>BP (v:=.agg (Ai m o c d p q e f g i r s b).toArray) (cs:=(Ai m o c d p q e f g i r s b).toArray) (ee st cV) rfl) ?_;rintro _ w1 ⟨b1,rfl,aD⟩;have cO:=cN.nb aD;have dZ:=cN.BU aD;refine wA (v:=.bool false) rfl<|wr<|wD (fun st=>Ad (eR st) (Hx _ _))<|wD (fun st=>As (v:=.slice g b.Aw.length i) IG (eR st) aD.bk rfl)<|wM (v:=I cU) cX ?_;replace a:=AP a;obtain⟨i2,x2,dC,dD,dE,a⟩:=a;have aN:=(bD.mv (AA aD));obtain⟨b2,eC,_,dF,rfl,dG⟩:=Sl.elem aN (by decide) dD;refine wD (fun st=>BD (k:=i2) Tryz.underlying64 Mr (eR st) dF (eR st) dC dE)<|wD (fun st=>DF (l:=[I x2.Dh,I x2.Df]) Wf (eR st) dG rfl rfl)<|wE (fun st=>CR (cs:= #[I 0,I 0]) Uu rfl) ?_;rintro _ eD ⟨b3,rfl,aE⟩;have aX:=cO.nb aE;have d0:=cO.BU aE;refine Cs rfl rfl (fun st=>Ca (n:=2) (l:=[I x2.Dh,I x2.Df]) (DO:= #[I x2.Dh,I x2.Df]) (eR st) (eR st) Mr aE.bk rfl rfl (show 0+2≤2 by decide) (BJ rfl) rfl) ?_;rintro _ eE aO;have dH:=aX.gr aO.gr 0 rfl;refine wn<|Af<|cr<|wA (v:=I 0) rfl<|wn<|AI ?_;replace a:=bind_some a;obtain⟨z5,aP,a⟩:=a;refine BX (fun cZ u t=>(cZ=.ret∧∃aQ,z5=.inl aQ∧Fo X0 47 u∧sl u 8=.bool aQ∧Hp FN [] w [some b3,some b1] t)∨(cZ=.exit 0∧∃aQ,z5=.inr aQ∧Fo X0 47 u∧sl u 3=I aW∧sl u 4=pt b1 0∧sl u 9=pt b3 0∧Hp FN [] w [some b3,some b1] t∧Bk t b1 67 (Ai m o c d p q e f g i r s b).toArray∧Bk t b3 126 #[I x2.Dh,I x2.Df]∧Sl Az t (zf Z w [some b3,some b1]) m o b.Ag∧Sl (Bs (Ao .i64)) t (zf Z w [some b3,some b1]) c d b.Ab∧Sl AH t (zf Z w [some b3,some b1]) p q b.Ak∧Sl Ba t (zf Z w [some b3,some b1]) e f b.AJ∧Sl Bc t (zf Z w [some b3,some b1]) g i b.Aw∧Sl Bp t (zf Z w [some b3,some b1]) r s b.Ar)) ?dI ?dJ
 case dI=>
  clear a;refine BW (fun c0 u t=>∃j,Dv bU b aR aW x2 c0 j=some z5∧Fo X0 47 u∧sl u 1=.slice aA aR.length aB∧sl u 3=I aW∧sl u 4=pt b1 0∧sl u 9=pt b3 0∧sl u 10=I j∧Hp FN [] w [some b3,some b1] t∧Bk t b1 67 (Ai m o c d p q e f g i r s b).toArray∧Bk t b3 126 #[I x2.Dh,I x2.Df]∧Sl Az t (zf Z w [some b3,some b1]) m o b.Ag∧Sl (Bs (Ao .i64)) t (zf Z w [some b3,some b1]) c d b.Ab∧Sl AH t (zf Z w [some b3,some b1]) p q b.Ak∧Sl Ba t (zf Z w [some b3,some b1]) e f b.AJ∧Sl Bc t (zf Z w [some b3,some b1]) g i b.Aw∧Sl Bp t (zf Z w [some b3,some b1]) r s b.Ar∧Sl (Bs (Ao .i64)) t (zf Z w [some b3,some b1]) aA aB aR) bU ?dK ?dL
  case dK=>
   intro st;have cI:=((aD.bk.ext aE.gr).gr aO.gr (aX.nq 1 0));have ⟨bG,bH,bI,bJ⟩:=Et a9 bA bB bC (mt (AA aD) (mt (AA aE) (aX.Co aO.gr 0 rfl)));have bK:=((aN.mv (AA aE)).mv (aX.Co aO.gr 0 rfl));have ⟨bL,bM⟩:=Nb bE bF (mt (AA aD) (mt (AA aE) (aX.Co aO.gr 0 rfl)));exact⟨(0:Int),aP,qo st,sp st 1 cW,sp st 3 cY,sp st 4 rfl,sp st 9 rfl,sp st 10 rfl,dH,cI,aO.bk,bG,bH,bI,bJ,bK,bL,bM⟩
  case dL=>
   rintro(_|c0) d8 d9 ⟨j,aP,c1,aS,aT,aC,aU,aF,cP,z,aG,aH,x,aI,y,aJ,aK,aL⟩
   ·exact absurd (show none=some _ from aP) (by simp)
   rw[Dv.eq_2] at aP;have a:=aP;clear aP;refine ro c1<|Af<|cr<|wM (v:=I j) aF<|wM (v:=.slice aA aR.length aB) aS<|wD (fun st=>Be Tryz.underlying23 (eR st))<|wD (fun st=>B9 (eR st) (eR st))<|wn ?_;rcases Ae (decide (j<(aR.length:Int))) with aY|aY
   ·replace a:=Ap a aY;refine Am rfl aY<|cn<|Af<|AI<|Af ?_;replace a:=AP a;obtain⟨i8,dM,dN,dO,dP,a⟩:=a;obtain⟨d1,d2,_,dQ,⟨bV,bW,rfl,cJ⟩,dR⟩:=Sl.Cz aL rfl dO;replace a:=AP a;obtain⟨i9,dS,dT,dU,dV,a⟩:=a;obtain⟨d3,d4,_,dW,⟨bX,bY,rfl,cK⟩,dX⟩:=Sl.Cz x rfl dU;replace a:=bind_some a;obtain⟨bZ,c2,a⟩:=a;replace a:=AP a;obtain⟨i11,cQ,c3,c4,c5,a⟩:=a;obtain⟨cR,cS,_,c6,rfl,c7⟩:=Sl.elem y (by decide) c4;refine BK 18 [Kc (.slice aA aR.length aB),Kc (I j),Kc (pt d1 (d2+i8)),Kc (.slice bV dM.length bW),Kc (pt b1 0),Kc (pt b1 1),Kc (.slice c b.Ab.length d),Kc (I aW),Kc (pt d3 (d4+i9)),Kc (.slice bX dS.length bY),Kc (I bZ),Kc (pt b1 4),Kc (.slice e b.AJ.length f),Kc (pt b3 0),Kc (I x2.Dh),Kc (pt cR (cS+i11*2)),Kc (pt cR (cS+i11*2)),Kc (I cQ.BN)] mixed rfl rfl
        (Aa (oD (fun K=>Au (es ((K.out 1 rfl).trans aS))))
        (Aa (oD (fun K=>Au (es ((K.out 10 rfl).trans aF))))
        (Aa (oD (fun K=>AR (k:=i8) Tryz.underlying23 ES (es (K.dq 0 22)) dQ (es (K.dq 1 23)) dN dP))
        (Aa (oD (fun K=>Bb DB (es (K.dq 2 24)) (dR.mv (Ac K.AD)) rfl))
        (Aa (oD (fun K=>Ad (es ((K.out 4 rfl).trans aC)) (DQ _ _)))
        (Aa (oD (fun K=>Ad (es (K.dq 4 26)) (DP _ _)))
        (Aa (oD (fun K=>As DH (es (K.dq 5 27)) (z.ext K.AD) rfl))
        (Aa (oD (fun K=>Au (es ((K.out 3 rfl).trans aT))))
        (Aa (oD (fun K=>AR (k:=i9) Tryz.underlying23 ES (es (K.dq 6 28)) dW (es (K.dq 7 29)) dT dV))
        (Aa (oD (fun K=>Bb DB (es (K.dq 8 30)) (dX.mv (Ac K.AD)) rfl))
        (Aa (oE (fun K=>(Aj Nk rfl (CN (es (K.dq 3 25)) (es (K.dq 9 31))) (a87 bU dM dS bV bW bX bY ZA _ (cJ.mv (Ac K.AD)).all (cK.mv (Ac K.AD)).all bZ c2)).mono (fun _ _ h=>⟨h.2,h.1⟩)))
        (Aa (oD (fun K=>Ad (es ((K.out 4 rfl).trans aC)) (Jj _ _)))
        (Aa (oD (fun K=>As Ks (es (K.dq 11 33)) (z.ext K.AD) rfl))
        (Aa (oD (fun K=>Ad (es ((K.out 9 rfl).trans aU)) (Uv _ _)))
        (Aa (oD (fun K=>As Bh (es (K.dq 13 35)) (aG.ext K.AD) rfl))
        (Aa (oD (fun K=>BD (k:=i11) Tryz.underlying63 Nl (es (K.dq 12 34)) c6 (es (K.dq 14 36)) c3 c5))
        (Aa (oD (fun K=>Ad (es (K.dq 15 37)) (Om _ _ _)))
        (Aa (oD (fun K=>Bb Bh (es (K.dq 16 38)) (c7.mv (Ac K.AD)) rfl))
        (BI _))))))))))))))))))) ?_
    intro eF;rintro _ rfl _ rfl _ rfl _ rfl _ rfl _ rfl _ rfl _ rfl _ rfl _ rfl _ rfl _ rfl _ rfl _ rfl _ rfl _ rfl _ rfl _ rfl a8;have cT:=cP.ext a8;refine wD (fun st=>B9 (eR st) (eR st))<|wn ?_;rcases Ae (decide (bZ<cQ.BN)) with aM|aM
    ·replace a:=Ap a aM;refine Am rfl aM<|cr<|wA (v:=.bool false) rfl<|wn<|Av<|Dd<|AG ?_;obtain rfl:=oi a;refine BC (fun st=>?_);exact .inl ⟨rfl,false,rfl,qo st,sp st 8 rfl,cT⟩
    ·replace a:=Aq a aM;refine An rfl aM<|Ct<|CS<|Al<|wM (v:=I j) aF ?_;replace a:=AF a;obtain⟨c8,a⟩:=a;refine wD (fun st=>BG (eR st) (eR st) c8)<|wA (v:=I (j+1)) rfl<|AU ?_;have cL:=(z.ext a8);have cM:=(aG.ext a8);have ⟨bN,bO,bP,bQ,bR,bS,bT⟩:=Ea aH x aI y aJ aK aL (Ac a8);refine Bi c0 (Nat.lt_succ_self _) (fun st=>?_);exact⟨(j+1),a,qo st,sp st 1 aS,sp st 3 aT,sp st 4 aC,sp st 9 aU,sp st 10 rfl,cT,cL,cM,bN,bO,bP,bQ,bR,bS,bT⟩
   ·replace a:=Aq a aY;refine An rfl aY<|Dq ?_;obtain rfl:=oi a;refine BC (fun st=>?_);exact .inr ⟨rfl,(),rfl,qo st,sp st 3 aT,sp st 4 aC,sp st 9 aU,cP,z,aG,aH,x,aI,y,aJ,aK⟩
 case dJ=>
  rintro cZ d5 eA (⟨rfl,aQ,rfl,aV,b4,aZ⟩|⟨rfl,aQ,rfl,aV,b5,b6,b7,aZ,b8,b9,a0,a2,a3,a4,a5,a7⟩)
  ·skip
   replace a:=C9 a;refine lf aV<|Dd ?_;obtain rfl:=oi a;refine Ay rfl b4 ?_;exact⟨aZ.AS,rfl⟩
  ·skip
   replace a:=Da a;refine lf aV<|AZ<|BS<|Af ?_;replace a:=bind_some a;obtain⟨cA,c9,a⟩:=a;refine BK 5 [Kc (.agg (Ai m o c d p q e f g i r s b).toArray),Kc (I aW),Kc (I cA),Kc (pt b3 1),Kc (I x2.Df)] mixed rfl rfl
       (Aa (oD (fun K=>AK (l:=(Ai m o c d p q e f g i r s b)) Cc (es ((K.out 4 rfl).trans b6)) (b8.ext K.AD) rfl rfl))
       (Aa (oD (fun K=>Au (es ((K.out 3 rfl).trans b5))))
       (Aa (oE (fun K=>(Aj Nn rfl (CN (es (K.dq 0 41)) (es (K.dq 1 42))) (RE bU b aW m o c d p q e f g i r s ZA _ (a0.mv (Ac K.AD)).all (a2.mv (Ac K.AD)).all (a3.mv (Ac K.AD)).all (a4.mv (Ac K.AD)).all (a5.mv (Ac K.AD)).all (a7.mv (Ac K.AD)).all cA c9)).mono (fun _ _ h=>⟨h.2,h.1⟩)))
       (Aa (oD (fun K=>Ad (es ((K.out 9 rfl).trans b7)) (Uw _ _)))
       (Aa (oD (fun K=>As Bh (es (K.dq 3 44)) (b9.ext K.AD) rfl))
       (BI _)))))) ?_
   intro eB;rintro _ rfl _ rfl _ rfl _ rfl _ rfl dA;have dY:=aZ.ext dA;refine wD (fun st=>J7 (eR st) (eR st))<|wA (v:=.bool (decide (x2.Df≤cA))) rfl<|wn<|Av ?_;obtain rfl:=oi a;refine Ay rfl rfl ?_;exact⟨dY.AS,rfl⟩
set_option maxHeartbeats 4000000 in
theorem a83 cD c aI aC p q g i r s t u n o x y z aA j m(Z:Nat→Prop) w(dY:Sl Az w Z p q c.Ag)(dZ:Sl (Bs (Ao .i64)) w Z g i c.Ab)(d0:Sl AH w Z r s c.Ak)(d1:Sl Ba w Z t u c.AJ)(d2:Sl Bc w Z n o c.Aw)(d3:Sl Bp w Z x y c.Ar)(d4:Sl (Bs (Ao .i64)) w Z z aA aI)(d5:Sl (Ao .i64) w Z j m aC) fP(a:Ix cD c aI aC=some fP):
 B7 Tryz.prog 83 #[.agg (Ai p q g i r s t u n o x y c).toArray,.slice z aI.length aA,.slice j aC.length m] w (fun v w'=>Ext w w'∧Cm.R w' (zf Z w []) v fP):=by
 unfold Ix at a;refine rq (N:=57) Tryz.func83 fun gC ha gD=>?_;have eO:=sA 0 ha;have eP:=sA 1 ha;have dR:=sA 2 ha;clear ha;have eA:Hp FN [] w [] w:=Hp.start (BL.none w);have ⟨cP,cQ,cR,cS,cT,cU,cV,cW⟩:=GN dY dZ d0 d1 d2 d3 d4 d5 (Bd (Z:=Z) (L:=[]) w);refine cr<|wE (fun st=>BP (v:=.agg (Ai p q g i r s t u n o x y c).toArray) (cs:=(Ai p q g i r s t u n o x y c).toArray) (ee st eO) rfl) ?_;rintro _ w1 ⟨b1,rfl,bU⟩;have eB:=eA.nb bU;have f5:=eA.BU bU;refine wA (v:=.bool false) rfl<|wn<|Af<|cr<|wM (v:=.slice j aC.length m) dR<|wD (fun st=>Be Tryz.underlying31 (eR st))<|wD (fun st=>Ad (eR st) (Hx _ _))<|wD (fun st=>As (v:=.slice n c.Aw.length o) IG (eR st) bU.bk rfl)<|wD (fun st=>Be Tryz.underlying64 (eR st))<|wD (fun st=>Db (eR st) (eR st))<|wn ?_;rcases Ae ((aC.length:Int) !=(c.Aw.length:Int)) with bV|bV
 ·replace a:=Ap a bV;refine Am rfl bV<|cr<|wA (v:=.bool false) rfl<|wn<|Av<|AG ?_;obtain rfl:=oi a;refine Ay rfl rfl ?_;exact⟨eB.AS,rfl⟩
 ·replace a:=Aq a bV;refine An rfl bV<|cn<|Af<|cr<|wA (v:=I 0) rfl<|wn<|AI ?_;replace a:=bind_some a;obtain⟨z3,a7,a⟩:=a;refine BX (fun cE b e=>(cE=.ret∧∃a8,z3=.inl a8∧Fo X0 57 b∧sl b 6=.bool a8∧Hp FN [] w [some b1] e)∨(cE=.exit 0∧∃a8,z3=.inr a8∧Fo X0 57 b∧Hp FN [] w [some b1] e)) ?fQ ?fR
  case fQ=>
   clear a;refine BW (fun cF b e=>∃d,GX cD c aI aC cF d=some z3∧Fo X0 57 b∧sl b 1=.slice z aI.length aA∧sl b 2=.slice j aC.length m∧sl b 3=pt b1 0∧sl b 7=I d∧Hp FN [] w [some b1] e∧Bk e b1 67 (Ai p q g i r s t u n o x y c).toArray∧Sl Az e (zf Z w [some b1]) p q c.Ag∧Sl (Bs (Ao .i64)) e (zf Z w [some b1]) g i c.Ab∧Sl AH e (zf Z w [some b1]) r s c.Ak∧Sl Ba e (zf Z w [some b1]) t u c.AJ∧Sl Bc e (zf Z w [some b1]) n o c.Aw∧Sl Bp e (zf Z w [some b1]) x y c.Ar∧Sl (Bs (Ao .i64)) e (zf Z w [some b1]) z aA aI∧Sl (Ao .i64) e (zf Z w [some b1]) j m aC) cD ?fS ?fT
   case fS=>
    intro st;have ⟨cX,cY,cZ,c0,c1,c2,c3,c4⟩:=GN cP cQ cR cS cT cU cV cW (AA bU);exact⟨(0:Int),a7,qo st,sp st 1 eP,sp st 2 dR,sp st 3 rfl,sp st 7 rfl,eB,bU.bk,cX,cY,cZ,c0,c1,c2,c3,c4⟩
   case fT=>
    rintro(_|cF) gE gF ⟨d,a7,eQ,cO,aJ,aW,aE,dS,aK,cG,cH,cI,cJ,cK,cL,cM,aF⟩
    ·exact absurd (show none=some _ from a7) (by simp)
    rw[GX.eq_2] at a7;have a:=a7;clear a7;refine ro eQ<|Af<|cr<|wM (v:=I d) aE<|wM (v:=.slice j aC.length m) aJ<|wD (fun st=>Be Tryz.underlying31 (eR st))<|wD (fun st=>B9 (eR st) (eR st))<|wn ?_;rcases Ae (decide (d<(aC.length:Int))) with bW|bW
    ·replace a:=Ap a bW;refine Am rfl bW<|cn<|Af<|AI<|Af<|Af ?_;replace a:=AP a;obtain⟨i6,d6,eC,fU,eD,a⟩:=a;obtain⟨fV,fW,_,eE,rfl,eF⟩:=Sl.Cz aF rfl fU;replace a:=AF a;obtain⟨eG,a⟩:=a;replace a:=bind_some a;obtain⟨aX,eH,a⟩:=a;rcases Ae (!aX) with f|f
     ·replace a:=Ap a f;have fX:aX=false:=by simpa using f
      refine BK 19 [Kc (.slice j aC.length m),Kc (I d),Kc (pt fV (fW+i6)),Kc (I d6),Kc (pt b1 0),Kc (pt b1 1),Kc (.slice g c.Ab.length i),Kc (I (c.Ab.length:Int)),Kc (I ((c.Ab.length:Int)-1)),Kc (.bool aX),Kc (.bool !aX),Kc (.bool !aX),Kc undef,Kc undef,Kc undef,Kc undef,Kc undef,Kc undef,Kc undef] mixed rfl rfl
          (Aa (oD (fun K=>Au (es ((K.out 2 rfl).trans aJ))))
          (Aa (oD (fun K=>Au (es ((K.out 7 rfl).trans aE))))
          (Aa (oD (fun K=>AR (k:=i6) Tryz.underlying31 C7 (es (K.dq 0 21)) eE (es (K.dq 1 22)) eC eD))
          (Aa (oD (fun K=>Bb Bh (es (K.dq 2 23)) (eF.mv (Ac K.AD)) rfl))
          (Aa (oD (fun K=>Ad (es ((K.out 3 rfl).trans aW)) (DQ _ _)))
          (Aa (oD (fun K=>Ad (es (K.dq 4 25)) (DP _ _)))
          (Aa (oD (fun K=>As DH (es (K.dq 5 26)) (aK.ext K.AD) rfl))
          (Aa (oD (fun K=>Be Tryz.underlying23 (es (K.dq 6 27))))
          (Aa (oD (fun K=>El (es (K.dq 7 28)) (ec (v:=I 1)) eG))
          (Aa (oE (fun K=>(Aj DR rfl (Dx (es (K.dq 3 24)) (ec (v:=I 0)) (es (K.dq 8 29))) (GZ cD d6 0 ((c.Ab.length:Int)-1) ZA _ aX eH)).mono (fun _ _ h=>⟨h.2,h.1⟩)))
          (Aa (oD (fun K=>CJ (es (K.dq 9 30))))
          (Aa (oD (fun K=>Au (es (K.dq 10 31))))
          (Aa (oT f)
          (Aa (oT f)
          (Aa (oT f)
          (Aa (oT f)
          (Aa (oT f)
          (Aa (oT f)
          (Aa (oT f)
          (BI _)))))))))))))))))))) ?_
      intro f7;rintro _ rfl _ rfl _ rfl _ rfl _ rfl _ rfl _ rfl _ rfl _ rfl _ rfl _ rfl _ rfl _ rfl _ rfl _ rfl _ rfl _ rfl _ rfl _ rfl aY;have fY:=dS.ext aY;refine wF f<|wF f<|wD (fun st=>AW (v:=.bool true) (eR st) f (eR st))<|wn<|Am rfl rfl<|cr<|wA (v:=.bool false) rfl<|wn<|Av<|AG<|Dd<|AG ?_;obtain rfl:=oi a;refine BC (fun st=>?_);exact .inl ⟨rfl,false,rfl,qo st,sp st 6 rfl,fY⟩
     ·replace a:=Aq a f;have fZ:aX=true:=by simpa using f
      replace a:=AP a;obtain⟨i12,a9,eS,eT,eU,a⟩:=a;obtain⟨bX,bY,_,eV,rfl,dT⟩:=Sl.Cz aF rfl eT;refine BK 19 [Kc (.slice j aC.length m),Kc (I d),Kc (pt fV (fW+i6)),Kc (I d6),Kc (pt b1 0),Kc (pt b1 1),Kc (.slice g c.Ab.length i),Kc (I (c.Ab.length:Int)),Kc (I ((c.Ab.length:Int)-1)),Kc (.bool aX),Kc (.bool !aX),Kc (.bool !aX),Kc (.agg (Ai p q g i r s t u n o x y c).toArray),Kc (.slice z aI.length aA),Kc (I d),Kc (.slice j aC.length m),Kc (I d),Kc (pt bX (bY+i12)),Kc (I a9)] mixed rfl rfl
          (Aa (oD (fun K=>Au (es ((K.out 2 rfl).trans aJ))))
          (Aa (oD (fun K=>Au (es ((K.out 7 rfl).trans aE))))
          (Aa (oD (fun K=>AR (k:=i6) Tryz.underlying31 C7 (es (K.dq 0 21)) eE (es (K.dq 1 22)) eC eD))
          (Aa (oD (fun K=>Bb Bh (es (K.dq 2 23)) (eF.mv (Ac K.AD)) rfl))
          (Aa (oD (fun K=>Ad (es ((K.out 3 rfl).trans aW)) (DQ _ _)))
          (Aa (oD (fun K=>Ad (es (K.dq 4 25)) (DP _ _)))
          (Aa (oD (fun K=>As DH (es (K.dq 5 26)) (aK.ext K.AD) rfl))
          (Aa (oD (fun K=>Be Tryz.underlying23 (es (K.dq 6 27))))
          (Aa (oD (fun K=>El (es (K.dq 7 28)) (ec (v:=I 1)) eG))
          (Aa (oE (fun K=>(Aj DR rfl (Dx (es (K.dq 3 24)) (ec (v:=I 0)) (es (K.dq 8 29))) (GZ cD d6 0 ((c.Ab.length:Int)-1) ZA _ aX eH)).mono (fun _ _ h=>⟨h.2,h.1⟩)))
          (Aa (oD (fun K=>CJ (es (K.dq 9 30))))
          (Aa (oD (fun K=>Au (es (K.dq 10 31))))
          (Aa (oG f (fun K=>AK (l:=(Ai p q g i r s t u n o x y c)) Cc (es ((K.out 3 rfl).trans aW)) (aK.ext K.AD) rfl rfl))
          (Aa (oG f (fun K=>Au (es ((K.out 1 rfl).trans cO))))
          (Aa (oG f (fun K=>Au (es ((K.out 7 rfl).trans aE))))
          (Aa (oG f (fun K=>Au (es ((K.out 2 rfl).trans aJ))))
          (Aa (oG f (fun K=>Au (es ((K.out 7 rfl).trans aE))))
          (Aa (oG f (fun K=>AR (k:=i12) Tryz.underlying31 C7 (es (K.dq 15 36)) eV (es (K.dq 16 37)) eS eU))
          (Aa (oG f (fun K=>Bb Bh (es (K.dq 17 38)) (dT.mv (Ac K.AD)) rfl))
          (BI _)))))))))))))))))))) ?_
      intro f7;rintro _ rfl _ rfl _ rfl _ rfl _ rfl _ rfl _ rfl _ rfl _ rfl _ rfl _ rfl _ rfl _ rfl _ rfl _ rfl _ rfl _ rfl _ rfl _ rfl aY;have f0:=dS.ext aY;have ⟨bA,bB,bC,bD,bE,bF,bG⟩:=Ea cG cH cI cJ cK cL cM (Ac aY);replace a:=bind_some a;obtain⟨aL,eW,a⟩:=a;refine wX f (fun st=>Aj Wg (eR st) (ZV (eR st) (eR st) (eR st) (eR st)) (Ab0 cD c aI d a9 p q g i r s t u n o x y z aA ZA _ bA.all bB.all bC.all bD.all bE.all bF.all bG.all aL eW)) ?_;rintro _ gG ⟨aZ,rfl⟩;have eI:=f0.ext aZ;refine wG f (fun st=>CJ (eR st))<|wD (fun st=>Bo (v:=.bool !aL) (eR st) f (eR st))<|wn ?_;rcases Ae (!aL) with aG|aG
      ·replace a:=Ap a aG;have fN:aL=false:=by simpa using aG
       refine Am rfl aG<|cr<|wA (v:=.bool false) rfl<|wn<|Av<|AG<|Dd<|AG ?_;obtain rfl:=oi a;refine BC (fun st=>?_);exact .inl ⟨rfl,false,rfl,qo st,sp st 6 rfl,eI⟩
      ·replace a:=Aq a aG;have fO:aL=true:=by simpa using aG
       refine An rfl aG<|cn<|cr<|wA (v:=I 0) rfl<|wn<|AI ?_;replace a:=bind_some a;obtain⟨dU,aO,a⟩:=a;refine BX (fun cE b e=>(cE=.ret∧∃aH,dU=.inl aH∧Fo X0 57 b∧sl b 6=.bool aH∧Hp FN [] w [some b1] e)∨(cE=.exit 2∧∃aH,dU=.inr aH∧Fo X0 57 b∧sl b 1=.slice z aI.length aA∧sl b 2=.slice j aC.length m∧sl b 3=pt b1 0∧sl b 7=I d∧sl b 33=.agg (Ai p q g i r s t u n o x y c).toArray∧sl b 34=.slice z aI.length aA∧sl b 35=I d∧sl b 36=.slice j aC.length m∧sl b 37=I d∧sl b 38=pt bX (bY+i12)∧sl b 39=I a9∧sl b 40=.bool aL∧sl b 41=.bool !aL∧Hp FN [] w [some b1] e∧Bk e b1 67 (Ai p q g i r s t u n o x y c).toArray∧Sl Az e (zf Z w [some b1]) p q c.Ag∧Sl (Bs (Ao .i64)) e (zf Z w [some b1]) g i c.Ab∧Sl AH e (zf Z w [some b1]) r s c.Ak∧Sl Ba e (zf Z w [some b1]) t u c.AJ∧Sl Bc e (zf Z w [some b1]) n o c.Aw∧Sl Bp e (zf Z w [some b1]) x y c.Ar∧Sl (Bs (Ao .i64)) e (zf Z w [some b1]) z aA aI∧Sl (Ao .i64) e (zf Z w [some b1]) j m aC∧Rz e (zf Z w [some b1]) (some ⟨bX,bY+i12,none⟩) [I a9])) ?eX ?eY
       case eX=>
        clear a;refine BW (fun cF b e=>∃aB,EX aC d cF aB=some dU∧Fo X0 57 b∧sl b 1=.slice z aI.length aA∧sl b 2=.slice j aC.length m∧sl b 3=pt b1 0∧sl b 7=I d∧sl b 8=I aB∧sl b 33=.agg (Ai p q g i r s t u n o x y c).toArray∧sl b 34=.slice z aI.length aA∧sl b 35=I d∧sl b 36=.slice j aC.length m∧sl b 37=I d∧sl b 38=pt bX (bY+i12)∧sl b 39=I a9∧sl b 40=.bool aL∧sl b 41=.bool !aL∧Hp FN [] w [some b1] e∧Bk e b1 67 (Ai p q g i r s t u n o x y c).toArray∧Sl Az e (zf Z w [some b1]) p q c.Ag∧Sl (Bs (Ao .i64)) e (zf Z w [some b1]) g i c.Ab∧Sl AH e (zf Z w [some b1]) r s c.Ak∧Sl Ba e (zf Z w [some b1]) t u c.AJ∧Sl Bc e (zf Z w [some b1]) n o c.Aw∧Sl Bp e (zf Z w [some b1]) x y c.Ar∧Sl (Bs (Ao .i64)) e (zf Z w [some b1]) z aA aI∧Sl (Ao .i64) e (zf Z w [some b1]) j m aC∧Rz e (zf Z w [some b1]) (some ⟨bX,bY+i12,none⟩) [I a9]) cD ?eZ ?e0
        case eZ=>
         intro st;have d7:=((aK.ext aY).ext aZ);have ⟨c5,c6,c7,c8,c9,dA,dB⟩:=Ea bA bB bC bD bE bF bG (Ac aZ);have dC:=((aF.mv (Ac aY)).mv (Ac aZ));have dV:=((dT.mv (Ac aY)).mv (Ac aZ));exact⟨(0:Int),aO,qo st,sp st 1 cO,sp st 2 aJ,sp st 3 aW,sp st 7 aE,sp st 8 rfl,sp st 33 rfl,sp st 34 rfl,sp st 35 rfl,sp st 36 rfl,sp st 37 rfl,sp st 38 rfl,sp st 39 rfl,sp st 40 rfl,sp st 41 rfl,eI,d7,c5,c6,c7,c8,c9,dA,dB,dC,dV⟩
        case e0=>
         rintro(_|cF) f8 f9 ⟨aB,aO,d8,bZ,aM,b4,aN,a0,bH,bI,bJ,bK,bL,bM,bN,bO,bP,eJ,bQ,aP,aQ,aR,aS,aT,aU,aV,aD,a2⟩
         ·exact absurd (show none=some _ from aO) (by simp)
         rw[EX.eq_2] at aO;have a:=aO;clear aO;refine ro d8<|Af<|cr<|wM (v:=I aB) a0<|wM (v:=I d) aN<|wD (fun st=>B9 (eR st) (eR st))<|wn ?_;rcases Ae (decide (aB<d)) with a3|a3
         ·replace a:=Ap a a3;refine Am rfl a3<|cn<|Af<|AI<|Af ?_;replace a:=AP a;obtain⟨i21,eK,e1,e2,e3,a⟩:=a;obtain⟨f1,f2,_,e4,rfl,e5⟩:=Sl.Cz aD rfl e2;replace a:=AP a;obtain⟨i22,eM,e6,e7,e8,a⟩:=a;obtain⟨f3,f4,_,e9,rfl,fA⟩:=Sl.Cz aD rfl e7;refine BK 8 [Kc (.slice j aC.length m),Kc (I aB),Kc (pt f1 (f2+i21)),Kc (I eK),Kc (.slice j aC.length m),Kc (I d),Kc (pt f3 (f4+i22)),Kc (I eM)] mixed rfl rfl
              (Aa (oD (fun K=>Au (es ((K.out 2 rfl).trans aM))))
              (Aa (oD (fun K=>Au (es ((K.out 8 rfl).trans a0))))
              (Aa (oD (fun K=>AR (k:=i21) Tryz.underlying31 C7 (es (K.dq 0 48)) e4 (es (K.dq 1 49)) e1 e3))
              (Aa (oD (fun K=>Bb Bh (es (K.dq 2 50)) (e5.mv (Ac K.AD)) rfl))
              (Aa (oD (fun K=>Au (es ((K.out 2 rfl).trans aM))))
              (Aa (oD (fun K=>Au (es ((K.out 7 rfl).trans aN))))
              (Aa (oD (fun K=>AR (k:=i22) Tryz.underlying31 C7 (es (K.dq 4 52)) e9 (es (K.dq 5 53)) e6 e8))
              (Aa (oD (fun K=>Bb Bh (es (K.dq 6 54)) (fA.mv (Ac K.AD)) rfl))
              (BI _))))))))) ?_
          intro gH;rintro _ rfl _ rfl _ rfl _ rfl _ rfl _ rfl _ rfl _ rfl bR;have eN:=eJ.ext bR;refine wD (fun st=>CT (eR st) (eR st))<|wn ?_;rcases Ae (eK==eM) with a4|a4
          ·replace a:=Ap a a4;refine Am rfl a4<|cr<|wA (v:=.bool false) rfl<|wn<|Av<|Dd<|AG ?_;obtain rfl:=oi a;refine BC (fun st=>?_);exact .inl ⟨rfl,false,rfl,qo st,sp st 6 rfl,eN⟩
          ·replace a:=Aq a a4;refine An rfl a4<|Ct<|CS<|Al<|wM (v:=I aB) a0 ?_;replace a:=AF a;obtain⟨fB,a⟩:=a;refine wD (fun st=>BG (eR st) (eR st) fB)<|wA (v:=I (aB+1)) rfl<|AU ?_;have d9:=(bQ.ext bR);have ⟨dD,dE,dF,dG,dH,dI,dJ,dK⟩:=GN aP aQ aR aS aT aU aV aD (Ac bR);have dW:=(a2.mv (Ac bR));refine Bi cF (Nat.lt_succ_self _) (fun st=>?_);exact⟨(aB+1),a,qo st,sp st 1 bZ,sp st 2 aM,sp st 3 b4,sp st 7 aN,sp st 8 rfl,sp st 33 bH,sp st 34 bI,sp st 35 bJ,sp st 36 bK,sp st 37 bL,sp st 38 bM,sp st 39 bN,sp st 40 bO,sp st 41 bP,eN,d9,dD,dE,dF,dG,dH,dI,dJ,dK,dW⟩
         ·replace a:=Aq a a3;refine An rfl a3<|Dq ?_;obtain rfl:=oi a;refine BC (fun st=>?_);exact .inr ⟨rfl,(),rfl,qo st,sp st 1 bZ,sp st 2 aM,sp st 3 b4,sp st 7 aN,sp st 33 bH,sp st 34 bI,sp st 35 bJ,sp st 36 bK,sp st 37 bL,sp st 38 bM,sp st 39 bN,sp st 40 bO,sp st 41 bP,eJ,bQ,aP,aQ,aR,aS,aT,aU,aV,aD,a2⟩
       case eY=>
        rintro cE f6 gA (⟨rfl,aH,rfl,a5,dL,bS⟩|⟨rfl,aH,rfl,a5,dM,dN,dO,dP,fC,fD,fE,fF,fG,fH,fI,fJ,fK,bS,dQ,b5,b6,b7,b8,b9,cA,cB,cC,fL⟩)
        ·skip
         replace a:=C9 a;refine lf a5<|Na<|Dd<|AG ?_;obtain rfl:=oi a;refine BC (fun st=>?_);exact .inl ⟨rfl,aH,rfl,qo st,sp st 6 dL,bS⟩
        ·skip
         replace a:=Da a;refine lf a5<|AZ<|CS<|Al<|wM (v:=I d) dP ?_;replace a:=AF a;obtain⟨fM,a⟩:=a;refine wD (fun st=>BG (eR st) (eR st) fM)<|wA (v:=I (d+1)) rfl<|AU ?_;refine Bi cF (Nat.lt_succ_self _) (fun st=>?_);exact⟨(d+1),a,qo st,sp st 1 dM,sp st 2 dN,sp st 3 dO,sp st 7 rfl,bS,dQ,b5,b6,b7,b8,b9,cA,cB,cC⟩
    ·replace a:=Aq a bW;refine An rfl bW<|Dq ?_;obtain rfl:=oi a;refine BC (fun st=>?_);exact .inr ⟨rfl,(),rfl,qo st,dS⟩
  case fR=>
   rintro cE gB gI (⟨rfl,a8,rfl,bT,dX,cN⟩|⟨rfl,a8,rfl,bT,cN⟩)
   ·skip
    replace a:=C9 a;refine lf bT<|Dd ?_;obtain rfl:=oi a;refine Ay rfl dX ?_;exact⟨cN.AS,rfl⟩
   ·skip
    replace a:=Da a;refine lf bT<|AZ<|BS<|cr<|wA (v:=.bool true) rfl<|wn<|Av ?_;obtain rfl:=oi a;refine Ay rfl rfl ?_;exact⟨cN.AS,rfl⟩
set_option maxHeartbeats 4000000 in
theorem a84 cU a aL s u p q x y aA aB n o aC aD aE aF(Z:Nat→Prop) w(eA:Sl Az w Z s u a.Ag)(eB:Sl (Bs (Ao .i64)) w Z p q a.Ab)(eC:Sl AH w Z x y a.Ak)(eD:Sl Ba w Z aA aB a.AJ)(eE:Sl Bc w Z n o a.Aw)(eF:Sl Bp w Z aC aD a.Ar)(eG:Sl (Bs (Ao .i64)) w Z aE aF aL) fI(b:LM cU a aL=some fI):
 B7 Tryz.prog 84 #[.agg (Ai s u p q x y aA aB n o aC aD a).toArray,.slice aE aL.length aF] w (fun v w'=>Ext w w'∧(OM (Fq (Ao .i64)) Cm).R w' (zf Z w []) v fI):=by
 unfold LM at b;refine rq (N:=58) Tryz.func84 fun gG ha gH=>?_;have eU:=sA 0 ha;have eV:=sA 1 ha;clear ha;have eQ:Hp FN [] w [] w:=Hp.start (BL.none w);have ⟨cV,cW,cX,cY,cZ,c0,c1⟩:=Ea eA eB eC eD eE eF eG (Bd (Z:=Z) (L:=[]) w);refine cr<|wE (fun st=>BP (v:=.agg (Ai s u p q x y aA aB n o aC aD a).toArray) (cs:=(Ai s u p q x y aA aB n o aC aD a).toArray) (ee st eU) rfl) ?_;rintro _ w1 ⟨b1,rfl,bG⟩;have fJ:=eQ.nb bG;have f3:=eQ.BU bG;refine wA (v:=.slice none 0 0) rfl<|wA (v:=.bool false) rfl<|wr<|wD (fun st=>Ad (eR st) (DQ _ _))<|wD (fun st=>Ad (eR st) (DP _ _))<|wD (fun st=>As (v:=.slice p a.Ab.length q) DH (eR st) bG.bk rfl)<|wD (fun st=>Be Tryz.underlying23 (eR st))<|wA (v:=I (a.Ab.length:Int)) rfl<|wA (v:=I 1) rfl<|wn<|Af<|cr<|wA (v:=I 0) rfl<|wn<|AI ?_;replace b:=bind_some b;obtain⟨z2,bH,b⟩:=b;refine BX (fun bO d j=>(bO=.exit 0∧Fo X0 58 d∧sl d 1=.slice aE aL.length aF∧sl d 2=pt b1 0∧sl d 6=I (a.Ab.length:Int)∧sl d 7=I z2∧w1=j)) ?fK ?fL
 case fK=>
  clear b;refine BW (fun a9 d j=>∃aN,∃aH,HB a a9 aN aH=some z2∧Fo X0 58 d∧sl d 1=.slice aE aL.length aF∧sl d 2=pt b1 0∧sl d 6=I (a.Ab.length:Int)∧sl d 7=I aN∧sl d 8=I aH∧w1=j) cU ?fM ?fN
  case fM=>
   intro st;exact⟨(1:Int),(0:Int),bH,qo st,sp st 1 eV,sp st 2 rfl,sp st 6 rfl,sp st 7 rfl,sp st 8 rfl,rfl⟩
  case fN=>
   rintro(_|a9) gI _ ⟨aN,aH,bH,eW,cN,bP,bQ,cO,cP,rfl⟩
   ·exact absurd (show none=some _ from bH) (by simp)
   rw[HB.eq_2] at bH;have b:=bH;clear bH;refine ro eW<|Af<|cr<|wM (v:=I aH) cP<|wD (fun st=>Ad (ee st bP) (Hx _ _))<|wD (fun st=>As (v:=.slice n a.Aw.length o) IG (eR st) bG.bk rfl)<|wD (fun st=>Be Tryz.underlying64 (eR st))<|wD (fun st=>B9 (eR st) (eR st))<|wn ?_;rcases Ae (decide (aH<(a.Aw.length:Int))) with bV|bV
   ·replace b:=Ap b bV;refine Am rfl bV<|cn<|Af<|AI<|Al<|wM (v:=I aN) cO<|wM (v:=I (a.Ab.length:Int)) bQ ?_;replace b:=AF b;obtain⟨fO,b⟩:=b;refine wD (fun st=>N0 (eR st) (eR st) fO)<|wA (v:=I (aN*(a.Ab.length:Int))) rfl<|AU<|CS<|Al<|wM (v:=I aH) cP ?_;replace b:=AF b;obtain⟨fP,b⟩:=b;refine wD (fun st=>BG (eR st) (eR st) fP)<|wA (v:=I (aH+1)) rfl<|AU ?_;refine Bi a9 (Nat.lt_succ_self _) (fun st=>?_);exact⟨(aN*(a.Ab.length:Int)),(aH+1),b,qo st,sp st 1 cN,sp st 2 bP,sp st 6 bQ,sp st 7 rfl,sp st 8 rfl,rfl⟩
   ·replace b:=Aq b bV;refine An rfl bV<|Dq ?_;obtain rfl:=oi b;refine BC (fun st=>?_);exact⟨rfl,qo st,sp st 1 cN,sp st 2 bP,sp st 6 bQ,sp st 7 cO,rfl⟩
 case fL=>
  rintro bO f6 _ (⟨rfl,eH,dR,dS,dT,dU,rfl⟩);refine lf eH<|AZ<|BS<|Af<|cr<|wA (v:=I 0) rfl<|wn<|AI ?_;replace b:=bind_some b;obtain⟨eX,bI,b⟩:=b;refine BX (fun bO d j=>(bO=.ret∧∃aR,eX=.inl aR∧∃aJ aK,Fo X0 58 d∧sl d 4=.slice aJ aR.1.length aK∧sl d 5=.bool aR.2∧Hp FN [] w [some b1] j∧Sl (Ao .i64) j (zf Z w [some b1]) aJ aK aR.1)∨(bO=.exit 2∧∃aR,eX=.inr aR∧Fo X0 58 d∧Hp FN [] w [some b1] j)) ?fQ ?fR
  case fQ=>
   clear b;refine BW (fun a9 d j=>∃r,Iy cU a aL z2 a9 r=some eX∧Fo X0 58 d∧sl d 1=.slice aE aL.length aF∧sl d 2=pt b1 0∧sl d 6=I (a.Ab.length:Int)∧sl d 7=I z2∧sl d 9=I r∧Hp FN [] w [some b1] j∧Bk j b1 67 (Ai s u p q x y aA aB n o aC aD a).toArray∧Sl Az j (zf Z w [some b1]) s u a.Ag∧Sl (Bs (Ao .i64)) j (zf Z w [some b1]) p q a.Ab∧Sl AH j (zf Z w [some b1]) x y a.Ak∧Sl Ba j (zf Z w [some b1]) aA aB a.AJ∧Sl Bc j (zf Z w [some b1]) n o a.Aw∧Sl Bp j (zf Z w [some b1]) aC aD a.Ar∧Sl (Bs (Ao .i64)) j (zf Z w [some b1]) aE aF aL) cU ?fS ?fT
   case fS=>
    intro st;have ⟨c2,c3,c4,c5,c6,c7,c8⟩:=Ea cV cW cX cY cZ c0 c1 (AA bG);exact⟨(0:Int),bI,qo st,sp st 1 dR,sp st 2 dS,sp st 6 dT,sp st 7 dU,sp st 9 rfl,fJ,bG.bk,c2,c3,c4,c5,c6,c7,c8⟩
   case fT=>
    rintro(_|a9) gJ gK ⟨r,bI,eY,eI,cQ,eJ,cR,bR,cS,bW,b6,b7,b8,b9,cA,cB,cC⟩
    ·exact absurd (show none=some _ from bI) (by simp)
    rw[Iy.eq_2] at bI;have b:=bI;clear bI;refine ro eY<|Af<|cr<|wM (v:=I r) bR<|wM (v:=I z2) cR<|wD (fun st=>B9 (eR st) (eR st))<|wn ?_;rcases Ae (decide (r<z2)) with bX|bX
    ·replace b:=Ap b bX;refine Am rfl bX<|cn<|Af<|AI<|cr<|wD (fun st=>Ad (ee st cQ) (Hx _ _))<|wD (fun st=>As (v:=.slice n a.Aw.length o) IG (eR st) bW rfl)<|wD (fun st=>Be Tryz.underlying64 (eR st)) ?_;replace b:=Xh b;obtain⟨fU,b⟩:=b;refine wE (fun st=>YH (e:=(Ao .i64)) (z:=(0:Int)) (zc:=[I 0]) (n0:=w.heap.size) (b':=8) Tryz.underlying31 HG rfl rfl (eR st) (eR st) fU (fun _ _=>rfl) cS.sz (by decide)) ?_;rintro _ f7 ⟨m,rfl,dV,eZ,dW,e0⟩;have fV:=cS.new dW dV eZ;have f4:w.heap.size≤m:=Nat.le_trans cS.sz dV;have fW:BH (Ao .i64) 3 w.heap.size f7 (zf Z w [some m,some b1]) (some ⟨m,0,none⟩) ((a.Aw.length:Int).toNat) (List.replicate (a.Aw.length:Int).toNat (0:Int)):=e0 _;refine wA (v:=.slice (some ⟨m,0,none⟩) ((List.replicate (a.Aw.length:Int).toNat (0:Int)).length) ((a.Aw.length:Int).toNat)) rfl<|wr<|wM (v:=I r) bR<|wA (v:=I r) rfl<|wn<|Af<|cr<|wM (v:=.slice (some ⟨m,0,none⟩) ((List.replicate (a.Aw.length:Int).toNat (0:Int)).length) ((a.Aw.length:Int).toNat)) rfl<|wD (fun st=>Be Tryz.underlying31 (eR st)) ?_;replace b:=AF b;obtain⟨e1,b⟩:=b;refine wD (fun st=>El (eR st) (eR st) e1)<|wA (v:=I (((List.replicate (a.Aw.length:Int).toNat (0:Int)).length:Int)-1)) rfl<|wn<|AI ?_;replace b:=bind_some b;obtain⟨aS,aO,b⟩:=b;refine BX (fun bO d j=>(bO=.exit 4∧Fo X0 58 d∧sl d 1=.slice aE aL.length aF∧sl d 2=pt b1 0∧sl d 6=I (a.Ab.length:Int)∧sl d 7=I z2∧sl d 9=I r∧sl d 10=.slice (some ⟨m,0,none⟩) aS.length ((a.Aw.length:Int).toNat)∧Hp FN [] w [some m,some b1] j∧BH (Ao .i64) 3 w.heap.size j (zf Z w [some m,some b1]) (some ⟨m,0,none⟩) ((a.Aw.length:Int).toNat) aS∧Bk j b1 67 (Ai s u p q x y aA aB n o aC aD a).toArray∧Sl Az j (zf Z w [some m,some b1]) s u a.Ag∧Sl (Bs (Ao .i64)) j (zf Z w [some m,some b1]) p q a.Ab∧Sl AH j (zf Z w [some m,some b1]) x y a.Ak∧Sl Ba j (zf Z w [some m,some b1]) aA aB a.AJ∧Sl Bc j (zf Z w [some m,some b1]) n o a.Aw∧Sl Bp j (zf Z w [some m,some b1]) aC aD a.Ar∧Sl (Bs (Ao .i64)) j (zf Z w [some m,some b1]) aE aF aL)) ?e2 ?e3
     case e2=>
      clear b;refine BW (fun a9 d j=>∃c,∃i,∃f,GJ a a9 c i f=some aS∧Fo X0 58 d∧sl d 1=.slice aE aL.length aF∧sl d 2=pt b1 0∧sl d 6=I (a.Ab.length:Int)∧sl d 7=I z2∧sl d 9=I r∧sl d 10=.slice (some ⟨m,0,none⟩) f.length ((a.Aw.length:Int).toNat)∧sl d 11=I c∧sl d 12=I i∧Hp FN [] w [some m,some b1] j∧BH (Ao .i64) 3 w.heap.size j (zf Z w [some m,some b1]) (some ⟨m,0,none⟩) ((a.Aw.length:Int).toNat) f∧Bk j b1 67 (Ai s u p q x y aA aB n o aC aD a).toArray∧Sl Az j (zf Z w [some m,some b1]) s u a.Ag∧Sl (Bs (Ao .i64)) j (zf Z w [some m,some b1]) p q a.Ab∧Sl AH j (zf Z w [some m,some b1]) x y a.Ak∧Sl Ba j (zf Z w [some m,some b1]) aA aB a.AJ∧Sl Bc j (zf Z w [some m,some b1]) n o a.Aw∧Sl Bp j (zf Z w [some m,some b1]) aC aD a.Ar∧Sl (Bs (Ao .i64)) j (zf Z w [some m,some b1]) aE aF aL) cU ?e4 ?e5
      case e4=>
       intro st;have eK:=(bW.ext dW);have ⟨c9,dA,dB,dC,dD,dE,dF⟩:=Ea b6 b7 b8 b9 cA cB cC (Rt dW dV);exact⟨r,(((List.replicate (a.Aw.length:Int).toNat (0:Int)).length:Int)-1),(List.replicate (a.Aw.length:Int).toNat (0:Int)),aO,qo st,sp st 1 eI,sp st 2 cQ,sp st 6 eJ,sp st 7 cR,sp st 9 bR,sp st 10 rfl,sp st 11 rfl,sp st 12 rfl,fV,fW,eK,c9,dA,dB,dC,dD,dE,dF⟩
      case e5=>
       rintro(_|a9) f8 dX ⟨c,i,f,aO,eM,bY,bZ,aM,b4,b5,aP,bJ,aQ,eS,aG,bK,aT,aU,aV,aW,aX,aY,aZ⟩
       ·exact absurd (show none=some _ from aO) (by simp)
       rw[GJ.eq_2] at aO;have b:=aO;clear aO;refine ro eM<|Af<|cr<|wM (v:=I i) aQ<|wD (fun st=>J7 (eR st) (eR st))<|wn ?_;rcases Ae (decide ((0:Int)≤i)) with bA|bA
       ·replace b:=Ap b bA;refine Am rfl bA<|cn<|Af<|AI ?_;replace b:=GM b;obtain⟨dY,b⟩:=b;replace b:=PJ b;obtain⟨dZ,b⟩:=b;replace b:=AF b;obtain⟨e6,b⟩:=b;replace b:=AP b;obtain⟨i17,gL,d0,d1,cD,b⟩:=b;obtain⟨fX,fY,_,d2,rfl,f9⟩:=Sl.Cz aG.all rfl d1;have d3:i.toNat=i17:=by rw[d0,Int.toNat_natCast]
        refine Vu 10 (fun ph _ j=>TC dX (FU FN [some m]) (WJ dX _) ph j) (fun _=>[]) [9] [Kc (.slice (some ⟨m,0,none⟩) f.length ((a.Aw.length:Int).toNat)),Kc (I i),Kc (I c),Kc (I (a.Ab.length:Int)),Kc (I (c%(a.Ab.length:Int))),Kc (I c),Kc (I (a.Ab.length:Int)),Kc (I (c/(a.Ab.length:Int))),Kc (pt fX (fY+i17)),Kt] mixed rfl rfl (Vt _ _) (fun _ _ _ _ _ h g _=>Aab Wn h g) (fun _=>Fh _)
            (Aa (oD (fun K=>Au (es ((K.out 10 rfl).trans aP))))
            (Aa (oD (fun K=>Au (es ((K.out 12 rfl).trans aQ))))
            (Aa (oD (fun K=>Au (es (t:=11) ((K.later 10 11 _ rfl rfl rfl).trans bJ))))
            (Aa (oD (fun K=>Au (es ((K.out 6 rfl).trans aM))))
            (Aa (oD (fun K=>JO (es (K.dq 2 46)) (es (K.dq 3 47)) dY.1 dY.2))
            (Aa (oD (fun K=>Au (es (t:=11) ((K.later 10 11 _ rfl rfl rfl).trans bJ))))
            (Aa (oD (fun K=>Au (es ((K.out 6 rfl).trans aM))))
            (Aa (oD (fun K=>Ru (es (K.dq 5 49)) (es (K.dq 6 50)) dZ.1 dZ.2 e6))
            (Aa (oD (fun K=>AR (k:=i17) Tryz.underlying31 C7 (es (K.dq 0 44)) d2 (es (K.dq 1 45)) d0 cD))
            (Aa (YD rfl rfl (fun a' w' ph K=>(Wm (k:=i17) (z':=c%(a.Ab.length:Int)) (l:=[I (c%(a.Ab.length:Int))]) (aG.ext (Qu K.AD (K.WV 0 rfl)) (Ac (Qu K.AD (K.WV 0 rfl)))) d1 d2 rfl (es (K.dq 8 52)) (es (K.dq 4 48)) C7 rfl rfl (BJ rfl) rfl).mono (fun v CO hq=>by have fZ:Dc (FU FN [some m]) w' CO:=(YI hq.1);exact⟨trivial,ZX ⟨fun _ _ _ h=>h,fun _ _ _ h=>h,fun _ _ _ h=>h,fun _ _ _ h=>h,fun _ _ _ h=>h,fun _ _ _ h=>h,fun _ _ _ h=>h,fun _ _ _ h=>h,fun _ _ _ h=>h,fun h=>absurd rfl h,trivial⟩,Ab8 K.AD (K.WV 0 rfl) fZ ⟨v,w',CO,(Qu K.AD (K.WV 0 rfl)),hq,Ext.refl _⟩⟩)))
            (BI _))))))))))) ?_
        intro gM;rintro _ rfl _ rfl _ rfl _ rfl _ rfl _ rfl _ rfl _ rfl _ rfl ⟨_,e7,gA,e8,bS,eN,aI⟩;have cT:=eS.ext bS;revert e7 e8 eN;rintro _ f0 ⟨bT,e9⟩;have f1:=cT.gr bT 0 rfl;have fA:BH (Ao .i64) 3 w.heap.size f0 (zf Z w [some m,some b1]) (some ⟨m,0,none⟩) ((a.Aw.length:Int).toNat) (f.set i.toNat (c%(a.Ab.length:Int))):=by rw[show f.set i.toNat (c%(a.Ab.length:Int))=f.set i17 (c%(a.Ab.length:Int)) from congrArg (fun fB=>f.set fB (c%(a.Ab.length:Int))) d3];exact Xd e9 (cT.Co bT 0 rfl)
        have gB:(f.set i.toNat (c%(a.Ab.length:Int)))[i17]?=some (c%(a.Ab.length:Int)):=by rw[show f.set i.toNat (c%(a.Ab.length:Int))=f.set i17 (c%(a.Ab.length:Int)) from congrArg (fun fB=>f.set fB (c%(a.Ab.length:Int))) d3];exact List.getElem?_set_self cD
        have gC:i17<(f.set i.toNat (c%(a.Ab.length:Int))).length:=by rw[List.length_set];exact cD
        have fC:=(aP).trans (show(.slice (some ⟨m,0,none⟩) f.length ((a.Aw.length:Int).toNat):Value)=.slice (some ⟨m,0,none⟩) ((f.set i.toNat (c%(a.Ab.length:Int))).length) ((a.Aw.length:Int).toNat) by simp only[List.length_set]);have gD:(.slice (some ⟨m,0,none⟩) f.length ((a.Aw.length:Int).toNat):Value)=.slice (some ⟨m,0,none⟩) ((f.set i.toNat (c%(a.Ab.length:Int))).length) ((a.Aw.length:Int).toNat):=by simp only[List.length_set]
        intro aI;have f2:=f1.ext aI;refine wA (v:=I (c/(a.Ab.length:Int))) rfl<|AU<|CS<|Al<|wM (v:=I i) aQ ?_;replace b:=AF b;obtain⟨fD,b⟩:=b;refine wD (fun st=>El (eR st) (eR st) fD)<|wA (v:=I (i-1)) rfl<|AU ?_;have d4:=(fA.ext aI (Ac aI));have eO:=(((bK.ext bS).gr bT (cT.nq 1 0)).ext aI);have ⟨dG,dH,dI,dJ,dK,dL,dM⟩:=Ea aT aU aV aW aX aY aZ (mt (Ac bS) (mt (cT.Co bT 0 rfl) (Ac aI)));refine Bi a9 (Nat.lt_succ_self _) (fun st=>?_);exact⟨(c/(a.Ab.length:Int)),(i-1),(f.set i.toNat (c%(a.Ab.length:Int))),b,qo st,sp st 1 bY,sp st 2 bZ,sp st 6 aM,sp st 7 b4,sp st 9 b5,sp st 10 fC,sp st 11 rfl,sp st 12 rfl,f2,d4,eO,dG,dH,dI,dJ,dK,dL,dM⟩
       ·replace b:=Aq b bA;refine An rfl bA<|Dq ?_;obtain rfl:=oi b;refine BC (fun st=>?_);exact⟨rfl,qo st,sp st 1 bY,sp st 2 bZ,sp st 6 aM,sp st 7 b4,sp st 9 b5,sp st 10 aP,eS,aG,bK,aT,aU,aV,aW,aX,aY,aZ⟩
     case e3=>
      rintro bO f5 gE (⟨rfl,d5,bL,bM,dN,dO,dP,bB,eP,bC,bN,a0,a2,a3,a4,a5,a7,a8⟩);refine lf d5<|AZ<|BS<|cr<|wD (fun st=>AK (l:=(Ai s u p q x y aA aB n o aC aD a)) Cc (ee st bM) bN rfl rfl)<|wM (v:=.slice aE aL.length aF) bL<|wM (v:=.slice (some ⟨m,0,none⟩) aS.length ((a.Aw.length:Int).toNat)) bB ?_;replace b:=bind_some b;obtain⟨eT,fE,b⟩:=b;refine wE (fun st=>Aj AaK (eR st) (Dx (eR st) (eR st) (eR st)) (a83 cU a aL aS s u p q x y aA aB n o aC aD aE aF (some ⟨m,0,none⟩) ((a.Aw.length:Int).toNat) ZA _ a0.all a2.all a3.all a4.all a5.all a7.all a8.all bC.all eT fE)) ?_;rintro _ gN ⟨bD,rfl⟩;have cE:=eP.ext bD;refine wn ?_;rcases Ae (eT) with bE|bE
      ·replace b:=Ap b bE;refine Am rfl bE<|cr<|wM (v:=.slice (some ⟨m,0,none⟩) aS.length ((a.Aw.length:Int).toNat)) bB<|wA (v:=.slice (some ⟨m,0,none⟩) aS.length ((a.Aw.length:Int).toNat)) rfl<|wA (v:=.bool true) rfl<|wn<|Av<|Dd<|AG ?_;have dQ:=(bC.ext bD (Ac bD));have fF:=cE.erase 0;have d6:=cE.SI 0 rfl dQ;obtain rfl:=oi b;refine BC (fun st=>?_);exact .inl ⟨rfl,(aS,true),rfl,(some ⟨m,0,none⟩),((a.Aw.length:Int).toNat),qo st,sp st 4 rfl,sp st 5 rfl,fF,d6⟩
      ·replace b:=Aq b bE;refine An rfl bE<|Ct<|CS<|Al<|wM (v:=I r) dP ?_;replace b:=AF b;obtain⟨fG,b⟩:=b;refine wD (fun st=>BG (eR st) (eR st) fG)<|wA (v:=I (r+1)) rfl<|AU ?_;have fH:=cE.erase 0;have d7:=(bN.ext bD);have ⟨cF,cG,cH,cI,cJ,cK,cL⟩:=Ea a0 a2 a3 a4 a5 a7 a8 (mt (Ac bD) (AV 0));refine Bi a9 (Nat.lt_succ_self _) (fun st=>?_);exact⟨(r+1),b,qo st,sp st 1 bL,sp st 2 bM,sp st 6 dN,sp st 7 dO,sp st 9 rfl,fH,d7,cF,cG,cH,cI,cJ,cK,cL⟩
    ·replace b:=Aq b bX;refine An rfl bX<|Dq ?_;obtain rfl:=oi b;refine BC (fun st=>?_);exact .inr ⟨rfl,(),rfl,qo st,cS⟩
  case fR=>
   rintro bO gF gO (⟨rfl,aR,rfl,aJ,aK,bU,d8,d9,cM,bF⟩|⟨rfl,aR,rfl,bU,cM⟩)
   ·skip
    replace b:=C9 b;refine lf bU<|Dd ?_;obtain rfl:=oi b;refine D1 rfl d8 d9 ?_;exact⟨cM.AS,⟨_,_,rfl,⟨_,_,rfl,bF.mv (BQ (CE [] trivial))⟩,rfl⟩⟩
   ·skip
    replace b:=Da b;refine lf bU<|AZ<|BS<|cr<|wA (v:=.slice none 0 0) rfl<|wA (v:=.bool false) rfl<|wn<|Av ?_;obtain rfl:=oi b;refine D1 rfl rfl rfl ?_;exact⟨cM.AS,⟨_,_,rfl,⟨_,_,rfl,Sl.nil _ _ _⟩,rfl⟩⟩
theorem a51 u c a b(Z:Nat→Prop) w(h:Sl (Ao .i64) w Z a b c) p(d:Cr u c=some p):
 B7 Tryz.prog 51 #[.slice a c.length b] w (fun v w'=>Ext w w'∧(Fq (Ao .i64)).R w' (zf Z w []) v p):=by
 unfold Cr at d;refine rq (N:=5) Tryz.func51 fun z ha aA=>?_;have o:=sA 0 ha;clear ha;have q:Hp FN [] w [] w:=Hp.start (BL.none w);have e:=h.mv (Bd (Z:=Z) (L:=[]) w);refine cr<|wA (v:=.slice none 0 0) rfl<|wr<|wM (v:=.slice a c.length b) o ?_;have g:=q.nil;have r:BH (Ao .i64) 3 w.heap.size w (zf Z w [none]) none 0 ([]:List Int):=BH.nil _ _ _ _ _;replace d:=Ci d;obtain⟨i,d⟩:=d;have f:=(e.mv B8);refine wE (fun st=>I0 (ys:=c) Tryz.underlying31 HG rfl rfl (by decide) (eR st) rfl (eR st) r f.n (by have:=i;simp only[maxLen];omega) (by have:=i;omega) g.sz) ?_;rintro _ aB ⟨x,y,rfl,j,l,s⟩;have m:=g.row j 0 rfl l;have t:=Eb s (g.DE j 0 rfl (fun k hk=>(l k hk).1));refine wA (v:=.slice x ((([]:List Int)++c).length) y) rfl<|wn<|Av ?_;obtain rfl:=oi d;refine Ay rfl rfl ?_;exact⟨m.AS,⟨_,_,rfl,m.HP (M:=[]) 0 rfl [] rfl trivial t⟩⟩
theorem T6 aM n a b c d e f g h i j k m(Z:Nat→Prop) w(aE:Sl Az w Z a b n.Ag)(aF:Sl (Bs (Ao .i64)) w Z c d n.Ab)(aG:Sl AH w Z e f n.Ak)(aH:Sl Ba w Z g h n.AJ)(aI:Sl Bc w Z i j n.Aw)(aJ:Sl Bp w Z k m n.Ar) aN(p:C2 aM n=some aN):
 B7 Tryz.prog 65 #[.agg (Ai a b c d e f g h i j k m n).toArray] w (fun v w'=>Ext w w'∧(DT .i64).R w' (zf Z w []) v aN):=by
 unfold C2 at p;refine rq (N:=5) Tryz.func65 fun aU ha aV=>?_;have aL:=sA 0 ha;clear ha;have aK:Hp FN [] w [] w:=Hp.start (BL.none w);have ⟨q,r,s,t,u,x⟩:=Cp aE aF aG aH aI aJ (Bd (Z:=Z) (L:=[]) w);refine cr<|wE (fun st=>BP (v:=.agg (Ai a b c d e f g h i j k m n).toArray) (cs:=(Ai a b c d e f g h i j k m n).toArray) (ee st aL) rfl) ?_;rintro _ w1 ⟨b1,rfl,o⟩;have aO:=aK.nb o;have aT:=aK.BU o;refine wA (v:=I 0) rfl<|wr<|wD (fun st=>AK (l:=(Ai a b c d e f g h i j k m n)) Cc (eR st) o.bk rfl rfl) ?_;have ⟨y,z,aA,aB,aC,aD⟩:=Cp q r s t u x (AA o);replace p:=bind_some p;obtain⟨aP,aQ,p⟩:=p;refine wE (fun st=>Aj OC (eR st) (Cy (eR st)) (a116 aM n a b c d e f g h i j k m ZA _ y.all z.all aA.all aB.all aC.all aD.all aP aQ)) ?_;rintro _ aW ⟨aR,rfl⟩;have aS:=aO.ext aR;refine wA (v:=I aP) rfl<|wn<|Av ?_;obtain rfl:=oi p;refine Ay rfl rfl ?_;exact⟨aS.AS,rfl⟩
theorem Vg aW b c d e f g h i j k m n o(Z:Nat→Prop) w(aN:Sl Az w Z c d b.Ag)(aO:Sl (Bs (Ao .i64)) w Z e f b.Ab)(aP:Sl AH w Z g h b.Ak)(aQ:Sl Ba w Z i j b.AJ)(aR:Sl Bc w Z k m b.Aw)(aS:Sl Bp w Z n o b.Ar) aY(a:CU aW b=some aY):
 B7 Tryz.prog 44 #[.agg (Ai c d e f g h i j k m n o b).toArray] w (fun v w'=>Ext w w'∧(DT .i64).R w' (zf Z w []) v aY):=by
 unfold CU at a;refine rq (N:=14) Tryz.func44 fun a9 ha bA=>?_;have aX:=sA 0 ha;clear ha;have aU:Hp FN [] w [] w:=Hp.start (BL.none w);have ⟨y,z,aA,aB,aC,aD⟩:=Cp aN aO aP aQ aR aS (Bd (Z:=Z) (L:=[]) w);refine cr<|wE (fun st=>BP (v:=.agg (Ai c d e f g h i j k m n o b).toArray) (cs:=(Ai c d e f g h i j k m n o b).toArray) (ee st aX) rfl) ?_;rintro _ w1 ⟨b1,rfl,s⟩;have aZ:=aU.nb s;have a5:=aU.BU s;refine wA (v:=I 0) rfl<|wn<|Af<|cr<|wD (fun st=>AK (l:=(Ai c d e f g h i j k m n o b)) Cc (eR st) s.bk rfl rfl) ?_;have ⟨p,q,r,aE,aF,aG⟩:=Cp y z aA aB aC aD (AA s);replace a:=bind_some a;obtain⟨aH,a0,a⟩:=a;refine wE (fun st=>Aj OT (eR st) (Cy (eR st)) (T6 aW b c d e f g h i j k m n o ZA _ p.all q.all r.all aE.all aF.all aG.all aH a0)) ?_;rintro _ bB ⟨aL,rfl⟩;have aM:=aZ.ext aL;refine wA (v:=I aH) rfl<|wr<|wM (v:=I aH) rfl<|wD (fun st=>Db (eR st) (eR st))<|wn ?_;rcases Ae (aH !=0) with t|t
 ·replace a:=Ap a t;refine Am rfl t<|cr<|wM (v:=I aH) rfl<|wA (v:=I aH) rfl<|wn<|Av<|AG ?_;obtain rfl:=oi a;refine Ay rfl rfl ?_;exact⟨aM.AS,rfl⟩
 ·replace a:=Aq a t;refine An rfl t<|cn<|Af<|cr<|wD (fun st=>Ad (eR st) (DQ _ _)) ?_;have aT:=(s.bk.ext aL);refine wD (fun st=>AK (l:=[.slice c b.Ag.length d,.slice e b.Ab.length f,.slice g b.Ak.length h]) Dt (eR st) aT rfl rfl) ?_;have ⟨aI,aJ,aK⟩:=DU p q r (Ac aL);replace a:=bind_some a;obtain⟨a2,a3,a⟩:=a;refine wE (fun st=>Aj Kw (eR st) (Cy (eR st)) (a28 aW (⟨b.Ag,b.Ab,b.Ak⟩:AO) c d e f g h (zf Z w [some b1]) _ aI aJ aK a2 a3)) ?_;rintro _ bC ⟨a4,⟨a7,a8,rfl,u⟩⟩;have aV:=aM.ext a4;have u:=u.mv (aM.CQ (Nat.le_refl _));refine wD (fun st=>Be Tryz.underlying23 (eR st))<|wD (fun st=>CT (eR st) (eR st))<|wn ?_;rcases Ae ((a2.length:Int)==0) with x|x
  ·replace a:=Ap a x;refine Am rfl x<|cr<|wA (v:=I 11) rfl<|wn<|Av<|AG ?_;obtain rfl:=oi a;refine Ay rfl rfl ?_;exact⟨aV.AS,rfl⟩
  ·replace a:=Aq a x;refine An rfl x<|cn<|cr<|wA (v:=I 0) rfl<|wn<|Av ?_;obtain rfl:=oi a;refine Ay rfl rfl ?_;exact⟨aV.AS,rfl⟩
theorem Yh a3 o b c d e f g h i j k m n(Z:Nat→Prop) w(aT:Sl Az w Z b c o.Ag)(aU:Sl (Bs (Ao .i64)) w Z d e o.Ab)(aV:Sl AH w Z f g o.Ak)(aW:Sl Ba w Z h i o.AJ)(aX:Sl Bc w Z j k o.Aw)(aY:Sl Bp w Z m n o.Ar) a5(a:DN a3 o=some a5):
 B7 Tryz.prog 39 #[.agg (Ai b c d e f g h i j k m n o).toArray] w (fun v w'=>Ext w w'∧(OM (Fq (Bs (Ao .i64))) (DT .i64)).R w' (zf Z w []) v a5):=by
 unfold DN at a;refine rq (N:=17) Tryz.func39 fun bC ha bD=>?_;have a4:=sA 0 ha;clear ha;have a0:Hp FN [] w [] w:=Hp.start (BL.none w);have ⟨aD,aE,aF,aG,aH,aI⟩:=Cp aT aU aV aW aX aY (Bd (Z:=Z) (L:=[]) w);refine cr<|wE (fun st=>BP (v:=.agg (Ai b c d e f g h i j k m n o).toArray) (cs:=(Ai b c d e f g h i j k m n o).toArray) (ee st a4) rfl) ?_;rintro _ w1 ⟨b1,rfl,aA⟩;have a7:=a0.nb aA;have bB:=a0.BU aA;refine wA (v:=.slice none 0 0) rfl<|wA (v:=I 0) rfl<|wn<|Af<|cr<|wD (fun st=>AK (l:=(Ai b c d e f g h i j k m n o)) Cc (eR st) aA.bk rfl rfl) ?_;have ⟨s,t,u,x,y,z⟩:=Cp aD aE aF aG aH aI (AA aA);replace a:=bind_some a;obtain⟨aJ,a8,a⟩:=a;refine wE (fun st=>Aj PB (eR st) (Cy (eR st)) (Vg a3 o b c d e f g h i j k m n ZA _ s.all t.all u.all x.all y.all z.all aJ a8)) ?_;rintro _ bE ⟨aR,rfl⟩;have aS:=a7.ext aR;refine wA (v:=I aJ) rfl<|wr<|wM (v:=I aJ) rfl<|wD (fun st=>Db (eR st) (eR st))<|wn ?_;rcases Ae (aJ !=0) with aB|aB
 ·replace a:=Ap a aB;refine Am rfl aB<|cr<|wM (v:=I aJ) rfl<|wA (v:=.slice none 0 0) rfl<|wA (v:=I aJ) rfl<|wn<|Av<|AG ?_;obtain rfl:=oi a;refine D1 rfl rfl rfl ?_;exact⟨aS.AS,⟨_,_,rfl,⟨_,_,rfl,Sl.nil _ _ _⟩,rfl⟩⟩
 ·replace a:=Aq a aB;refine An rfl aB<|cn<|Af<|Al ?_;have aZ:=(aA.bk.ext aR);refine wD (fun st=>AK (l:=(Ai b c d e f g h i j k m n o)) Cc (eR st) aZ rfl rfl) ?_;have ⟨aK,aL,aM,aN,aO,aP⟩:=Cp s t u x y z (Ac aR);replace a:=bind_some a;obtain⟨aQ,a9,a⟩:=a;refine wE (fun st=>Aj Nv (eR st) (Cy (eR st)) (a53 a3 o b c d e f g h i j k m n (zf Z w [some b1]) _ aK aL aM aN aO aP aQ a9)) ?_;rintro _ bF ⟨bA,⟨p,q,rfl,r⟩⟩;have a2:=aS.ext bA;have r:=r.mv (aS.CQ (Nat.le_refl _));refine wA (v:=.slice p aQ.length q) rfl<|wn<|Af<|cr<|wM (v:=.slice p aQ.length q) rfl<|wD (fun st=>Be Tryz.underlying23 (eR st))<|wD (fun st=>CT (eR st) (eR st))<|wn ?_;rcases Ae ((aQ.length:Int)==0) with aC|aC
  ·replace a:=Ap a aC;refine Am rfl aC<|cr<|wA (v:=.slice none 0 0) rfl<|wA (v:=I 9) rfl<|wn<|Av<|AG ?_;obtain rfl:=oi a;refine D1 rfl rfl rfl ?_;exact⟨a2.AS,⟨_,_,rfl,⟨_,_,rfl,Sl.nil _ _ _⟩,rfl⟩⟩
  ·replace a:=Aq a aC;refine An rfl aC<|cn<|cr<|wM (v:=.slice p aQ.length q) rfl<|wA (v:=.slice p aQ.length q) rfl<|wA (v:=I 0) rfl<|wn<|Av ?_;obtain rfl:=oi a;refine D1 rfl rfl rfl ?_;exact⟨a2.AS,⟨_,_,rfl,⟨_,_,rfl,r.mv (BQ (CE [] trivial))⟩,rfl⟩⟩
end Go.Proofs.YtbhofkcbfblijaaGreat
end
section
namespace Go.Proofs.YtbhofkcbfblijaaGreat
open Go.RowKit Go.ChangeShapes Go.WideShapes
section
variable{H:Type}{enc:TypeId×Value→H}{P:Program}{W W':World}
variable{α:Type}{e:ED α}{wf:α→Prop}{t:TypeId}{b0:Nat}{v:Value}{d:DataW H}{p:List MemPlace}{sp:Nat→Bool}
theorem Pz{ee:TypeId}(f:P.underlying t=some (.slice ee)){wf:List α→Prop}(g:Qc P t (Bs e) wf)(i:Value.okWide P W .any b0 t v)(h:DataW.Trod enc P W 0 sp true t v d p)(hs:QR P t d):∃xs A c,v=.slice A xs.length c∧Sl e W ZA A c xs∧wf xs:=by
 obtain⟨A,n,c,rfl⟩:=okWide_slice f i;obtain⟨m,hm⟩:=h;obtain⟨xs,⟨a,b,h1,h2⟩,j⟩:=g _ _ _ _ _ _ _ hm hs;have:Value.slice A n c=Value.slice a xs.length b:=by simpa[Value.cells] using h1
 exact⟨xs,a,b,this,h2,j⟩
end
end Go.Proofs.YtbhofkcbfblijaaGreat
end
