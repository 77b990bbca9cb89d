import Derived.Test.YtbhofkcbfblijaaGreatCG5
import Derived.WalkKit
import Derived.KernelRfl
import Derived.WalkSpells
import Derived.WalkLawsBesides
import Derived.Maps.AppendAt
import Derived.OrdersIn
import Derived.RangeFuncIn
import Derived.RangeFuncLeaves
import Derived.RangeFuncRecord
import Derived.RangeFuncSeq
import Derived.Scope
import Derived.DeepKeys3
import Derived.Laws.CopyRow
import Derived.Laws.OwnMore
import Derived.Laws.MakeOwn
import Derived.Laws.IdiomCopy
import Derived.Sort.OwnSortedInts
import Derived.Lib.RowBridge
import Derived.Shelf.Sort.Plain
import Derived.Ground.Names2Prog
import Derived.Shelf.Slices.Clone
import Derived.Shelf.Slices.CompactI
import Derived.Shelf.Slices.In.SortNone
import Derived.Ground.SlgnProg
import Derived.Shelf.SlicesE.Clone
import Derived.ProofKit
import Derived.ChangeSame
import Derived.SizedLaws
import Derived.Deep.Slices
import Derived.JoinedOf
import Derived.Test.YtbhofkcbfblijaaGreatProg
import Derived.Test.YtbhofkcbfblijaaGreatRows
/-
  What the law TradePlays needs beside the base that several claims of this seat share: contracts, and the plain law.
-/
set_option linter.all false
section
namespace Go.Proofs.YtbhofkcbfblijaaGreat
open Go.RowKit Go.WideShapes
def CY(a n:Int):Int:=a*2^n.toNat
def EV(a n:Int):Option Unit:=if 0≤n∧n<64∧-9223372036854775808≤a*2^n.toNat∧a*2^n.toNat≤9223372036854775807 then some () else none
theorem E3{α:Type}{a n:Int}{f:Unit→Option α}{r:α}(h:(EV a n).bind f=some r):(0≤n∧n<64∧fits (CY a n))∧f ()=some r:=by
 unfold EV at h;split at h
 ·rename_i h1;exact⟨⟨h1.1,h1.2.1,h1.2.2⟩,h⟩
 ·cases h
def GG(a b:Int):Option Unit:=if (0≤a∧a≤9223372036854775807)∧(0≤b∧b≤9223372036854775807) then some () else none
theorem F5{α:Type}{a b:Int}{f:Unit→Option α}{r:α}(h:(GG a b).bind f=some r):((0≤a∧a≤9223372036854775807)∧(0≤b∧b≤9223372036854775807))∧f ()=some r:=by
 unfold GG at h;split at h
 ·exact⟨by assumption,h⟩
 ·cases h
def GX(a b:Int):Int:=((a.toNat|||b.toNat:Nat):Int)
section
variable{P:Program}{a:Act}{w:World}{dst:Option Tmp}{ty:TypeId}{pos:String}{Ec:Array Edge}{g:Option (Nat×Bool)}
theorem HL{x y:Operand}{m n:Int}{k:IntKind}{t b:TypeId}(hx:a.eval x=.int .i64 m)(c:a.eval y=.int k n)(h:0≤n∧n<64∧fits (CY m n)):Eb P ⟨dst,.binOp .shl t x y b,ty,pos,Ec,g⟩ a w (fun u w'=>u=.int .i64 (CY m n)∧w'=w):=
 DJ (by
  have hn:¬n<0:=by omega
  have hb:min n.toNat IntKind.i64.bits=n.toNat:=by
   have:IntKind.i64.bits=64:=rfl;omega
  have d:IntKind.i64.wrap (m*2^n.toNat)=m*2^n.toNat:=GO h.2.2;simp[execOp,hx,c,eqGuard,binOp,Op.shift,hn,hb,d,CY])
theorem H0{m:Int}(h0:0≤m)(h1:m≤9223372036854775807):(BitVec.ofInt 64 m).toNat=m.toNat:=by
 rw[BitVec.toNat_ofInt];omega
theorem HX{k:Nat}(h:k≤9223372036854775807):IntKind.i64.wrap (k:Int)=k:=GO ⟨by omega,by omega⟩
theorem NR{x y:Operand}{m n:Int}{t b:TypeId}(hx:a.eval x=.int .i64 m)(c:a.eval y=.int .i64 n)(h:(0≤m∧m≤9223372036854775807)∧(0≤n∧n≤9223372036854775807)):Eb P ⟨dst,.binOp .or t x y b,ty,pos,Ec,g⟩ a w (fun u w'=>u=.int .i64 (GX m n)∧w'=w):=
 DJ (by
  have e:(BitVec.ofInt 64 m|||BitVec.ofInt 64 n).toNat=m.toNat|||n.toNat:=by rw[BitVec.toNat_or,H0 h.1.1 h.1.2,H0 h.2.1 h.2.2]
  have f:m.toNat|||n.toNat<2^63:=Nat.or_lt_two_pow (by omega) (by omega);have d:IntKind.i64.wrap ((m.toNat|||n.toNat:Nat):Int)=((m.toNat|||n.toNat:Nat):Int):=HX (by omega);have key:(Op.intBits .or .i64 m n).run P w=.ok (.int .i64 (GX m n)) w:=by
   show(pure (Value.int .i64 (IntKind.i64.wrap ((BitVec.ofInt 64 m|||BitVec.ofInt 64 n).toNat:Int))):Sem Value).run P w=_;rw[e,d];rfl
  simp[execOp,hx,c,eqGuard,binOp,key])
theorem SK{x y:Operand}{b c:Bool}{t d:TypeId}(hb:∀b c w,(Op.equal t (.bool b) (.bool c)).run P w=.ok (b==c) w)(hx:a.eval x=.bool b)(e:a.eval y=.bool c):
  Eb P ⟨dst,.binOp .neq t x y d,ty,pos,Ec,g⟩ a w (fun u w'=>u=.bool (b !=c)∧w'=w):=by
 refine Ux hx e ?_;show(do eqGuard .neq t x y (.bool b) (.bool c);pure (Value.bool (!(←Op.equal t (.bool b) (.bool c)))):Sem Value).run P w=_;have f:(eqGuard .neq t x y (.bool b) (.bool c)).run P w=.ok () w:=by simp[eqGuard]
 simp only[Sem.run_bind,f,Result.andThen_ok,hb,Sem.run_pure];rfl
end
def Jn(b:Nat)(a:Aj)(c:List Int):Option (Bool):=
 (KC b a).bind fun h=>cond (h !=0) (some (false)) ((Fs b (⟨a.Al,a.Ac,a.Ap⟩:AV) c).bind fun i=>cond (!i) (some (false)) ((JQ b a).bind fun d=>(KD b a c).bind fun e=>(FK b d e).bind fun f=>(DV b a f.1 ([]:List Int)).bind fun g=>some (g)))
def BK(d:Nat)(b:AV)(c:List Int):Nat→Int→Option ((Bool)⊕(Unit))
 |0,_=>none
 |e+1,a=>cond (decide (a<(c.length:Int))) (cond (decide (a<(b.AF.length:Int))) ((idx c a).bind fun f=>(idx b.AF a).bind fun g=>(idx b.AF a).bind fun h=>(Dh d f g.Lo h.Hi).bind fun i=>cond (!i) (some (.inl false)) ((i64 (a+1)).bind fun _=>BK d b c e (a+1))) (some (.inr ()))) (some (.inr ()))
def C3(b:Nat)(c:AV)(d:List Int):Option (Bool):=
 (BK b c d b (0:Int)).bind fun z=>Sum.elim (fun a=>some (a)) (fun a=>some ((d.length:Int)==(c.AF.length:Int))) z
def BV(c:List Int)(f:List Int):Nat→Int→Int→Option (Int)
 |0,_,_=>none
 |g+1,b,a=>cond (decide (a<(c.length:Int))) ((idx f a).bind fun d=>(idx c a).bind fun e=>(i64 (d*e)).bind fun _=>(i64 (b+(d*e))).bind fun _=>(i64 (a+1)).bind fun _=>BV c f g (b+(d*e)) (a+1)) (some (b))
def BP(c:Nat)(e:List Int)(d:List Int):Option (Int):=
 (BV e d c (0:Int) (0:Int)).bind fun a=>(Ft c d).bind fun b=>(quo a b).bind fun _=>(i64 (a/b)).bind fun _=>some (a/b)
def C7(c:Nat)(d:AV)(a:List Int)(b:Int):Option (Int):=
 cond (decide (b<(a.length:Int))) ((idx a b).bind fun e=>some (e)) ((i64 (b-(a.length:Int))).bind fun _=>(idx d.BW (b-(a.length:Int))).bind fun f=>(BP c a f).bind fun g=>some (g))
def C5(b:Nat)(c:AV)(d:List Int)(a:FD):Option (Bool):=
 cond (a.C0) ((i64 (a.Number+(c.AF.length:Int))).bind fun _=>(C7 b c d (a.Number+(c.AF.length:Int))).bind fun g=>(Dh b g a.Bq a.Br).bind fun h=>some (h)) ((C7 b c d a.Number).bind fun e=>(Dh b e a.Bq a.Br).bind fun f=>some (f))
def Bj(c:Nat)(b:AV)(d:List Int):Nat→Int→Option ((Bool)⊕(Unit))
 |0,_=>none
 |g+1,a=>cond (decide (a<(b.Bt.length:Int))) ((idx b.Bt a).bind fun e=>(C5 c b d e).bind fun f=>cond (!f) (some (.inl false)) ((i64 (a+1)).bind fun _=>Bj c b d g (a+1))) (some (.inr ()))
def CK(b:Nat)(c:AV)(d:List Int):Option (Bool):=
 (C3 b c d).bind fun e=>cond (!e) (some (false)) ((Bj b c d b (0:Int)).bind fun z=>Sum.elim (fun a=>some (a)) (fun a=>some (true)) z)
def BZ(a:Nat)(b:Aj)(c:Int):Option (Int):=
 (idx b.Ac c).bind fun x2=>(Ft a x2).bind fun d=>some (d)
def BF(d:Nat)(b:Aj)(e:List Int)(f:Int):Nat→Int→Int→Option (Int)
 |0,_,_=>none
 |g+1,c,a=>cond (decide ((0:Int)≤a)) ((idx b.Ac f).bind fun i=>(BP d e i).bind fun j=>(idx b.AH a).bind fun k=>cond (decide (k.BU≤j)) ((idx b.AH a).bind fun h=>(i64 (a-1)).bind fun _=>BF d b e f g h.DT (a-1)) ((i64 (a-1)).bind fun _=>BF d b e f g c (a-1))) (some (c))
def Cs(c:Nat)(a:Aj)(e:List Int)(d:Int):Option (Int):=
 (i64 ((a.AH.length:Int)-1)).bind fun _=>(BF c a e d c (0:Int) ((a.AH.length:Int)-1)).bind fun z3=>(BZ c a d).bind fun b=>(i64 (z3*b)).bind fun _=>some (z3*b)
def BN(d:Nat)(c:Aj)(e:List Int):Nat→Int→Int→Option (Int)
 |0,_,_=>none
 |f+1,b,a=>cond (decide (a<(c.Ao.length:Int))) ((idx c.Ao a).bind fun g=>(idx c.Ao a).bind fun i=>(Cs d c e i.C0).bind fun j=>(Dh d j g.Db g.Dc).bind fun h=>cond (h) ((E5 .u64 a).bind fun _=>(EV (1:Int) a).bind fun _=>(GG b (CY (1:Int) a)).bind fun _=>(i64 (a+1)).bind fun _=>BN d c e f (GX b (CY (1:Int) a)) (a+1)) ((i64 (a+1)).bind fun _=>BN d c e f b (a+1))) (some (b))
def C6(a:Nat)(b:Aj)(c:List Int):Option (Int):=
 (BN a b c a (0:Int) (0:Int)).bind fun z2=>some (z2)
def CL(b:Nat)(a:Aj):Option (Int):=
 (E5 .u64 (a.Ao.length:Int)).bind fun _=>(EV (1:Int) (a.Ao.length:Int)).bind fun _=>(i64 ((CY (1:Int) (a.Ao.length:Int))-1)).bind fun _=>some ((CY (1:Int) (a.Ao.length:Int))-1)
def Ns(b:Nat)(a:Aj)(c:List Int):Option (Bool):=
 (CK b (⟨a.Al,a.Ac,a.Ap⟩:AV) c).bind fun d=>cond (d) ((C6 b a c).bind fun e=>(CL b a).bind fun f=>some (e==f)) (some (false))
def CM(b:Nat)(a:List Int):Option ((List Int)):=
 (EG (((([]:List Int).length+a.length:Nat):Int)≤140737488355328/8)).bind fun _=>some (([]:List Int)++a)
def DY(a:Nat)(b:Aj):Option (Int):=
 (F6 a b).bind fun c=>some (c)
end Go.Proofs.YtbhofkcbfblijaaGreat
end
section
namespace Go.Proofs.YtbhofkcbfblijaaGreat
theorem Pc{β:Type}{n:Nat}{a b:Int}{f:Unit→Option β}(h:0≤a∧a≤b∧b≤(n:Int)):(Ov n a b).bind f=f ():=bd (if_pos h)
theorem OH(r:AN)(rs:List AN):DE (r::rs) []=false:=rfl
theorem OI(x:Int)(xs:List Int):DE [] (x::xs)=false:=rfl
theorem MG(l:List Int):dot l []=0:=by cases l<;>rfl
namespace OkC
variable{c:AV}(h:OkC c)
include h
end OkC
section
variable{K:Nat}(hK:1000≤K)
include hK
theorem Jo(c:AV)(l:List Int)(hh:c.AF.length≤100)(hl:l.length≤100):∀(n m i:Nat),l.length=i+n→i≤c.AF.length→n<m→
  (BK K c l m (i:Int)).bind (fun z=>Sum.elim (fun q=>some q) (fun _=>some ((l.length:Int)==(c.AF.length:Int))) z)=some (DE (c.AF.drop i) (l.drop i))
 |n,0,i,h,_,hm=>by omega
 |0,m+1,i,h,hi,hm=>by
  rw[BK.eq_2,cf (df (by omega)),List.drop_eq_nil_of_le (by omega:l.length≤i)];show some ((l.length:Int)==(c.AF.length:Int))=_
  by_cases e:i<c.AF.length
  ·rw[List.drop_eq_getElem_cons e,Gw (by omega),OH]
  ·rw[List.drop_eq_nil_of_le (by omega),EO (by omega),Qw]
 |n+1,m+1,i,h,hi,hm=>by
  have h1:i<l.length:=by omega
  rw[BK.eq_2,ct (dt (by omega)),List.drop_eq_getElem_cons h1]
  by_cases e:i<c.AF.length
  ·rw[ct (dt (by omega)),BS h1,BS e,BS e,bd (Jk ..),List.drop_eq_getElem_cons e,DE];cases EB l[i] c.AF[i].Lo c.AF[i].Hi with
   |false=>rw[nf,Bool.false_and];rfl
   |true=>
    rw[nt,AZ (by omega) (by omega),CZ i,Bool.true_and];exact Jo c l hh hl n m (i+1) (by omega) (by omega) (by omega)
  ·rw[cf (df (by omega)),List.drop_eq_nil_of_le (by omega:c.AF.length≤i)];show some ((l.length:Int)==(c.AF.length:Int))=_;rw[Gw (by omega),OI]
theorem Kb(c:AV)(l:List Int)(hh:c.AF.length≤100)(hl:l.length≤100):C3 K c l=some (DE c.AF l):=by
 have:=Jo hK c l hh hl l.length K 0 (by omega) (by omega) (by omega);rw[Int.natCast_zero,List.drop_zero,List.drop_zero] at this;exact this
omit hK in
theorem KJ (l w:List Int) (hl:l.length≤100) (hw:l.length=w.length) (bw:∀x∈w,0≤x∧x≤30) (bl:∀x∈l,0≤x∧x≤100):∀(n m i:Nat) (s:Int),l.length=i+n→n<m→0≤s∧s≤3000*(i:Int)→
  BV l w m s (i:Int)=some (s+dot (w.drop i) (l.drop i))
 |n,0,i,s,h,hm,_=>by omega
 |0,m+1,i,s,h,hm,hs=>by
  rw[BV.eq_2,cf (df (by omega)),List.drop_eq_nil_of_le (by omega:l.length≤i),MG,Int.add_zero]
 |n+1,m+1,i,s,h,hm,hs=>by
  have h1:i<l.length:=by omega
  have h2:i<w.length:=by omega
  have b1:=bw _ (List.getElem_mem h2)
  have b2:=bl _ (List.getElem_mem h1)
  have b3:=Jw b1.1 b1.2 b2.1 b2.2
  rw[BV.eq_2,ct (dt (by omega)),BS h2,BS h1,AZ (by omega) (by omega),AZ (by omega) (by omega),AZ (by omega) (by omega),CZ i,
   KJ l w hl hw bw bl n m (i+1) _ (by omega) (by omega) (by omega),List.drop_eq_getElem_cons h1,List.drop_eq_getElem_cons h2,dot,Int.add_assoc]
theorem NS{l w:List Int}(hl:l.length≤100)(hw:l.length=w.length)(bw:∀x∈w,0≤x∧x≤30)(bl:∀x∈l,0≤x∧x≤100)(hs:0<w.sum):BP K l w=some (CI l w):=by
 unfold BP;have h:=KJ l w hl hw bw bl l.length K 0 0 (by omega) (by omega) (by omega);rw[Int.natCast_zero,Int.zero_add,List.drop_zero,List.drop_zero] at h;have h2:=P9 w l bw bl;have d:=Pv (a:=0) (b:=30) (by omega) (by omega) w bw;have c:=Qa bw bl hs;unfold CI at c⊢;rw[bd h,bd (MO hK w (by omega) (fun x hx=>by have:=bw x hx;omega)),Pu (by omega) (by omega),AZ (by omega) (by omega)]
end
section
variable{K:Nat}(hK:1000≤K)
include hK
theorem Hx{c:AV}(a:OkC c){l:List Int}(hl:DE c.AF l=true){k:Nat}(hk:k<c.BW.length):BP K l c.BW[k]=some (CI l c.BW[k]):=by
 obtain⟨h1,h2,b,_⟩:=a.Hc _ (List.getElem_mem hk);have hh:=HA hl;have:=a.hl;exact NS hK (by omega) (by omega) h2 (Qx a.ok hl) b
theorem Mm{c:AV}(b:OkC c){l:List Int}(hl:DE c.AF l=true){t:FD}(d:t∈c.Bt):C5 K c l t=some (EB (Ge c l t) t.Bq t.Br):=by
 obtain⟨h0,h1,h2⟩:=b.SI t d;have hh:=HA hl;have:=b.hl;have:=b.cl;unfold C5 Ge;cases e:t.C0 with
 |true=>
  have f:=h1 e;obtain⟨k,hk⟩:∃k:Nat,t.Number=k:=⟨t.Number.toNat,by omega⟩;have a:k<c.BW.length:=by omega
  rw[ct rfl,AZ (by omega) (by omega),ct rfl,hk];unfold C7;have g:(k:Int)+(c.AF.length:Int)-(l.length:Int)=(k:Int):=by omega
  rw[cf (df (by omega)),AZ (by omega) (by omega),g,BS a,bd (Hx hK b hl a),Option.bind_some,bd (Jk ..),Int.toNat_natCast,Cx _ a]
 |false=>
  have f:=h2 e;obtain⟨k,hk⟩:∃k:Nat,t.Number=k:=⟨t.Number.toNat,by omega⟩;have a:k<l.length:=by omega
  rw[cf rfl,cf rfl,hk];unfold C7;rw[ct (dt (by omega)),BS a,Option.bind_some,bd (Jk ..),Int.toNat_natCast,Cx _ a]
theorem KK{c:AV}(a:OkC c){l:List Int}(b:l.length≤100):CK K c l=some (BJ c l):=by
 have:=a.hl;have:=a.tl;unfold CK BJ;rw[bd (Kb hK c l (by omega) b)];cases hl:DE c.AF l with
 |false=>rw[nf,Bool.false_and]
 |true=>
  have h:Bj K c l K 0=some (cond (c.Bt.all fun t=>EB (Ge c l t) t.Bq t.Br) (.inr ()) (.inl false)):=
   Me c.Bt (fun m i=>Bj K c l m (i:Int)) (fun t=>EB (Ge c l t) t.Bq t.Br) false
    (fun m i hi=>by
     show Bj K c l (m+1) (i:Int)=_;rw[Bj.eq_2,ct (dt (by omega)),BS hi,bd (Mm hK a hl (List.getElem_mem hi))];cases EB (Ge c l c.Bt[i]) c.Bt[i].Bq c.Bt[i].Br with
     |false=>rw[nf,cf rfl]
     |true=>rw[nt,AZ (by omega) (by omega),CZ i,ct rfl])
    (fun m=>by
     show Bj K c l (m+1) (c.Bt.length:Int)=_;rw[Bj.eq_2,cf (df (by omega))]) (by omega)
  rw[nt,bd h,Bool.true_and];unfold Qy;cases c.Bt.all fun t=>EB (Ge c l t) t.Bq t.Br with
  |false=>rfl
  |true=>rfl
end
section
variable{K:Nat}(hK:1000≤K)
include hK
end
end Go.Proofs.YtbhofkcbfblijaaGreat
end
section
namespace Go.Proofs.YtbhofkcbfblijaaGreat
namespace OkT
variable{t:Aj}(h:OkT t)
include h
end OkT
section
variable{K:Nat}(hK:1000≤K)
include hK
theorem G6{t:Aj}(a:OkT t){l:List Int}(hl:DE t.Al l=true){k:Nat}(hk:k<t.Ac.length):∀(i m:Nat) (p:Int),i≤t.AH.length→i<m→p=F7 (t.AH.drop i) (CI l t.Ac[k])→
  BF K t l (k:Int) m p ((i:Int)-1)=some (F7 t.AH (CI l t.Ac[k]))
 |i,0,p,hi,hm,b=>by omega
 |0,m+1,p,hi,hm,b=>by
  rw[BF.eq_2,cf (df (by omega)),b,List.drop_zero]
 |i+1,m+1,p,hi,hm,b=>by
  have g:=a.gl;have h1:i<t.AH.length:=by omega
  have e:((i+1:Nat):Int)-1=(i:Int):=by omega
  have d:BP K l t.Ac[k]=some (CI l t.Ac[k]):=Hx hK a.c (c:=t.C) hl hk;have f:F7 (t.AH.drop i) (CI l t.Ac[k])=if t.AH[i].BU≤CI l t.Ac[k] then t.AH[i].DT else F7 (t.AH.drop (i+1)) (CI l t.Ac[k]):=by
   rw[List.drop_eq_getElem_cons h1];unfold F7;rw[List.find?_cons]
   by_cases h:t.AH[i].BU≤CI l t.Ac[k]
   ·rw[dt h,if_pos h]
   ·rw[df h,if_neg h]
  rw[BF.eq_2,e,ct (dt (by omega)),BS hk,bd d,BS h1]
  by_cases h:t.AH[i].BU≤CI l t.Ac[k]
  ·rw[ct (dt h),BS h1,AZ (by omega) (by omega)];exact G6 a hl hk i m _ (by omega) (by omega) (by rw[f,if_pos h])
  ·rw[cf (df h),AZ (by omega) (by omega)];exact G6 a hl hk i m _ (by omega) (by omega) (by rw[f,if_neg h,b])
theorem Ih{t:Aj}(a:OkT t){k:Nat}(hk:k<t.Ac.length):BZ K t (k:Int)=some t.Ac[k].sum:=by
 have h1:=a.Hc _ (List.getElem_mem hk);have:=a.hl;unfold BZ;rw[BS hk,bd (MO hK _ (by omega) (fun x hx=>by have:=h1.2.1 x hx;omega))]
theorem Kf{t:Aj}(a:OkT t){l:List Int}(hl:DE t.Al l=true){k:Nat}(hk:k<t.Ac.length):Cs K t l (k:Int)=some ((As t l)[k]'(by rw[Df];exact hk)):=by
 have b:=a.gl;have h1:=a.Sc (CI l t.Ac[k]);have h2:=a.Hc _ (List.getElem_mem hk);have c:=Jw h1.1 h1.2 (by omega:0≤t.Ac[k].sum) h2.2.2.2;unfold Cs;rw[AZ (by omega) (by omega),bd (G6 hK a hl hk t.AH.length K 0 (by omega) (by omega) (by rw[List.drop_eq_nil_of_le (by omega)];rfl)),bd (Ih hK a hk),AZ (by omega) (by omega)];simp[As]
end
section
variable{K:Nat}(hK:1000≤K)
include hK
end
end Go.Proofs.YtbhofkcbfblijaaGreat
end
section
namespace Go.Proofs.YtbhofkcbfblijaaGreat
def EA(M:List Int):Nat→List Ct→Nat
 |_,[]=>0
 |i,n::ns=>(if FT M n=true then 2^i else 0)|||EA M (i+1) ns
theorem GL(M:List Int):∀(ns:List Ct) (i j:Nat),(EA M i ns).testBit j=true↔∃q,∃hq:q<ns.length,j=i+q∧FT M ns[q]=true
 |[],i,j=>by simp[EA]
 |n::ns,i,j=>by
  rw[EA,Nat.testBit_or,Bool.or_eq_true,GL M ns (i+1) j];constructor
  ·rintro(h|⟨q,hq,rfl,h⟩)
   ·split at h
    ·rename_i hn
     rw[Nat.testBit_two_pow,decide_eq_true_eq] at h;exact⟨0,by simp,by omega,by simpa using hn⟩
    ·simp at h
   ·exact⟨q+1,by simpa using hq,by omega,by simpa using h⟩
  ·rintro⟨q,hq,rfl,h⟩;cases q with
   |zero=>
    left;rw[if_pos (by simpa using h),Nat.testBit_two_pow];simp
   |succ q=>exact .inr ⟨q,by simpa using hq,by omega,by simpa using h⟩
theorem Mn(M:List Int)(ns:List Ct):EA M 0 ns=2^ns.length-1↔BB M [] 0 ns=true:=by
 rw[Hm];constructor
 ·intro h j hj;have:=(GL M ns 0 j).1 (by rw[h,Nat.testBit_two_pow_sub_one];simpa using hj);obtain⟨q,hq,e,h2⟩:=this;obtain rfl:j=q:=by omega
  exact .inr h2
 ·intro h;refine Nat.eq_of_testBit_eq fun j=>?_;rw[Nat.testBit_two_pow_sub_one,Bool.eq_iff_iff,GL,decide_eq_true_eq];constructor
  ·rintro⟨q,hq,rfl,_⟩;omega
  ·intro hj;rcases h j hj with h1|h1
   ·simp at h1
   ·exact⟨j,hj,by omega,h1⟩
theorem Ie:∀i:Nat,i<6→E5 .u64 (i:Int)=some ()∧EV 1 (i:Int)=some ()∧CY 1 (i:Int)=((2^i:Nat):Int)∧2^i≤32∧1≤2^i∧EV 2 (i:Int)=some ()∧CY 2 (i:Int)=((2^(i+1):Nat):Int):=by decide+kernel
theorem PQ(a b:Nat):GX (a:Int) (b:Int)=((a|||b:Nat):Int):=by unfold GX;rw[Int.toNat_natCast,Int.toNat_natCast]
theorem KL{β:Type}{a b:Int}{f:Unit→Option β}(h0:0≤a∧a≤9223372036854775807)(h1:0≤b∧b≤9223372036854775807):(GG a b).bind f=f ():=bd (if_pos ⟨h0,h1⟩)
def CF(t:Aj)(l:List Int):Bool:=BJ t.C l&&BB (As t l) [] 0 t.Ao
section
variable{K:Nat}(hK:1000≤K)
include hK
theorem Mo{t:Aj}(f:OkT t){l:List Int}(hl:DE t.Al l=true):C6 K t l=some ((EA (As t l) 0 t.Ao:Nat):Int):=by
 have o:=f.nl;have a:∀(d m i:Nat) (s:Nat),t.Ao.length=i+d→d<m→s<2^5→BN K t l m (s:Int) (i:Int)=some ((s|||EA (As t l) i (t.Ao.drop i):Nat):Int):=by
  intro d
  induction d with
  |zero=>
   intro m i s h hm hs;obtain⟨m,rfl⟩:∃g,m=g+1:=⟨m-1,by omega⟩;rw[BN.eq_2,cf (df (by omega)),List.drop_eq_nil_of_le (by omega),EA,Nat.or_zero]
  |succ d ih=>
   intro m i s h hm hs;obtain⟨m,rfl⟩:∃g,m=g+1:=⟨m-1,by omega⟩;have hi:i<t.Ao.length:=by omega
   obtain⟨h1,h2⟩:=(f.note _ (List.getElem_mem hi)).1;obtain⟨k,hk⟩:∃k:Nat,t.Ao[i].C0=k:=⟨t.Ao[i].C0.toNat,by omega⟩;have b:k<t.Ac.length:=by omega
   have c:k<(As t l).length:=by rw[Df];exact b
   obtain⟨s1,s2,j,p,q,_⟩:=Ie i (by omega);have e:EB ((As t l)[k]'c) t.Ao[i].Db t.Ao[i].Dc=FT (As t l) t.Ao[i]:=by
    unfold FT;rw[hk,Int.toNat_natCast,Cx _ c]
   rw[BN.eq_2,ct (dt (by omega)),BS hi,BS hi,hk,bd (Kf hK f hl b),bd (Jk ..),e,List.drop_eq_getElem_cons hi,EA];have n:2^i<2^5:=Nat.pow_lt_pow_right (by omega) (by omega);cases FT (As t l) t.Ao[i] with
   |true=>
    rw[ct rfl,bd s1,bd s2,j,KL (by omega) (by omega),AZ (by omega) (by omega),CZ i,PQ,if_pos rfl,ih m (i+1) _ (by omega) (by omega) (Nat.or_lt_two_pow hs n),Nat.or_assoc]
   |false=>rw[cf rfl,AZ (by omega) (by omega),CZ i,if_neg (by simp),Nat.zero_or,ih m (i+1) _ (by omega) (by omega) hs]
 have:=a t.Ao.length K 0 0 (by omega) (by omega) (by omega);rw[Int.natCast_zero,List.drop_zero,Nat.zero_or] at this;unfold C6;rw[bd this]
theorem L2{t:Aj}(a:OkT t):CL K t=some ((2^t.Ao.length-1:Nat):Int):=by
 have d:=a.nl;obtain⟨s1,s2,b,e,c,_⟩:=Ie t.Ao.length (by omega);unfold CL;rw[bd s1,bd s2,b,AZ (by omega) (by omega),Int.natCast_sub c];rfl
theorem Of{t:Aj}(l:List Int):(((EA (As t l) 0 t.Ao:Nat):Int)==((2^t.Ao.length-1:Nat):Int))=BB (As t l) [] 0 t.Ao:=by
 rw[Bool.eq_iff_iff,beq_iff_eq,←Mn];omega
theorem AaU{t:Aj}(a:OkT t){l:List Int}(hl:l.length≤100):Ns K t l=some (CF t l):=by
 unfold Ns CF;have h:CK K ⟨t.Al,t.Ac,t.Ap⟩ l=some (BJ t.C l):=KK hK (c:=t.C) a.c hl;rw[bd h];cases e:BJ t.C l with
 |false=>rw[cf rfl,Bool.false_and]
 |true=>rw[ct rfl,bd (Mo hK a (HW e)),bd (L2 hK a),Of hK,Bool.true_and]
end
section
variable{K:Nat}(hK:1000≤K)
include hK
theorem Kp(l:List Int)(hl:l.length≤1000):CM K l=some l:=Pw hK l hl
theorem PL{t:Aj}(h:Tx t):DY K t=some (CP t):=by
 unfold DY;rw[bd (LQ hK t h)]
end
section
variable{K:Nat}(hK:1000≤K)
include hK
end
theorem Yz{M:List Int}(h:M.length≤3):Gv [(arr M).a0,(arr M).a1,(arr M).a2] (0:Int) (M.length:Int)=M:=by
 match M,h with
 |[],_=>rfl
 |[_],_=>rfl
 |[_,_],_=>rfl
 |[_,_,_],_=>rfl
 |_::_::_::_::_,h=>simp at h
theorem ctl{α:Type}{z:Int}{x y:α}:cond (((([]:List Int),z).1.length:Int)==0) x y=x:=rfl
section
variable{K:Nat}(hK:1000≤K)
include hK
theorem SU(rs:List AN)(l:List Int)(hh:rs.length≤100)(he:l.length=rs.length):∀(n m i:Nat),l.length=i+n→n<m→
  Ij K l rs m (i:Int)=some (cond (DE (rs.drop i) (l.drop i)) (.inr ()) (.inl false))
 |n,0,i,h,hm=>by omega
 |0,m+1,i,h,hm=>by
  rw[Ij.eq_2,cf (df (by omega)),List.drop_eq_nil_of_le (by omega:l.length≤i),List.drop_eq_nil_of_le (by omega:rs.length≤i),Qw,ct rfl]
 |n+1,m+1,i,h,hm=>by
  have h1:i<l.length:=by omega
  have h2:i<rs.length:=by omega
  have e:Km K rs[i] l[i]=some (EB l[i] rs[i].Lo rs[i].Hi):=by unfold Km;rw[bd (JE ..)]
  rw[Ij.eq_2,ct (dt (by omega)),BS h2,BS h1,bd e,List.drop_eq_getElem_cons h1,List.drop_eq_getElem_cons h2,DE];cases EB l[i] rs[i].Lo rs[i].Hi with
  |false=>rw[nf,Bool.false_and,cf rfl]
  |true=>rw[nt,AZ (by omega) (by omega),CZ i,Bool.true_and,SU rs l hh he n m (i+1) (by omega) (by omega)]
theorem VA(t:Aj)(l:List Int)(hh:t.Al.length≤100):LF K t l=some (DE t.Al l):=by
 unfold LF
 by_cases he:l.length=t.Al.length
 ·have:=SU hK t.Al l hh he l.length K 0 (by omega) (by omega);rw[Int.natCast_zero,List.drop_zero,List.drop_zero] at this;rw[cf (E6 (by omega)),bd (Nn hK t hh),bd this];cases DE t.Al l<;>rfl
 ·rw[ct (Fy (by omega)),Z4 hK he]
theorem Aaq{t:Aj}(h:DP t=true)(l:List Int):Mk K t l=some (if CP t≠0 then ([],CP t) else if DE t.Al l=true then (As t l,0) else ([],2)):=by
 unfold Mk;have hlen:=E9 h;rw[bd (Iq hK t hlen)]
 by_cases h0:CP t=0
 ·have a:=D6 h h0;have c:=a.kl;rw[cf (E6 h0),if_neg (by simp[h0]),bd (VA hK t l hlen.1.1)];cases hl:DE t.Al l with
  |false=>rw[nf,if_neg (by simp)]
  |true=>
   obtain⟨m,_,g⟩:=MC hK a [] (Ky t) l;have b:=Df t l;have e:Gv [(arr (As t l)).a0,(arr (As t l)).a1,(arr (As t l)).a2] (0:Int) (t.Ac.length:Int)=As t l:=by
    rw[←b];exact Yz (by omega)
   rw[nt,if_pos rfl,bd (NP hK a),bd (KI hK a hl),bd g,Pc (by simp;omega),e,Dt (by omega)]
 ·rw[ct (Fy h0),if_pos h0]
theorem Ta{t:Aj}(h:DP t=true){l:List Int}(hl:l.length≤100):Jn K t l=some (decide (CP t=0)&&CF t l):=by
 unfold Jn CF;rw[bd (Iq hK t (E9 h))]
 by_cases h0:CP t=0
 ·have a:=D6 h h0;have b:=a.kl;have f:=a.nl;have d:Fs K ⟨t.Al,t.Ac,t.Ap⟩ l=some (BJ t.C l):=IB hK (c:=t.C) a.c hl;rw[cf (E6 h0),bd d,dt h0,Bool.true_and];cases e:BJ t.C l with
  |false=>rw[nf,Bool.false_and]
  |true=>
   obtain⟨m,_,g⟩:=MC hK a [] (Ky t) l;rw[nt,bd (NP hK a),bd (KI hK a (HW e)),bd g,bd (No hK t (by rw[Df];exact b) (fun n hn=>by rw[Df];exact(a.note n hn).1) (by omega) (by simp)),Bool.true_and]
 ·rw[ct (Fy h0),df h0,Bool.false_and]
end
end Go.Proofs.YtbhofkcbfblijaaGreat
end
section
namespace Go.Proofs.YtbhofkcbfblijaaGreat
namespace HF
theorem HB:(Tryz.prog.info? 44).bind (·.zero)=some (.agg #[I 0,I 0]):=by kernel_rfl
theorem Nt(b o:Nat)(w:World):(Instr.fieldAt 44 (.pointer (some ⟨b,o,none⟩)) 0).run Tryz.prog w=.ok (.pointer (some ⟨b,o,none⟩)) w:=by kernel_rfl
theorem Nu(b o:Nat)(w:World):(Instr.fieldAt 44 (.pointer (some ⟨b,o,none⟩)) 1).run Tryz.prog w=.ok (.pointer (some ⟨b,o+1,none⟩)) w:=by kernel_rfl
theorem JV:Bv Tryz.prog 87:=by unfold Bv;kernel_rfl
theorem Lw:Bv Tryz.prog 31:=by unfold Bv;kernel_rfl
theorem IF(b:Nat)(w:World):(Instr.fieldAt 44 (.pointer (some ⟨b,2,none⟩)) 0).run Tryz.prog w=.ok (.pointer (some ⟨b,2,none⟩)) w:=by kernel_rfl
theorem IG(b:Nat)(w:World):(Instr.fieldAt 44 (.pointer (some ⟨b,2,none⟩)) 1).run Tryz.prog w=.ok (.pointer (some ⟨b,3,none⟩)) w:=by kernel_rfl
theorem Oa:Bv Tryz.prog 77:=by unfold Bv;kernel_rfl
theorem Nv:Bv Tryz.prog 146:=by unfold Bv;kernel_rfl
theorem M5:Bv Tryz.prog 100:=by unfold Bv;kernel_rfl
theorem GV:(Tryz.prog.underlying 3).isSome=true:=by kernel_rfl
theorem Jx:Bv Tryz.prog 56:=by unfold Bv;kernel_rfl
theorem K4:Bv Tryz.prog 54:=by unfold Bv;kernel_rfl
theorem Nw:Bv Tryz.prog 114:=by unfold Bv;kernel_rfl
theorem Mp:Bv Tryz.prog 61:=by unfold Bv;kernel_rfl
theorem QB:Bv Tryz.prog 65:=by unfold Bv;kernel_rfl
theorem JW:Bv Tryz.prog 51:=by unfold Bv;kernel_rfl
theorem Aar:Bv Tryz.prog 74:=by unfold Bv;kernel_rfl
theorem AgH:Bv Tryz.prog 76:=by unfold Bv;kernel_rfl
theorem QP:∀(b c:Bool) (w:World),(Op.equal 4 (.bool b) (.bool c)).run Tryz.prog w=.ok (b==c) w:=by intro b c w;cases b<;>cases c<;>kernel_rfl
end HF
end Go.Proofs.YtbhofkcbfblijaaGreat
end
section
namespace Go.Proofs.YtbhofkcbfblijaaGreat
open Go.RowKit Go.WideShapes
set_option maxRecDepth 20000
open HF
attribute [local irreducible] Eb WL CC CW LV Cw JC HO One Bv
theorem a74 bB r aZ a b d e f i k m n o p q aE aF(Z:Nat→Prop) w(b6:Sl AM w Z a b r.Al)(b7:Sl (BO (Ay .i64)) w Z d e r.Ac)(b8:Sl AQ w Z f i r.Ap)(b9:Sl Bm w Z k m r.AH)(cA:Sl Bl w Z n o r.Aw)(cB:Sl BA w Z p q r.Ao)(cC:Sl (Ay .i64) w Z aE aF aZ) bX(j:Jn bB r aZ=some bX):
 Cw Tryz.prog 74 #[.agg (Am a b d e f i k m n o p q r).toArray,.slice aE aZ.length aF] w (fun v w'=>Ext w w'∧Dg.R w' (zf Z w []) v bX):=by
 unfold Jn at j;refine AS (N:=23) Tryz.func74 rfl rfl (by simp) ?_;intro dW ha dX;have cH:=sA 0 ha;have bY:=sA 1 ha;clear ha;have cD:Hp FN [] w [] w:=Hp.start (Cc.none w);have ⟨bJ,bK,bL,bM,bN,bO,bP⟩:=E0 b6 b7 b8 b9 cA cB cC (Bh (Z:=Z) (L:=[]) w);refine Af<|Ad<|wE (fun st=>Ci (v:=.agg (Am a b d e f i k m n o p q r).toArray) (cs:=(Am a b d e f i k m n o p q r).toArray) (ee st cH) rfl) ?_;rintro _ w1 ⟨b1,rfl,aO⟩;have cP:=cD.nb aO;have dS:=cD.Cr aO;refine wA (v:=.bool false) rfl<|Ag<|Ab<|Af<|Af<|Ad<|wD (fun st=>AR (l:=(Am a b d e f i k m n o p q r)) Hh (eR st) aO.bk rfl rfl) ?_;have ⟨aP,aQ,aR,aS,aT,aU⟩:=Cz bJ bK bL bM bN bO (AP aO);replace j:=bind_some j;obtain⟨cI,cQ,j⟩:=j;refine wE (fun st=>Ar Vv (eR st) (CR (eR st)) (a75 bB r a b d e f i k m n o p q ZA _ aP.all aQ.all aR.all aS.all aT.all aU.all cI cQ)) ?_;rintro _ d2 ⟨a8,rfl⟩;have cE:=cP.ext a8;refine wD (fun st=>DW (eR st) (eR st))<|wM (v:=.bool (cI !=0)) rfl ?_;rcases Ak (cI !=0) with s|s
 ·replace j:=Az j s;refine Au (c:=true) rfl rfl (Ae rfl s) (by decide) rfl (by decide)<|Au (c:=true) rfl rfl (Ae rfl s) (by decide) rfl (by decide)<|Au (c:=true) rfl rfl (Ae rfl s) (by decide) rfl (by decide)<|Au (c:=true) rfl rfl (Ae rfl s) (by decide) rfl (by decide)<|Au (c:=true) rfl rfl (Ae rfl s) (by decide) rfl (by decide)<|wD (fun st=>AY (v:=.bool true) (eR st) s (eR st))<|Ag<|Ab<|AD rfl rfl<|Af<|Ad<|wA (v:=.bool false) rfl<|Ag<|Ab<|AI<|Ax ?_;obtain rfl:=oi j;refine AJ rfl rfl ?_;exact⟨cE.Bc,rfl⟩
 ·replace j:=AA j s;refine An rfl rfl (Ae rfl s) rfl (by decide) (fun st=>Ai (eR st) (PI _ _)) ?_;have bE:=(aO.bk.ext a8);refine An rfl rfl (Ae rfl s) rfl (by decide) (fun st=>AR (l:=[.slice a r.Al.length b,.slice d r.Ac.length e,.slice f r.Ap.length i]) N9 (eR st) bE rfl rfl)<|An rfl rfl (Ae rfl s) rfl (by decide) (fun st=>Aq (v:=.slice aE aZ.length aF) (ee st bY)) ?_;have ⟨aV,aW,aX⟩:=EW aP aQ aR (Ah a8);have aY:=((bP.mv (AP aO)).mv (Ah a8));replace j:=bind_some j;obtain⟨bZ,cR,j⟩:=j;refine Di rfl rfl (Ae rfl s) rfl (by decide) (fun st=>Ar Xz (eR st) (Dw (eR st) (eR st)) (a79 bB (⟨r.Al,r.Ac,r.Ap⟩:AV) aZ a b d e f i aE aF ZA _ aV.all aW.all aX.all aY.all bZ cR)) ?_;rintro _ cS ⟨a9,rfl⟩;have cF:=cE.ext a9;refine An rfl rfl (Ae rfl s) rfl (by decide) (fun st=>Dz (eR st))<|wD (fun st=>BC (v:=.bool !bZ) (eR st) s (eR st))<|Ag<|Ab ?_;rcases Ak (!bZ) with aN|aN
  ·replace j:=Az j aN;have dT:bZ=false:=by simpa using aN
   refine AD rfl aN<|Af<|Ad<|wA (v:=.bool false) rfl<|Ag<|Ab<|AI<|Ax ?_;obtain rfl:=oi j;refine AJ rfl rfl ?_;exact⟨cF.Bc,rfl⟩
  ·replace j:=AA j aN;have dU:bZ=true:=by simpa using aN
   refine AE rfl aN<|AL<|Ab<|Af ?_;have a3:=(bE.ext a9);have ⟨aG,aH,aI⟩:=EW aV aW aX (Ah a9);have ⟨aJ,aK,aL⟩:=EW aS aT aU (mt (Ah a8) (Ah a9));replace j:=bind_some j;obtain⟨b4,cJ,j⟩:=j;have bQ:=(aY.mv (Ah a9));replace j:=bind_some j;obtain⟨aM,cK,j⟩:=j;replace j:=bind_some j;obtain⟨bA,cL,j⟩:=j;refine Ld 7 (fun D V cT=>Ext cS cT∧(D 0=true→V 0=.agg (Am a b d e f i k m n o p q r).toArray)∧(D 1=true→V 1=.agg (Am a b d e f i k m n o p q r).toArray)∧(D 2=true→D 6=false→∃cM,cS.heap.size≤cM∧JH cM cT (zf Z w [some b1]) (V 2) (some b4))∧(D 3=true→V 3=.agg (Am a b d e f i k m n o p q r).toArray)∧(D 4=true→V 4=.slice aE aZ.length aF)∧(D 5=true→V 5=.agg #[I aM.a0,I aM.a1,I aM.a2])∧(D 6=true→V 6=.agg #[I bA.1.a0,I bA.1.a1,I bA.1.a2])) mixed rfl rfl ⟨DX _,fun h=>absurd h (by decide),fun h=>absurd h (by decide),fun h=>absurd h (by decide),fun h=>absurd h (by decide),fun h=>absurd h (by decide),fun h=>absurd h (by decide),fun h=>absurd h (by decide)⟩
       ⟨sj rfl (fun D V a' w' K ⟨hx,aB,u,aC,x,y,z,aD⟩=>(AR (l:=(Am a b d e f i k m n o p q r)) Hh (es ((K.out 2 rfl).trans rfl)) (a3.ext hx) rfl rfl).mono fun v CJ ⟨bC,bD⟩=>by subst bC;subst bD;exact⟨hx,fun _=>rfl,u,fun h h2=>(aC h h2).imp fun _ g=>⟨g.1,g.2⟩,x,y,z,aD⟩),
        sj rfl (fun D V a' w' K ⟨hx,aB,u,aC,x,y,z,aD⟩=>(AR (l:=(Am a b d e f i k m n o p q r)) Hh (es ((K.out 2 rfl).trans rfl)) (a3.ext hx) rfl rfl).mono fun v CJ ⟨bC,bD⟩=>by subst bC;subst bD;exact⟨hx,aB,fun _=>rfl,fun h h2=>(aC h h2).imp fun _ g=>⟨g.1,g.2⟩,x,y,z,aD⟩),
        sj rfl (fun D V a' w' K ⟨hx,aB,u,aC,x,y,z,aD⟩=>(Ar V0 rfl (CR (es (t:=16) (v:=.agg (Am a b d e f i k m n o p q r).toArray) ((K.dq 1 16).trans (u (K.dn 1 rfl))))) (AdD bB r a b d e f i k m n o p q (zf Z w [some b1]) _ (aG.mv (Ah hx)) (aH.mv (Ah hx)) (aI.mv (Ah hx)) (aJ.mv (Ah hx)) (aK.mv (Ah hx)) (aL.mv (Ah hx)) b4 cJ)).mono fun v CJ ⟨h1,h2⟩=>by exact⟨Ext.trans hx h1,aB,u,fun _ _=>⟨_,hx.size,h2⟩,x,y,z,aD⟩),
        sj rfl (fun D V a' w' K ⟨hx,aB,u,aC,x,y,z,aD⟩=>(AR (l:=(Am a b d e f i k m n o p q r)) Hh (es ((K.out 2 rfl).trans rfl)) (a3.ext hx) rfl rfl).mono fun v CJ ⟨bC,bD⟩=>by subst bC;subst bD;exact⟨hx,aB,u,fun h h2=>(aC h h2).imp fun _ g=>⟨g.1,g.2⟩,fun _=>rfl,y,z,aD⟩),
        sj rfl (fun D V a' w' K ⟨hx,aB,u,aC,x,y,z,aD⟩=>(Aq (v:=.slice aE aZ.length aF) (es ((K.out 1 rfl).trans bY))).mono fun v CJ ⟨bC,bD⟩=>by subst bC;subst bD;exact⟨hx,aB,u,fun h h2=>(aC h h2).imp fun _ g=>⟨g.1,g.2⟩,x,fun _=>rfl,z,aD⟩),
        sj rfl (fun D V a' w' K ⟨hx,aB,u,aC,x,y,z,aD⟩=>(Ar V1 rfl (Dw (es (t:=18) (v:=.agg (Am a b d e f i k m n o p q r).toArray) ((K.dq 3 18).trans (x (K.dn 3 rfl)))) (es (t:=19) (v:=.slice aE aZ.length aF) ((K.dq 4 19).trans (y (K.dn 4 rfl))))) (AbS bB r aZ a b d e f i k m n o p q aE aF ZA _ (aG.mv (Ah hx)).all (aH.mv (Ah hx)).all (aI.mv (Ah hx)).all (aJ.mv (Ah hx)).all (aK.mv (Ah hx)).all (aL.mv (Ah hx)).all (bQ.mv (Ah hx)).all aM cK)).mono fun v CJ ⟨h1,h2⟩=>by obtain⟨_,rfl,rfl⟩:=h2;exact⟨Ext.trans hx h1,aB,u,fun h h2=>(aC h h2).imp fun _ g=>⟨g.1,g.2.ext h1⟩,x,y,fun _=>rfl,aD⟩),
        sj rfl (fun D V a' w' K ⟨hx,aB,u,aC,x,y,z,aD⟩=>by
           obtain⟨cM,cU,cV⟩:=aC (K.dn 2 rfl) K.me;obtain⟨cW,bX,cX,cY,cZ,c0,c1,c2,c3,c4,c5,c6,c7,c8,c9,dA,dB,dC,dD,dE,dF,dG,dH,dI,dJ,dK,dL,dM,dN,dO,dP⟩:=JH.use cV;exact(Ar V2 rfl (Dw (es (t:=17) (v:=pt cW 0) ((K.dq 2 17).trans dD)) (es (t:=20) (v:=.agg #[I aM.a0,I aM.a1,I aM.a2]) ((K.dq 5 20).trans (z (K.dn 5 rfl))))) (AbT bB b4 aM cX cY cZ c0 c1 c2 c3 c4 c5 c6 c7 c8 c9 dA dB dC cW bX (ZC FN [some bX]) _ dE Lb dI dJ dK dL dM dN dO dP dG dH bA cL)).mono fun v CJ ⟨h1,h2,_⟩=>by obtain⟨_,rfl,rfl⟩:=h2;exact⟨T4 hx h1 (Nat.le_trans cU dF),aB,u,(fun _ h=>absurd (show true=false from h) Bool.noConfusion),x,y,z,fun _=>rfl⟩),trivial⟩ ?_
   rintro dY dZ d0 aA ⟨b5,a4,bF,dV,bG,bH,bI,a5⟩;replace a4:=a4 (aA 0 (by decide));replace bF:=bF (aA 1 (by decide));replace bG:=bG (aA 3 (by decide));replace bH:=bH (aA 4 (by decide));replace bI:=bI (aA 5 (by decide));replace a5:=a5 (aA 6 (by decide));have dQ:=cF.ext b5;have ⟨bR,bS,bT,bU,bV,bW⟩:=Cz aG aH aI aJ aK aL (Ah b5);replace j:=bind_some j;obtain⟨cG,cN,j⟩:=j;refine wE (fun st=>Ar V4 (eR st) (EN (ee st a4) (ee st a5) (eR st)) (a124 bB r bA.1 ([]:List Int) a b d e f i k m n o p q none 0 ZA _ bR.all bS.all bT.all bU.all bV.all bW.all (Sl.nil (Ay .i64) _ _) cG cN)) ?_;rintro _ d1 ⟨cO,rfl⟩;have dR:=dQ.ext cO;refine wA (v:=.bool cG) rfl<|Ag<|Ab<|AI ?_;obtain rfl:=oi j;refine AJ rfl rfl ?_;exact⟨dR.Bc,rfl⟩
theorem Su a3 f z d e o p q r l m(Z:Nat→Prop) w(a4:Sl AM w Z d e f.AF)(a5:Sl (BO (Ay .i64)) w Z o p f.BW)(a8:Sl AQ w Z q r f.Bt)(a9:Sl (Ay .i64) w Z l m z) bR(a:C3 a3 f z=some bR):
 Cw Tryz.prog 77 #[.agg (AU d e o p q r f).toArray,.slice l z.length m] w (fun v w'=>Ext w w'∧Dg.R w' (zf Z w []) v bR):=by
 unfold C3 at a;refine AS (N:=43) Tryz.func77 rfl rfl (by simp) ?_;intro cT ha cU;have bE:=sA 0 ha;have bF:=sA 1 ha;clear ha;have bC:Hp FN [] w [] w:=Hp.start (Cc.none w);have ⟨aJ,aK,aL,aM⟩:=F4 a4 a5 a8 a9 (Bh (Z:=Z) (L:=[]) w);refine Af<|Ad<|wE (fun st=>Ci (v:=.agg (AU d e o p q r f).toArray) (cs:=(AU d e o p q r f).toArray) (ee st bE) rfl) ?_;rintro _ w1 ⟨b1,rfl,aI⟩;have bS:=bC.nb aI;have cP:=bC.Cr aI;refine wA (v:=.bool false) rfl<|Ag<|Ab<|Af<|Af<|Ad<|wA (v:=I 0) rfl<|Ag<|Ab<|AT ?_;replace a:=bind_some a;obtain⟨z2,aC,a⟩:=a;refine Cm (fun bG i aA=>(bG=.ret∧∃aD,z2=.inl aD∧i.tmps.size=43∧i.defers=(X0).ds∧sl i 4=.bool aD∧Hp FN [] w [some b1] aA)∨(bG=.exit 0∧∃aD,z2=.inr aD∧i.tmps.size=43∧i.defers=(X0).ds∧sl i 1=.slice l z.length m∧sl i 2=pt b1 0∧Hp FN [] w [some b1] aA∧Bk aA b1 26 (AU d e o p q r f).toArray∧Sl AM aA (zf Z w [some b1]) d e f.AF∧Sl (BO (Ay .i64)) aA (zf Z w [some b1]) o p f.BW∧Sl AQ aA (zf Z w [some b1]) q r f.Bt∧Sl (Ay .i64) aA (zf Z w [some b1]) l m z)) ?bT ?bU
 case bT=>
  clear a;refine Cl (fun(bH:Nat) (i:Act) (aA:World)=>∃b,BK a3 f z bH b=some z2∧i.tmps.size=43∧i.defers=(X0).ds∧sl i 1=.slice l z.length m∧sl i 2=pt b1 0∧sl i 5=I b∧Hp FN [] w [some b1] aA∧Bk aA b1 26 (AU d e o p q r f).toArray∧Sl AM aA (zf Z w [some b1]) d e f.AF∧Sl (BO (Ay .i64)) aA (zf Z w [some b1]) o p f.BW∧Sl AQ aA (zf Z w [some b1]) q r f.Bt∧Sl (Ay .i64) aA (zf Z w [some b1]) l m z) a3 ?bV ?bW
  case bV=>
   intro st;have ⟨aN,aO,aP,aQ⟩:=F4 aJ aK aL aM (AP aI);exact⟨(0:Int),aC,qz st,qd st,sp st 1 bF,sp st 2 rfl,sp st 5 rfl,bS,aI.bk,aN,aO,aP,aQ⟩
  case bW=>
   rintro(_|bH) cV cW ⟨b,aC,bI,bJ,aB,s,t,aV,j,g,u,x,n⟩
   ·exact absurd (show none=some _ from aC) (by simp)
   rw[BK.eq_2] at aC;have a:=aC;clear aC;refine B7 (N:=43) bI bJ<|Af<|Af<|Ad<|wM (v:=I b) t<|wM (v:=.slice l z.length m) aB<|wD (fun st=>Bu Tryz.underlying31 (eR st))<|wD (fun st=>CO (eR st) (eR st))<|wM (v:=.bool (decide (b<(z.length:Int)))) rfl ?_;rcases Ak (decide (b<(z.length:Int))) with h|h
   ·replace a:=Az a h;refine An rfl rfl (Ae rfl h) rfl (by decide) (fun st=>Aq (v:=I b) (ee st t))<|An rfl rfl (Ae rfl h) rfl (by decide) (fun st=>Ai (ee st s) (ES _ _))<|An rfl rfl (Ae rfl h) rfl (by decide) (fun st=>AG (v:=.slice d f.AF.length e) Fz (eR st) j rfl)<|An rfl rfl (Ae rfl h) rfl (by decide) (fun st=>Bu Tryz.underlying22 (eR st))<|An rfl rfl (Ae rfl h) rfl (by decide) (fun st=>CO (eR st) (eR st))<|wD (fun st=>AY (v:=.bool (decide (b<(f.AF.length:Int)))) (eR st) h (eR st))<|Ag<|Ab ?_;rcases Ak (decide (b<(f.AF.length:Int))) with aG|aG
    ·replace a:=Az a aG;refine AD rfl aG<|AL<|Ab<|Af<|AT<|Af ?_;replace a:=AW a;obtain⟨i6,bX,bY,bZ,b4,a⟩:=a;obtain⟨cQ,cR,_,b5,rfl,b6⟩:=Sl.C1 n rfl bZ;replace a:=AW a;obtain⟨i7,b7,b8,b9,cA,a⟩:=a;obtain⟨cB,cC,_,cD,rfl,cE⟩:=Sl.elem g (by decide) b9;replace a:=AW a;obtain⟨i8,cF,cG,cH,cI,a⟩:=a;obtain⟨cJ,cK,_,cL,rfl,cM⟩:=Sl.elem g (by decide) cH;refine B9 16 [Kc (.slice l z.length m),Kc (I b),Kc (pt cQ (cR+i6)),Kc (I bX),Kc (pt b1 0),Kc (.slice d f.AF.length e),Kc (I b),Kc (pt cB (cC+i7*2)),Kc (pt cB (cC+i7*2)),Kc (I b7.Lo),Kc (pt b1 0),Kc (.slice d f.AF.length e),Kc (I b),Kc (pt cJ (cK+i8*2)),Kc (pt cJ (cK+i8*2+1)),Kc (I cF.Hi)] mixed rfl rfl
         (Aa (oD (fun K=>Aq (es ((K.out 1 rfl).trans aB))))
         (Aa (oD (fun K=>Aq (es ((K.out 5 rfl).trans t))))
         (Aa (oD (fun K=>AX (k:=i6) Tryz.underlying31 DR (es (K.dq 0 19)) b5 (es (K.dq 1 20)) bY b4))
         (Aa (oD (fun K=>Bg Bz (es (K.dq 2 21)) (b6.mv (Ah K.AO)) rfl))
         (Aa (oD (fun K=>Ai (es ((K.out 2 rfl).trans s)) (ES _ _)))
         (Aa (oD (fun K=>AG Fz (es (K.dq 4 23)) (j.ext K.AO) rfl))
         (Aa (oD (fun K=>Aq (es ((K.out 5 rfl).trans t))))
         (Aa (oD (fun K=>BR (k:=i7) Tryz.underlying22 G0 (es (K.dq 5 24)) cD (es (K.dq 6 25)) b8 cA))
         (Aa (oD (fun K=>Ai (es (K.dq 7 26)) (Nt _ _ _)))
         (Aa (oD (fun K=>Bg Bz (es (K.dq 8 27)) (cE.mv (Ah K.AO)) rfl))
         (Aa (oD (fun K=>Ai (es ((K.out 2 rfl).trans s)) (ES _ _)))
         (Aa (oD (fun K=>AG Fz (es (K.dq 10 29)) (j.ext K.AO) rfl))
         (Aa (oD (fun K=>Aq (es ((K.out 5 rfl).trans t))))
         (Aa (oD (fun K=>BR (k:=i8) Tryz.underlying22 G0 (es (K.dq 11 30)) cL (es (K.dq 12 31)) cG cI))
         (Aa (oD (fun K=>Ai (es (K.dq 13 32)) (Nu _ _ _)))
         (Aa (oD (fun K=>Gj Bz (es (K.dq 14 33)) (cM.mv (Ah K.AO)) rfl))
         (B8 _))))))))))))))))) ?_
     intro cZ;rintro _ rfl _ rfl _ rfl _ rfl _ rfl _ rfl _ rfl _ rfl _ rfl _ rfl _ rfl _ rfl _ rfl _ rfl _ rfl _ rfl aW;have cN:=aV.ext aW;replace a:=bind_some a;obtain⟨bA,cO,a⟩:=a;refine wE (fun st=>Ar Fk (eR st) (EN (eR st) (eR st) (eR st)) (IW a3 bX b7.Lo cF.Hi ZA _ bA cO)) ?_;rintro _ cX ⟨aX,rfl⟩;have bD:=cN.ext aX;refine wD (fun st=>Dz (eR st))<|Ag<|Ab ?_;rcases Ak (!bA) with y|y
     ·replace a:=Az a y;have bP:bA=false:=by simpa using y
      refine AD rfl y<|Af<|Ad<|wA (v:=.bool false) rfl<|Ag<|Ab<|AI<|Bi<|Ax<|Ax ?_;obtain rfl:=oi a;refine B4 (fun st=>?_);exact .inl ⟨rfl,false,rfl,qz st,qd st,sp st 4 rfl,bD⟩
     ·replace a:=AA a y;have bQ:bA=true:=by simpa using y
      refine AE rfl y<|AL<|Bs<|Ab<|Ad<|wM (v:=I b) t ?_;replace a:=AK a;obtain⟨bK,a⟩:=a;refine wD (fun st=>B0 (eR st) (eR st) bK)<|wA (v:=I (b+1)) rfl<|Ag ?_;have bB:=((j.ext aW).ext aX);have ⟨aR,aS,aT,aU⟩:=F4 g u x n (mt (Ah aW) (Ah aX));refine Bw bH (Nat.lt_succ_self _) (fun st=>?_);exact⟨(b+1),a,qz st,qd st,sp st 1 aB,sp st 2 s,sp st 5 rfl,bD,bB,aR,aS,aT,aU⟩
    ·replace a:=AA a aG;refine AE rfl aG<|Cd<|AB<|AB ?_;obtain rfl:=oi a;refine B4 (fun st=>?_);exact .inr ⟨rfl,(),rfl,qz st,qd st,sp st 1 aB,sp st 2 s,aV,j,g,u,x,n⟩
   ·replace a:=AA a h;refine Au (c:=false) rfl rfl (Ae rfl h) (by decide) rfl (by decide)<|Au (c:=false) rfl rfl (Ae rfl h) (by decide) rfl (by decide)<|Au (c:=false) rfl rfl (Ae rfl h) (by decide) rfl (by decide)<|Au (c:=false) rfl rfl (Ae rfl h) (by decide) rfl (by decide)<|Au (c:=false) rfl rfl (Ae rfl h) (by decide) rfl (by decide)<|wD (fun st=>BC (v:=.bool false) (eR st) h (eR st))<|Ag<|Ab<|AE rfl rfl<|Cd<|AB<|AB ?_;obtain rfl:=oi a;refine B4 (fun st=>?_);exact .inr ⟨rfl,(),rfl,qz st,qd st,sp st 1 aB,sp st 2 s,aV,j,g,u,x,n⟩
 case bU=>
  rintro bG cS cY (⟨rfl,aD,rfl,aE,aF,aY,aH⟩|⟨rfl,aD,rfl,aE,aF,aZ,a0,aH,a2,bL,bM,bN,bO⟩)
  ·skip
   replace a:=Eg a;refine Cn (X:=X0) (N:=43) aE aF<|Bi<|Ax ?_;obtain rfl:=oi a;refine AJ rfl aY ?_;exact⟨aH.Bc,rfl⟩
  ·skip
   replace a:=Eh a;refine Cn (X:=X0) (N:=43) aE aF<|Bn<|Ab<|Af<|Ad<|wM (v:=.slice l z.length m) aZ<|wD (fun st=>Bu Tryz.underlying31 (eR st))<|wD (fun st=>Ai (ee st a0) (ES _ _))<|wD (fun st=>AG (v:=.slice d f.AF.length e) Fz (eR st) a2 rfl)<|wD (fun st=>Bu Tryz.underlying22 (eR st))<|wD (fun st=>Dj (eR st) (eR st))<|wA (v:=.bool ((z.length:Int)==(f.AF.length:Int))) rfl<|Ag<|Ab<|AI ?_;obtain rfl:=oi a;refine AJ rfl rfl ?_;exact⟨aH.Bc,rfl⟩
theorem a87 aO o l g h c d(Z:Nat→Prop) w(aF:Sl (Ay .i64) w Z g h o)(aG:Sl (Ay .i64) w Z c d l) aW(a:BP aO o l=some aW):
 Cw Tryz.prog 87 #[.slice g o.length h,.slice c l.length d] w (fun v w'=>Ext w w'∧(Ev .i64).R w' (zf Z w []) v aW):=by
 unfold BP at a;refine AS (N:=28) Tryz.func87 rfl rfl (by simp) ?_;intro bT ha bU;have aP:=sA 0 ha;have aQ:=sA 1 ha;clear ha;have aX:Hp FN [] w [] w:=Hp.start (Cc.none w);have ⟨x,y⟩:=LI aF aG (Bh (Z:=Z) (L:=[]) w);refine Af<|Ad<|wA (v:=I 0) rfl<|Ag<|Ab<|Af<|Ad<|wA (v:=I 0) rfl<|Ag<|Ab<|Af<|Af<|Ad<|wA (v:=I 0) rfl<|Ag<|Ab<|AT ?_;replace a:=bind_some a;obtain⟨aH,n,a⟩:=a;refine Cm (fun aY e z=>(aY=.exit 0∧e.tmps.size=28∧e.defers=(X0).ds∧sl e 1=.slice c l.length d∧sl e 5=I aH∧Hp FN [] w [] z∧Sl (Ay .i64) z (zf Z w []) c d l)) ?aZ ?a0
 case aZ=>
  clear a;refine Cl (fun(aR:Nat) (e:Act) (z:World)=>∃i,∃b,BV o l aR i b=some aH∧e.tmps.size=28∧e.defers=(X0).ds∧sl e 0=.slice g o.length h∧sl e 1=.slice c l.length d∧sl e 5=I i∧sl e 6=I b∧Hp FN [] w [] z∧Sl (Ay .i64) z (zf Z w []) g h o∧Sl (Ay .i64) z (zf Z w []) c d l) aO ?a2 ?a3
  case a2=>
   intro st;exact⟨(0:Int),(0:Int),n,qz st,qd st,sp st 0 aP,sp st 1 aQ,sp st 5 rfl,sp st 6 rfl,aX,x,y⟩
  case a3=>
   rintro(_|aR) bV bW ⟨i,b,n,aS,aT,p,q,u,j,aM,m,f⟩
   ·exact absurd (show none=some _ from n) (by simp)
   rw[BV.eq_2] at n;have a:=n;clear n;refine B7 (N:=28) aS aT<|Af<|Af<|Ad<|wM (v:=I b) j<|wM (v:=.slice g o.length h) p<|wD (fun st=>Bu Tryz.underlying31 (eR st))<|wD (fun st=>CO (eR st) (eR st))<|Ag<|Ab ?_;rcases Ak (decide (b<(o.length:Int))) with r|r
   ·replace a:=Az a r;refine AD rfl r<|AL<|Ab<|Af<|AT ?_;replace a:=AW a;obtain⟨i4,aI,a4,a5,a8,a⟩:=a;obtain⟨bO,bP,_,a9,rfl,bA⟩:=Sl.C1 f rfl a5;replace a:=AW a;obtain⟨i5,aJ,bB,bC,bD,a⟩:=a;obtain⟨bQ,bR,_,bE,rfl,bF⟩:=Sl.C1 m rfl bC;replace a:=AK a;obtain⟨bG,a⟩:=a;refine B9 10 [Kc (I i),Kc (.slice c l.length d),Kc (I b),Kc (pt bO (bP+i4)),Kc (I aI),Kc (.slice g o.length h),Kc (I b),Kc (pt bQ (bR+i5)),Kc (I aJ),Kc (I (aI*aJ))] mixed rfl rfl
        (Aa (oD (fun K=>Aq (es (t:=5) ((K.later 11 5 _ rfl rfl rfl).trans u))))
        (Aa (oD (fun K=>Aq (es ((K.out 1 rfl).trans q))))
        (Aa (oD (fun K=>Aq (es ((K.out 6 rfl).trans j))))
        (Aa (oD (fun K=>AX (k:=i4) Tryz.underlying31 DR (es (K.dq 1 14)) a9 (es (K.dq 2 15)) a4 a8))
        (Aa (oD (fun K=>Bg Bz (es (K.dq 3 16)) (bA.mv (Ah K.AO)) rfl))
        (Aa (oD (fun K=>Aq (es ((K.out 0 rfl).trans p))))
        (Aa (oD (fun K=>Aq (es ((K.out 6 rfl).trans j))))
        (Aa (oD (fun K=>AX (k:=i5) Tryz.underlying31 DR (es (K.dq 5 18)) bE (es (K.dq 6 19)) bB bD))
        (Aa (oD (fun K=>Bg Bz (es (K.dq 7 20)) (bF.mv (Ah K.AO)) rfl))
        (Aa (oD (fun K=>KY (es (K.dq 4 17)) (es (K.dq 8 21)) bG))
        (B8 _))))))))))) ?_
    intro bZ;rintro _ rfl _ rfl _ rfl _ rfl _ rfl _ rfl _ rfl _ rfl _ rfl _ rfl aN;have bH:=aM.ext aN;replace a:=AK a;obtain⟨bI,a⟩:=a;refine wD (fun st=>B0 (eR st) (eR st) bI)<|wA (v:=I (i+(aI*aJ))) rfl<|Ag<|Bs<|Ab<|Ad<|wM (v:=I b) j ?_;replace a:=AK a;obtain⟨bJ,a⟩:=a;refine wD (fun st=>B0 (eR st) (eR st) bJ)<|wA (v:=I (b+1)) rfl<|Ag ?_;have ⟨aA,aB⟩:=LI m f (Ah aN);refine Bw aR (Nat.lt_succ_self _) (fun st=>?_);exact⟨(i+(aI*aJ)),(b+1),a,qz st,qd st,sp st 0 p,sp st 1 q,sp st 5 rfl,sp st 6 rfl,bH,aA,aB⟩
   ·replace a:=AA a r;refine AE rfl r<|Cd<|AB<|AB ?_;obtain rfl:=oi a;refine B4 (fun st=>?_);exact⟨rfl,qz st,qd st,sp st 1 q,sp st 5 u,aM,f⟩
 case a0=>
  rintro aY bS bX (⟨rfl,aK,aL,aC,aD,aU,s⟩);refine Cn (X:=X0) (N:=28) aK aL<|Bn<|Ab<|Af<|Ad<|wM (v:=I aH) aD<|wM (v:=.slice c l.length d) aC ?_;replace a:=bind_some a;obtain⟨bK,bL,a⟩:=a;refine wE (fun st=>Ar MP (eR st) (CR (eR st)) (Ry aO l c d ZA _ s.all bK bL)) ?_;rintro _ bY ⟨bM,rfl⟩;have bN:=aU.ext bM;replace a:=J4 a;obtain⟨aE,a⟩:=a;replace a:=AK a;obtain⟨aV,a⟩:=a;refine wD (fun st=>Mh (eR st) (eR st) aE.1 aE.2 aV)<|wA (v:=I (aH/bK)) rfl<|Ag<|Ab<|AI ?_;obtain rfl:=oi a;refine AJ rfl rfl ?_;exact⟨bN.Bc,rfl⟩
theorem a31 aJ p i s j l e f m n b c(Z:Nat→Prop) w(z:Sl AM w Z j l p.AF)(aA:Sl (BO (Ay .i64)) w Z e f p.BW)(aB:Sl AQ w Z m n p.Bt)(aC:Sl (Ay .i64) w Z b c i) aK(a:C7 aJ p i s=some aK):
 Cw Tryz.prog 31 #[.agg (AU j l e f m n p).toArray,.slice b i.length c,I s] w (fun v w'=>Ext w w'∧(Ev .i64).R w' (zf Z w []) v aK):=by
 unfold C7 at a;refine AS (N:=25) Tryz.func31 rfl rfl (by simp) ?_;intro a4 ha a5;have aG:=sA 0 ha;have o:=sA 1 ha;have r:=sA 2 ha;clear ha;have aE:Hp FN [] w [] w:=Hp.start (Cc.none w);have ⟨aH,t,aI,g⟩:=F4 z aA aB aC (Bh (Z:=Z) (L:=[]) w);refine Af<|Ad<|wE (fun st=>Ci (v:=.agg (AU j l e f m n p).toArray) (cs:=(AU j l e f m n p).toArray) (ee st aG) rfl) ?_;rintro _ w1 ⟨b1,rfl,h⟩;have aF:=aE.nb h;have a3:=aE.Cr h;refine wA (v:=I 0) rfl<|Ag<|Ab<|Af<|Af<|Ad<|wM (v:=I s) r<|wM (v:=.slice b i.length c) o<|wD (fun st=>Bu Tryz.underlying31 (eR st))<|wD (fun st=>CO (eR st) (eR st))<|Ag<|Ab ?_;rcases Ak (decide (s<(i.length:Int))) with q|q
 ·replace a:=Az a q;refine AD rfl q<|Af<|Ad<|wM (v:=.slice b i.length c) o<|wM (v:=I s) r ?_;replace a:=AW a;obtain⟨i3,aL,aM,aN,aO,a⟩:=a;have d:=(g.mv (AP h));obtain⟨b3,a8,_,aP,rfl,aQ⟩:=Sl.C1 d rfl aN;refine wD (fun st=>AX (k:=i3) Tryz.underlying31 DR (eR st) aP (eR st) aM aO)<|wD (fun st=>Bg (v:=I aL) Bz (eR st) aQ rfl)<|wA (v:=I aL) rfl<|Ag<|Ab<|AI<|Ax ?_;obtain rfl:=oi a;refine AJ rfl rfl ?_;exact⟨aF.Bc,rfl⟩
 ·replace a:=AA a q;refine AE rfl q<|AL<|Ab<|Af<|Ad<|wM (v:=.slice b i.length c) o<|wD (fun st=>Ai (eR st) (Ei _ _))<|wD (fun st=>AG (v:=.slice e p.BW.length f) El (eR st) h.bk rfl)<|wM (v:=I s) r<|wM (v:=.slice b i.length c) o<|wD (fun st=>Bu Tryz.underlying31 (eR st)) ?_;replace a:=AK a;obtain⟨aR,a⟩:=a;refine wD (fun st=>Ex (eR st) (eR st) aR) ?_;replace a:=AW a;obtain⟨i5,aS,aT,aU,aV,a⟩:=a;have u:=(t.mv (AP h));obtain⟨a9,bA,_,aW,⟨x,y,rfl,aD⟩,aX⟩:=Sl.C1 u rfl aU;refine wD (fun st=>AX (k:=i5) Tryz.underlying23 FX (eR st) aW (eR st) aT aV)<|wD (fun st=>Bg (v:=.slice x aS.length y) Eu (eR st) aX rfl) ?_;have d:=(g.mv (AP h));replace a:=bind_some a;obtain⟨aY,aZ,a⟩:=a;refine wE (fun st=>Ar JV (eR st) (Dw (eR st) (eR st)) (a87 aJ i aS b c x y ZA _ d.all aD.all aY aZ)) ?_;rintro _ bB ⟨a0,rfl⟩;have a2:=aF.ext a0;refine wA (v:=I aY) rfl<|Ag<|Ab<|AI ?_;obtain rfl:=oi a;refine AJ rfl rfl ?_;exact⟨a2.Bc,rfl⟩
theorem a146 aC k aB a c d e f g i m n(Z:Nat→Prop) w(aF:Sl AM w Z c d k.AF)(aG:Sl (BO (Ay .i64)) w Z e f k.BW)(aH:Sl AQ w Z g i k.Bt)(aI:Sl (Ay .i64) w Z m n aB) aT(b:C5 aC k aB a=some aT):
 Cw Tryz.prog 146 #[.agg (AU c d e f g i k).toArray,.slice m aB.length n,.agg #[.bool a.C0,I a.Number,I a.Bq,I a.Br]] w (fun v w'=>Ext w w'∧Dg.R w' (zf Z w []) v aT):=by
 unfold C5 at b;refine AS (N:=28) Tryz.func146 rfl rfl (by simp) ?_;intro bA ha bB;have aN:=sA 0 ha;have aD:=sA 1 ha;have aO:=sA 2 ha;clear ha;have aJ:Hp FN [] w [] w:=Hp.start (Cc.none w);have ⟨t,u,x,y⟩:=F4 aF aG aH aI (Bh (Z:=Z) (L:=[]) w);refine Af<|Ad<|wE (fun st=>Ci (v:=.agg (AU c d e f g i k).toArray) (cs:=(AU c d e f g i k).toArray) (ee st aN) rfl) ?_;rintro _ w1 ⟨b1,rfl,z⟩;have aK:=aJ.nb z;have a8:=aJ.Cr z;refine wE (fun st=>Ci (v:=.agg #[.bool a.C0,I a.Number,I a.Bq,I a.Br]) (cs:= #[.bool a.C0,I a.Number,I a.Bq,I a.Br]) (ee st aO) rfl) ?_;rintro _ w2 ⟨b2,rfl,j⟩;have aL:=aK.nb j;have a9:=aK.Cr j;refine wA (v:=.bool false) rfl<|Ag<|Ab<|Af<|Ad<|wD (fun st=>Ai (eR st) (PK _ _))<|wD (fun st=>AG (v:=I a.Number) Bz (eR st) j.bk rfl)<|wA (v:=I a.Number) rfl<|Ag<|Ab<|Af<|Af<|Ad<|wD (fun st=>Ai (eR st) (Qc _ _))<|wD (fun st=>AG (v:=.bool a.C0) OP (eR st) j.bk rfl)<|Ag<|Ab ?_;rcases Ak (a.C0) with aA|aA
 ·replace b:=Az b aA;refine AD rfl aA<|Ad<|wM (v:=I a.Number) rfl<|wD (fun st=>Ai (eR st) (ES _ _)) ?_;have s:=(z.bk.ext j.gr);refine wD (fun st=>AG (v:=.slice c k.AF.length d) Fz (eR st) s rfl)<|wD (fun st=>Bu Tryz.underlying22 (eR st)) ?_;replace b:=AK b;obtain⟨aU,b⟩:=b;refine wD (fun st=>B0 (eR st) (eR st) aU)<|wA (v:=I (a.Number+(k.AF.length:Int))) rfl<|Ag<|Ab<|Af ?_;have ⟨o,p,q,r⟩:=F4 t u x y (mt (AP z) (AP j));replace b:=bind_some b;obtain⟨aP,aV,b⟩:=b;refine B9 10 [Kc (.agg (AU c d e f g i k).toArray),Kc (.slice m aB.length n),Kc (I (a.Number+(k.AF.length:Int))),Kc (I aP),Kc (pt b2 2),Kc (pt b2 2),Kc (I a.Bq),Kc (pt b2 2),Kc (pt b2 3),Kc (I a.Br)] mixed rfl rfl
      (Aa (oD (fun K=>AR (l:=(AU c d e f g i k)) EP (es ((K.out 3 rfl).trans rfl)) (s.ext K.AO) rfl rfl))
      (Aa (oD (fun K=>Aq (es ((K.out 1 rfl).trans aD))))
      (Aa (oD (fun K=>Aq (es ((K.out 7 rfl).trans rfl))))
      (Aa (Dl rfl rfl (fun a' w' ph K=>(Ar Lw rfl (EN (es (K.dq 0 17)) (es (K.dq 1 18)) (es (K.dq 2 19))) (a31 aC k aB (a.Number+(k.AF.length:Int)) c d e f g i m n ZA _ (o.mv (Ah K.AO)).all (p.mv (Ah K.AO)).all (q.mv (Ah K.AO)).all (r.mv (Ah K.AO)).all aP aV)).mono (fun _ _ h=>⟨h.2,h.1⟩)))
      (Aa (oD (fun K=>Ai (es ((K.out 5 rfl).trans rfl)) (HK _ _)))
      (Aa (oD (fun K=>Ai (es (K.dq 4 21)) (IF _ _)))
      (Aa (oD (fun K=>AG Bz (es (K.dq 5 22)) (j.bk.ext K.AO) rfl))
      (Aa (oD (fun K=>Ai (es ((K.out 5 rfl).trans rfl)) (HK _ _)))
      (Aa (oD (fun K=>Ai (es (K.dq 7 24)) (IG _ _)))
      (Aa (oD (fun K=>AG Bz (es (K.dq 8 25)) (j.bk.ext K.AO) rfl))
      (B8 _))))))))))) ?_
  intro bD;rintro _ rfl _ rfl _ rfl _ rfl _ rfl _ rfl _ rfl _ rfl _ rfl _ rfl aW;have aX:=aL.ext aW;replace b:=bind_some b;obtain⟨aY,aZ,b⟩:=b;refine wE (fun st=>Ar Fk (eR st) (EN (eR st) (eR st) (eR st)) (IW aC aP a.Bq a.Br ZA _ aY aZ)) ?_;rintro _ bE ⟨a0,rfl⟩;have a2:=aX.ext a0;refine wA (v:=.bool aY) rfl<|Ag<|Ab<|AI ?_;obtain rfl:=oi b;refine AJ rfl rfl ?_;exact⟨a2.Bc,rfl⟩
 ·replace b:=AA b aA;refine AE rfl aA<|AL<|Ab<|Af ?_;have s:=(z.bk.ext j.gr);have ⟨o,p,q,r⟩:=F4 t u x y (mt (AP z) (AP j));replace b:=bind_some b;obtain⟨aE,aQ,b⟩:=b;refine B9 10 [Kc (.agg (AU c d e f g i k).toArray),Kc (.slice m aB.length n),Kc (I a.Number),Kc (I aE),Kc (pt b2 2),Kc (pt b2 2),Kc (I a.Bq),Kc (pt b2 2),Kc (pt b2 3),Kc (I a.Br)] mixed rfl rfl
      (Aa (oD (fun K=>AR (l:=(AU c d e f g i k)) EP (es ((K.out 3 rfl).trans rfl)) (s.ext K.AO) rfl rfl))
      (Aa (oD (fun K=>Aq (es ((K.out 1 rfl).trans aD))))
      (Aa (oD (fun K=>Aq (es ((K.out 7 rfl).trans rfl))))
      (Aa (Dl rfl rfl (fun a' w' ph K=>(Ar Lw rfl (EN (es (K.dq 0 17)) (es (K.dq 1 18)) (es (K.dq 2 19))) (a31 aC k aB a.Number c d e f g i m n ZA _ (o.mv (Ah K.AO)).all (p.mv (Ah K.AO)).all (q.mv (Ah K.AO)).all (r.mv (Ah K.AO)).all aE aQ)).mono (fun _ _ h=>⟨h.2,h.1⟩)))
      (Aa (oD (fun K=>Ai (es ((K.out 5 rfl).trans rfl)) (HK _ _)))
      (Aa (oD (fun K=>Ai (es (K.dq 4 21)) (IF _ _)))
      (Aa (oD (fun K=>AG Bz (es (K.dq 5 22)) (j.bk.ext K.AO) rfl))
      (Aa (oD (fun K=>Ai (es ((K.out 5 rfl).trans rfl)) (HK _ _)))
      (Aa (oD (fun K=>Ai (es (K.dq 7 24)) (IG _ _)))
      (Aa (oD (fun K=>AG Bz (es (K.dq 8 25)) (j.bk.ext K.AO) rfl))
      (B8 _))))))))))) ?_
  intro bF;rintro _ rfl _ rfl _ rfl _ rfl _ rfl _ rfl _ rfl _ rfl _ rfl _ rfl a3;have a4:=aL.ext a3;replace b:=bind_some b;obtain⟨aM,aR,b⟩:=b;refine wE (fun st=>Ar Fk (eR st) (EN (eR st) (eR st) (eR st)) (IW aC aE a.Bq a.Br ZA _ aM aR)) ?_;rintro _ bC ⟨aS,rfl⟩;have a5:=a4.ext aS;refine wA (v:=.bool aM) rfl<|Ag<|Ab<|AI ?_;obtain rfl:=oi b;refine AJ rfl rfl ?_;exact⟨a5.Bc,rfl⟩
theorem QJ a9 h u d e f g b c j m(Z:Nat→Prop) w(bE:Sl AM w Z d e h.AF)(bF:Sl (BO (Ay .i64)) w Z f g h.BW)(bG:Sl AQ w Z b c h.Bt)(bH:Sl (Ay .i64) w Z j m u) b8(a:CK a9 h u=some b8):
 Cw Tryz.prog 100 #[.agg (AU d e f g b c h).toArray,.slice j u.length m] w (fun v w'=>Ext w w'∧Dg.R w' (zf Z w []) v b8):=by
 unfold CK at a;refine AS (N:=26) Tryz.func100 rfl rfl (by simp) ?_;intro cM ha cN;have bP:=sA 0 ha;have bA:=sA 1 ha;clear ha;have bL:Hp FN [] w [] w:=Hp.start (Cc.none w);have ⟨aU,aV,aW,aX⟩:=F4 bE bF bG bH (Bh (Z:=Z) (L:=[]) w);refine Af<|Ad<|wE (fun st=>Ci (v:=.agg (AU d e f g b c h).toArray) (cs:=(AU d e f g b c h).toArray) (ee st bP) rfl) ?_;rintro _ w1 ⟨b1,rfl,aL⟩;have b9:=bL.nb aL;have cI:=bL.Cr aL;refine wA (v:=.bool false) rfl<|Ag<|Ab<|Af<|Af<|Ad<|wD (fun st=>AR (l:=(AU d e f g b c h)) EP (eR st) aL.bk rfl rfl)<|wM (v:=.slice j u.length m) bA ?_;have ⟨x,y,z,aA⟩:=F4 aU aV aW aX (AP aL);replace a:=bind_some a;obtain⟨bI,cA,a⟩:=a;refine wE (fun st=>Ar Oa (eR st) (Dw (eR st) (eR st)) (Su a9 h u d e f g b c j m ZA _ x.all y.all z.all aA.all bI cA)) ?_;rintro _ cS ⟨bB,rfl⟩;have bM:=b9.ext bB;refine wD (fun st=>Dz (eR st))<|Ag<|Ab ?_;rcases Ak (!bI) with s|s
 ·replace a:=Az a s;have cJ:bI=false:=by simpa using s
  refine AD rfl s<|Af<|Ad<|wA (v:=.bool false) rfl<|Ag<|Ab<|AI<|Ax ?_;obtain rfl:=oi a;refine AJ rfl rfl ?_;exact⟨bM.Bc,rfl⟩
 ·replace a:=AA a s;have cK:bI=true:=by simpa using s
  refine AE rfl s<|AL<|Ab<|Af<|Af<|Ad<|wA (v:=I 0) rfl<|Ag<|Ab<|AT ?_;replace a:=bind_some a;obtain⟨bQ,aB,a⟩:=a;refine Cm (fun bR n aH=>(bR=.ret∧∃aC,bQ=.inl aC∧n.tmps.size=26∧n.defers=(X0).ds∧sl n 4=.bool aC∧Hp FN [] w [some b1] aH)∨(bR=.exit 0∧∃aC,bQ=.inr aC∧n.tmps.size=26∧n.defers=(X0).ds∧Hp FN [] w [some b1] aH)) ?cB ?cC
  case cB=>
   clear a;refine Cl (fun(bS:Nat) (n:Act) (aH:World)=>∃i,Bj a9 h u bS i=some bQ∧n.tmps.size=26∧n.defers=(X0).ds∧sl n 1=.slice j u.length m∧sl n 2=pt b1 0∧sl n 5=I i∧Hp FN [] w [some b1] aH∧Bk aH b1 26 (AU d e f g b c h).toArray∧Sl AM aH (zf Z w [some b1]) d e h.AF∧Sl (BO (Ay .i64)) aH (zf Z w [some b1]) f g h.BW∧Sl AQ aH (zf Z w [some b1]) b c h.Bt∧Sl (Ay .i64) aH (zf Z w [some b1]) j m u) a9 ?cD ?cE
   case cD=>
    intro st;have bJ:=(aL.bk.ext bB);have ⟨aY,aZ,a0,a2⟩:=F4 x y z aA (Ah bB);exact⟨(0:Int),aB,qz st,qd st,sp st 1 bA,sp st 2 rfl,sp st 5 rfl,bM,bJ,aY,aZ,a0,a2⟩
   case cE=>
    rintro(_|bS) cO cP ⟨i,aB,bT,bU,aS,r,aI,bN,p,aN,aO,t,aP⟩
    ·exact absurd (show none=some _ from aB) (by simp)
    rw[Bj.eq_2] at aB;have a:=aB;clear aB;refine B7 (N:=26) bT bU<|Af<|Af<|Ad<|wM (v:=I i) aI<|wD (fun st=>Ai (ee st r) (K1 _ _))<|wD (fun st=>AG (v:=.slice b h.Bt.length c) LZ (eR st) p rfl)<|wD (fun st=>Bu Tryz.underlying24 (eR st))<|wD (fun st=>CO (eR st) (eR st))<|Ag<|Ab ?_;rcases Ak (decide (i<(h.Bt.length:Int))) with aM|aM
    ·replace a:=Az a aM;refine AD rfl aM<|AL<|Ab<|Af<|AT<|Af ?_;replace a:=AW a;obtain⟨i10,q,bV,bW,bX,a⟩:=a;obtain⟨cF,cG,_,bY,rfl,bZ⟩:=Sl.elem t (by decide) bW;refine B9 7 [Kc (.agg (AU d e f g b c h).toArray),Kc (.slice j u.length m),Kc (pt b1 2),Kc (.slice b h.Bt.length c),Kc (I i),Kc (pt cF (cG+i10*4)),Kc (.agg #[.bool q.C0,I q.Number,I q.Bq,I q.Br])] mixed rfl rfl
         (Aa (oD (fun K=>AR (l:=(AU d e f g b c h)) EP (es ((K.out 2 rfl).trans r)) (p.ext K.AO) rfl rfl))
         (Aa (oD (fun K=>Aq (es ((K.out 1 rfl).trans aS))))
         (Aa (oD (fun K=>Ai (es ((K.out 2 rfl).trans r)) (K1 _ _)))
         (Aa (oD (fun K=>AG LZ (es (K.dq 2 19)) (p.ext K.AO) rfl))
         (Aa (oD (fun K=>Aq (es ((K.out 5 rfl).trans aI))))
         (Aa (oD (fun K=>BR (k:=i10) Tryz.underlying24 Ro (es (K.dq 3 20)) bY (es (K.dq 4 21)) bV bX))
         (Aa (oD (fun K=>Ew (l:=[.bool q.C0,I q.Number,I q.Bq,I q.Br]) Q1 (es (K.dq 5 22)) (bZ.mv (Ah K.AO)) rfl rfl))
         (B8 _)))))))) ?_
     intro cT;rintro _ rfl _ rfl _ rfl _ rfl _ rfl _ rfl _ rfl bC;have cH:=bN.ext bC;have ⟨aD,aE,aF,aG⟩:=F4 aN aO t aP (Ah bC);replace a:=bind_some a;obtain⟨aT,b4,a⟩:=a;refine wE (fun st=>Ar Nv (eR st) (EN (eR st) (eR st) (eR st)) (a146 a9 h u q d e f g b c j m ZA _ aD.all aE.all aF.all aG.all aT b4)) ?_;rintro _ cQ ⟨aQ,rfl⟩;have bO:=cH.ext aQ;refine wD (fun st=>Dz (eR st))<|Ag<|Ab ?_;rcases Ak (!aT) with o|o
     ·replace a:=Az a o;have b6:aT=false:=by simpa using o
      refine AD rfl o<|Af<|Ad<|wA (v:=.bool false) rfl<|Ag<|Ab<|AI<|Bi<|Ax<|Ax ?_;obtain rfl:=oi a;refine B4 (fun st=>?_);exact .inl ⟨rfl,false,rfl,qz st,qd st,sp st 4 rfl,bO⟩
     ·replace a:=AA a o;have b7:aT=true:=by simpa using o
      refine AE rfl o<|AL<|Bs<|Ab<|Ad<|wM (v:=I i) aI ?_;replace a:=AK a;obtain⟨b5,a⟩:=a;refine wD (fun st=>B0 (eR st) (eR st) b5)<|wA (v:=I (i+1)) rfl<|Ag ?_;have bK:=((p.ext bC).ext aQ);have ⟨a3,a4,a5,a8⟩:=F4 aD aE aF aG (Ah aQ);refine Bw bS (Nat.lt_succ_self _) (fun st=>?_);exact⟨(i+1),a,qz st,qd st,sp st 1 aS,sp st 2 r,sp st 5 rfl,bO,bK,a3,a4,a5,a8⟩
    ·replace a:=AA a aM;refine AE rfl aM<|Cd<|AB<|AB ?_;obtain rfl:=oi a;refine B4 (fun st=>?_);exact .inr ⟨rfl,(),rfl,qz st,qd st,bN⟩
  case cC=>
   rintro bR cL cR (⟨rfl,aC,rfl,aJ,aK,bD,aR⟩|⟨rfl,aC,rfl,aJ,aK,aR⟩)
   ·skip
    replace a:=Eg a;refine Cn (X:=X0) (N:=26) aJ aK<|Bi<|Ax ?_;obtain rfl:=oi a;refine AJ rfl bD ?_;exact⟨aR.Bc,rfl⟩
   ·skip
    replace a:=Eh a;refine Cn (X:=X0) (N:=26) aJ aK<|Bn<|Ab<|Af<|Ad<|wA (v:=.bool true) rfl<|Ag<|Ab<|AI ?_;obtain rfl:=oi a;refine AJ rfl rfl ?_;exact⟨aR.Bc,rfl⟩
theorem OS aM a aE e f b c g h i j l m n o(Z:Nat→Prop) w(u:Sl AM w Z e f a.Al)(x:Sl (BO (Ay .i64)) w Z b c a.Ac)(y:Sl AQ w Z g h a.Ap)(z:Sl Bm w Z i j a.AH)(aA:Sl Bl w Z l m a.Aw)(aB:Sl BA w Z n o a.Ao) aN(d:BZ aM a aE=some aN):
 Cw Tryz.prog 56 #[.agg (Am e f b c g h i j l m n o a).toArray,I aE] w (fun v w'=>Ext w w'∧(Ev .i64).R w' (zf Z w []) v aN):=by
 unfold BZ at d;refine AS (N:=12) Tryz.func56 rfl rfl (by simp) ?_;intro aZ ha a0;have aF:=sA 0 ha;have aG:=sA 1 ha;clear ha;have aD:Hp FN [] w [] w:=Hp.start (Cc.none w);have ⟨aH,q,aI,aJ,aK,aL⟩:=Cz u x y z aA aB (Bh (Z:=Z) (L:=[]) w);refine Af<|Ad<|wE (fun st=>Ci (v:=.agg (Am e f b c g h i j l m n o a).toArray) (cs:=(Am e f b c g h i j l m n o a).toArray) (ee st aF) rfl) ?_;rintro _ w1 ⟨b1,rfl,p⟩;have aO:=aD.nb p;have aY:=aD.Cr p;refine wA (v:=I 0) rfl<|Ag<|Ab<|Af<|Ad<|wD (fun st=>Ai (eR st) (Ee _ _))<|wD (fun st=>Ai (eR st) (Ei _ _))<|wD (fun st=>AG (v:=.slice b a.Ac.length c) El (eR st) p.bk rfl)<|wM (v:=I aE) aG ?_;replace d:=AW d;obtain⟨i2,x2,aP,aQ,aR,d⟩:=d;have r:=(q.mv (AP p));obtain⟨b2,a2,_,aS,⟨s,t,rfl,aC⟩,aT⟩:=Sl.C1 r rfl aQ;refine wD (fun st=>AX (k:=i2) Tryz.underlying23 FX (eR st) aS (eR st) aP aR)<|wD (fun st=>Bg (v:=.slice s x2.length t) Eu (eR st) aT rfl) ?_;replace d:=bind_some d;obtain⟨aU,aV,d⟩:=d;refine wE (fun st=>Ar MP (eR st) (CR (eR st)) (Ry aM x2 s t ZA _ aC.all aU aV)) ?_;rintro _ a3 ⟨aW,rfl⟩;have aX:=aO.ext aW;refine wA (v:=I aU) rfl<|Ag<|Ab<|AI ?_;obtain rfl:=oi d;refine AJ rfl rfl ?_;exact⟨aX.Bc,rfl⟩
theorem PZ bO b aV aW i j f g m n c d o p q r aH aI(Z:Nat→Prop) w(bW:Sl AM w Z i j b.Al)(bX:Sl (BO (Ay .i64)) w Z f g b.Ac)(bY:Sl AQ w Z m n b.Ap)(bZ:Sl Bm w Z c d b.AH)(b4:Sl Bl w Z o p b.Aw)(b5:Sl BA w Z q r b.Ao)(b6:Sl (Ay .i64) w Z aH aI aV) cW(a:Cs bO b aV aW=some cW):
 Cw Tryz.prog 54 #[.agg (Am i j f g m n c d o p q r b).toArray,.slice aH aV.length aI,I aW] w (fun v w'=>Ext w w'∧(Ev .i64).R w' (zf Z w []) v cW):=by
 unfold Cs at a;refine AS (N:=43) Tryz.func54 rfl rfl (by simp) ?_;intro dO ha dP;have cF:=sA 0 ha;have cG:=sA 1 ha;have cH:=sA 2 ha;clear ha;have cB:Hp FN [] w [] w:=Hp.start (Cc.none w);have ⟨bA,bB,bC,bD,bE,bF,bG⟩:=E0 bW bX bY bZ b4 b5 b6 (Bh (Z:=Z) (L:=[]) w);refine Af<|Ad<|wE (fun st=>Ci (v:=.agg (Am i j f g m n c d o p q r b).toArray) (cs:=(Am i j f g m n c d o p q r b).toArray) (ee st cF) rfl) ?_;rintro _ w1 ⟨b1,rfl,aX⟩;have cX:=cB.nb aX;have dK:=cB.Cr aX;refine wA (v:=I 0) rfl<|Ag<|Ab<|Af<|Ad<|wA (v:=I 0) rfl<|Ag<|Ab<|Af<|Af<|Ad<|wD (fun st=>Ai (eR st) (GQ _ _))<|wD (fun st=>AG (v:=.slice c b.AH.length d) Hw (eR st) aX.bk rfl)<|wD (fun st=>Bu Tryz.underlying63 (eR st)) ?_;replace a:=AK a;obtain⟨cY,a⟩:=a;refine wD (fun st=>Ex (eR st) (eR st) cY)<|wA (v:=I ((b.AH.length:Int)-1)) rfl<|Ag<|Ab<|AT ?_;replace a:=bind_some a;obtain⟨z3,aR,a⟩:=a;refine Cm (fun cZ s x=>(cZ=.exit 0∧s.tmps.size=43∧s.defers=(X0).ds∧sl s 2=I aW∧sl s 3=pt b1 0∧sl s 7=I z3∧Hp FN [] w [some b1] x∧Bk x b1 67 (Am i j f g m n c d o p q r b).toArray∧Sl AM x (zf Z w [some b1]) i j b.Al∧Sl (BO (Ay .i64)) x (zf Z w [some b1]) f g b.Ac∧Sl AQ x (zf Z w [some b1]) m n b.Ap∧Sl Bm x (zf Z w [some b1]) c d b.AH∧Sl Bl x (zf Z w [some b1]) o p b.Aw∧Sl BA x (zf Z w [some b1]) q r b.Ao)) ?c0 ?c1
 case c0=>
  clear a;refine Cl (fun(b7:Nat) (s:Act) (x:World)=>∃aT,∃e,BF bO b aV aW b7 aT e=some z3∧s.tmps.size=43∧s.defers=(X0).ds∧sl s 1=.slice aH aV.length aI∧sl s 2=I aW∧sl s 3=pt b1 0∧sl s 7=I aT∧sl s 8=I e∧Hp FN [] w [some b1] x∧Bk x b1 67 (Am i j f g m n c d o p q r b).toArray∧Sl AM x (zf Z w [some b1]) i j b.Al∧Sl (BO (Ay .i64)) x (zf Z w [some b1]) f g b.Ac∧Sl AQ x (zf Z w [some b1]) m n b.Ap∧Sl Bm x (zf Z w [some b1]) c d b.AH∧Sl Bl x (zf Z w [some b1]) o p b.Aw∧Sl BA x (zf Z w [some b1]) q r b.Ao∧Sl (Ay .i64) x (zf Z w [some b1]) aH aI aV) bO ?c2 ?c3
  case c2=>
   intro st;have ⟨bH,bI,bJ,bK,bL,bM,bN⟩:=E0 bA bB bC bD bE bF bG (AP aX);exact⟨(0:Int),((b.AH.length:Int)-1),aR,qz st,qd st,sp st 1 cG,sp st 2 cH,sp st 3 rfl,sp st 7 rfl,sp st 8 rfl,cX,aX.bk,bH,bI,bJ,bK,bL,bM,bN⟩
  case c3=>
   rintro(_|b7) dQ dR ⟨aT,e,aR,cI,cJ,aU,aP,z,a9,aG,cC,y,aB,t,aC,u,aD,aE,aF⟩
   ·exact absurd (show none=some _ from aR) (by simp)
   rw[BF.eq_2] at aR;have a:=aR;clear aR;refine B7 (N:=43) cI cJ<|Af<|Af<|Ad<|wM (v:=I e) aG<|wD (fun st=>IX (eR st) (eR st))<|Ag<|Ab ?_;rcases Ak (decide ((0:Int)≤e)) with aY|aY
   ·replace a:=Az a aY;refine AD rfl aY<|AL<|Ab<|Af<|AT<|Af ?_;replace a:=AW a;obtain⟨i6,c4,c5,c6,c7,a⟩:=a;obtain⟨dL,dM,_,c8,⟨bP,bQ,rfl,b8⟩,c9⟩:=Sl.C1 t rfl c6;replace a:=bind_some a;obtain⟨cK,dA,a⟩:=a;replace a:=AW a;obtain⟨i8,dB,dC,dD,dE,a⟩:=a;obtain⟨dF,dG,_,dH,rfl,dI⟩:=Sl.elem u (by decide) dD;refine B9 14 [Kc (.slice aH aV.length aI),Kc (pt b1 0),Kc (pt b1 1),Kc (.slice f b.Ac.length g),Kc (I aW),Kc (pt dL (dM+i6)),Kc (.slice bP c4.length bQ),Kc (I cK),Kc (pt b1 4),Kc (.slice c b.AH.length d),Kc (I e),Kc (pt dF (dG+i8*2)),Kc (pt dF (dG+i8*2)),Kc (I dB.BU)] mixed rfl rfl
        (Aa (oD (fun K=>Aq (es ((K.out 1 rfl).trans aU))))
        (Aa (oD (fun K=>Ai (es ((K.out 3 rfl).trans z)) (Ee _ _)))
        (Aa (oD (fun K=>Ai (es (K.dq 1 18)) (Ei _ _)))
        (Aa (oD (fun K=>AG El (es (K.dq 2 19)) (y.ext K.AO) rfl))
        (Aa (oD (fun K=>Aq (es ((K.out 2 rfl).trans aP))))
        (Aa (oD (fun K=>AX (k:=i6) Tryz.underlying23 FX (es (K.dq 3 20)) c8 (es (K.dq 4 21)) c5 c7))
        (Aa (oD (fun K=>Bg Eu (es (K.dq 5 22)) (c9.mv (Ah K.AO)) rfl))
        (Aa (Dl rfl rfl (fun a' w' ph K=>(Ar JV rfl (Dw (es (K.dq 0 17)) (es (K.dq 6 23))) (a87 bO aV c4 aH aI bP bQ ZA _ (aF.mv (Ah K.AO)).all (b8.mv (Ah K.AO)).all cK dA)).mono (fun _ _ h=>⟨h.2,h.1⟩)))
        (Aa (oD (fun K=>Ai (es ((K.out 3 rfl).trans z)) (GQ _ _)))
        (Aa (oD (fun K=>AG Hw (es (K.dq 8 25)) (y.ext K.AO) rfl))
        (Aa (oD (fun K=>Aq (es ((K.out 8 rfl).trans aG))))
        (Aa (oD (fun K=>BR (k:=i8) Tryz.underlying63 J7 (es (K.dq 9 26)) dH (es (K.dq 10 27)) dC dE))
        (Aa (oD (fun K=>Ai (es (K.dq 11 28)) (Ml _ _ _)))
        (Aa (oD (fun K=>Bg Bz (es (K.dq 12 29)) (dI.mv (Ah K.AO)) rfl))
        (B8 _))))))))))))))) ?_
    intro dW;rintro _ rfl _ rfl _ rfl _ rfl _ rfl _ rfl _ rfl _ rfl _ rfl _ rfl _ rfl _ rfl _ rfl _ rfl aS;have cD:=cC.ext aS;refine wD (fun st=>IX (eR st) (eR st))<|Ag<|Ab ?_;rcases Ak (decide (dB.BU≤cK)) with aZ|aZ
    ·replace a:=Az a aZ;refine AD rfl aZ<|Ad<|wD (fun st=>Ai (ee st z) (GQ _ _)) ?_;have aQ:=(y.ext aS);refine wD (fun st=>AG (v:=.slice c b.AH.length d) Hw (eR st) aQ rfl)<|wM (v:=I e) aG ?_;replace a:=AW a;obtain⟨i10,bR,cL,cM,cN,a⟩:=a;have aA:=(u.mv (Ah aS));obtain⟨dS,dT,_,cO,rfl,cP⟩:=Sl.elem aA (by decide) cM;refine wD (fun st=>BR (k:=i10) Tryz.underlying63 J7 (eR st) cO (eR st) cL cN)<|wD (fun st=>Ai (eR st) (O0 _ _ _))<|wD (fun st=>Gj (v:=I bR.DT) Bz (eR st) cP rfl)<|wA (v:=I bR.DT) rfl<|Ag<|Bs<|Ab<|Ad<|wM (v:=I e) aG ?_;replace a:=AK a;obtain⟨cQ,a⟩:=a;refine wD (fun st=>Ex (eR st) (eR st) cQ)<|wA (v:=I (e-1)) rfl<|Ag ?_;have ⟨aJ,aK,aL,aM,aN,aO⟩:=Cz aB t aC aD aE aF (Ah aS);refine Bw b7 (Nat.lt_succ_self _) (fun st=>?_);exact⟨bR.DT,(e-1),a,qz st,qd st,sp st 1 aU,sp st 2 aP,sp st 3 z,sp st 7 rfl,sp st 8 rfl,cD,aQ,aJ,aK,aL,aA,aM,aN,aO⟩
    ·replace a:=AA a aZ;refine AE rfl aZ<|AL<|Bs<|Ab<|Ad<|wM (v:=I e) aG ?_;replace a:=AK a;obtain⟨cR,a⟩:=a;refine wD (fun st=>Ex (eR st) (eR st) cR)<|wA (v:=I (e-1)) rfl<|Ag ?_;have aQ:=(y.ext aS);have ⟨aJ,aK,aL,aA,aM,aN,aO⟩:=E0 aB t aC u aD aE aF (Ah aS);refine Bw b7 (Nat.lt_succ_self _) (fun st=>?_);exact⟨aT,(e-1),a,qz st,qd st,sp st 1 aU,sp st 2 aP,sp st 3 z,sp st 7 a9,sp st 8 rfl,cD,aQ,aJ,aK,aL,aA,aM,aN,aO⟩
   ·replace a:=AA a aY;refine AE rfl aY<|Cd<|AB<|AB ?_;obtain rfl:=oi a;refine B4 (fun st=>?_);exact⟨rfl,qz st,qd st,sp st 2 aP,sp st 3 z,sp st 7 a9,cC,y,aB,t,aC,u,aD,aE⟩
 case c1=>
  rintro cZ dN dU (⟨rfl,b9,cA,bS,bT,bU,cS,bV,a0,a2,a3,a4,a5,a8⟩);refine Cn (X:=X0) (N:=43) b9 cA<|Bn<|Ab<|Af<|Ad<|wM (v:=I z3) bU<|wD (fun st=>AR (l:=(Am i j f g m n c d o p q r b)) Cj (ee st bT) bV rfl rfl)<|wM (v:=I aW) bS ?_;replace a:=bind_some a;obtain⟨cE,cT,a⟩:=a;refine wE (fun st=>Ar Jx (eR st) (Dw (eR st) (eR st)) (OS bO b aW i j f g m n c d o p q r ZA _ a0.all a2.all a3.all a4.all a5.all a8.all cE cT)) ?_;rintro _ dV ⟨cU,rfl⟩;have dJ:=cS.ext cU;replace a:=AK a;obtain⟨cV,a⟩:=a;refine wD (fun st=>KY (eR st) (eR st) cV)<|wA (v:=I (z3*cE)) rfl<|Ag<|Ab<|AI ?_;obtain rfl:=oi a;refine AJ rfl rfl ?_;exact⟨dJ.Bc,rfl⟩
theorem Q4 b4 c aU f g i j m o p q r s d e aA aB(Z:Nat→Prop) w(b7:Sl AM w Z f g c.Al)(b8:Sl (BO (Ay .i64)) w Z i j c.Ac)(b9:Sl AQ w Z m o c.Ap)(cA:Sl Bm w Z p q c.AH)(cB:Sl Bl w Z r s c.Aw)(cC:Sl BA w Z d e c.Ao)(cD:Sl (Ay .i64) w Z aA aB aU) cY(a:C6 b4 c aU=some cY):
 Cw Tryz.prog 114 #[.agg (Am f g i j m o p q r s d e c).toArray,.slice aA aU.length aB] w (fun v w'=>Ext w w'∧(Ev .i64).R w' (zf Z w []) v cY):=by
 unfold C6 at a;refine AS (N:=41) Tryz.func114 rfl rfl (by simp) ?_;intro dR ha dS;have cM:=sA 0 ha;have cN:=sA 1 ha;clear ha;have cJ:Hp FN [] w [] w:=Hp.start (Cc.none w);have ⟨a8,a9,bA,bB,bC,bD,bE⟩:=E0 b7 b8 b9 cA cB cC cD (Bh (Z:=Z) (L:=[]) w);refine Af<|Ad<|wE (fun st=>Ci (v:=.agg (Am f g i j m o p q r s d e c).toArray) (cs:=(Am f g i j m o p q r s d e c).toArray) (ee st cM) rfl) ?_;rintro _ w1 ⟨b1,rfl,a4⟩;have cZ:=cJ.nb a4;have dO:=cJ.Cr a4;refine wA (v:=I 0) rfl<|Ag<|Ab<|Af<|Ad<|wA (v:=I 0) rfl<|Ag<|Ab<|Af<|Af<|Ad<|wA (v:=I 0) rfl<|Ag<|Ab<|AT ?_;replace a:=bind_some a;obtain⟨z2,aP,a⟩:=a;refine Cm (fun c0 y aJ=>(c0=.exit 0∧y.tmps.size=41∧y.defers=(X0).ds∧sl y 5=I z2∧Hp FN [] w [some b1] aJ)) ?c1 ?c2
 case c1=>
  clear a;refine Cl (fun(cE:Nat) (y:Act) (aJ:World)=>∃z,∃b,BN b4 c aU cE z b=some z2∧y.tmps.size=41∧y.defers=(X0).ds∧sl y 1=.slice aA aU.length aB∧sl y 2=pt b1 0∧sl y 5=I z∧sl y 6=I b∧Hp FN [] w [some b1] aJ∧Bk aJ b1 67 (Am f g i j m o p q r s d e c).toArray∧Sl AM aJ (zf Z w [some b1]) f g c.Al∧Sl (BO (Ay .i64)) aJ (zf Z w [some b1]) i j c.Ac∧Sl AQ aJ (zf Z w [some b1]) m o c.Ap∧Sl Bm aJ (zf Z w [some b1]) p q c.AH∧Sl Bl aJ (zf Z w [some b1]) r s c.Aw∧Sl BA aJ (zf Z w [some b1]) d e c.Ao∧Sl (Ay .i64) aJ (zf Z w [some b1]) aA aB aU) b4 ?c3 ?c4
  case c3=>
   intro st;have ⟨bF,bG,bH,bI,bJ,bK,bL⟩:=E0 a8 a9 bA bB bC bD bE (AP a4);exact⟨(0:Int),(0:Int),aP,qz st,qd st,sp st 1 cN,sp st 2 rfl,sp st 5 rfl,sp st 6 rfl,cZ,a4.bk,bF,bG,bH,bI,bJ,bK,bL⟩
  case c4=>
   rintro(_|cE) dT dU ⟨z,b,aP,cO,cP,aS,t,aT,u,b5,aK,aX,aY,aZ,a0,a2,aL,a3⟩
   ·exact absurd (show none=some _ from aP) (by simp)
   rw[BN.eq_2] at aP;have a:=aP;clear aP;refine B7 (N:=41) cO cP<|Af<|Af<|Ad<|wM (v:=I b) u<|wD (fun st=>Ai (ee st t) (Fx _ _))<|wD (fun st=>AG (v:=.slice d c.Ao.length e) GF (eR st) aK rfl)<|wD (fun st=>Bu Tryz.underlying65 (eR st))<|wD (fun st=>CO (eR st) (eR st))<|Ag<|Ab ?_;rcases Ak (decide (b<(c.Ao.length:Int))) with aV|aV
   ·replace a:=Az a aV;refine AD rfl aV<|AL<|Ab<|Af<|AT<|Af<|Ad<|wD (fun st=>Ai (ee st t) (Fx _ _))<|wD (fun st=>AG (v:=.slice d c.Ao.length e) GF (eR st) aK rfl)<|wM (v:=I b) u ?_;replace a:=AW a;obtain⟨i4,aO,c5,c6,c7,a⟩:=a;obtain⟨dX,dY,_,c8,rfl,c9⟩:=Sl.elem aL (by decide) c6;refine wD (fun st=>BR (k:=i4) Tryz.underlying65 LM (eR st) c8 (eR st) c5 c7)<|wD (fun st=>Ai (eR st) (Px _ _ _))<|wD (fun st=>Ou (l:=[I aO.Db,I aO.Dc]) Gk (eR st) c9 rfl rfl)<|wE (fun st=>DH (cs:= #[I 0,I 0]) HB rfl) ?_;rintro _ dZ ⟨dA,rfl,aQ⟩;have a5:=b5.nb aQ;have dP:=b5.Cr aQ;refine Dk rfl rfl (fun st=>CS (n:=2) (l:=[I aO.Db,I aO.Dc]) (EZ:= #[I aO.Db,I aO.Dc]) (eR st) (eR st) G0 aQ.bk rfl rfl (show 0+2≤2 by decide) (Cg rfl) rfl) ?_;rintro _ d0 aR;have dB:=a5.gr aR.gr 0 rfl;refine Ag<|Ab<|Af ?_;have aI:=((aK.ext aQ.gr).gr aR.gr (a5.nq 1 0));replace a:=AW a;obtain⟨i8,dC,dD,dE,dF,a⟩:=a;have x:=((aL.mv (AP aQ)).mv (a5.C4 aR.gr 0 rfl));obtain⟨dG,dH,_,dI,rfl,dJ⟩:=Sl.elem x (by decide) dE;have ⟨aC,aD,aE,aF,aG,aH⟩:=Cz aX aY aZ a0 a2 a3 (mt (AP aQ) (a5.C4 aR.gr 0 rfl));replace a:=bind_some a;obtain⟨cQ,dK,a⟩:=a;refine B9 13 [Kc (.agg (Am f g i j m o p q r s d e c).toArray),Kc (.slice aA aU.length aB),Kc (pt b1 6),Kc (.slice d c.Ao.length e),Kc (I b),Kc (pt dG (dH+i8*3)),Kc (pt dG (dH+i8*3)),Kc (I dC.C0),Kc (I cQ),Kc (pt dA 0),Kc (I aO.Db),Kc (pt dA 1),Kc (I aO.Dc)] mixed rfl rfl
        (Aa (oD (fun K=>AR (l:=(Am f g i j m o p q r s d e c)) Cj (es ((K.out 2 rfl).trans t)) (aI.ext K.AO) rfl rfl))
        (Aa (oD (fun K=>Aq (es ((K.out 1 rfl).trans aS))))
        (Aa (oD (fun K=>Ai (es ((K.out 2 rfl).trans t)) (Fx _ _)))
        (Aa (oD (fun K=>AG GF (es (K.dq 2 23)) (aI.ext K.AO) rfl))
        (Aa (oD (fun K=>Aq (es ((K.out 6 rfl).trans u))))
        (Aa (oD (fun K=>BR (k:=i8) Tryz.underlying65 LM (es (K.dq 3 24)) dI (es (K.dq 4 25)) dD dF))
        (Aa (oD (fun K=>Ai (es (K.dq 5 26)) (O1 _ _ _)))
        (Aa (oD (fun K=>Bg Bz (es (K.dq 6 27)) (dJ.mv (Ah K.AO)) rfl))
        (Aa (Dl rfl rfl (fun a' w' ph K=>(Ar K4 rfl (EN (es (K.dq 0 21)) (es (K.dq 1 22)) (es (K.dq 7 28))) (PZ b4 c aU dC.C0 f g i j m o p q r s d e aA aB ZA _ (aC.mv (Ah K.AO)).all (aD.mv (Ah K.AO)).all (aE.mv (Ah K.AO)).all (aF.mv (Ah K.AO)).all (aG.mv (Ah K.AO)).all (x.mv (Ah K.AO)).all (aH.mv (Ah K.AO)).all cQ dK)).mono (fun _ _ h=>⟨h.2,h.1⟩)))
        (Aa (oD (fun K=>Ai (es ((K.out 7 rfl).trans rfl)) (JL _ _)))
        (Aa (oD (fun K=>AG Bz (es (K.dq 9 30)) (aR.bk.ext K.AO) rfl))
        (Aa (oD (fun K=>Ai (es ((K.out 7 rfl).trans rfl)) (NU _ _)))
        (Aa (oD (fun K=>AG Bz (es (K.dq 11 32)) (aR.bk.ext K.AO) rfl))
        (B8 _)))))))))))))) ?_
    intro d1;rintro _ rfl _ rfl _ rfl _ rfl _ rfl _ rfl _ rfl _ rfl _ rfl _ rfl _ rfl _ rfl _ rfl aW;have dL:=dB.ext aW;replace a:=bind_some a;obtain⟨cK,cR,a⟩:=a;refine wE (fun st=>Ar Fk (eR st) (EN (eR st) (eR st) (eR st)) (IW b4 cQ aO.Db aO.Dc ZA _ cK cR)) ?_;rintro _ dV ⟨aM,rfl⟩;have cL:=dL.ext aM;refine Ag<|Ab ?_;rcases Ak (cK) with aN|aN
    ·replace a:=Az a aN;refine AD rfl aN<|Ad<|wM (v:=I z) aT<|wM (v:=I b) u ?_;replace a:=D1 a;obtain⟨cS,a⟩:=a;refine wD (fun st=>EX (k:=.u64) GV Tryz.underlying91 (eR st) cS) ?_;replace a:=E3 a;obtain⟨cT,a⟩:=a;refine wD (fun st=>HL (eR st) (eR st) cT) ?_;replace a:=F5 a;obtain⟨cU,a⟩:=a;refine wD (fun st=>NR (eR st) (eR st) cU)<|wA (v:=I (GX z (CY (1:Int) b))) rfl<|Ag<|Bs<|Ab<|Ad<|wM (v:=I b) u ?_;replace a:=AK a;obtain⟨cV,a⟩:=a;refine wD (fun st=>B0 (eR st) (eR st) cV)<|wA (v:=I (b+1)) rfl<|Ag ?_;have dM:=cL.erase 0;have cF:=((aI.ext aW).ext aM);have ⟨bM,bN,bO,bP,bQ,bR,bS⟩:=E0 aC aD aE aF aG x aH (mt (Ah aW) (mt (Ah aM) (Bp 0)));refine Bw cE (Nat.lt_succ_self _) (fun st=>?_);exact⟨(GX z (CY (1:Int) b)),(b+1),a,qz st,qd st,sp st 1 aS,sp st 2 t,sp st 5 rfl,sp st 6 rfl,dM,cF,bM,bN,bO,bP,bQ,bR,bS⟩
    ·replace a:=AA a aN;refine AE rfl aN<|AL<|Bs<|Ab<|Ad<|wM (v:=I b) u ?_;replace a:=AK a;obtain⟨cW,a⟩:=a;refine wD (fun st=>B0 (eR st) (eR st) cW)<|wA (v:=I (b+1)) rfl<|Ag ?_;have dN:=cL.erase 0;have cG:=((aI.ext aW).ext aM);have ⟨bT,bU,bV,bW,bX,bY,bZ⟩:=E0 aC aD aE aF aG x aH (mt (Ah aW) (mt (Ah aM) (Bp 0)));refine Bw cE (Nat.lt_succ_self _) (fun st=>?_);exact⟨z,(b+1),a,qz st,qd st,sp st 1 aS,sp st 2 t,sp st 5 aT,sp st 6 rfl,dN,cG,bT,bU,bV,bW,bX,bY,bZ⟩
   ·replace a:=AA a aV;refine AE rfl aV<|Cd<|AB<|AB ?_;obtain rfl:=oi a;refine B4 (fun st=>?_);exact⟨rfl,qz st,qd st,sp st 5 aT,b5⟩
 case c2=>
  rintro c0 dQ dW (⟨rfl,cH,cI,b6,cX⟩);refine Cn (X:=X0) (N:=41) cH cI<|Bn<|Ab<|Af<|Ad<|wM (v:=I z2) b6<|wA (v:=I z2) rfl<|Ag<|Ab<|AI ?_;obtain rfl:=oi a;refine AJ rfl rfl ?_;exact⟨cX.Bc,rfl⟩
theorem Q5 aM b e f g h i j l m n o c d(Z:Nat→Prop) w(q:Sl AM w Z e f b.Al)(r:Sl (BO (Ay .i64)) w Z g h b.Ac)(s:Sl AQ w Z i j b.Ap)(t:Sl Bm w Z l m b.AH)(u:Sl Bl w Z n o b.Aw)(x:Sl BA w Z c d b.Ao) aG(a:CL aM b=some aG):
 Cw Tryz.prog 61 #[.agg (Am e f g h i j l m n o c d b).toArray] w (fun v w'=>Ext w w'∧(Ev .i64).R w' (zf Z w []) v aG):=by
 unfold CL at a;refine AS (N:=9) Tryz.func61 rfl rfl (by simp) ?_;intro aN ha aO;have z:=sA 0 ha;clear ha;have y:Hp FN [] w [] w:=Hp.start (Cc.none w);have ⟨aA,aB,aC,aD,aE,aF⟩:=Cz q r s t u x (Bh (Z:=Z) (L:=[]) w);refine Af<|Ad<|wE (fun st=>Ci (v:=.agg (Am e f g h i j l m n o c d b).toArray) (cs:=(Am e f g h i j l m n o c d b).toArray) (ee st z) rfl) ?_;rintro _ w1 ⟨b1,rfl,p⟩;have aH:=y.nb p;have aL:=y.Cr p;refine wA (v:=I 0) rfl<|Ag<|Ab<|Af<|Ad<|wD (fun st=>Ai (eR st) (Fx _ _))<|wD (fun st=>AG (v:=.slice c b.Ao.length d) GF (eR st) p.bk rfl)<|wD (fun st=>Bu Tryz.underlying65 (eR st)) ?_;replace a:=D1 a;obtain⟨aI,a⟩:=a;refine wD (fun st=>EX (k:=.u64) GV Tryz.underlying91 (eR st) aI) ?_;replace a:=E3 a;obtain⟨aJ,a⟩:=a;refine wD (fun st=>HL (eR st) (eR st) aJ) ?_;replace a:=AK a;obtain⟨aK,a⟩:=a;refine wD (fun st=>Ex (eR st) (eR st) aK)<|wA (v:=I ((CY (1:Int) (b.Ao.length:Int))-1)) rfl<|Ag<|Ab<|AI ?_;obtain rfl:=oi a;refine AJ rfl rfl ?_;exact⟨aH.Bc,rfl⟩
theorem a76 aV a aE b d e f g i k m n o p q s t(Z:Nat→Prop) w(aW:Sl AM w Z b d a.Al)(aX:Sl (BO (Ay .i64)) w Z e f a.Ac)(aY:Sl AQ w Z g i a.Ap)(aZ:Sl Bm w Z k m a.AH)(a0:Sl Bl w Z n o a.Aw)(a2:Sl BA w Z p q a.Ao)(a3:Sl (Ay .i64) w Z s t aE) bC(r:Ns aV a aE=some bC):
 Cw Tryz.prog 76 #[.agg (Am b d e f g i k m n o p q a).toArray,.slice s aE.length t] w (fun v w'=>Ext w w'∧Dg.R w' (zf Z w []) v bC):=by
 unfold Ns at r;refine AS (N:=17) Tryz.func76 rfl rfl (by simp) ?_;intro bK ha bL;have bA:=sA 0 ha;have aF:=sA 1 ha;clear ha;have a5:Hp FN [] w [] w:=Hp.start (Cc.none w);have ⟨aI,aJ,aK,aL,aM,aN,aO⟩:=E0 aW aX aY aZ a0 a2 a3 (Bh (Z:=Z) (L:=[]) w);refine Af<|Ad<|wE (fun st=>Ci (v:=.agg (Am b d e f g i k m n o p q a).toArray) (cs:=(Am b d e f g i k m n o p q a).toArray) (ee st bA) rfl) ?_;rintro _ w1 ⟨b1,rfl,aA⟩;have a8:=a5.nb aA;have bJ:=a5.Cr aA;refine wA (v:=.bool false) rfl<|Ag<|Ab<|Af ?_;have ⟨u,x,y,z⟩:=F4 aI aJ aK aO (AP aA);replace r:=bind_some r;obtain⟨aG,a9,r⟩:=r;rcases Ak (aG) with j|j
 ·replace r:=Az r j;have ⟨aB,aC,aD⟩:=EW aL aM aN (AP aA);replace r:=bind_some r;obtain⟨a4,bD,r⟩:=r;refine B9 9 [Kc (pt b1 0),Kc (.agg #[.slice b a.Al.length d,.slice e a.Ac.length f,.slice g a.Ap.length i]),Kc (.slice s aE.length t),Kc (.bool aG),Kc (.bool aG),Kc (.agg (Am b d e f g i k m n o p q a).toArray),Kc (.slice s aE.length t),Kc (I a4),Kc (.agg (Am b d e f g i k m n o p q a).toArray)] mixed rfl rfl
      (Aa (oD (fun K=>Ai (es ((K.out 2 rfl).trans rfl)) (Ee _ _)))
      (Aa (oD (fun K=>AR (l:=[.slice b a.Al.length d,.slice e a.Ac.length f,.slice g a.Ap.length i]) EP (es (K.dq 0 5)) (aA.bk.ext K.AO) rfl rfl))
      (Aa (oD (fun K=>Aq (es ((K.out 1 rfl).trans aF))))
      (Aa (Dl rfl rfl (fun a' w' ph K=>(Ar M5 rfl (Dw (es (K.dq 1 6)) (es (K.dq 2 7))) (QJ aV (⟨a.Al,a.Ac,a.Ap⟩:AV) aE b d e f g i s t ZA _ (u.mv (Ah K.AO)).all (x.mv (Ah K.AO)).all (y.mv (Ah K.AO)).all (z.mv (Ah K.AO)).all aG a9)).mono (fun _ _ h=>⟨h.2,h.1⟩)))
      (Aa (oD (fun K=>Aq (es (K.dq 3 8))))
      (Aa (Bb rfl rfl rfl (fun _=>rfl) (fun a' w' ph K=>Ae (K.dq 4 9) j) (fun a' w' ph K=>AR (l:=(Am b d e f g i k m n o p q a)) Cj (es ((K.out 2 rfl).trans rfl)) (aA.bk.ext K.AO) rfl rfl))
      (Aa (Bb rfl rfl rfl (fun _=>rfl) (fun a' w' ph K=>Ae (K.dq 4 9) j) (fun a' w' ph K=>Aq (es ((K.out 1 rfl).trans aF))))
      (Aa (IT rfl rfl rfl (fun a' w' ph K=>Ae (K.dq 4 9) j) (fun a' w' ph K=>(Ar Nw rfl (Dw (es (K.dq 5 10)) (es (K.dq 6 11))) (Q4 aV a aE b d e f g i k m n o p q s t ZA _ (u.mv (Ah K.AO)).all (x.mv (Ah K.AO)).all (y.mv (Ah K.AO)).all (aB.mv (Ah K.AO)).all (aC.mv (Ah K.AO)).all (aD.mv (Ah K.AO)).all (z.mv (Ah K.AO)).all a4 bD)).mono (fun _ _ h=>⟨h.2,h.1⟩)))
      (Aa (Bb rfl rfl rfl (fun _=>rfl) (fun a' w' ph K=>Ae (K.dq 4 9) j) (fun a' w' ph K=>AR (l:=(Am b d e f g i k m n o p q a)) Cj (es ((K.out 2 rfl).trans rfl)) (aA.bk.ext K.AO) rfl rfl))
      (B8 _)))))))))) ?_
  intro w2;rintro _ rfl _ rfl _ rfl _ rfl _ rfl _ rfl _ rfl _ rfl _ rfl aH;have bE:=a8.ext aH;have ⟨aP,aQ,aR,aS,aT,aU⟩:=Cz u x y aB aC aD (Ah aH);replace r:=bind_some r;obtain⟨bB,bF,r⟩:=r;refine Di rfl rfl (Ae rfl j) rfl (by decide) (fun st=>Ar Mp (eR st) (CR (eR st)) (Q5 aV a b d e f g i k m n o p q ZA _ aP.all aQ.all aR.all aS.all aT.all aU.all bB bF)) ?_;rintro _ bM ⟨bG,rfl⟩;have bH:=bE.ext bG;refine An rfl rfl (Ae rfl j) rfl (by decide) (fun st=>Dj (eR st) (eR st))<|wD (fun st=>AY (v:=.bool (a4==bB)) (eR st) j (eR st))<|wA (v:=.bool (a4==bB)) rfl<|Ag<|Ab<|AI ?_;obtain rfl:=oi r;refine AJ rfl rfl ?_;exact⟨bH.Bc,rfl⟩
 ·replace r:=AA r j;refine B9 9 [Kc (pt b1 0),Kc (.agg #[.slice b a.Al.length d,.slice e a.Ac.length f,.slice g a.Ap.length i]),Kc (.slice s aE.length t),Kc (.bool aG),Kc (.bool aG),Kc undef,Kc undef,Kc undef,Kc undef] mixed rfl rfl
      (Aa (oD (fun K=>Ai (es ((K.out 2 rfl).trans rfl)) (Ee _ _)))
      (Aa (oD (fun K=>AR (l:=[.slice b a.Al.length d,.slice e a.Ac.length f,.slice g a.Ap.length i]) EP (es (K.dq 0 5)) (aA.bk.ext K.AO) rfl rfl))
      (Aa (oD (fun K=>Aq (es ((K.out 1 rfl).trans aF))))
      (Aa (Dl rfl rfl (fun a' w' ph K=>(Ar M5 rfl (Dw (es (K.dq 1 6)) (es (K.dq 2 7))) (QJ aV (⟨a.Al,a.Ac,a.Ap⟩:AV) aE b d e f g i s t ZA _ (u.mv (Ah K.AO)).all (x.mv (Ah K.AO)).all (y.mv (Ah K.AO)).all (z.mv (Ah K.AO)).all aG a9)).mono (fun _ _ h=>⟨h.2,h.1⟩)))
      (Aa (oD (fun K=>Aq (es (K.dq 3 8))))
      (Aa (oS (c:=false) (fun a' w' ph K=>Ae (K.dq 4 9) j))
      (Aa (oS (c:=false) (fun a' w' ph K=>Ae (K.dq 4 9) j))
      (Aa (oS (c:=false) (fun a' w' ph K=>Ae (K.dq 4 9) j))
      (Aa (oS (c:=false) (fun a' w' ph K=>Ae (K.dq 4 9) j))
      (B8 _)))))))))) ?_
  intro w2;rintro _ rfl _ rfl _ rfl _ rfl _ rfl _ rfl _ rfl _ rfl _ rfl aH;have bI:=a8.ext aH;refine Au (c:=false) rfl rfl (Ae rfl j) (by decide) rfl (by decide)<|Au (c:=false) rfl rfl (Ae rfl j) (by decide) rfl (by decide)<|wD (fun st=>BC (v:=.bool false) (eR st) j (eR st))<|wA (v:=.bool false) rfl<|Ag<|Ab<|AI ?_;obtain rfl:=oi r;refine AJ rfl rfl ?_;exact⟨bI.Bc,rfl⟩
theorem a51 u c a b(Z:Nat→Prop) w(h:Sl (Ay .i64) w Z a b c) p(d:CM u c=some p):
 Cw Tryz.prog 51 #[.slice a c.length b] w (fun v w'=>Ext w w'∧(Gp (Ay .i64)).R w' (zf Z w []) v p):=by
 unfold CM at d;refine AS (N:=5) Tryz.func51 rfl rfl (by simp) ?_;intro z ha aA;have o:=sA 0 ha;clear ha;have q:Hp FN [] w [] w:=Hp.start (Cc.none w);have e:=h.mv (Bh (Z:=Z) (L:=[]) w);refine Af<|Ad<|wA (v:=.slice none 0 0) rfl<|Ag<|Ab<|Af<|Ad<|wM (v:=.slice a c.length b) o ?_;have g:=q.nil;have r:BY (Ay .i64) 3 w.heap.size w (zf Z w [none]) none 0 ([]:List Int):=BY.nil _ _ _ _ _;replace d:=Ck d;obtain⟨i,d⟩:=d;have f:=(e.mv CA);refine wE (fun st=>HY (ys:=c) Tryz.underlying31 Hv rfl rfl (by decide) (eR st) rfl (eR st) r f.n (by have:=i;simp only[maxLen];omega) (by have:=i;omega) g.sz) ?_;rintro _ aB ⟨x,y,rfl,j,l,s⟩;have m:=g.row j 0 rfl l;have t:=ED s (g.DN j 0 rfl (fun k hk=>(l k hk).1));refine wA (v:=.slice x ((([]:List Int)++c).length) y) rfl<|Ag<|Ab<|AI ?_;obtain rfl:=oi d;refine AJ rfl rfl ?_;exact⟨m.Bc,⟨_,_,rfl,m.IA (M:=[]) 0 rfl [] rfl trivial t⟩⟩
theorem U1 aM n a b c d e f g h i j k m(Z:Nat→Prop) w(aE:Sl AM w Z a b n.Al)(aF:Sl (BO (Ay .i64)) w Z c d n.Ac)(aG:Sl AQ w Z e f n.Ap)(aH:Sl Bm w Z g h n.AH)(aI:Sl Bl w Z i j n.Aw)(aJ:Sl BA w Z k m n.Ao) aN(p:DY aM n=some aN):
 Cw Tryz.prog 65 #[.agg (Am a b c d e f g h i j k m n).toArray] w (fun v w'=>Ext w w'∧(Ev .i64).R w' (zf Z w []) v aN):=by
 unfold DY at p;refine AS (N:=5) Tryz.func65 rfl rfl (by simp) ?_;intro aU ha aV;have aL:=sA 0 ha;clear ha;have aK:Hp FN [] w [] w:=Hp.start (Cc.none w);have ⟨q,r,s,t,u,x⟩:=Cz aE aF aG aH aI aJ (Bh (Z:=Z) (L:=[]) w);refine Af<|Ad<|wE (fun st=>Ci (v:=.agg (Am a b c d e f g h i j k m n).toArray) (cs:=(Am a b c d e f g h i j k m n).toArray) (ee st aL) rfl) ?_;rintro _ w1 ⟨b1,rfl,o⟩;have aO:=aK.nb o;have aT:=aK.Cr o;refine wA (v:=I 0) rfl<|Ag<|Ab<|Af<|Ad<|wD (fun st=>AR (l:=(Am a b c d e f g h i j k m n)) Cj (eR st) o.bk rfl rfl) ?_;have ⟨y,z,aA,aB,aC,aD⟩:=Cz q r s t u x (AP o);replace p:=bind_some p;obtain⟨aP,aQ,p⟩:=p;refine wE (fun st=>Ar NV (eR st) (CR (eR st)) (a116 aM n a b c d e f g h i j k m ZA _ y.all z.all aA.all aB.all aC.all aD.all aP aQ)) ?_;rintro _ aW ⟨aR,rfl⟩;have aS:=aO.ext aR;refine wA (v:=I aP) rfl<|Ag<|Ab<|AI ?_;obtain rfl:=oi p;refine AJ rfl rfl ?_;exact⟨aS.Bc,rfl⟩
end Go.Proofs.YtbhofkcbfblijaaGreat
end
section
namespace Go.Proofs.YtbhofkcbfblijaaGreat
open Go.RowKit Go.ChangeShapes Go.WideShapes
section
variable{H:Type}{enc:TypeId×Value→H}{P:Program}{W W':World}
variable{α:Type}{e:Gy α}{wf:α→Prop}{t:TypeId}{b0:Nat}{v:Value}{d:DataW H}{p:List MemPlace}{sp:Nat→Bool}
theorem Q6{ee:TypeId}(f:P.underlying t=some (.slice ee)){wf:List α→Prop}(g:Ss P t (BO e) wf)(i:Value.okWide P W .any b0 t v)(h:DataW.Trod enc P W 0 sp true t v d p)(hs:S9 P t d):∃xs A c,v=.slice A xs.length c∧Sl e W ZA A c xs∧wf xs:=by
 obtain⟨A,n,c,rfl⟩:=okWide_slice f i;obtain⟨m,hm⟩:=h;obtain⟨xs,⟨a,b,h1,h2⟩,j⟩:=g _ _ _ _ _ _ _ hm hs;have:Value.slice A n c=Value.slice a xs.length b:=by simpa[Value.cells] using h1
 exact⟨xs,a,b,this,h2,j⟩
end
end Go.Proofs.YtbhofkcbfblijaaGreat
end
