import Derived.Test.YtkljfdkmjdjpfaaGreatBB7
import Derived.ProofKit
import Derived.ChangeSame
import Derived.SizedLaws
import Derived.Deep.Slices
import Derived.Test.YtkljfdkmjdjpfaaGreatProg
import Derived.Test.YtkljfdkmjdjpfaaGreatRows
/-
  Proved: the law RackTruth returns true for every argument that the row hands over, and leaves every argument as it was; no condition beside the row's own.
-/
set_option linter.all false
section
set_option linter.unusedVariables false
set_option linter.unusedSimpArgs false
namespace Go.Proofs.YtkljfdkmjdjpfaaGreat
open Go.RowKit Go.WideShapes
def BW(d:Nat)(f:Ap)(e:(List (List Int)))(c:(List As)×Int):Nat→Int→Option ((Bool)⊕(Unit))
 |0,_=>none
 |g+1,a=>cond (decide (a<(c.1.length:Int))) ((CU d f).bind fun k=>(Dj d e).bind fun l=>(EC d k l a).bind fun b=>(idx c.1 a).bind fun m=>cond (m.AP) ((idx c.1 a).bind fun h=>(idx f.Ad a).bind fun i=>cond (b.2 !=0) (some (.inl false)) ((CZ d b.1 1 3).bind fun n=>cond (!n) (some (.inl false)) (cond (b.1==1) (cond (!(decide (h.Bh≤i.BZ))) (some (.inl false)) (cond (b.1==2) (some (.inl false)) ((i64 (a+1)).bind fun _=>BW d f e c g (a+1)))) (cond (b.1==2) (cond (decide (h.Bh≤i.BZ)) (some (.inl false)) ((i64 (a+1)).bind fun _=>BW d f e c g (a+1))) ((i64 (a+1)).bind fun _=>BW d f e c g (a+1)))))) (cond (b.2 !=0) (some (.inl false)) ((CZ d b.1 1 3).bind fun j=>cond (!j) (some (.inl false)) (cond (b.1==1) (some (.inl false)) (cond (b.1==2) ((i64 (a+1)).bind fun _=>BW d f e c g (a+1)) ((i64 (a+1)).bind fun _=>BW d f e c g (a+1))))))) (some (.inr ()))
def Es(a:Nat)(b:Ap)(aA:Int)(aB:List Int):Option (Bool):=
 (Fm a b).bind fun r2=>cond (!r2) ((F8 (EB a=some true)).bind fun _=>some (true)) ((FF a b aA).bind fun l=>(CU a b).bind fun m=>(Gu a m).bind fun c=>(CU a b).bind fun n=>(Gv a n).bind fun d=>cond (c.2.2 !=0) (some (false)) (cond (d.2.2 !=0) (some (false)) ((DP a b c.1).bind fun o=>cond (!o) (some (false)) ((DP a b d.1).bind fun p=>cond (!p) (some (false)) (cond (decide (c.2.1<0)) (some (false)) (cond (decide (d.2.1<0)) (some (false)) ((i64 (c.2.1+d.2.1)).bind fun _=>cond (decide ((b.Ad.length:Int)<(c.2.1+d.2.1))) (some (false)) ((CU a b).bind fun q=>(Dj a c.1).bind fun r=>(DG a l).bind fun s=>(E4 a q r s).bind fun h=>(CU a b).bind fun t=>(Dj a d.1).bind fun u=>(DG a l).bind fun v=>(E4 a t u v).bind fun i=>(EU a b h.1).bind fun j=>(EU a b i.1).bind fun e=>cond (h.2 !=0) (some (false)) (cond (i.2 !=0) (some (false)) (cond (!j.2) (some (false)) (cond (!e.2) (some (false)) (cond (decide (c.2.1<j.1)) (some (false)) ((i64 ((b.Ad.length:Int)-e.1)).bind fun _=>cond (decide (((b.Ad.length:Int)-e.1)<d.2.1)) (some (false)) ((Fo a b aB).bind fun k=>(CU a b).bind fun w=>(Dj a k).bind fun x=>(DG a l).bind fun y=>(E4 a w x y).bind fun f=>cond (f.2 !=0) (some (false)) (cond ((f.1.length:Int) !=(b.Ad.length:Int)) (some (false)) ((BW a b k f a (0:Int)).bind fun z=>Sum.elim (fun g=>some (g)) (fun g=>(F8 (EB a=some true)).bind fun _=>some (true)) z))))))))))))))))
end Go.Proofs.YtkljfdkmjdjpfaaGreat
end
section
namespace Go.Proofs.YtkljfdkmjdjpfaaGreat
section
variable{K:Nat}(hK:2000≤K){y:Ap}(h:check y=0)
include hK h
theorem Ju:CU K y=some y:=SI hK y (by have:=(FH h).n4;omega)
theorem K6{o:List (List Int)}(a:Da y o=true):Dj K o=some o:=by
 obtain⟨h1,b,_⟩:=II h a;exact RB hK o h1 b
omit hK in
theorem MD {t:AX} (ht:EE y t=true):DG K t=some t:=by
 have hy:=FH h
 obtain⟨h1,_,h3⟩:=IH.1 ht
 have:=Hc h3
 have:=hy.n4
 have:=hy.h9
 exact RC K t (by omega) (by omega)
theorem MX{o:List (List Int)}(a:Da y o=true):DP K y o=some true:=by
 obtain⟨h1,b,_⟩:=II h a;rw[Qy y o (FH h).n4 h1 b hK,a]
end
theorem HN(y:Ap)(o:List (List Int))(t:AX):(B1 y o t).length=y.Ad.length:=GK ..
theorem QY{K:Nat}(hK:2000≤K){y:Ap}(b:check y=0){o:List (List Int)}(j:Da y o=true){t:AX}(ht:EE y t=true):∀(k m i:Nat),y.Ad.length=i+k→k<m→
  BW K y o (B1 y o t,0) m (i:Int)=some (.inr ()):=by
 have hy:=FH b;have q:=hy.n4;have p:=HN y o t;intro k
 induction k with
 |zero=>
  intro m i h hm;cases m with
  |zero=>omega
  |succ m=>rw[BW.eq_2,cf (df (by show¬(i:Int)<((B1 y o t).length:Int);omega))]
 |succ k ih=>
  intro m i h hm;cases m with
  |zero=>omega
  |succ m=>
   have hi:i<y.Ad.length:=by omega
   have c:i<(B1 y o t).length:=by omega
   obtain⟨v1,v2,v3,v4⟩:=PH y o i;have d:=(FB hy.h0).2 ht;have e:F5 y o i t=Eg y.Ad[i] (B1 y o t)[i]:=by
    unfold F5 Fx JP;rw[List.getD_eq_getElem?_getD,List.getD_eq_getElem?_getD,List.getElem?_eq_getElem hi,List.getElem?_eq_getElem c];rfl
   have l:Fy (verdict y o i) 1 3=true:=EV.2 ⟨v3,v4⟩;have go:(i64 ((i:Int)+1)).bind (fun _=>BW K y o (B1 y o t,0) m ((i:Int)+1))=some (.inr ()):=by
    rw[BD (by omega) (by omega),Dt];exact ih m (i+1) (by omega) (by omega)
   rw[BW.eq_2,ct (dt (by show(i:Int)<((B1 y o t).length:Int);omega)),bd (Ju hK b),bd (K6 hK b j),bd (Mo hK b j hi),C2 c];cases g:(B1 y o t)[i].AP with
   |true=>
    rw[ct rfl,C2 c,C2 hi,cf (by rfl),bd (Ky ..),l,nt];cases h1:(verdict y o i==1) with
    |true=>
     have f:verdict y o i=1:=eq_of_beq h1;have a:=v1.1 f t d;rw[e] at a;unfold Eg at a;rw[g,Bool.true_and] at a;rw[ct rfl,a,nt,cf (by rw[f];rfl)];exact go
    |false=>
     rw[cf rfl];cases n:(verdict y o i==2) with
     |true=>
      have a:=v2 (eq_of_beq n) t d;rw[e] at a;unfold Eg at a;rw[g,Bool.true_and] at a;rw[ct rfl,a,cf rfl];exact go
     |false=>rw[cf rfl];exact go
   |false=>
    rw[cf rfl,cf (by rfl),bd (Ky ..),l,nt];cases h1:(verdict y o i==1) with
    |true=>
     exfalso;have a:=v1.1 (eq_of_beq h1) t d;rw[e] at a;unfold Eg at a;rw[g] at a;cases a
    |false=>
     rw[cf rfl];cases (verdict y o i==2) with
     |true=>rw[ct rfl];exact go
     |false=>rw[cf rfl];exact go
theorem ME(y:Ap)(n:Int)(h0:0≤n)(h1:n≤65535)(ws:List Int)(hw:W8 ws):∃K,Es K y n ws=some true:=by
 refine⟨2000,?_⟩;have hK:2000≤2000:=Nat.le_refl _;have e:=PK hK;unfold Es;rw[bd (RE hK y)];cases g:KL y with
 |false=>rw[nf,FR e]
 |true=>
  obtain⟨a,f⟩:=RF g;have hy:=FH a;obtain⟨t,h,ht⟩:=SN hK y hy n h0 h1;obtain⟨o,i,c⟩:=RH hK y hy ws hw;obtain⟨m,d,p⟩:=JT hy;obtain⟨s1,s2,q⟩:=Ig hy;have k:=QB hy;have l:=Lv hy (F7 y).2;obtain⟨j,_,_⟩:=Hd hy (F7 y).2;have r:=j t ht;have s:=MV hy (E2 y).2.2 ht;have b:=QY hK a c ht y.Ad.length 2000 0 (by omega) (by omega);rw[Int.natCast_zero] at b;rw[nt,bd h,bd (Ju hK a),bd (QD hK a),bd (Ju hK a),bd (QE hK a),cf (by rfl),cf (by rfl),bd (MX hK a d),nt,bd (MX hK a s2),nt,cf (df (by show¬(F7 y).1<0;omega)),cf (df (by show¬(E2 y).1<0;omega))];show(i64 ((F7 y).1+(E2 y).1)).bind _=_;rw[BD (by omega) (by omega),cf (df (by show¬(y.Ad.length:Int)<(F7 y).1+(E2 y).1;omega)),bd (Ju hK a),bd (K6 hK a d),bd (MD a ht),bd (L9 hK a d ht),bd (Ju hK a),bd (K6 hK a s2),bd (MD a ht),bd (L9 hK a s2 ht),bd (OP hK y _ f (HN ..)),bd (OP hK y _ f (HN ..)),cf (by rfl),cf (by rfl),nt,nt,cf (df (by show¬(F7 y).1<(Dd y (B1 y (F7 y).2 t):Int);omega))];show(i64 ((y.Ad.length:Int)-(Dd y (B1 y (E2 y).2.2 t):Int))).bind _=_;rw[BD (by omega) (by omega),cf (df (by show¬(y.Ad.length:Int)-(Dd y (B1 y (E2 y).2.2 t):Int)<(E2 y).1;omega)),bd i,bd (Ju hK a),bd (K6 hK a c),bd (MD a ht),bd (L9 hK a c ht),cf (by rfl),cf (by simp[HN]),bd b,Sum.elim_inr,FR e]
end Go.Proofs.YtkljfdkmjdjpfaaGreat
end
section
set_option linter.unusedVariables false
set_option linter.unusedSimpArgs false
namespace Go.Proofs.YtkljfdkmjdjpfaaGreat
open Go.RowKit Go.WideShapes
set_option maxRecDepth 20000
open HF
attribute [local irreducible] BI WL CC CW LV BL El DC One Bl
set_option maxHeartbeats 4000000 in
theorem a8(aL:Nat)(d:Ap)(gW:Int)(gK:List Int)(e:Option Addr)(f:Nat)(dT:Option Addr)(dU:Nat)(Z:Nat→Prop)(w:World)(g9:Sl AM w Z e f d.Ad)(hA:Sl (Az .u8) w Z dT dU gK)(a:Es aL d gW gK=some true):
 BL Tryz.prog 8 #[.agg #[I d.Ak,I d.Ai,I d.Ao,I d.Aw,.slice e d.Ad.length f],.int .u16 gW,.slice dT gK.length dU] w (fun v w'=>Ext w w'∧v=.bool true):=by
 unfold Es at a;refine A8 (N:=225) Tryz.func8 rfl rfl (by simp) ?_;intro kL hB kM;have iD:=AL (i:=0) (v:=.agg #[I d.Ak,I d.Ai,I d.Ao,I d.Aw,.slice e d.Ad.length f]) hB rfl;have iE:=AL (i:=1) (v:=.int .u16 gW) hB rfl;have iF:=AL (i:=2) (v:=.slice dT gK.length dU) hB rfl;clear hB;have hT:Hp FN [] w [] w:=Hp.start (BM.none w);have gL:=g9.mv (Bj (Z:=Z) (L:=[]) w);have gM:=hA.mv (Bj (Z:=Z) (L:=[]) w);refine Ae<|Ab<|we rfl (fun st=>B2 (v:=.agg #[I d.Ak,I d.Ai,I d.Ao,I d.Aw,.slice e d.Ad.length f]) (cs:= #[I d.Ak,I d.Ai,I d.Ao,I d.Aw,.slice e d.Ad.length f]) (ee st iD) rfl) ?_;rintro _ w1 ⟨o,rfl,eY⟩;have j4:=hT.nb eY;have kC:=hT.BK eY;refine wa rfl (v:=.bool false) rfl<|Af<|Aa<|Ae<|Ae<|Ab<|wd rfl (fun st=>Bb (l:=[I d.Ak,I d.Ai,I d.Ao,I d.Aw,.slice e d.Ad.length f]) D9 (ee st rfl) eY.bk rfl rfl) ?_;have eZ:=(gL.mv (Ay eY));replace a:=bind_some a;obtain⟨r2,j5,a⟩:=a;refine we rfl (fun st=>AI Uz (ee st rfl) (Cw (ee st rfl)) (Wh aL d e f ZA _ eZ.all r2 j5)) ?_;rintro _ k6 ⟨f9,rfl⟩;have gA:=j4.ext f9;refine wd rfl (fun st=>CV (ee st rfl))<|Af<|Aa ?_;rcases An (!r2) with dV|dV
 ·replace a:=AB a dV;have kD:r2=false:=by simpa using dV
  refine AA rfl dV<|Ae<|Ab ?_;replace a:=CY a;obtain⟨j6,a⟩:=a;refine we rfl (fun st=>AI QS (ee st rfl) IS (VA aL ZA _ j6)) ?_;rintro _ k7 ⟨j7,rfl⟩;have j8:=gA.ext j7;refine wa rfl (v:=.bool true) rfl<|Af<|Aa<|AF<|Av ?_;have fQ:=Option.some.inj a;refine AR rfl rfl ?_;exact⟨j8.Bu,congrArg Value.bool fQ⟩
 ·replace a:=AD a dV;have kE:r2=true:=by simpa using dV
  refine AH rfl dV<|AW<|Aa<|Ae<|Ab ?_;have gB:=(eY.bk.ext f9);refine wd rfl (fun st=>Bb (l:=[I d.Ak,I d.Ai,I d.Ao,I d.Aw,.slice e d.Ad.length f]) D9 (ee st rfl) gB rfl rfl)<|wm rfl (v:=.int .u16 gW) iE ?_;have e0:=(eZ.mv (Ah f9));replace a:=bind_some a;obtain⟨bK,j9,a⟩:=a;refine we rfl (fun st=>AI UA (ee st rfl) (Eo (ee st rfl) (ee st rfl)) (Wi aL d gW e f (ZZ FN [] Z w.heap.size [some o]) _ e0 bK j9)) ?_;rintro _ kN ⟨gC,⟨_,rfl,⟨aD,aE,aF,aG,rfl,cV,cW⟩⟩⟩;have hU:=gA.ext gC;have cV:=cV.mv (gA.CA (Nat.le_refl _));have cW:=cW.mv (gA.CA (Nat.le_refl _));refine we rfl (fun st=>BO (cs:= #[.slice none 0 0,.slice none 0 0]) K4 rfl) ?_;rintro _ kO ⟨j,rfl,bV⟩;have e1:=hU.nb bV;have kA:=hU.BK bV;refine Bo rfl rfl (fun st=>Bd (n:=2) (l:=[.slice aD bK.Comes.length aE,.slice aF bK.Ao.length aG]) (Cf:= #[.slice aD bK.Comes.length aE,.slice aF bK.Ao.length aG]) (ee st rfl) (ee st rfl) PO bV.bk rfl rfl (show 0+2≤2 by decide) (AQ rfl) rfl) ?_;rintro _ kP cA;have hV:=e1.gr cA.gr 0 rfl;refine Af<|Aa<|Ae<|Ab ?_;have gD:=(((gB.ext gC).ext bV.gr).gr cA.gr (e1.ne 1 0 rfl rfl rfl));refine wd rfl (fun st=>Bb (l:=[I d.Ak,I d.Ai,I d.Ao,I d.Aw,.slice e d.Ad.length f]) D9 (ee st rfl) gD rfl rfl) ?_;have e2:=(((e0.mv (Ah gC)).mv (Ay bV)).mv (e1.AT cA.gr 0 rfl));replace a:=bind_some a;obtain⟨hW,iG,a⟩:=a;refine we rfl (fun st=>AI Jt (ee st rfl) (Cw (ee st rfl)) (a31 aL d e f (ZZ FN [] Z w.heap.size [some j,some o]) _ e2 hW iG)) ?_;rintro _ kQ ⟨cB,⟨_,rfl,⟨gN,gO,rfl,cC⟩⟩⟩;have hX:=hV.ext cB;have cC:=cC.mv (hV.CA (Nat.le_refl _));replace a:=bind_some a;obtain⟨s,iH,a⟩:=a;refine we rfl (fun st=>AI QP (ee st rfl) (Cw (ee st rfl)) (Vx aL hW gN gO (ZZ FN [] Z w.heap.size [some j,some o]) _ cC s iH)) ?_;rintro _ kR ⟨cD,⟨_,_,_,rfl,⟨aZ,a0,rfl,cX⟩,rfl,rfl⟩⟩;have hY:=hX.ext cD;have cX:=cX.mv (hX.CA (Nat.le_refl _));refine wm rfl (v:=.tuple #[.slice aZ s.1.length a0,I s.2.1,I s.2.2]) rfl<|wd rfl (fun st=>Bw (v:=.slice aZ s.1.length a0) (ee st rfl) rfl)<|wd rfl (fun st=>Bw (v:=I s.2.1) (ee st rfl) rfl)<|wd rfl (fun st=>Bw (v:=I s.2.2) (ee st rfl) rfl)<|wa rfl (v:=.slice aZ s.1.length a0) rfl<|wa rfl (v:=I s.2.1) rfl<|wa rfl (v:=I s.2.2) rfl<|Af<|Aa<|Ae<|Ab ?_;have gE:=((gD.ext cB).ext cD);refine wd rfl (fun st=>Bb (l:=[I d.Ak,I d.Ai,I d.Ao,I d.Aw,.slice e d.Ad.length f]) D9 (ee st rfl) gE rfl rfl) ?_;have e3:=((e2.mv (Ah cB)).mv (Ah cD));replace a:=bind_some a;obtain⟨hZ,iI,a⟩:=a;refine we rfl (fun st=>AI Jt (ee st rfl) (Cw (ee st rfl)) (a31 aL d e f (ZZ FN [] Z w.heap.size [some j,some o]) _ e3 hZ iI)) ?_;rintro _ kS ⟨bW,⟨_,rfl,⟨gP,gQ,rfl,cE⟩⟩⟩;have h2:=hY.ext bW;have cE:=cE.mv (hY.CA (Nat.le_refl _));replace a:=bind_some a;obtain⟨x,iJ,a⟩:=a;refine we rfl (fun st=>AI QQ (ee st rfl) (Cw (ee st rfl)) (a51 aL hZ gP gQ (ZZ FN [] Z w.heap.size [some j,some o]) _ cE x iJ)) ?_;rintro _ kT ⟨bX,⟨_,_,_,rfl,⟨a2,a3,rfl,cY⟩,rfl,rfl⟩⟩;have iK:=h2.ext bX;have cY:=cY.mv (h2.CA (Nat.le_refl _));refine wm rfl (v:=.tuple #[.slice a2 x.1.length a3,I x.2.1,I x.2.2]) rfl<|wd rfl (fun st=>Bw (v:=.slice a2 x.1.length a3) (ee st rfl) rfl)<|wd rfl (fun st=>Bw (v:=I x.2.1) (ee st rfl) rfl)<|wd rfl (fun st=>Bw (v:=I x.2.2) (ee st rfl) rfl)<|wa rfl (v:=.slice a2 x.1.length a3) rfl<|wa rfl (v:=I x.2.1) rfl<|wa rfl (v:=I x.2.2) rfl<|Af<|Aa<|Ae<|Ae<|Ab<|wm rfl (v:=I s.2.2) rfl<|wd rfl (fun st=>EY (ee st rfl) (ee st rfl))<|wm rfl (v:=.bool (s.2.2 !=0)) rfl ?_;rcases An (s.2.2 !=0) with cZ|cZ
  ·replace a:=AB a cZ;exact absurd (Option.some.inj a) (by decide)
  ·replace a:=AD a cZ;refine Aq rfl rfl (Ac rfl cZ) rfl (by decide) (fun st=>AK (v:=I x.2.2) (ee st rfl))<|Aq rfl rfl (Ac rfl cZ) rfl (by decide) (fun st=>EY (ee st rfl) (ee st rfl))<|wd rfl (fun st=>Ba (v:=.bool (x.2.2 !=0)) (ee st rfl) cZ (ee st rfl))<|wm rfl (v:=.bool (x.2.2 !=0)) rfl ?_;rcases An (x.2.2 !=0) with bY|bY
   ·replace a:=AB a bY;exact absurd (Option.some.inj a) (by decide)
   ·replace a:=AD a bY;have fR:=((gE.ext bW).ext bX);refine Aq rfl rfl (Ac rfl bY) rfl (by decide) (fun st=>Bb (l:=[I d.Ak,I d.Ai,I d.Ao,I d.Aw,.slice e d.Ad.length f]) D9 (ee st rfl) fR rfl rfl)<|Aq rfl rfl (Ac rfl bY) rfl (by decide) (fun st=>AK (v:=.slice aZ s.1.length a0) (ee st rfl)) ?_;have dW:=((e3.mv (Ah bW)).mv (Ah bX));have cN:=((cX.mv (Ah bW)).mv (Ah bX));replace a:=bind_some a;obtain⟨fS,iL,a⟩:=a;refine Dp rfl rfl (Ac rfl bY) rfl (by decide) (fun st=>AI QT (ee st rfl) (Eo (ee st rfl) (ee st rfl)) (Vy aL d s.1 e f aZ a0 ZA _ dW.all cN.all fS iL)) ?_;rintro _ kU ⟨bL,rfl⟩;have iM:=iK.ext bL;refine Aq rfl rfl (Ac rfl bY) rfl (by decide) (fun st=>CV (ee st rfl))<|wd rfl (fun st=>Ba (v:=.bool !fS) (ee st rfl) bY (ee st rfl))<|wm rfl (v:=.bool !fS) rfl ?_;rcases An (!fS) with bM|bM
    ·replace a:=AB a bM;exact absurd (Option.some.inj a) (by decide)
    ·replace a:=AD a bM;have jX:fS=true:=by simpa using bM
     have fT:=(fR.ext bL);refine Aq rfl rfl (Ac rfl bM) rfl (by decide) (fun st=>Bb (l:=[I d.Ak,I d.Ai,I d.Ao,I d.Aw,.slice e d.Ad.length f]) D9 (ee st rfl) fT rfl rfl)<|Aq rfl rfl (Ac rfl bM) rfl (by decide) (fun st=>AK (v:=.slice a2 x.1.length a3) (ee st rfl)) ?_;have dX:=(dW.mv (Ah bL));have cO:=(cY.mv (Ah bL));replace a:=bind_some a;obtain⟨fU,iN,a⟩:=a;refine Dp rfl rfl (Ac rfl bM) rfl (by decide) (fun st=>AI QT (ee st rfl) (Eo (ee st rfl) (ee st rfl)) (Vy aL d x.1 e f a2 a3 ZA _ dX.all cO.all fU iN)) ?_;rintro _ kV ⟨bN,rfl⟩;have dY:=iM.ext bN;refine Aq rfl rfl (Ac rfl bM) rfl (by decide) (fun st=>CV (ee st rfl))<|wd rfl (fun st=>Ba (v:=.bool !fU) (ee st rfl) bM (ee st rfl))<|wm rfl (v:=.bool !fU) rfl ?_;rcases An (!fU) with cF|cF
     ·replace a:=AB a cF;exact absurd (Option.some.inj a) (by decide)
     ·replace a:=AD a cF;have jY:fU=true:=by simpa using cF
      refine Aq rfl rfl (Ac rfl cF) rfl (by decide) (fun st=>AK (v:=I s.2.1) (ee st rfl))<|Aq rfl rfl (Ac rfl cF) rfl (by decide) (fun st=>Ct (ee st rfl) (ee st rfl))<|wd rfl (fun st=>Ba (v:=.bool (decide (s.2.1<0))) (ee st rfl) cF (ee st rfl))<|wm rfl (v:=.bool (decide (s.2.1<0))) rfl ?_;rcases An (decide (s.2.1<0)) with c0|c0
      ·replace a:=AB a c0;exact absurd (Option.some.inj a) (by decide)
      ·replace a:=AD a c0;refine Aq rfl rfl (Ac rfl c0) rfl (by decide) (fun st=>AK (v:=I x.2.1) (ee st rfl))<|Aq rfl rfl (Ac rfl c0) rfl (by decide) (fun st=>Ct (ee st rfl) (ee st rfl))<|wd rfl (fun st=>Ba (v:=.bool (decide (x.2.1<0))) (ee st rfl) c0 (ee st rfl))<|wm rfl (v:=.bool (decide (x.2.1<0))) rfl ?_;rcases An (decide (x.2.1<0)) with a4|a4
       ·replace a:=AB a a4;exact absurd (Option.some.inj a) (by decide)
       ·replace a:=AD a a4;refine Aq rfl rfl (Ac rfl a4) rfl (by decide) (fun st=>AK (v:=I s.2.1) (ee st rfl))<|Aq rfl rfl (Ac rfl a4) rfl (by decide) (fun st=>AK (v:=I x.2.1) (ee st rfl)) ?_;replace a:=AU a;obtain⟨iO,a⟩:=a;refine Aq rfl rfl (Ac rfl a4) rfl (by decide) (fun st=>Bx (ee st rfl) (ee st rfl) iO)<|Aq rfl rfl (Ac rfl a4) rfl (by decide) (fun st=>Am (ee st rfl) (Eb _ _)) ?_;have dZ:=(fT.ext bN);refine Aq rfl rfl (Ac rfl a4) rfl (by decide) (fun st=>Au (v:=.slice e d.Ad.length f) EX (ee st rfl) dZ rfl)<|Aq rfl rfl (Ac rfl a4) rfl (by decide) (fun st=>BH Tryz.underlying61 (ee st rfl))<|Aq rfl rfl (Ac rfl a4) rfl (by decide) (fun st=>FP (ee st rfl) (ee st rfl))<|wd rfl (fun st=>Ba (v:=.bool (decide ((d.Ad.length:Int)<(s.2.1+x.2.1)))) (ee st rfl) a4 (ee st rfl))<|Af<|Aa ?_;rcases An (decide ((d.Ad.length:Int)<(s.2.1+x.2.1))) with fA|fA
        ·replace a:=AB a fA;exact absurd (Option.some.inj a) (by decide)
        ·replace a:=AD a fA;refine AH rfl fA<|AW<|Aa<|Ae ?_;have d0:=(dX.mv (Ah bN));replace a:=bind_some a;obtain⟨dQ,iP,a⟩:=a;have fB:=((cN.mv (Ah bL)).mv (Ah bN));replace a:=bind_some a;obtain⟨gF,iQ,a⟩:=a;have e4:=((((((cA.bk.ext cB).ext cD).ext bW).ext bX).ext bL).ext bN);have cP:=((((((((cV.mv (Ay bV)).mv (e1.AT cA.gr 0 rfl)).mv (Ah cB)).mv (Ah cD)).mv (Ah bW)).mv (Ah bX)).mv (Ah bL)).mv (Ah bN));have cQ:=((((((((cW.mv (Ay bV)).mv (e1.AT cA.gr 0 rfl)).mv (Ah cB)).mv (Ah cD)).mv (Ah bW)).mv (Ah bX)).mv (Ah bL)).mv (Ah bN));replace a:=bind_some a;obtain⟨fV,iR,a⟩:=a;replace a:=bind_some a;obtain⟨a5,iS,a⟩:=a;refine CB 11 [Kc (.agg #[I d.Ak,I d.Ai,I d.Ao,I d.Aw,.slice e d.Ad.length f]),Kv (CS GG) (ZZ FN [] Z w.heap.size [some j,some o]) dQ,Kc (.slice aZ s.1.length a0),Kv (DT (BA (Az .i64))) (ZZ FN [] Z w.heap.size [some j,some o]) gF,Kc (.agg #[.slice aD bK.Comes.length aE,.slice aF bK.Ao.length aG]),Kv (CS Ea) (ZZ FN [] Z w.heap.size [some j,some o]) fV,Kv (Ix (DT BS) (Em .i64)) (ZZ FN [] Z w.heap.size [some j,some o]) a5,Kv (Ix (DT BS) (Em .i64)) (ZZ FN [] Z w.heap.size [some j,some o]) a5,Kv (DT BS) (ZZ FN [] Z w.heap.size [some j,some o]) a5.1,Kc (I a5.2),Kv (DT BS) (ZZ FN [] Z w.heap.size [some j,some o]) a5.1] mixed rfl rfl
             (Ag (od rfl (fun _=>rfl) (fun K=>Bb (l:=[I d.Ak,I d.Ai,I d.Ao,I d.Aw,.slice e d.Ad.length f]) D9 (es ((K.out 3 rfl).trans rfl)) (dZ.ext K.Bi) rfl rfl))
             (Ag (CK rfl rfl (fun a' w' ph K=>(AI Jt rfl (Cw (es (K.Ax 0 86 rfl rfl))) (a31 aL d e f (ZZ FN [] Z w.heap.size [some j,some o]) _ (d0.mv (Ah K.Bi)) dQ iP)).mono (fun _ _ h=>⟨(CS GG).mv h.2 ((dY.ext K.Bi).CA (Nat.le_refl _)),h.1⟩)))
             (Ag (od rfl (fun _=>rfl) (fun K=>AK (es ((K.out 8 rfl).trans rfl))))
             (Ag (CK rfl rfl (fun a' w' ph K=>(AI Mb rfl (Cw (es (K.Ax 2 88 rfl rfl))) (Sb aL s.1 aZ a0 (ZZ FN [] Z w.heap.size [some j,some o]) _ (fB.mv (Ah K.Bi)) gF iQ)).mono (fun _ _ h=>⟨(DT (BA (Az .i64))).mv h.2 ((dY.ext K.Bi).CA (Nat.le_refl _)),h.1⟩)))
             (Ag (od rfl (fun _=>rfl) (fun K=>Bb (l:=[.slice aD bK.Comes.length aE,.slice aF bK.Ao.length aG]) Js (es ((K.out 7 rfl).trans rfl)) (e4.ext K.Bi) rfl rfl))
             (Ag (CK rfl rfl (fun a' w' ph K=>(AI Oe rfl (Cw (es (K.Ax 4 90 rfl rfl))) (UJ aL bK aD aE aF aG (ZZ FN [] Z w.heap.size [some j,some o]) _ (cP.mv (Ah K.Bi)) (cQ.mv (Ah K.Bi)) fV iR)).mono (fun _ _ h=>⟨(CS Ea).mv h.2 ((dY.ext K.Bi).CA (Nat.le_refl _)),h.1⟩)))
             (Ag (CK rfl rfl (fun a' w' ph K=>match K.Ax 3 89 rfl rfl with|⟨d1,d2,hC,e5⟩=>by obtain⟨_,hD,⟨c1,c2,rfl,d3⟩⟩:=K.Ax 1 87 rfl rfl;obtain⟨_,hE,⟨c3,c4,c5,c6,rfl,d4,d5⟩⟩:=K.Ax 5 91 rfl rfl;exact(AI KP rfl (E3 (es (t:=87) (v:=.agg #[I dQ.Ak,I dQ.Ai,I dQ.Ao,I dQ.Aw,.slice c1 dQ.Ad.length c2]) hD) (es (t:=89) (v:=.slice d1 gF.length d2) hC) (es (t:=91) (v:=.agg #[.slice c3 fV.Comes.length c4,.slice c5 fV.Ao.length c6]) hE)) (QW aL dQ gF fV c1 c2 d1 d2 c3 c4 c5 c6 (ZZ FN [] Z w.heap.size [some j,some o]) _ d3 e5 d4 d5 a5 iS)).mono (fun _ _ h=>⟨(Ix (DT BS) (Em .i64)).mv h.2 ((dY.ext K.Bi).CA (Nat.le_refl _)),h.1⟩)))
             (Ag (CK rfl rfl (fun a' w' ph K=>(AK (v:=sl a' 92) rfl).mono (fun u Bf ⟨hu,hw⟩=>by subst hu;subst hw;exact⟨K.Ax 6 92 rfl rfl,Ext.refl _⟩)))
             (Ag (CK rfl rfl (fun a' w' ph K=>by obtain⟨_,_,fC,⟨a6,a7,rfl,b5⟩,rfl⟩:=K.Ax 7 85 rfl rfl;exact(Bw (v:=.slice a6 a5.1.length a7) (es (t:=85) (v:=.tuple #[.slice a6 a5.1.length a7,I a5.2]) fC) rfl).mono (fun u Bf ⟨hu,hw⟩=>by subst hu;subst hw;exact⟨⟨a6,a7,rfl,b5⟩,Ext.refl _⟩)))
             (Ag (od rfl (fun _=>rfl) (fun K=>by obtain⟨_,_,fC,⟨a6,a7,rfl,b5⟩,rfl⟩:=K.Ax 7 85 rfl rfl;exact Bw (es (t:=85) fC) rfl))
             (Ag (CK rfl rfl (fun a' w' ph K=>(HP (v:=sl a' 93) rfl).mono (fun u Bf ⟨hu,hw⟩=>by subst hu;subst hw;exact⟨K.Ax 8 93 rfl rfl,Ext.refl _⟩)))
             (B5 _)))))))))))) ?_
         intro kW;rintro _ rfl _ ⟨_,rfl,⟨c1,c2,rfl,d3⟩⟩ _ rfl _ ⟨d1,d2,rfl,e5⟩ _ rfl _ ⟨_,rfl,⟨c3,c4,c5,c6,rfl,d4,d5⟩⟩ _ _ _ _ _ _ _ rfl _ ⟨a6,a7,rfl,b5⟩ bZ;have d6:=dY.ext bZ;refine wa rfl (v:=I a5.2) rfl<|Af<|Aa<|Ae ?_;have fW:=(dZ.ext bZ);have d7:=(d0.mv (Ah bZ));replace a:=bind_some a;obtain⟨dR,iT,a⟩:=a;have fD:=((cO.mv (Ah bN)).mv (Ah bZ));replace a:=bind_some a;obtain⟨gG,iU,a⟩:=a;have e6:=(e4.ext bZ);have cR:=(cP.mv (Ah bZ));have cS:=(cQ.mv (Ah bZ));replace a:=bind_some a;obtain⟨fX,iV,a⟩:=a;replace a:=bind_some a;obtain⟨aU,iW,a⟩:=a;refine CB 11 [Kc (.agg #[I d.Ak,I d.Ai,I d.Ao,I d.Aw,.slice e d.Ad.length f]),Kv (CS GG) (ZZ FN [] Z w.heap.size [some j,some o]) dR,Kc (.slice a2 x.1.length a3),Kv (DT (BA (Az .i64))) (ZZ FN [] Z w.heap.size [some j,some o]) gG,Kc (.agg #[.slice aD bK.Comes.length aE,.slice aF bK.Ao.length aG]),Kv (CS Ea) (ZZ FN [] Z w.heap.size [some j,some o]) fX,Kv (Ix (DT BS) (Em .i64)) (ZZ FN [] Z w.heap.size [some j,some o]) aU,Kv (Ix (DT BS) (Em .i64)) (ZZ FN [] Z w.heap.size [some j,some o]) aU,Kv (DT BS) (ZZ FN [] Z w.heap.size [some j,some o]) aU.1,Kc (I aU.2),Kv (DT BS) (ZZ FN [] Z w.heap.size [some j,some o]) aU.1] mixed rfl rfl
             (Ag (od rfl (fun _=>rfl) (fun K=>Bb (l:=[I d.Ak,I d.Ai,I d.Ao,I d.Aw,.slice e d.Ad.length f]) D9 (es ((K.out 3 rfl).trans rfl)) (fW.ext K.Bi) rfl rfl))
             (Ag (CK rfl rfl (fun a' w' ph K=>(AI Jt rfl (Cw (es (K.Ax 0 96 rfl rfl))) (a31 aL d e f (ZZ FN [] Z w.heap.size [some j,some o]) _ (d7.mv (Ah K.Bi)) dR iT)).mono (fun _ _ h=>⟨(CS GG).mv h.2 ((d6.ext K.Bi).CA (Nat.le_refl _)),h.1⟩)))
             (Ag (od rfl (fun _=>rfl) (fun K=>AK (es ((K.out 11 rfl).trans rfl))))
             (Ag (CK rfl rfl (fun a' w' ph K=>(AI Mb rfl (Cw (es (K.Ax 2 98 rfl rfl))) (Sb aL x.1 a2 a3 (ZZ FN [] Z w.heap.size [some j,some o]) _ (fD.mv (Ah K.Bi)) gG iU)).mono (fun _ _ h=>⟨(DT (BA (Az .i64))).mv h.2 ((d6.ext K.Bi).CA (Nat.le_refl _)),h.1⟩)))
             (Ag (od rfl (fun _=>rfl) (fun K=>Bb (l:=[.slice aD bK.Comes.length aE,.slice aF bK.Ao.length aG]) Js (es ((K.out 7 rfl).trans rfl)) (e6.ext K.Bi) rfl rfl))
             (Ag (CK rfl rfl (fun a' w' ph K=>(AI Oe rfl (Cw (es (K.Ax 4 100 rfl rfl))) (UJ aL bK aD aE aF aG (ZZ FN [] Z w.heap.size [some j,some o]) _ (cR.mv (Ah K.Bi)) (cS.mv (Ah K.Bi)) fX iV)).mono (fun _ _ h=>⟨(CS Ea).mv h.2 ((d6.ext K.Bi).CA (Nat.le_refl _)),h.1⟩)))
             (Ag (CK rfl rfl (fun a' w' ph K=>match K.Ax 3 99 rfl rfl with|⟨d8,d9,hF,e7⟩=>by obtain⟨_,hG,⟨c7,c8,rfl,eA⟩⟩:=K.Ax 1 97 rfl rfl;obtain⟨_,hH,⟨c9,dA,dB,dC,rfl,eB,eC⟩⟩:=K.Ax 5 101 rfl rfl;exact(AI KP rfl (E3 (es (t:=97) (v:=.agg #[I dR.Ak,I dR.Ai,I dR.Ao,I dR.Aw,.slice c7 dR.Ad.length c8]) hG) (es (t:=99) (v:=.slice d8 gG.length d9) hF) (es (t:=101) (v:=.agg #[.slice c9 fX.Comes.length dA,.slice dB fX.Ao.length dC]) hH)) (QW aL dR gG fX c7 c8 d8 d9 c9 dA dB dC (ZZ FN [] Z w.heap.size [some j,some o]) _ eA e7 eB eC aU iW)).mono (fun _ _ h=>⟨(Ix (DT BS) (Em .i64)).mv h.2 ((d6.ext K.Bi).CA (Nat.le_refl _)),h.1⟩)))
             (Ag (CK rfl rfl (fun a' w' ph K=>(AK (v:=sl a' 102) rfl).mono (fun u Bf ⟨hu,hw⟩=>by subst hu;subst hw;exact⟨K.Ax 6 102 rfl rfl,Ext.refl _⟩)))
             (Ag (CK rfl rfl (fun a' w' ph K=>by obtain⟨_,_,fE,⟨a9,bA,rfl,b6⟩,rfl⟩:=K.Ax 7 95 rfl rfl;exact(Bw (v:=.slice a9 aU.1.length bA) (es (t:=95) (v:=.tuple #[.slice a9 aU.1.length bA,I aU.2]) fE) rfl).mono (fun u Bf ⟨hu,hw⟩=>by subst hu;subst hw;exact⟨⟨a9,bA,rfl,b6⟩,Ext.refl _⟩)))
             (Ag (od rfl (fun _=>rfl) (fun K=>by obtain⟨_,_,fE,⟨a9,bA,rfl,b6⟩,rfl⟩:=K.Ax 7 95 rfl rfl;exact Bw (es (t:=95) fE) rfl))
             (Ag (CK rfl rfl (fun a' w' ph K=>(HP (v:=sl a' 103) rfl).mono (fun u Bf ⟨hu,hw⟩=>by subst hu;subst hw;exact⟨K.Ax 8 103 rfl rfl,Ext.refl _⟩)))
             (B5 _)))))))))))) ?_
         intro kX;rintro _ rfl _ ⟨_,rfl,⟨c7,c8,rfl,eA⟩⟩ _ rfl _ ⟨d8,d9,rfl,e7⟩ _ rfl _ ⟨_,rfl,⟨c9,dA,dB,dC,rfl,eB,eC⟩⟩ _ _ _ _ _ _ _ rfl _ ⟨a9,bA,rfl,b6⟩ b1;have iX:=d6.ext b1;refine wa rfl (v:=I aU.2) rfl<|Af<|Aa<|Ae<|Ab ?_;have fY:=(fW.ext b1);refine wd rfl (fun st=>Bb (l:=[I d.Ak,I d.Ai,I d.Ao,I d.Aw,.slice e d.Ad.length f]) D9 (ee st rfl) fY rfl rfl)<|wm rfl (v:=.slice a6 a5.1.length a7) rfl ?_;have eD:=(d7.mv (Ah b1));have fF:=(b5.mv (Ah b1));replace a:=bind_some a;obtain⟨aV,iY,a⟩:=a;refine we rfl (fun st=>AI QU (ee st rfl) (Eo (ee st rfl) (ee st rfl)) (Vz aL d a5.1 e f a6 a7 ZA _ eD.all fF.all aV iY)) ?_;rintro _ kY ⟨b2,⟨_,_,rfl,rfl,rfl⟩⟩;have iZ:=iX.ext b2;refine wm rfl (v:=.tuple #[I aV.1,.bool aV.2]) rfl<|wd rfl (fun st=>Bw (v:=I aV.1) (ee st rfl) rfl)<|wd rfl (fun st=>Bw (v:=.bool aV.2) (ee st rfl) rfl)<|wa rfl (v:=I aV.1) rfl<|wa rfl (v:=.bool aV.2) rfl<|Af<|Aa<|Ae<|Ab ?_;have fZ:=(fY.ext b2);refine wd rfl (fun st=>Bb (l:=[I d.Ak,I d.Ai,I d.Ao,I d.Aw,.slice e d.Ad.length f]) D9 (ee st rfl) fZ rfl rfl)<|wm rfl (v:=.slice a9 aU.1.length bA) rfl ?_;have eE:=(eD.mv (Ah b2));have fG:=(b6.mv (Ah b2));replace a:=bind_some a;obtain⟨bB,i0,a⟩:=a;refine we rfl (fun st=>AI QU (ee st rfl) (Eo (ee st rfl) (ee st rfl)) (Vz aL d aU.1 e f a9 bA ZA _ eE.all fG.all bB i0)) ?_;rintro _ kZ ⟨cG,⟨_,_,rfl,rfl,rfl⟩⟩;have gX:=iZ.ext cG;refine wm rfl (v:=.tuple #[I bB.1,.bool bB.2]) rfl<|wd rfl (fun st=>Bw (v:=I bB.1) (ee st rfl) rfl)<|wd rfl (fun st=>Bw (v:=.bool bB.2) (ee st rfl) rfl)<|wa rfl (v:=I bB.1) rfl<|wa rfl (v:=.bool bB.2) rfl<|Af<|Aa<|Ae<|Ae<|Ab<|wm rfl (v:=I a5.2) rfl<|wd rfl (fun st=>EY (ee st rfl) (ee st rfl))<|wm rfl (v:=.bool (a5.2 !=0)) rfl ?_;rcases An (a5.2 !=0) with dD|dD
         ·replace a:=AB a dD;exact absurd (Option.some.inj a) (by decide)
         ·replace a:=AD a dD;refine Aq rfl rfl (Ac rfl dD) rfl (by decide) (fun st=>AK (v:=I aU.2) (ee st rfl))<|Aq rfl rfl (Ac rfl dD) rfl (by decide) (fun st=>EY (ee st rfl) (ee st rfl))<|wd rfl (fun st=>Ba (v:=.bool (aU.2 !=0)) (ee st rfl) dD (ee st rfl))<|wm rfl (v:=.bool (aU.2 !=0)) rfl ?_;rcases An (aU.2 !=0) with dE|dE
          ·replace a:=AB a dE;exact absurd (Option.some.inj a) (by decide)
          ·replace a:=AD a dE;refine Aq rfl rfl (Ac rfl dE) rfl (by decide) (fun st=>AK (v:=.bool aV.2) (ee st rfl))<|Aq rfl rfl (Ac rfl dE) rfl (by decide) (fun st=>CV (ee st rfl))<|wd rfl (fun st=>Ba (v:=.bool !aV.2) (ee st rfl) dE (ee st rfl))<|wm rfl (v:=.bool !aV.2) rfl ?_;rcases An (!aV.2) with cH|cH
           ·replace a:=AB a cH;exact absurd (Option.some.inj a) (by decide)
           ·replace a:=AD a cH;have jZ:aV.2=true:=by simpa using cH
            refine Aq rfl rfl (Ac rfl cH) rfl (by decide) (fun st=>AK (v:=.bool bB.2) (ee st rfl))<|Aq rfl rfl (Ac rfl cH) rfl (by decide) (fun st=>CV (ee st rfl))<|wd rfl (fun st=>Ba (v:=.bool !bB.2) (ee st rfl) cH (ee st rfl))<|wm rfl (v:=.bool !bB.2) rfl ?_;rcases An (!bB.2) with b3|b3
            ·replace a:=AB a b3;exact absurd (Option.some.inj a) (by decide)
            ·replace a:=AD a b3;have j0:bB.2=true:=by simpa using b3
             refine Aq rfl rfl (Ac rfl b3) rfl (by decide) (fun st=>AK (v:=I aV.1) (ee st rfl))<|Aq rfl rfl (Ac rfl b3) rfl (by decide) (fun st=>AK (v:=I s.2.1) (ee st rfl))<|Aq rfl rfl (Ac rfl b3) rfl (by decide) (fun st=>FP (ee st rfl) (ee st rfl))<|wd rfl (fun st=>Ba (v:=.bool (decide (s.2.1<aV.1))) (ee st rfl) b3 (ee st rfl))<|wm rfl (v:=.bool (decide (s.2.1<aV.1))) rfl ?_;rcases An (decide (s.2.1<aV.1)) with bC|bC
             ·replace a:=AB a bC;exact absurd (Option.some.inj a) (by decide)
             ·replace a:=AD a bC;refine Aq rfl rfl (Ac rfl bC) rfl (by decide) (fun st=>Am (ee st rfl) (Eb _ _)) ?_;have eG:=(fZ.ext cG);refine Aq rfl rfl (Ac rfl bC) rfl (by decide) (fun st=>Au (v:=.slice e d.Ad.length f) EX (ee st rfl) eG rfl)<|Aq rfl rfl (Ac rfl bC) rfl (by decide) (fun st=>BH Tryz.underlying61 (ee st rfl))<|Aq rfl rfl (Ac rfl bC) rfl (by decide) (fun st=>AK (v:=I bB.1) (ee st rfl)) ?_;replace a:=AU a;obtain⟨i1,a⟩:=a;refine Aq rfl rfl (Ac rfl bC) rfl (by decide) (fun st=>KQ (ee st rfl) (ee st rfl) i1)<|Aq rfl rfl (Ac rfl bC) rfl (by decide) (fun st=>AK (v:=I x.2.1) (ee st rfl))<|Aq rfl rfl (Ac rfl bC) rfl (by decide) (fun st=>Ct (ee st rfl) (ee st rfl))<|wd rfl (fun st=>Ba (v:=.bool (decide (((d.Ad.length:Int)-bB.1)<x.2.1))) (ee st rfl) bC (ee st rfl))<|Af<|Aa ?_;rcases An (decide (((d.Ad.length:Int)-bB.1)<x.2.1)) with fH|fH
              ·replace a:=AB a fH;exact absurd (Option.some.inj a) (by decide)
              ·replace a:=AD a fH;refine AH rfl fH<|AW<|Aa<|Ae<|Ab<|wd rfl (fun st=>Bb (l:=[I d.Ak,I d.Ai,I d.Ao,I d.Aw,.slice e d.Ad.length f]) D9 (ee st rfl) eG rfl rfl)<|wm rfl (v:=.slice dT gK.length dU) iF ?_;have eH:=(eE.mv (Ah cG));have f5:=(((((((((((((((gM.mv (Ay eY)).mv (Ah f9)).mv (Ah gC)).mv (Ay bV)).mv (e1.AT cA.gr 0 rfl)).mv (Ah cB)).mv (Ah cD)).mv (Ah bW)).mv (Ah bX)).mv (Ah bL)).mv (Ah bN)).mv (Ah bZ)).mv (Ah b1)).mv (Ah b2)).mv (Ah cG));replace a:=bind_some a;obtain⟨cT,i2,a⟩:=a;refine we rfl (fun st=>AI UB (ee st rfl) (Eo (ee st rfl) (ee st rfl)) (a59 aL d gK e f dT dU (ZZ FN [] Z w.heap.size [some j,some o]) _ eH f5 cT i2)) ?_;rintro _ k0 ⟨dF,⟨bD,bE,rfl,b7⟩⟩;have eI:=gX.ext dF;have b7:=b7.mv (gX.CA (Nat.le_refl _));refine wa rfl (v:=.slice bD cT.length bE) rfl<|Af<|Aa<|Ae ?_;have f0:=(eG.ext dF);have eJ:=(eH.mv (Ah dF));replace a:=bind_some a;obtain⟨dS,i3,a⟩:=a;replace a:=bind_some a;obtain⟨gH,i4,a⟩:=a;have gR:=((((e6.ext b1).ext b2).ext cG).ext dF);have fI:=((((cR.mv (Ah b1)).mv (Ah b2)).mv (Ah cG)).mv (Ah dF));have fJ:=((((cS.mv (Ah b1)).mv (Ah b2)).mv (Ah cG)).mv (Ah dF));replace a:=bind_some a;obtain⟨f1,i5,a⟩:=a;replace a:=bind_some a;obtain⟨aC,i6,a⟩:=a;refine CB 11 [Kc (.agg #[I d.Ak,I d.Ai,I d.Ao,I d.Aw,.slice e d.Ad.length f]),Kv (CS GG) (ZZ FN [] Z w.heap.size [some j,some o]) dS,Kc (.slice bD cT.length bE),Kv (DT (BA (Az .i64))) (ZZ FN [] Z w.heap.size [some j,some o]) gH,Kc (.agg #[.slice aD bK.Comes.length aE,.slice aF bK.Ao.length aG]),Kv (CS Ea) (ZZ FN [] Z w.heap.size [some j,some o]) f1,Kv (Ix (DT BS) (Em .i64)) (ZZ FN [] Z w.heap.size [some j,some o]) aC,Kv (Ix (DT BS) (Em .i64)) (ZZ FN [] Z w.heap.size [some j,some o]) aC,Kv (DT BS) (ZZ FN [] Z w.heap.size [some j,some o]) aC.1,Kc (I aC.2),Kv (DT BS) (ZZ FN [] Z w.heap.size [some j,some o]) aC.1] mixed rfl rfl
                   (Ag (od rfl (fun _=>rfl) (fun K=>Bb (l:=[I d.Ak,I d.Ai,I d.Ao,I d.Aw,.slice e d.Ad.length f]) D9 (es ((K.out 3 rfl).trans rfl)) (f0.ext K.Bi) rfl rfl))
                   (Ag (CK rfl rfl (fun a' w' ph K=>(AI Jt rfl (Cw (es (K.Ax 0 149 rfl rfl))) (a31 aL d e f (ZZ FN [] Z w.heap.size [some j,some o]) _ (eJ.mv (Ah K.Bi)) dS i3)).mono (fun _ _ h=>⟨(CS GG).mv h.2 ((eI.ext K.Bi).CA (Nat.le_refl _)),h.1⟩)))
                   (Ag (od rfl (fun _=>rfl) (fun K=>AK (es ((K.out 22 rfl).trans rfl))))
                   (Ag (CK rfl rfl (fun a' w' ph K=>(AI Mb rfl (Cw (es (K.Ax 2 151 rfl rfl))) (Sb aL cT bD bE (ZZ FN [] Z w.heap.size [some j,some o]) _ (b7.mv (Ah K.Bi)) gH i4)).mono (fun _ _ h=>⟨(DT (BA (Az .i64))).mv h.2 ((eI.ext K.Bi).CA (Nat.le_refl _)),h.1⟩)))
                   (Ag (od rfl (fun _=>rfl) (fun K=>Bb (l:=[.slice aD bK.Comes.length aE,.slice aF bK.Ao.length aG]) Js (es ((K.out 7 rfl).trans rfl)) (gR.ext K.Bi) rfl rfl))
                   (Ag (CK rfl rfl (fun a' w' ph K=>(AI Oe rfl (Cw (es (K.Ax 4 153 rfl rfl))) (UJ aL bK aD aE aF aG (ZZ FN [] Z w.heap.size [some j,some o]) _ (fI.mv (Ah K.Bi)) (fJ.mv (Ah K.Bi)) f1 i5)).mono (fun _ _ h=>⟨(CS Ea).mv h.2 ((eI.ext K.Bi).CA (Nat.le_refl _)),h.1⟩)))
                   (Ag (CK rfl rfl (fun a' w' ph K=>match K.Ax 3 152 rfl rfl with|⟨eK,eL,hI,e8⟩=>by obtain⟨_,hJ,⟨dG,dH,rfl,eM⟩⟩:=K.Ax 1 150 rfl rfl;obtain⟨_,hL,⟨dI,dJ,dK,dL,rfl,eN,eO⟩⟩:=K.Ax 5 154 rfl rfl;exact(AI KP rfl (E3 (es (t:=150) (v:=.agg #[I dS.Ak,I dS.Ai,I dS.Ao,I dS.Aw,.slice dG dS.Ad.length dH]) hJ) (es (t:=152) (v:=.slice eK gH.length eL) hI) (es (t:=154) (v:=.agg #[.slice dI f1.Comes.length dJ,.slice dK f1.Ao.length dL]) hL)) (QW aL dS gH f1 dG dH eK eL dI dJ dK dL (ZZ FN [] Z w.heap.size [some j,some o]) _ eM e8 eN eO aC i6)).mono (fun _ _ h=>⟨(Ix (DT BS) (Em .i64)).mv h.2 ((eI.ext K.Bi).CA (Nat.le_refl _)),h.1⟩)))
                   (Ag (CK rfl rfl (fun a' w' ph K=>(AK (v:=sl a' 155) rfl).mono (fun u Bf ⟨hu,hw⟩=>by subst hu;subst hw;exact⟨K.Ax 6 155 rfl rfl,Ext.refl _⟩)))
                   (Ag (CK rfl rfl (fun a' w' ph K=>by obtain⟨_,_,fK,⟨aA,aB,rfl,b8⟩,rfl⟩:=K.Ax 7 148 rfl rfl;exact(Bw (v:=.slice aA aC.1.length aB) (es (t:=148) (v:=.tuple #[.slice aA aC.1.length aB,I aC.2]) fK) rfl).mono (fun u Bf ⟨hu,hw⟩=>by subst hu;subst hw;exact⟨⟨aA,aB,rfl,b8⟩,Ext.refl _⟩)))
                   (Ag (od rfl (fun _=>rfl) (fun K=>by obtain⟨_,_,fK,⟨aA,aB,rfl,b8⟩,rfl⟩:=K.Ax 7 148 rfl rfl;exact Bw (es (t:=148) fK) rfl))
                   (Ag (CK rfl rfl (fun a' w' ph K=>(HP (v:=sl a' 156) rfl).mono (fun u Bf ⟨hu,hw⟩=>by subst hu;subst hw;exact⟨K.Ax 8 156 rfl rfl,Ext.refl _⟩)))
                   (B5 _)))))))))))) ?_
               intro k1;rintro _ rfl _ ⟨_,rfl,⟨dG,dH,rfl,eM⟩⟩ _ rfl _ ⟨eK,eL,rfl,e8⟩ _ rfl _ ⟨_,rfl,⟨dI,dJ,dK,dL,rfl,eN,eO⟩⟩ _ _ _ _ _ _ _ rfl _ ⟨aA,aB,rfl,b8⟩ fL;have i7:=eI.ext fL;refine wa rfl (v:=I aC.2) rfl<|Af<|Aa<|Ae<|Ae<|Ab<|wm rfl (v:=I aC.2) rfl<|wd rfl (fun st=>EY (ee st rfl) (ee st rfl))<|wm rfl (v:=.bool (aC.2 !=0)) rfl ?_;rcases An (aC.2 !=0) with bJ|bJ
               ·replace a:=AB a bJ;exact absurd (Option.some.inj a) (by decide)
               ·replace a:=AD a bJ;refine Aq rfl rfl (Ac rfl bJ) rfl (by decide) (fun st=>AK (v:=.slice aA aC.1.length aB) (ee st rfl))<|Aq rfl rfl (Ac rfl bJ) rfl (by decide) (fun st=>BH Tryz.underlying70 (ee st rfl))<|Aq rfl rfl (Ac rfl bJ) rfl (by decide) (fun st=>Am (ee st rfl) (Eb _ _)) ?_;have f2:=(f0.ext fL);refine Aq rfl rfl (Ac rfl bJ) rfl (by decide) (fun st=>Au (v:=.slice e d.Ad.length f) EX (ee st rfl) f2 rfl)<|Aq rfl rfl (Ac rfl bJ) rfl (by decide) (fun st=>BH Tryz.underlying61 (ee st rfl))<|Aq rfl rfl (Ac rfl bJ) rfl (by decide) (fun st=>EY (ee st rfl) (ee st rfl))<|wd rfl (fun st=>Ba (v:=.bool ((aC.1.length:Int) !=(d.Ad.length:Int))) (ee st rfl) bJ (ee st rfl))<|Af<|Aa ?_;rcases An ((aC.1.length:Int) !=(d.Ad.length:Int)) with fM|fM
                ·replace a:=AB a fM;exact absurd (Option.some.inj a) (by decide)
                ·replace a:=AD a fM;refine AH rfl fM<|AW<|Aa<|Ae<|Ae<|Ab<|wa rfl (v:=I 0) rfl<|Af<|Aa<|A5 ?_;replace a:=bind_some a;obtain⟨gY,dM,a⟩:=a;refine Ch (fun i8 bU f3=>(i8=.ret∧∃dN,gY=.inl dN∧bU.tmps.size=225∧bU.defers=(X0).ds∧sl bU 6=.bool dN∧Hp FN [] w [some j,some o] f3)∨(i8=.exit 0∧∃dN,gY=.inr dN∧bU.tmps.size=225∧bU.defers=(X0).ds∧Hp FN [] w [some j,some o] f3)) ?i9 ?jA
                 case i9=>
                  clear a;refine Cg (fun(f6:Nat) (bU:Act) (f3:World)=>∃g,BW aL d cT aC f6 g=some gY∧bU.tmps.size=225∧bU.defers=(X0).ds∧sl bU 3=pt o 0∧sl bU 22=.slice bD cT.length bE∧sl bU 23=.slice aA aC.1.length aB∧sl bU 25=I g∧Hp FN [] w [some j,some o] f3∧Bk f3 o 63 #[I d.Ak,I d.Ai,I d.Ao,I d.Aw,.slice e d.Ad.length f]∧Sl AM f3 (ZZ FN [] Z w.heap.size [some j,some o]) e f d.Ad∧Sl (BA (Az .i64)) f3 (ZZ FN [] Z w.heap.size [some j,some o]) bD bE cT∧Sl BS f3 (ZZ FN [] Z w.heap.size [some j,some o]) aA aB aC.1) aL ?jB ?jC
                  case jB=>
                   intro st;have f7:=(eJ.mv (Ah fL));have fN:=(b7.mv (Ah fL));exact⟨(0:Int),dM,qz st,qd st,sp st 3 rfl,sp st 22 rfl,sp st 23 rfl,sp st 25 rfl,i7,f2,f7,fN,b8⟩
                  case jC=>
                   rintro(_|f6) kG kH ⟨g,dM,hM,hN,bF,aY,aJ,y,f8,b9,bI,eV,eW⟩
                   ·exact absurd (show none=some _ from dM) (by simp)
                   rw[BW.eq_2] at dM;have a:=dM;clear dM;refine B4 (N:=225) hM hN<|Ae<|Ae<|Ab<|wm rfl (v:=I g) y<|wm rfl (v:=.slice aA aC.1.length aB) aJ<|wd rfl (fun st=>BH Tryz.underlying70 (ee st rfl))<|wd rfl (fun st=>Ct (ee st rfl) (ee st rfl))<|Af<|Aa ?_;rcases An (decide (g<(aC.1.length:Int))) with eP|eP
                   ·replace a:=AB a eP;refine AA rfl eP<|AW<|Aa<|Ae<|A5<|Ae<|Ab<|wd rfl (fun st=>Bb (l:=[I d.Ak,I d.Ai,I d.Ao,I d.Aw,.slice e d.Ad.length f]) D9 (ee st bF) b9 rfl rfl) ?_;replace a:=bind_some a;obtain⟨h4,jD,a⟩:=a;refine we rfl (fun st=>AI Jt (ee st rfl) (Cw (ee st rfl)) (a31 aL d e f (ZZ FN [] Z w.heap.size [some j,some o]) _ bI h4 jD)) ?_;rintro _ k2 ⟨bO,⟨_,rfl,⟨gS,gT,rfl,cI⟩⟩⟩;have gZ:=f8.ext bO;have cI:=cI.mv (f8.CA (Nat.le_refl _));refine wm rfl (v:=.slice bD cT.length bE) aY ?_;have aK:=(eV.mv (Ah bO));replace a:=bind_some a;obtain⟨h5,jE,a⟩:=a;refine we rfl (fun st=>AI Mb (ee st rfl) (Cw (ee st rfl)) (Sb aL cT bD bE (ZZ FN [] Z w.heap.size [some j,some o]) _ aK h5 jE)) ?_;rintro _ k3 ⟨aM,⟨g0,g1,rfl,dO⟩⟩;have jF:=gZ.ext aM;have dO:=dO.mv (gZ.CA (Nat.le_refl _));refine wm rfl (v:=I g) y ?_;have eX:=(cI.mv (Ah aM));replace a:=bind_some a;obtain⟨p,jG,a⟩:=a;refine we rfl (fun st=>AI Od (ee st rfl) (E3 (ee st rfl) (ee st rfl) (ee st rfl)) (a40 aL h4 h5 g gS gT g0 g1 ZA _ eX.all dO.all p jG)) ?_;rintro _ k4 ⟨aQ,⟨_,_,rfl,rfl,rfl⟩⟩;have g2:=jF.ext aQ;refine wm rfl (v:=.tuple #[I p.1,I p.2]) rfl<|wd rfl (fun st=>Bw (v:=I p.1) (ee st rfl) rfl)<|wd rfl (fun st=>Bw (v:=I p.2) (ee st rfl) rfl)<|wa rfl (v:=I p.1) rfl<|wa rfl (v:=I p.2) rfl<|Af<|Aa<|Ae ?_;replace a:=Bq a;obtain⟨i80,f4,g3,jH,g4,a⟩:=a;have z:=(((eW.mv (Ah bO)).mv (Ah aM)).mv (Ah aQ));obtain⟨gI,gJ,_,g5,rfl,g6⟩:=Sl.elem z (by decide) jH;rcases An (f4.AP) with m|m
                    ·replace a:=AB a m;replace a:=Bq a;obtain⟨i82,aS,jI,jJ,jK,a⟩:=a;obtain⟨h6,h7,_,jL,rfl,jM⟩:=Sl.elem z (by decide) jJ;have cU:=(((b9.ext bO).ext aM).ext aQ);replace a:=Bq a;obtain⟨i83,aT,jN,jO,jP,a⟩:=a;have bP:=(((bI.mv (Ah bO)).mv (Ah aM)).mv (Ah aQ));obtain⟨h8,iA,_,jQ,rfl,jR⟩:=Sl.elem bP (by decide) jO;refine CB 17 [Kc (.slice aA aC.1.length aB),Kc (I g),Kc (pt gI (gJ+i80*3)),Kc (pt gI (gJ+i80*3+2)),Kc (.bool f4.AP),Kc (.bool f4.AP),Kc (.slice aA aC.1.length aB),Kc (I g),Kc (pt h6 (h7+i82*3)),Kc (pt h6 (h7+i82*3+1)),Kc (I aS.Bh),Kc (pt o 4),Kc (.slice e d.Ad.length f),Kc (I g),Kc (pt h8 (iA+i83*5)),Kc (pt h8 (iA+i83*5+4)),Kc (I aT.BZ)] mixed rfl rfl
                         (Ag (od rfl (fun _=>rfl) (fun K=>AK (es ((K.out 23 rfl).trans aJ))))
                         (Ag (od rfl (fun _=>rfl) (fun K=>AK (es ((K.out 25 rfl).trans y))))
                         (Ag (od rfl (fun _=>rfl) (fun K=>B3 (k:=i80) Tryz.underlying70 DQ (es (K.Ax 0 183 rfl rfl)) g5 (es (K.Ax 1 184 rfl rfl)) g3 g4))
                         (Ag (od rfl (fun _=>rfl) (fun K=>Am (es (K.Ax 2 185 rfl rfl)) (J0 _ _ _)))
                         (Ag (od rfl (fun _=>rfl) (fun K=>E5 HZ (es (K.Ax 3 186 rfl rfl)) (g6.mv (Ah K.Bi)) rfl))
                         (Ag (od rfl (fun _=>rfl) (fun K=>AK (es (K.Ax 4 187 rfl rfl))))
                         (Ag (Bv rfl rfl rfl (fun _=>rfl) (fun a' w' ph K=>Ac (K.Ax 5 188 rfl rfl) m) (fun a' w' ph K=>AK (es ((K.out 23 rfl).trans aJ))))
                         (Ag (Bv rfl rfl rfl (fun _=>rfl) (fun a' w' ph K=>Ac (K.Ax 5 188 rfl rfl) m) (fun a' w' ph K=>AK (es ((K.out 25 rfl).trans y))))
                         (Ag (Bv rfl rfl rfl (fun _=>rfl) (fun a' w' ph K=>Ac (K.Ax 5 188 rfl rfl) m) (fun a' w' ph K=>B3 (k:=i82) Tryz.underlying70 DQ (es (K.Ax 6 189 rfl rfl)) jL (es (K.Ax 7 190 rfl rfl)) jI jK))
                         (Ag (Bv rfl rfl rfl (fun _=>rfl) (fun a' w' ph K=>Ac (K.Ax 5 188 rfl rfl) m) (fun a' w' ph K=>Am (es (K.Ax 8 191 rfl rfl)) (Ob _ _ _)))
                         (Ag (Bv rfl rfl rfl (fun _=>rfl) (fun a' w' ph K=>Ac (K.Ax 5 188 rfl rfl) m) (fun a' w' ph K=>E5 AZ (es (K.Ax 9 192 rfl rfl)) (jM.mv (Ah K.Bi)) rfl))
                         (Ag (Bv rfl rfl rfl (fun _=>rfl) (fun a' w' ph K=>Ac (K.Ax 5 188 rfl rfl) m) (fun a' w' ph K=>Am (es ((K.out 3 rfl).trans bF)) (Eb _ _)))
                         (Ag (Bv rfl rfl rfl (fun _=>rfl) (fun a' w' ph K=>Ac (K.Ax 5 188 rfl rfl) m) (fun a' w' ph K=>Au EX (es (K.Ax 11 194 rfl rfl)) (cU.ext K.Bi) rfl))
                         (Ag (Bv rfl rfl rfl (fun _=>rfl) (fun a' w' ph K=>Ac (K.Ax 5 188 rfl rfl) m) (fun a' w' ph K=>AK (es ((K.out 25 rfl).trans y))))
                         (Ag (Bv rfl rfl rfl (fun _=>rfl) (fun a' w' ph K=>Ac (K.Ax 5 188 rfl rfl) m) (fun a' w' ph K=>B3 (k:=i83) Tryz.underlying61 H3 (es (K.Ax 12 195 rfl rfl)) jQ (es (K.Ax 13 196 rfl rfl)) jN jP))
                         (Ag (Bv rfl rfl rfl (fun _=>rfl) (fun a' w' ph K=>Ac (K.Ax 5 188 rfl rfl) m) (fun a' w' ph K=>Am (es (K.Ax 14 197 rfl rfl)) (Oc _ _ _)))
                         (Ag (Bv rfl rfl rfl (fun _=>rfl) (fun a' w' ph K=>Ac (K.Ax 5 188 rfl rfl) m) (fun a' w' ph K=>E5 AZ (es (K.Ax 15 198 rfl rfl)) (jR.mv (Ah K.Bi)) rfl))
                         (B5 _)))))))))))))))))) ?_
                     intro kB;rintro _ rfl _ rfl _ rfl _ rfl _ rfl _ rfl _ rfl _ rfl _ rfl _ rfl _ rfl _ rfl _ rfl _ rfl _ rfl _ rfl _ rfl q;have g7:=g2.ext q;refine Aq rfl rfl (Ac rfl m) rfl (by decide) (fun st=>Fz (ee st rfl) (ee st rfl))<|wd rfl (fun st=>AS (v:=.bool (decide (aS.Bh≤aT.BZ))) (ee st rfl) m (ee st rfl))<|wa rfl (v:=.bool (decide (aS.Bh≤aT.BZ))) rfl<|Af<|Aa<|Ae<|Ab<|wm rfl (v:=I p.2) rfl<|wd rfl (fun st=>EY (ee st rfl) (ee st rfl))<|wm rfl (v:=.bool (p.2 !=0)) rfl ?_;rcases An (p.2 !=0) with bG|bG
                     ·replace a:=AB a bG;refine Aj (c:=true) rfl rfl (Ac rfl bG) (by decide) rfl (by decide)<|Aj (c:=true) rfl rfl (Ac rfl bG) (by decide) rfl (by decide)<|Aj (c:=true) rfl rfl (Ac rfl bG) (by decide) rfl (by decide)<|wd rfl (fun st=>AS (v:=.bool true) (ee st rfl) bG (ee st rfl))<|wm rfl (v:=.bool true) rfl<|Aj rfl rfl rfl (by decide) rfl (by decide)<|Aj rfl rfl rfl (by decide) rfl (by decide)<|Aj rfl rfl rfl (by decide) rfl (by decide)<|DS rfl rfl rfl rfl (by decide)<|DS rfl rfl rfl rfl (by decide)<|Aj rfl rfl rfl (by decide) rfl (by decide)<|wd rfl (fun st=>AS (v:=.bool true) (ee st rfl) rfl (ee st rfl))<|wm rfl (v:=.bool true) rfl<|Aj rfl rfl rfl (by decide) rfl (by decide)<|Aj rfl rfl rfl (by decide) rfl (by decide)<|Aj rfl rfl rfl (by decide) rfl (by decide)<|DS rfl rfl rfl rfl (by decide)<|Aj rfl rfl rfl (by decide) rfl (by decide)<|wd rfl (fun st=>AS (v:=.bool true) (ee st rfl) rfl (ee st rfl))<|Af<|Aa<|AA rfl rfl<|Ae<|Ab<|wa rfl (v:=.bool false) rfl<|Af<|Aa<|AF<|AV<|Av<|Av ?_;obtain rfl:=Option.some.inj a;refine BQ (fun st=>?_);exact .inl ⟨rfl,false,rfl,qz st,qd st,sp st 6 rfl,g7⟩
                     ·replace a:=AD a bG;refine Aq rfl rfl (Ac rfl bG) rfl (by decide) (fun st=>AK (v:=I p.1) (ee st rfl)) ?_;replace a:=bind_some a;obtain⟨e9,jS,a⟩:=a;refine Dp rfl rfl (Ac rfl bG) rfl (by decide) (fun st=>AI H4 (ee st rfl) (E3 (ee st rfl) (ee st rfl) (ee st rfl)) (a46 aL p.1 1 3 ZA _ e9 jS)) ?_;rintro _ k5 ⟨aR,rfl⟩;have cJ:=g7.ext aR;refine Aq rfl rfl (Ac rfl bG) rfl (by decide) (fun st=>CV (ee st rfl))<|wd rfl (fun st=>Ba (v:=.bool !e9) (ee st rfl) bG (ee st rfl))<|wm rfl (v:=.bool !e9) rfl ?_;rcases An (!e9) with aH|aH
                      ·replace a:=AB a aH;have j1:e9=false:=by simpa using aH
                       refine Aj (c:=true) rfl rfl (Ac rfl aH) (by decide) rfl (by decide)<|Aj (c:=true) rfl rfl (Ac rfl aH) (by decide) rfl (by decide)<|Aj (c:=true) rfl rfl (Ac rfl aH) (by decide) rfl (by decide)<|DS rfl rfl rfl rfl (by decide)<|DS rfl rfl rfl rfl (by decide)<|Aj (c:=true) rfl rfl (Ac rfl aH) (by decide) rfl (by decide)<|wd rfl (fun st=>AS (v:=.bool true) (ee st rfl) aH (ee st rfl))<|wm rfl (v:=.bool true) rfl<|Aj rfl rfl rfl (by decide) rfl (by decide)<|Aj rfl rfl rfl (by decide) rfl (by decide)<|Aj rfl rfl rfl (by decide) rfl (by decide)<|DS rfl rfl rfl rfl (by decide)<|Aj rfl rfl rfl (by decide) rfl (by decide)<|wd rfl (fun st=>AS (v:=.bool true) (ee st rfl) rfl (ee st rfl))<|Af<|Aa<|AA rfl rfl<|Ae<|Ab<|wa rfl (v:=.bool false) rfl<|Af<|Aa<|AF<|AV<|Av<|Av ?_;obtain rfl:=Option.some.inj a;refine BQ (fun st=>?_);exact .inl ⟨rfl,false,rfl,qz st,qd st,sp st 6 rfl,cJ⟩
                      ·replace a:=AD a aH;have j2:e9=true:=by simpa using aH
                       refine Aq rfl rfl (Ac rfl aH) rfl (by decide) (fun st=>AK (v:=I p.1) (ee st rfl))<|Aq rfl rfl (Ac rfl aH) rfl (by decide) (fun st=>CF (ee st rfl) (ee st rfl))<|Aq rfl rfl (Ac rfl aH) rfl (by decide) (fun st=>AK (v:=.bool (p.1==1)) (ee st rfl)) ?_;rcases An (p.1==1) with bQ|bQ
                       ·replace a:=AB a bQ;refine Aq rfl rfl (Ac rfl bQ) rfl (by decide) (fun st=>AK (v:=.bool (decide (aS.Bh≤aT.BZ))) (ee st rfl))<|Aq rfl rfl (Ac rfl bQ) rfl (by decide) (fun st=>CV (ee st rfl))<|Aq rfl rfl (Ac rfl aH) rfl (by decide) (fun st=>AS (v:=.bool (!(decide (aS.Bh≤aT.BZ)))) (ee st rfl) bQ (ee st rfl))<|wd rfl (fun st=>Ba (v:=.bool (!(decide (aS.Bh≤aT.BZ)))) (ee st rfl) aH (ee st rfl))<|wm rfl (v:=.bool (!(decide (aS.Bh≤aT.BZ)))) rfl ?_;rcases An (!(decide (aS.Bh≤aT.BZ))) with aI|aI
                        ·replace a:=AB a aI;have j3:(decide (aS.Bh≤aT.BZ))=false:=by simpa using aI
                         refine Aj (c:=true) rfl rfl (Ac rfl aI) (by decide) rfl (by decide)<|Aj (c:=true) rfl rfl (Ac rfl aI) (by decide) rfl (by decide)<|Aj (c:=true) rfl rfl (Ac rfl aI) (by decide) rfl (by decide)<|DS rfl rfl rfl rfl (by decide)<|Aj (c:=true) rfl rfl (Ac rfl aI) (by decide) rfl (by decide)<|wd rfl (fun st=>AS (v:=.bool true) (ee st rfl) aI (ee st rfl))<|Af<|Aa<|AA rfl rfl<|Ae<|Ab<|wa rfl (v:=.bool false) rfl<|Af<|Aa<|AF<|AV<|Av<|Av ?_;obtain rfl:=Option.some.inj a;refine BQ (fun st=>?_);exact .inl ⟨rfl,false,rfl,qz st,qd st,sp st 6 rfl,cJ⟩
                        ·replace a:=AD a aI;have gU:(decide (aS.Bh≤aT.BZ))=true:=by simpa using aI
                         refine Aq rfl rfl (Ac rfl aI) rfl (by decide) (fun st=>AK (v:=I p.1) (ee st rfl))<|Aq rfl rfl (Ac rfl aI) rfl (by decide) (fun st=>CF (ee st rfl) (ee st rfl))<|Aq rfl rfl (Ac rfl aI) rfl (by decide) (fun st=>AK (v:=.bool (p.1==2)) (ee st rfl)) ?_;rcases An (p.1==2) with cK|cK
                         ·replace a:=AB a cK;refine Aq rfl rfl (Ac rfl cK) rfl (by decide) (fun st=>AK (v:=.bool (decide (aS.Bh≤aT.BZ))) (ee st rfl))<|Aq rfl rfl (Ac rfl aI) rfl (by decide) (fun st=>AS (v:=.bool (decide (aS.Bh≤aT.BZ))) (ee st rfl) cK (ee st rfl))<|wd rfl (fun st=>Ba (v:=.bool (decide (aS.Bh≤aT.BZ))) (ee st rfl) aI (ee st rfl))<|Af<|Aa<|AA rfl gU<|Ae<|Ab<|wa rfl (v:=.bool false) rfl<|Af<|Aa<|AF<|AV<|Av<|Av ?_;obtain rfl:=Option.some.inj a;refine BQ (fun st=>?_);exact .inl ⟨rfl,false,rfl,qz st,qd st,sp st 6 rfl,cJ⟩
                         ·replace a:=AD a cK;refine Aj (c:=false) rfl rfl (Ac rfl cK) (by decide) rfl (by decide)<|Aq rfl rfl (Ac rfl aI) rfl (by decide) (fun st=>Ba (v:=.bool false) (ee st rfl) cK (ee st rfl))<|wd rfl (fun st=>Ba (v:=.bool false) (ee st rfl) aI (ee st rfl))<|Af<|Aa<|AH rfl rfl<|AW<|Bn<|Aa<|Ab<|wm rfl (v:=I g) y ?_;replace a:=AU a;obtain⟨jT,a⟩:=a;refine wd rfl (fun st=>Bx (ee st rfl) (ee st rfl) jT)<|wa rfl (v:=I (g+1)) rfl<|Af ?_;have b4:=((cU.ext q).ext aR);have bH:=((bP.mv (Ah q)).mv (Ah aR));have aN:=((((aK.mv (Ah aM)).mv (Ah aQ)).mv (Ah q)).mv (Ah aR));have aO:=((z.mv (Ah q)).mv (Ah aR));refine Bt f6 (Nat.lt_succ_self _) (fun st=>?_);exact⟨(g+1),a,qz st,qd st,sp st 3 bF,sp st 22 aY,sp st 23 aJ,sp st 25 rfl,cJ,b4,bH,aN,aO⟩
                       ·replace a:=AD a bQ;refine Aj (c:=false) rfl rfl (Ac rfl bQ) (by decide) rfl (by decide)<|Aj (c:=false) rfl rfl (Ac rfl bQ) (by decide) rfl (by decide)<|Aq rfl rfl (Ac rfl aH) rfl (by decide) (fun st=>Ba (v:=.bool false) (ee st rfl) bQ (ee st rfl))<|wd rfl (fun st=>Ba (v:=.bool false) (ee st rfl) aH (ee st rfl))<|wm rfl (v:=.bool false) rfl<|Aq rfl rfl rfl rfl (by decide) (fun st=>AK (v:=I p.1) (ee st rfl))<|Aq rfl rfl rfl rfl (by decide) (fun st=>CF (ee st rfl) (ee st rfl))<|Aq rfl rfl rfl rfl (by decide) (fun st=>AK (v:=.bool (p.1==2)) (ee st rfl)) ?_;rcases An (p.1==2) with cL|cL
                        ·replace a:=AB a cL;refine Aq rfl rfl (Ac rfl cL) rfl (by decide) (fun st=>AK (v:=.bool (decide (aS.Bh≤aT.BZ))) (ee st rfl))<|Aq rfl rfl rfl rfl (by decide) (fun st=>AS (v:=.bool (decide (aS.Bh≤aT.BZ))) (ee st rfl) cL (ee st rfl))<|wd rfl (fun st=>Ba (v:=.bool (decide (aS.Bh≤aT.BZ))) (ee st rfl) rfl (ee st rfl))<|Af<|Aa ?_;rcases An (decide (aS.Bh≤aT.BZ)) with eQ|eQ
                         ·replace a:=AB a eQ;refine AA rfl eQ<|Ae<|Ab<|wa rfl (v:=.bool false) rfl<|Af<|Aa<|AF<|AV<|Av<|Av ?_;obtain rfl:=Option.some.inj a;refine BQ (fun st=>?_);exact .inl ⟨rfl,false,rfl,qz st,qd st,sp st 6 rfl,cJ⟩
                         ·replace a:=AD a eQ;refine AH rfl eQ<|AW<|Bn<|Aa<|Ab<|wm rfl (v:=I g) y ?_;replace a:=AU a;obtain⟨jU,a⟩:=a;refine wd rfl (fun st=>Bx (ee st rfl) (ee st rfl) jU)<|wa rfl (v:=I (g+1)) rfl<|Af ?_;have b4:=((cU.ext q).ext aR);have bH:=((bP.mv (Ah q)).mv (Ah aR));have aN:=((((aK.mv (Ah aM)).mv (Ah aQ)).mv (Ah q)).mv (Ah aR));have aO:=((z.mv (Ah q)).mv (Ah aR));refine Bt f6 (Nat.lt_succ_self _) (fun st=>?_);exact⟨(g+1),a,qz st,qd st,sp st 3 bF,sp st 22 aY,sp st 23 aJ,sp st 25 rfl,cJ,b4,bH,aN,aO⟩
                        ·replace a:=AD a cL;refine Aj (c:=false) rfl rfl (Ac rfl cL) (by decide) rfl (by decide)<|Aq rfl rfl rfl rfl (by decide) (fun st=>Ba (v:=.bool false) (ee st rfl) cL (ee st rfl))<|wd rfl (fun st=>Ba (v:=.bool false) (ee st rfl) rfl (ee st rfl))<|Af<|Aa<|AH rfl rfl<|AW<|Bn<|Aa<|Ab<|wm rfl (v:=I g) y ?_;replace a:=AU a;obtain⟨jV,a⟩:=a;refine wd rfl (fun st=>Bx (ee st rfl) (ee st rfl) jV)<|wa rfl (v:=I (g+1)) rfl<|Af ?_;have b4:=((cU.ext q).ext aR);have bH:=((bP.mv (Ah q)).mv (Ah aR));have aN:=((((aK.mv (Ah aM)).mv (Ah aQ)).mv (Ah q)).mv (Ah aR));have aO:=((z.mv (Ah q)).mv (Ah aR));refine Bt f6 (Nat.lt_succ_self _) (fun st=>?_);exact⟨(g+1),a,qz st,qd st,sp st 3 bF,sp st 22 aY,sp st 23 aJ,sp st 25 rfl,cJ,b4,bH,aN,aO⟩
                    ·replace a:=AD a m;refine CB 17 [Kc (.slice aA aC.1.length aB),Kc (I g),Kc (pt gI (gJ+i80*3)),Kc (pt gI (gJ+i80*3+2)),Kc (.bool f4.AP),Kc (.bool f4.AP),Kc undef,Kc undef,Kc undef,Kc undef,Kc undef,Kc undef,Kc undef,Kc undef,Kc undef,Kc undef,Kc undef] mixed rfl rfl
                         (Ag (od rfl (fun _=>rfl) (fun K=>AK (es ((K.out 23 rfl).trans aJ))))
                         (Ag (od rfl (fun _=>rfl) (fun K=>AK (es ((K.out 25 rfl).trans y))))
                         (Ag (od rfl (fun _=>rfl) (fun K=>B3 (k:=i80) Tryz.underlying70 DQ (es (K.Ax 0 183 rfl rfl)) g5 (es (K.Ax 1 184 rfl rfl)) g3 g4))
                         (Ag (od rfl (fun _=>rfl) (fun K=>Am (es (K.Ax 2 185 rfl rfl)) (J0 _ _ _)))
                         (Ag (od rfl (fun _=>rfl) (fun K=>E5 HZ (es (K.Ax 3 186 rfl rfl)) (g6.mv (Ah K.Bi)) rfl))
                         (Ag (od rfl (fun _=>rfl) (fun K=>AK (es (K.Ax 4 187 rfl rfl))))
                         (Ag (Cd (c:=false) rfl rfl rfl (by decide) (fun a' w' ph K=>Ac (K.Ax 5 188 rfl rfl) m) (fun _=>rfl))
                         (Ag (Cd (c:=false) rfl rfl rfl (by decide) (fun a' w' ph K=>Ac (K.Ax 5 188 rfl rfl) m) (fun _=>rfl))
                         (Ag (Cd (c:=false) rfl rfl rfl (by decide) (fun a' w' ph K=>Ac (K.Ax 5 188 rfl rfl) m) (fun _=>rfl))
                         (Ag (Cd (c:=false) rfl rfl rfl (by decide) (fun a' w' ph K=>Ac (K.Ax 5 188 rfl rfl) m) (fun _=>rfl))
                         (Ag (Cd (c:=false) rfl rfl rfl (by decide) (fun a' w' ph K=>Ac (K.Ax 5 188 rfl rfl) m) (fun _=>rfl))
                         (Ag (Cd (c:=false) rfl rfl rfl (by decide) (fun a' w' ph K=>Ac (K.Ax 5 188 rfl rfl) m) (fun _=>rfl))
                         (Ag (Cd (c:=false) rfl rfl rfl (by decide) (fun a' w' ph K=>Ac (K.Ax 5 188 rfl rfl) m) (fun _=>rfl))
                         (Ag (Cd (c:=false) rfl rfl rfl (by decide) (fun a' w' ph K=>Ac (K.Ax 5 188 rfl rfl) m) (fun _=>rfl))
                         (Ag (Cd (c:=false) rfl rfl rfl (by decide) (fun a' w' ph K=>Ac (K.Ax 5 188 rfl rfl) m) (fun _=>rfl))
                         (Ag (Cd (c:=false) rfl rfl rfl (by decide) (fun a' w' ph K=>Ac (K.Ax 5 188 rfl rfl) m) (fun _=>rfl))
                         (Ag (Cd (c:=false) rfl rfl rfl (by decide) (fun a' w' ph K=>Ac (K.Ax 5 188 rfl rfl) m) (fun _=>rfl))
                         (B5 _)))))))))))))))))) ?_
                     intro kB;rintro _ rfl _ rfl _ rfl _ rfl _ rfl _ rfl _ rfl _ rfl _ rfl _ rfl _ rfl _ rfl _ rfl _ rfl _ rfl _ rfl _ rfl q;have g8:=g2.ext q;refine Aj (c:=false) rfl rfl (Ac rfl m) (by decide) rfl (by decide)<|wd rfl (fun st=>Ba (v:=.bool false) (ee st rfl) m (ee st rfl))<|wa rfl (v:=.bool false) rfl<|Af<|Aa<|Ae<|Ab<|wm rfl (v:=I p.2) rfl<|wd rfl (fun st=>EY (ee st rfl) (ee st rfl))<|wm rfl (v:=.bool (p.2 !=0)) rfl ?_;rcases An (p.2 !=0) with aP|aP
                     ·replace a:=AB a aP;refine Aj (c:=true) rfl rfl (Ac rfl aP) (by decide) rfl (by decide)<|Aj (c:=true) rfl rfl (Ac rfl aP) (by decide) rfl (by decide)<|Aj (c:=true) rfl rfl (Ac rfl aP) (by decide) rfl (by decide)<|wd rfl (fun st=>AS (v:=.bool true) (ee st rfl) aP (ee st rfl))<|wm rfl (v:=.bool true) rfl<|Aj rfl rfl rfl (by decide) rfl (by decide)<|Aj rfl rfl rfl (by decide) rfl (by decide)<|Aj rfl rfl rfl (by decide) rfl (by decide)<|DS rfl rfl rfl rfl (by decide)<|DS rfl rfl rfl rfl (by decide)<|Aj rfl rfl rfl (by decide) rfl (by decide)<|wd rfl (fun st=>AS (v:=.bool true) (ee st rfl) rfl (ee st rfl))<|wm rfl (v:=.bool true) rfl<|Aj rfl rfl rfl (by decide) rfl (by decide)<|Aj rfl rfl rfl (by decide) rfl (by decide)<|Aj rfl rfl rfl (by decide) rfl (by decide)<|DS rfl rfl rfl rfl (by decide)<|Aj rfl rfl rfl (by decide) rfl (by decide)<|wd rfl (fun st=>AS (v:=.bool true) (ee st rfl) rfl (ee st rfl))<|Af<|Aa<|AA rfl rfl<|Ae<|Ab<|wa rfl (v:=.bool false) rfl<|Af<|Aa<|AF<|AV<|Av<|Av ?_;obtain rfl:=Option.some.inj a;refine BQ (fun st=>?_);exact .inl ⟨rfl,false,rfl,qz st,qd st,sp st 6 rfl,g8⟩
                     ·replace a:=AD a aP;refine Aq rfl rfl (Ac rfl aP) rfl (by decide) (fun st=>AK (v:=I p.1) (ee st rfl)) ?_;replace a:=bind_some a;obtain⟨dP,hO,a⟩:=a;refine Dp rfl rfl (Ac rfl aP) rfl (by decide) (fun st=>AI H4 (ee st rfl) (E3 (ee st rfl) (ee st rfl) (ee st rfl)) (a46 aL p.1 1 3 ZA _ dP hO)) ?_;rintro _ kI ⟨aW,rfl⟩;have fO:=g8.ext aW;refine Aq rfl rfl (Ac rfl aP) rfl (by decide) (fun st=>CV (ee st rfl))<|wd rfl (fun st=>Ba (v:=.bool !dP) (ee st rfl) aP (ee st rfl))<|wm rfl (v:=.bool !dP) rfl ?_;rcases An (!dP) with r|r
                      ·replace a:=AB a r;have iB:dP=false:=by simpa using r
                       refine Aj (c:=true) rfl rfl (Ac rfl r) (by decide) rfl (by decide)<|Aj (c:=true) rfl rfl (Ac rfl r) (by decide) rfl (by decide)<|Aj (c:=true) rfl rfl (Ac rfl r) (by decide) rfl (by decide)<|DS rfl rfl rfl rfl (by decide)<|DS rfl rfl rfl rfl (by decide)<|Aj (c:=true) rfl rfl (Ac rfl r) (by decide) rfl (by decide)<|wd rfl (fun st=>AS (v:=.bool true) (ee st rfl) r (ee st rfl))<|wm rfl (v:=.bool true) rfl<|Aj rfl rfl rfl (by decide) rfl (by decide)<|Aj rfl rfl rfl (by decide) rfl (by decide)<|Aj rfl rfl rfl (by decide) rfl (by decide)<|DS rfl rfl rfl rfl (by decide)<|Aj rfl rfl rfl (by decide) rfl (by decide)<|wd rfl (fun st=>AS (v:=.bool true) (ee st rfl) rfl (ee st rfl))<|Af<|Aa<|AA rfl rfl<|Ae<|Ab<|wa rfl (v:=.bool false) rfl<|Af<|Aa<|AF<|AV<|Av<|Av ?_;obtain rfl:=Option.some.inj a;refine BQ (fun st=>?_);exact .inl ⟨rfl,false,rfl,qz st,qd st,sp st 6 rfl,fO⟩
                      ·replace a:=AD a r;have iC:dP=true:=by simpa using r
                       refine Aq rfl rfl (Ac rfl r) rfl (by decide) (fun st=>AK (v:=I p.1) (ee st rfl))<|Aq rfl rfl (Ac rfl r) rfl (by decide) (fun st=>CF (ee st rfl) (ee st rfl))<|Aq rfl rfl (Ac rfl r) rfl (by decide) (fun st=>AK (v:=.bool (p.1==1)) (ee st rfl)) ?_;rcases An (p.1==1) with aX|aX
                       ·replace a:=AB a aX;refine Aq rfl rfl (Ac rfl aX) rfl (by decide) (fun st=>AK (v:=.bool false) (ee st rfl))<|Aq rfl rfl (Ac rfl aX) rfl (by decide) (fun st=>Sh (b:=false) (ee st rfl))<|Aq rfl rfl (Ac rfl r) rfl (by decide) (fun st=>AS (v:=.bool true) (ee st rfl) aX (ee st rfl))<|wd rfl (fun st=>Ba (v:=.bool true) (ee st rfl) r (ee st rfl))<|wm rfl (v:=.bool true) rfl<|Aj rfl rfl rfl (by decide) rfl (by decide)<|Aj rfl rfl rfl (by decide) rfl (by decide)<|Aj rfl rfl rfl (by decide) rfl (by decide)<|DS rfl rfl rfl rfl (by decide)<|Aj rfl rfl rfl (by decide) rfl (by decide)<|wd rfl (fun st=>AS (v:=.bool true) (ee st rfl) rfl (ee st rfl))<|Af<|Aa<|AA rfl rfl<|Ae<|Ab<|wa rfl (v:=.bool false) rfl<|Af<|Aa<|AF<|AV<|Av<|Av ?_;obtain rfl:=Option.some.inj a;refine BQ (fun st=>?_);exact .inl ⟨rfl,false,rfl,qz st,qd st,sp st 6 rfl,fO⟩
                       ·replace a:=AD a aX;refine Aj (c:=false) rfl rfl (Ac rfl aX) (by decide) rfl (by decide)<|Aj (c:=false) rfl rfl (Ac rfl aX) (by decide) rfl (by decide)<|Aq rfl rfl (Ac rfl r) rfl (by decide) (fun st=>Ba (v:=.bool false) (ee st rfl) aX (ee st rfl))<|wd rfl (fun st=>Ba (v:=.bool false) (ee st rfl) r (ee st rfl))<|wm rfl (v:=.bool false) rfl<|Aq rfl rfl rfl rfl (by decide) (fun st=>AK (v:=I p.1) (ee st rfl))<|Aq rfl rfl rfl rfl (by decide) (fun st=>CF (ee st rfl) (ee st rfl))<|Aq rfl rfl rfl rfl (by decide) (fun st=>AK (v:=.bool (p.1==2)) (ee st rfl)) ?_;rcases An (p.1==2) with bR|bR
                        ·replace a:=AB a bR;refine Aq rfl rfl (Ac rfl bR) rfl (by decide) (fun st=>AK (v:=.bool false) (ee st rfl))<|Aq rfl rfl rfl rfl (by decide) (fun st=>AS (v:=.bool false) (ee st rfl) bR (ee st rfl))<|wd rfl (fun st=>Ba (v:=.bool false) (ee st rfl) rfl (ee st rfl))<|Af<|Aa<|AH rfl rfl<|AW<|Bn<|Aa<|Ab<|wm rfl (v:=I g) y ?_;replace a:=AU a;obtain⟨hP,a⟩:=a;refine wd rfl (fun st=>Bx (ee st rfl) (ee st rfl) hP)<|wa rfl (v:=I (g+1)) rfl<|Af ?_;have eR:=(((((b9.ext bO).ext aM).ext aQ).ext q).ext aW);have cM:=(((((bI.mv (Ah bO)).mv (Ah aM)).mv (Ah aQ)).mv (Ah q)).mv (Ah aW));have bS:=((((aK.mv (Ah aM)).mv (Ah aQ)).mv (Ah q)).mv (Ah aW));have bT:=((z.mv (Ah q)).mv (Ah aW));refine Bt f6 (Nat.lt_succ_self _) (fun st=>?_);exact⟨(g+1),a,qz st,qd st,sp st 3 bF,sp st 22 aY,sp st 23 aJ,sp st 25 rfl,fO,eR,cM,bS,bT⟩
                        ·replace a:=AD a bR;refine Aj (c:=false) rfl rfl (Ac rfl bR) (by decide) rfl (by decide)<|Aq rfl rfl rfl rfl (by decide) (fun st=>Ba (v:=.bool false) (ee st rfl) bR (ee st rfl))<|wd rfl (fun st=>Ba (v:=.bool false) (ee st rfl) rfl (ee st rfl))<|Af<|Aa<|AH rfl rfl<|AW<|Bn<|Aa<|Ab<|wm rfl (v:=I g) y ?_;replace a:=AU a;obtain⟨hQ,a⟩:=a;refine wd rfl (fun st=>Bx (ee st rfl) (ee st rfl) hQ)<|wa rfl (v:=I (g+1)) rfl<|Af ?_;have eR:=(((((b9.ext bO).ext aM).ext aQ).ext q).ext aW);have cM:=(((((bI.mv (Ah bO)).mv (Ah aM)).mv (Ah aQ)).mv (Ah q)).mv (Ah aW));have bS:=((((aK.mv (Ah aM)).mv (Ah aQ)).mv (Ah q)).mv (Ah aW));have bT:=((z.mv (Ah q)).mv (Ah aW));refine Bt f6 (Nat.lt_succ_self _) (fun st=>?_);exact⟨(g+1),a,qz st,qd st,sp st 3 bF,sp st 22 aY,sp st 23 aJ,sp st 25 rfl,fO,eR,cM,bS,bT⟩
                   ·replace a:=AD a eP;refine AH rfl eP<|Cc<|AN<|AN ?_;obtain rfl:=Option.some.inj a;refine BQ (fun st=>?_);exact .inr ⟨rfl,(),rfl,qz st,qd st,f8⟩
                 case jA=>
                  rintro i8 kF kJ (⟨rfl,dN,rfl,eS,eU,gV,fP⟩|⟨rfl,dN,rfl,eS,eU,fP⟩)
                  ·skip
                   replace a:=Eu a;refine Ci (X:=X0) (N:=225) eS eU<|AV<|Av ?_;have fQ:=Option.some.inj a;refine AR rfl gV ?_;exact⟨fP.Bu,congrArg Value.bool fQ⟩
                  ·skip
                   replace a:=Ev a;refine Ci (X:=X0) (N:=225) eS eU<|Bs<|Aa<|Ae<|Ab ?_;replace a:=CY a;obtain⟨hR,a⟩:=a;refine we rfl (fun st=>AI QS (ee st rfl) IS (VA aL ZA _ hR)) ?_;rintro _ kK ⟨hS,rfl⟩;have jW:=fP.ext hS;refine wa rfl (v:=.bool true) rfl<|Af<|Aa<|AF ?_;have fQ:=Option.some.inj a;refine AR rfl rfl ?_;exact⟨jW.Bu,congrArg Value.bool fQ⟩
end Go.Proofs.YtkljfdkmjdjpfaaGreat
end
section
namespace Go.Proofs.YtkljfdkmjdjpfaaGreat
open Go.RowKit Go.ChangeShapes Go.WideShapes
theorem Of{α β:Type}{g:α→Option β}:∀{l:List α} {r:List β},l.mapM g=some r→∀(i:Nat) (x:α),l[i]?=some x→∃y,r[i]?=some y∧g x=some y
 |[],_,_,i,x,b=>by simp at b
 |a::l,r,h,i,x,b=>by
  rw[List.mapM_cons] at h;obtain⟨y,hy,d⟩:=Option.bind_eq_some_iff.1 h;obtain⟨ys,c,h3⟩:=Option.bind_eq_some_iff.1 d;obtain rfl:y::ys=r:=by simpa using h3
  cases i with
  |zero=>
   obtain rfl:a=x:=by simpa using b
   exact⟨y,rfl,hy⟩
  |succ i=>exact Of c i x (by simpa using b)
theorem Jv{H:Type}{P:Program}{e:TypeId}{d:DataW H}{n:Nat}(b:n∈d.weights P e):∀{l:List (DataW H)},d∈l→n∈DataW.weightsAll P e l
 |[],h=>by cases h
 |a::l,h=>by
  rw[DataW.weightsAll,List.mem_append];rcases List.mem_cons.1 h with rfl|h
  ·exact .inl b
  ·exact .inr (Jv b h)
def LD {H:Type} (P:Program) (t:TypeId) (d:DataW H):Prop:=∀n∈d.weights P t,n≤reachBytes
theorem Pc{H:Type}{P:Program}{a:List TypeId}{ds:List (DataW H)}(h:(DataW.weightsEach P a ds).all (· ≤reachBytes)=true){j:Nat}{t:TypeId}{d:DataW H}(ht:a[j]?=some t)(b:ds[j]?=some d):LD P t d:=fun n c=>by
 have:=List.all_eq_true.1 h _ (DataW.weights_mem_each ht b n c);simpa using this
def MY {α:Type} (P:Program) (t:TypeId) (e:D4 α) (wf:α→Prop):Prop:=
 ∀(H:Type) (enc:TypeId×Value→H) (w:World) (sp:Nat→Bool) (fuel:Nat) (cs:List Value) (x:DataW H×List MemPlace),DataW.trod enc P w 0 sp true fuel t cs=some x→LD P t x.1→∃a,e.R w ZA cs a∧wf a
def Hf(k:IntKind)(n:Int):Prop:=(Lit.int k n).wf=true
section
variable{P:Program}{t:TypeId}
theorem G3{k:IntKind}(ht:P.underlying t=some (.int k)):MY P t (Az k) (Hf k):=by
 intro H enc w sp fuel cs x h _;obtain⟨n,h1,_,h3⟩:=DataW.trod_int ht h;exact⟨n,h1,h3⟩
theorem Jb {e:Array Field} (ht:P.underlying t=some (.struct e)) {H:Type} {enc:TypeId×Value→H} {w:World} {sp:Nat→Bool} {fuel:Nat} {cs:List Value} {x:DataW H×List MemPlace} (h:DataW.trod enc P w 0 sp true fuel t cs=some x):
  cs.length=P.cellsOf t∧∃c,∀(i a off:Nat),(e[i]?).map (fun f=>(f.type,f.offset))=some (a,off)→∃y,DataW.trod enc P w 0 sp true c a ((cs.drop off).take (P.cellsOf a))=some y∧(LD P t x.1→LD P a y.1):=by
 cases fuel with
 |zero=>simp[DataW.trod] at h
 |succ fuel=>
  unfold DataW.trod at h;simp only[ht] at h;split at h
  ·rename_i l
   obtain⟨xs,m,rfl⟩:=Option.map_eq_some_iff.1 h;refine⟨l,fuel,fun i a off o=>?_⟩;obtain⟨f,b,he⟩:=Option.map_eq_some_iff.1 o;obtain⟨g,p⟩:f.type=a∧f.offset=off:=by simpa using he
   rw[←Array.getElem?_toList] at b;obtain⟨y,hy,k⟩:=Of m i f b;rw[g,p] at k;refine⟨y,k,fun q n r=>q n ?_⟩;simp only[DataW.weights,ht];exact DataW.weights_mem_each (j:=i) (t:=a) (d:=y.1) (by rw[List.getElem?_map,b];simp[g]) (by rw[List.getElem?_map,hy];rfl) n r
  ·cases h
theorem PQ{w:World}{a:Addr}{n:Nat}{cs:List Value}(h:w.cells? 0 a n=some cs):cs.length=n∧∀j u,cs[j]?=some u→w.cell? (a.add j)=some u:=by
 unfold World.cells? at h;rw[if_pos (Nat.zero_le _)] at h;have d:=mapM_some_length h;refine⟨by simpa using d,?_⟩;have key:∀(l:List Nat) (r:List Value),l.mapM (fun i=>w.cell? (a.add i))=some r→∀(j i:Nat) (u:Value),l[j]?=some i→r[j]?=some u→w.cell? (a.add i)=some u:=by
  intro l
  induction l with
  |nil=>intro r _ j i u c;simp at c
  |cons b l ih=>
   intro r h j i u c e;rw[List.mapM_cons] at h;obtain⟨y,hy,f⟩:=Option.bind_eq_some_iff.1 h;obtain⟨ys,g,h3⟩:=Option.bind_eq_some_iff.1 f;obtain rfl:y::ys=r:=by simpa using h3
   cases j with
   |zero=>
    obtain rfl:b=i:=by simpa using c
    obtain rfl:y=u:=by simpa using e
    exact hy
   |succ j=>exact ih ys g j i u (by simpa using c) (by simpa using e)
 intro j u c;have k:j<n:=by
  have:=(List.getElem?_eq_some_iff.1 c).1;have f:cs.length=n:=by simpa using d
  omega
 exact key _ _ h j j u (by simp[k]) c
theorem QZ{w:World}{a:Addr}{u:Value}(h:w.cell? a=some u):∃b o,a=⟨b,o,none⟩∧b<w.heap.size:=by
 obtain⟨b,o,pt⟩:=a;cases pt with
 |none=>
  refine⟨b,o,rfl,?_⟩;unfold World.cell? at h;cases c:w.heap[b]? with
  |none=>simp[c] at h
  |some o=>exact(Array.getElem?_eq_some_iff.1 c).1
 |some q=>
  unfold World.cell? at h;cases c:w.heap[b]? with
  |none=>simp[c] at h
  |some ob=>cases ob<;>simp[c] at h
theorem add_add{a:Addr}{k j:Nat}(h:k≤j):(a.add k).add (j-k)=a.add j:=by
 obtain⟨b,o,pt⟩:=a;cases pt with
 |none=>rw[Fp,Fp,Fp];congr 1;omega
 |some q=>
  unfold Addr.add
  by_cases c:j=0
  ·have:k=0:=by omega
   subst this;subst c;simp
  ·by_cases d:k=0
   ·subst d;simp[c]
   ·by_cases e:j-k=0
    ·have:j=k:=by omega
     subst this;simp[d]
    ·simp[c,d,e];omega
theorem MZ {α:Type} {e:TypeId} {ee:D4 α} {wf:α→Prop} (ht:P.underlying t=some (.slice e)) (aJ:P.cellsOf e=ee.sz) (h0:0<ee.sz) (aK:MY P e ee wf) {b:Nat} (aB:P.bytesOf e=b):MY P t (BA ee) (fun xs=>xs.length*b≤140737488351232∧∀x∈xs,wf x):=by
 intro H enc w sp fuel cs x h v;rcases Go.Deep.open_slice ht h with⟨rfl,_⟩|⟨a,len,cap,m,n0,D,aQ,rfl,_,aC,aO,hm,aD,aA⟩
 ·exact⟨[],⟨none,0,rfl,Sl.nil _ _ _⟩,by simp,by simp⟩
 ·have aP:len≤m:=by rw[hm];split<;>omega
  subst aD;have l:len*b≤140737488351232:=by
   have:=v ((((List.range len).map D).length+((List.range (m-len)).map fun j=>D (len+j)).length)*P.bytesOf e) (by simp[DataW.weights,ht]);rw[aB] at this;have c:len*b≤(((List.range len).map D).length+((List.range (m-len)).map fun j=>D (len+j)).length)*b:=Nat.mul_le_mul_right _ (by simp);exact Nat.le_trans c this
  have p:∀i,i<len→LD P e (D i):=fun i hi n aE=>v n (by
   simp only[DataW.weights,ht];rw[List.mem_cons,List.mem_append];exact .inr (.inl (Jv aE (List.mem_map.2 ⟨i,by simpa using hi,rfl⟩))))
  have key:∀n,n≤len→∃Be xs,R2 ee w ZA Be xs∧xs.length=n∧(∀x∈xs,wf x)∧∀j u,Be.flatten[j]?=some u→w.cell? (a.add j)=some u:=by
   intro n
   induction n with
   |zero=>exact fun _=>⟨[],[],trivial,rfl,by simp,by simp⟩
   |succ n ih=>
    intro aE;obtain⟨Be,xs,h1,c,h3,q⟩:=ih (by omega);obtain⟨ds,aL,aF⟩:=aA n (by omega);obtain⟨z,aM,aG⟩:=aK _ _ _ _ _ _ _ aF (p n (by omega));obtain⟨aR,r⟩:=PQ aL;refine⟨Be++[ds],xs++[z],h1.append ⟨aM,trivial⟩,by simp[c],?_,?_⟩
    ·intro x f;rcases List.mem_append.1 f with f|f
     ·exact h3 x f
     ·rw[List.mem_singleton.1 f];exact aG
    ·intro j u d;rw[List.flatten_append] at d;rcases Nat.lt_or_ge j Be.flatten.length with g|k
     ·rw[List.getElem?_append_left g] at d;exact q j u d
     ·rw[List.getElem?_append_right k] at d;have s:=r (j-Be.flatten.length) u (by simpa using d);have aH:Be.flatten.length=n*ee.sz:=by rw[h1.Iw,c]
      rw[aH] at s k;rw[aJ] at s;rw[add_add k] at s;exact s
  obtain⟨Be,xs,h1,c,h3,q⟩:=key len (Nat.le_refl _);refine⟨xs,⟨some a,cap,by rw[c],by rw[c];exact aC,(fun e=>by cases e),Be,h1,?_⟩,by rw[c];exact l,h3⟩;cases aI:Be.flatten with
  |nil=>exact .inl rfl
  |cons u us=>
   have hu:=q 0 u (by rw[aI];rfl);obtain⟨b,o,y,g⟩:=QZ hu;have aN:a=⟨b,o,none⟩:=by
    obtain⟨b',o',pt⟩:=a;cases pt<;>simp[Addr.add] at y⊢;exact y
   subst aN;refine .inr ⟨b,o,rfl,trivial,g,fun j u d=>?_⟩;have:=q j u (by rw[aI];exact d);rw[Fp] at this;exact this
end
section
variable{H:Type}{enc:TypeId×Value→H}{P:Program}{W W':World}
theorem J5{sp:Nat→Bool}:∀{e:List TypeId} {vs:List Value} {ds:List (DataW H)} {ps:List MemPlace},DataW.TrodAll enc P W 0 sp true e vs ds ps→(∀p∈ps,W.sameAt W' p)→DataW.TrodAll enc P W' 0 sp true e vs ds ps
 |[],_,_,_,h,_=>by
  obtain⟨rfl,rfl,rfl⟩:=trodAll_nil h;exact rfl
 |_::_,_,_,_,h,f=>by
  obtain⟨v,j,d,k,a,b,rfl,rfl,rfl,⟨n,g⟩,i⟩:=trodAll_cons h;exact⟨a,b,⟨n,DataW.trod_carry n _ _ _ g fun p c=>f p (List.mem_append_left _ c)⟩,J5 i fun p c=>f p (List.mem_append_right _ c),rfl⟩
theorem Q0(K:Kids P (· <P.types.size))(c:∀t e,t<P.types.size→P.underlying t=some (.slice e)→0<P.cellsOf e){a:List TypeId}{vs:List Value}{ds:List (DataW H)}{ps:List MemPlace}(d:∀t∈a,t<P.types.size)
  (f:DataW.TrodAll enc P W 0 (fun _=>true) true a vs ds ps)(g:Ext W W')(b:∀p∈ps,p.block<W.heap.size)(sp:Nat→Bool)(h:∀p∈ps,sp p.block=true):DataW.TrodAll enc P W' 0 sp true a vs ds ps:=
 J5 (DataW.TrodAll.respare K c d f h) fun p i=>(J6 g).same (b p i)
variable{α:Type}{e:D4 α}{wf:α→Prop}{t:TypeId}{b0:Nat}{v:Value}{d:DataW H}{p:List MemPlace}{sp:Nat→Bool}
theorem Tt{c:Array Field}(ht:P.underlying t=some (.struct c))(f:MY P t e wf)(b:Value.okWide P W .any b0 t v)(h:DataW.Trod enc P W 0 sp true t v d p)(g:LD P t d):∃a cs,v=.agg cs.toArray∧e.R W ZA cs a∧wf a:=by
 unfold Value.okWide at b;rw[ht] at b;obtain⟨cs,rfl,_⟩:=b;obtain⟨n,i⟩:=h;obtain⟨a,h1,j⟩:=f _ _ _ _ _ _ _ i g;exact⟨a,cs.toList,by simp,h1,j⟩
theorem UK{ee:TypeId}(ht:P.underlying t=some (.slice ee)){wf:List α→Prop}(f:MY P t (BA e) wf)(g:Value.okWide P W .any b0 t v)(h:DataW.Trod enc P W 0 sp true t v d p)(i:LD P t d):∃xs A c,v=.slice A xs.length c∧Sl e W ZA A c xs∧wf xs:=by
 obtain⟨A,n,c,rfl⟩:=okWide_slice ht g;obtain⟨m,hm⟩:=h;obtain⟨xs,⟨a,b,h1,j⟩,h3⟩:=f _ _ _ _ _ _ _ hm i;have:Value.slice A n c=Value.slice a xs.length b:=by simpa[Value.cells] using h1
 exact⟨xs,a,b,this,j,h3⟩
theorem Tu{k:IntKind}(ht:P.underlying t=some (.int k))(a:Value.okWide P W .any b0 t v)(h:DataW.Trod enc P W 0 sp true t v d p):∃n,v=.int k n∧Hf k n:=by
 obtain⟨n,h1,_,_,b⟩:=open_int ht a h;exact⟨n,h1,b⟩
theorem Oy {f:Func} {s:ChangeSpec} {apart fresh handsOn again:Bool} {args:Array Value} {v:Value} {ds gs:List (DataW H)} {before pa pv:List MemPlace}
  (k:DataW.Whole enc P f.params.toList s.vars apart W args.toList ds gs before)
  (g:∀(b:Nat) (sp:Nat→Bool) (n:Bool),DataW.TrodAll enc P W' b sp n f.resultTypes.toList (v.resultList f.resultTypes.size) (s.fn H (ds++gs)).results [])
  (c:∀sp:Nat→Bool,(∀p∈before,sp p.block=true)→DataW.TrodAll enc P W' 0 sp true f.params.toList args.toList (s.fn H (ds++gs)).args pa)
  (d:∀sp:Nat→Bool,(∀p∈before,sp p.block=true)→DataW.TrodVars enc P W' sp s.vars (s.fn H (ds++gs)).vars pv)
  (e:before=pa++pv) (o:Ext W W')
  (l:∀(j:Nat) (t:TypeId) (r:Value),f.resultTypes[j]?=some t→(v.resultList f.resultTypes.size)[j]?=some r→Value.okWide P W' .any 0 t r):
  s.post enc P f apart fresh handsOn again W args v W':=by
 have m:=J6 o;have h:∀p∈before,p.block<W.heap.size:=fun p a=>k.lt p a;have hold:∀p∈before,(fun b=>decide (b<W.heap.size)) p.block=true:=fun p a=>by simpa using h p a
 refine⟨ds,gs,before,[],pa,pv,k,g _ _ _,c _ hold,d _ hold,World.keptBut_mono (fun p a=>⟨a,?_⟩) (m.frame (· ∈before)),fun _=>?_⟩
 ·rw[e,List.mem_append] at a;exact Or.inr a
 ·obtain⟨_,_,_,_,_,q,u⟩:=k;refine⟨l,_,_,([]++pa)++pv,⟨[]++pa,pv,trodAll_append (c _ (fun _ _=>rfl)) (g _ _ _),d _ (fun _ _=>rfl),rfl,?_,?_⟩,?_⟩
  ·intro b off a;have i:MemPlace.cell b off∈before:=by rw[e];simpa using a
   rw[m.frozen (h _ i)];exact q b off i
  ·intro w;have:=u w;rw[e] at this;simpa using this
  ·intro p a _;rw[e];simpa using a
theorem Q1{f:FuncId}{args:Array Value}{w:World}{R:Value→World→Prop}(h:BL P f args w R):Calls P f args w (fun e w'=>∃v,e=.returned v∧R v w'):=h
end
end Go.Proofs.YtkljfdkmjdjpfaaGreat
end
section
set_option linter.unusedVariables false
set_option linter.unusedSimpArgs false
namespace Go.Proofs.YtkljfdkmjdjpfaaGreat
open Go.RowKit Go.ChangeShapes Go.WideShapes
theorem Vk:∀{cs:List Value},cs.length=2→∃a0 a1,cs=[a0,a1]
 |[a0,a1],_=>⟨a0,a1,rfl⟩
theorem Sc:∀{cs:List Value},cs.length=5→∃a0 a1 a2 a3 a4,cs=[a0,a1,a2,a3,a4]
 |[a0,a1,a2,a3,a4],_=>⟨a0,a1,a2,a3,a4,rfl⟩
theorem Tv:MY Tryz.prog 116 OG (fun x=>(Hf .i64 x.Lo∧Hf .i64 x.Hi)):=by
 intro H enc w sp fuel cs x h c;obtain⟨d,j,e⟩:=Jb Tryz.underlying116 h;have k:Tryz.prog.cellsOf 116=2:=by kernel_rfl
 rw[k] at d;have f:Tryz.prog.cellsOf 3=1:=by kernel_rfl
 obtain⟨a0,a1,rfl⟩:=Vk d;obtain⟨l,a,g⟩:=e 0 3 0 rfl;simp only[f,List.drop_zero,List.drop_succ_cons,List.take_succ_cons,List.take_zero] at a;obtain⟨n0,h0,w0⟩:=(G3 Tryz.underlying3) _ _ _ _ _ _ _ a (g c);cases h0;obtain⟨y1,b,i⟩:=e 1 3 1 rfl;simp only[f,List.drop_zero,List.drop_succ_cons,List.take_succ_cons,List.take_zero] at b;obtain⟨n1,h1,w1⟩:=(G3 Tryz.underlying3) _ _ _ _ _ _ _ b (i c);cases h1;exact⟨⟨n0,n1⟩,rfl,w0,w1⟩
theorem Tw:MY Tryz.prog 118 AM (fun x=>((Hf .i64 ((⟨x.Ar,x.AE⟩:CE).Lo)∧Hf .i64 ((⟨x.Ar,x.AE⟩:CE).Hi))∧Hf .i64 x.AP∧Hf .i64 x.Ce∧Hf .i64 x.BZ)):=by
 intro H enc w sp fuel cs x h a;obtain⟨j,o,b⟩:=Jb Tryz.underlying118 h;have p:Tryz.prog.cellsOf 118=5:=by kernel_rfl
 rw[p] at j;have g:Tryz.prog.cellsOf 3=1:=by kernel_rfl
 have i:Tryz.prog.cellsOf 116=2:=by kernel_rfl
 obtain⟨a0,a1,a2,a3,a4,rfl⟩:=Sc j;obtain⟨u,c,k⟩:=b 0 116 0 rfl;simp only[i,List.drop_zero,List.drop_succ_cons,List.take_succ_cons,List.take_zero] at c;obtain⟨n0,h0,w0⟩:=Tv _ _ _ _ _ _ _ c (k a);cases h0;obtain⟨y1,d,l⟩:=b 1 3 2 rfl;simp only[g,List.drop_zero,List.drop_succ_cons,List.take_succ_cons,List.take_zero] at d;obtain⟨n1,h1,w1⟩:=(G3 Tryz.underlying3) _ _ _ _ _ _ _ d (l a);cases h1;obtain⟨v,e,m⟩:=b 2 3 3 rfl;simp only[g,List.drop_zero,List.drop_succ_cons,List.take_succ_cons,List.take_zero] at e;obtain⟨q,r,w2⟩:=(G3 Tryz.underlying3) _ _ _ _ _ _ _ e (m a);cases r;obtain⟨y,f,n⟩:=b 3 3 4 rfl;simp only[g,List.drop_zero,List.drop_succ_cons,List.take_succ_cons,List.take_zero] at f;obtain⟨s,h3,t⟩:=(G3 Tryz.underlying3) _ _ _ _ _ _ _ f (n a);cases h3;exact⟨⟨n0.Lo,n0.Hi,n1,q,s⟩,rfl,w0,w1,w2,t⟩
theorem UL:MY Tryz.prog 63 GG (fun x=>(Hf .i64 x.Ak∧Hf .i64 x.Ai∧Hf .i64 x.Ao∧Hf .i64 x.Aw∧(x.Ad.length*40≤140737488351232∧∀y∈x.Ad,((Hf .i64 ((⟨y.Ar,y.AE⟩:CE).Lo)∧Hf .i64 ((⟨y.Ar,y.AE⟩:CE).Hi))∧Hf .i64 y.AP∧Hf .i64 y.Ce∧Hf .i64 y.BZ)))):=by
 intro H enc w sp fuel cs x h a;obtain⟨k,r,c⟩:=Jb Tryz.underlying63 h;have s:Tryz.prog.cellsOf 63=5:=by kernel_rfl
 rw[s] at k;have d:Tryz.prog.cellsOf 3=1:=by kernel_rfl
 have l:Tryz.prog.cellsOf 61=1:=by kernel_rfl
 obtain⟨a0,a1,a2,a3,a4,rfl⟩:=Sc k;obtain⟨aF,e,m⟩:=c 0 3 0 rfl;simp only[d,List.drop_zero,List.drop_succ_cons,List.take_succ_cons,List.take_zero] at e;obtain⟨n0,h0,w0⟩:=(G3 Tryz.underlying3) _ _ _ _ _ _ _ e (m a);cases h0;obtain⟨y1,f,n⟩:=c 1 3 1 rfl;simp only[d,List.drop_zero,List.drop_succ_cons,List.take_succ_cons,List.take_zero] at f;obtain⟨n1,h1,w1⟩:=(G3 Tryz.underlying3) _ _ _ _ _ _ _ f (n a);cases h1;obtain⟨aG,g,o⟩:=c 2 3 2 rfl;simp only[d,List.drop_zero,List.drop_succ_cons,List.take_succ_cons,List.take_zero] at g;obtain⟨t,u,w2⟩:=(G3 Tryz.underlying3) _ _ _ _ _ _ _ g (o a);cases u;obtain⟨aH,i,p⟩:=c 3 3 3 rfl;simp only[d,List.drop_zero,List.drop_succ_cons,List.take_succ_cons,List.take_zero] at i;obtain⟨v,h3,z⟩:=(G3 Tryz.underlying3) _ _ _ _ _ _ _ i (p a);cases h3;obtain⟨aI,j,q⟩:=c 4 61 4 rfl;simp only[l,List.drop_zero,List.drop_succ_cons,List.take_succ_cons,List.take_zero] at j;obtain⟨n4,⟨aA,aB,aC,aD⟩,aE⟩:=(MZ (b:=40) Tryz.underlying61 (by kernel_rfl) (by decide) Tw (by kernel_rfl)) _ _ _ _ _ _ _ j (q a);cases aC;exact⟨⟨n0,n1,t,v,n4⟩,⟨aA,aB,rfl,aD⟩,w0,w1,w2,z,aE⟩
theorem VZ:ownKnob Tryz.prog.godebug=none:=by kernel_rfl
theorem Vl:Kids Tryz.prog (· <Tryz.prog.types.size):=kids_rows (by kernel_rfl) (by kernel_rfl)
theorem Vm:∀t e,t<Tryz.prog.types.size→Tryz.prog.underlying t=some (.slice e)→0<Tryz.prog.cellsOf e:=slices_full_of Tryz.prog (by kernel_rfl)
theorem Wj{x:Int}(h:Hf .u8 x):0≤x∧x<256:=by
 have a:(decide (IntKind.u8.min≤x)&&decide (x≤IntKind.u8.max))=true:=h;rw[Bool.and_eq_true,decide_eq_true_eq,decide_eq_true_eq] at a;have b:IntKind.u8.min=0:=by decide
 have c:IntKind.u8.max=255:=by decide
 omega
theorem UM{x:Int}(h:Hf .u16 x):0≤x∧x<65536:=by
 have a:(decide (IntKind.u16.min≤x)&&decide (x≤IntKind.u16.max))=true:=h;rw[Bool.and_eq_true,decide_eq_true_eq,decide_eq_true_eq] at a;have b:IntKind.u16.min=0:=by decide
 have c:IntKind.u16.max=65535:=by decide
 omega
end Go.Proofs.YtkljfdkmjdjpfaaGreat
end
section
set_option linter.unusedVariables false
set_option linter.unusedSimpArgs false
namespace Go.Proofs.YtkljfdkmjdjpfaaGreat
open Go.RowKit Go.ChangeShapes Go.WideShapes Go.ChangeAt
theorem M4(y:Ap)(n:Int)(ws:List Int)(h1:Hf .u16 n)(h9:(ws.length*1≤140737488351232∧∀y∈ws,Hf .u8 y)):∃K,Es K y n ws=some true:=ME y n (by have:=UM h1;omega) (by have:=UM h1;omega) ws (fun x a=>by have:=Wj (h9.2 x a);omega)
set_option maxRecDepth 100000 in
theorem LF(os:Os)(started:os.Started)(H:Type)(enc:TypeId×Value→H):
  ReturnsInHanded {} Tryz.checked os 8 .any (Rows.rackTruthSpec.pre6 enc Tryz.prog Tryz.f8 Rows.rackTruthRow.domain false) (Rows.rackTruthSpec.post enc Tryz.prog Tryz.f8 false true false false):=by
 refine returnsInHanded_of_change_sized (C:=Tryz.checked) VZ started (by kernel_rfl) Tryz.func8
  (ChangeSpec.witness6 (enc:=enc) (C:=Tryz.checked) false ⟨#[], #[.agg #[.int .i64 0,.int .i64 0,.int .i64 0,.int .i64 0,.slice none 0 0],.int .u16 0,.slice none 0 0],[]⟩ 8 (by kernel_rfl) (by kernel_rfl) (by kernel_rfl) (by kernel_rfl)) ?_
 intro W base args ds gs before f m aB n _;have a:∀(j:Nat) t v,Tryz.f8.params[j]?=some t→args[j]?=some v→Value.okWide Tryz.prog W .any base t v:=f;have d:=m;obtain⟨p,q,o,aC,rfl,aM,aN⟩:=m;have h:DataW.TrodAll enc Tryz.prog W 0 (fun _=>true) true Tryz.f8.params.toList args.toList ds p:=o;obtain⟨rfl,rfl⟩:=trodVars_none aC;simp only[List.append_nil] at d;have r:∀x∈p,x.block<W.heap.size:=fun x g=>by simpa using d.lt x g
 have s:=h;have c:(DataW.weightsEach Tryz.prog (Tryz.f8.params.toList++[]) (ds++[])).all (· ≤reachBytes)=true:=n;rw[Tryz.params8] at h a c;obtain⟨v0,v1,v2,d0,d1,d2,aD,aE,aF,rfl,rfl,rfl,h0,h1,aG⟩:=trodAll_three h;obtain⟨u,aO,w,⟨i,k,rfl,l⟩,w0⟩:=Tt Tryz.underlying63 UL (a 0 63 v0 rfl rfl) h0 (Pc (j:=0) c rfl rfl);obtain⟨x1,y,w1⟩:=Tu Tryz.underlying27 (a 1 27 v1 rfl rfl) h1;obtain⟨x2,aH,aI,z,s2,w2⟩:=UK Tryz.underlying109 (MZ (b:=1) Tryz.underlying109 (by kernel_rfl) (by decide) (G3 Tryz.underlying5) (by kernel_rfl)) (a 2 109 v2 rfl rfl) aG (Pc (j:=2) c rfl rfl);subst w;subst y;subst z;obtain⟨K,aJ⟩:=M4 u x1 x2 w1 w2;refine(Q1 (a8 K u x1 x2 i k aH aI ZA W l s2 aJ)).mono fun e W' ⟨v,he,g,aK⟩=>?_;subst he;subst aK;exact⟨_,rfl,Oy (pa:=(aD++aE++aF)) (pv:=[]) d (fun _ _ _=>trodAll_mk1 (shut_bool Tryz.underlying4 _)) (fun sp aL=>Q0 Vl Vm (by rw[Tryz.params8];decide) s g r sp (fun x aA=>aL x (by simpa using aA))) (fun _ _=>rfl) (by simp) g (ok_one (by kernel_rfl) rfl (okWide_bool_mk Tryz.underlying4 _))⟩
theorem rackTruth_holds:Rows.RackTruthSaid:=
 OpenClaim.holds_of_wide 8 Tryz.f8 rfl rfl rfl rfl rfl rfl rfl ⟨rfl,rfl,rfl,rfl,rfl⟩ rfl rfl rfl rfl rfl (by kernel_rfl) Tryz.func8 (by kernel_rfl)
  (of_decide_eq_true (by kernel_rfl)) (by unfold Func.isWrapper;first|(rw[if_pos (by decide+kernel)];kernel_rfl)|(rw[if_neg (by decide+kernel)];exact⟨rfl,rfl⟩))
  (fun os started H enc _=>LF os started H enc)
end Go.Proofs.YtkljfdkmjdjpfaaGreat
end
