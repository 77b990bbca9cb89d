import Derived.Test.YtbhofkcbfblijaaGreatETradePlays
import Derived.Test.YtbhofkcbfblijaaGreatRows
/-
  Proved: the law TradePlays returns true for every argument that the row hands over, and leaves every argument as it was; no condition beside the row's own.
-/
set_option linter.all false
section
namespace Go.Proofs.YtbhofkcbfblijaaGreat
open Go.RowKit Go.WideShapes
def MH(c:Nat)(d:Aj)(e:List Int)(b:(List Int)×Int):Nat→Int→Option ((Bool)⊕(Unit))
 |0,_=>none
 |h+1,a=>cond (decide (a<(b.1.length:Int))) ((idx b.1 a).bind fun f=>(Cs c d e a).bind fun g=>cond (f !=g) (some (.inl false)) ((i64 (a+1)).bind fun _=>MH c d e b h (a+1))) (some (.inr ()))
def Hf(c:Nat)(d:Aj)(e:List Int)(b:(List Int)×Int):Nat→Int→Option ((Bool)⊕(Unit))
 |0,_=>none
 |h+1,a=>cond (decide (a<(b.1.length:Int))) ((idx b.1 a).bind fun f=>(Cs c d e a).bind fun g=>cond (f !=g) (some (.inl false)) ((i64 (a+1)).bind fun _=>Hf c d e b h (a+1))) (some (.inr ()))
def MI(c:Nat)(d:Aj)(e:List Int)(b:(List Int)×Int):Nat→Int→Option ((Bool)⊕(Unit))
 |0,_=>none
 |h+1,a=>cond (decide (a<(b.1.length:Int))) ((idx b.1 a).bind fun f=>(Cs c d e a).bind fun g=>cond (f !=g) (some (.inl false)) ((i64 (a+1)).bind fun _=>MI c d e b h (a+1))) (some (.inr ()))
def Mq(a:Nat)(c:Aj)(e:List Int):Option (Bool):=
 (Gf a c).bind fun r=>cond (!r) ((EG (Bx a=some true)).bind fun _=>some (true)) (cond (decide ((8:Int)<(e.length:Int))) ((EG (Bx a=some true)).bind fun _=>some (true)) ((Co a c).bind fun j=>(CM a e).bind fun k=>(Mk a j k).bind fun b=>(Co a c).bind fun l=>(CM a e).bind fun m=>(Jn a l m).bind fun i=>(DY a c).bind fun d=>(Co a c).bind fun n=>(KC a n).bind fun o=>cond (o !=d) (some (false)) (cond (d==0) ((Ns a c e).bind fun p=>cond (i !=p) (some (false)) ((C3 a (⟨c.Al,c.Ac,c.Ap⟩:AV) e).bind fun q=>cond (!q) (cond ((2:Int) !=(0:Int)) (cond (b.2==2) (cond ((b.1.length:Int)==0) ((EG (Bx a=some true)).bind fun _=>some (true)) (some (false))) (some (false))) (cond (b.2 !=0) (some (false)) (cond ((b.1.length:Int) !=(c.Ac.length:Int)) (some (false)) ((MH a c e b a (0:Int)).bind fun z=>Sum.elim (fun f=>some (f)) (fun f=>(EG (Bx a=some true)).bind fun _=>some (true)) z)))) (cond (d !=0) (cond (b.2==d) (cond ((b.1.length:Int)==0) ((EG (Bx a=some true)).bind fun _=>some (true)) (some (false))) (some (false))) (cond (b.2 !=0) (some (false)) (cond ((b.1.length:Int) !=(c.Ac.length:Int)) (some (false)) ((Hf a c e b a (0:Int)).bind fun z=>Sum.elim (fun g=>some (g)) (fun g=>(EG (Bx a=some true)).bind fun _=>some (true)) z)))))) (cond (i !=false) (some (false)) (cond (d !=0) (cond (b.2==d) (cond ((b.1.length:Int)==0) ((EG (Bx a=some true)).bind fun _=>some (true)) (some (false))) (some (false))) (cond (b.2 !=0) (some (false)) (cond ((b.1.length:Int) !=(c.Ac.length:Int)) (some (false)) ((MI a c e b a (0:Int)).bind fun z=>Sum.elim (fun h=>some (h)) (fun h=>(EG (Bx a=some true)).bind fun _=>some (true)) z))))))))
end Go.Proofs.YtbhofkcbfblijaaGreat
end
section
namespace Go.Proofs.YtbhofkcbfblijaaGreat
section
variable{K:Nat}(hK:1000≤K)
include hK
theorem AfW{t:Aj}(a:OkT t){l:List Int}(hl:DE t.Al l=true):Hf K t l (As t l,0) K 0=some (.inr ()):=by
 have b:=a.kl;have c:=Df t l;have:=Me (As t l) (fun m i=>Hf K t l (As t l,0) m (i:Int)) (fun _=>true) false
  (fun m i hi=>by
   show Hf K t l (As t l,0) (m+1) (i:Int)=_;rw[Hf.eq_2,ct (dt (show(i:Int)<((As t l).length:Int) by omega)),BS (xs:=(As t l)) hi,bd (Kf hK a hl (by omega)),cf (E6 rfl),AZ (by omega) (by omega),CZ i,ct rfl])
  (fun m=>by
   show Hf K t l (As t l,0) (m+1) ((As t l).length:Int)=_;rw[Hf.eq_2,cf (df (show¬((As t l).length:Int)<((As t l).length:Int) by omega))]) (k:=K) (by omega)
 rw[show(As t l).all (fun _=>true)=true from List.all_eq_true.2 fun _ _=>rfl,ct rfl] at this;exact this
theorem WK(ha:Bx K=some true)(t:Aj)(l:List Int):Mq K t l=some true:=by
 unfold Mq;rw[bd (O5 hK t)];cases h:DP t with
 |false=>rw[nf,Dt ha]
 |true=>
  rw[nt]
  by_cases c:8<l.length
  ·rw[ct (dt (by omega)),Dt ha]
  have hlen:=E9 h;rw[cf (df (by omega)),bd (GI hK t hlen),bd (Kp hK l (by omega)),bd (Aaq hK h l),bd (GI hK t hlen),bd (Kp hK l (by omega)),bd (Ta hK h (by omega)),bd (PL hK hlen),bd (GI hK t hlen),bd (Iq hK t hlen),cf (E6 rfl)]
  by_cases h0:CP t=0
  ·have a:=D6 h h0;have b:C3 K ⟨t.Al,t.Ac,t.Ap⟩ l=some (DE t.Al l):=Kb hK t.C l hlen.1.1 (by omega);rw[ct (EO h0),bd (AaU hK a (by omega)),dt h0,Bool.true_and,cf (by simp),bd b,if_neg (by simp[h0])];cases hl:DE t.Al l with
   |false=>rw[nf,if_neg (by simp),ct (Fy (by omega)),ct (EO rfl),ctl,Dt ha]
   |true=>
    rw[nt,if_pos rfl,cf (E6 h0),cf (E6 rfl),cf (E6 (by rw[Df]))];have:=AfW hK a hl;rw[bd this];show(EG _).bind _=_;rw[Dt ha]
  ·rw[cf (Gw h0),df h0,Bool.false_and,cf (by simp),ct (Fy h0),if_pos h0,ct (EO rfl),ctl,Dt ha]
end
theorem XE(t:Aj)(l:List Int):∃K,Mq K t l=some true:=⟨1000,WK (Nat.le_refl _) Lc t l⟩
end Go.Proofs.YtbhofkcbfblijaaGreat
end
section
namespace Go.Proofs.YtbhofkcbfblijaaGreat
open Go.RowKit Go.WideShapes
set_option maxRecDepth 20000
open HF
attribute [local irreducible] Eb WL CC CW LV Cw JC HO One Bv
set_option maxHeartbeats 4000000 in
theorem a15 aE f aF g i d e j m p q r s t u y z(Z:Nat→Prop) w(iY:Sl AM w Z g i f.Al)(iZ:Sl (BO (Ay .i64)) w Z d e f.Ac)(i0:Sl AQ w Z j m f.Ap)(i1:Sl Bm w Z p q f.AH)(i2:Sl Bl w Z r s f.Aw)(i3:Sl BA w Z t u f.Ao)(i4:Sl (Ay .i64) w Z y z aF)(a:Mq aE f aF=some true):
 Cw Tryz.prog 15 #[.agg (Am g i d e j m p q r s t u f).toArray,.slice y aF.length z] w (fun v w'=>Ext w w'∧v=.bool true):=by
 unfold Mq at a;refine AS (N:=99) Tryz.func15 rfl rfl (by simp) ?_;intro mE ha mF;have jO:=sA 0 ha;have a2:=sA 1 ha;clear ha;have jB:Hp FN [] w [] w:=Hp.start (Cc.none w);have ⟨gY,gZ,g0,g1,g2,g3,g4⟩:=E0 iY iZ i0 i1 i2 i3 i4 (Bh (Z:=Z) (L:=[]) w);refine Af<|Ad<|wE (fun st=>Ci (v:=.agg (Am g i d e j m p q r s t u f).toArray) (cs:=(Am g i d e j m p q r s t u f).toArray) (ee st jO) rfl) ?_;rintro _ w1 ⟨b1,rfl,eF⟩;have lM:=jB.nb eF;have lZ:=jB.Cr eF;refine wA (v:=.bool false) rfl<|Ag<|Ab<|Af<|Af<|Ad<|wD (fun st=>AR (l:=(Am g i d e j m p q r s t u f)) Cj (eR st) eF.bk rfl rfl) ?_;have ⟨eG,eH,eI,eJ,eK,eM⟩:=Cz gY gZ g0 g1 g2 g3 (AP eF);replace a:=bind_some a;obtain⟨iD,lN,a⟩:=a;refine wE (fun st=>Ar O6 (eR st) (CR (eR st)) (Tc aE f g i d e j m p q r s t u ZA _ eG.all eH.all eI.all eJ.all eK.all eM.all iD lN)) ?_;rintro _ m1 ⟨gT,rfl⟩;have gU:=lM.ext gT;refine wD (fun st=>Dz (eR st))<|wM (v:=.bool !iD) rfl ?_;rcases Ak (!iD) with aT|aT
 ·replace a:=Az a aT;have l0:iD=false:=by simpa using aT
  refine Au (c:=true) rfl rfl (Ae rfl aT) (by decide) rfl (by decide)<|Au (c:=true) rfl rfl (Ae rfl aT) (by decide) rfl (by decide)<|Au (c:=true) rfl rfl (Ae rfl aT) (by decide) rfl (by decide)<|wD (fun st=>AY (v:=.bool true) (eR st) aT (eR st))<|Ag<|Ab<|AD rfl rfl<|Af<|Ad ?_;replace a:=Ck a;obtain⟨lO,a⟩:=a;refine wE (fun st=>Ar EI (eR st) Gx (a37 aE ZA _ lO)) ?_;rintro _ m2 ⟨lP,rfl⟩;have lQ:=gU.ext lP;refine wA (v:=.bool true) rfl<|Ag<|Ab<|AI<|Ax ?_;have aD:=oi a;refine AJ rfl rfl ?_;exact⟨lQ.Bc,congrArg Value.bool aD⟩
 ·replace a:=AA a aT;have l1:iD=true:=by simpa using aT
  refine An rfl rfl (Ae rfl aT) rfl (by decide) (fun st=>Aq (v:=.slice y aF.length z) (ee st a2))<|An rfl rfl (Ae rfl aT) rfl (by decide) (fun st=>Bu Tryz.underlying31 (eR st))<|An rfl rfl (Ae rfl aT) rfl (by decide) (fun st=>HJ (eR st) (eR st))<|wD (fun st=>BC (v:=.bool (decide ((8:Int)<(aF.length:Int)))) (eR st) aT (eR st))<|Ag<|Ab ?_;rcases Ak (decide ((8:Int)<(aF.length:Int))) with fV|fV
  ·replace a:=Az a fV;refine AD rfl fV<|Af<|Ad ?_;replace a:=Ck a;obtain⟨jP,a⟩:=a;refine wE (fun st=>Ar EI (eR st) Gx (a37 aE ZA _ jP)) ?_;rintro _ mG ⟨jQ,rfl⟩;have lR:=gU.ext jQ;refine wA (v:=.bool true) rfl<|Ag<|Ab<|AI<|Ax ?_;have aD:=oi a;refine AJ rfl rfl ?_;exact⟨lR.Bc,congrArg Value.bool aD⟩
  ·replace a:=AA a fV;refine AE rfl fV<|AL<|Ab<|Af<|Ad ?_;have gV:=(eF.bk.ext gT);refine wD (fun st=>AR (l:=(Am g i d e j m p q r s t u f)) Cj (eR st) gV rfl rfl) ?_;have ⟨eN,eO,eP,eQ,eS,eT⟩:=Cz eG eH eI eJ eK eM (Ah gT);replace a:=bind_some a;obtain⟨jC,jR,a⟩:=a;refine wE (fun st=>Ar GR (eR st) (CR (eR st)) (Lh aE f g i d e j m p q r s t u (zf Z w [some b1]) _ eN eO eP eQ eS eT jC jR)) ?_;rintro _ mH ⟨e4,⟨_,rfl,⟨g5,g6,g7,g8,g9,hA,hB,hC,hD,hE,hF,hG,rfl,bC,bD,bE,bF,bG,bH⟩⟩⟩;have jD:=gU.ext e4;have ⟨bC,bD,bE,bF,bG,bH⟩:=Cz bC bD bE bF bG bH (gU.Da (Nat.le_refl _));refine wM (v:=.slice y aF.length z) a2 ?_;have eU:=(((g4.mv (AP eF)).mv (Ah gT)).mv (Ah e4));replace a:=bind_some a;obtain⟨jE,jS,a⟩:=a;refine wE (fun st=>Ar JW (eR st) (CR (eR st)) (a51 aE aF y z (zf Z w [some b1]) _ eU jE jS)) ?_;rintro _ mI ⟨dI,⟨iE,iF,rfl,cO⟩⟩;have jF:=jD.ext dI;have cO:=cO.mv (jD.Da (Nat.le_refl _));have ⟨e5,e6,e7,e8,e9,fA⟩:=Cz bC bD bE bF bG bH (Ah dI);replace a:=bind_some a;obtain⟨b,jT,a⟩:=a;refine wE (fun st=>Ar Aal (eR st) (Dw (eR st) (eR st)) (a32 aE jC jE g5 g6 g7 g8 g9 hA hB hC hD hE hF hG iE iF (zf Z w [some b1]) _ e5 e6 e7 e8 e9 fA cO b jT)) ?_;rintro _ mJ ⟨fB,⟨_,_,rfl,⟨n,o,rfl,aU⟩,rfl⟩⟩;have jG:=jF.ext fB;have aU:=aU.mv (jF.Da (Nat.le_refl _));refine wM (v:=.tuple #[.slice n b.1.length o,I b.2]) rfl<|wD (fun st=>BH (v:=.slice n b.1.length o) (eR st) rfl)<|wD (fun st=>BH (v:=I b.2) (eR st) rfl)<|wA (v:=.slice n b.1.length o) rfl<|wA (v:=I b.2) rfl<|Ag<|Ab<|Af<|Ad ?_;have gW:=(((gV.ext e4).ext dI).ext fB);refine wD (fun st=>AR (l:=(Am g i d e j m p q r s t u f)) Cj (eR st) gW rfl rfl) ?_;have ⟨eV,eW,eX,eY,eZ,e0⟩:=Cz eN eO eP eQ eS eT (mt (Ah e4) (mt (Ah dI) (Ah fB)));replace a:=bind_some a;obtain⟨jH,jU,a⟩:=a;refine wE (fun st=>Ar GR (eR st) (CR (eR st)) (Lh aE f g i d e j m p q r s t u (zf Z w [some b1]) _ eV eW eX eY eZ e0 jH jU)) ?_;rintro _ mK ⟨bI,⟨_,rfl,⟨hH,hI,hJ,hL,hM,hN,hO,hP,hQ,hR,hS,hT,rfl,bJ,bK,bL,bM,bN,bO⟩⟩⟩;have jI:=jG.ext bI;have ⟨bJ,bK,bL,bM,bN,bO⟩:=Cz bJ bK bL bM bN bO (jG.Da (Nat.le_refl _));refine wM (v:=.slice y aF.length z) a2 ?_;have cP:=(((eU.mv (Ah dI)).mv (Ah fB)).mv (Ah bI));replace a:=bind_some a;obtain⟨jJ,jV,a⟩:=a;refine wE (fun st=>Ar JW (eR st) (CR (eR st)) (a51 aE aF y z (zf Z w [some b1]) _ cP jJ jV)) ?_;rintro _ mL ⟨aV,⟨iG,iH,rfl,cQ⟩⟩;have lS:=jI.ext aV;have cQ:=cQ.mv (jI.Da (Nat.le_refl _));have ⟨fC,fD,fE,fF,fG,fH⟩:=Cz bJ bK bL bM bN bO (Ah aV);replace a:=bind_some a;obtain⟨dJ,jW,a⟩:=a;refine wE (fun st=>Ar Aar (eR st) (Dw (eR st) (eR st)) (a74 aE jH jJ hH hI hJ hL hM hN hO hP hQ hR hS hT iG iH ZA _ fC.all fD.all fE.all fF.all fG.all fH.all cQ.all dJ jW)) ?_;rintro _ mM ⟨a3,rfl⟩;have jX:=lS.ext a3;refine wA (v:=.bool dJ) rfl<|Ag<|Ab<|Af<|Ad ?_;have fW:=(((gW.ext bI).ext aV).ext a3);refine wD (fun st=>AR (l:=(Am g i d e j m p q r s t u f)) Cj (eR st) fW rfl rfl) ?_;have ⟨dK,dL,dM,dN,dO,dP⟩:=Cz eV eW eX eY eZ e0 (mt (Ah bI) (mt (Ah aV) (Ah a3)));replace a:=bind_some a;obtain⟨aC,jY,a⟩:=a;refine wE (fun st=>Ar QB (eR st) (CR (eR st)) (U1 aE f g i d e j m p q r s t u ZA _ dK.all dL.all dM.all dN.all dO.all dP.all aC jY)) ?_;rintro _ mN ⟨a4,rfl⟩;have iI:=jX.ext a4;refine wA (v:=I aC) rfl<|Ag<|Ab<|Af<|Af<|Ad ?_;have dQ:=(fW.ext a4);refine wD (fun st=>AR (l:=(Am g i d e j m p q r s t u f)) Cj (eR st) dQ rfl rfl) ?_;have ⟨bP,bQ,bR,bS,bT,bU⟩:=Cz dK dL dM dN dO dP (Ah a4);replace a:=bind_some a;obtain⟨jK,jZ,a⟩:=a;refine wE (fun st=>Ar GR (eR st) (CR (eR st)) (Lh aE f g i d e j m p q r s t u (zf Z w [some b1]) _ bP bQ bR bS bT bU jK jZ)) ?_;rintro _ mO ⟨aR,⟨_,rfl,⟨hU,hV,hW,hX,hY,hZ,h3,h4,h6,h7,h8,h9,rfl,bV,bW,bX,bY,bZ,b4⟩⟩⟩;have j0:=iI.ext aR;have ⟨bV,bW,bX,bY,bZ,b4⟩:=Cz bV bW bX bY bZ b4 (iI.Da (Nat.le_refl _));replace a:=bind_some a;obtain⟨iJ,j1,a⟩:=a;refine wE (fun st=>Ar Vv (eR st) (CR (eR st)) (a75 aE jK hU hV hW hX hY hZ h3 h4 h6 h7 h8 h9 ZA _ bV.all bW.all bX.all bY.all bZ.all b4.all iJ j1)) ?_;rintro _ mP ⟨aS,rfl⟩;have f4:=j0.ext aS;refine wM (v:=I aC) rfl<|wD (fun st=>DW (eR st) (eR st))<|wM (v:=.bool (iJ !=aC)) rfl ?_;rcases Ak (iJ !=aC) with aJ|aJ
   ·replace a:=Az a aJ;exact absurd (oi a) (by decide)
   ·replace a:=AA a aJ;refine An rfl rfl (Ae rfl aJ) rfl (by decide) (fun st=>Aq (v:=.bool dJ) (eR st))<|An rfl rfl (Ae rfl aJ) rfl (by decide) (fun st=>Aq (v:=I aC) (eR st))<|An rfl rfl (Ae rfl aJ) rfl (by decide) (fun st=>Dj (eR st) (eR st))<|An rfl rfl (Ae rfl aJ) rfl (by decide) (fun st=>Aq (v:=.bool (aC==0)) (eR st)) ?_;rcases Ak (aC==0) with aA|aA
    ·replace a:=Az a aA;have a5:=((dQ.ext aR).ext aS);refine An rfl rfl (Ae rfl aA) rfl (by decide) (fun st=>AR (l:=(Am g i d e j m p q r s t u f)) Cj (eR st) a5 rfl rfl)<|An rfl rfl (Ae rfl aA) rfl (by decide) (fun st=>Aq (v:=.slice y aF.length z) (ee st a2)) ?_;have ⟨aW,aX,aY,aK,aL,aM⟩:=Cz bP bQ bR bS bT bU (mt (Ah aR) (Ah aS));have aZ:=(((((cP.mv (Ah aV)).mv (Ah a3)).mv (Ah a4)).mv (Ah aR)).mv (Ah aS));replace a:=bind_some a;obtain⟨gX,j2,a⟩:=a;refine Di rfl rfl (Ae rfl aA) rfl (by decide) (fun st=>Ar AgH (eR st) (Dw (eR st) (eR st)) (a76 aE f aF g i d e j m p q r s t u y z ZA _ aW.all aX.all aY.all aK.all aL.all aM.all aZ.all gX j2)) ?_;rintro _ mQ ⟨b5,rfl⟩;have j3:=f4.ext b5;refine An rfl rfl (Ae rfl aJ) rfl (by decide) (fun st=>AY (v:=.bool gX) (eR st) aA (eR st))<|An rfl rfl (Ae rfl aJ) rfl (by decide) (fun st=>SK QP (eR st) (eR st))<|wD (fun st=>BC (v:=.bool (dJ !=gX)) (eR st) aJ (eR st))<|Ag<|Ab ?_;rcases Ak (dJ !=gX) with fI|fI
     ·replace a:=Az a fI;exact absurd (oi a) (by decide)
     ·replace a:=AA a fI;refine AE rfl fI<|AL<|Ab<|Af<|Af<|Ad<|wM (v:=I aC) rfl<|wD (fun st=>Dj (eR st) (eR st))<|wM (v:=.bool (aC==0)) rfl<|An rfl rfl (Ae rfl aA) rfl (by decide) (fun st=>Ai (eR st) (Ee _ _)) ?_;have dR:=(a5.ext b5);refine An rfl rfl (Ae rfl aA) rfl (by decide) (fun st=>AR (l:=[.slice g f.Al.length i,.slice d f.Ac.length e,.slice j f.Ap.length m]) EP (eR st) dR rfl rfl)<|An rfl rfl (Ae rfl aA) rfl (by decide) (fun st=>Aq (v:=.slice y aF.length z) (ee st a2)) ?_;have ⟨b6,b7,b8,b9⟩:=F4 aW aX aY aZ (Ah b5);replace a:=bind_some a;obtain⟨fX,j4,a⟩:=a;refine Di rfl rfl (Ae rfl aA) rfl (by decide) (fun st=>Ar Oa (eR st) (Dw (eR st) (eR st)) (Su aE (⟨f.Al,f.Ac,f.Ap⟩:AV) aF g i d e j m y z ZA _ b6.all b7.all b8.all b9.all fX j4)) ?_;rintro _ mR ⟨aN,rfl⟩;have fJ:=j3.ext aN;refine An rfl rfl (Ae rfl aA) rfl (by decide) (fun st=>Dz (eR st))<|wD (fun st=>AY (v:=.bool !fX) (eR st) aA (eR st))<|Ag<|Ab ?_;rcases Ak (!fX) with cA|cA
      ·replace a:=Az a cA;have lK:fX=false:=by simpa using cA
       refine AD rfl cA<|Ad<|wA (v:=I 2) rfl<|Ag<|Ab<|Af<|Af<|Ad<|wM (v:=I 2) rfl<|wD (fun st=>DW (eR st) (eR st))<|Ag<|Ab ?_;rcases Ak ((2:Int) !=(0:Int)) with dS|dS
       ·replace a:=Az a dS;refine AD rfl dS<|Af<|Ad<|wM (v:=I b.2) rfl<|wM (v:=I 2) rfl<|wD (fun st=>Dj (eR st) (eR st))<|wM (v:=.bool (b.2==2)) rfl ?_;rcases Ak (b.2==2) with cB|cB
        ·replace a:=Az a cB;refine An rfl rfl (Ae rfl cB) rfl (by decide) (fun st=>Aq (v:=.slice n b.1.length o) (eR st))<|An rfl rfl (Ae rfl cB) rfl (by decide) (fun st=>Bu Tryz.underlying31 (eR st))<|An rfl rfl (Ae rfl cB) rfl (by decide) (fun st=>Dj (eR st) (eR st))<|wD (fun st=>AY (v:=.bool ((b.1.length:Int)==0)) (eR st) cB (eR st))<|wM (v:=.bool ((b.1.length:Int)==0)) rfl ?_;rcases Ak ((b.1.length:Int)==0) with dT|dT
         ·replace a:=Az a dT;replace a:=Ck a;obtain⟨j5,a⟩:=a;refine Di rfl rfl (Ae rfl dT) rfl (by decide) (fun st=>Ar EI (eR st) Gx (a37 aE ZA _ j5)) ?_;rintro _ mS ⟨j6,rfl⟩;have j7:=fJ.ext j6;refine wD (fun st=>AY (v:=.bool true) (eR st) dT (eR st))<|wA (v:=.bool true) rfl<|Ag<|Ab<|AI<|Ax ?_;have aD:=oi a;refine AJ rfl rfl ?_;exact⟨j7.Bc,congrArg Value.bool aD⟩
         ·replace a:=AA a dT;exact absurd (oi a) (by decide)
        ·replace a:=AA a cB;exact absurd (oi a) (by decide)
       ·replace a:=AA a dS;refine AE rfl dS<|AL<|Ab<|Af<|Af<|Ad<|wM (v:=I b.2) rfl<|wD (fun st=>DW (eR st) (eR st))<|wM (v:=.bool (b.2 !=0)) rfl ?_;rcases Ak (b.2 !=0) with aO|aO
        ·replace a:=Az a aO;exact absurd (oi a) (by decide)
        ·replace a:=AA a aO;refine An rfl rfl (Ae rfl aO) rfl (by decide) (fun st=>Aq (v:=.slice n b.1.length o) (eR st))<|An rfl rfl (Ae rfl aO) rfl (by decide) (fun st=>Bu Tryz.underlying31 (eR st))<|An rfl rfl (Ae rfl aO) rfl (by decide) (fun st=>Ai (eR st) (Ee _ _))<|An rfl rfl (Ae rfl aO) rfl (by decide) (fun st=>Ai (eR st) (Ei _ _)) ?_;have a8:=(dR.ext aN);refine An rfl rfl (Ae rfl aO) rfl (by decide) (fun st=>AG (v:=.slice d f.Ac.length e) El (eR st) a8 rfl)<|An rfl rfl (Ae rfl aO) rfl (by decide) (fun st=>Bu Tryz.underlying23 (eR st))<|An rfl rfl (Ae rfl aO) rfl (by decide) (fun st=>DW (eR st) (eR st))<|wD (fun st=>BC (v:=.bool ((b.1.length:Int) !=(f.Ac.length:Int))) (eR st) aO (eR st))<|Ag<|Ab ?_;rcases Ak ((b.1.length:Int) !=(f.Ac.length:Int)) with fK|fK
         ·replace a:=Az a fK;exact absurd (oi a) (by decide)
         ·replace a:=AA a fK;refine AE rfl fK<|AL<|Ab<|Af<|Af<|Ad<|wA (v:=I 0) rfl<|Ag<|Ab<|AT ?_;replace a:=bind_some a;obtain⟨z46,cR,a⟩:=a;refine Cm (fun dU x aB=>(dU=.ret∧∃cS,z46=.inl cS∧x.tmps.size=99∧x.defers=(X0).ds∧sl x 4=.bool cS∧Hp FN [] w [some b1] aB)∨(dU=.exit 0∧∃cS,z46=.inr cS∧x.tmps.size=99∧x.defers=(X0).ds∧Hp FN [] w [some b1] aB)) ?j8 ?j9
          case j8=>
           clear a;refine Cl (fun(dV:Nat) (x:Act) (aB:World)=>∃aG,MH aE f aF b dV aG=some z46∧x.tmps.size=99∧x.defers=(X0).ds∧sl x 1=.slice y aF.length z∧sl x 2=pt b1 0∧sl x 5=.slice n b.1.length o∧sl x 9=I aG∧Hp FN [] w [some b1] aB∧Bk aB b1 67 (Am g i d e j m p q r s t u f).toArray∧Sl AM aB (zf Z w [some b1]) g i f.Al∧Sl (BO (Ay .i64)) aB (zf Z w [some b1]) d e f.Ac∧Sl AQ aB (zf Z w [some b1]) j m f.Ap∧Sl Bm aB (zf Z w [some b1]) p q f.AH∧Sl Bl aB (zf Z w [some b1]) r s f.Aw∧Sl BA aB (zf Z w [some b1]) t u f.Ao∧Sl (Ay .i64) aB (zf Z w [some b1]) n o b.1∧Sl (Ay .i64) aB (zf Z w [some b1]) y z aF) aE ?kA ?kB
           case kA=>
            intro st;have ⟨cC,cD,cE⟩:=EW b6 b7 b8 (Ah aN);have ⟨cF,cG,cH⟩:=EW aK aL aM (mt (Ah b5) (Ah aN));have a0:=((((((((aU.mv (Ah bI)).mv (Ah aV)).mv (Ah a3)).mv (Ah a4)).mv (Ah aR)).mv (Ah aS)).mv (Ah b5)).mv (Ah aN));have cI:=(b9.mv (Ah aN));exact⟨(0:Int),cR,qz st,qd st,sp st 1 a2,sp st 2 rfl,sp st 5 rfl,sp st 9 rfl,fJ,a8,cC,cD,cE,cF,cG,cH,a0,cI⟩
           case kB=>
            rintro(_|dV) l5 l6 ⟨aG,cR,i5,i6,fY,fZ,dW,cL,iK,e1,cX,cY,cZ,c0,c1,c2,a9,c3⟩
            ·exact absurd (show none=some _ from cR) (by simp)
            rw[MH.eq_2] at cR;have a:=cR;clear cR;refine B7 (N:=99) i5 i6<|Af<|Af<|Ad<|wM (v:=I aG) cL<|wM (v:=.slice n b.1.length o) dW<|wD (fun st=>Bu Tryz.underlying31 (eR st))<|wD (fun st=>CO (eR st) (eR st))<|Ag<|Ab ?_;rcases Ak (decide (aG<(b.1.length:Int))) with dX|dX
            ·replace a:=Az a dX;refine AD rfl dX<|AL<|Ab<|Af<|AT<|Af ?_;replace a:=AW a;obtain⟨i49,jL,kC,kD,kE,a⟩:=a;obtain⟨lT,lU,_,kF,rfl,kG⟩:=Sl.C1 a9 rfl kD;replace a:=bind_some a;obtain⟨iL,kH,a⟩:=a;refine B9 8 [Kc (.slice n b.1.length o),Kc (I aG),Kc (pt lT (lU+i49)),Kc (I jL),Kc (.agg (Am g i d e j m p q r s t u f).toArray),Kc (.slice y aF.length z),Kc (I aG),Kc (I iL)] mixed rfl rfl
                 (Aa (oD (fun K=>Aq (es ((K.out 5 rfl).trans dW))))
                 (Aa (oD (fun K=>Aq (es ((K.out 9 rfl).trans cL))))
                 (Aa (oD (fun K=>AX (k:=i49) Tryz.underlying31 DR (es (K.dq 0 89)) kF (es (K.dq 1 90)) kC kE))
                 (Aa (oD (fun K=>Bg Bz (es (K.dq 2 91)) (kG.mv (Ah K.AO)) rfl))
                 (Aa (oD (fun K=>AR (l:=(Am g i d e j m p q r s t u f)) Cj (es ((K.out 2 rfl).trans fZ)) (e1.ext K.AO) rfl rfl))
                 (Aa (oD (fun K=>Aq (es ((K.out 1 rfl).trans fY))))
                 (Aa (oD (fun K=>Aq (es ((K.out 9 rfl).trans cL))))
                 (Aa (Dl rfl rfl (fun a' w' ph K=>(Ar K4 rfl (EN (es (K.dq 4 93)) (es (K.dq 5 94)) (es (K.dq 6 95))) (PZ aE f aF aG g i d e j m p q r s t u y z ZA _ (cX.mv (Ah K.AO)).all (cY.mv (Ah K.AO)).all (cZ.mv (Ah K.AO)).all (c0.mv (Ah K.AO)).all (c1.mv (Ah K.AO)).all (c2.mv (Ah K.AO)).all (c3.mv (Ah K.AO)).all iL kH)).mono (fun _ _ h=>⟨h.2,h.1⟩)))
                 (B8 _))))))))) ?_
             intro mT;rintro _ rfl _ rfl _ rfl _ rfl _ rfl _ rfl _ rfl _ rfl f5;have iM:=iK.ext f5;refine wD (fun st=>DW (eR st) (eR st))<|Ag<|Ab ?_;rcases Ak (jL !=iL) with dY|dY
             ·replace a:=Az a dY;refine AD rfl dY<|Af<|Ad<|wA (v:=.bool false) rfl<|Ag<|Ab<|AI<|Bi<|Ax<|Ax ?_;obtain rfl:=oi a;refine B4 (fun st=>?_);exact .inl ⟨rfl,false,rfl,qz st,qd st,sp st 4 rfl,iM⟩
             ·replace a:=AA a dY;refine AE rfl dY<|AL<|Bs<|Ab<|Ad<|wM (v:=I aG) cL ?_;replace a:=AK a;obtain⟨kI,a⟩:=a;refine wD (fun st=>B0 (eR st) (eR st) kI)<|wA (v:=I (aG+1)) rfl<|Ag ?_;have iN:=(e1.ext f5);have ⟨f6,f7,f8,f9,gA,gB,fL,gC⟩:=Ii cX cY cZ c0 c1 c2 a9 c3 (Ah f5);refine Bw dV (Nat.lt_succ_self _) (fun st=>?_);exact⟨(aG+1),a,qz st,qd st,sp st 1 fY,sp st 2 fZ,sp st 5 dW,sp st 9 rfl,iM,iN,f6,f7,f8,f9,gA,gB,fL,gC⟩
            ·replace a:=AA a dX;refine AE rfl dX<|Cd<|AB<|AB ?_;obtain rfl:=oi a;refine B4 (fun st=>?_);exact .inr ⟨rfl,(),rfl,qz st,qd st,iK⟩
          case j9=>
           rintro dU l2 l7 (⟨rfl,cS,rfl,dZ,d0,iA,fM⟩|⟨rfl,cS,rfl,dZ,d0,fM⟩)
           ·skip
            replace a:=Eg a;refine Cn (X:=X0) (N:=99) dZ d0<|Bi<|Ax ?_;have aD:=oi a;refine AJ rfl iA ?_;exact⟨fM.Bc,congrArg Value.bool aD⟩
           ·skip
            replace a:=Eh a;refine Cn (X:=X0) (N:=99) dZ d0<|Bn<|Ab<|Af<|Ad ?_;replace a:=Ck a;obtain⟨kJ,a⟩:=a;refine wE (fun st=>Ar EI (eR st) Gx (a37 aE ZA _ kJ)) ?_;rintro _ mU ⟨kK,rfl⟩;have kL:=fM.ext kK;refine wA (v:=.bool true) rfl<|Ag<|Ab<|AI ?_;have aD:=oi a;refine AJ rfl rfl ?_;exact⟨kL.Bc,congrArg Value.bool aD⟩
      ·replace a:=AA a cA;have lL:fX=true:=by simpa using cA
       refine AE rfl cA<|AL<|Ab<|Af<|Af<|Ad<|wM (v:=I aC) rfl<|wD (fun st=>DW (eR st) (eR st))<|Ag<|Ab ?_;rcases Ak (aC !=0) with d1|d1
       ·replace a:=Az a d1;refine AD rfl d1<|Af<|Ad<|wM (v:=I b.2) rfl<|wM (v:=I aC) rfl<|wD (fun st=>Dj (eR st) (eR st))<|wM (v:=.bool (b.2==aC)) rfl ?_;rcases Ak (b.2==aC) with cJ|cJ
        ·replace a:=Az a cJ;refine An rfl rfl (Ae rfl cJ) rfl (by decide) (fun st=>Aq (v:=.slice n b.1.length o) (eR st))<|An rfl rfl (Ae rfl cJ) rfl (by decide) (fun st=>Bu Tryz.underlying31 (eR st))<|An rfl rfl (Ae rfl cJ) rfl (by decide) (fun st=>Dj (eR st) (eR st))<|wD (fun st=>AY (v:=.bool ((b.1.length:Int)==0)) (eR st) cJ (eR st))<|wM (v:=.bool ((b.1.length:Int)==0)) rfl ?_;rcases Ak ((b.1.length:Int)==0) with d2|d2
         ·replace a:=Az a d2;replace a:=Ck a;obtain⟨kM,a⟩:=a;refine Di rfl rfl (Ae rfl d2) rfl (by decide) (fun st=>Ar EI (eR st) Gx (a37 aE ZA _ kM)) ?_;rintro _ mV ⟨kN,rfl⟩;have kO:=fJ.ext kN;refine wD (fun st=>AY (v:=.bool true) (eR st) d2 (eR st))<|wA (v:=.bool true) rfl<|Ag<|Ab<|AI<|Ax ?_;have aD:=oi a;refine AJ rfl rfl ?_;exact⟨kO.Bc,congrArg Value.bool aD⟩
         ·replace a:=AA a d2;exact absurd (oi a) (by decide)
        ·replace a:=AA a cJ;exact absurd (oi a) (by decide)
       ·replace a:=AA a d1;refine AE rfl d1<|AL<|Ab<|Af<|Af<|Ad<|wM (v:=I b.2) rfl<|wD (fun st=>DW (eR st) (eR st))<|wM (v:=.bool (b.2 !=0)) rfl ?_;rcases Ak (b.2 !=0) with aP|aP
        ·replace a:=Az a aP;exact absurd (oi a) (by decide)
        ·replace a:=AA a aP;refine An rfl rfl (Ae rfl aP) rfl (by decide) (fun st=>Aq (v:=.slice n b.1.length o) (eR st))<|An rfl rfl (Ae rfl aP) rfl (by decide) (fun st=>Bu Tryz.underlying31 (eR st))<|An rfl rfl (Ae rfl aP) rfl (by decide) (fun st=>Ai (eR st) (Ee _ _))<|An rfl rfl (Ae rfl aP) rfl (by decide) (fun st=>Ai (eR st) (Ei _ _)) ?_;have a8:=(dR.ext aN);refine An rfl rfl (Ae rfl aP) rfl (by decide) (fun st=>AG (v:=.slice d f.Ac.length e) El (eR st) a8 rfl)<|An rfl rfl (Ae rfl aP) rfl (by decide) (fun st=>Bu Tryz.underlying23 (eR st))<|An rfl rfl (Ae rfl aP) rfl (by decide) (fun st=>DW (eR st) (eR st))<|wD (fun st=>BC (v:=.bool ((b.1.length:Int) !=(f.Ac.length:Int))) (eR st) aP (eR st))<|Ag<|Ab ?_;rcases Ak ((b.1.length:Int) !=(f.Ac.length:Int)) with fN|fN
         ·replace a:=Az a fN;exact absurd (oi a) (by decide)
         ·replace a:=AA a fN;refine AE rfl fN<|AL<|Ab<|Af<|Af<|Ad<|wA (v:=I 0) rfl<|Ag<|Ab<|AT ?_;replace a:=bind_some a;obtain⟨iO,cT,a⟩:=a;refine Cm (fun dU x aB=>(dU=.ret∧∃cU,iO=.inl cU∧x.tmps.size=99∧x.defers=(X0).ds∧sl x 4=.bool cU∧Hp FN [] w [some b1] aB)∨(dU=.exit 0∧∃cU,iO=.inr cU∧x.tmps.size=99∧x.defers=(X0).ds∧Hp FN [] w [some b1] aB)) ?kP ?kQ
          case kP=>
           clear a;refine Cl (fun(dV:Nat) (x:Act) (aB:World)=>∃aH,Hf aE f aF b dV aH=some iO∧x.tmps.size=99∧x.defers=(X0).ds∧sl x 1=.slice y aF.length z∧sl x 2=pt b1 0∧sl x 5=.slice n b.1.length o∧sl x 9=I aH∧Hp FN [] w [some b1] aB∧Bk aB b1 67 (Am g i d e j m p q r s t u f).toArray∧Sl AM aB (zf Z w [some b1]) g i f.Al∧Sl (BO (Ay .i64)) aB (zf Z w [some b1]) d e f.Ac∧Sl AQ aB (zf Z w [some b1]) j m f.Ap∧Sl Bm aB (zf Z w [some b1]) p q f.AH∧Sl Bl aB (zf Z w [some b1]) r s f.Aw∧Sl BA aB (zf Z w [some b1]) t u f.Ao∧Sl (Ay .i64) aB (zf Z w [some b1]) n o b.1∧Sl (Ay .i64) aB (zf Z w [some b1]) y z aF) aE ?kR ?kS
           case kR=>
            intro st;have ⟨cC,cD,cE⟩:=EW b6 b7 b8 (Ah aN);have ⟨cF,cG,cH⟩:=EW aK aL aM (mt (Ah b5) (Ah aN));have a0:=((((((((aU.mv (Ah bI)).mv (Ah aV)).mv (Ah a3)).mv (Ah a4)).mv (Ah aR)).mv (Ah aS)).mv (Ah b5)).mv (Ah aN));have cI:=(b9.mv (Ah aN));exact⟨(0:Int),cT,qz st,qd st,sp st 1 a2,sp st 2 rfl,sp st 5 rfl,sp st 9 rfl,fJ,a8,cC,cD,cE,cF,cG,cH,a0,cI⟩
           case kS=>
            rintro(_|dV) l8 l9 ⟨aH,cT,i7,i8,f0,f1,d3,cM,iP,e2,c4,c5,c6,c7,c8,c9,bA,dA⟩
            ·exact absurd (show none=some _ from cT) (by simp)
            rw[Hf.eq_2] at cT;have a:=cT;clear cT;refine B7 (N:=99) i7 i8<|Af<|Af<|Ad<|wM (v:=I aH) cM<|wM (v:=.slice n b.1.length o) d3<|wD (fun st=>Bu Tryz.underlying31 (eR st))<|wD (fun st=>CO (eR st) (eR st))<|Ag<|Ab ?_;rcases Ak (decide (aH<(b.1.length:Int))) with d4|d4
            ·replace a:=Az a d4;refine AD rfl d4<|AL<|Ab<|Af<|AT<|Af ?_;replace a:=AW a;obtain⟨i66,jM,kT,kU,kV,a⟩:=a;obtain⟨lV,lW,_,kW,rfl,kX⟩:=Sl.C1 bA rfl kU;replace a:=bind_some a;obtain⟨iQ,kY,a⟩:=a;refine B9 8 [Kc (.slice n b.1.length o),Kc (I aH),Kc (pt lV (lW+i66)),Kc (I jM),Kc (.agg (Am g i d e j m p q r s t u f).toArray),Kc (.slice y aF.length z),Kc (I aH),Kc (I iQ)] mixed rfl rfl
                 (Aa (oD (fun K=>Aq (es ((K.out 5 rfl).trans d3))))
                 (Aa (oD (fun K=>Aq (es ((K.out 9 rfl).trans cM))))
                 (Aa (oD (fun K=>AX (k:=i66) Tryz.underlying31 DR (es (K.dq 0 89)) kW (es (K.dq 1 90)) kT kV))
                 (Aa (oD (fun K=>Bg Bz (es (K.dq 2 91)) (kX.mv (Ah K.AO)) rfl))
                 (Aa (oD (fun K=>AR (l:=(Am g i d e j m p q r s t u f)) Cj (es ((K.out 2 rfl).trans f1)) (e2.ext K.AO) rfl rfl))
                 (Aa (oD (fun K=>Aq (es ((K.out 1 rfl).trans f0))))
                 (Aa (oD (fun K=>Aq (es ((K.out 9 rfl).trans cM))))
                 (Aa (Dl rfl rfl (fun a' w' ph K=>(Ar K4 rfl (EN (es (K.dq 4 93)) (es (K.dq 5 94)) (es (K.dq 6 95))) (PZ aE f aF aH g i d e j m p q r s t u y z ZA _ (c4.mv (Ah K.AO)).all (c5.mv (Ah K.AO)).all (c6.mv (Ah K.AO)).all (c7.mv (Ah K.AO)).all (c8.mv (Ah K.AO)).all (c9.mv (Ah K.AO)).all (dA.mv (Ah K.AO)).all iQ kY)).mono (fun _ _ h=>⟨h.2,h.1⟩)))
                 (B8 _))))))))) ?_
             intro mW;rintro _ rfl _ rfl _ rfl _ rfl _ rfl _ rfl _ rfl _ rfl gD;have iR:=iP.ext gD;refine wD (fun st=>DW (eR st) (eR st))<|Ag<|Ab ?_;rcases Ak (jM !=iQ) with d5|d5
             ·replace a:=Az a d5;refine AD rfl d5<|Af<|Ad<|wA (v:=.bool false) rfl<|Ag<|Ab<|AI<|Bi<|Ax<|Ax ?_;obtain rfl:=oi a;refine B4 (fun st=>?_);exact .inl ⟨rfl,false,rfl,qz st,qd st,sp st 4 rfl,iR⟩
             ·replace a:=AA a d5;refine AE rfl d5<|AL<|Bs<|Ab<|Ad<|wM (v:=I aH) cM ?_;replace a:=AK a;obtain⟨kZ,a⟩:=a;refine wD (fun st=>B0 (eR st) (eR st) kZ)<|wA (v:=I (aH+1)) rfl<|Ag ?_;have iS:=(e2.ext gD);have ⟨gE,gF,gG,gH,gI,gJ,fO,gK⟩:=Ii c4 c5 c6 c7 c8 c9 bA dA (Ah gD);refine Bw dV (Nat.lt_succ_self _) (fun st=>?_);exact⟨(aH+1),a,qz st,qd st,sp st 1 f0,sp st 2 f1,sp st 5 d3,sp st 9 rfl,iR,iS,gE,gF,gG,gH,gI,gJ,fO,gK⟩
            ·replace a:=AA a d4;refine AE rfl d4<|Cd<|AB<|AB ?_;obtain rfl:=oi a;refine B4 (fun st=>?_);exact .inr ⟨rfl,(),rfl,qz st,qd st,iP⟩
          case kQ=>
           rintro dU l3 mA (⟨rfl,cU,rfl,d6,d7,iB,fP⟩|⟨rfl,cU,rfl,d6,d7,fP⟩)
           ·skip
            replace a:=Eg a;refine Cn (X:=X0) (N:=99) d6 d7<|Bi<|Ax ?_;have aD:=oi a;refine AJ rfl iB ?_;exact⟨fP.Bc,congrArg Value.bool aD⟩
           ·skip
            replace a:=Eh a;refine Cn (X:=X0) (N:=99) d6 d7<|Bn<|Ab<|Af<|Ad ?_;replace a:=Ck a;obtain⟨k0,a⟩:=a;refine wE (fun st=>Ar EI (eR st) Gx (a37 aE ZA _ k0)) ?_;rintro _ mX ⟨k1,rfl⟩;have k2:=fP.ext k1;refine wA (v:=.bool true) rfl<|Ag<|Ab<|AI ?_;have aD:=oi a;refine AJ rfl rfl ?_;exact⟨k2.Bc,congrArg Value.bool aD⟩
    ·replace a:=AA a aA;refine Au (c:=false) rfl rfl (Ae rfl aA) (by decide) rfl (by decide)<|Au (c:=false) rfl rfl (Ae rfl aA) (by decide) rfl (by decide)<|Au (c:=false) rfl rfl (Ae rfl aA) (by decide) rfl (by decide)<|An rfl rfl (Ae rfl aJ) rfl (by decide) (fun st=>BC (v:=.bool false) (eR st) aA (eR st))<|An rfl rfl (Ae rfl aJ) rfl (by decide) (fun st=>SK QP (eR st) (eR st))<|wD (fun st=>BC (v:=.bool (dJ !=false)) (eR st) aJ (eR st))<|Ag<|Ab ?_;rcases Ak (dJ !=false) with fQ|fQ
     ·replace a:=Az a fQ;exact absurd (oi a) (by decide)
     ·replace a:=AA a fQ;refine AE rfl fQ<|AL<|Ab<|Af<|Af<|Ad<|wM (v:=I aC) rfl<|wD (fun st=>Dj (eR st) (eR st))<|wM (v:=.bool (aC==0)) rfl<|Au (c:=false) rfl rfl (Ae rfl aA) (by decide) rfl (by decide)<|Au (c:=false) rfl rfl (Ae rfl aA) (by decide) rfl (by decide)<|Au (c:=false) rfl rfl (Ae rfl aA) (by decide) rfl (by decide)<|Au (c:=false) rfl rfl (Ae rfl aA) (by decide) rfl (by decide)<|Au (c:=false) rfl rfl (Ae rfl aA) (by decide) rfl (by decide)<|wD (fun st=>BC (v:=.bool false) (eR st) aA (eR st))<|Ag<|Ab<|AE rfl rfl<|AL<|Ab<|Af<|Af<|Ad<|wM (v:=I aC) rfl<|wD (fun st=>DW (eR st) (eR st))<|Ag<|Ab ?_;rcases Ak (aC !=0) with d8|d8
      ·replace a:=Az a d8;refine AD rfl d8<|Af<|Ad<|wM (v:=I b.2) rfl<|wM (v:=I aC) rfl<|wD (fun st=>Dj (eR st) (eR st))<|wM (v:=.bool (b.2==aC)) rfl ?_;rcases Ak (b.2==aC) with cK|cK
       ·replace a:=Az a cK;refine An rfl rfl (Ae rfl cK) rfl (by decide) (fun st=>Aq (v:=.slice n b.1.length o) (eR st))<|An rfl rfl (Ae rfl cK) rfl (by decide) (fun st=>Bu Tryz.underlying31 (eR st))<|An rfl rfl (Ae rfl cK) rfl (by decide) (fun st=>Dj (eR st) (eR st))<|wD (fun st=>AY (v:=.bool ((b.1.length:Int)==0)) (eR st) cK (eR st))<|wM (v:=.bool ((b.1.length:Int)==0)) rfl ?_;rcases Ak ((b.1.length:Int)==0) with d9|d9
        ·replace a:=Az a d9;replace a:=Ck a;obtain⟨k3,a⟩:=a;refine Di rfl rfl (Ae rfl d9) rfl (by decide) (fun st=>Ar EI (eR st) Gx (a37 aE ZA _ k3)) ?_;rintro _ mY ⟨k4,rfl⟩;have k5:=f4.ext k4;refine wD (fun st=>AY (v:=.bool true) (eR st) d9 (eR st))<|wA (v:=.bool true) rfl<|Ag<|Ab<|AI<|Ax ?_;have aD:=oi a;refine AJ rfl rfl ?_;exact⟨k5.Bc,congrArg Value.bool aD⟩
        ·replace a:=AA a d9;exact absurd (oi a) (by decide)
       ·replace a:=AA a cK;exact absurd (oi a) (by decide)
      ·replace a:=AA a d8;refine AE rfl d8<|AL<|Ab<|Af<|Af<|Ad<|wM (v:=I b.2) rfl<|wD (fun st=>DW (eR st) (eR st))<|wM (v:=.bool (b.2 !=0)) rfl ?_;rcases Ak (b.2 !=0) with aQ|aQ
       ·replace a:=Az a aQ;exact absurd (oi a) (by decide)
       ·replace a:=AA a aQ;refine An rfl rfl (Ae rfl aQ) rfl (by decide) (fun st=>Aq (v:=.slice n b.1.length o) (eR st))<|An rfl rfl (Ae rfl aQ) rfl (by decide) (fun st=>Bu Tryz.underlying31 (eR st))<|An rfl rfl (Ae rfl aQ) rfl (by decide) (fun st=>Ai (eR st) (Ee _ _))<|An rfl rfl (Ae rfl aQ) rfl (by decide) (fun st=>Ai (eR st) (Ei _ _)) ?_;have a5:=((dQ.ext aR).ext aS);refine An rfl rfl (Ae rfl aQ) rfl (by decide) (fun st=>AG (v:=.slice d f.Ac.length e) El (eR st) a5 rfl)<|An rfl rfl (Ae rfl aQ) rfl (by decide) (fun st=>Bu Tryz.underlying23 (eR st))<|An rfl rfl (Ae rfl aQ) rfl (by decide) (fun st=>DW (eR st) (eR st))<|wD (fun st=>BC (v:=.bool ((b.1.length:Int) !=(f.Ac.length:Int))) (eR st) aQ (eR st))<|Ag<|Ab ?_;rcases Ak ((b.1.length:Int) !=(f.Ac.length:Int)) with fR|fR
        ·replace a:=Az a fR;exact absurd (oi a) (by decide)
        ·replace a:=AA a fR;refine AE rfl fR<|AL<|Ab<|Af<|Af<|Ad<|wA (v:=I 0) rfl<|Ag<|Ab<|AT ?_;replace a:=bind_some a;obtain⟨iT,cV,a⟩:=a;refine Cm (fun dU x aB=>(dU=.ret∧∃cW,iT=.inl cW∧x.tmps.size=99∧x.defers=(X0).ds∧sl x 4=.bool cW∧Hp FN [] w [some b1] aB)∨(dU=.exit 0∧∃cW,iT=.inr cW∧x.tmps.size=99∧x.defers=(X0).ds∧Hp FN [] w [some b1] aB)) ?k6 ?k7
         case k6=>
          clear a;refine Cl (fun(dV:Nat) (x:Act) (aB:World)=>∃aI,MI aE f aF b dV aI=some iT∧x.tmps.size=99∧x.defers=(X0).ds∧sl x 1=.slice y aF.length z∧sl x 2=pt b1 0∧sl x 5=.slice n b.1.length o∧sl x 9=I aI∧Hp FN [] w [some b1] aB∧Bk aB b1 67 (Am g i d e j m p q r s t u f).toArray∧Sl AM aB (zf Z w [some b1]) g i f.Al∧Sl (BO (Ay .i64)) aB (zf Z w [some b1]) d e f.Ac∧Sl AQ aB (zf Z w [some b1]) j m f.Ap∧Sl Bm aB (zf Z w [some b1]) p q f.AH∧Sl Bl aB (zf Z w [some b1]) r s f.Aw∧Sl BA aB (zf Z w [some b1]) t u f.Ao∧Sl (Ay .i64) aB (zf Z w [some b1]) n o b.1∧Sl (Ay .i64) aB (zf Z w [some b1]) y z aF) aE ?k8 ?k9
          case k8=>
           intro st;have ⟨aW,aX,aY,aK,aL,aM⟩:=Cz bP bQ bR bS bT bU (mt (Ah aR) (Ah aS));have fS:=((((((aU.mv (Ah bI)).mv (Ah aV)).mv (Ah a3)).mv (Ah a4)).mv (Ah aR)).mv (Ah aS));have aZ:=(((((cP.mv (Ah aV)).mv (Ah a3)).mv (Ah a4)).mv (Ah aR)).mv (Ah aS));exact⟨(0:Int),cV,qz st,qd st,sp st 1 a2,sp st 2 rfl,sp st 5 rfl,sp st 9 rfl,f4,a5,aW,aX,aY,aK,aL,aM,fS,aZ⟩
          case k9=>
           rintro(_|dV) mB mC ⟨aI,cV,i9,jA,f2,f3,eA,cN,iU,e3,dB,dC,dD,dE,dF,dG,bB,dH⟩
           ·exact absurd (show none=some _ from cV) (by simp)
           rw[MI.eq_2] at cV;have a:=cV;clear cV;refine B7 (N:=99) i9 jA<|Af<|Af<|Ad<|wM (v:=I aI) cN<|wM (v:=.slice n b.1.length o) eA<|wD (fun st=>Bu Tryz.underlying31 (eR st))<|wD (fun st=>CO (eR st) (eR st))<|Ag<|Ab ?_;rcases Ak (decide (aI<(b.1.length:Int))) with eB|eB
           ·replace a:=Az a eB;refine AD rfl eB<|AL<|Ab<|Af<|AT<|Af ?_;replace a:=AW a;obtain⟨i83,jN,lA,lB,lC,a⟩:=a;obtain⟨lX,lY,_,lD,rfl,lE⟩:=Sl.C1 bB rfl lB;replace a:=bind_some a;obtain⟨iV,lF,a⟩:=a;refine B9 8 [Kc (.slice n b.1.length o),Kc (I aI),Kc (pt lX (lY+i83)),Kc (I jN),Kc (.agg (Am g i d e j m p q r s t u f).toArray),Kc (.slice y aF.length z),Kc (I aI),Kc (I iV)] mixed rfl rfl
                (Aa (oD (fun K=>Aq (es ((K.out 5 rfl).trans eA))))
                (Aa (oD (fun K=>Aq (es ((K.out 9 rfl).trans cN))))
                (Aa (oD (fun K=>AX (k:=i83) Tryz.underlying31 DR (es (K.dq 0 89)) lD (es (K.dq 1 90)) lA lC))
                (Aa (oD (fun K=>Bg Bz (es (K.dq 2 91)) (lE.mv (Ah K.AO)) rfl))
                (Aa (oD (fun K=>AR (l:=(Am g i d e j m p q r s t u f)) Cj (es ((K.out 2 rfl).trans f3)) (e3.ext K.AO) rfl rfl))
                (Aa (oD (fun K=>Aq (es ((K.out 1 rfl).trans f2))))
                (Aa (oD (fun K=>Aq (es ((K.out 9 rfl).trans cN))))
                (Aa (Dl rfl rfl (fun a' w' ph K=>(Ar K4 rfl (EN (es (K.dq 4 93)) (es (K.dq 5 94)) (es (K.dq 6 95))) (PZ aE f aF aI g i d e j m p q r s t u y z ZA _ (dB.mv (Ah K.AO)).all (dC.mv (Ah K.AO)).all (dD.mv (Ah K.AO)).all (dE.mv (Ah K.AO)).all (dF.mv (Ah K.AO)).all (dG.mv (Ah K.AO)).all (dH.mv (Ah K.AO)).all iV lF)).mono (fun _ _ h=>⟨h.2,h.1⟩)))
                (B8 _))))))))) ?_
            intro mZ;rintro _ rfl _ rfl _ rfl _ rfl _ rfl _ rfl _ rfl _ rfl gL;have iW:=iU.ext gL;refine wD (fun st=>DW (eR st) (eR st))<|Ag<|Ab ?_;rcases Ak (jN !=iV) with eC|eC
            ·replace a:=Az a eC;refine AD rfl eC<|Af<|Ad<|wA (v:=.bool false) rfl<|Ag<|Ab<|AI<|Bi<|Ax<|Ax ?_;obtain rfl:=oi a;refine B4 (fun st=>?_);exact .inl ⟨rfl,false,rfl,qz st,qd st,sp st 4 rfl,iW⟩
            ·replace a:=AA a eC;refine AE rfl eC<|AL<|Bs<|Ab<|Ad<|wM (v:=I aI) cN ?_;replace a:=AK a;obtain⟨lG,a⟩:=a;refine wD (fun st=>B0 (eR st) (eR st) lG)<|wA (v:=I (aI+1)) rfl<|Ag ?_;have iX:=(e3.ext gL);have ⟨gM,gN,gO,gP,gQ,gR,fT,gS⟩:=Ii dB dC dD dE dF dG bB dH (Ah gL);refine Bw dV (Nat.lt_succ_self _) (fun st=>?_);exact⟨(aI+1),a,qz st,qd st,sp st 1 f2,sp st 2 f3,sp st 5 eA,sp st 9 rfl,iW,iX,gM,gN,gO,gP,gQ,gR,fT,gS⟩
           ·replace a:=AA a eB;refine AE rfl eB<|Cd<|AB<|AB ?_;obtain rfl:=oi a;refine B4 (fun st=>?_);exact .inr ⟨rfl,(),rfl,qz st,qd st,iU⟩
         case k7=>
          rintro dU l4 mD (⟨rfl,cW,rfl,eD,eE,iC,fU⟩|⟨rfl,cW,rfl,eD,eE,fU⟩)
          ·skip
           replace a:=Eg a;refine Cn (X:=X0) (N:=99) eD eE<|Bi<|Ax ?_;have aD:=oi a;refine AJ rfl iC ?_;exact⟨fU.Bc,congrArg Value.bool aD⟩
          ·skip
           replace a:=Eh a;refine Cn (X:=X0) (N:=99) eD eE<|Bn<|Ab<|Af<|Ad ?_;replace a:=Ck a;obtain⟨lH,a⟩:=a;refine wE (fun st=>Ar EI (eR st) Gx (a37 aE ZA _ lH)) ?_;rintro _ m0 ⟨lI,rfl⟩;have lJ:=fU.ext lI;refine wA (v:=.bool true) rfl<|Ag<|Ab<|AI ?_;have aD:=oi a;refine AJ rfl rfl ?_;exact⟨lJ.Bc,congrArg Value.bool aD⟩
end Go.Proofs.YtbhofkcbfblijaaGreat
end
section
namespace Go.Proofs.YtbhofkcbfblijaaGreat
open Go.RowKit Go.ChangeShapes Go.WideShapes Go.ChangeAt
set_option maxRecDepth 100000 in
theorem We(os:Os)(started:os.Started)(H:Type)(enc:TypeId×Value→H):
  ReturnsInHanded {} Tryz.checked os 15 .any (Rows.tradePlaysSpec.pre6 enc Tryz.prog Tryz.f15 Rows.tradePlaysRow.domain false) (Rows.tradePlaysSpec.post enc Tryz.prog Tryz.f15 false true false false):=by
 refine returnsInHanded_of_change_sized (C:=Tryz.checked) RB started (by kernel_rfl) Tryz.func15
  (ChangeSpec.witness6 (enc:=enc) (C:=Tryz.checked) false ⟨#[], #[.agg #[.slice none 0 0,.slice none 0 0,.slice none 0 0,.int .i64 0,.slice none 0 0,.slice none 0 0,.slice none 0 0],.slice none 0 0],[]⟩ 8 (by kernel_rfl) (by kernel_rfl) (by kernel_rfl) (by kernel_rfl)) ?_
 intro W base args ds gs before f aF aO aG _;have a:∀(j:Nat) t v,Tryz.f15.params[j]?=some t→args[j]?=some v→Value.okWide Tryz.prog W .any base t v:=f;have d:=aF;obtain⟨p,q,aH,aP,rfl,aW,aX⟩:=aF;have g:DataW.TrodAll enc Tryz.prog W 0 (fun _=>true) true Tryz.f15.params.toList args.toList ds p:=aH;obtain⟨rfl,rfl⟩:=trodVars_none aP;simp only[List.append_nil] at d;have aI:∀x∈p,x.block<W.heap.size:=fun x hx=>by simpa using d.lt x hx
 have aJ:=g;have c:(DataW.weightsEach Tryz.prog (Tryz.f15.params.toList++[]) (ds++[])).all (· ≤reachBytes)=true:=aG;rw[Tryz.params15] at g a c;obtain⟨v0,v1,d0,d1,aQ,aR,rfl,rfl,rfl,h0,h1⟩:=trodAll_two g;obtain⟨aK,aY,aL,⟨h,i,k,l,m,n,o,r,s,u,w,y,rfl,z,aA,aB,aC,aD,aE⟩,w0⟩:=Nr Tryz.underlying67 O7 (a 0 67 v0 rfl rfl) h0 (Li (j:=0) c rfl rfl);obtain⟨x1,aS,aT,aM,s1,w1⟩:=Q6 Tryz.underlying31 (Nq (b:=8) Tryz.underlying31 (by kernel_rfl) (by decide) (NW Tryz.underlying3) (by kernel_rfl)) (a 1 31 v1 rfl rfl) h1 (Li (j:=1) c rfl rfl);subst aL;subst aM;obtain⟨K,aU⟩:=XE aK x1;refine(LS (a15 K aK x1 h i k l m n o r s u w y aS aT ZA W z aA aB aC aD aE s1 aU)).mono fun e W' ⟨v,he,hx,aV⟩=>?_;subst he;subst aV;exact⟨_,rfl,Ko (pa:=(aQ++aR)) (pv:=[]) d (fun _ _ _=>trodAll_mk1 (shut_bool Tryz.underlying4 _)) (fun sp hs=>LR P5 P6 (by rw[Tryz.params15];decide) aJ hx aI sp (fun x aN=>hs x (by simpa using aN))) (fun _ _=>rfl) (by simp) hx (ok_one (by kernel_rfl) rfl (okWide_bool_mk Tryz.underlying4 _))⟩
theorem Rp:((Rows.tradePlaysRow.inPlace==Tryz.checked.prog.inPlace 15)&&(Rows.tradePlaysRow.unfollowed==Tryz.checked.prog.unfollowed 15)&&(Rows.tradePlaysRow.recurses==Tryz.checked.prog.recurses 15)&&(Rows.tradePlaysRow.named==Tryz.checked.prog.varsNamed 15))=true:=by kernel_rfl
theorem WM:joinedFacts Tryz.checked.prog 15 Tryz.f15 Rows.tradePlaysSpec Rows.tradePlaysRow=true:=by
 unfold joinedFacts;exact(Bf (Bf (Bf (Bf (Bf (Bf (Bf (Bf (Bf (Bf (Bf (Bf (Bf (Bf (Bf (Bf (Bf (Bf (Bf (Bf (Bf (Bf (Bf (Bf (Bf (Bf (Bf (Bf (Bf (Bf (Bf (by kernel_rfl) O8) O9) (by kernel_rfl)) (by kernel_rfl)) (by kernel_rfl)) NX) (by kernel_rfl)) NY) (FI (FI (FI Rp)))) (IE (FI (FI Rp)))) (IE (FI Rp))) (IE Rp)) (by kernel_rfl)) (by kernel_rfl)) (by kernel_rfl)) (by kernel_rfl)) (by kernel_rfl)) (by kernel_rfl)) (by kernel_rfl)) (by kernel_rfl)) (by kernel_rfl)) Pa) (by kernel_rfl)) NZ) (FI (FI Hs))) (IE (FI Hs))) (IE Hs)) (by kernel_rfl)) (by kernel_rfl)) (by kernel_rfl)) (by kernel_rfl))
theorem tradePlays_holds:Rows.TradePlaysSaid:=
 OpenClaim.holds_of_wide 15 Tryz.f15 rfl rfl rfl rfl rfl rfl rfl ⟨rfl,rfl,rfl,rfl,rfl⟩ rfl rfl rfl rfl rfl (by kernel_rfl) Tryz.func15 WM
  (of_decide_eq_true (by kernel_rfl)) (by unfold Func.isWrapper;rw[if_neg (by decide+kernel)];exact⟨rfl,rfl⟩)
  (fun os started H enc _=>We os started H enc)
end Go.Proofs.YtbhofkcbfblijaaGreat
end
