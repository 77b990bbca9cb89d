import Derived.Test.YtbhofkcbfblijaaGreatETradeShorts
import Derived.Test.YtbhofkcbfblijaaGreatRows
/-
  Proved: the law TradeShorts returns true for every argument that the row hands over, and leaves every argument as it was; no condition beside the row's own.
-/
set_option linter.all false
section
namespace Go.Proofs.YtbhofkcbfblijaaGreat
open Go.RowKit Go.WideShapes
def FC(a:Nat)(d:AD)(j:List Int):Option (Bool):=
 (GF a d).bind fun r=>cond (!r) ((ED (BU a=some true)).bind fun _=>some (true)) (cond (decide ((8:Int)<(j.length:Int))) ((ED (BU a=some true)).bind fun _=>some (true)) ((Eh a d).bind fun k=>(Ha a k).bind fun b=>(Eh a d).bind fun l=>(GD a j).bind fun m=>(HR a l m).bind fun e=>(GH a d).bind fun c=>cond (c.2 !=0) (cond (b.2==c.2) (cond ((b.1.length:Int)==0) (cond (!e) ((ED (BU a=some true)).bind fun _=>some (true)) (some (false))) (some (false))) (some (false))) ((Gq a j (d.AE.length:Int)).bind fun f=>cond (f.2) (cond (decide ((0:Int)<f.1)) ((EK a d c.1 f.1).bind fun n=>cond (e !=n) (some (false)) ((EV a d c.1).bind fun g=>cond (!g.2) (cond (b.2==7) (cond ((b.1.length:Int)==0) ((ED (BU a=some true)).bind fun _=>some (true)) (some (false))) (some (false))) (cond (b.2==0) ((Ct a b.1 g.1).bind fun o=>cond (o) ((ED (BU a=some true)).bind fun _=>some (true)) (some (false))) (some (false))))) (cond (e !=false) (some (false)) ((EV a d c.1).bind fun h=>cond (!h.2) (cond (b.2==7) (cond ((b.1.length:Int)==0) ((ED (BU a=some true)).bind fun _=>some (true)) (some (false))) (some (false))) (cond (b.2==0) ((Ct a b.1 h.1).bind fun p=>cond (p) ((ED (BU a=some true)).bind fun _=>some (true)) (some (false))) (some (false)))))) (cond (e !=false) (some (false)) ((EV a d c.1).bind fun i=>cond (!i.2) (cond (b.2==7) (cond ((b.1.length:Int)==0) ((ED (BU a=some true)).bind fun _=>some (true)) (some (false))) (some (false))) (cond (b.2==0) ((Ct a b.1 i.1).bind fun q=>cond (q) ((ED (BU a=some true)).bind fun _=>some (true)) (some (false))) (some (false))))))))
end Go.Proofs.YtbhofkcbfblijaaGreat
end
section
namespace Go.Proofs.YtbhofkcbfblijaaGreat
section
variable{K:Nat}(hK:1000≤K)
include hK
theorem N2(ha:BU K=some true)(t:AD)(d:List Int):FC K t d=some true:=by
 unfold FC;rw[bd (UJ hK t)];cases h:IJ t with
 |false=>rw[nf,FV ha]
 |true=>
  rw[nt]
  by_cases v:8<d.length
  ·rw[ct (dt (by omega)),FV ha]
  have hlen:=Ki h;obtain⟨x,e,g1,g2,g3⟩:=Zs hK h;rw[cf (df (by omega)),bd (Mi hK t hlen),bd g1,bd (Mi hK t hlen),bd (Ru hK d (by omega)),bd (Sa hK h (by omega)),bd (UK hK h)]
  by_cases h0:DZ t=0
  ·have k:=Ju h (G2 (Gt h0).1).1;have u:=k.ol;obtain⟨w,b,p,l⟩:=WJ hK k
   
   have tail:∀z:Option Bool,z=some true→(EV K t (B4 t)).bind (fun j=>cond (!j.2) (cond (e==7) (cond ((x.length:Int)==0) z (some false)) (some false)) (cond (e==0) ((Ct K x j.1).bind fun m=>cond m z (some false)) (some false)))=some true:=fun z g=>by
    rw[bd p];rcases g3 h0 with⟨rfl,i⟩|⟨rfl,rfl,c⟩
    ·rcases l with⟨rfl,a⟩|⟨rfl,rfl,c⟩
     ·obtain rfl:=i.uniq a;rw[nt,ct (Le rfl),bd (AaS hK (show x.length≤900 by have:=i.len;omega)),ct rfl,g]
     ·obtain⟨s,hs,rfl⟩:=i.is;have:=i.ok;rw[c s hs] at this;cases this
    ·rcases l with⟨rfl,a⟩|⟨rfl,rfl,_⟩
     ·obtain⟨s,hs,rfl⟩:=a.is;have:=a.ok;rw[c s hs] at this;cases this
     ·rw[nf,ct (Le rfl)];exact g
   rw[h0,if_pos rfl,cf (Ib rfl),bd (Pf hK (n:=t.AE.length) (by omega) (by omega)),dt rfl,Bool.true_and];have f:((ED (BU K=some true)).bind fun _=>some true)=some true:=FV ha;cases hr:F9 t.AE.length 0 d with
   |false=>
    rw[cf rfl,Bool.false_and,cf (bnb _)];exact tail _ f
   |true=>
    have hm:=Lp hr;have o:IY d<2^t.AE.length:=PG hm;rw[ct rfl,if_pos rfl,Bool.true_and]
    by_cases g:IY d=0
    ·have q:d=[]:=by
      have:=bits_mask (n:=t.AE.length) (by omega) hr;rw[g] at this;rw[←this];decide
     have r:F7 t d=false:=by rw[q];rfl
     rw[cf (df (by omega)),r,cf (bnb _)];exact tail _ f
    ·rw[ct (dt (by omega)),bd (Pt hK k o),bits_mask (n:=t.AE.length) (by omega) hr,cf (bnb _)];exact tail _ f
  ·obtain⟨rfl,rfl⟩:=g2 h0;rw[ct (J1 h0),ct (Le rfl),lz0,df h0,Bool.false_and,nf,FV ha]
end
theorem OM(t:AD)(l:List Int):∃K,FC K t l=some true:=⟨1000,N2 (Nat.le_refl _) Pc t l⟩
end Go.Proofs.YtbhofkcbfblijaaGreat
end
section
namespace Go.Proofs.YtbhofkcbfblijaaGreat
open Go.RowKit Go.WideShapes
set_option maxRecDepth 20000
open HF
attribute [local irreducible] Cg WL CC CW LV BN Hb EX One Ba
set_option maxHeartbeats 4000000 in
theorem a12 aH x cG e f g h i j k m c d n o a7 a8(Z:Nat→Prop) w(e8:Sl Ax w Z e f x.Aj)(e9:Sl (Bx (Al .i64)) w Z g h x.Ab)(fA:Sl AF w Z i j x.Aq)(fB:Sl AT w Z k m x.AB)(fC:Sl AW w Z c d x.AE)(fD:Sl Bj w Z n o x.AK)(fE:Sl (Al .i64) w Z a7 a8 cG)(a:FC aH x cG=some true):
 BN Tryz.prog 12 #[.agg (Ar e f g h i j k m c d n o x).toArray,.slice a7 cG.length a8] w (fun v w'=>Ext w w'∧v=.bool true):=by
 unfold FC at a;refine rq (N:=105) Tryz.func12 fun hC ha hD=>?_;have fN:=sA 0 ha;have dI:=sA 1 ha;clear ha;have fF:Hp FN [] w [] w:=Hp.start (Bw.none w);have ⟨dY,dZ,d0,d1,d2,d3,d4⟩:=FF e8 e9 fA fB fC fD fE (Bu (Z:=Z) (L:=[]) w);refine cr<|wE (fun st=>BL (v:=.agg (Ar e f g h i j k m c d n o x).toArray) (cs:=(Ar e f g h i j k m c d n o x).toArray) (ee st fN) rfl) ?_;rintro _ w1 ⟨b1,rfl,cH⟩;have g2:=fF.nb cH;have g9:=fF.BH cH;refine wA (v:=.bool false) rfl<|wn<|Af<|cr<|wD (fun st=>AO (l:=(Ar e f g h i j k m c d n o x)) DL (eR st) cH.bk rfl rfl) ?_;have ⟨cI,cJ,cK,cL,cM,cN⟩:=CA dY dZ d0 d1 d2 d3 (Ay cH);replace a:=bind_some a;obtain⟨eV,g3,a⟩:=a;refine wE (fun st=>Ak U1 (eR st) (Cd (eR st)) (a36 aH x e f g h i j k m c d n o ZA _ cI.all cJ.all cK.all cL.all cM.all cN.all eV g3)) ?_;rintro _ h4 ⟨dQ,rfl⟩;have dR:=g2.ext dQ;refine wD (fun st=>Ca (eR st))<|wM (v:=.bool !eV) rfl ?_;rcases Ae (!eV) with aJ|aJ
 ·replace a:=Am a aJ;have hA:eV=false:=by simpa using aJ
  refine wF aJ<|wF aJ<|wF aJ<|wD (fun st=>AR (v:=.bool true) (eR st) aJ (eR st))<|wn<|Ah rfl rfl<|Af<|Ai ?_;replace a:=B9 a;obtain⟨g4,a⟩:=a;refine wE (fun st=>Ak G3 (eR st) F6 (a37 aH ZA _ g4)) ?_;rintro _ h5 ⟨g5,rfl⟩;have g6:=dR.ext g5;refine wA (v:=.bool true) rfl<|wn<|Ap<|AG ?_;have aG:=oi a;refine Au rfl rfl ?_;exact⟨g6.AZ,congrArg Value.bool aG⟩
 ·replace a:=An a aJ;have hB:eV=true:=by simpa using aJ
  refine wN aJ (v:=.slice a7 cG.length a8) dI<|wG aJ (fun st=>Bn Tryz.underlying31 (eR st))<|wG aJ (fun st=>Fj (eR st) (eR st))<|wD (fun st=>Bg (v:=.bool (decide ((8:Int)<(cG.length:Int)))) (eR st) aJ (eR st))<|wn ?_;rcases Ae (decide ((8:Int)<(cG.length:Int))) with dH|dH
  ·replace a:=Am a dH;refine Ah rfl dH<|Af<|Ai ?_;replace a:=B9 a;obtain⟨fO,a⟩:=a;refine wE (fun st=>Ak G3 (eR st) F6 (a37 aH ZA _ fO)) ?_;rintro _ hE ⟨fP,rfl⟩;have g7:=dR.ext fP;refine wA (v:=.bool true) rfl<|wn<|Ap<|AG ?_;have aG:=oi a;refine Au rfl rfl ?_;exact⟨g7.AZ,congrArg Value.bool aG⟩
  ·replace a:=An a dH;refine Ao rfl dH<|cn<|Af<|Ai ?_;have dS:=(cH.bk.ext dQ);refine wD (fun st=>AO (l:=(Ar e f g h i j k m c d n o x)) DL (eR st) dS rfl rfl) ?_;have ⟨cO,cP,cQ,cR,cS,cT⟩:=CA cI cJ cK cL cM cN (Ac dQ);replace a:=bind_some a;obtain⟨fG,fQ,a⟩:=a;refine wE (fun st=>Ak ND (eR st) (Cd (eR st)) (U6 aH x e f g h i j k m c d n o (zf Z w [some b1]) _ cO cP cQ cR cS cT fG fQ)) ?_;rintro _ hF ⟨c1,⟨_,rfl,⟨d5,d6,d7,d8,d9,eA,eB,eC,eD,eE,eF,eG,rfl,a9,bA,bB,bC,bD,bE⟩⟩⟩;have fH:=dR.ext c1;have ⟨a9,bA,bB,bC,bD,bE⟩:=CA a9 bA bB bC bD bE (dR.DQ (Nat.le_refl _));replace a:=bind_some a;obtain⟨b,fR,a⟩:=a;refine wE (fun st=>Ak U3 (eR st) (Cd (eR st)) (a69 aH fG d5 d6 d7 d8 d9 eA eB eC eD eE eF eG (zf Z w [some b1]) _ a9 bA bB bC bD bE b fR)) ?_;rintro _ hG ⟨c2,⟨_,_,rfl,⟨p,q,rfl,aK⟩,rfl⟩⟩;have fI:=fH.ext c2;have aK:=aK.mv (fH.DQ (Nat.le_refl _));refine wM (v:=.tuple #[.slice p b.1.length q,I b.2]) rfl<|wD (fun st=>Bs (v:=.slice p b.1.length q) (eR st) rfl)<|wD (fun st=>Bs (v:=I b.2) (eR st) rfl)<|wA (v:=.slice p b.1.length q) rfl<|wA (v:=I b.2) rfl<|wn<|Af<|Ai ?_;have dT:=((dS.ext c1).ext c2);refine wD (fun st=>AO (l:=(Ar e f g h i j k m c d n o x)) DL (eR st) dT rfl rfl) ?_;have ⟨cU,cV,cW,cX,cY,cZ⟩:=CA cO cP cQ cR cS cT (mt (Ac c1) (Ac c2));replace a:=bind_some a;obtain⟨fJ,fS,a⟩:=a;refine wE (fun st=>Ak ND (eR st) (Cd (eR st)) (U6 aH x e f g h i j k m c d n o (zf Z w [some b1]) _ cU cV cW cX cY cZ fJ fS)) ?_;rintro _ hH ⟨bF,⟨_,rfl,⟨eH,eI,eJ,eK,eM,eN,eO,eP,eQ,eS,eT,eU,rfl,bG,bH,bI,bJ,bK,bL⟩⟩⟩;have fK:=fI.ext bF;have ⟨bG,bH,bI,bJ,bK,bL⟩:=CA bG bH bI bJ bK bL (fI.DQ (Nat.le_refl _));refine wM (v:=.slice a7 cG.length a8) dI ?_;have c0:=(((((d4.mv (Ay cH)).mv (Ac dQ)).mv (Ac c1)).mv (Ac c2)).mv (Ac bF));replace a:=bind_some a;obtain⟨fL,fT,a⟩:=a;refine wE (fun st=>Ak RV (eR st) (Cd (eR st)) (a51 aH cG a7 a8 (zf Z w [some b1]) _ c0 fL fT)) ?_;rintro _ hI ⟨aS,⟨eW,eX,rfl,bY⟩⟩;have g8:=fK.ext aS;have bY:=bY.mv (fK.DQ (Nat.le_refl _));have ⟨c3,c4,c5,c6,c7,c8⟩:=CA bG bH bI bJ bK bL (Ac aS);replace a:=bind_some a;obtain⟨aT,fU,a⟩:=a;refine wE (fun st=>Ak AaV (eR st) (Ci (eR st) (eR st)) (a70 aH fJ fL eH eI eJ eK eM eN eO eP eQ eS eT eU eW eX ZA _ c3.all c4.all c5.all c6.all c7.all c8.all bY.all aT fU)) ?_;rintro _ hJ ⟨bM,rfl⟩;have fM:=g8.ext bM;refine wA (v:=.bool aT) rfl<|wn<|Af<|Ai ?_;have dU:=(((dT.ext bF).ext aS).ext bM);refine wD (fun st=>AO (l:=(Ar e f g h i j k m c d n o x)) DL (eR st) dU rfl rfl) ?_;have ⟨a0,a2,a3,a4,a5,a6⟩:=CA cU cV cW cX cY cZ (mt (Ac bF) (mt (Ac aS) (Ac bM)));replace a:=bind_some a;obtain⟨u,fV,a⟩:=a;refine wE (fun st=>Ak U4 (eR st) (Cd (eR st)) (a39 aH x e f g h i j k m c d n o (zf Z w [some b1]) _ a0 a2 a3 a4 a5 a6 u fV)) ?_;rintro _ hL ⟨aQ,⟨_,_,rfl,⟨r,s,rfl,aL⟩,rfl⟩⟩;have eY:=fM.ext aQ;have aL:=aL.mv (fM.DQ (Nat.le_refl _));refine wM (v:=.tuple #[.slice r u.1.length s,I u.2]) rfl<|wD (fun st=>Bs (v:=.slice r u.1.length s) (eR st) rfl)<|wD (fun st=>Bs (v:=I u.2) (eR st) rfl)<|wA (v:=.slice r u.1.length s) rfl<|wA (v:=I u.2) rfl<|wn<|Af<|cr<|wM (v:=I u.2) rfl<|wD (fun st=>Cx (eR st) (eR st))<|wn ?_;rcases Ae (u.2 !=0) with b8|b8
   ·replace a:=Am a b8;refine Ah rfl b8<|cr<|wM (v:=I b.2) rfl<|wM (v:=I u.2) rfl<|wD (fun st=>Dt (eR st) (eR st))<|wM (v:=.bool (b.2==u.2)) rfl ?_;rcases Ae (b.2==u.2) with bN|bN
    ·replace a:=Am a bN;refine wN bN (v:=.slice p b.1.length q) rfl<|wG bN (fun st=>Bn Tryz.underlying31 (eR st))<|wG bN (fun st=>Dt (eR st) (eR st))<|wD (fun st=>AR (v:=.bool ((b.1.length:Int)==0)) (eR st) bN (eR st))<|wM (v:=.bool ((b.1.length:Int)==0)) rfl ?_;rcases Ae ((b.1.length:Int)==0) with bZ|bZ
     ·replace a:=Am a bZ;refine wN bZ (v:=.bool aT) rfl<|wG bZ (fun st=>Ca (eR st))<|wD (fun st=>AR (v:=.bool !aT) (eR st) bZ (eR st))<|wM (v:=.bool !aT) rfl ?_;rcases Ae (!aT) with b4|b4
      ·replace a:=Am a b4;have gV:aT=false:=by simpa using b4
       replace a:=B9 a;obtain⟨fW,a⟩:=a;refine wX b4 (fun st=>Ak G3 (eR st) F6 (a37 aH ZA _ fW)) ?_;rintro _ hM ⟨fX,rfl⟩;have fY:=eY.ext fX;refine wD (fun st=>AR (v:=.bool true) (eR st) b4 (eR st))<|wA (v:=.bool true) rfl<|wn<|Ap<|AG ?_;have aG:=oi a;refine Au rfl rfl ?_;exact⟨fY.AZ,congrArg Value.bool aG⟩
      ·replace a:=An a b4;exact absurd (oi a) (by decide)
     ·replace a:=An a bZ;exact absurd (oi a) (by decide)
    ·replace a:=An a bN;exact absurd (oi a) (by decide)
   ·replace a:=An a b8;refine Ao rfl b8<|cn<|cr<|wM (v:=.slice a7 cG.length a8) dI<|wD (fun st=>Ad (eR st) (Ij _ _)) ?_;have bX:=(dU.ext aQ);refine wD (fun st=>Ag (v:=.slice c x.AE.length d) I8 (eR st) bX rfl)<|wD (fun st=>Bn Tryz.underlying64 (eR st)) ?_;have dJ:=(((c0.mv (Ac aS)).mv (Ac bM)).mv (Ac aQ));replace a:=bind_some a;obtain⟨aI,fZ,a⟩:=a;refine wE (fun st=>Ak U5 (eR st) (Ci (eR st) (eR st)) (a52 aH cG (x.AE.length:Int) a7 a8 ZA _ dJ.all aI fZ)) ?_;rintro _ hN ⟨y,⟨_,_,rfl,rfl,rfl⟩⟩;have b9:=eY.ext y;refine wM (v:=.tuple #[I aI.1,.bool aI.2]) rfl<|wD (fun st=>Bs (v:=I aI.1) (eR st) rfl)<|wD (fun st=>Bs (v:=.bool aI.2) (eR st) rfl)<|wA (v:=I aI.1) rfl<|wA (v:=.bool aI.2) rfl<|wn<|Af<|cr<|wM (v:=.bool aT) rfl<|wM (v:=.bool aI.2) rfl<|wM (v:=.bool aI.2) rfl ?_;rcases Ae (aI.2) with aR|aR
    ·replace a:=Am a aR;refine wN aR (v:=I aI.1) rfl<|wG aR (fun st=>Fj (eR st) (eR st))<|wD (fun st=>AR (v:=.bool (decide ((0:Int)<aI.1))) (eR st) aR (eR st))<|wM (v:=.bool (decide ((0:Int)<aI.1))) rfl ?_;rcases Ae (decide ((0:Int)<aI.1)) with z|z
     ·replace a:=Am a z;have aM:=(bX.ext y);refine wG z (fun st=>AO (l:=(Ar e f g h i j k m c d n o x)) DL (eR st) aM rfl rfl)<|wN z (v:=.slice r u.1.length s) rfl<|wG z (fun st=>AA (v:=I aI.1) (eR st)) ?_;have ⟨aA,aB,aC,aD,aE,aF⟩:=CA a0 a2 a3 a4 a5 a6 (mt (Ac aQ) (Ac y));have t:=(aL.mv (Ac y));replace a:=bind_some a;obtain⟨eZ,f0,a⟩:=a;refine wX z (fun st=>Ak Sc (eR st) (DX (eR st) (eR st) (eR st)) (a71 aH x u.1 aI.1 e f g h i j k m c d n o r s ZA _ aA.all aB.all aC.all aD.all aE.all aF.all t.all eZ f0)) ?_;rintro _ hO ⟨c9,rfl⟩;have e0:=b9.ext c9;refine wD (fun st=>AR (v:=.bool eZ) (eR st) z (eR st))<|wD (fun st=>Ua NY (eR st) (eR st))<|wn ?_;rcases Ae (aT !=eZ) with dA|dA
      ·replace a:=Am a dA;exact absurd (oi a) (by decide)
      ·replace a:=An a dA;refine Ao rfl dA<|cn<|Af<|Ai ?_;have e1:=(aM.ext c9);refine wD (fun st=>AO (l:=(Ar e f g h i j k m c d n o x)) DL (eR st) e1 rfl rfl)<|wM (v:=.slice r u.1.length s) rfl ?_;have ⟨dK,dL,dM,dN,dO,dP,dB⟩:=FF aA aB aC aD aE aF t (Ac c9);replace a:=bind_some a;obtain⟨aN,f1,a⟩:=a;refine wE (fun st=>Ak Sd (eR st) (Ci (eR st) (eR st)) (a72 aH x u.1 e f g h i j k m c d n o r s (zf Z w [some b1]) _ dK dL dM dN dO dP dB aN f1)) ?_;rintro _ hP ⟨e2,⟨_,_,rfl,⟨aU,aV,rfl,b5⟩,rfl⟩⟩;have e3:=e0.ext e2;have b5:=b5.mv (e0.DQ (Nat.le_refl _));refine wM (v:=.tuple #[.slice aU aN.1.length aV,.bool aN.2]) rfl<|wD (fun st=>Bs (v:=.slice aU aN.1.length aV) (eR st) rfl)<|wD (fun st=>Bs (v:=.bool aN.2) (eR st) rfl)<|wA (v:=.slice aU aN.1.length aV) rfl<|wA (v:=.bool aN.2) rfl<|wn<|Af<|cr<|wM (v:=.bool aN.2) rfl<|wD (fun st=>Ca (eR st))<|wn ?_;rcases Ae (!aN.2) with bO|bO
       ·replace a:=Am a bO;have gW:aN.2=false:=by simpa using bO
        refine Ah rfl bO<|cr<|wM (v:=I b.2) rfl<|wD (fun st=>Dt (eR st) (eR st))<|wM (v:=.bool (b.2==7)) rfl ?_;rcases Ae (b.2==7) with bP|bP
        ·replace a:=Am a bP;refine wN bP (v:=.slice p b.1.length q) rfl<|wG bP (fun st=>Bn Tryz.underlying31 (eR st))<|wG bP (fun st=>Dt (eR st) (eR st))<|wD (fun st=>AR (v:=.bool ((b.1.length:Int)==0)) (eR st) bP (eR st))<|wM (v:=.bool ((b.1.length:Int)==0)) rfl ?_;rcases Ae ((b.1.length:Int)==0) with cA|cA
         ·replace a:=Am a cA;replace a:=B9 a;obtain⟨f2,a⟩:=a;refine wX cA (fun st=>Ak G3 (eR st) F6 (a37 aH ZA _ f2)) ?_;rintro _ hQ ⟨f3,rfl⟩;have f4:=e3.ext f3;refine wD (fun st=>AR (v:=.bool true) (eR st) cA (eR st))<|wA (v:=.bool true) rfl<|wn<|Ap<|AG ?_;have aG:=oi a;refine Au rfl rfl ?_;exact⟨f4.AZ,congrArg Value.bool aG⟩
         ·replace a:=An a cA;exact absurd (oi a) (by decide)
        ·replace a:=An a bP;exact absurd (oi a) (by decide)
       ·replace a:=An a bO;have gX:aN.2=true:=by simpa using bO
        refine Ao rfl bO<|cn<|cr<|wM (v:=I b.2) rfl<|wD (fun st=>Dt (eR st) (eR st))<|wM (v:=.bool (b.2==0)) rfl ?_;rcases Ae (b.2==0) with bQ|bQ
        ·replace a:=Am a bQ;refine wN bQ (v:=.slice p b.1.length q) rfl<|wG bQ (fun st=>AA (v:=.slice aU aN.1.length aV) (eR st)) ?_;have dC:=(((((((aK.mv (Ac bF)).mv (Ac aS)).mv (Ac bM)).mv (Ac aQ)).mv (Ac y)).mv (Ac c9)).mv (Ac e2));replace a:=bind_some a;obtain⟨dV,f5,a⟩:=a;refine wX bQ (fun st=>Ak Lb (eR st) (Ci (eR st) (eR st)) (Qo aH b.1 aN.1 p q aU aV ZA _ dC.all b5.all dV f5)) ?_;rintro _ hR ⟨f6,rfl⟩;have f7:=e3.ext f6;refine wD (fun st=>AR (v:=.bool dV) (eR st) bQ (eR st))<|wM (v:=.bool dV) rfl ?_;rcases Ae (dV) with cB|cB
         ·replace a:=Am a cB;replace a:=B9 a;obtain⟨f8,a⟩:=a;refine wX cB (fun st=>Ak G3 (eR st) F6 (a37 aH ZA _ f8)) ?_;rintro _ hS ⟨f9,rfl⟩;have gA:=f7.ext f9;refine wD (fun st=>AR (v:=.bool true) (eR st) cB (eR st))<|wA (v:=.bool true) rfl<|wn<|Ap ?_;have aG:=oi a;refine Au rfl rfl ?_;exact⟨gA.AZ,congrArg Value.bool aG⟩
         ·replace a:=An a cB;exact absurd (oi a) (by decide)
        ·replace a:=An a bQ;exact absurd (oi a) (by decide)
     ·replace a:=An a z;refine wF z<|wF z<|wF z<|wF z<|wD (fun st=>Bg (v:=.bool false) (eR st) z (eR st))<|wD (fun st=>Ua NY (eR st) (eR st))<|wn ?_;rcases Ae (aT !=false) with dD|dD
      ·replace a:=Am a dD;exact absurd (oi a) (by decide)
      ·replace a:=An a dD;refine Ao rfl dD<|cn<|Af<|Ai ?_;have aM:=(bX.ext y);refine wD (fun st=>AO (l:=(Ar e f g h i j k m c d n o x)) DL (eR st) aM rfl rfl)<|wM (v:=.slice r u.1.length s) rfl ?_;have ⟨aA,aB,aC,aD,aE,aF⟩:=CA a0 a2 a3 a4 a5 a6 (mt (Ac aQ) (Ac y));have t:=(aL.mv (Ac y));replace a:=bind_some a;obtain⟨aO,gB,a⟩:=a;refine wE (fun st=>Ak Sd (eR st) (Ci (eR st) (eR st)) (a72 aH x u.1 e f g h i j k m c d n o r s (zf Z w [some b1]) _ aA aB aC aD aE aF t aO gB)) ?_;rintro _ hT ⟨e4,⟨_,_,rfl,⟨aW,aX,rfl,b6⟩,rfl⟩⟩;have e5:=b9.ext e4;have b6:=b6.mv (b9.DQ (Nat.le_refl _));refine wM (v:=.tuple #[.slice aW aO.1.length aX,.bool aO.2]) rfl<|wD (fun st=>Bs (v:=.slice aW aO.1.length aX) (eR st) rfl)<|wD (fun st=>Bs (v:=.bool aO.2) (eR st) rfl)<|wA (v:=.slice aW aO.1.length aX) rfl<|wA (v:=.bool aO.2) rfl<|wn<|Af<|cr<|wM (v:=.bool aO.2) rfl<|wD (fun st=>Ca (eR st))<|wn ?_;rcases Ae (!aO.2) with bR|bR
       ·replace a:=Am a bR;have gY:aO.2=false:=by simpa using bR
        refine Ah rfl bR<|cr<|wM (v:=I b.2) rfl<|wD (fun st=>Dt (eR st) (eR st))<|wM (v:=.bool (b.2==7)) rfl ?_;rcases Ae (b.2==7) with bS|bS
        ·replace a:=Am a bS;refine wN bS (v:=.slice p b.1.length q) rfl<|wG bS (fun st=>Bn Tryz.underlying31 (eR st))<|wG bS (fun st=>Dt (eR st) (eR st))<|wD (fun st=>AR (v:=.bool ((b.1.length:Int)==0)) (eR st) bS (eR st))<|wM (v:=.bool ((b.1.length:Int)==0)) rfl ?_;rcases Ae ((b.1.length:Int)==0) with cC|cC
         ·replace a:=Am a cC;replace a:=B9 a;obtain⟨gC,a⟩:=a;refine wX cC (fun st=>Ak G3 (eR st) F6 (a37 aH ZA _ gC)) ?_;rintro _ hU ⟨gD,rfl⟩;have gE:=e5.ext gD;refine wD (fun st=>AR (v:=.bool true) (eR st) cC (eR st))<|wA (v:=.bool true) rfl<|wn<|Ap<|AG ?_;have aG:=oi a;refine Au rfl rfl ?_;exact⟨gE.AZ,congrArg Value.bool aG⟩
         ·replace a:=An a cC;exact absurd (oi a) (by decide)
        ·replace a:=An a bS;exact absurd (oi a) (by decide)
       ·replace a:=An a bR;have gZ:aO.2=true:=by simpa using bR
        refine Ao rfl bR<|cn<|cr<|wM (v:=I b.2) rfl<|wD (fun st=>Dt (eR st) (eR st))<|wM (v:=.bool (b.2==0)) rfl ?_;rcases Ae (b.2==0) with bT|bT
        ·replace a:=Am a bT;refine wN bT (v:=.slice p b.1.length q) rfl<|wG bT (fun st=>AA (v:=.slice aW aO.1.length aX) (eR st)) ?_;have dE:=((((((aK.mv (Ac bF)).mv (Ac aS)).mv (Ac bM)).mv (Ac aQ)).mv (Ac y)).mv (Ac e4));replace a:=bind_some a;obtain⟨dW,gF,a⟩:=a;refine wX bT (fun st=>Ak Lb (eR st) (Ci (eR st) (eR st)) (Qo aH b.1 aO.1 p q aW aX ZA _ dE.all b6.all dW gF)) ?_;rintro _ hV ⟨gG,rfl⟩;have gH:=e5.ext gG;refine wD (fun st=>AR (v:=.bool dW) (eR st) bT (eR st))<|wM (v:=.bool dW) rfl ?_;rcases Ae (dW) with cD|cD
         ·replace a:=Am a cD;replace a:=B9 a;obtain⟨gI,a⟩:=a;refine wX cD (fun st=>Ak G3 (eR st) F6 (a37 aH ZA _ gI)) ?_;rintro _ hW ⟨gJ,rfl⟩;have gK:=gH.ext gJ;refine wD (fun st=>AR (v:=.bool true) (eR st) cD (eR st))<|wA (v:=.bool true) rfl<|wn<|Ap ?_;have aG:=oi a;refine Au rfl rfl ?_;exact⟨gK.AZ,congrArg Value.bool aG⟩
         ·replace a:=An a cD;exact absurd (oi a) (by decide)
        ·replace a:=An a bT;exact absurd (oi a) (by decide)
    ·replace a:=An a aR;refine wF aR<|wF aR<|wD (fun st=>Bg (v:=.bool false) (eR st) aR (eR st))<|wM (v:=.bool false) rfl<|wH<|wH<|wH<|wH<|wD (fun st=>Bg (v:=.bool false) (eR st) rfl (eR st))<|wD (fun st=>Ua NY (eR st) (eR st))<|wn ?_;rcases Ae (aT !=false) with dF|dF
     ·replace a:=Am a dF;exact absurd (oi a) (by decide)
     ·replace a:=An a dF;refine Ao rfl dF<|cn<|Af<|Ai ?_;have aM:=(bX.ext y);refine wD (fun st=>AO (l:=(Ar e f g h i j k m c d n o x)) DL (eR st) aM rfl rfl)<|wM (v:=.slice r u.1.length s) rfl ?_;have ⟨aA,aB,aC,aD,aE,aF⟩:=CA a0 a2 a3 a4 a5 a6 (mt (Ac aQ) (Ac y));have t:=(aL.mv (Ac y));replace a:=bind_some a;obtain⟨aP,gL,a⟩:=a;refine wE (fun st=>Ak Sd (eR st) (Ci (eR st) (eR st)) (a72 aH x u.1 e f g h i j k m c d n o r s (zf Z w [some b1]) _ aA aB aC aD aE aF t aP gL)) ?_;rintro _ hX ⟨e6,⟨_,_,rfl,⟨aY,aZ,rfl,b7⟩,rfl⟩⟩;have e7:=b9.ext e6;have b7:=b7.mv (b9.DQ (Nat.le_refl _));refine wM (v:=.tuple #[.slice aY aP.1.length aZ,.bool aP.2]) rfl<|wD (fun st=>Bs (v:=.slice aY aP.1.length aZ) (eR st) rfl)<|wD (fun st=>Bs (v:=.bool aP.2) (eR st) rfl)<|wA (v:=.slice aY aP.1.length aZ) rfl<|wA (v:=.bool aP.2) rfl<|wn<|Af<|cr<|wM (v:=.bool aP.2) rfl<|wD (fun st=>Ca (eR st))<|wn ?_;rcases Ae (!aP.2) with bU|bU
      ·replace a:=Am a bU;have g0:aP.2=false:=by simpa using bU
       refine Ah rfl bU<|cr<|wM (v:=I b.2) rfl<|wD (fun st=>Dt (eR st) (eR st))<|wM (v:=.bool (b.2==7)) rfl ?_;rcases Ae (b.2==7) with bV|bV
       ·replace a:=Am a bV;refine wN bV (v:=.slice p b.1.length q) rfl<|wG bV (fun st=>Bn Tryz.underlying31 (eR st))<|wG bV (fun st=>Dt (eR st) (eR st))<|wD (fun st=>AR (v:=.bool ((b.1.length:Int)==0)) (eR st) bV (eR st))<|wM (v:=.bool ((b.1.length:Int)==0)) rfl ?_;rcases Ae ((b.1.length:Int)==0) with cE|cE
        ·replace a:=Am a cE;replace a:=B9 a;obtain⟨gM,a⟩:=a;refine wX cE (fun st=>Ak G3 (eR st) F6 (a37 aH ZA _ gM)) ?_;rintro _ hY ⟨gN,rfl⟩;have gO:=e7.ext gN;refine wD (fun st=>AR (v:=.bool true) (eR st) cE (eR st))<|wA (v:=.bool true) rfl<|wn<|Ap<|AG ?_;have aG:=oi a;refine Au rfl rfl ?_;exact⟨gO.AZ,congrArg Value.bool aG⟩
        ·replace a:=An a cE;exact absurd (oi a) (by decide)
       ·replace a:=An a bV;exact absurd (oi a) (by decide)
      ·replace a:=An a bU;have g1:aP.2=true:=by simpa using bU
       refine Ao rfl bU<|cn<|cr<|wM (v:=I b.2) rfl<|wD (fun st=>Dt (eR st) (eR st))<|wM (v:=.bool (b.2==0)) rfl ?_;rcases Ae (b.2==0) with bW|bW
       ·replace a:=Am a bW;refine wN bW (v:=.slice p b.1.length q) rfl<|wG bW (fun st=>AA (v:=.slice aY aP.1.length aZ) (eR st)) ?_;have dG:=((((((aK.mv (Ac bF)).mv (Ac aS)).mv (Ac bM)).mv (Ac aQ)).mv (Ac y)).mv (Ac e6));replace a:=bind_some a;obtain⟨dX,gP,a⟩:=a;refine wX bW (fun st=>Ak Lb (eR st) (Ci (eR st) (eR st)) (Qo aH b.1 aP.1 p q aY aZ ZA _ dG.all b7.all dX gP)) ?_;rintro _ hZ ⟨gQ,rfl⟩;have gR:=e7.ext gQ;refine wD (fun st=>AR (v:=.bool dX) (eR st) bW (eR st))<|wM (v:=.bool dX) rfl ?_;rcases Ae (dX) with cF|cF
        ·replace a:=Am a cF;replace a:=B9 a;obtain⟨gS,a⟩:=a;refine wX cF (fun st=>Ak G3 (eR st) F6 (a37 aH ZA _ gS)) ?_;rintro _ h3 ⟨gT,rfl⟩;have gU:=gR.ext gT;refine wD (fun st=>AR (v:=.bool true) (eR st) cF (eR st))<|wA (v:=.bool true) rfl<|wn<|Ap ?_;have aG:=oi a;refine Au rfl rfl ?_;exact⟨gU.AZ,congrArg Value.bool aG⟩
        ·replace a:=An a cF;exact absurd (oi a) (by decide)
       ·replace a:=An a bW;exact absurd (oi a) (by decide)
end Go.Proofs.YtbhofkcbfblijaaGreat
end
section
namespace Go.Proofs.YtbhofkcbfblijaaGreat
open Go.RowKit Go.ChangeShapes Go.WideShapes Go.ChangeAt
set_option maxRecDepth 100000 in
theorem NK(os:Os)(started:os.Started)(H:Type)(enc:TypeId×Value→H):
  ReturnsInHanded {} Tryz.checked os 12 .any (Rows.tradeShortsSpec.pre6 enc Tryz.prog Tryz.f12 Rows.tradeShortsRow.domain false) (Rows.tradeShortsSpec.post enc Tryz.prog Tryz.f12 false true false false):=by
 refine returnsInHanded_of_change_sized (C:=Tryz.checked) AaI started (by kernel_rfl) Tryz.func12
  (ChangeSpec.witness6 (enc:=enc) (C:=Tryz.checked) false ⟨#[], #[.agg #[.slice none 0 0,.slice none 0 0,.slice none 0 0,.int .i64 0,.slice none 0 0,.slice none 0 0,.slice none 0 0],.slice none 0 0],[]⟩ 8 (by kernel_rfl) (by kernel_rfl) (by kernel_rfl) (by kernel_rfl)) ?_
 intro W base args ds gs before f aG aP aH _;have a:∀(j:Nat) t v,Tryz.f12.params[j]?=some t→args[j]?=some v→Value.okWide Tryz.prog W .any base t v:=f;have d:=aG;obtain⟨p,q,aI,aQ,rfl,aX,aY⟩:=aG;have h:DataW.TrodAll enc Tryz.prog W 0 (fun _=>true) true Tryz.f12.params.toList args.toList ds p:=aI;obtain⟨rfl,rfl⟩:=trodVars_none aQ;simp only[List.append_nil] at d;have aJ:∀x∈p,x.block<W.heap.size:=fun x g=>by simpa using d.lt x g
 have aK:=h;have c:(DataW.weightsEach Tryz.prog (Tryz.f12.params.toList++[]) (ds++[])).all (· ≤reachBytes)=true:=aH;rw[Tryz.params12] at h a c;obtain⟨v0,v1,d0,d1,aR,aS,rfl,rfl,rfl,h0,h1⟩:=trodAll_two h;obtain⟨aL,aZ,aM,⟨i,k,l,m,n,o,r,s,u,w,y,z,rfl,aA,aB,aC,aD,aE,aF⟩,w0⟩:=Tq Tryz.underlying67 Va (a 0 67 v0 rfl rfl) h0 (NZ (j:=0) c rfl rfl);obtain⟨x1,aT,aU,aN,s1,w1⟩:=U9 Tryz.underlying31 (IK (b:=8) Tryz.underlying31 (by kernel_rfl) (by decide) (IB Tryz.underlying3) (by kernel_rfl)) (a 1 31 v1 rfl rfl) h1 (NZ (j:=1) c rfl rfl);subst aM;subst aN;obtain⟨K,aV⟩:=OM aL x1;refine(Qr (a12 K aL x1 i k l m n o r s u w y z aT aU ZA W aA aB aC aD aE aF s1 aV)).mono fun e W' ⟨v,he,g,aW⟩=>?_;subst he;subst aW;exact⟨_,rfl,Oh (pa:=(aR++aS)) (pv:=[]) d (fun _ _ _=>trodAll_mk1 (shut_bool Tryz.underlying4 _)) (fun sp hs=>Qq W9 Xa (by rw[Tryz.params12];decide) aK g aJ sp (fun x aO=>hs x (by simpa using aO))) (fun _ _=>rfl) (by simp) g (ok_one (by kernel_rfl) rfl (okWide_bool_mk Tryz.underlying4 _))⟩
theorem JF:((Rows.tradeShortsRow.inPlace==Tryz.checked.prog.inPlace 12)&&(Rows.tradeShortsRow.unfollowed==Tryz.checked.prog.unfollowed 12)&&(Rows.tradeShortsRow.recurses==Tryz.checked.prog.recurses 12)&&(Rows.tradeShortsRow.named==Tryz.checked.prog.varsNamed 12))=true:=by kernel_rfl
theorem N3:joinedFacts Tryz.checked.prog 12 Tryz.f12 Rows.tradeShortsSpec Rows.tradeShortsRow=true:=by
 unfold joinedFacts;exact(CF (CF (CF (CF (CF (CF (CF (CF (CF (CF (CF (CF (CF (CF (CF (CF (CF (CF (CF (CF (CF (CF (CF (CF (CF (CF (CF (CF (CF (CF (CF (by kernel_rfl) Vb) Vc) (by kernel_rfl)) (by kernel_rfl)) (by kernel_rfl)) Ts) (by kernel_rfl)) Tt) (KE (KE (KE JF)))) (Oi (KE (KE JF)))) (Oi (KE JF))) (Oi JF)) (by kernel_rfl)) (by kernel_rfl)) (by kernel_rfl)) (by kernel_rfl)) (by kernel_rfl)) (by kernel_rfl)) (by kernel_rfl)) (by kernel_rfl)) (by kernel_rfl)) Vd) (by kernel_rfl)) Tu) (KE (KE Mr))) (Oi (KE Mr))) (Oi Mr)) (by kernel_rfl)) (by kernel_rfl)) (by kernel_rfl)) (by kernel_rfl))
theorem tradeShorts_holds:Rows.TradeShortsSaid:=
 OpenClaim.holds_of_wide 12 Tryz.f12 rfl rfl rfl rfl rfl rfl rfl ⟨rfl,rfl,rfl,rfl,rfl⟩ rfl rfl rfl rfl rfl (by kernel_rfl) Tryz.func12 N3
  (of_decide_eq_true (by kernel_rfl)) (by unfold Func.isWrapper;rw[if_neg (by decide+kernel)];exact⟨rfl,rfl⟩)
  (fun os started H enc _=>NK os started H enc)
end Go.Proofs.YtbhofkcbfblijaaGreat
end
