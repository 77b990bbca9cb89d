import Derived.Test.YtbhofkcbfblijaaGreatETradeFills
import Derived.Test.YtbhofkcbfblijaaGreatRows
/-
  Proved: the law TradeFills returns true for every argument that the row hands over, and leaves every argument as it was; no condition beside the row's own.
-/
set_option linter.all false
section
namespace Go.Proofs.YtbhofkcbfblijaaGreat
open Go.RowKit Go.WideShapes
def Jx(a:Nat)(d:Ah)(g:List Int):Option (Bool):=
 (FW a d).bind fun m=>cond (!m) ((Es (BF a=some true)).bind fun _=>some (true)) (cond (decide ((8:Int)<(g.length:Int))) ((Es (BF a=some true)).bind fun _=>some (true)) ((CD a d).bind fun h=>(J2 a h).bind fun b=>(CD a d).bind fun i=>(Cr a g).bind fun j=>(Gh a i j).bind fun e=>(DN a d).bind fun c=>cond (c.2 !=0) (cond (b.2==c.2) (cond ((b.1.length:Int)==0) (cond (!e) ((Es (BF a=some true)).bind fun _=>some (true)) (some (false))) (some (false))) (some (false))) ((Ix a d c.1 g).bind fun k=>cond (e !=k) (some (false)) ((LM a d c.1).bind fun f=>cond (!f.2) (cond (b.2==10) (cond ((b.1.length:Int)==0) ((Es (BF a=some true)).bind fun _=>some (true)) (some (false))) (some (false))) (cond (b.2==0) ((Dk a b.1 f.1).bind fun l=>cond (l) ((Es (BF a=some true)).bind fun _=>some (true)) (some (false))) (some (false)))))))
end Go.Proofs.YtbhofkcbfblijaaGreat
end
section
namespace Go.Proofs.YtbhofkcbfblijaaGreat
theorem Ab1{t:Ah}{x:List Int}(a:OkT t)(h:Hl t x):x.length≤3:=by
 have:=Kj h.is;have:=a.ol;rw[Fj] at*;omega
section
variable{K:Nat}(hK:1000≤K)
include hK
theorem Ux(ha:BF K=some true)(t:Ah)(d:List Int):Jx K t d=some true:=by
 unfold Jx;rw[bd (Pp hK t)];cases h:Eh t with
 |false=>rw[nf,DG ha]
 |true=>
  rw[nt]
  by_cases k:8<d.length
  ·rw[ct (dt (by omega)),DG ha]
  have hlen:=Gn h;obtain⟨x,e,g1,g2,g3⟩:=Yj hK h;rw[cf (df (by omega)),bd (It hK t hlen),bd g1,bd (It hK t hlen),bd (J5 hK d (by omega)),bd (OU hK h (by omega)),bd (QX hK h)]
  by_cases h0:BY t=0
  ·have f:=Eo h (C5 (C8 h0).1).1;obtain⟨l,b,j,i⟩:=Ael hK f;rw[h0,if_pos rfl,cf (EW rfl),bd (Tl hK f (by omega)),dt rfl,Bool.true_and,cf (X3 _),bd j];rcases g3 h0 with⟨rfl,g⟩|⟨rfl,rfl,a⟩
   ·rcases i with⟨rfl,c⟩|⟨rfl,rfl,a⟩
    ·obtain rfl:=g.uniq c;rw[nt,ct (F9 rfl),bd (QV hK (show x.length≤900 by have:=Ab1 f g;omega)),ct rfl,DG ha]
    ·have:=g.is;rw[a] at this;cases this
   ·rcases i with⟨rfl,c⟩|⟨rfl,rfl,_⟩
    ·have:=c.is;rw[a] at this;cases this
    ·rw[nf,ct (F9 rfl),WC,DG ha]
  ·obtain⟨rfl,rfl⟩:=g2 h0;rw[ct (FX h0),ct (F9 rfl),WC,df h0,Bool.false_and,nf,DG ha]
end
theorem Vn(t:Ah)(l:List Int):∃K,Jx K t l=some true:=⟨1000,Ux (Nat.le_refl _) L2 t l⟩
end Go.Proofs.YtbhofkcbfblijaaGreat
end
section
namespace Go.Proofs.YtbhofkcbfblijaaGreat
open Go.RowKit Go.WideShapes
set_option maxRecDepth 20000
open HF
attribute [local irreducible] Dm WL CC CW LV B7 Ih GL One Bg
set_option maxHeartbeats 4000000 in
theorem a17 aC u bH c d e f g h i j k m n o aD aE(Z:Nat→Prop) w(d7:Sl Az w Z c d u.Ag)(d8:Sl (Bs (Ao .i64)) w Z e f u.Ab)(d9:Sl AH w Z g h u.Ak)(eA:Sl Ba w Z i j u.AJ)(eB:Sl Bc w Z k m u.Aw)(eC:Sl Bp w Z n o u.Ar)(eD:Sl (Ao .i64) w Z aD aE bH)(a:Jx aC u bH=some true):
 B7 Tryz.prog 17 #[.agg (Ai c d e f g h i j k m n o u).toArray,.slice aD bH.length aE] w (fun v w'=>Ext w w'∧v=.bool true):=by
 unfold Jx at a;refine rq (N:=88) Tryz.func17 fun fP ha fQ=>?_;have eO:=sA 0 ha;have cQ:=sA 1 ha;clear ha;have eE:Hp FN [] w [] w:=Hp.start (BL.none w);have ⟨c4,c5,c6,c7,c8,c9,dA⟩:=Ea d7 d8 d9 eA eB eC eD (Bd (Z:=Z) (L:=[]) w);refine cr<|wE (fun st=>BP (v:=.agg (Ai c d e f g h i j k m n o u).toArray) (cs:=(Ai c d e f g h i j k m n o u).toArray) (ee st eO) rfl) ?_;rintro _ w1 ⟨b1,rfl,bI⟩;have fF:=eE.nb bI;have fM:=eE.BU bI;refine wA (v:=.bool false) rfl<|wn<|Af<|cr<|wD (fun st=>AK (l:=(Ai c d e f g h i j k m n o u)) Cc (eR st) bI.bk rfl rfl) ?_;have ⟨bJ,bK,bL,bM,bN,bO⟩:=Cp c4 c5 c6 c7 c8 c9 (AA bI);replace a:=bind_some a;obtain⟨dZ,fG,a⟩:=a;refine wE (fun st=>Aj Pr (eR st) (Cy (eR st)) (U8 aC u c d e f g h i j k m n o ZA _ bJ.all bK.all bL.all bM.all bN.all bO.all dZ fG)) ?_;rintro _ f4 ⟨cY,rfl⟩;have cZ:=fF.ext cY;refine wD (fun st=>CJ (eR st))<|wM (v:=.bool !dZ) rfl ?_;rcases Ae (!dZ) with x|x
 ·replace a:=Ap a x;have fN:dZ=false:=by simpa using x
  refine wF x<|wF x<|wF x<|wD (fun st=>AW (v:=.bool true) (eR st) x (eR st))<|wn<|Am rfl rfl<|Af<|Al ?_;replace a:=Ci a;obtain⟨fH,a⟩:=a;refine wE (fun st=>Aj EZ (eR st) Gj (a37 aC ZA _ fH)) ?_;rintro _ f5 ⟨fI,rfl⟩;have fJ:=cZ.ext fI;refine wA (v:=.bool true) rfl<|wn<|Av<|AG ?_;have aV:=oi a;refine Ay rfl rfl ?_;exact⟨fJ.AS,congrArg Value.bool aV⟩
 ·replace a:=Aq a x;have fO:dZ=true:=by simpa using x
  refine wN x (v:=.slice aD bH.length aE) cQ<|wG x (fun st=>Be Tryz.underlying31 (eR st))<|wG x (fun st=>Gs (eR st) (eR st))<|wD (fun st=>Bo (v:=.bool (decide ((8:Int)<(bH.length:Int)))) (eR st) x (eR st))<|wn ?_;rcases Ae (decide ((8:Int)<(bH.length:Int))) with cO|cO
  ·replace a:=Ap a cO;refine Am rfl cO<|Af<|Al ?_;replace a:=Ci a;obtain⟨eP,a⟩:=a;refine wE (fun st=>Aj EZ (eR st) Gj (a37 aC ZA _ eP)) ?_;rintro _ fR ⟨eQ,rfl⟩;have fK:=cZ.ext eQ;refine wA (v:=.bool true) rfl<|wn<|Av<|AG ?_;have aV:=oi a;refine Ay rfl rfl ?_;exact⟨fK.AS,congrArg Value.bool aV⟩
  ·replace a:=Aq a cO;refine An rfl cO<|cn<|Af<|Al ?_;have c0:=(bI.bk.ext cY);refine wD (fun st=>AK (l:=(Ai c d e f g h i j k m n o u)) Cc (eR st) c0 rfl rfl) ?_;have ⟨bP,bQ,bR,bS,bT,bU⟩:=Cp bJ bK bL bM bN bO (Ac cY);replace a:=bind_some a;obtain⟨eF,eS,a⟩:=a;refine wE (fun st=>Aj Ic (eR st) (Cy (eR st)) (M5 aC u c d e f g h i j k m n o (zf Z w [some b1]) _ bP bQ bR bS bT bU eF eS)) ?_;rintro _ fS ⟨cC,⟨_,rfl,⟨dB,dC,dD,dE,dF,dG,dH,dI,dJ,dK,dL,dM,rfl,aF,aG,aH,aI,aJ,aK⟩⟩⟩;have eG:=cZ.ext cC;have ⟨aF,aG,aH,aI,aJ,aK⟩:=Cp aF aG aH aI aJ aK (cZ.CQ (Nat.le_refl _));replace a:=bind_some a;obtain⟨b,eT,a⟩:=a;refine wE (fun st=>Aj XT (eR st) (Cy (eR st)) (a81 aC eF dB dC dD dE dF dG dH dI dJ dK dL dM (zf Z w [some b1]) _ aF aG aH aI aJ aK b eT)) ?_;rintro _ fT ⟨cD,⟨_,_,rfl,⟨q,r,rfl,aX⟩,rfl⟩⟩;have eH:=eG.ext cD;have aX:=aX.mv (eG.CQ (Nat.le_refl _));refine wM (v:=.tuple #[.slice q b.1.length r,I b.2]) rfl<|wD (fun st=>Bz (v:=.slice q b.1.length r) (eR st) rfl)<|wD (fun st=>Bz (v:=I b.2) (eR st) rfl)<|wA (v:=.slice q b.1.length r) rfl<|wA (v:=I b.2) rfl<|wn<|Af<|Al ?_;have c1:=((c0.ext cC).ext cD);refine wD (fun st=>AK (l:=(Ai c d e f g h i j k m n o u)) Cc (eR st) c1 rfl rfl) ?_;have ⟨bV,bW,bX,bY,bZ,b4⟩:=Cp bP bQ bR bS bT bU (mt (Ac cC) (Ac cD));replace a:=bind_some a;obtain⟨eI,eU,a⟩:=a;refine wE (fun st=>Aj Ic (eR st) (Cy (eR st)) (M5 aC u c d e f g h i j k m n o (zf Z w [some b1]) _ bV bW bX bY bZ b4 eI eU)) ?_;rintro _ fU ⟨a4,⟨_,rfl,⟨dN,dO,dP,dQ,dR,dS,dT,dU,dV,dW,dX,dY,rfl,aL,aM,aN,aO,aP,aQ⟩⟩⟩;have eJ:=eH.ext a4;have ⟨aL,aM,aN,aO,aP,aQ⟩:=Cp aL aM aN aO aP aQ (eH.CQ (Nat.le_refl _));refine wM (v:=.slice aD bH.length aE) cQ ?_;have b5:=(((((dA.mv (AA bI)).mv (Ac cY)).mv (Ac cC)).mv (Ac cD)).mv (Ac a4));replace a:=bind_some a;obtain⟨eK,eV,a⟩:=a;refine wE (fun st=>Aj J6 (eR st) (Cy (eR st)) (a51 aC bH aD aE (zf Z w [some b1]) _ b5 eK eV)) ?_;rintro _ fV ⟨aY,⟨d0,d1,rfl,aZ⟩⟩;have fL:=eJ.ext aY;have aZ:=aZ.mv (eJ.CQ (Nat.le_refl _));have ⟨cE,cF,cG,cH,cI,cJ⟩:=Cp aL aM aN aO aP aQ (Ac aY);replace a:=bind_some a;obtain⟨aW,eW,a⟩:=a;refine wE (fun st=>Aj Tm (eR st) (CN (eR st) (eR st)) (a82 aC eI eK dN dO dP dQ dR dS dT dU dV dW dX dY d0 d1 ZA _ cE.all cF.all cG.all cH.all cI.all cJ.all aZ.all aW eW)) ?_;rintro _ fW ⟨a5,rfl⟩;have eM:=fL.ext a5;refine wA (v:=.bool aW) rfl<|wn<|Af<|Al ?_;have c2:=(((c1.ext a4).ext aY).ext a5);refine wD (fun st=>AK (l:=(Ai c d e f g h i j k m n o u)) Cc (eR st) c2 rfl rfl) ?_;have ⟨b6,b7,b8,b9,cA,cB⟩:=Cp bV bW bX bY bZ b4 (mt (Ac a4) (mt (Ac aY) (Ac a5)));replace a:=bind_some a;obtain⟨p,eX,a⟩:=a;refine wE (fun st=>Aj QZ (eR st) (Cy (eR st)) (Yh aC u c d e f g h i j k m n o (zf Z w [some b1]) _ b6 b7 b8 b9 cA cB p eX)) ?_;rintro _ fX ⟨a7,⟨_,_,rfl,⟨s,t,rfl,aB⟩,rfl⟩⟩;have d2:=eM.ext a7;have aB:=aB.mv (eM.CQ (Nat.le_refl _));refine wM (v:=.tuple #[.slice s p.1.length t,I p.2]) rfl<|wD (fun st=>Bz (v:=.slice s p.1.length t) (eR st) rfl)<|wD (fun st=>Bz (v:=I p.2) (eR st) rfl)<|wA (v:=.slice s p.1.length t) rfl<|wA (v:=I p.2) rfl<|wn<|Af<|cr<|wM (v:=I p.2) rfl<|wD (fun st=>Db (eR st) (eR st))<|wn ?_;rcases Ae (p.2 !=0) with a8|a8
   ·replace a:=Ap a a8;refine Am rfl a8<|cr<|wM (v:=I b.2) rfl<|wM (v:=I p.2) rfl<|wD (fun st=>CT (eR st) (eR st))<|wM (v:=.bool (b.2==p.2)) rfl ?_;rcases Ae (b.2==p.2) with aR|aR
    ·replace a:=Ap a aR;refine wN aR (v:=.slice q b.1.length r) rfl<|wG aR (fun st=>Be Tryz.underlying31 (eR st))<|wG aR (fun st=>CT (eR st) (eR st))<|wD (fun st=>AW (v:=.bool ((b.1.length:Int)==0)) (eR st) aR (eR st))<|wM (v:=.bool ((b.1.length:Int)==0)) rfl ?_;rcases Ae ((b.1.length:Int)==0) with a0|a0
     ·replace a:=Ap a a0;refine wN a0 (v:=.bool aW) rfl<|wG a0 (fun st=>CJ (eR st))<|wD (fun st=>AW (v:=.bool !aW) (eR st) a0 (eR st))<|wM (v:=.bool !aW) rfl ?_;rcases Ae (!aW) with a2|a2
      ·replace a:=Ap a a2;have fC:aW=false:=by simpa using a2
       replace a:=Ci a;obtain⟨eY,a⟩:=a;refine wX a2 (fun st=>Aj EZ (eR st) Gj (a37 aC ZA _ eY)) ?_;rintro _ fY ⟨eZ,rfl⟩;have e0:=d2.ext eZ;refine wD (fun st=>AW (v:=.bool true) (eR st) a2 (eR st))<|wA (v:=.bool true) rfl<|wn<|Av<|AG ?_;have aV:=oi a;refine Ay rfl rfl ?_;exact⟨e0.AS,congrArg Value.bool aV⟩
      ·replace a:=Aq a a2;exact absurd (oi a) (by decide)
     ·replace a:=Aq a a0;exact absurd (oi a) (by decide)
    ·replace a:=Aq a aR;exact absurd (oi a) (by decide)
   ·replace a:=Aq a a8;refine An rfl a8<|cn<|Af<|cr<|wM (v:=.bool aW) rfl ?_;have cP:=(c2.ext a7);refine wD (fun st=>AK (l:=(Ai c d e f g h i j k m n o u)) Cc (eR st) cP rfl rfl)<|wM (v:=.slice s p.1.length t) rfl<|wM (v:=.slice aD bH.length aE) cQ ?_;have ⟨a9,bA,bB,bC,bD,bE⟩:=Cp b6 b7 b8 b9 cA cB (Ac a7);have cR:=(((b5.mv (Ac aY)).mv (Ac a5)).mv (Ac a7));replace a:=bind_some a;obtain⟨eN,e1,a⟩:=a;refine wE (fun st=>Aj AaK (eR st) (Dx (eR st) (eR st) (eR st)) (a83 aC u p.1 bH c d e f g h i j k m n o s t aD aE ZA _ a9.all bA.all bB.all bC.all bD.all bE.all aB.all cR.all eN e1)) ?_;rintro _ fZ ⟨cK,rfl⟩;have d3:=d2.ext cK;refine wD (fun st=>Sa Py (eR st) (eR st))<|wn ?_;rcases Ae (aW !=eN) with cL|cL
    ·replace a:=Ap a cL;exact absurd (oi a) (by decide)
    ·replace a:=Aq a cL;refine An rfl cL<|cn<|Af<|Al ?_;have d4:=(cP.ext cK);refine wD (fun st=>AK (l:=(Ai c d e f g h i j k m n o u)) Cc (eR st) d4 rfl rfl)<|wM (v:=.slice s p.1.length t) rfl ?_;have ⟨cS,cT,cU,cV,cW,cX,cM⟩:=Ea a9 bA bB bC bD bE aB (Ac cK);replace a:=bind_some a;obtain⟨y,e2,a⟩:=a;refine wE (fun st=>Aj Aff (eR st) (CN (eR st) (eR st)) (a84 aC u p.1 c d e f g h i j k m n o s t (zf Z w [some b1]) _ cS cT cU cV cW cX cM y e2)) ?_;rintro _ f0 ⟨d5,⟨_,_,rfl,⟨z,aA,rfl,a3⟩,rfl⟩⟩;have d6:=d3.ext d5;have a3:=a3.mv (d3.CQ (Nat.le_refl _));refine wM (v:=.tuple #[.slice z y.1.length aA,.bool y.2]) rfl<|wD (fun st=>Bz (v:=.slice z y.1.length aA) (eR st) rfl)<|wD (fun st=>Bz (v:=.bool y.2) (eR st) rfl)<|wA (v:=.slice z y.1.length aA) rfl<|wA (v:=.bool y.2) rfl<|wn<|Af<|cr<|wM (v:=.bool y.2) rfl<|wD (fun st=>CJ (eR st))<|wn ?_;rcases Ae (!y.2) with aS|aS
     ·replace a:=Ap a aS;have fD:y.2=false:=by simpa using aS
      refine Am rfl aS<|cr<|wM (v:=I b.2) rfl<|wD (fun st=>CT (eR st) (eR st))<|wM (v:=.bool (b.2==10)) rfl ?_;rcases Ae (b.2==10) with aT|aT
      ·replace a:=Ap a aT;refine wN aT (v:=.slice q b.1.length r) rfl<|wG aT (fun st=>Be Tryz.underlying31 (eR st))<|wG aT (fun st=>CT (eR st) (eR st))<|wD (fun st=>AW (v:=.bool ((b.1.length:Int)==0)) (eR st) aT (eR st))<|wM (v:=.bool ((b.1.length:Int)==0)) rfl ?_;rcases Ae ((b.1.length:Int)==0) with bF|bF
       ·replace a:=Ap a bF;replace a:=Ci a;obtain⟨e3,a⟩:=a;refine wX bF (fun st=>Aj EZ (eR st) Gj (a37 aC ZA _ e3)) ?_;rintro _ f1 ⟨e4,rfl⟩;have e5:=d6.ext e4;refine wD (fun st=>AW (v:=.bool true) (eR st) bF (eR st))<|wA (v:=.bool true) rfl<|wn<|Av<|AG ?_;have aV:=oi a;refine Ay rfl rfl ?_;exact⟨e5.AS,congrArg Value.bool aV⟩
       ·replace a:=Aq a bF;exact absurd (oi a) (by decide)
      ·replace a:=Aq a aT;exact absurd (oi a) (by decide)
     ·replace a:=Aq a aS;have fE:y.2=true:=by simpa using aS
      refine An rfl aS<|cn<|cr<|wM (v:=I b.2) rfl<|wD (fun st=>CT (eR st) (eR st))<|wM (v:=.bool (b.2==0)) rfl ?_;rcases Ae (b.2==0) with aU|aU
      ·replace a:=Ap a aU;refine wN aU (v:=.slice q b.1.length r) rfl<|wG aU (fun st=>Au (v:=.slice z y.1.length aA) (eR st)) ?_;have cN:=((((((aX.mv (Ac a4)).mv (Ac aY)).mv (Ac a5)).mv (Ac a7)).mv (Ac cK)).mv (Ac d5));replace a:=bind_some a;obtain⟨c3,e6,a⟩:=a;refine wX aU (fun st=>Aj On (eR st) (CN (eR st) (eR st)) (S7 aC b.1 y.1 q r z aA ZA _ cN.all a3.all c3 e6)) ?_;rintro _ f2 ⟨e7,rfl⟩;have e8:=d6.ext e7;refine wD (fun st=>AW (v:=.bool c3) (eR st) aU (eR st))<|wM (v:=.bool c3) rfl ?_;rcases Ae (c3) with bG|bG
       ·replace a:=Ap a bG;replace a:=Ci a;obtain⟨e9,a⟩:=a;refine wX bG (fun st=>Aj EZ (eR st) Gj (a37 aC ZA _ e9)) ?_;rintro _ f3 ⟨fA,rfl⟩;have fB:=e8.ext fA;refine wD (fun st=>AW (v:=.bool true) (eR st) bG (eR st))<|wA (v:=.bool true) rfl<|wn<|Av ?_;have aV:=oi a;refine Ay rfl rfl ?_;exact⟨fB.AS,congrArg Value.bool aV⟩
       ·replace a:=Aq a bG;exact absurd (oi a) (by decide)
      ·replace a:=Aq a aU;exact absurd (oi a) (by decide)
end Go.Proofs.YtbhofkcbfblijaaGreat
end
section
namespace Go.Proofs.YtbhofkcbfblijaaGreat
open Go.RowKit Go.ChangeShapes Go.WideShapes Go.ChangeAt
set_option maxRecDepth 100000 in
theorem TL(os:Os)(started:os.Started)(H:Type)(enc:TypeId×Value→H):
  ReturnsInHanded {} Tryz.checked os 17 .any (Rows.tradeFillsSpec.pre6 enc Tryz.prog Tryz.f17 Rows.tradeFillsRow.domain false) (Rows.tradeFillsSpec.post enc Tryz.prog Tryz.f17 false true false false):=by
 refine returnsInHanded_of_change_sized (C:=Tryz.checked) R8 started (by kernel_rfl) Tryz.func17
  (ChangeSpec.witness6 (enc:=enc) (C:=Tryz.checked) false ⟨#[], #[.agg #[.slice none 0 0,.slice none 0 0,.slice none 0 0,.int .i64 0,.slice none 0 0,.slice none 0 0,.slice none 0 0],.slice none 0 0],[]⟩ 8 (by kernel_rfl) (by kernel_rfl) (by kernel_rfl) (by kernel_rfl)) ?_
 intro W base args ds gs before f aG aP aH _;have a:∀(j:Nat) t v,Tryz.f17.params[j]?=some t→args[j]?=some v→Value.okWide Tryz.prog W .any base t v:=f;have d:=aG;obtain⟨p,q,aI,aQ,rfl,aX,aY⟩:=aG;have h:DataW.TrodAll enc Tryz.prog W 0 (fun _=>true) true Tryz.f17.params.toList args.toList ds p:=aI;obtain⟨rfl,rfl⟩:=trodVars_none aQ;simp only[List.append_nil] at d;have aJ:∀x∈p,x.block<W.heap.size:=fun x g=>by simpa using d.lt x g
 have aK:=h;have c:(DataW.weightsEach Tryz.prog (Tryz.f17.params.toList++[]) (ds++[])).all (· ≤reachBytes)=true:=aH;rw[Tryz.params17] at h a c;obtain⟨v0,v1,d0,d1,aR,aS,rfl,rfl,rfl,h0,h1⟩:=trodAll_two h;obtain⟨aL,aZ,aM,⟨i,k,l,m,n,o,r,s,u,w,y,z,rfl,aA,aB,aC,aD,aE,aF⟩,w0⟩:=OD Tryz.underlying67 Ps (a 0 67 v0 rfl rfl) h0 (LQ (j:=0) c rfl rfl);obtain⟨x1,aT,aU,aN,s1,w1⟩:=Pz Tryz.underlying31 (KX (b:=8) Tryz.underlying31 (by kernel_rfl) (by decide) (Lf Tryz.underlying3) (by kernel_rfl)) (a 1 31 v1 rfl rfl) h1 (LQ (j:=1) c rfl rfl);subst aM;subst aN;obtain⟨K,aV⟩:=Vn aL x1;refine(MR (a17 K aL x1 i k l m n o r s u w y z aT aU ZA W aA aB aC aD aE aF s1 aV)).mono fun e W' ⟨v,he,g,aW⟩=>?_;subst he;subst aW;exact⟨_,rfl,Lq (pa:=(aR++aS)) (pv:=[]) d (fun _ _ _=>trodAll_mk1 (shut_bool Tryz.underlying4 _)) (fun sp hs=>MQ Qq Qr (by rw[Tryz.params17];decide) aK g aJ sp (fun x aO=>hs x (by simpa using aO))) (fun _ _=>rfl) (by simp) g (ok_one (by kernel_rfl) rfl (okWide_bool_mk Tryz.underlying4 _))⟩
theorem OL:((Rows.tradeFillsRow.inPlace==Tryz.checked.prog.inPlace 17)&&(Rows.tradeFillsRow.unfollowed==Tryz.checked.prog.unfollowed 17)&&(Rows.tradeFillsRow.recurses==Tryz.checked.prog.recurses 17)&&(Rows.tradeFillsRow.named==Tryz.checked.prog.varsNamed 17))=true:=by kernel_rfl
theorem Uy:joinedFacts Tryz.checked.prog 17 Tryz.f17 Rows.tradeFillsSpec Rows.tradeFillsRow=true:=by
 unfold joinedFacts;exact(Bu (Bu (Bu (Bu (Bu (Bu (Bu (Bu (Bu (Bu (Bu (Bu (Bu (Bu (Bu (Bu (Bu (Bu (Bu (Bu (Bu (Bu (Bu (Bu (Bu (Bu (Bu (Bu (Bu (Bu (Bu (by kernel_rfl) Pt) Pu) (by kernel_rfl)) (by kernel_rfl)) (by kernel_rfl)) OE) (by kernel_rfl)) OF) (F8 (F8 (F8 OL)))) (JJ (F8 (F8 OL)))) (JJ (F8 OL))) (JJ OL)) (by kernel_rfl)) (by kernel_rfl)) (by kernel_rfl)) (by kernel_rfl)) (by kernel_rfl)) (by kernel_rfl)) (by kernel_rfl)) (by kernel_rfl)) (by kernel_rfl)) Pv) (by kernel_rfl)) OG) (F8 (F8 Iu))) (JJ (F8 Iu))) (JJ Iu)) (by kernel_rfl)) (by kernel_rfl)) (by kernel_rfl)) (by kernel_rfl))
theorem tradeFills_holds:Rows.TradeFillsSaid:=
 OpenClaim.holds_of_wide 17 Tryz.f17 rfl rfl rfl rfl rfl rfl rfl ⟨rfl,rfl,rfl,rfl,rfl⟩ rfl rfl rfl rfl rfl (by kernel_rfl) Tryz.func17 Uy
  (of_decide_eq_true (by kernel_rfl)) (by unfold Func.isWrapper;rw[if_neg (by decide+kernel)];exact⟨rfl,rfl⟩)
  (fun os started H enc _=>TL os started H enc)
end Go.Proofs.YtbhofkcbfblijaaGreat
end
