import Derived.Test.YtbhofkcbfblijaaGreatETradeProof
import Derived.Test.YtbhofkcbfblijaaGreatRows
/-
  Proved: the law TradeProof returns true for every argument that the row hands over, and leaves every argument as it was; no condition beside the row's own.
-/
set_option linter.all false
section
namespace Go.Proofs.YtbhofkcbfblijaaGreat
open Go.RowKit Go.WideShapes
def Ln(a:Nat)(c:Aj)(f:Int):Option (Bool):=
 (B6 a c).bind fun m=>cond (!m) ((EG (Bx a=some true)).bind fun _=>some (true)) ((Co a c).bind fun n=>(J1 a n).bind fun b=>(E5 .i64 f).bind fun _=>(E5 .u64 (c.Aw.length:Int)).bind fun _=>(EV (1:Int) (c.Aw.length:Int)).bind fun _=>(i64 ((CY (1:Int) (c.Aw.length:Int))-1)).bind fun _=>(GG f ((CY (1:Int) (c.Aw.length:Int))-1)).bind fun _=>(CN a (It f ((CY (1:Int) (c.Aw.length:Int))-1))).bind fun e=>(Co a c).bind fun g=>(CM a e).bind fun h=>(GM a g h).bind fun d=>cond (b.2 !=0) (cond (b.2==9) (cond (!d) ((EG (Bx a=some true)).bind fun _=>some (true)) (some (false))) (cond (b.2==11) (cond (!d) ((EG (Bx a=some true)).bind fun _=>some (true)) (some (false))) (cond (b.2==7) (cond (!d) ((EG (Bx a=some true)).bind fun _=>some (true)) (some (false))) (some (false))))) (cond (decide ((0:Int)<(b.1.length:Int))) ((Co a c).bind fun i=>(CM a b.1).bind fun j=>(GM a i j).bind fun k=>cond (k) (cond (!d) ((EG (Bx a=some true)).bind fun _=>some (true)) ((E4 a e b.1).bind fun l=>cond (!l) ((EG (Bx a=some true)).bind fun _=>some (true)) (some (false)))) (some (false))) (some (false))))
end Go.Proofs.YtbhofkcbfblijaaGreat
end
section
namespace Go.Proofs.YtbhofkcbfblijaaGreat
section
variable{K:Nat}(hK:1000≤K)
include hK
theorem W4(ha:Bx K=some true)(t:Aj)(k:Int)(hk:0≤k)(n:k<256):Ln K t k=some true:=by
 unfold Ln;rcases I4 hK t with h|⟨h,d,hr⟩
 ·rw[bd h,nf,Dt ha]
 rw[bd hr,nt];have hlen:=E9 h;have f:=d.ol;obtain⟨x,e,g1,g2,g3⟩:=Ur hK h;obtain⟨k',rfl⟩:∃k':Nat,k=k':=⟨k.toNat,by omega⟩;obtain⟨s1,s2,i,p,q,_⟩:=L3 t.Aw.length (by omega);have j:((2^t.Aw.length:Nat):Int)-1=((2^t.Aw.length-1:Nat):Int):=by omega
 have a:=OU k' t.Aw.length;have r:2^t.Aw.length≤2^3:=Nat.pow_le_pow_right (by omega) f;rw[bd (GI hK t hlen),bd g1,QL hk (by omega),bd s1,bd s2,i,j,AZ (by omega) (by omega),KL (by omega) (by omega),RV,bd (M8 hK (by omega)),bd (GI hK t hlen)];generalize k'&&&(2^t.Aw.length-1)=s at a;have o:=I1 s;rw[bd (Kp hK _ (by omega)),bd (Qg hK h (by omega)),GS a,Bool.true_and]
 by_cases h0:BQ t=0
 ·rw[dt h0,Bool.true_and];rcases g3 h0 with⟨rfl,c⟩|⟨rfl,rfl,g⟩
  ·obtain⟨b,hb,rfl⟩:=c.is;have l:=I1 b;have m:0<(Ba b).length:=by
    rcases Nat.eq_zero_or_pos (Ba b).length with e|e
    ·have:=c.ok;rw[List.eq_nil_of_length_eq_zero e] at this;cases this
    ·exact e
   rw[cf (E6 rfl),ct (dt (show(0:Int)<((Ba b).length:Int) by omega)),bd (GI hK t hlen),bd (Kp hK (Ba b) (by omega)),bd (Qg hK h (show(Ba b).length≤100 by omega)),dt h0,GS hb,c.ok,Bool.true_and,Bool.true_and,ct rfl];cases hs:Ig t (Ba s) with
   |false=>rw[nf,Dt ha]
   |true=>rw[nt,bd (Q9 hK (by omega) (show(Ba b).length≤900 by omega)),c.least s a hs,nf,Dt ha]
  ·rw[g s a,ct (Fy (by decide)),cf (Gw (by decide)),cf (Gw (by decide)),ct (EO rfl),nf,Dt ha]
 ·obtain⟨rfl,rfl⟩:=g2 h0;rw[df h0,Bool.false_and,ct (Fy h0)];rcases Qh d h0 with e|e
  ·rw[e,ct (EO rfl),nf,Dt ha]
  ·rw[e,cf (Gw (show(11:Int)≠9 by decide)),ct (EO rfl),nf,Dt ha]
end
theorem XZ(t:Aj)(k:Int)(hk:0≤k)(a:k<256):∃K,Ln K t k=some true:=⟨1000,W4 (Nat.le_refl _) Lc t k hk a⟩
end Go.Proofs.YtbhofkcbfblijaaGreat
end
section
namespace Go.Proofs.YtbhofkcbfblijaaGreat
open Go.RowKit Go.WideShapes
set_option maxRecDepth 20000
open HF
attribute [local irreducible] Eb WL CC CW LV Cw JC HO One Bv
set_option maxHeartbeats 4000000 in
theorem a14 aC y eF j m n o p q r s f g t u(Z:Nat→Prop) w(eG:Sl AM w Z j m y.Al)(eH:Sl (BO (Ay .i64)) w Z n o y.Ac)(eI:Sl AQ w Z p q y.Ap)(eJ:Sl Bm w Z r s y.AH)(eK:Sl Bl w Z f g y.Aw)(eM:Sl BA w Z t u y.Ao)(a:Ln aC y eF=some true):
 Cw Tryz.prog 14 #[.agg (Am j m n o p q r s f g t u y).toArray,.int .u8 eF] w (fun v w'=>Ext w w'∧v=.bool true):=by
 unfold Ln at a;refine AS (N:=76) Tryz.func14 rfl rfl (by simp) ?_;intro gE ha gF;have eZ:=sA 0 ha;have e0:=sA 1 ha;clear ha;have eP:Hp FN [] w [] w:=Hp.start (Cc.none w);have ⟨cU,cV,cW,cX,cY,cZ⟩:=Cz eG eH eI eJ eK eM (Bh (Z:=Z) (L:=[]) w);refine Af<|Ad<|wE (fun st=>Ci (v:=.agg (Am j m n o p q r s f g t u y).toArray) (cs:=(Am j m n o p q r s f g t u y).toArray) (ee st eZ) rfl) ?_;rintro _ w1 ⟨b1,rfl,cL⟩;have f3:=eP.nb cL;have gB:=eP.Cr cL;refine wA (v:=.bool false) rfl<|Ag<|Ab<|Af<|Af<|Ad<|wD (fun st=>AR (l:=(Am j m n o p q r s f g t u y)) Cj (eR st) cL.bk rfl rfl) ?_;have ⟨bN,bO,bP,bQ,bR,bS⟩:=Cz cU cV cW cX cY cZ (AP cL);replace a:=bind_some a;obtain⟨eN,f4,a⟩:=a;refine wE (fun st=>Ar NC (eR st) (CR (eR st)) (R7 aC y j m n o p q r s f g t u ZA _ bN.all bO.all bP.all bQ.all bR.all bS.all eN f4)) ?_;rintro _ gV ⟨dU,rfl⟩;have dV:=f3.ext dU;refine wD (fun st=>Dz (eR st))<|Ag<|Ab ?_;rcases Ak (!eN) with bD|bD
 ·replace a:=Az a bD;have gC:eN=false:=by simpa using bD
  refine AD rfl bD<|Af<|Ad ?_;replace a:=Ck a;obtain⟨f5,a⟩:=a;refine wE (fun st=>Ar EI (eR st) Gx (a37 aC ZA _ f5)) ?_;rintro _ gW ⟨f6,rfl⟩;have f7:=dV.ext f6;refine wA (v:=.bool true) rfl<|Ag<|Ab<|AI<|Ax ?_;have aD:=oi a;refine AJ rfl rfl ?_;exact⟨f7.Bc,congrArg Value.bool aD⟩
 ·replace a:=AA a bD;have gD:eN=true:=by simpa using bD
  refine AE rfl bD<|AL<|Ab<|Af<|Ad ?_;have cQ:=(cL.bk.ext dU);refine wD (fun st=>AR (l:=(Am j m n o p q r s f g t u y)) Cj (eR st) cQ rfl rfl) ?_;have ⟨bT,bU,bV,bW,bX,bY⟩:=Cz bN bO bP bQ bR bS (Ah dU);replace a:=bind_some a;obtain⟨f8,f9,a⟩:=a;refine wE (fun st=>Ar GR (eR st) (CR (eR st)) (Lh aC y j m n o p q r s f g t u (zf Z w [some b1]) _ bT bU bV bW bX bY f8 f9)) ?_;rintro _ gG ⟨dW,⟨_,rfl,⟨dX,dY,dZ,d0,d1,d2,d3,d4,d5,d6,d7,d8,rfl,aT,aU,aV,aW,aX,aY⟩⟩⟩;have eQ:=dV.ext dW;have ⟨aT,aU,aV,aW,aX,aY⟩:=Cz aT aU aV aW aX aY (dV.Da (Nat.le_refl _));replace a:=bind_some a;obtain⟨b,e1,a⟩:=a;refine wE (fun st=>Ar XC (eR st) (CR (eR st)) (a69 aC f8 dX dY dZ d0 d1 d2 d3 d4 d5 d6 d7 d8 (zf Z w [some b1]) _ aT aU aV aW aX aY b e1)) ?_;rintro _ gH ⟨cN,⟨_,_,rfl,⟨h,i,rfl,aZ⟩,rfl⟩⟩;have eS:=eQ.ext cN;have aZ:=aZ.mv (eQ.Da (Nat.le_refl _));refine wM (v:=.tuple #[.slice h b.1.length i,I b.2]) rfl<|wD (fun st=>BH (v:=.slice h b.1.length i) (eR st) rfl)<|wD (fun st=>BH (v:=I b.2) (eR st) rfl)<|wA (v:=.slice h b.1.length i) rfl<|wA (v:=I b.2) rfl<|Ag<|Ab<|Af<|Ad<|wM (v:=.int .u8 eF) e0 ?_;replace a:=D1 a;obtain⟨e2,a⟩:=a;refine wD (fun st=>EX (k:=.i64) Rh Tryz.underlying3 (eR st) e2)<|wD (fun st=>Ai (eR st) (IV _ _)) ?_;have cR:=((cQ.ext dW).ext cN);refine wD (fun st=>AG (v:=.slice f y.Aw.length g) JU (eR st) cR rfl)<|wD (fun st=>Bu Tryz.underlying64 (eR st)) ?_;replace a:=D1 a;obtain⟨e3,a⟩:=a;refine wD (fun st=>EX (k:=.u64) GV Tryz.underlying91 (eR st) e3) ?_;replace a:=E3 a;obtain⟨e4,a⟩:=a;refine wD (fun st=>HL (eR st) (eR st) e4) ?_;replace a:=AK a;obtain⟨e5,a⟩:=a;refine wD (fun st=>Ex (eR st) (eR st) e5) ?_;replace a:=F5 a;obtain⟨e6,a⟩:=a;refine wD (fun st=>Qs (eR st) (eR st) e6) ?_;replace a:=bind_some a;obtain⟨bZ,e7,a⟩:=a;refine wE (fun st=>Ar Ms (eR st) (CR (eR st)) (Q7 aC (It eF ((CY (1:Int) (y.Aw.length:Int))-1)) (zf Z w [some b1]) _ bZ e7)) ?_;rintro _ gI ⟨cB,⟨aE,aF,rfl,a0⟩⟩;have eT:=eS.ext cB;have a0:=a0.mv (eS.Da (Nat.le_refl _));refine wA (v:=.slice aE bZ.length aF) rfl<|Ag<|Ab<|Af<|Ad ?_;have cS:=(cR.ext cB);refine wD (fun st=>AR (l:=(Am j m n o p q r s f g t u y)) Cj (eR st) cS rfl rfl) ?_;have ⟨b4,b5,b6,b7,b8,b9⟩:=Cz bT bU bV bW bX bY (mt (Ah dW) (mt (Ah cN) (Ah cB)));replace a:=bind_some a;obtain⟨eU,e8,a⟩:=a;refine wE (fun st=>Ar GR (eR st) (CR (eR st)) (Lh aC y j m n o p q r s f g t u (zf Z w [some b1]) _ b4 b5 b6 b7 b8 b9 eU e8)) ?_;rintro _ gJ ⟨bE,⟨_,rfl,⟨c0,c1,c2,c3,c4,c5,c6,c7,c8,c9,dA,dB,rfl,aG,aH,aI,aJ,aK,aL⟩⟩⟩;have eV:=eT.ext bE;have ⟨aG,aH,aI,aJ,aK,aL⟩:=Cz aG aH aI aJ aK aL (eT.Da (Nat.le_refl _));refine wM (v:=.slice aE bZ.length aF) rfl ?_;have bC:=(a0.mv (Ah bE));replace a:=bind_some a;obtain⟨eW,e9,a⟩:=a;refine wE (fun st=>Ar JW (eR st) (CR (eR st)) (a51 aC bZ aE aF (zf Z w [some b1]) _ bC eW e9)) ?_;rintro _ gK ⟨a2,⟨d9,eA,rfl,a3⟩⟩;have gA:=eV.ext a2;have a3:=a3.mv (eV.Da (Nat.le_refl _));have ⟨cC,cD,cE,cF,cG,cH⟩:=Cz aG aH aI aJ aK aL (Ah a2);replace a:=bind_some a;obtain⟨d,fA,a⟩:=a;refine wE (fun st=>Ar Us (eR st) (Dw (eR st) (eR st)) (a70 aC eU eW c0 c1 c2 c3 c4 c5 c6 c7 c8 c9 dA dB d9 eA ZA _ cC.all cD.all cE.all cF.all cG.all cH.all a3.all d fA)) ?_;rintro _ gL ⟨bF,rfl⟩;have cM:=gA.ext bF;refine wA (v:=.bool d) rfl<|Ag<|Ab<|Af<|Af<|Ad<|wM (v:=I b.2) rfl<|wD (fun st=>DW (eR st) (eR st))<|Ag<|Ab ?_;rcases Ak (b.2 !=0) with bG|bG
  ·replace a:=Az a bG;refine AD rfl bG<|Af<|Ad<|wM (v:=I b.2) rfl<|wD (fun st=>Dj (eR st) (eR st))<|wM (v:=.bool (b.2==9)) rfl ?_;rcases Ak (b.2==9) with z|z
   ·replace a:=Az a z;refine Au (c:=true) rfl rfl (Ae rfl z) (by decide) rfl (by decide)<|Au (c:=true) rfl rfl (Ae rfl z) (by decide) rfl (by decide)<|wD (fun st=>AY (v:=.bool true) (eR st) z (eR st))<|wM (v:=.bool true) rfl<|Au rfl rfl rfl (by decide) rfl (by decide)<|Au rfl rfl rfl (by decide) rfl (by decide)<|wD (fun st=>AY (v:=.bool true) (eR st) rfl (eR st))<|wM (v:=.bool true) rfl<|An rfl rfl rfl rfl (by decide) (fun st=>Aq (v:=.bool d) (eR st))<|An rfl rfl rfl rfl (by decide) (fun st=>Dz (eR st))<|wD (fun st=>AY (v:=.bool !d) (eR st) rfl (eR st))<|wM (v:=.bool !d) rfl ?_;rcases Ak (!d) with a4|a4
    ·replace a:=Az a a4;have fX:d=false:=by simpa using a4
     replace a:=Ck a;obtain⟨fB,a⟩:=a;refine Di rfl rfl (Ae rfl a4) rfl (by decide) (fun st=>Ar EI (eR st) Gx (a37 aC ZA _ fB)) ?_;rintro _ gM ⟨fC,rfl⟩;have fD:=cM.ext fC;refine wD (fun st=>AY (v:=.bool true) (eR st) a4 (eR st))<|wA (v:=.bool true) rfl<|Ag<|Ab<|AI<|Ax ?_;have aD:=oi a;refine AJ rfl rfl ?_;exact⟨fD.Bc,congrArg Value.bool aD⟩
    ·replace a:=AA a a4;exact absurd (oi a) (by decide)
   ·replace a:=AA a z;refine An rfl rfl (Ae rfl z) rfl (by decide) (fun st=>Aq (v:=I b.2) (eR st))<|An rfl rfl (Ae rfl z) rfl (by decide) (fun st=>Dj (eR st) (eR st))<|wD (fun st=>BC (v:=.bool (b.2==11)) (eR st) z (eR st))<|wM (v:=.bool (b.2==11)) rfl ?_;rcases Ak (b.2==11) with aA|aA
    ·replace a:=Az a aA;refine Au (c:=true) rfl rfl (Ae rfl aA) (by decide) rfl (by decide)<|Au (c:=true) rfl rfl (Ae rfl aA) (by decide) rfl (by decide)<|wD (fun st=>AY (v:=.bool true) (eR st) aA (eR st))<|wM (v:=.bool true) rfl<|An rfl rfl rfl rfl (by decide) (fun st=>Aq (v:=.bool d) (eR st))<|An rfl rfl rfl rfl (by decide) (fun st=>Dz (eR st))<|wD (fun st=>AY (v:=.bool !d) (eR st) rfl (eR st))<|wM (v:=.bool !d) rfl ?_;rcases Ak (!d) with a5|a5
     ·replace a:=Az a a5;have fY:d=false:=by simpa using a5
      replace a:=Ck a;obtain⟨fE,a⟩:=a;refine Di rfl rfl (Ae rfl a5) rfl (by decide) (fun st=>Ar EI (eR st) Gx (a37 aC ZA _ fE)) ?_;rintro _ gN ⟨fF,rfl⟩;have fG:=cM.ext fF;refine wD (fun st=>AY (v:=.bool true) (eR st) a5 (eR st))<|wA (v:=.bool true) rfl<|Ag<|Ab<|AI<|Ax ?_;have aD:=oi a;refine AJ rfl rfl ?_;exact⟨fG.Bc,congrArg Value.bool aD⟩
     ·replace a:=AA a a5;exact absurd (oi a) (by decide)
    ·replace a:=AA a aA;refine An rfl rfl (Ae rfl aA) rfl (by decide) (fun st=>Aq (v:=I b.2) (eR st))<|An rfl rfl (Ae rfl aA) rfl (by decide) (fun st=>Dj (eR st) (eR st))<|wD (fun st=>BC (v:=.bool (b.2==7)) (eR st) aA (eR st))<|wM (v:=.bool (b.2==7)) rfl ?_;rcases Ak (b.2==7) with a8|a8
     ·replace a:=Az a a8;refine An rfl rfl (Ae rfl a8) rfl (by decide) (fun st=>Aq (v:=.bool d) (eR st))<|An rfl rfl (Ae rfl a8) rfl (by decide) (fun st=>Dz (eR st))<|wD (fun st=>AY (v:=.bool !d) (eR st) a8 (eR st))<|wM (v:=.bool !d) rfl ?_;rcases Ak (!d) with a9|a9
      ·replace a:=Az a a9;have fZ:d=false:=by simpa using a9
       replace a:=Ck a;obtain⟨fH,a⟩:=a;refine Di rfl rfl (Ae rfl a9) rfl (by decide) (fun st=>Ar EI (eR st) Gx (a37 aC ZA _ fH)) ?_;rintro _ gO ⟨fI,rfl⟩;have fJ:=cM.ext fI;refine wD (fun st=>AY (v:=.bool true) (eR st) a9 (eR st))<|wA (v:=.bool true) rfl<|Ag<|Ab<|AI<|Ax ?_;have aD:=oi a;refine AJ rfl rfl ?_;exact⟨fJ.Bc,congrArg Value.bool aD⟩
      ·replace a:=AA a a9;exact absurd (oi a) (by decide)
     ·replace a:=AA a a8;exact absurd (oi a) (by decide)
  ·replace a:=AA a bG;refine AE rfl bG<|AL<|Ab<|Af<|Ad<|wM (v:=.slice h b.1.length i) rfl<|wD (fun st=>Bu Tryz.underlying31 (eR st))<|wD (fun st=>HJ (eR st) (eR st))<|wM (v:=.bool (decide ((0:Int)<(b.1.length:Int)))) rfl ?_;rcases Ak (decide ((0:Int)<(b.1.length:Int))) with aB|aB
   ·replace a:=Az a aB;have eO:=(((cS.ext bE).ext a2).ext bF);refine An rfl rfl (Ae rfl aB) rfl (by decide) (fun st=>AR (l:=(Am j m n o p q r s f g t u y)) Cj (eR st) eO rfl rfl) ?_;have ⟨dC,dD,dE,dF,dG,dH⟩:=Cz b4 b5 b6 b7 b8 b9 (mt (Ah bE) (mt (Ah a2) (Ah bF)));replace a:=bind_some a;obtain⟨eX,fK,a⟩:=a;refine Di rfl rfl (Ae rfl aB) rfl (by decide) (fun st=>Ar GR (eR st) (CR (eR st)) (Lh aC y j m n o p q r s f g t u (zf Z w [some b1]) _ dC dD dE dF dG dH eX fK)) ?_;rintro _ gP ⟨cO,⟨_,rfl,⟨dI,dJ,dK,dL,dM,dN,dO,dP,dQ,dR,dS,dT,rfl,aM,aN,aO,aP,aQ,aR⟩⟩⟩;have eB:=cM.ext cO;have ⟨aM,aN,aO,aP,aQ,aR⟩:=Cz aM aN aO aP aQ aR (cM.Da (Nat.le_refl _));refine An rfl rfl (Ae rfl aB) rfl (by decide) (fun st=>Aq (v:=.slice h b.1.length i) (eR st)) ?_;have aS:=(((((aZ.mv (Ah cB)).mv (Ah bE)).mv (Ah a2)).mv (Ah bF)).mv (Ah cO));replace a:=bind_some a;obtain⟨eY,fL,a⟩:=a;refine Di rfl rfl (Ae rfl aB) rfl (by decide) (fun st=>Ar JW (eR st) (CR (eR st)) (a51 aC b.1 h i (zf Z w [some b1]) _ aS eY fL)) ?_;rintro _ gQ ⟨cI,⟨eC,eD,rfl,bA⟩⟩;have fM:=eB.ext cI;have bA:=bA.mv (eB.Da (Nat.le_refl _));have ⟨bH,bI,bJ,bK,bL,bM⟩:=Cz aM aN aO aP aQ aR (Ah cI);replace a:=bind_some a;obtain⟨cT,fN,a⟩:=a;refine Di rfl rfl (Ae rfl aB) rfl (by decide) (fun st=>Ar Us (eR st) (Dw (eR st) (eR st)) (a70 aC eX eY dI dJ dK dL dM dN dO dP dQ dR dS dT eC eD ZA _ bH.all bI.all bJ.all bK.all bL.all bM.all bA.all cT fN)) ?_;rintro _ gR ⟨cP,rfl⟩;have eE:=fM.ext cP;refine wD (fun st=>AY (v:=.bool cT) (eR st) aB (eR st))<|wM (v:=.bool cT) rfl ?_;rcases Ak (cT) with x|x
    ·replace a:=Az a x;refine An rfl rfl (Ae rfl x) rfl (by decide) (fun st=>Aq (v:=.bool d) (eR st))<|An rfl rfl (Ae rfl x) rfl (by decide) (fun st=>Dz (eR st))<|An rfl rfl (Ae rfl x) rfl (by decide) (fun st=>Aq (v:=.bool !d) (eR st)) ?_;rcases Ak (!d) with e|e
     ·replace a:=Az a e;have f0:d=false:=by simpa using e
      refine Au (c:=true) rfl rfl (Ae rfl e) (by decide) rfl (by decide)<|Au (c:=true) rfl rfl (Ae rfl e) (by decide) rfl (by decide)<|Au (c:=true) rfl rfl (Ae rfl e) (by decide) rfl (by decide)<|Au (c:=true) rfl rfl (Ae rfl e) (by decide) rfl (by decide)<|An rfl rfl (Ae rfl x) rfl (by decide) (fun st=>AY (v:=.bool true) (eR st) e (eR st))<|wD (fun st=>AY (v:=.bool true) (eR st) x (eR st))<|wM (v:=.bool true) rfl ?_;replace a:=Ck a;obtain⟨fO,a⟩:=a;refine Di rfl rfl rfl rfl (by decide) (fun st=>Ar EI (eR st) Gx (a37 aC ZA _ fO)) ?_;rintro _ gS ⟨fP,rfl⟩;have fQ:=eE.ext fP;refine wD (fun st=>AY (v:=.bool true) (eR st) rfl (eR st))<|wA (v:=.bool true) rfl<|Ag<|Ab<|AI ?_;have aD:=oi a;refine AJ rfl rfl ?_;exact⟨fQ.Bc,congrArg Value.bool aD⟩
     ·replace a:=AA a e;have f1:d=true:=by simpa using e
      refine An rfl rfl (Ae rfl e) rfl (by decide) (fun st=>Aq (v:=.slice aE bZ.length aF) (eR st))<|An rfl rfl (Ae rfl e) rfl (by decide) (fun st=>Aq (v:=.slice h b.1.length i) (eR st)) ?_;have cJ:=(((((bC.mv (Ah a2)).mv (Ah bF)).mv (Ah cO)).mv (Ah cI)).mv (Ah cP));have cK:=((aS.mv (Ah cI)).mv (Ah cP));replace a:=bind_some a;obtain⟨cA,fR,a⟩:=a;refine Di rfl rfl (Ae rfl e) rfl (by decide) (fun st=>Ar TN (eR st) (Dw (eR st) (eR st)) (a62 aC bZ b.1 aE aF h i ZA _ cJ.all cK.all cA fR)) ?_;rintro _ gT ⟨fS,rfl⟩;have fT:=eE.ext fS;refine An rfl rfl (Ae rfl e) rfl (by decide) (fun st=>Dz (eR st))<|An rfl rfl (Ae rfl x) rfl (by decide) (fun st=>BC (v:=.bool !cA) (eR st) e (eR st))<|wD (fun st=>AY (v:=.bool !cA) (eR st) x (eR st))<|wM (v:=.bool !cA) rfl ?_;rcases Ak (!cA) with bB|bB
      ·replace a:=Az a bB;have f2:cA=false:=by simpa using bB
       replace a:=Ck a;obtain⟨fU,a⟩:=a;refine Di rfl rfl (Ae rfl bB) rfl (by decide) (fun st=>Ar EI (eR st) Gx (a37 aC ZA _ fU)) ?_;rintro _ gU ⟨fV,rfl⟩;have fW:=fT.ext fV;refine wD (fun st=>AY (v:=.bool true) (eR st) bB (eR st))<|wA (v:=.bool true) rfl<|Ag<|Ab<|AI ?_;have aD:=oi a;refine AJ rfl rfl ?_;exact⟨fW.Bc,congrArg Value.bool aD⟩
      ·replace a:=AA a bB;exact absurd (oi a) (by decide)
    ·replace a:=AA a x;exact absurd (oi a) (by decide)
   ·replace a:=AA a aB;exact absurd (oi a) (by decide)
end Go.Proofs.YtbhofkcbfblijaaGreat
end
section
namespace Go.Proofs.YtbhofkcbfblijaaGreat
open Go.RowKit Go.ChangeShapes Go.WideShapes Go.ChangeAt
theorem YK(t:Aj)(k:Int)(h1:Iz .u8 k):∃K,Ln K t k=some true:=XZ t k (by have:=QC h1;omega) (by have:=QC h1;omega)
set_option maxRecDepth 100000 in
theorem Wq(os:Os)(started:os.Started)(H:Type)(enc:TypeId×Value→H):
  ReturnsInHanded {} Tryz.checked os 14 .any (Rows.tradeProofSpec.pre6 enc Tryz.prog Tryz.f14 Rows.tradeProofRow.domain false) (Rows.tradeProofSpec.post enc Tryz.prog Tryz.f14 false true false false):=by
 refine returnsInHanded_of_change_sized (C:=Tryz.checked) RB started (by kernel_rfl) Tryz.func14
  (ChangeSpec.witness6 (enc:=enc) (C:=Tryz.checked) false ⟨#[], #[.agg #[.slice none 0 0,.slice none 0 0,.slice none 0 0,.int .i64 0,.slice none 0 0,.slice none 0 0,.slice none 0 0],.int .u8 0],[]⟩ 8 (by kernel_rfl) (by kernel_rfl) (by kernel_rfl) (by kernel_rfl)) ?_
 intro W base args ds gs before d aE aN aF _;have a:∀(j:Nat) t v,Tryz.f14.params[j]?=some t→args[j]?=some v→Value.okWide Tryz.prog W .any base t v:=d;have b:=aE;obtain⟨p,q,aG,aO,rfl,aT,aU⟩:=aE;have f:DataW.TrodAll enc Tryz.prog W 0 (fun _=>true) true Tryz.f14.params.toList args.toList ds p:=aG;obtain⟨rfl,rfl⟩:=trodVars_none aO;simp only[List.append_nil] at b;have aH:∀x∈p,x.block<W.heap.size:=fun x hx=>by simpa using b.lt x hx
 have aI:=f;have c:(DataW.weightsEach Tryz.prog (Tryz.f14.params.toList++[]) (ds++[])).all (· ≤reachBytes)=true:=aF;rw[Tryz.params14] at f a c;obtain⟨v0,v1,d0,d1,aP,aQ,rfl,rfl,rfl,h0,h1⟩:=trodAll_two f;obtain⟨aJ,aV,aK,⟨g,h,i,k,l,m,n,o,r,s,u,w,rfl,y,z,aA,aB,aC,aD⟩,w0⟩:=Nr Tryz.underlying67 O7 (a 0 67 v0 rfl rfl) h0 (Li (j:=0) c rfl rfl);obtain⟨x1,aL,w1⟩:=Lz Tryz.underlying5 (a 1 5 v1 rfl rfl) h1;subst aK;subst aL;obtain⟨K,aR⟩:=YK aJ x1 w1;refine(LS (a14 K aJ x1 g h i k l m n o r s u w ZA W y z aA aB aC aD aR)).mono fun e W' ⟨v,he,hx,aS⟩=>?_;subst he;subst aS;exact⟨_,rfl,Ko (pa:=(aP++aQ)) (pv:=[]) b (fun _ _ _=>trodAll_mk1 (shut_bool Tryz.underlying4 _)) (fun sp hs=>LR P5 P6 (by rw[Tryz.params14];decide) aI hx aH sp (fun x aM=>hs x (by simpa using aM))) (fun _ _=>rfl) (by simp) hx (ok_one (by kernel_rfl) rfl (okWide_bool_mk Tryz.underlying4 _))⟩
theorem Rv:((Rows.tradeProofRow.inPlace==Tryz.checked.prog.inPlace 14)&&(Rows.tradeProofRow.unfollowed==Tryz.checked.prog.unfollowed 14)&&(Rows.tradeProofRow.recurses==Tryz.checked.prog.recurses 14)&&(Rows.tradeProofRow.named==Tryz.checked.prog.varsNamed 14))=true:=by kernel_rfl
theorem W5:joinedFacts Tryz.checked.prog 14 Tryz.f14 Rows.tradeProofSpec Rows.tradeProofRow=true:=by
 unfold joinedFacts;exact(Bf (Bf (Bf (Bf (Bf (Bf (Bf (Bf (Bf (Bf (Bf (Bf (Bf (Bf (Bf (Bf (Bf (Bf (Bf (Bf (Bf (Bf (Bf (Bf (Bf (Bf (Bf (Bf (Bf (Bf (Bf (by kernel_rfl) O8) O9) (by kernel_rfl)) (by kernel_rfl)) (by kernel_rfl)) NX) (by kernel_rfl)) NY) (FI (FI (FI Rv)))) (IE (FI (FI Rv)))) (IE (FI Rv))) (IE Rv)) (by kernel_rfl)) (by kernel_rfl)) (by kernel_rfl)) (by kernel_rfl)) (by kernel_rfl)) (by kernel_rfl)) (by kernel_rfl)) (by kernel_rfl)) (by kernel_rfl)) Pa) (by kernel_rfl)) NZ) (FI (FI Hs))) (IE (FI Hs))) (IE Hs)) (by kernel_rfl)) (by kernel_rfl)) (by kernel_rfl)) (by kernel_rfl))
theorem tradeProof_holds:Rows.TradeProofSaid:=
 OpenClaim.holds_of_wide 14 Tryz.f14 rfl rfl rfl rfl rfl rfl rfl ⟨rfl,rfl,rfl,rfl,rfl⟩ rfl rfl rfl rfl rfl (by kernel_rfl) Tryz.func14 W5
  (of_decide_eq_true (by kernel_rfl)) (by unfold Func.isWrapper;rw[if_neg (by decide+kernel)];exact⟨rfl,rfl⟩)
  (fun os started H enc _=>Wq os started H enc)
end Go.Proofs.YtbhofkcbfblijaaGreat
end
