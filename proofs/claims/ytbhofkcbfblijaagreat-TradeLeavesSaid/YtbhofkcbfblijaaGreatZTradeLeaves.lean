import Derived.Test.YtbhofkcbfblijaaGreatETradeLeaves
import Derived.Test.YtbhofkcbfblijaaGreatRows
/-
  Proved: the law TradeLeaves returns true for every argument that the row hands over, and leaves every argument as it was; no condition beside the row's own.
-/
set_option linter.all false
section
namespace Go.Proofs.YtbhofkcbfblijaaGreat
open Go.RowKit Go.WideShapes
def Jd(a:Nat)(c:Ah):Option (Bool):=
 (FW a c).bind fun k=>cond (!k) ((Es (BF a=some true)).bind fun _=>some (true)) ((CD a c).bind fun l=>(Jz a l).bind fun b=>(CD a c).bind fun h=>(JA a h).bind fun d=>(CU a c).bind fun e=>cond (e !=0) (cond (b.2==e) (cond (d.2==e) (cond (b.1==0) (cond ((d.1.length:Int)==0) ((Es (BF a=some true)).bind fun _=>some (true)) (some (false))) (some (false))) (some (false))) (some (false))) ((LZ a c).bind fun f=>cond (d.2 !=0) (some (false)) ((K7 a c f).bind fun i=>(Dk a d.1 i).bind fun j=>cond (!j) (some (false)) ((Mx a c f).bind fun g=>cond (decide ((0:Int)≤g)) (cond (b.2==0) (cond (b.1==g) ((Es (BF a=some true)).bind fun _=>some (true)) (some (false))) (some (false))) (cond (b.2==7) (cond (b.1==0) ((Es (BF a=some true)).bind fun _=>some (true)) (some (false))) (some (false)))))))
end Go.Proofs.YtbhofkcbfblijaaGreat
end
section
namespace Go.Proofs.YtbhofkcbfblijaaGreat
section
variable{K:Nat}(hK:1000≤K)
include hK
theorem TI(ha:BF K=some true)(t:Ah):Jd K t=some true:=by
 unfold Jd;rw[bd (Pp hK t)];cases h:Eh t with
 |false=>rw[nf,DG ha]
 |true=>
  have hlen:=Gn h;obtain⟨n,e,f1,f2,f3⟩:=V2 hK h;obtain⟨x,g1,g2,g3⟩:=V1 hK h;rw[nt,bd (It hK t hlen),bd f1,bd (It hK t hlen),bd g1,bd (L7 hK h)]
  by_cases h0:De t=0
  ·have b:=Eo h (C5 h0).1;have c:=(C5 h0).2;obtain⟨l,k,d⟩:=AbS hK b c;obtain⟨m,q1,f⟩:=AbT hK b c;obtain rfl:=(g3 h0).uniq d;have g:x.length≤900:=by have:=d.len;have:=b.nl;omega
   rw[h0,cf (EW rfl),bd (Afy hK b),cf (EW rfl),bd k,bd (QV hK g),nt,bd q1];rcases f3 h0 with⟨i,rfl,rfl,hi⟩|⟨rfl,rfl,a⟩
   ·rcases f with⟨j,rfl,hj⟩|⟨rfl,a⟩
    ·obtain rfl:=hi.uniq hj;rw[ct (dt (by omega)),ct (F9 rfl),ct (F9 rfl),DG ha]
    ·have:=Hy (show i+1≤t.Ar.length from hi.lt) a;rw[hi.not] at this;cases this
   ·rcases f with⟨j,rfl,hj⟩|⟨rfl,_⟩
    ·have:=Hy (show j+1≤t.Ar.length from hj.lt) a;rw[hj.not] at this;cases this
    ·rw[cf (df (by omega)),ct (F9 rfl),ct (F9 rfl),DG ha]
  ·obtain⟨rfl,rfl⟩:=f2 h0;obtain rfl:=g2 h0;rw[ct (FX h0),ct (F9 rfl),ct (F9 rfl),ct (F9 rfl),WC,DG ha]
end
theorem Uo(t:Ah):∃K,Jd K t=some true:=⟨1000,TI (Nat.le_refl _) L2 t⟩
end Go.Proofs.YtbhofkcbfblijaaGreat
end
section
namespace Go.Proofs.YtbhofkcbfblijaaGreat
open Go.RowKit Go.WideShapes
set_option maxRecDepth 20000
open HF
attribute [local irreducible] Dm WL CC CW LV B7 Ih GL One Bg
set_option maxHeartbeats 4000000 in
theorem a5 aA q c d e f g h i j k m n o(Z:Nat→Prop) w(d0:Sl Az w Z c d q.Ag)(d1:Sl (Bs (Ao .i64)) w Z e f q.Ab)(d2:Sl AH w Z g h q.Ak)(d3:Sl Ba w Z i j q.AJ)(d4:Sl Bc w Z k m q.Aw)(d5:Sl Bp w Z n o q.Ar)(a:Jd aA q=some true):
 B7 Tryz.prog 5 #[.agg (Ai c d e f g h i j k m n o q).toArray] w (fun v w'=>Ext w w'∧v=.bool true):=by
 unfold Jd at a;refine rq (N:=86) Tryz.func5 fun fC ha fD=>?_;have eC:=sA 0 ha;clear ha;have d7:Hp FN [] w [] w:=Hp.start (BL.none w);have ⟨cX,cY,cZ,c0,c1,c2⟩:=Cp d0 d1 d2 d3 d4 d5 (Bd (Z:=Z) (L:=[]) w);refine cr<|wE (fun st=>BP (v:=.agg (Ai c d e f g h i j k m n o q).toArray) (cs:=(Ai c d e f g h i j k m n o q).toArray) (ee st eC) rfl) ?_;rintro _ w1 ⟨b1,rfl,cG⟩;have eZ:=d7.nb cG;have e9:=d7.BU cG;refine wA (v:=.bool false) rfl<|wn<|Af<|cr<|wD (fun st=>AK (l:=(Ai c d e f g h i j k m n o q)) Cc (eR st) cG.bk rfl rfl) ?_;have ⟨bC,bD,bE,bF,bG,bH⟩:=Cp cX cY cZ c0 c1 c2 (AA cG);replace a:=bind_some a;obtain⟨d6,e0,a⟩:=a;refine wE (fun st=>Aj Pr (eR st) (Cy (eR st)) (U8 aA q c d e f g h i j k m n o ZA _ bC.all bD.all bE.all bF.all bG.all bH.all d6 e0)) ?_;rintro _ fQ ⟨dF,rfl⟩;have dG:=eZ.ext dF;refine wD (fun st=>CJ (eR st))<|wn ?_;rcases Ae (!d6) with aV|aV
 ·replace a:=Ap a aV;have fA:d6=false:=by simpa using aV
  refine Am rfl aV<|Af<|Al ?_;replace a:=Ci a;obtain⟨e1,a⟩:=a;refine wE (fun st=>Aj EZ (eR st) Gj (a37 aA ZA _ e1)) ?_;rintro _ fR ⟨e2,rfl⟩;have e3:=dG.ext e2;refine wA (v:=.bool true) rfl<|wn<|Av<|AG ?_;have aW:=oi a;refine Ay rfl rfl ?_;exact⟨e3.AS,congrArg Value.bool aW⟩
 ·replace a:=Aq a aV;have fB:d6=true:=by simpa using aV
  refine An rfl aV<|cn<|Af<|Al ?_;have cS:=(cG.bk.ext dF);refine wD (fun st=>AK (l:=(Ai c d e f g h i j k m n o q)) Cc (eR st) cS rfl rfl) ?_;have ⟨bI,bJ,bK,bL,bM,bN⟩:=Cp bC bD bE bF bG bH (Ac dF);replace a:=bind_some a;obtain⟨e4,e5,a⟩:=a;refine wE (fun st=>Aj Ic (eR st) (Cy (eR st)) (M5 aA q c d e f g h i j k m n o (zf Z w [some b1]) _ bI bJ bK bL bM bN e4 e5)) ?_;rintro _ fE ⟨dH,⟨_,rfl,⟨dI,dJ,dK,dL,dM,dN,dO,dP,dQ,dR,dS,dT,rfl,aK,aL,aM,aN,aO,aP⟩⟩⟩;have e6:=dG.ext dH;have ⟨aK,aL,aM,aN,aO,aP⟩:=Cp aK aL aM aN aO aP (dG.CQ (Nat.le_refl _));replace a:=bind_some a;obtain⟨b,eD,a⟩:=a;refine wE (fun st=>Aj XV (eR st) (Cy (eR st)) (a42 aA e4 dI dJ dK dL dM dN dO dP dQ dR dS dT ZA _ aK.all aL.all aM.all aN.all aO.all aP.all b eD)) ?_;rintro _ fF ⟨cI,⟨_,_,rfl,rfl,rfl⟩⟩;have d8:=e6.ext cI;refine wM (v:=.tuple #[I b.1,I b.2]) rfl<|wD (fun st=>Bz (v:=I b.1) (eR st) rfl)<|wD (fun st=>Bz (v:=I b.2) (eR st) rfl)<|wA (v:=I b.1) rfl<|wA (v:=I b.2) rfl<|wn<|Af<|Al ?_;have cT:=((cS.ext dH).ext cI);refine wD (fun st=>AK (l:=(Ai c d e f g h i j k m n o q)) Cc (eR st) cT rfl rfl) ?_;have ⟨bO,bP,bQ,bR,bS,bT⟩:=Cp bI bJ bK bL bM bN (mt (Ac dH) (Ac cI));replace a:=bind_some a;obtain⟨d9,eE,a⟩:=a;refine wE (fun st=>Aj Ic (eR st) (Cy (eR st)) (M5 aA q c d e f g h i j k m n o (zf Z w [some b1]) _ bO bP bQ bR bS bT d9 eE)) ?_;rintro _ fG ⟨cJ,⟨_,rfl,⟨c3,c4,c5,c6,c7,c8,c9,dA,dB,dC,dD,dE,rfl,aB,aC,aD,aE,aF,aG⟩⟩⟩;have eA:=d8.ext cJ;have ⟨aB,aC,aD,aE,aF,aG⟩:=Cp aB aC aD aE aF aG (d8.CQ (Nat.le_refl _));replace a:=bind_some a;obtain⟨p,eF,a⟩:=a;refine wE (fun st=>Aj XW (eR st) (Cy (eR st)) (a43 aA d9 c3 c4 c5 c6 c7 c8 c9 dA dB dC dD dE (zf Z w [some b1]) _ aB aC aD aE aF aG p eF)) ?_;rintro _ fH ⟨cK,⟨_,_,rfl,⟨s,t,rfl,aQ⟩,rfl⟩⟩;have e7:=eA.ext cK;have aQ:=aQ.mv (eA.CQ (Nat.le_refl _));refine wM (v:=.tuple #[.slice s p.1.length t,I p.2]) rfl<|wD (fun st=>Bz (v:=.slice s p.1.length t) (eR st) rfl)<|wD (fun st=>Bz (v:=I p.2) (eR st) rfl)<|wA (v:=.slice s p.1.length t) rfl<|wA (v:=I p.2) rfl<|wn<|Af<|Af<|Al ?_;have cU:=((cT.ext cJ).ext cK);refine wD (fun st=>AK (l:=(Ai c d e f g h i j k m n o q)) Cc (eR st) cU rfl rfl) ?_;have ⟨bU,bV,bW,bX,bY,bZ⟩:=Cp bO bP bQ bR bS bT (mt (Ac cJ) (Ac cK));replace a:=bind_some a;obtain⟨u,eG,a⟩:=a;refine wE (fun st=>Aj PB (eR st) (Cy (eR st)) (Vg aA q c d e f g h i j k m n o ZA _ bU.all bV.all bW.all bX.all bY.all bZ.all u eG)) ?_;rintro _ fI ⟨cB,rfl⟩;have dU:=e7.ext cB;refine wA (v:=I u) rfl<|wr<|wM (v:=I u) rfl<|wD (fun st=>Db (eR st) (eR st))<|wn ?_;rcases Ae (u !=0) with aX|aX
  ·replace a:=Ap a aX;refine Am rfl aX<|cr<|wM (v:=I b.2) rfl<|wM (v:=I u) rfl<|wD (fun st=>CT (eR st) (eR st))<|wM (v:=.bool (b.2==u)) rfl ?_;rcases Ae (b.2==u) with aH|aH
   ·replace a:=Ap a aH;refine wN aH (v:=I p.2) rfl<|wN aH (v:=I u) rfl<|wG aH (fun st=>CT (eR st) (eR st))<|wD (fun st=>AW (v:=.bool (p.2==u)) (eR st) aH (eR st))<|wM (v:=.bool (p.2==u)) rfl ?_;rcases Ae (p.2==u) with aR|aR
    ·replace a:=Ap a aR;refine wN aR (v:=I b.1) rfl<|wG aR (fun st=>CT (eR st) (eR st))<|wD (fun st=>AW (v:=.bool (b.1==0)) (eR st) aR (eR st))<|wM (v:=.bool (b.1==0)) rfl ?_;rcases Ae (b.1==0) with aI|aI
     ·replace a:=Ap a aI;refine wN aI (v:=.slice s p.1.length t) rfl<|wG aI (fun st=>Be Tryz.underlying31 (eR st))<|wG aI (fun st=>CT (eR st) (eR st))<|wD (fun st=>AW (v:=.bool ((p.1.length:Int)==0)) (eR st) aI (eR st))<|wM (v:=.bool ((p.1.length:Int)==0)) rfl ?_;rcases Ae ((p.1.length:Int)==0) with aY|aY
      ·replace a:=Ap a aY;replace a:=Ci a;obtain⟨eH,a⟩:=a;refine wX aY (fun st=>Aj EZ (eR st) Gj (a37 aA ZA _ eH)) ?_;rintro _ fJ ⟨eI,rfl⟩;have e8:=dU.ext eI;refine wD (fun st=>AW (v:=.bool true) (eR st) aY (eR st))<|wA (v:=.bool true) rfl<|wn<|Av<|AG ?_;have aW:=oi a;refine Ay rfl rfl ?_;exact⟨e8.AS,congrArg Value.bool aW⟩
      ·replace a:=Aq a aY;exact absurd (oi a) (by decide)
     ·replace a:=Aq a aI;exact absurd (oi a) (by decide)
    ·replace a:=Aq a aR;exact absurd (oi a) (by decide)
   ·replace a:=Aq a aH;exact absurd (oi a) (by decide)
  ·replace a:=Aq a aX;refine An rfl aX<|cn<|Af<|Al ?_;have cV:=(cU.ext cB);refine wD (fun st=>AK (l:=(Ai c d e f g h i j k m n o q)) Cc (eR st) cV rfl rfl) ?_;have ⟨b4,b5,b6,b7,b8,b9⟩:=Cp bU bV bW bX bY bZ (Ac cB);replace a:=bind_some a;obtain⟨cA,eJ,a⟩:=a;refine wE (fun st=>Aj Ae8 (eR st) (Cy (eR st)) (a45 aA q c d e f g h i j k m n o (zf Z w [some b1]) _ b4 b5 b6 b7 b8 b9 cA eJ)) ?_;rintro _ fK ⟨cC,⟨x,y,rfl,z⟩⟩;have dV:=dU.ext cC;have z:=z.mv (dU.CQ (Nat.le_refl _));refine wA (v:=.slice x cA.length y) rfl<|wn<|Af<|cr<|wM (v:=I p.2) rfl<|wD (fun st=>Db (eR st) (eR st))<|wM (v:=.bool (p.2 !=0)) rfl ?_;rcases Ae (p.2 !=0) with r|r
   ·replace a:=Ap a r;exact absurd (oi a) (by decide)
   ·replace a:=Aq a r;refine wG r (fun st=>Au (v:=.slice s p.1.length t) (eR st)) ?_;have cH:=(cV.ext cC);refine wG r (fun st=>AK (l:=(Ai c d e f g h i j k m n o q)) Cc (eR st) cH rfl rfl)<|wG r (fun st=>Au (v:=.slice x cA.length y) (eR st)) ?_;have ⟨aZ,a0,a2,a3,a4,a7⟩:=Cp b4 b5 b6 b7 b8 b9 (Ac cC);replace a:=bind_some a;obtain⟨eB,eK,a⟩:=a;refine wX r (fun st=>Aj Ae9 (eR st) (CN (eR st) (eR st)) (a46 aA q cA c d e f g h i j k m n o x y (zf Z w [some b1]) _ aZ a0 a2 a3 a4 a7 z eB eK)) ?_;rintro _ fL ⟨cD,⟨dW,dX,rfl,aS⟩⟩;have eM:=dV.ext cD;have aS:=aS.mv (dV.CQ (Nat.le_refl _));have cE:=(((aQ.mv (Ac cB)).mv (Ac cC)).mv (Ac cD));replace a:=bind_some a;obtain⟨cW,eN,a⟩:=a;refine wX r (fun st=>Aj On (eR st) (CN (eR st) (eR st)) (S7 aA p.1 eB s t dW dX ZA _ cE.all aS.all cW eN)) ?_;rintro _ fM ⟨cL,rfl⟩;have eO:=eM.ext cL;refine wG r (fun st=>CJ (eR st))<|wD (fun st=>Bo (v:=.bool !cW) (eR st) r (eR st))<|wn ?_;rcases Ae (!cW) with a8|a8
    ·replace a:=Ap a a8;exact absurd (oi a) (by decide)
    ·replace a:=Aq a a8;have eY:cW=true:=by simpa using a8
     refine An rfl a8<|cn<|Af<|Af<|Al ?_;have dY:=((cH.ext cD).ext cL);refine wD (fun st=>AK (l:=(Ai c d e f g h i j k m n o q)) Cc (eR st) dY rfl rfl)<|wM (v:=.slice x cA.length y) rfl ?_;have ⟨cM,cN,cO,cP,cQ,cR,cF⟩:=Ea aZ a0 a2 a3 a4 a7 z (mt (Ac cD) (Ac cL));replace a:=bind_some a;obtain⟨aU,eP,a⟩:=a;refine wE (fun st=>Aj Afa (eR st) (CN (eR st) (eR st)) (a47 aA q cA c d e f g h i j k m n o x y ZA _ cM.all cN.all cO.all cP.all cQ.all cR.all cF.all aU eP)) ?_;rintro _ fN ⟨eQ,rfl⟩;have dZ:=eO.ext eQ;refine wA (v:=I aU) rfl<|wr<|wM (v:=I aU) rfl<|wD (fun st=>J7 (eR st) (eR st))<|wn ?_;rcases Ae (decide ((0:Int)≤aU)) with a9|a9
     ·replace a:=Ap a a9;refine Am rfl a9<|cr<|wM (v:=I b.2) rfl<|wD (fun st=>CT (eR st) (eR st))<|wM (v:=.bool (b.2==0)) rfl ?_;rcases Ae (b.2==0) with aJ|aJ
      ·replace a:=Ap a aJ;refine wN aJ (v:=I b.1) rfl<|wN aJ (v:=I aU) rfl<|wG aJ (fun st=>CT (eR st) (eR st))<|wD (fun st=>AW (v:=.bool (b.1==aU)) (eR st) aJ (eR st))<|wM (v:=.bool (b.1==aU)) rfl ?_;rcases Ae (b.1==aU) with bA|bA
       ·replace a:=Ap a bA;replace a:=Ci a;obtain⟨eS,a⟩:=a;refine wX bA (fun st=>Aj EZ (eR st) Gj (a37 aA ZA _ eS)) ?_;rintro _ fO ⟨eT,rfl⟩;have eU:=dZ.ext eT;refine wD (fun st=>AW (v:=.bool true) (eR st) bA (eR st))<|wA (v:=.bool true) rfl<|wn<|Av<|AG ?_;have aW:=oi a;refine Ay rfl rfl ?_;exact⟨eU.AS,congrArg Value.bool aW⟩
       ·replace a:=Aq a bA;exact absurd (oi a) (by decide)
      ·replace a:=Aq a aJ;exact absurd (oi a) (by decide)
     ·replace a:=Aq a a9;refine An rfl a9<|cn<|cr<|wM (v:=I b.2) rfl<|wD (fun st=>CT (eR st) (eR st))<|wM (v:=.bool (b.2==7)) rfl ?_;rcases Ae (b.2==7) with aT|aT
      ·replace a:=Ap a aT;refine wN aT (v:=I b.1) rfl<|wG aT (fun st=>CT (eR st) (eR st))<|wD (fun st=>AW (v:=.bool (b.1==0)) (eR st) aT (eR st))<|wM (v:=.bool (b.1==0)) rfl ?_;rcases Ae (b.1==0) with bB|bB
       ·replace a:=Ap a bB;replace a:=Ci a;obtain⟨eV,a⟩:=a;refine wX bB (fun st=>Aj EZ (eR st) Gj (a37 aA ZA _ eV)) ?_;rintro _ fP ⟨eW,rfl⟩;have eX:=dZ.ext eW;refine wD (fun st=>AW (v:=.bool true) (eR st) bB (eR st))<|wA (v:=.bool true) rfl<|wn<|Av ?_;have aW:=oi a;refine Ay rfl rfl ?_;exact⟨eX.AS,congrArg Value.bool aW⟩
       ·replace a:=Aq a bB;exact absurd (oi a) (by decide)
      ·replace a:=Aq a aT;exact absurd (oi a) (by decide)
end Go.Proofs.YtbhofkcbfblijaaGreat
end
section
namespace Go.Proofs.YtbhofkcbfblijaaGreat
open Go.RowKit Go.ChangeShapes Go.WideShapes Go.ChangeAt
set_option maxRecDepth 100000 in
theorem Te(os:Os)(started:os.Started)(H:Type)(enc:TypeId×Value→H):
  ReturnsInHanded {} Tryz.checked os 5 .any (Rows.tradeLeavesSpec.pre6 enc Tryz.prog Tryz.f5 Rows.tradeLeavesRow.domain false) (Rows.tradeLeavesSpec.post enc Tryz.prog Tryz.f5 false true false false):=by
 refine returnsInHanded_of_change_sized (C:=Tryz.checked) R8 started (by kernel_rfl) Tryz.func5
  (ChangeSpec.witness6 (enc:=enc) (C:=Tryz.checked) false ⟨#[], #[.agg #[.slice none 0 0,.slice none 0 0,.slice none 0 0,.int .i64 0,.slice none 0 0,.slice none 0 0,.slice none 0 0]],[]⟩ 8 (by kernel_rfl) (by kernel_rfl) (by kernel_rfl) (by kernel_rfl)) ?_
 intro W base args ds gs before d aF aN aG _;have a:∀(j:Nat) t v,Tryz.f5.params[j]?=some t→args[j]?=some v→Value.okWide Tryz.prog W .any base t v:=d;have b:=aF;obtain⟨p,q,aH,aO,rfl,aR,aS⟩:=aF;have g:DataW.TrodAll enc Tryz.prog W 0 (fun _=>true) true Tryz.f5.params.toList args.toList ds p:=aH;obtain⟨rfl,rfl⟩:=trodVars_none aO;simp only[List.append_nil] at b;have aI:∀x∈p,x.block<W.heap.size:=fun x f=>by simpa using b.lt x f
 have aJ:=g;have c:(DataW.weightsEach Tryz.prog (Tryz.f5.params.toList++[]) (ds++[])).all (· ≤reachBytes)=true:=aG;rw[Tryz.params5] at g a c;obtain⟨v0,d0,rfl,rfl,h0⟩:=trodAll_one g;obtain⟨aK,aT,aL,⟨h,i,k,l,m,n,o,r,s,u,w,y,rfl,z,aA,aB,aC,aD,aE⟩,w0⟩:=OD Tryz.underlying67 Ps (a 0 67 v0 rfl rfl) h0 (LQ (j:=0) c rfl rfl);subst aL;obtain⟨K,aP⟩:=Uo aK;refine(MR (a5 K aK h i k l m n o r s u w y ZA W z aA aB aC aD aE aP)).mono fun e W' ⟨v,he,f,aQ⟩=>?_;subst he;subst aQ;exact⟨_,rfl,Lq (pa:=p) (pv:=[]) b (fun _ _ _=>trodAll_mk1 (shut_bool Tryz.underlying4 _)) (fun sp hs=>MQ Qq Qr (by rw[Tryz.params5];decide) aJ f aI sp (fun x aM=>hs x (by simpa using aM))) (fun _ _=>rfl) (by simp) f (ok_one (by kernel_rfl) rfl (okWide_bool_mk Tryz.underlying4 _))⟩
theorem N5:((Rows.tradeLeavesRow.inPlace==Tryz.checked.prog.inPlace 5)&&(Rows.tradeLeavesRow.unfollowed==Tryz.checked.prog.unfollowed 5)&&(Rows.tradeLeavesRow.recurses==Tryz.checked.prog.recurses 5)&&(Rows.tradeLeavesRow.named==Tryz.checked.prog.varsNamed 5))=true:=by kernel_rfl
theorem TJ:joinedFacts Tryz.checked.prog 5 Tryz.f5 Rows.tradeLeavesSpec Rows.tradeLeavesRow=true:=by
 unfold joinedFacts;exact(Bu (Bu (Bu (Bu (Bu (Bu (Bu (Bu (Bu (Bu (Bu (Bu (Bu (Bu (Bu (Bu (Bu (Bu (Bu (Bu (Bu (Bu (Bu (Bu (Bu (Bu (Bu (Bu (Bu (Bu (Bu (by kernel_rfl) Pt) Pu) (by kernel_rfl)) (by kernel_rfl)) (by kernel_rfl)) OE) (by kernel_rfl)) OF) (F8 (F8 (F8 N5)))) (JJ (F8 (F8 N5)))) (JJ (F8 N5))) (JJ N5)) (by kernel_rfl)) (by kernel_rfl)) (by kernel_rfl)) (by kernel_rfl)) (by kernel_rfl)) (by kernel_rfl)) (by kernel_rfl)) (by kernel_rfl)) (by kernel_rfl)) Pv) (by kernel_rfl)) OG) (F8 (F8 Iu))) (JJ (F8 Iu))) (JJ Iu)) (by kernel_rfl)) (by kernel_rfl)) (by kernel_rfl)) (by kernel_rfl))
theorem tradeLeaves_holds:Rows.TradeLeavesSaid:=
 OpenClaim.holds_of_wide 5 Tryz.f5 rfl rfl rfl rfl rfl rfl rfl ⟨rfl,rfl,rfl,rfl,rfl⟩ rfl rfl rfl rfl rfl (by kernel_rfl) Tryz.func5 TJ
  (of_decide_eq_true (by kernel_rfl)) (by unfold Func.isWrapper;rw[if_neg (by decide+kernel)];exact⟨rfl,rfl⟩)
  (fun os started H enc _=>Te os started H enc)
end Go.Proofs.YtbhofkcbfblijaaGreat
end
