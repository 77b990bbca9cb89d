import Derived.Test.YtbhofkcbfblijaaGreatCG4
import Derived.WalkKit
import Derived.KernelRfl
import Derived.WalkSpells
import Derived.WalkLawsBesides
import Derived.Maps.AppendAt
import Derived.OrdersIn
import Derived.RangeFuncIn
import Derived.RangeFuncLeaves
import Derived.RangeFuncRecord
import Derived.RangeFuncSeq
import Derived.Scope
import Derived.DeepKeys3
import Derived.Laws.CopyRow
import Derived.Laws.OwnMore
import Derived.Laws.MakeOwn
import Derived.Laws.IdiomCopy
import Derived.Sort.OwnSortedInts
import Derived.Lib.RowBridge
import Derived.Shelf.Sort.Plain
import Derived.Ground.Names2Prog
import Derived.Shelf.Slices.Clone
import Derived.Shelf.Slices.CompactI
import Derived.Shelf.Slices.In.SortNone
import Derived.Ground.SlgnProg
import Derived.Shelf.SlicesE.Clone
import Derived.ProofKit
import Derived.ChangeSame
import Derived.SizedLaws
import Derived.Deep.Slices
import Derived.JoinedOf
import Derived.Test.YtbhofkcbfblijaaGreatProg
import Derived.Test.YtbhofkcbfblijaaGreatRows
/-
  The contracts of the functions of the program and of the reference, and the logic that they are proved in: the base that several claims of this seat share.
-/
set_option linter.all false
section
namespace Go.Proofs.YtbhofkcbfblijaaGreat
open Go.RowKit Go.WideShapes
set_option maxRecDepth 20000
open HF
attribute [local irreducible] Eb WL CC CW LV Cw JC HO One Bv
set_option maxHeartbeats 4000000 in
theorem a42 dH f o p q r s t u y z aA h i(Z:Nat→Prop) w(dZ:Sl AM w Z o p f.Al)(d0:Sl (BO (Ay .i64)) w Z q r f.Ac)(d1:Sl AQ w Z s t f.Ap)(d2:Sl Bm w Z u y f.AH)(d3:Sl Bl w Z z aA f.Aw)(d4:Sl BA w Z h i f.Ao) eT(b:Kx dH f=some eT):
 Cw Tryz.prog 42 #[.agg (Am o p q r s t u y z aA h i f).toArray] w (fun v w'=>Ext w w'∧(PN (Ev .i64) (Ev .i64)).R w' (zf Z w []) v eT):=by
 unfold Kx at b;refine AS (N:=35) Tryz.func42 rfl rfl (by simp) ?_;intro e9 ha fA;have eG:=sA 0 ha;clear ha;have eD:Hp FN [] w [] w:=Hp.start (Cc.none w);have ⟨cZ,c0,c1,c2,c3,c4⟩:=Cz dZ d0 d1 d2 d3 d4 (Bh (Z:=Z) (L:=[]) w);refine Af<|Ad<|wE (fun st=>Ci (v:=.agg (Am o p q r s t u y z aA h i f).toArray) (cs:=(Am o p q r s t u y z aA h i f).toArray) (ee st eG) rfl) ?_;rintro _ w1 ⟨b1,rfl,bP⟩;have bQ:=eD.nb bP;have e7:=eD.Cr bP;refine wA (v:=I 0) rfl<|wA (v:=I 0) rfl<|Ag<|Ab<|Af<|Ad<|wD (fun st=>AR (l:=(Am o p q r s t u y z aA h i f)) Hh (eR st) bP.bk rfl rfl) ?_;have ⟨bC,bD,bE,bF,bG,bH⟩:=Cz cZ c0 c1 c2 c3 c4 (AP bP);replace b:=bind_some b;obtain⟨aF,eU,b⟩:=b;refine wE (fun st=>Ar Ys (eR st) (Dw (eR st) (eR st)) (AdH dH f true o p q r s t u y z aA h i (zf Z w [some b1]) _ bC bD bE bF bG bH aF eU)) ?_;rintro _ fE ⟨cV,⟨fF,rfl,eV⟩⟩;rcases JH.cases eV with⟨dI,rfl⟩|⟨d,dI,b3,a,aH,aI,aJ,aK,aL,aM,aN,aO,aP,aQ,d5,d6,aR,aS,aT,aU,rfl,a8,eW,eX,dJ,dK,dL,dM,dN,dO,dP,dQ⟩
 ·replace b:=RQ dI b;have eY:=bQ.ext cV;refine wM (v:=.tuple #[.pointer none,I aF.2]) rfl<|wD (fun st=>BH (v:=.pointer none) (eR st) rfl)<|wD (fun st=>BH (v:=I aF.2) (eR st) rfl)<|wA (v:=.pointer none) rfl<|wA (v:=I aF.2) rfl<|Ag<|Ab<|Af<|Af<|Ad<|wM (v:=I aF.2) rfl<|wD (fun st=>DW (eR st) (eR st))<|Ag<|Ab ?_;rcases Ak (aF.2 !=0) with cW|cW
  ·replace b:=Az b cW;refine AD rfl cW<|Af<|Ad<|wM (v:=I aF.2) rfl<|wA (v:=I 0) rfl<|wA (v:=I aF.2) rfl<|Ag<|Ab<|AI<|Ax ?_;obtain rfl:=oi b;refine F1 rfl rfl rfl ?_;exact⟨eY.Bc,⟨_,_,rfl,rfl,rfl⟩⟩
  ·replace b:=AA b cW;exact absurd b (by simp)
 ·replace b:=RR dI b;have eE:=bQ.Ox cV a8;have d7:w.heap.size≤b3:=Nat.le_trans bQ.sz (a8.mem _ (by simp)).1;have eP:w.heap.size≤a:=Nat.le_trans bQ.sz (a8.mem _ (by simp)).1;have ⟨bZ,b4,b5,b6,b7,b8,b9,cA⟩:=Ii dJ dK dL dM dN dO dP dQ (bQ.P0 a8);refine wM (v:=.tuple #[pt b3 0,I aF.2]) rfl<|wD (fun st=>BH (v:=pt b3 0) (eR st) rfl)<|wD (fun st=>BH (v:=I aF.2) (eR st) rfl)<|wA (v:=pt b3 0) rfl<|wA (v:=I aF.2) rfl<|Ag<|Ab<|Af<|Af<|Ad<|wM (v:=I aF.2) rfl<|wD (fun st=>DW (eR st) (eR st))<|Ag<|Ab ?_;rcases Ak (aF.2 !=0) with bR|bR
  ·replace b:=Az b bR;refine AD rfl bR<|Af<|Ad<|wM (v:=I aF.2) rfl<|wA (v:=I 0) rfl<|wA (v:=I aF.2) rfl<|Ag<|Ab<|AI<|Ax ?_;obtain rfl:=oi b;refine F1 rfl rfl rfl ?_;exact⟨eE.Bc,⟨_,_,rfl,rfl,rfl⟩⟩
  ·replace b:=AA b bR;refine AE rfl bR<|AL<|Ab<|Af<|Af<|Ad<|wD (fun st=>Ai (eR st) (Rm _ _)) ?_;have cX:=(bP.bk.ext cV);refine wD (fun st=>AG (v:=.slice h f.Ao.length i) TA (eR st) cX rfl)<|wD (fun st=>Bu Tryz.underlying51 (eR st))<|wM (v:=I 0) rfl<|Ag<|Ab<|AT ?_;replace b:=bind_some b;obtain⟨eH,bI,b⟩:=b;refine Cm (fun eI k j=>(eI=.ret∧∃a9,eH=.inl a9∧∃(bS:Option Addr) (bT:Nat),k.tmps.size=35∧k.defers=(X0).ds∧sl k 2=I a9.1∧sl k 3=I a9.2.1∧Hp FN [] w [some b3,some a,some b1] j)∨(eI=.exit 0∧∃a9,eH=.inr a9∧∃(bU:Option Addr) (bV:Nat),k.tmps.size=35∧k.defers=(X0).ds∧Hp FN [] w [some b3,some a,some b1] j)) ?eZ ?e0
   case eZ=>
    clear b;refine Cl (fun(eJ:Nat) (k:Act) (j:World)=>∃c,∃aB,∃g,∃aC aD,Jb dH f d eJ c aB g=some eH∧k.tmps.size=35∧k.defers=(X0).ds∧sl k 1=pt b1 0∧sl k 4=pt b3 0∧sl k 17=I (f.Ao.length:Int)∧sl k 18=I c∧Hp FN [] w [some b3,some a,some b1] j∧Sl BA j (zf Z w [some b3,some a,some b1]) aC aD aB∧Bk j b1 53 (Am o p q r s t u y z aA h i f).toArray∧Sl AM j (zf Z w [some b3,some a,some b1]) o p f.Al∧Sl (BO (Ay .i64)) j (zf Z w [some b3,some a,some b1]) q r f.Ac∧Sl AQ j (zf Z w [some b3,some a,some b1]) s t f.Ap∧Sl Bm j (zf Z w [some b3,some a,some b1]) u y f.AH∧Sl Bl j (zf Z w [some b3,some a,some b1]) z aA f.Aw∧Sl BA j (zf Z w [some b3,some a,some b1]) h i f.Ao∧Sl AM j (zf Z w [some b3,some a,some b1]) aH aI d.BD∧Sl (BO (Ay .i64)) j (zf Z w [some b3,some a,some b1]) aJ aK d.BE∧Sl AQ j (zf Z w [some b3,some a,some b1]) aL aM d.By∧Sl Bm j (zf Z w [some b3,some a,some b1]) aN aO d.Ce∧Sl Bl j (zf Z w [some b3,some a,some b1]) aP aQ d.Ca∧Sl (Ay .i64) j (zf Z w [some b3,some a,some b1]) aR aS d.weights∧Sl Gl j (zf Z w [some b3,some a,some b1]) aT aU d.Dq∧GH (fun x:Int=>I x) j a 2 g∧Bk j b3 162 #[.slice aH d.BD.length aI,.slice aJ d.BE.length aK,.slice aL d.By.length aM,I d.DZ,.slice aN d.Ce.length aO,.slice aP d.Ca.length aQ,.slice aC aB.length aD,.slice aR d.weights.length aS,.slice aT d.Dq.length aU,.map (some a)]) dH ?e1 ?e2
    case e1=>
     intro st;have ⟨c5,c6,c7,c8,c9,dA⟩:=Cz bC bD bE bF bG bH (FC (Ah cV) a8);exact⟨(0:Int),d.CH,d.known,d5,d6,bI,qz st,qd st,sp st 1 rfl,sp st 4 rfl,sp st 17 rfl,sp st 18 rfl,eE,b8,cX,c5,c6,c7,c8,c9,dA,bZ,b4,b5,b6,b7,b9,cA,eX,eW⟩
    case e2=>
     rintro(_|eJ) fB e3 ⟨c,aB,g,aC,aD,bI,eK,eM,cY,bM,bW,bA,aW,d8,bX,cB,cC,cD,cE,cF,bB,aX,aY,aZ,a0,a2,a3,a4,dR,dS⟩
     ·exact absurd (show none=some _ from bI) (by simp)
     rw[Jb.eq_2] at bI;have b:=bI;clear bI;refine B7 (N:=35) eK eM<|Af<|Ad<|wD (fun st=>CO (ee st bA) (ee st bW))<|Ag<|Ab<|Af ?_;rcases Ak (decide (c<(f.Ao.length:Int))) with bY|bY
     ·replace b:=Az b bY;refine AD rfl bY<|AL<|Ab<|Af<|AT<|Af<|Ad<|wM (v:=I c) bA<|wA (v:=I c) rfl<|Ag<|Ab<|Af<|Ad<|wM (v:=pt b3 0) bM<|wD (fun st=>Ai (ee st cY) (Rm _ _))<|wD (fun st=>AG (v:=.slice h f.Ao.length i) TA (eR st) bX rfl)<|wM (v:=I c) rfl ?_;replace b:=AK b;obtain⟨e4,b⟩:=b;refine wD (fun st=>B0 (eR st) (eR st) e4) ?_;replace b:=N1 b;obtain⟨e5,b⟩:=b;refine wE (fun st=>RF (e:=BA) (Z:=_) (xs:=f.Ao) Tryz.underlying51 Vs rfl (eR st) S7 (Tt (eR st)) bB e5) ?_;rintro _ e3 ⟨⟨bJ,bK,rfl,dT⟩,rfl⟩;refine wD (fun st=>G5 (eR st))<|wD (fun st=>Ai (eR st) (Adw _ _))<|wD (fun st=>Ai (eR st) (Rm _ _))<|Dk rfl rfl (fun st=>CS (n:=1) (l:=[.slice bJ ((Gv f.Ao (0:Int) (c+1)).length) bK]) (EZ:= #[.slice aH d.BD.length aI,.slice aJ d.BE.length aK,.slice aL d.By.length aM,I d.DZ,.slice aN d.Ce.length aO,.slice aP d.Ca.length aQ,.slice bJ ((Gv f.Ao (0:Int) (c+1)).length) bK,.slice aR d.weights.length aS,.slice aT d.Dq.length aU,.map (some a)]) (eR st) (eR st) Aea dS rfl rfl (show 6+1≤10 by decide) (Cg rfl) rfl) ?_;rintro _ e6 m;have a5:=aW.gr m.gr 0 rfl;refine Ag<|Ab<|Af<|Ad<|wM (v:=pt b3 0) bM ?_;have aE:=a5.erase 0;have d9:Rz e6 (zf Z w [some a,some b1]) (some ⟨b3,0,none⟩) [.slice aH d.BD.length aI,.slice aJ d.BE.length aK,.slice aL d.By.length aM,I d.DZ,.slice aN d.Ce.length aO,.slice aP d.Ca.length aQ,.slice bJ ((Gv f.Ao (0:Int) (c+1)).length) bK,.slice aR d.weights.length aS,.slice aT d.Dq.length aU,.map (some a)]:=P1 m.bk (a5.lit 0 rfl d7) rfl;have ⟨cG,cH,cI,cJ,cK,dU,cL,cM⟩:=Ii aX aY aZ a0 a2 dT a3 a4 (mt (aW.C4 m.gr 0 rfl) (Bp 0));have eA:=(dR.gr m.gr (aW.nq 1 0));replace b:=bind_some b;obtain⟨bL,eN,b⟩:=b;refine wE (fun st=>Ar Yt (eR st) (Dw (eR st) (eR st)) (AdG dH (⟨d.BD,d.BE,d.By,d.DZ,d.Ce,d.Ca,Gv f.Ao (0:Int) (c+1),d.weights,d.Dq,g⟩:DO) ([]:List Int) aH aI aJ aK aL aM aN aO aP aQ bJ bK aR aS aT aU none 0 b3 a (ZC FN [some a]) _ (aE.GU (F':=FN) (M:=[some a]) (C:=[]) [0] [] rfl ⟨rfl,trivial⟩ trivial eL) Lb (cG.mv (aE.mz (F':=FN) (M:=[some a]) (C:=[]) [0] [] ⟨rfl,trivial⟩ trivial eL)) (cH.mv (aE.mz (F':=FN) (M:=[some a]) (C:=[]) [0] [] ⟨rfl,trivial⟩ trivial eL)) (cI.mv (aE.mz (F':=FN) (M:=[some a]) (C:=[]) [0] [] ⟨rfl,trivial⟩ trivial eL)) (cJ.mv (aE.mz (F':=FN) (M:=[some a]) (C:=[]) [0] [] ⟨rfl,trivial⟩ trivial eL)) (cK.mv (aE.mz (F':=FN) (M:=[some a]) (C:=[]) [0] [] ⟨rfl,trivial⟩ trivial eL)) (dU.mv (aE.mz (F':=FN) (M:=[some a]) (C:=[]) [0] [] ⟨rfl,trivial⟩ trivial eL)) (cL.mv (aE.mz (F':=FN) (M:=[some a]) (C:=[]) [0] [] ⟨rfl,trivial⟩ trivial eL)) (cM.mv (aE.mz (F':=FN) (M:=[some a]) (C:=[]) [0] [] ⟨rfl,trivial⟩ trivial eL)) (d9.mv (aE.mz (F':=FN) (M:=[some a]) (C:=[]) [0] [] ⟨rfl,trivial⟩ trivial eL)) (Sl.nil (Ay .i64) _ _) eA bL eN)) ?_;rintro _ fC ⟨aV,rfl,dV⟩;have eF:=a5.Fa aV (Cv [1] ⟨rfl,trivial⟩ eL);refine wD (fun st=>Dz (eR st))<|Ag<|Ab ?_;rcases Ak (!bL.1) with aG|aG
      ·replace b:=Az b aG;have eQ:bL.1=false:=by simpa using aG
       refine AD rfl aG<|Af<|Ad<|wM (v:=I c) rfl<|wA (v:=I c) rfl<|wA (v:=I 0) rfl<|Ag<|Ab<|AI<|Bi<|Ax<|Ax ?_;obtain rfl:=oi b;refine B4 (fun st=>?_);exact .inl ⟨rfl,(c,(0:Int),Gv f.Ao (0:Int) (c+1),bL.2),rfl,bJ,bK,qz st,qd st,sp st 2 rfl,sp st 3 rfl,eF⟩
      ·replace b:=AA b aG;have eS:bL.1=true:=by simpa using aG
       refine AE rfl aG<|AL<|Bs<|Ab<|Ad ?_;replace b:=AK b;obtain⟨eO,b⟩:=b;refine wD (fun st=>B0 (ee st bA) (eR st) eO)<|wM (v:=I (c+1)) rfl<|Ag ?_;have dW:=((dT.mv (aW.C4 m.gr 0 rfl)).mv (a5.If aV (Cv [1] ⟨rfl,trivial⟩ eL)));have eB:=((bX.gr m.gr (aW.nq 2 0)).Fa aV (a5.FZ 2 rfl [1] rfl ⟨rfl,trivial⟩ eL));have ⟨dB,dC,dD,dE,dF,dG,cN,cO,cP,cQ⟩:=Ada cB cC cD cE cF bB aX aY aZ a0 (mt (aW.C4 m.gr 0 rfl) (a5.If aV (Cv [1] ⟨rfl,trivial⟩ eL)));have ⟨cR,cS,cT⟩:=EW a2 a3 a4 (mt (aW.C4 m.gr 0 rfl) (a5.If aV (Cv [1] ⟨rfl,trivial⟩ eL)));have eC:=(m.bk.Fa aV (a5.FZ 0 rfl [1] rfl ⟨rfl,trivial⟩ eL));refine Bw eJ (Nat.lt_succ_self _) (fun st=>?_);exact⟨(c+1),(Gv f.Ao (0:Int) (c+1)),bL.2,bJ,bK,b,qz st,qd st,sp st 1 cY,sp st 4 bM,sp st 17 bW,sp st 18 rfl,eF,dW,eB,dB,dC,dD,dE,dF,dG,cN,cO,cP,cQ,cR,cS,cT,dV,eC⟩
     ·replace b:=AA b bY;refine AE rfl bY<|Cd<|AB<|AB ?_;obtain rfl:=oi b;refine B4 (fun st=>?_);exact .inr ⟨rfl,(aB,g),rfl,aC,aD,qz st,qd st,aW⟩
   case e0=>
    rintro eI e8 fD (⟨rfl,a9,rfl,bS,bT,bN,bO,dX,dY,cU⟩|⟨rfl,a9,rfl,bU,bV,bN,bO,cU⟩)
    ·skip
     replace b:=Eg b;refine Cn (X:=X0) (N:=35) bN bO<|Bi<|Ax ?_;obtain rfl:=oi b;refine F1 rfl dX dY ?_;exact⟨cU.Bc,⟨_,_,rfl,rfl,rfl⟩⟩
    ·skip
     replace b:=Eh b;refine Cn (X:=X0) (N:=35) bN bO<|Bn<|Ab<|Af<|Ad<|wA (v:=I 0) rfl<|wA (v:=I 7) rfl<|Ag<|Ab<|AI ?_;obtain rfl:=oi b;refine F1 rfl rfl rfl ?_;exact⟨cU.Bc,⟨_,_,rfl,rfl,rfl⟩⟩
theorem a43 cG aA aD aE aF aG aH aI aJ aK aL aM u y(Z:Nat→Prop) w(cU:Sl AM w Z aD aE aA.Al)(cV:Sl (BO (Ay .i64)) w Z aF aG aA.Ac)(cW:Sl AQ w Z aH aI aA.Ap)(cX:Sl Bm w Z aJ aK aA.AH)(cY:Sl Bl w Z aL aM aA.Aw)(cZ:Sl BA w Z u y aA.Ao) dM(d:IY cG aA=some dM):
 Cw Tryz.prog 43 #[.agg (Am aD aE aF aG aH aI aJ aK aL aM u y aA).toArray] w (fun v w'=>Ext w w'∧(PN (Gp (Ay .i64)) (Ev .i64)).R w' (zf Z w []) v dM):=by
 unfold IY at d;refine AS (N:=26) Tryz.func43 rfl rfl (by simp) ?_;intro d7 ha d8;have c6:=sA 0 ha;clear ha;have c4:Hp FN [] w [] w:=Hp.start (Cc.none w);have ⟨b4,b5,b6,b7,b8,b9⟩:=Cz cU cV cW cX cY cZ (Bh (Z:=Z) (L:=[]) w);refine Af<|Ad<|wE (fun st=>Ci (v:=.agg (Am aD aE aF aG aH aI aJ aK aL aM u y aA).toArray) (cs:=(Am aD aE aF aG aH aI aJ aK aL aM u y aA).toArray) (ee st c6) rfl) ?_;rintro _ w1 ⟨b1,rfl,bC⟩;have bD:=c4.nb bC;have d3:=c4.Cr bC;refine wA (v:=.slice none 0 0) rfl<|wA (v:=I 0) rfl<|Ag<|Ab<|Af<|Ad<|wD (fun st=>AR (l:=(Am aD aE aF aG aH aI aJ aK aL aM u y aA)) Hh (eR st) bC.bk rfl rfl) ?_;have ⟨cA,cB,cC,cD,cE,cF⟩:=Cz b4 b5 b6 b7 b8 b9 (AP bC);replace d:=bind_some d;obtain⟨z,dN,d⟩:=d;refine wE (fun st=>Ar Ys (eR st) (Dw (eR st) (eR st)) (AdH cG aA true aD aE aF aG aH aI aJ aK aL aM u y (zf Z w [some b1]) _ cA cB cC cD cE cF z dN)) ?_;rintro _ dO ⟨cH,⟨d9,rfl,dP⟩⟩;rcases JH.cases dP with⟨cI,rfl⟩|⟨c,cI,b3,a,aN,aO,aP,aQ,aR,aS,aT,aU,aV,aW,aX,aY,aZ,a0,a2,a3,rfl,a8,dQ,dR,cJ,cK,cL,cM,cN,cO,cP,cQ⟩
 ·replace d:=RQ cI d;have dS:=bD.ext cH;refine wM (v:=.tuple #[.pointer none,I z.2]) rfl<|wD (fun st=>BH (v:=.pointer none) (eR st) rfl)<|wD (fun st=>BH (v:=I z.2) (eR st) rfl)<|wA (v:=.pointer none) rfl<|wA (v:=I z.2) rfl<|Ag<|Ab<|Af<|Af<|Ad<|wM (v:=I z.2) rfl<|wD (fun st=>DW (eR st) (eR st))<|Ag<|Ab ?_;rcases Ak (z.2 !=0) with bX|bX
  ·replace d:=Az d bX;refine AD rfl bX<|Af<|Ad<|wM (v:=I z.2) rfl<|wA (v:=.slice none 0 0) rfl<|wA (v:=I z.2) rfl<|Ag<|Ab<|AI<|Ax ?_;obtain rfl:=oi d;refine F1 rfl rfl rfl ?_;exact⟨dS.Bc,⟨_,_,rfl,⟨_,_,rfl,Sl.nil _ _ _⟩,rfl⟩⟩
  ·replace d:=AA d bX;exact absurd d (by simp)
 ·replace d:=RR cI d;have c5:=bD.Ox cH a8;have c0:w.heap.size≤b3:=Nat.le_trans bD.sz (a8.mem _ (by simp)).1;have dL:w.heap.size≤a:=Nat.le_trans bD.sz (a8.mem _ (by simp)).1;have ⟨bF,bG,bH,bI,bJ,bK,bL,bM⟩:=Ii cJ cK cL cM cN cO cP cQ (bD.P0 a8);have bY:=c5.erase 0;have c7:Rz dO (zf Z w [some a,some b1]) (some ⟨b3,0,none⟩) (G1 aN aO aP aQ aR aS aT aU aV aW aX aY aZ a0 a2 a3 a c):=P1 dQ (c5.lit 0 rfl c0) rfl;refine wM (v:=.tuple #[pt b3 0,I z.2]) rfl<|wD (fun st=>BH (v:=pt b3 0) (eR st) rfl)<|wD (fun st=>BH (v:=I z.2) (eR st) rfl)<|wA (v:=pt b3 0) rfl<|wA (v:=I z.2) rfl<|Ag<|Ab<|Af<|Af<|Ad<|wM (v:=I z.2) rfl<|wD (fun st=>DW (eR st) (eR st))<|Ag<|Ab ?_;rcases Ak (z.2 !=0) with bE|bE
  ·replace d:=Az d bE;refine AD rfl bE<|Af<|Ad<|wM (v:=I z.2) rfl<|wA (v:=.slice none 0 0) rfl<|wA (v:=I z.2) rfl<|Ag<|Ab<|AI<|Ax ?_;obtain rfl:=oi d;refine F1 rfl rfl rfl ?_;exact⟨bY.Bc,⟨_,_,rfl,⟨_,_,rfl,Sl.nil _ _ _⟩,rfl⟩⟩
  ·replace d:=AA d bE;refine AE rfl bE<|AL<|Ab<|Af<|Ad<|wD (fun st=>Ai (eR st) (Rm _ _)) ?_;have c1:=(bC.bk.ext cH);refine wD (fun st=>AG (v:=.slice u aA.Ao.length y) TA (eR st) c1 rfl)<|wD (fun st=>Bu Tryz.underlying51 (eR st))<|wM (v:=pt b3 0) rfl<|wD (fun st=>Ix (vs:= #[pt b3 0]) (us:= #[]) (CR (eR st)) Gx) ?_;have dT:=bY.GU (F':=FN) (M:=[some a]) (C:=[]) [0] [] rfl ⟨rfl,trivial⟩ trivial (fun k hk=>.inl (eL k hk));have c8:Cb Tryz.prog (.func (.func 112) #[pt b3 0] #[]) (FU FN [some a]) dO.heap.size (fun(st:(List (List Int×Int))) a5 a9 o=>o=none∧GH (fun x:Int=>I x) a5 a 2 st∧Rz a5 a9 (some ⟨b3,0,none⟩) (G1 aN aO aP aQ aR aS aT aU aV aW aX aY aZ a0 a2 a3 a c)∧Sl AM a5 a9 aN aO c.BD∧Sl (BO (Ay .i64)) a5 a9 aP aQ c.BE∧Sl AQ a5 a9 aR aS c.By∧Sl Bm a5 a9 aT aU c.Ce∧Sl Bl a5 a9 aV aW c.Ca∧Sl BA a5 a9 aX aY c.CH∧Sl (Ay .i64) a5 a9 aZ a0 c.weights∧Sl Gl a5 a9 a2 a3 c.Dq) (v1 (Gp (Ay .i64))) Dg (fun(st:(List (List Int×Int))) (x:(List Int))=>(BM cG (⟨c.BD,c.BE,c.By,c.DZ,c.Ce,c.Ca,c.CH,c.weights,c.Dq,st⟩:DO) x).bind fun r=>some (r.1,r.2)):=by
    refine⟨rfl,rfl,bY.QN [0] ⟨rfl,trivial⟩ eL,?_,?_,?_⟩
    ·intro st x r w1 dU dV o vs hn e t cR hx d4;obtain⟨rfl,bA,a4,f,g,j,m,n,p,q,s⟩:=cR;obtain⟨_,rfl,⟨c9,dA,rfl,c2⟩⟩:=hx;obtain⟨d5,h1,h2⟩:=bind_some d4;obtain rfl:=Option.some.inj h2;refine(Le Yt rfl (AdG cG (⟨c.BD,c.BE,c.By,c.DZ,c.Ce,c.Ca,c.CH,c.weights,c.Dq,st⟩:DO) x aN aO aP aQ aR aS aT aU aV aW aX aY aZ a0 a2 a3 c9 dA b3 a dV w1 (dT.grow hn) (fun b hb=>Mi (t b hb).1) (f.mv (Kq e)) (g.mv (Kq e)) (j.mv (Kq e)) (m.mv (Kq e)) (n.mv (Kq e)) (p.mv (Kq e)) (q.mv (Kq e)) (s.mv (Kq e)) (a4.mv (Kq e)) c2 bA d5 h1)).mono ?_;rintro v w2 ⟨hx,dB,dC⟩;exact⟨none,hx.Xq,(fun _ h=>by cases h),dB,⟨rfl,dC,(a4.mv (HH (K3 hx (fun b hb=>I0 (t b (e b hb)))))),(f.mv (HH (K3 hx (fun b hb=>I0 (t b (e b hb)))))),(g.mv (HH (K3 hx (fun b hb=>I0 (t b (e b hb)))))),(j.mv (HH (K3 hx (fun b hb=>I0 (t b (e b hb)))))),(m.mv (HH (K3 hx (fun b hb=>I0 (t b (e b hb)))))),(n.mv (HH (K3 hx (fun b hb=>I0 (t b (e b hb)))))),(p.mv (HH (K3 hx (fun b hb=>I0 (t b (e b hb)))))),(q.mv (HH (K3 hx (fun b hb=>I0 (t b (e b hb)))))),(s.mv (HH (K3 hx (fun b hb=>I0 (t b (e b hb))))))⟩⟩
    ·intro st w1 w2 dU eA o cR hm hb;obtain⟨rfl,bA,a4,f,g,j,m,n,p,q,s⟩:=cR;exact⟨rfl,bA.Pm (hb a (.inl (.inr (List.mem_of_getElem? (i:=0) rfl)))),a4.mv hm,f.mv hm,g.mv hm,j.mv hm,m.mv hm,n.mv hm,p.mv hm,q.mv hm,s.mv hm⟩
    ·intro st w1 dU o cR k hk;obtain⟨rfl,bA,a4,f,g,j,m,n,p,q,s⟩:=cR;cases hk
   have bZ:=bY.nil;replace d:=bind_some d;obtain⟨bB,dW,d⟩:=d;have c3:=dR;have cS:=(c7.mv CA);have ⟨bN,bO,bP,bQ,bR,bS,bT,bU⟩:=Ii bF bG bH bI bJ bK bL bM (mt (Bp 0) CA);refine wE (fun st=>Ar Abu (eR st) (Dw (eR st) (eR st)) (AgE cG (aA.Ao.length:Int) c.known (.func (.func 112) #[pt b3 0] #[]) none (zf Z w [none,some a,some b1]) _ c8 (Nat.le_refl _) (bZ.GU (F':=(FU FN [some a])) (M:=[none]) (C:=[some a]) [0] [1] rfl ⟨rfl,trivial⟩ ⟨rfl,trivial⟩ (DS eL)) (bZ.zz (F':=(FU FN [some a])) (M:=[none]) (C:=[some a]) [0] [1] ⟨rfl,trivial⟩ ⟨rfl,trivial⟩ (DS eL)) ⟨rfl,c3,cS,bN,bO,bP,bQ,bR,bS,bT,bU⟩ bB dW)) ?_;rintro _ eB ⟨eC,dX,⟨_,_,rfl,⟨aB,aC,rfl,cT⟩,rfl⟩,d6,dY⟩;obtain⟨rfl,dZ,d0,dD,dE,dF,dG,dH,dI,dJ,dK⟩:=dY;have d1:=bZ.Fa (DM.cl (M1:=[some a]) (M2:=[none]) dX) (Cv [1,0] ⟨rfl,rfl,trivial⟩ eL);have bV:=cT.mv (bZ.call (M:=[none]) (Nat.le_refl _) (Gc ⟨.inl ⟨0,rfl⟩,trivial⟩) (fun _ h=>.inl h));have d2:=d1.erase 0;refine wM (v:=.tuple #[.slice aB bB.1.length aC,.bool bB.2.1]) rfl<|wD (fun st=>BH (v:=.slice aB bB.1.length aC) (eR st) rfl)<|wD (fun st=>BH (v:=.bool bB.2.1) (eR st) rfl)<|wA (v:=.slice aB bB.1.length aC) rfl<|wA (v:=.bool bB.2.1) rfl<|Ag<|Ab<|Af<|Ad<|wM (v:=.slice aB bB.1.length aC) rfl<|wA (v:=.slice aB bB.1.length aC) rfl<|wA (v:=I 0) rfl<|Ag<|Ab<|AI ?_;obtain rfl:=oi d;refine F1 rfl rfl rfl ?_;have bW:=(bV.mv (Bp 0));exact⟨d2.Bc,⟨_,_,rfl,⟨_,_,rfl,bW.mv (CG (DI [] trivial))⟩,rfl⟩⟩
theorem IW l b e f(Z:Nat→Prop) w k(d:Dh l b e f=some k):
 Cw Tryz.prog 29 #[I b,I e,I f] w (fun v w'=>Ext w w'∧Dg.R w' (zf Z w []) v k):=by
 unfold Dh at d;refine AS (N:=15) Tryz.func29 rfl rfl (by simp) ?_;intro m ha n;have g:=sA 0 ha;have i:=sA 1 ha;have j:=sA 2 ha;clear ha;have h:Hp FN [] w [] w:=Hp.start (Cc.none w);refine Af<|Ad<|wA (v:=.bool false) rfl<|Ag<|Ab<|Af<|Ad<|wM (v:=I b) g<|wM (v:=I e) i<|wD (fun st=>IX (eR st) (eR st))<|wM (v:=.bool (decide (e≤b))) rfl ?_;rcases Ak (decide (e≤b)) with a|a
 ·replace d:=Az d a;refine An rfl rfl (Ae rfl a) rfl (by decide) (fun st=>Aq (v:=I b) (ee st g))<|An rfl rfl (Ae rfl a) rfl (by decide) (fun st=>Aq (v:=I f) (ee st j))<|An rfl rfl (Ae rfl a) rfl (by decide) (fun st=>LX (eR st) (eR st))<|wD (fun st=>AY (v:=.bool (decide (b≤f))) (eR st) a (eR st))<|wA (v:=.bool (decide (b≤f))) rfl<|Ag<|Ab<|AI ?_;obtain rfl:=oi d;refine AJ rfl rfl ?_;exact⟨h.Bc,rfl⟩
 ·replace d:=AA d a;refine Au (c:=false) rfl rfl (Ae rfl a) (by decide) rfl (by decide)<|Au (c:=false) rfl rfl (Ae rfl a) (by decide) rfl (by decide)<|Au (c:=false) rfl rfl (Ae rfl a) (by decide) rfl (by decide)<|wD (fun st=>BC (v:=.bool false) (eR st) a (eR st))<|wA (v:=.bool false) rfl<|Ag<|Ab<|AI ?_;obtain rfl:=oi d;refine AJ rfl rfl ?_;exact⟨h.Bc,rfl⟩
theorem a90 p b g h(Z:Nat→Prop) w n(e:KF p b g h=some n):
 Cw Tryz.prog 90 #[.agg #[I b.Lo,I b.Hi],I g,I h] w (fun v w'=>Ext w w'∧Dg.R w' (zf Z w []) v n):=by
 unfold KF at e;refine AS (N:=24) Tryz.func90 rfl rfl (by simp) ?_;intro q ha r;have k:=sA 0 ha;have l:=sA 1 ha;have m:=sA 2 ha;clear ha;have j:Hp FN [] w [] w:=Hp.start (Cc.none w);refine Af<|Ad<|wE (fun st=>Ci (v:=.agg #[I b.Lo,I b.Hi]) (cs:= #[I b.Lo,I b.Hi]) (ee st k) rfl) ?_;rintro _ w1 ⟨b1,rfl,f⟩;have i:=j.nb f;have o:=j.Cr f;refine wA (v:=.bool false) rfl<|Ag<|Ab<|Af<|Ad<|wD (fun st=>Ai (eR st) (JL _ _))<|wD (fun st=>AG (v:=I b.Lo) Bz (eR st) f.bk rfl)<|wM (v:=I g) l<|wD (fun st=>IX (eR st) (eR st))<|wM (v:=.bool (decide (g≤b.Lo))) rfl ?_;rcases Ak (decide (g≤b.Lo)) with a|a
 ·replace e:=Az e a;refine An rfl rfl (Ae rfl a) rfl (by decide) (fun st=>Ai (eR st) (JL _ _))<|An rfl rfl (Ae rfl a) rfl (by decide) (fun st=>AG (v:=I b.Lo) Bz (eR st) f.bk rfl)<|An rfl rfl (Ae rfl a) rfl (by decide) (fun st=>Ai (eR st) (NU _ _))<|An rfl rfl (Ae rfl a) rfl (by decide) (fun st=>AG (v:=I b.Hi) Bz (eR st) f.bk rfl)<|An rfl rfl (Ae rfl a) rfl (by decide) (fun st=>LX (eR st) (eR st))<|wD (fun st=>AY (v:=.bool (decide (b.Lo≤b.Hi))) (eR st) a (eR st))<|wM (v:=.bool (decide (b.Lo≤b.Hi))) rfl ?_;rcases Ak (decide (b.Lo≤b.Hi)) with d|d
  ·replace e:=Az e d;refine An rfl rfl (Ae rfl d) rfl (by decide) (fun st=>Ai (eR st) (NU _ _))<|An rfl rfl (Ae rfl d) rfl (by decide) (fun st=>AG (v:=I b.Hi) Bz (eR st) f.bk rfl)<|An rfl rfl (Ae rfl d) rfl (by decide) (fun st=>Aq (v:=I h) (ee st m))<|An rfl rfl (Ae rfl d) rfl (by decide) (fun st=>LX (eR st) (eR st))<|wD (fun st=>AY (v:=.bool (decide (b.Hi≤h))) (eR st) d (eR st))<|wA (v:=.bool (decide (b.Hi≤h))) rfl<|Ag<|Ab<|AI ?_;obtain rfl:=oi e;refine AJ rfl rfl ?_;exact⟨i.Bc,rfl⟩
  ·replace e:=AA e d;refine Au (c:=false) rfl rfl (Ae rfl d) (by decide) rfl (by decide)<|Au (c:=false) rfl rfl (Ae rfl d) (by decide) rfl (by decide)<|Au (c:=false) rfl rfl (Ae rfl d) (by decide) rfl (by decide)<|Au (c:=false) rfl rfl (Ae rfl d) (by decide) rfl (by decide)<|wD (fun st=>BC (v:=.bool false) (eR st) d (eR st))<|wA (v:=.bool false) rfl<|Ag<|Ab<|AI ?_;obtain rfl:=oi e;refine AJ rfl rfl ?_;exact⟨i.Bc,rfl⟩
 ·replace e:=AA e a;refine Au (c:=false) rfl rfl (Ae rfl a) (by decide) rfl (by decide)<|Au (c:=false) rfl rfl (Ae rfl a) (by decide) rfl (by decide)<|Au (c:=false) rfl rfl (Ae rfl a) (by decide) rfl (by decide)<|Au (c:=false) rfl rfl (Ae rfl a) (by decide) rfl (by decide)<|Au (c:=false) rfl rfl (Ae rfl a) (by decide) rfl (by decide)<|wD (fun st=>BC (v:=.bool false) (eR st) a (eR st))<|wM (v:=.bool false) rfl<|Au rfl rfl rfl (by decide) rfl (by decide)<|Au rfl rfl rfl (by decide) rfl (by decide)<|Au rfl rfl rfl (by decide) rfl (by decide)<|Au rfl rfl rfl (by decide) rfl (by decide)<|wD (fun st=>BC (v:=.bool false) (eR st) rfl (eR st))<|wA (v:=.bool false) rfl<|Ag<|Ab<|AI ?_;obtain rfl:=oi e;refine AJ rfl rfl ?_;exact⟨i.Bc,rfl⟩
theorem Qq k a(Z:Nat→Prop) w f(b:FM k a=some f):
 Cw Tryz.prog 118 #[.agg #[I a.Lo,I a.Hi]] w (fun v w'=>Ext w w'∧(Ev .i64).R w' (zf Z w []) v f):=by
 unfold FM at b;refine AS (N:=9) Tryz.func118 rfl rfl (by simp) ?_;intro l ha m;have e:=sA 0 ha;clear ha;have d:Hp FN [] w [] w:=Hp.start (Cc.none w);refine Af<|Ad<|wE (fun st=>Ci (v:=.agg #[I a.Lo,I a.Hi]) (cs:= #[I a.Lo,I a.Hi]) (ee st e) rfl) ?_;rintro _ w1 ⟨b1,rfl,c⟩;have g:=d.nb c;have j:=d.Cr c;refine wA (v:=I 0) rfl<|Ag<|Ab<|Af<|Ad<|wD (fun st=>Ai (eR st) (NU _ _))<|wD (fun st=>AG (v:=I a.Hi) Bz (eR st) c.bk rfl)<|wD (fun st=>Ai (eR st) (JL _ _))<|wD (fun st=>AG (v:=I a.Lo) Bz (eR st) c.bk rfl) ?_;replace b:=AK b;obtain⟨h,b⟩:=b;refine wD (fun st=>Ex (eR st) (eR st) h) ?_;replace b:=AK b;obtain⟨i,b⟩:=b;refine wD (fun st=>B0 (eR st) (eR st) i)<|wA (v:=I ((a.Hi-a.Lo)+1)) rfl<|Ag<|Ab<|AI ?_;obtain rfl:=oi b;refine AJ rfl rfl ?_;exact⟨g.Bc,rfl⟩
theorem Ry aB j e f(Z:Nat→Prop) w(p:Sl (Ay .i64) w Z e f j) aC(a:Ft aB j=some aC):
 Cw Tryz.prog 35 #[.slice e j.length f] w (fun v w'=>Ext w w'∧(Ev .i64).R w' (zf Z w []) v aC):=by
 unfold Ft at a;refine AS (N:=18) Tryz.func35 rfl rfl (by simp) ?_;intro aR ha aS;have t:=sA 0 ha;clear ha;have aD:Hp FN [] w [] w:=Hp.start (Cc.none w);have n:=p.mv (Bh (Z:=Z) (L:=[]) w);refine Af<|Ad<|wA (v:=I 0) rfl<|Ag<|Ab<|Af<|Ad<|wA (v:=I 0) rfl<|Ag<|Ab<|Af<|Af<|Ad<|wA (v:=I 0) rfl<|Ag<|Ab<|AT ?_;replace a:=bind_some a;obtain⟨q,g,a⟩:=a;refine Cm (fun aE c u=>(aE=.exit 0∧c.tmps.size=18∧c.defers=(X0).ds∧sl c 3=I q∧w=u)) ?aF ?aG
 case aF=>
  clear a;refine Cl (fun(x:Nat) (c:Act) (u:World)=>∃d,∃b,Je j x d b=some q∧c.tmps.size=18∧c.defers=(X0).ds∧sl c 0=.slice e j.length f∧sl c 3=I d∧sl c 4=I b∧w=u) aB ?aH ?aI
  case aH=>
   intro st;exact⟨(0:Int),(0:Int),g,qz st,qd st,sp st 0 t,sp st 3 rfl,sp st 4 rfl,rfl⟩
  case aI=>
   rintro(_|x) aT _ ⟨d,b,g,y,z,h,m,i,rfl⟩
   ·exact absurd (show none=some _ from g) (by simp)
   rw[Je.eq_2] at g;have a:=g;clear g;refine B7 (N:=18) y z<|Af<|Af<|Ad<|wM (v:=I b) i<|wM (v:=.slice e j.length f) h<|wD (fun st=>Bu Tryz.underlying31 (eR st))<|wD (fun st=>CO (eR st) (eR st))<|Ag<|Ab ?_;rcases Ak (decide (b<(j.length:Int))) with l|l
   ·replace a:=Az a l;refine AD rfl l<|AL<|Ab<|Af<|AT<|Ad<|wM (v:=I d) m<|wM (v:=.slice e j.length f) h<|wM (v:=I b) i ?_;replace a:=AW a;obtain⟨i3,aA,aJ,aK,aL,a⟩:=a;obtain⟨b3,aU,_,aM,rfl,aN⟩:=Sl.C1 n rfl aK;refine wD (fun st=>AX (k:=i3) Tryz.underlying31 DR (eR st) aM (eR st) aJ aL)<|wD (fun st=>Bg (v:=I aA) Bz (eR st) aN rfl) ?_;replace a:=AK a;obtain⟨aO,a⟩:=a;refine wD (fun st=>B0 (eR st) (eR st) aO)<|wA (v:=I (d+aA)) rfl<|Ag<|Bs<|Ab<|Ad<|wM (v:=I b) i ?_;replace a:=AK a;obtain⟨aP,a⟩:=a;refine wD (fun st=>B0 (eR st) (eR st) aP)<|wA (v:=I (b+1)) rfl<|Ag ?_;refine Bw x (Nat.lt_succ_self _) (fun st=>?_);exact⟨(d+aA),(b+1),a,qz st,qd st,sp st 0 h,sp st 3 rfl,sp st 4 rfl,rfl⟩
   ·replace a:=AA a l;refine AE rfl l<|Cd<|AB<|AB ?_;obtain rfl:=oi a;refine B4 (fun st=>?_);exact⟨rfl,qz st,qd st,sp st 3 m,rfl⟩
 case aG=>
  rintro aE aQ _ (⟨rfl,r,s,o,rfl⟩);refine Cn (X:=X0) (N:=18) r s<|Bn<|Ab<|Af<|Ad<|wM (v:=I q) o<|wA (v:=I q) rfl<|Ag<|Ab<|AI ?_;obtain rfl:=oi a;refine AJ rfl rfl ?_;exact⟨aD.Bc,rfl⟩
theorem a91 aY h p c d i j l m e f(Z:Nat→Prop) w(aZ:Sl AM w Z c d h.AF)(a0:Sl (BO (Ay .i64)) w Z i j h.BW)(a2:Sl AQ w Z l m h.Bt)(a3:Sl (Ay .i64) w Z e f p) bM(a:Nk aY h p=some bM):
 Cw Tryz.prog 91 #[.agg (AU c d i j l m h).toArray,.slice e p.length f] w (fun v w'=>Ext w w'∧Dg.R w' (zf Z w []) v bM):=by
 unfold Nk at a;refine AS (N:=24) Tryz.func91 rfl rfl (by simp) ?_;intro b7 ha b8;have bB:=sA 0 ha;have bC:=sA 1 ha;clear ha;have a8:Hp FN [] w [] w:=Hp.start (Cc.none w);have ⟨aH,aI,aJ,aK⟩:=F4 aZ a0 a2 a3 (Bh (Z:=Z) (L:=[]) w);refine Af<|Ad<|wE (fun st=>Ci (v:=.agg (AU c d i j l m h).toArray) (cs:=(AU c d i j l m h).toArray) (ee st bB) rfl) ?_;rintro _ w1 ⟨b1,rfl,aF⟩;have bN:=a8.nb aF;have bZ:=a8.Cr aF;refine wA (v:=.bool false) rfl<|Ag<|Ab<|Af<|Af<|Ad<|wA (v:=I 0) rfl<|Ag<|Ab<|AT ?_;replace a:=bind_some a;obtain⟨z2,x,a⟩:=a;refine Cm (fun bD b o=>(bD=.ret∧∃y,z2=.inl y∧b.tmps.size=24∧b.defers=(X0).ds∧sl b 4=.bool y∧Hp FN [] w [some b1] o)∨(bD=.exit 0∧∃y,z2=.inr y∧b.tmps.size=24∧b.defers=(X0).ds∧sl b 1=.slice e p.length f∧sl b 2=pt b1 0∧Hp FN [] w [some b1] o∧Bk o b1 26 (AU c d i j l m h).toArray∧Sl AM o (zf Z w [some b1]) c d h.AF∧Sl (BO (Ay .i64)) o (zf Z w [some b1]) i j h.BW∧Sl AQ o (zf Z w [some b1]) l m h.Bt∧Sl (Ay .i64) o (zf Z w [some b1]) e f p)) ?bO ?bP
 case bO=>
  clear a;refine Cl (fun(bE:Nat) (b:Act) (o:World)=>∃g,H8 aY p bE g=some z2∧b.tmps.size=24∧b.defers=(X0).ds∧sl b 1=.slice e p.length f∧sl b 2=pt b1 0∧sl b 5=I g∧Hp FN [] w [some b1] o∧Bk o b1 26 (AU c d i j l m h).toArray∧Sl AM o (zf Z w [some b1]) c d h.AF∧Sl (BO (Ay .i64)) o (zf Z w [some b1]) i j h.BW∧Sl AQ o (zf Z w [some b1]) l m h.Bt∧Sl (Ay .i64) o (zf Z w [some b1]) e f p) aY ?bQ ?bR
  case bQ=>
   intro st;have ⟨aL,aM,aN,aO⟩:=F4 aH aI aJ aK (AP aF);exact⟨(0:Int),x,qz st,qd st,sp st 1 bC,sp st 2 rfl,sp st 5 rfl,bN,aF.bk,aL,aM,aN,aO⟩
  case bR=>
   rintro(_|bE) b9 cA ⟨g,x,bF,bG,q,aG,z,a9,aC,r,s,t,n⟩
   ·exact absurd (show none=some _ from x) (by simp)
   rw[H8.eq_2] at x;have a:=x;clear x;refine B7 (N:=24) bF bG<|Af<|Af<|Ad<|wM (v:=I g) z<|wM (v:=.slice e p.length f) q<|wD (fun st=>Bu Tryz.underlying31 (eR st))<|wD (fun st=>CO (eR st) (eR st))<|Ag<|Ab ?_;rcases Ak (decide (g<(p.length:Int))) with aD|aD
   ·replace a:=Az a aD;refine AD rfl aD<|AL<|Ab<|Af<|AT<|Af<|Ad<|wM (v:=.slice e p.length f) q<|wM (v:=I g) z ?_;replace a:=AW a;obtain⟨i4,bS,bT,bU,bV,a⟩:=a;obtain⟨cC,cD,_,bW,rfl,bX⟩:=Sl.C1 n rfl bU;refine wD (fun st=>AX (k:=i4) Tryz.underlying31 DR (eR st) bW (eR st) bT bV)<|wD (fun st=>Bg (v:=I bS) Bz (eR st) bX rfl) ?_;replace a:=bind_some a;obtain⟨a4,bY,a⟩:=a;refine wE (fun st=>Ar Fk (eR st) (EN (eR st) (eR st) (eR st)) (IW aY bS 0 30 ZA _ a4 bY)) ?_;rintro _ cE ⟨aT,rfl⟩;have bA:=a9.ext aT;refine wD (fun st=>Dz (eR st))<|Ag<|Ab ?_;rcases Ak (!a4) with u|u
    ·replace a:=Az a u;have b4:a4=false:=by simpa using u
     refine AD rfl u<|Af<|Ad<|wA (v:=.bool false) rfl<|Ag<|Ab<|AI<|Bi<|Ax<|Ax ?_;obtain rfl:=oi a;refine B4 (fun st=>?_);exact .inl ⟨rfl,false,rfl,qz st,qd st,sp st 4 rfl,bA⟩
    ·replace a:=AA a u;have b5:a4=true:=by simpa using u
     refine AE rfl u<|AL<|Bs<|Ab<|Ad<|wM (v:=I g) z ?_;replace a:=AK a;obtain⟨bH,a⟩:=a;refine wD (fun st=>B0 (eR st) (eR st) bH)<|wA (v:=I (g+1)) rfl<|Ag ?_;have a5:=(aC.ext aT);have ⟨aP,aQ,aR,aS⟩:=F4 r s t n (Ah aT);refine Bw bE (Nat.lt_succ_self _) (fun st=>?_);exact⟨(g+1),a,qz st,qd st,sp st 1 q,sp st 2 aG,sp st 5 rfl,bA,a5,aP,aQ,aR,aS⟩
   ·replace a:=AA a aD;refine AE rfl aD<|Cd<|AB<|AB ?_;obtain rfl:=oi a;refine B4 (fun st=>?_);exact .inr ⟨rfl,(),rfl,qz st,qd st,sp st 1 q,sp st 2 aG,a9,aC,r,s,t,n⟩
 case bP=>
  rintro bD b6 cB (⟨rfl,y,rfl,aA,aB,aU,aE⟩|⟨rfl,y,rfl,aA,aB,aV,aW,aE,aX,bI,bJ,bK,bL⟩)
  ·skip
   replace a:=Eg a;refine Cn (X:=X0) (N:=24) aA aB<|Bi<|Ax ?_;obtain rfl:=oi a;refine AJ rfl aU ?_;exact⟨aE.Bc,rfl⟩
  ·skip
   replace a:=Eh a;refine Cn (X:=X0) (N:=24) aA aB<|Bn<|Ab<|Af<|Ad<|wM (v:=.slice e p.length f) aV<|wD (fun st=>Bu Tryz.underlying31 (eR st))<|wD (fun st=>Ai (ee st aW) (ES _ _))<|wD (fun st=>AG (v:=.slice c h.AF.length d) Fz (eR st) aX rfl)<|wD (fun st=>Bu Tryz.underlying22 (eR st))<|wD (fun st=>Dj (eR st) (eR st))<|wA (v:=.bool ((p.length:Int)==(h.AF.length:Int))) rfl<|Ag<|Ab<|AI ?_;obtain rfl:=oi a;refine AJ rfl rfl ?_;exact⟨aE.Bc,rfl⟩
theorem a59 aL e c d g h i j(Z:Nat→Prop) w(aM:Sl AM w Z c d e.AF)(aN:Sl (BO (Ay .i64)) w Z g h e.BW)(aO:Sl AQ w Z i j e.Bt) a2(a:Fb aL e=some a2):
 Cw Tryz.prog 59 #[.agg (AU c d g h i j e).toArray] w (fun v w'=>Ext w w'∧(Ev .i64).R w' (zf Z w []) v a2):=by
 unfold Fb at a;refine AS (N:=22) Tryz.func59 rfl rfl (by simp) ?_;intro bM ha bN;have aU:=sA 0 ha;clear ha;have aS:Hp FN [] w [] w:=Hp.start (Cc.none w);have ⟨aA,aB,aC⟩:=EW aM aN aO (Bh (Z:=Z) (L:=[]) w);refine Af<|Ad<|wE (fun st=>Ci (v:=.agg (AU c d g h i j e).toArray) (cs:=(AU c d g h i j e).toArray) (ee st aU) rfl) ?_;rintro _ w1 ⟨b1,rfl,y⟩;have a3:=aS.nb y;have bK:=aS.Cr y;refine wA (v:=I 0) rfl<|Ag<|Ab<|Af<|Ad<|wA (v:=I 1) rfl<|Ag<|Ab<|Af<|Af<|Ad<|wA (v:=I 0) rfl<|Ag<|Ab<|AT ?_;replace a:=bind_some a;obtain⟨z2,p,a⟩:=a;refine Cm (fun a4 f t=>(a4=.exit 0∧f.tmps.size=22∧f.defers=(X0).ds∧sl f 3=I z2∧Hp FN [] w [some b1] t)) ?a5 ?a8
 case a5=>
  clear a;refine Cl (fun(aV:Nat) (f:Act) (t:World)=>∃m,∃b,I2 aL e aV m b=some z2∧f.tmps.size=22∧f.defers=(X0).ds∧sl f 1=pt b1 0∧sl f 3=I m∧sl f 4=I b∧Hp FN [] w [some b1] t∧Bk t b1 26 (AU c d g h i j e).toArray∧Sl AM t (zf Z w [some b1]) c d e.AF∧Sl (BO (Ay .i64)) t (zf Z w [some b1]) g h e.BW∧Sl AQ t (zf Z w [some b1]) i j e.Bt) aL ?a9 ?bA
  case a9=>
   intro st;have ⟨aD,aE,aF⟩:=EW aA aB aC (AP y);exact⟨(1:Int),(0:Int),p,qz st,qd st,sp st 1 rfl,sp st 3 rfl,sp st 4 rfl,a3,y.bk,aD,aE,aF⟩
  case bA=>
   rintro(_|aV) bO bP ⟨m,b,p,aW,aX,q,z,r,aT,n,o,u,x⟩
   ·exact absurd (show none=some _ from p) (by simp)
   rw[I2.eq_2] at p;have a:=p;clear p;refine B7 (N:=22) aW aX<|Af<|Af<|Ad<|wM (v:=I b) r<|wD (fun st=>Ai (ee st q) (ES _ _))<|wD (fun st=>AG (v:=.slice c e.AF.length d) Fz (eR st) n rfl)<|wD (fun st=>Bu Tryz.underlying22 (eR st))<|wD (fun st=>CO (eR st) (eR st))<|Ag<|Ab ?_;rcases Ak (decide (b<(e.AF.length:Int))) with s|s
   ·replace a:=Az a s;refine AD rfl s<|AL<|Ab<|Af<|AT<|Ad<|wM (v:=I m) z<|wD (fun st=>Ai (ee st q) (ES _ _))<|wD (fun st=>AG (v:=.slice c e.AF.length d) Fz (eR st) n rfl)<|wM (v:=I b) r ?_;replace a:=AW a;obtain⟨i4,aY,bB,bC,bD,a⟩:=a;obtain⟨bR,bS,_,bE,rfl,bF⟩:=Sl.elem o (by decide) bC;refine wD (fun st=>BR (k:=i4) Tryz.underlying22 G0 (eR st) bE (eR st) bB bD)<|wD (fun st=>Ew (l:=[I aY.Lo,I aY.Hi]) Gk (eR st) bF rfl rfl) ?_;replace a:=bind_some a;obtain⟨aZ,bG,a⟩:=a;refine wE (fun st=>Ar MF (eR st) (CR (eR st)) (Qq aL aY ZA _ aZ bG)) ?_;rintro _ bT ⟨aJ,rfl⟩;have bH:=aT.ext aJ;replace a:=AK a;obtain⟨bI,a⟩:=a;refine wD (fun st=>KY (eR st) (eR st) bI)<|wD (fun st=>Xg (eR st) (eR st))<|wA (v:=I (min (3000:Int) (m*aZ))) rfl<|Ag<|Bs<|Ab<|Ad<|wM (v:=I b) r ?_;replace a:=AK a;obtain⟨bJ,a⟩:=a;refine wD (fun st=>B0 (eR st) (eR st) bJ)<|wA (v:=I (b+1)) rfl<|Ag ?_;have aP:=(n.ext aJ);have ⟨aG,aH,aI⟩:=EW o u x (Ah aJ);refine Bw aV (Nat.lt_succ_self _) (fun st=>?_);exact⟨(min (3000:Int) (m*aZ)),(b+1),a,qz st,qd st,sp st 1 q,sp st 3 rfl,sp st 4 rfl,bH,aP,aG,aH,aI⟩
   ·replace a:=AA a s;refine AE rfl s<|Cd<|AB<|AB ?_;obtain rfl:=oi a;refine B4 (fun st=>?_);exact⟨rfl,qz st,qd st,sp st 3 z,aT⟩
 case a8=>
  rintro a4 bL bQ (⟨rfl,aQ,aR,aK,a0⟩);refine Cn (X:=X0) (N:=22) aQ aR<|Bn<|Ab<|Af<|Ad<|wM (v:=I z2) aK<|wA (v:=I z2) rfl<|Ag<|Ab<|AI ?_;obtain rfl:=oi a;refine AJ rfl rfl ?_;exact⟨a0.Bc,rfl⟩
set_option maxHeartbeats 4000000 in
theorem a24 aN b f g d e i j(Z:Nat→Prop) w(d1:Sl AM w Z f g b.AF)(d2:Sl (BO (Ay .i64)) w Z d e b.BW)(d3:Sl AQ w Z i j b.Bt) f4(a:K8 aN b=some f4):
 Cw Tryz.prog 24 #[.agg (AU f g d e i j b).toArray] w (fun v w'=>Ext w w'∧(Ev .i64).R w' (zf Z w []) v f4):=by
 unfold K8 at a;refine AS (N:=101) Tryz.func24 rfl rfl (by simp) ?_;intro gT ha gU;have eJ:=sA 0 ha;clear ha;have eB:Hp FN [] w [] w:=Hp.start (Cc.none w);have ⟨cW,cX,cY⟩:=EW d1 d2 d3 (Bh (Z:=Z) (L:=[]) w);refine Af<|Ad<|wE (fun st=>Ci (v:=.agg (AU f g d e i j b).toArray) (cs:=(AU f g d e i j b).toArray) (ee st eJ) rfl) ?_;rintro _ w1 ⟨b1,rfl,a2⟩;have bX:=eB.nb a2;have gJ:=eB.Cr a2;refine wA (v:=I 0) rfl<|Ag<|Ab<|Af<|Af<|Ad<|wD (fun st=>Ai (eR st) (ES _ _))<|wD (fun st=>AG (v:=.slice f b.AF.length g) Fz (eR st) a2.bk rfl)<|wD (fun st=>Bu Tryz.underlying22 (eR st))<|wD (fun st=>HJ (eR st) (eR st))<|wM (v:=.bool (decide ((3:Int)<(b.AF.length:Int)))) rfl ?_;rcases Ak (decide ((3:Int)<(b.AF.length:Int))) with aE|aE
 ·replace a:=Az a aE;refine Au (c:=true) rfl rfl (Ae rfl aE) (by decide) rfl (by decide)<|Au (c:=true) rfl rfl (Ae rfl aE) (by decide) rfl (by decide)<|Au (c:=true) rfl rfl (Ae rfl aE) (by decide) rfl (by decide)<|Au (c:=true) rfl rfl (Ae rfl aE) (by decide) rfl (by decide)<|wD (fun st=>AY (v:=.bool true) (eR st) aE (eR st))<|wM (v:=.bool true) rfl<|Au rfl rfl rfl (by decide) rfl (by decide)<|Au rfl rfl rfl (by decide) rfl (by decide)<|Au rfl rfl rfl (by decide) rfl (by decide)<|Au rfl rfl rfl (by decide) rfl (by decide)<|wD (fun st=>AY (v:=.bool true) (eR st) rfl (eR st))<|Ag<|Ab<|AD rfl rfl<|Af<|Ad<|wA (v:=I 3) rfl<|Ag<|Ab<|AI<|Ax ?_;obtain rfl:=oi a;refine AJ rfl rfl ?_;exact⟨bX.Bc,rfl⟩
 ·replace a:=AA a aE;refine An rfl rfl (Ae rfl aE) rfl (by decide) (fun st=>Ai (eR st) (Ei _ _))<|An rfl rfl (Ae rfl aE) rfl (by decide) (fun st=>AG (v:=.slice d b.BW.length e) El (eR st) a2.bk rfl)<|An rfl rfl (Ae rfl aE) rfl (by decide) (fun st=>Bu Tryz.underlying23 (eR st))<|An rfl rfl (Ae rfl aE) rfl (by decide) (fun st=>HJ (eR st) (eR st))<|wD (fun st=>BC (v:=.bool (decide ((3:Int)<(b.BW.length:Int)))) (eR st) aE (eR st))<|wM (v:=.bool (decide ((3:Int)<(b.BW.length:Int)))) rfl ?_;rcases Ak (decide ((3:Int)<(b.BW.length:Int))) with aF|aF
  ·replace a:=Az a aF;refine Au (c:=true) rfl rfl (Ae rfl aF) (by decide) rfl (by decide)<|Au (c:=true) rfl rfl (Ae rfl aF) (by decide) rfl (by decide)<|Au (c:=true) rfl rfl (Ae rfl aF) (by decide) rfl (by decide)<|Au (c:=true) rfl rfl (Ae rfl aF) (by decide) rfl (by decide)<|wD (fun st=>AY (v:=.bool true) (eR st) aF (eR st))<|Ag<|Ab<|AD rfl rfl<|Af<|Ad<|wA (v:=I 3) rfl<|Ag<|Ab<|AI<|Ax ?_;obtain rfl:=oi a;refine AJ rfl rfl ?_;exact⟨bX.Bc,rfl⟩
  ·replace a:=AA a aF;refine An rfl rfl (Ae rfl aF) rfl (by decide) (fun st=>Ai (eR st) (K1 _ _))<|An rfl rfl (Ae rfl aF) rfl (by decide) (fun st=>AG (v:=.slice i b.Bt.length j) LZ (eR st) a2.bk rfl)<|An rfl rfl (Ae rfl aF) rfl (by decide) (fun st=>Bu Tryz.underlying24 (eR st))<|An rfl rfl (Ae rfl aF) rfl (by decide) (fun st=>HJ (eR st) (eR st))<|wD (fun st=>BC (v:=.bool (decide ((5:Int)<(b.Bt.length:Int)))) (eR st) aF (eR st))<|Ag<|Ab ?_;rcases Ak (decide ((5:Int)<(b.Bt.length:Int))) with bY|bY
   ·replace a:=Az a bY;refine AD rfl bY<|Af<|Ad<|wA (v:=I 3) rfl<|Ag<|Ab<|AI<|Ax ?_;obtain rfl:=oi a;refine AJ rfl rfl ?_;exact⟨bX.Bc,rfl⟩
   ·replace a:=AA a bY;refine AE rfl bY<|AL<|Ab<|Af<|Af<|Ad<|wD (fun st=>Ai (eR st) (ES _ _))<|wD (fun st=>AG (v:=.slice f b.AF.length g) Fz (eR st) a2.bk rfl)<|wD (fun st=>Bu Tryz.underlying22 (eR st))<|wD (fun st=>Dj (eR st) (eR st))<|Ag<|Ab ?_;rcases Ak ((b.AF.length:Int)==0) with bZ|bZ
    ·replace a:=Az a bZ;refine AD rfl bZ<|Af<|Ad<|wA (v:=I 1) rfl<|Ag<|Ab<|AI<|Ax ?_;obtain rfl:=oi a;refine AJ rfl rfl ?_;exact⟨bX.Bc,rfl⟩
    ·replace a:=AA a bZ;refine AE rfl bZ<|AL<|Ab<|Af<|Af<|Ad<|wA (v:=I 0) rfl<|Ag<|Ab<|AT ?_;replace a:=bind_some a;obtain⟨eK,bM,a⟩:=a;refine Cm (fun a9 m q=>(a9=.ret∧∃bN,eK=.inl bN∧m.tmps.size=101∧m.defers=(X0).ds∧sl m 2=I bN∧Hp FN [] w [some b1] q)∨(a9=.exit 0∧∃bN,eK=.inr bN∧m.tmps.size=101∧m.defers=(X0).ds∧sl m 1=pt b1 0∧Hp FN [] w [some b1] q∧Bk q b1 26 (AU f g d e i j b).toArray∧Sl AM q (zf Z w [some b1]) f g b.AF∧Sl (BO (Ay .i64)) q (zf Z w [some b1]) d e b.BW∧Sl AQ q (zf Z w [some b1]) i j b.Bt)) ?f5 ?f6
     case f5=>
      clear a;refine Cl (fun(a3:Nat) (m:Act) (q:World)=>∃aG,IK aN b a3 aG=some eK∧m.tmps.size=101∧m.defers=(X0).ds∧sl m 1=pt b1 0∧sl m 3=I aG∧Hp FN [] w [some b1] q∧Bk q b1 26 (AU f g d e i j b).toArray∧Sl AM q (zf Z w [some b1]) f g b.AF∧Sl (BO (Ay .i64)) q (zf Z w [some b1]) d e b.BW∧Sl AQ q (zf Z w [some b1]) i j b.Bt) aN ?f7 ?f8
      case f7=>
       intro st;have ⟨cZ,c0,c1⟩:=EW cW cX cY (AP a2);exact⟨(0:Int),bM,qz st,qd st,sp st 1 rfl,sp st 3 rfl,bX,a2.bk,cZ,c0,c1⟩
      case f8=>
       rintro(_|a3) gV gW ⟨aG,bM,eM,eN,a4,bP,eC,aT,aO,bA,bB⟩
       ·exact absurd (show none=some _ from bM) (by simp)
       rw[IK.eq_2] at bM;have a:=bM;clear bM;refine B7 (N:=101) eM eN<|Af<|Af<|Ad<|wM (v:=I aG) bP<|wD (fun st=>Ai (ee st a4) (ES _ _))<|wD (fun st=>AG (v:=.slice f b.AF.length g) Fz (eR st) aT rfl)<|wD (fun st=>Bu Tryz.underlying22 (eR st))<|wD (fun st=>CO (eR st) (eR st))<|Ag<|Ab ?_;rcases Ak (decide (aG<(b.AF.length:Int))) with b4|b4
       ·replace a:=Az a b4;refine AD rfl b4<|AL<|Ab<|Af<|AT<|Af<|Ad<|wD (fun st=>Ai (ee st a4) (ES _ _))<|wD (fun st=>AG (v:=.slice f b.AF.length g) Fz (eR st) aT rfl)<|wM (v:=I aG) bP ?_;replace a:=AW a;obtain⟨i8,eO,f9,gA,gB,a⟩:=a;obtain⟨hC,hD,_,gC,rfl,gD⟩:=Sl.elem aO (by decide) gA;refine wD (fun st=>BR (k:=i8) Tryz.underlying22 G0 (eR st) gC (eR st) f9 gB)<|wD (fun st=>Ew (l:=[I eO.Lo,I eO.Hi]) Gk (eR st) gD rfl rfl) ?_;replace a:=bind_some a;obtain⟨d4,gE,a⟩:=a;refine wE (fun st=>Ar XB (eR st) (EN (eR st) (eR st) (eR st)) (a90 aN eO 0 100 ZA _ d4 gE)) ?_;rintro _ gX ⟨dG,rfl⟩;have eD:=eC.ext dG;refine wD (fun st=>Dz (eR st))<|Ag<|Ab ?_;rcases Ak (!d4) with aP|aP
        ·replace a:=Az a aP;have fS:d4=false:=by simpa using aP
         refine AD rfl aP<|Af<|Ad<|wA (v:=I 1) rfl<|Ag<|Ab<|AI<|Bi<|Ax<|Ax ?_;obtain rfl:=oi a;refine B4 (fun st=>?_);exact .inl ⟨rfl,(1:Int),rfl,qz st,qd st,sp st 2 rfl,eD⟩
        ·replace a:=AA a aP;have fT:d4=true:=by simpa using aP
         refine AE rfl aP<|AL<|Bs<|Ab<|Ad<|wM (v:=I aG) bP ?_;replace a:=AK a;obtain⟨eP,a⟩:=a;refine wD (fun st=>B0 (eR st) (eR st) eP)<|wA (v:=I (aG+1)) rfl<|Ag ?_;have d5:=(aT.ext dG);have ⟨c2,c3,c4⟩:=EW aO bA bB (Ah dG);refine Bw a3 (Nat.lt_succ_self _) (fun st=>?_);exact⟨(aG+1),a,qz st,qd st,sp st 1 a4,sp st 3 rfl,eD,d5,c2,c3,c4⟩
       ·replace a:=AA a b4;refine AE rfl b4<|Cd<|AB<|AB ?_;obtain rfl:=oi a;refine B4 (fun st=>?_);exact .inr ⟨rfl,(),rfl,qz st,qd st,sp st 1 a4,eC,aT,aO,bA,bB⟩
     case f6=>
      rintro a9 gM gY (⟨rfl,bN,rfl,bQ,bR,dH,cG⟩|⟨rfl,bN,rfl,bQ,bR,dI,cG,dJ,cH,cI,cJ⟩)
      ·skip
       replace a:=Eg a;refine Cn (X:=X0) (N:=101) bQ bR<|Bi<|Ax ?_;obtain rfl:=oi a;refine AJ rfl dH ?_;exact⟨cG.Bc,rfl⟩
      ·skip
       replace a:=Eh a;refine Cn (X:=X0) (N:=101) bQ bR<|Bn<|Ab<|Af<|Af<|Ad<|wA (v:=I 0) rfl<|Ag<|Ab<|AT ?_;replace a:=bind_some a;obtain⟨dK,aW,a⟩:=a;refine Cm (fun a9 m q=>(a9=.ret∧∃aX,dK=.inl aX∧m.tmps.size=101∧m.defers=(X0).ds∧sl m 2=I aX∧Hp FN [] w [some b1] q)∨(a9=.exit 2∧∃aX,dK=.inr aX∧m.tmps.size=101∧m.defers=(X0).ds∧sl m 1=pt b1 0∧Hp FN [] w [some b1] q∧Bk q b1 26 (AU f g d e i j b).toArray∧Sl AM q (zf Z w [some b1]) f g b.AF∧Sl (BO (Ay .i64)) q (zf Z w [some b1]) d e b.BW∧Sl AQ q (zf Z w [some b1]) i j b.Bt)) ?eQ ?eS
       case eQ=>
        clear a;refine Cl (fun(a3:Nat) (m:Act) (q:World)=>∃x,HP aN b a3 x=some dK∧m.tmps.size=101∧m.defers=(X0).ds∧sl m 1=pt b1 0∧sl m 4=I x∧Hp FN [] w [some b1] q∧Bk q b1 26 (AU f g d e i j b).toArray∧Sl AM q (zf Z w [some b1]) f g b.AF∧Sl (BO (Ay .i64)) q (zf Z w [some b1]) d e b.BW∧Sl AQ q (zf Z w [some b1]) i j b.Bt) aN ?eT ?eU
        case eT=>
         intro st;exact⟨(0:Int),aW,qz st,qd st,sp st 1 dI,sp st 4 rfl,cG,dJ,cH,cI,cJ⟩
        case eU=>
         rintro(_|a3) gN gO ⟨x,aW,d6,d7,y,aI,dL,u,aB,z,aC⟩
         ·exact absurd (show none=some _ from aW) (by simp)
         rw[HP.eq_2] at aW;have a:=aW;clear aW;refine B7 (N:=101) d6 d7<|Af<|Af<|Ad<|wM (v:=I x) aI<|wD (fun st=>Ai (ee st y) (Ei _ _))<|wD (fun st=>AG (v:=.slice d b.BW.length e) El (eR st) u rfl)<|wD (fun st=>Bu Tryz.underlying23 (eR st))<|wD (fun st=>CO (eR st) (eR st))<|Ag<|Ab ?_;rcases Ak (decide (x<(b.BW.length:Int))) with bC|bC
         ·replace a:=Az a bC;refine AD rfl bC<|AL<|Ab<|Af<|AT<|Af ?_;replace a:=AW a;obtain⟨i18,cT,dM,eV,dN,a⟩:=a;obtain⟨eE,eF,_,dO,⟨a5,a8,rfl,b5⟩,dP⟩:=Sl.C1 z rfl eV;replace a:=bind_some a;obtain⟨aJ,dQ,a⟩:=a;rcases Ak (!aJ) with o|o
          ·replace a:=Az a o;have fU:aJ=false:=by simpa using o
           refine B9 12 [Kc (.agg (AU f g d e i j b).toArray),Kc (pt b1 1),Kc (.slice d b.BW.length e),Kc (I x),Kc (pt eE (eF+i18)),Kc (.slice a5 cT.length a8),Kc (.bool aJ),Kc (.bool !aJ),Kc (.bool !aJ),Kc undef,Kc undef,Kc undef] mixed rfl rfl
               (Aa (oD (fun K=>AR (l:=(AU f g d e i j b)) EP (es ((K.out 1 rfl).trans y)) (u.ext K.AO) rfl rfl))
               (Aa (oD (fun K=>Ai (es ((K.out 1 rfl).trans y)) (Ei _ _)))
               (Aa (oD (fun K=>AG El (es (K.dq 1 50)) (u.ext K.AO) rfl))
               (Aa (oD (fun K=>Aq (es ((K.out 4 rfl).trans aI))))
               (Aa (oD (fun K=>AX (k:=i18) Tryz.underlying23 FX (es (K.dq 2 51)) dO (es (K.dq 3 52)) dM dN))
               (Aa (oD (fun K=>Bg Eu (es (K.dq 4 53)) (dP.mv (Ah K.AO)) rfl))
               (Aa (Dl rfl rfl (fun a' w' ph K=>(Ar Acw rfl (Dw (es (K.dq 0 49)) (es (K.dq 5 54))) (a91 aN b cT f g d e i j a5 a8 ZA _ (aB.mv (Ah K.AO)).all (z.mv (Ah K.AO)).all (aC.mv (Ah K.AO)).all (b5.mv (Ah K.AO)).all aJ dQ)).mono (fun _ _ h=>⟨h.2,h.1⟩)))
               (Aa (oD (fun K=>Dz (es (K.dq 6 55))))
               (Aa (oD (fun K=>Aq (es (K.dq 7 56))))
               (Aa (oS (c:=true) (fun a' w' ph K=>Ae (K.dq 8 57) o))
               (Aa (oS (c:=true) (fun a' w' ph K=>Ae (K.dq 8 57) o))
               (Aa (oS (c:=true) (fun a' w' ph K=>Ae (K.dq 8 57) o))
               (B8 _))))))))))))) ?_
           intro gF;rintro _ rfl _ rfl _ rfl _ rfl _ rfl _ rfl _ rfl _ rfl _ rfl _ rfl _ rfl _ rfl aQ;have gG:=dL.ext aQ;refine Au (c:=true) rfl rfl (Ae rfl o) (by decide) rfl (by decide)<|Au (c:=true) rfl rfl (Ae rfl o) (by decide) rfl (by decide)<|Au (c:=true) rfl rfl (Ae rfl o) (by decide) rfl (by decide)<|Au (c:=true) rfl rfl (Ae rfl o) (by decide) rfl (by decide)<|wD (fun st=>AY (v:=.bool true) (eR st) o (eR st))<|Ag<|Ab<|AD rfl rfl<|Af<|Ad<|wA (v:=I 1) rfl<|Ag<|Ab<|AI<|Bi<|Ax<|Ax ?_;obtain rfl:=oi a;refine B4 (fun st=>?_);exact .inl ⟨rfl,(1:Int),rfl,qz st,qd st,sp st 2 rfl,gG⟩
          ·replace a:=AA a o;have fV:aJ=true:=by simpa using o
           refine B9 12 [Kc (.agg (AU f g d e i j b).toArray),Kc (pt b1 1),Kc (.slice d b.BW.length e),Kc (I x),Kc (pt eE (eF+i18)),Kc (.slice a5 cT.length a8),Kc (.bool aJ),Kc (.bool !aJ),Kc (.bool !aJ),Kc (pt b1 1),Kc (.slice d b.BW.length e),Kc (I x)] mixed rfl rfl
               (Aa (oD (fun K=>AR (l:=(AU f g d e i j b)) EP (es ((K.out 1 rfl).trans y)) (u.ext K.AO) rfl rfl))
               (Aa (oD (fun K=>Ai (es ((K.out 1 rfl).trans y)) (Ei _ _)))
               (Aa (oD (fun K=>AG El (es (K.dq 1 50)) (u.ext K.AO) rfl))
               (Aa (oD (fun K=>Aq (es ((K.out 4 rfl).trans aI))))
               (Aa (oD (fun K=>AX (k:=i18) Tryz.underlying23 FX (es (K.dq 2 51)) dO (es (K.dq 3 52)) dM dN))
               (Aa (oD (fun K=>Bg Eu (es (K.dq 4 53)) (dP.mv (Ah K.AO)) rfl))
               (Aa (Dl rfl rfl (fun a' w' ph K=>(Ar Acw rfl (Dw (es (K.dq 0 49)) (es (K.dq 5 54))) (a91 aN b cT f g d e i j a5 a8 ZA _ (aB.mv (Ah K.AO)).all (z.mv (Ah K.AO)).all (aC.mv (Ah K.AO)).all (b5.mv (Ah K.AO)).all aJ dQ)).mono (fun _ _ h=>⟨h.2,h.1⟩)))
               (Aa (oD (fun K=>Dz (es (K.dq 6 55))))
               (Aa (oD (fun K=>Aq (es (K.dq 7 56))))
               (Aa (Bb rfl rfl rfl (fun _=>rfl) (fun a' w' ph K=>Ae (K.dq 8 57) o) (fun a' w' ph K=>Ai (es ((K.out 1 rfl).trans y)) (Ei _ _)))
               (Aa (Bb rfl rfl rfl (fun _=>rfl) (fun a' w' ph K=>Ae (K.dq 8 57) o) (fun a' w' ph K=>AG El (es (K.dq 9 58)) (u.ext K.AO) rfl))
               (Aa (Bb rfl rfl rfl (fun _=>rfl) (fun a' w' ph K=>Ae (K.dq 8 57) o) (fun a' w' ph K=>Aq (es ((K.out 4 rfl).trans aI))))
               (B8 _))))))))))))) ?_
           intro gF;rintro _ rfl _ rfl _ rfl _ rfl _ rfl _ rfl _ rfl _ rfl _ rfl _ rfl _ rfl _ rfl aQ;have gH:=dL.ext aQ;replace a:=AW a;obtain⟨i23,eG,eW,eX,eY,a⟩:=a;have bO:=(z.mv (Ah aQ));obtain⟨gZ,g0,_,eZ,⟨cU,cV,rfl,dR⟩,e0⟩:=Sl.C1 bO rfl eX;refine An rfl rfl (Ae rfl o) rfl (by decide) (fun st=>AX (k:=i23) Tryz.underlying23 FX (eR st) eZ (eR st) eW eY)<|An rfl rfl (Ae rfl o) rfl (by decide) (fun st=>Bg (v:=.slice cU eG.length cV) Eu (eR st) e0 rfl) ?_;replace a:=bind_some a;obtain⟨dS,e1,a⟩:=a;refine Di rfl rfl (Ae rfl o) rfl (by decide) (fun st=>Ar MP (eR st) (CR (eR st)) (Ry aN eG cU cV ZA _ dR.all dS e1)) ?_;rintro _ g1 ⟨bD,rfl⟩;have eH:=gH.ext bD;refine An rfl rfl (Ae rfl o) rfl (by decide) (fun st=>Dj (eR st) (eR st))<|wD (fun st=>BC (v:=.bool (dS==0)) (eR st) o (eR st))<|Ag<|Ab ?_;rcases Ak (dS==0) with bE|bE
           ·replace a:=Az a bE;refine AD rfl bE<|Af<|Ad<|wA (v:=I 1) rfl<|Ag<|Ab<|AI<|Bi<|Ax<|Ax ?_;obtain rfl:=oi a;refine B4 (fun st=>?_);exact .inl ⟨rfl,(1:Int),rfl,qz st,qd st,sp st 2 rfl,eH⟩
           ·replace a:=AA a bE;refine AE rfl bE<|AL<|Bs<|Ab<|Ad<|wM (v:=I x) aI ?_;replace a:=AK a;obtain⟨e2,a⟩:=a;refine wD (fun st=>B0 (eR st) (eR st) e2)<|wA (v:=I (x+1)) rfl<|Ag ?_;have d8:=((u.ext aQ).ext bD);have c5:=((aB.mv (Ah aQ)).mv (Ah bD));have c6:=(bO.mv (Ah bD));have c7:=((aC.mv (Ah aQ)).mv (Ah bD));refine Bw a3 (Nat.lt_succ_self _) (fun st=>?_);exact⟨(x+1),a,qz st,qd st,sp st 1 y,sp st 4 rfl,eH,d8,c5,c6,c7⟩
         ·replace a:=AA a bC;refine AE rfl bC<|Cd<|AB<|AB ?_;obtain rfl:=oi a;refine B4 (fun st=>?_);exact .inr ⟨rfl,(),rfl,qz st,qd st,sp st 1 y,dL,u,aB,z,aC⟩
       case eS=>
        rintro a9 gK gP (⟨rfl,aX,rfl,bF,bG,c8,bS⟩|⟨rfl,aX,rfl,bF,bG,c9,bS,dA,b6,b7,b8⟩)
        ·skip
         replace a:=Eg a;refine Cn (X:=X0) (N:=101) bF bG<|Bi<|Ax ?_;obtain rfl:=oi a;refine AJ rfl c8 ?_;exact⟨bS.Bc,rfl⟩
        ·skip
         replace a:=Eh a;refine Cn (X:=X0) (N:=101) bF bG<|Bn<|Ab<|Af<|Af<|Ad<|wA (v:=I 0) rfl<|Ag<|Ab<|AT ?_;replace a:=bind_some a;obtain⟨z28,aY,a⟩:=a;refine Cm (fun a9 m q=>(a9=.ret∧∃aZ,z28=.inl aZ∧m.tmps.size=101∧m.defers=(X0).ds∧sl m 2=I aZ∧Hp FN [] w [some b1] q)∨(a9=.exit 4∧∃aZ,z28=.inr aZ∧m.tmps.size=101∧m.defers=(X0).ds∧sl m 1=pt b1 0∧Hp FN [] w [some b1] q∧Bk q b1 26 (AU f g d e i j b).toArray∧Sl AM q (zf Z w [some b1]) f g b.AF∧Sl (BO (Ay .i64)) q (zf Z w [some b1]) d e b.BW∧Sl AQ q (zf Z w [some b1]) i j b.Bt)) ?e3 ?e4
         case e3=>
          clear a;refine Cl (fun(a3:Nat) (m:Act) (q:World)=>∃r,Ho aN b a3 r=some z28∧m.tmps.size=101∧m.defers=(X0).ds∧sl m 1=pt b1 0∧sl m 5=I r∧Hp FN [] w [some b1] q∧Bk q b1 26 (AU f g d e i j b).toArray∧Sl AM q (zf Z w [some b1]) f g b.AF∧Sl (BO (Ay .i64)) q (zf Z w [some b1]) d e b.BW∧Sl AQ q (zf Z w [some b1]) i j b.Bt) aN ?e5 ?e6
          case e5=>
           intro st;exact⟨(0:Int),aY,qz st,qd st,sp st 1 c9,sp st 5 rfl,bS,dA,b6,b7,b8⟩
          case e6=>
           rintro(_|a3) gQ gR ⟨r,aY,d9,eA,aA,aU,cK,aM,aK,aL,aD⟩
           ·exact absurd (show none=some _ from aY) (by simp)
           rw[Ho.eq_2] at aY;have a:=aY;clear aY;refine B7 (N:=101) d9 eA<|Af<|Af<|Ad<|wM (v:=I r) aU<|wD (fun st=>Ai (ee st aA) (K1 _ _))<|wD (fun st=>AG (v:=.slice i b.Bt.length j) LZ (eR st) aM rfl)<|wD (fun st=>Bu Tryz.underlying24 (eR st))<|wD (fun st=>CO (eR st) (eR st))<|Ag<|Ab ?_;rcases Ak (decide (r<(b.Bt.length:Int))) with bH|bH
           ·replace a:=Az a bH;refine AD rfl bH<|AL<|Ab<|Af<|AT<|Af<|Ad<|wD (fun st=>Ai (ee st aA) (K1 _ _))<|wD (fun st=>AG (v:=.slice i b.Bt.length j) LZ (eR st) aM rfl)<|wM (v:=I r) aU ?_;replace a:=AW a;obtain⟨i30,p,e7,e8,e9,a⟩:=a;obtain⟨g2,g3,_,fA,rfl,fB⟩:=Sl.elem aD (by decide) e8;refine wD (fun st=>BR (k:=i30) Tryz.underlying24 Ro (eR st) fA (eR st) e7 e9)<|wD (fun st=>Ew (l:=[.bool p.C0,I p.Number,I p.Bq,I p.Br]) Q1 (eR st) fB rfl rfl)<|wE (fun st=>DH (cs:= #[.bool false,I 0,I 0,I 0]) Abv rfl) ?_;rintro _ g4 ⟨g5,rfl,a0⟩;have bT:=cK.nb a0;have gI:=cK.Cr a0;refine Dk rfl rfl (fun st=>CS (n:=4) (l:=[.bool p.C0,I p.Number,I p.Bq,I p.Br]) (EZ:= #[.bool p.C0,I p.Number,I p.Bq,I p.Br]) (eR st) (eR st) Ro a0.bk rfl rfl (show 0+4≤4 by decide) (Cg rfl) rfl) ?_;rintro _ g6 aH;have dT:=bT.gr aH.gr 0 rfl;refine Ag<|Ab<|Af<|Ad<|wD (fun st=>Ai (ee st aA) (ES _ _)) ?_;have aV:=((aM.ext a0.gr).gr aH.gr (bT.nq 1 0));refine wD (fun st=>AG (v:=.slice f b.AF.length g) Fz (eR st) aV rfl)<|wD (fun st=>Bu Tryz.underlying22 (eR st))<|wA (v:=I (b.AF.length:Int)) rfl<|Ag<|Ab<|Af<|Af<|Ad<|wD (fun st=>Ai (eR st) (Qc _ _))<|wD (fun st=>AG (v:=.bool p.C0) OP (eR st) aH.bk rfl)<|Ag<|Ab ?_;rcases Ak (p.C0) with bI|bI
            ·replace a:=Az a bI;refine AD rfl bI<|Ad<|wD (fun st=>Ai (ee st aA) (Ei _ _))<|wD (fun st=>AG (v:=.slice d b.BW.length e) El (eR st) aV rfl)<|wD (fun st=>Bu Tryz.underlying23 (eR st))<|wA (v:=I (b.BW.length:Int)) rfl<|Ag<|Ab<|Af<|Ad<|wD (fun st=>Ai (eR st) (PK _ _))<|wD (fun st=>AG (v:=I p.Number) Bz (eR st) aH.bk rfl)<|wM (v:=I (b.BW.length:Int)) rfl ?_;replace a:=AK a;obtain⟨fC,a⟩:=a;refine wD (fun st=>Ex (eR st) (eR st) fC) ?_;replace a:=bind_some a;obtain⟨b9,fD,a⟩:=a;refine wE (fun st=>Ar Fk (eR st) (EN (eR st) (eR st) (eR st)) (IW aN p.Number 0 ((b.BW.length:Int)-1) ZA _ b9 fD)) ?_;rintro _ g7 ⟨bU,rfl⟩;have dU:=dT.ext bU;refine wD (fun st=>Dz (eR st))<|wM (v:=.bool !b9) rfl ?_;rcases Ak (!b9) with s|s
             ·replace a:=Az a s;have fW:b9=false:=by simpa using s
              refine Au (c:=true) rfl rfl (Ae rfl s) (by decide) rfl (by decide)<|Au (c:=true) rfl rfl (Ae rfl s) (by decide) rfl (by decide)<|Au (c:=true) rfl rfl (Ae rfl s) (by decide) rfl (by decide)<|Au (c:=true) rfl rfl (Ae rfl s) (by decide) rfl (by decide)<|wD (fun st=>AY (v:=.bool true) (eR st) s (eR st))<|Ag<|Ab<|AD rfl rfl<|Af<|Ad<|wA (v:=I 1) rfl<|Ag<|Ab<|AI<|Bi<|Ax<|Ax ?_;have fE:=dU.erase 0;obtain rfl:=oi a;refine B4 (fun st=>?_);exact .inl ⟨rfl,(1:Int),rfl,qz st,qd st,sp st 2 rfl,fE⟩
             ·replace a:=AA a s;have fX:b9=true:=by simpa using s
              refine An rfl rfl (Ae rfl s) rfl (by decide) (fun st=>Ai (eR st) (HK _ _)) ?_;have dB:=(aH.bk.ext bU);refine An rfl rfl (Ae rfl s) rfl (by decide) (fun st=>AR (l:=[I p.Bq,I p.Br]) Gk (eR st) dB rfl rfl) ?_;replace a:=bind_some a;obtain⟨cA,fF,a⟩:=a;refine Di rfl rfl (Ae rfl s) rfl (by decide) (fun st=>Ar XB (eR st) (EN (eR st) (eR st) (eR st)) (a90 aN (⟨p.Bq,p.Br⟩:AN) 0 100 ZA _ cA fF)) ?_;rintro _ g8 ⟨cL,rfl⟩;have dV:=dU.ext cL;refine An rfl rfl (Ae rfl s) rfl (by decide) (fun st=>Dz (eR st))<|wD (fun st=>BC (v:=.bool !cA) (eR st) s (eR st))<|Ag<|Ab ?_;rcases Ak (!cA) with aR|aR
              ·replace a:=Az a aR;have fY:cA=false:=by simpa using aR
               refine AD rfl aR<|Af<|Ad<|wA (v:=I 1) rfl<|Ag<|Ab<|AI<|Bi<|Ax<|Ax ?_;have fG:=dV.erase 0;obtain rfl:=oi a;refine B4 (fun st=>?_);exact .inl ⟨rfl,(1:Int),rfl,qz st,qd st,sp st 2 rfl,fG⟩
              ·replace a:=AA a aR;have fZ:cA=true:=by simpa using aR
               refine AE rfl aR<|AL<|Bs<|Ab<|Ad<|wM (v:=I r) aU ?_;replace a:=AK a;obtain⟨fH,a⟩:=a;refine wD (fun st=>B0 (eR st) (eR st) fH)<|wA (v:=I (r+1)) rfl<|Ag ?_;have fI:=dV.erase 0;have dW:=((aV.ext bU).ext cL);have ⟨cM,cN,cO⟩:=EW aK aL aD (mt (AP a0) (mt (bT.C4 aH.gr 0 rfl) (mt (Ah bU) (mt (Ah cL) (Bp 0)))));refine Bw a3 (Nat.lt_succ_self _) (fun st=>?_);exact⟨(r+1),a,qz st,qd st,sp st 1 aA,sp st 5 rfl,fI,dW,cM,cN,cO⟩
            ·replace a:=AA a bI;refine AE rfl bI<|AL<|Ab<|Af<|Ad<|wD (fun st=>Ai (eR st) (PK _ _))<|wD (fun st=>AG (v:=I p.Number) Bz (eR st) aH.bk rfl)<|wM (v:=I (b.AF.length:Int)) rfl ?_;replace a:=AK a;obtain⟨fJ,a⟩:=a;refine wD (fun st=>Ex (eR st) (eR st) fJ) ?_;replace a:=bind_some a;obtain⟨cB,fK,a⟩:=a;refine wE (fun st=>Ar Fk (eR st) (EN (eR st) (eR st) (eR st)) (IW aN p.Number 0 ((b.AF.length:Int)-1) ZA _ cB fK)) ?_;rintro _ g9 ⟨bV,rfl⟩;have dX:=dT.ext bV;refine wD (fun st=>Dz (eR st))<|wM (v:=.bool !cB) rfl ?_;rcases Ak (!cB) with t|t
             ·replace a:=Az a t;have f0:cB=false:=by simpa using t
              refine Au (c:=true) rfl rfl (Ae rfl t) (by decide) rfl (by decide)<|Au (c:=true) rfl rfl (Ae rfl t) (by decide) rfl (by decide)<|Au (c:=true) rfl rfl (Ae rfl t) (by decide) rfl (by decide)<|Au (c:=true) rfl rfl (Ae rfl t) (by decide) rfl (by decide)<|wD (fun st=>AY (v:=.bool true) (eR st) t (eR st))<|Ag<|Ab<|AD rfl rfl<|Af<|Ad<|wA (v:=I 1) rfl<|Ag<|Ab<|AI<|Bi<|Ax<|Ax ?_;have fL:=dX.erase 0;obtain rfl:=oi a;refine B4 (fun st=>?_);exact .inl ⟨rfl,(1:Int),rfl,qz st,qd st,sp st 2 rfl,fL⟩
             ·replace a:=AA a t;have f1:cB=true:=by simpa using t
              refine An rfl rfl (Ae rfl t) rfl (by decide) (fun st=>Ai (eR st) (HK _ _)) ?_;have dC:=(aH.bk.ext bV);refine An rfl rfl (Ae rfl t) rfl (by decide) (fun st=>AR (l:=[I p.Bq,I p.Br]) Gk (eR st) dC rfl rfl) ?_;replace a:=bind_some a;obtain⟨cC,fM,a⟩:=a;refine Di rfl rfl (Ae rfl t) rfl (by decide) (fun st=>Ar XB (eR st) (EN (eR st) (eR st) (eR st)) (a90 aN (⟨p.Bq,p.Br⟩:AN) 0 100 ZA _ cC fM)) ?_;rintro _ hA ⟨cP,rfl⟩;have dY:=dX.ext cP;refine An rfl rfl (Ae rfl t) rfl (by decide) (fun st=>Dz (eR st))<|wD (fun st=>BC (v:=.bool !cC) (eR st) t (eR st))<|Ag<|Ab ?_;rcases Ak (!cC) with aS|aS
              ·replace a:=Az a aS;have f2:cC=false:=by simpa using aS
               refine AD rfl aS<|Af<|Ad<|wA (v:=I 1) rfl<|Ag<|Ab<|AI<|Bi<|Ax<|Ax ?_;have fN:=dY.erase 0;obtain rfl:=oi a;refine B4 (fun st=>?_);exact .inl ⟨rfl,(1:Int),rfl,qz st,qd st,sp st 2 rfl,fN⟩
              ·replace a:=AA a aS;have f3:cC=true:=by simpa using aS
               refine AE rfl aS<|AL<|Bs<|Ab<|Ad<|wM (v:=I r) aU ?_;replace a:=AK a;obtain⟨fO,a⟩:=a;refine wD (fun st=>B0 (eR st) (eR st) fO)<|wA (v:=I (r+1)) rfl<|Ag ?_;have fP:=dY.erase 0;have dZ:=((aV.ext bV).ext cP);have ⟨cQ,cR,cS⟩:=EW aK aL aD (mt (AP a0) (mt (bT.C4 aH.gr 0 rfl) (mt (Ah bV) (mt (Ah cP) (Bp 0)))));refine Bw a3 (Nat.lt_succ_self _) (fun st=>?_);exact⟨(r+1),a,qz st,qd st,sp st 1 aA,sp st 5 rfl,fP,dZ,cQ,cR,cS⟩
           ·replace a:=AA a bH;refine AE rfl bH<|Cd<|AB<|AB ?_;obtain rfl:=oi a;refine B4 (fun st=>?_);exact .inr ⟨rfl,(),rfl,qz st,qd st,sp st 1 aA,cK,aM,aK,aL,aD⟩
         case e4=>
          rintro a9 gL gS (⟨rfl,aZ,rfl,bJ,bK,dD,bW⟩|⟨rfl,aZ,rfl,bJ,bK,dE,bW,dF,cD,cE,cF⟩)
          ·skip
           replace a:=Eg a;refine Cn (X:=X0) (N:=101) bJ bK<|Bi<|Ax ?_;obtain rfl:=oi a;refine AJ rfl dD ?_;exact⟨bW.Bc,rfl⟩
          ·skip
           replace a:=Eh a;refine Cn (X:=X0) (N:=101) bJ bK<|Bn<|Ab<|Af<|Af<|Ad<|wD (fun st=>AR (l:=(AU f g d e i j b)) EP (ee st dE) dF rfl rfl) ?_;replace a:=bind_some a;obtain⟨eI,fQ,a⟩:=a;refine wE (fun st=>Ar Q2 (eR st) (CR (eR st)) (a59 aN b f g d e i j ZA _ cD.all cE.all cF.all eI fQ)) ?_;rintro _ hB ⟨fR,rfl⟩;have d0:=bW.ext fR;refine wD (fun st=>HJ (eR st) (eR st))<|Ag<|Ab ?_;rcases Ak (decide ((2000:Int)<eI)) with bL|bL
           ·replace a:=Az a bL;refine AD rfl bL<|Af<|Ad<|wA (v:=I 3) rfl<|Ag<|Ab<|AI<|Ax ?_;obtain rfl:=oi a;refine AJ rfl rfl ?_;exact⟨d0.Bc,rfl⟩
           ·replace a:=AA a bL;refine AE rfl bL<|AL<|Ab<|Af<|Ad<|wA (v:=I 0) rfl<|Ag<|Ab<|AI ?_;obtain rfl:=oi a;refine AJ rfl rfl ?_;exact⟨d0.Bc,rfl⟩
set_option maxHeartbeats 4000000 in
theorem a116 aR b aE aF aA aB aG aH p q t u x y(Z:Nat→Prop) w(fW:Sl AM w Z aE aF b.Al)(fX:Sl (BO (Ay .i64)) w Z aA aB b.Ac)(fY:Sl AQ w Z aG aH b.Ap)(fZ:Sl Bm w Z p q b.AH)(f0:Sl Bl w Z t u b.Aw)(f1:Sl BA w Z x y b.Ao) iD(a:F6 aR b=some iD):
 Cw Tryz.prog 116 #[.agg (Am aE aF aA aB aG aH p q t u x y b).toArray] w (fun v w'=>Ext w w'∧(Ev .i64).R w' (zf Z w []) v iD):=by
 unfold F6 at a;refine AS (N:=149) Tryz.func116 rfl rfl (by simp) ?_;intro i0 ha i1;have gC:=sA 0 ha;clear ha;have f8:Hp FN [] w [] w:=Hp.start (Cc.none w);have ⟨eI,eJ,eK,eM,eN,eO⟩:=Cz fW fX fY fZ f0 f1 (Bh (Z:=Z) (L:=[]) w);refine Af<|Ad<|wE (fun st=>Ci (v:=.agg (Am aE aF aA aB aG aH p q t u x y b).toArray) (cs:=(Am aE aF aA aB aG aH p q t u x y b).toArray) (ee st gC) rfl) ?_;rintro _ w1 ⟨b1,rfl,cI⟩;have iE:=f8.nb cI;have iN:=f8.Cr cI;refine wA (v:=I 0) rfl<|Ag<|Ab<|Af<|Af<|Ad<|wD (fun st=>Ai (eR st) (Ee _ _))<|wD (fun st=>AR (l:=[.slice aE b.Al.length aF,.slice aA b.Ac.length aB,.slice aG b.Ap.length aH]) EP (eR st) cI.bk rfl rfl) ?_;have ⟨cJ,cK,cL⟩:=EW eI eJ eK (AP cI);replace a:=bind_some a;obtain⟨eP,iF,a⟩:=a;refine wE (fun st=>Ar Acx (eR st) (CR (eR st)) (a24 aR (⟨b.Al,b.Ac,b.Ap⟩:AV) aE aF aA aB aG aH ZA _ cJ.all cK.all cL.all eP iF)) ?_;rintro _ jC ⟨d5,rfl⟩;have cR:=iE.ext d5;refine wA (v:=I eP) rfl<|Ag<|Ab<|Af<|Ad<|wM (v:=I eP) rfl<|wD (fun st=>DW (eR st) (eR st))<|Ag<|Ab ?_;rcases Ak (eP !=0) with cS|cS
 ·replace a:=Az a cS;refine AD rfl cS<|Af<|Ad<|wM (v:=I eP) rfl<|wA (v:=I eP) rfl<|Ag<|Ab<|AI<|Ax ?_;obtain rfl:=oi a;refine AJ rfl rfl ?_;exact⟨cR.Bc,rfl⟩
 ·replace a:=AA a cS;refine AE rfl cS<|AL<|Ab<|Af<|Af<|Ad<|wD (fun st=>Ai (eR st) (GQ _ _)) ?_;have bF:=(cI.bk.ext d5);refine wD (fun st=>AG (v:=.slice p b.AH.length q) Hw (eR st) bF rfl)<|wD (fun st=>Bu Tryz.underlying63 (eR st))<|wD (fun st=>HJ (eR st) (eR st))<|wM (v:=.bool (decide ((3:Int)<(b.AH.length:Int)))) rfl ?_;rcases Ak (decide ((3:Int)<(b.AH.length:Int))) with aU|aU
  ·replace a:=Az a aU;refine Au (c:=true) rfl rfl (Ae rfl aU) (by decide) rfl (by decide)<|Au (c:=true) rfl rfl (Ae rfl aU) (by decide) rfl (by decide)<|Au (c:=true) rfl rfl (Ae rfl aU) (by decide) rfl (by decide)<|Au (c:=true) rfl rfl (Ae rfl aU) (by decide) rfl (by decide)<|wD (fun st=>AY (v:=.bool true) (eR st) aU (eR st))<|wM (v:=.bool true) rfl<|Au rfl rfl rfl (by decide) rfl (by decide)<|Au rfl rfl rfl (by decide) rfl (by decide)<|Au rfl rfl rfl (by decide) rfl (by decide)<|Au rfl rfl rfl (by decide) rfl (by decide)<|wD (fun st=>AY (v:=.bool true) (eR st) rfl (eR st))<|Ag<|Ab<|AD rfl rfl<|Af<|Ad<|wA (v:=I 3) rfl<|Ag<|Ab<|AI<|Ax ?_;obtain rfl:=oi a;refine AJ rfl rfl ?_;exact⟨cR.Bc,rfl⟩
  ·replace a:=AA a aU;refine An rfl rfl (Ae rfl aU) rfl (by decide) (fun st=>Ai (eR st) (IV _ _))<|An rfl rfl (Ae rfl aU) rfl (by decide) (fun st=>AG (v:=.slice t b.Aw.length u) JU (eR st) bF rfl)<|An rfl rfl (Ae rfl aU) rfl (by decide) (fun st=>Bu Tryz.underlying64 (eR st))<|An rfl rfl (Ae rfl aU) rfl (by decide) (fun st=>HJ (eR st) (eR st))<|wD (fun st=>BC (v:=.bool (decide ((3:Int)<(b.Aw.length:Int)))) (eR st) aU (eR st))<|wM (v:=.bool (decide ((3:Int)<(b.Aw.length:Int)))) rfl ?_;rcases Ak (decide ((3:Int)<(b.Aw.length:Int))) with aV|aV
   ·replace a:=Az a aV;refine Au (c:=true) rfl rfl (Ae rfl aV) (by decide) rfl (by decide)<|Au (c:=true) rfl rfl (Ae rfl aV) (by decide) rfl (by decide)<|Au (c:=true) rfl rfl (Ae rfl aV) (by decide) rfl (by decide)<|Au (c:=true) rfl rfl (Ae rfl aV) (by decide) rfl (by decide)<|wD (fun st=>AY (v:=.bool true) (eR st) aV (eR st))<|Ag<|Ab<|AD rfl rfl<|Af<|Ad<|wA (v:=I 3) rfl<|Ag<|Ab<|AI<|Ax ?_;obtain rfl:=oi a;refine AJ rfl rfl ?_;exact⟨cR.Bc,rfl⟩
   ·replace a:=AA a aV;refine An rfl rfl (Ae rfl aV) rfl (by decide) (fun st=>Ai (eR st) (Fx _ _))<|An rfl rfl (Ae rfl aV) rfl (by decide) (fun st=>AG (v:=.slice x b.Ao.length y) GF (eR st) bF rfl)<|An rfl rfl (Ae rfl aV) rfl (by decide) (fun st=>Bu Tryz.underlying65 (eR st))<|An rfl rfl (Ae rfl aV) rfl (by decide) (fun st=>HJ (eR st) (eR st))<|wD (fun st=>BC (v:=.bool (decide ((5:Int)<(b.Ao.length:Int)))) (eR st) aV (eR st))<|Ag<|Ab ?_;rcases Ak (decide ((5:Int)<(b.Ao.length:Int))) with cT|cT
    ·replace a:=Az a cT;refine AD rfl cT<|Af<|Ad<|wA (v:=I 3) rfl<|Ag<|Ab<|AI<|Ax ?_;obtain rfl:=oi a;refine AJ rfl rfl ?_;exact⟨cR.Bc,rfl⟩
    ·replace a:=AA a cT;refine AE rfl cT<|AL<|Ab<|Af<|Af<|Ad<|wD (fun st=>Ai (eR st) (QH _ _))<|wD (fun st=>AG (v:=I b.Flat) Bz (eR st) bF rfl) ?_;replace a:=bind_some a;obtain⟨e4,iG,a⟩:=a;refine wE (fun st=>Ar Fk (eR st) (EN (eR st) (eR st) (eR st)) (IW aR b.Flat 0 100 ZA _ e4 iG)) ?_;rintro _ jD ⟨d6,rfl⟩;have e5:=cR.ext d6;refine wD (fun st=>Dz (eR st))<|wM (v:=.bool !e4) rfl ?_;rcases Ak (!e4) with aJ|aJ
     ·replace a:=Az a aJ;have hV:e4=false:=by simpa using aJ
      refine Au (c:=true) rfl rfl (Ae rfl aJ) (by decide) rfl (by decide)<|Au (c:=true) rfl rfl (Ae rfl aJ) (by decide) rfl (by decide)<|Au (c:=true) rfl rfl (Ae rfl aJ) (by decide) rfl (by decide)<|Au (c:=true) rfl rfl (Ae rfl aJ) (by decide) rfl (by decide)<|wD (fun st=>AY (v:=.bool true) (eR st) aJ (eR st))<|Ag<|Ab<|AD rfl rfl<|Af<|Ad<|wA (v:=I 1) rfl<|Ag<|Ab<|AI<|Ax ?_;obtain rfl:=oi a;refine AJ rfl rfl ?_;exact⟨e5.Bc,rfl⟩
     ·replace a:=AA a aJ;have hW:e4=true:=by simpa using aJ
      refine An rfl rfl (Ae rfl aJ) rfl (by decide) (fun st=>Ai (eR st) (GQ _ _)) ?_;have d7:=(bF.ext d6);refine An rfl rfl (Ae rfl aJ) rfl (by decide) (fun st=>AG (v:=.slice p b.AH.length q) Hw (eR st) d7 rfl)<|An rfl rfl (Ae rfl aJ) rfl (by decide) (fun st=>Bu Tryz.underlying63 (eR st))<|An rfl rfl (Ae rfl aJ) rfl (by decide) (fun st=>Dj (eR st) (eR st))<|wD (fun st=>BC (v:=.bool ((b.AH.length:Int)==0)) (eR st) aJ (eR st))<|Ag<|Ab ?_;rcases Ak ((b.AH.length:Int)==0) with bW|bW
      ·replace a:=Az a bW;refine AD rfl bW<|Af<|Ad<|wA (v:=I 1) rfl<|Ag<|Ab<|AI<|Ax ?_;obtain rfl:=oi a;refine AJ rfl rfl ?_;exact⟨e5.Bc,rfl⟩
      ·replace a:=AA a bW;refine AE rfl bW<|AL<|Ab<|Af<|Af<|Ad<|wA (v:=I 0) rfl<|Ag<|Ab<|AT ?_;replace a:=bind_some a;obtain⟨e6,bG,a⟩:=a;refine Cm (fun bX i o=>(bX=.ret∧∃bH,e6=.inl bH∧i.tmps.size=149∧i.defers=(X0).ds∧sl i 2=I bH∧Hp FN [] w [some b1] o)∨(bX=.exit 0∧∃bH,e6=.inr bH∧i.tmps.size=149∧i.defers=(X0).ds∧sl i 1=pt b1 0∧Hp FN [] w [some b1] o∧Bk o b1 67 (Am aE aF aA aB aG aH p q t u x y b).toArray∧Sl AM o (zf Z w [some b1]) aE aF b.Al∧Sl (BO (Ay .i64)) o (zf Z w [some b1]) aA aB b.Ac∧Sl AQ o (zf Z w [some b1]) aG aH b.Ap∧Sl Bm o (zf Z w [some b1]) p q b.AH∧Sl Bl o (zf Z w [some b1]) t u b.Aw∧Sl BA o (zf Z w [some b1]) x y b.Ao)) ?gD ?gE
       case gD=>
        clear a;refine Cl (fun(bU:Nat) (i:Act) (o:World)=>∃e,JD aR b bU e=some e6∧i.tmps.size=149∧i.defers=(X0).ds∧sl i 1=pt b1 0∧sl i 4=I e∧Hp FN [] w [some b1] o∧Bk o b1 67 (Am aE aF aA aB aG aH p q t u x y b).toArray∧Sl AM o (zf Z w [some b1]) aE aF b.Al∧Sl (BO (Ay .i64)) o (zf Z w [some b1]) aA aB b.Ac∧Sl AQ o (zf Z w [some b1]) aG aH b.Ap∧Sl Bm o (zf Z w [some b1]) p q b.AH∧Sl Bl o (zf Z w [some b1]) t u b.Aw∧Sl BA o (zf Z w [some b1]) x y b.Ao) aR ?gF ?gG
        case gF=>
         intro st;have ⟨eQ,eS,eT⟩:=EW cJ cK cL (mt (Ah d5) (Ah d6));have ⟨eU,eV,eW⟩:=EW eM eN eO (mt (AP cI) (mt (Ah d5) (Ah d6)));exact⟨(0:Int),bG,qz st,qd st,sp st 1 rfl,sp st 4 rfl,e5,d7,eQ,eS,eT,eU,eV,eW⟩
        case gG=>
         rintro(_|bU) iR iS ⟨e,bG,f2,f3,aP,aI,e7,aW,aZ,a0,a2,aT,a3,a4⟩
         ·exact absurd (show none=some _ from bG) (by simp)
         rw[JD.eq_2] at bG;have a:=bG;clear bG;refine B7 (N:=149) f2 f3<|Af<|Af<|Ad<|wM (v:=I e) aI<|wD (fun st=>Ai (ee st aP) (GQ _ _))<|wD (fun st=>AG (v:=.slice p b.AH.length q) Hw (eR st) aW rfl)<|wD (fun st=>Bu Tryz.underlying63 (eR st))<|wD (fun st=>CO (eR st) (eR st))<|Ag<|Ab ?_;rcases Ak (decide (e<(b.AH.length:Int))) with bY|bY
         ·replace a:=Az a bY;refine AD rfl bY<|AL<|Ab<|Af<|AT<|Af<|Ad<|wD (fun st=>Ai (ee st aP) (GQ _ _))<|wD (fun st=>AG (v:=.slice p b.AH.length q) Hw (eR st) aW rfl)<|wM (v:=I e) aI ?_;replace a:=AW a;obtain⟨i16,g,gH,gI,gJ,a⟩:=a;obtain⟨i2,i3,_,gK,rfl,gL⟩:=Sl.elem aT (by decide) gI;refine wD (fun st=>BR (k:=i16) Tryz.underlying63 J7 (eR st) gK (eR st) gH gJ)<|wD (fun st=>Ew (l:=[I g.BU,I g.DT]) AfS (eR st) gL rfl rfl)<|wE (fun st=>DH (cs:= #[I 0,I 0]) Adx rfl) ?_;rintro _ i4 ⟨aY,rfl,aX⟩;have bZ:=e7.nb aX;have iH:=e7.Cr aX;refine Dk rfl rfl (fun st=>CS (n:=2) (l:=[I g.BU,I g.DT]) (EZ:= #[I g.BU,I g.DT]) (eR st) (eR st) J7 aX.bk rfl rfl (show 0+2≤2 by decide) (Cg rfl) rfl) ?_;rintro _ i5 z;have cU:=bZ.gr z.gr 0 rfl;refine Ag<|Ab<|Af ?_;replace a:=bind_some a;obtain⟨aC,b4,a⟩:=a;rcases Ak (!aC) with f|f
          ·replace a:=Az a f;have hX:aC=false:=by simpa using f
           refine B9 34 [Kc (pt aY 0),Kc (I g.BU),Kc (.bool aC),Kc (.bool !aC),Kc (.bool !aC),Kc undef,Kc undef,Kc undef,Kc undef,Kc (.bool true),Kc (.bool true),Kc undef,Kc undef,Kc undef,Kc undef,Kc undef,Kc undef,Kc undef,Kc undef,Kc undef,Kc undef,Kc undef,Kc undef,Kc undef,Kc undef,Kc undef,Kc undef,Kc undef,Kc undef,Kc undef,Kc undef,Kc undef,Kc undef,Kc undef] mixed rfl rfl
               (Aa (oD (fun K=>Ai (es ((K.out 5 rfl).trans rfl)) (RS _ _)))
               (Aa (oD (fun K=>AG Bz (es (K.dq 0 52)) (z.bk.ext K.AO) rfl))
               (Aa (Dl rfl rfl (fun a' w' ph K=>(Ar Fk rfl (EN (es (K.dq 1 53)) (ec (v:=I 0)) (ec (v:=I 100))) (IW aR g.BU 0 100 ZA _ aC b4)).mono (fun _ _ h=>⟨h.2,h.1⟩)))
               (Aa (oD (fun K=>Dz (es (K.dq 2 54))))
               (Aa (oD (fun K=>Aq (es (K.dq 3 55))))
               (Aa (oS (c:=true) (fun a' w' ph K=>Ae (K.dq 4 56) f))
               (Aa (oS (c:=true) (fun a' w' ph K=>Ae (K.dq 4 56) f))
               (Aa (oS (c:=true) (fun a' w' ph K=>Ae (K.dq 4 56) f))
               (Aa (oS (c:=true) (fun a' w' ph K=>Ae (K.dq 4 56) f))
               (Aa (oD (fun K=>AY (es (K.dq 4 56)) f (ec (v:=.bool true))))
               (Aa (oD (fun K=>Aq (es (K.dq 9 61))))
               (Aa (oS (c:=true) (fun a' w' ph K=>(show sl a' 62=.bool true from K.dq 10 62)))
               (Aa (oS (c:=true) (fun a' w' ph K=>(show sl a' 62=.bool true from K.dq 10 62)))
               (Aa (oS (c:=true) (fun a' w' ph K=>(show sl a' 62=.bool true from K.dq 10 62)))
               (Aa (DA rfl rfl rfl (fun a' w' ph K=>K.dq 13 65) (fun _=>rfl))
               (Aa (DA rfl rfl rfl (fun a' w' ph K=>K.dq 13 65) (fun _=>rfl))
               (Aa (DA rfl rfl rfl (fun a' w' ph K=>K.dq 13 65) (fun _=>rfl))
               (Aa (DA rfl rfl rfl (fun a' w' ph K=>K.dq 13 65) (fun _=>rfl))
               (Aa (DA rfl rfl rfl (fun a' w' ph K=>K.dq 13 65) (fun _=>rfl))
               (Aa (DA rfl rfl rfl (fun a' w' ph K=>K.dq 13 65) (fun _=>rfl))
               (Aa (DA rfl rfl rfl (fun a' w' ph K=>K.dq 13 65) (fun _=>rfl))
               (Aa (DA rfl rfl rfl (fun a' w' ph K=>K.dq 13 65) (fun _=>rfl))
               (Aa (DA rfl rfl rfl (fun a' w' ph K=>K.dq 13 65) (fun _=>rfl))
               (Aa (DA rfl rfl rfl (fun a' w' ph K=>K.dq 13 65) (fun _=>rfl))
               (Aa (DA rfl rfl rfl (fun a' w' ph K=>K.dq 13 65) (fun _=>rfl))
               (Aa (DA rfl rfl rfl (fun a' w' ph K=>K.dq 24 76) (fun _=>rfl))
               (Aa (DA rfl rfl rfl (fun a' w' ph K=>K.dq 24 76) (fun _=>rfl))
               (Aa (DA rfl rfl rfl (fun a' w' ph K=>K.dq 24 76) (fun _=>rfl))
               (Aa (DA rfl rfl rfl (fun a' w' ph K=>K.dq 24 76) (fun _=>rfl))
               (Aa (DA rfl rfl rfl (fun a' w' ph K=>K.dq 24 76) (fun _=>rfl))
               (Aa (DA rfl rfl rfl (fun a' w' ph K=>K.dq 24 76) (fun _=>rfl))
               (Aa (DA rfl rfl rfl (fun a' w' ph K=>K.dq 24 76) (fun _=>rfl))
               (Aa (DA rfl rfl rfl (fun a' w' ph K=>K.dq 24 76) (fun _=>rfl))
               (Aa (DA rfl rfl rfl (fun a' w' ph K=>K.dq 24 76) (fun _=>rfl))
               (B8 _))))))))))))))))))))))))))))))))))) ?_
           intro d8;rintro _ rfl _ rfl _ rfl _ rfl _ rfl _ rfl _ rfl _ rfl _ rfl _ rfl _ rfl _ rfl _ rfl _ rfl _ rfl _ rfl _ rfl _ rfl _ rfl _ rfl _ rfl _ rfl _ rfl _ rfl _ rfl _ rfl _ rfl _ rfl _ rfl _ rfl _ rfl _ rfl _ rfl _ rfl aK;have iI:=cU.ext aK;refine FQ rfl rfl rfl rfl (by decide)<|FQ rfl rfl rfl rfl (by decide)<|Au rfl rfl rfl (by decide) rfl (by decide)<|wD (fun st=>AY (v:=.bool true) (eR st) rfl (eR st))<|Ag<|Ab<|AD rfl rfl<|Af<|Ad<|wA (v:=I 1) rfl<|Ag<|Ab<|AI<|Bi<|Ax<|Ax ?_;have iJ:=iI.erase 0;obtain rfl:=oi a;refine B4 (fun st=>?_);exact .inl ⟨rfl,(1:Int),rfl,qz st,qd st,sp st 2 rfl,iJ⟩
          ·replace a:=AA a f;have hY:aC=true:=by simpa using f
           replace a:=bind_some a;obtain⟨aD,cM,a⟩:=a;rcases Ak (!aD) with j|j
           ·replace a:=Az a j;have hZ:aD=false:=by simpa using j
            refine B9 34 [Kc (pt aY 0),Kc (I g.BU),Kc (.bool aC),Kc (.bool !aC),Kc (.bool !aC),Kc (pt aY 1),Kc (I g.DT),Kc (.bool aD),Kc (.bool !aD),Kc (.bool !aD),Kc (.bool !aD),Kc undef,Kc undef,Kc undef,Kc undef,Kc undef,Kc undef,Kc undef,Kc undef,Kc undef,Kc undef,Kc undef,Kc undef,Kc undef,Kc undef,Kc undef,Kc undef,Kc undef,Kc undef,Kc undef,Kc undef,Kc undef,Kc undef,Kc undef] mixed rfl rfl
                (Aa (oD (fun K=>Ai (es ((K.out 5 rfl).trans rfl)) (RS _ _)))
                (Aa (oD (fun K=>AG Bz (es (K.dq 0 52)) (z.bk.ext K.AO) rfl))
                (Aa (Dl rfl rfl (fun a' w' ph K=>(Ar Fk rfl (EN (es (K.dq 1 53)) (ec (v:=I 0)) (ec (v:=I 100))) (IW aR g.BU 0 100 ZA _ aC b4)).mono (fun _ _ h=>⟨h.2,h.1⟩)))
                (Aa (oD (fun K=>Dz (es (K.dq 2 54))))
                (Aa (oD (fun K=>Aq (es (K.dq 3 55))))
                (Aa (Bb rfl rfl rfl (fun _=>rfl) (fun a' w' ph K=>Ae (K.dq 4 56) f) (fun a' w' ph K=>Ai (es ((K.out 5 rfl).trans rfl)) (TD _ _)))
                (Aa (Bb rfl rfl rfl (fun _=>rfl) (fun a' w' ph K=>Ae (K.dq 4 56) f) (fun a' w' ph K=>AG Bz (es (K.dq 5 57)) (z.bk.ext K.AO) rfl))
                (Aa (IT rfl rfl rfl (fun a' w' ph K=>Ae (K.dq 4 56) f) (fun a' w' ph K=>(Ar Fk rfl (EN (es (K.dq 6 58)) (ec (v:=I 0)) (ec (v:=I 100))) (IW aR g.DT 0 100 ZA _ aD cM)).mono (fun _ _ h=>⟨h.2,h.1⟩)))
                (Aa (Bb rfl rfl rfl (fun _=>rfl) (fun a' w' ph K=>Ae (K.dq 4 56) f) (fun a' w' ph K=>Dz (es (K.dq 7 59))))
                (Aa (oD (fun K=>BC (es (K.dq 4 56)) f (es (K.dq 8 60))))
                (Aa (oD (fun K=>Aq (es (K.dq 9 61))))
                (Aa (oS (c:=true) (fun a' w' ph K=>Ae (K.dq 10 62) j))
                (Aa (oS (c:=true) (fun a' w' ph K=>Ae (K.dq 10 62) j))
                (Aa (oS (c:=true) (fun a' w' ph K=>Ae (K.dq 10 62) j))
                (Aa (DA rfl rfl rfl (fun a' w' ph K=>K.dq 13 65) (fun _=>rfl))
                (Aa (DA rfl rfl rfl (fun a' w' ph K=>K.dq 13 65) (fun _=>rfl))
                (Aa (DA rfl rfl rfl (fun a' w' ph K=>K.dq 13 65) (fun _=>rfl))
                (Aa (DA rfl rfl rfl (fun a' w' ph K=>K.dq 13 65) (fun _=>rfl))
                (Aa (DA rfl rfl rfl (fun a' w' ph K=>K.dq 13 65) (fun _=>rfl))
                (Aa (DA rfl rfl rfl (fun a' w' ph K=>K.dq 13 65) (fun _=>rfl))
                (Aa (DA rfl rfl rfl (fun a' w' ph K=>K.dq 13 65) (fun _=>rfl))
                (Aa (DA rfl rfl rfl (fun a' w' ph K=>K.dq 13 65) (fun _=>rfl))
                (Aa (DA rfl rfl rfl (fun a' w' ph K=>K.dq 13 65) (fun _=>rfl))
                (Aa (DA rfl rfl rfl (fun a' w' ph K=>K.dq 13 65) (fun _=>rfl))
                (Aa (DA rfl rfl rfl (fun a' w' ph K=>K.dq 13 65) (fun _=>rfl))
                (Aa (DA rfl rfl rfl (fun a' w' ph K=>K.dq 24 76) (fun _=>rfl))
                (Aa (DA rfl rfl rfl (fun a' w' ph K=>K.dq 24 76) (fun _=>rfl))
                (Aa (DA rfl rfl rfl (fun a' w' ph K=>K.dq 24 76) (fun _=>rfl))
                (Aa (DA rfl rfl rfl (fun a' w' ph K=>K.dq 24 76) (fun _=>rfl))
                (Aa (DA rfl rfl rfl (fun a' w' ph K=>K.dq 24 76) (fun _=>rfl))
                (Aa (DA rfl rfl rfl (fun a' w' ph K=>K.dq 24 76) (fun _=>rfl))
                (Aa (DA rfl rfl rfl (fun a' w' ph K=>K.dq 24 76) (fun _=>rfl))
                (Aa (DA rfl rfl rfl (fun a' w' ph K=>K.dq 24 76) (fun _=>rfl))
                (Aa (DA rfl rfl rfl (fun a' w' ph K=>K.dq 24 76) (fun _=>rfl))
                (B8 _))))))))))))))))))))))))))))))))))) ?_
            intro d8;rintro _ rfl _ rfl _ rfl _ rfl _ rfl _ rfl _ rfl _ rfl _ rfl _ rfl _ rfl _ rfl _ rfl _ rfl _ rfl _ rfl _ rfl _ rfl _ rfl _ rfl _ rfl _ rfl _ rfl _ rfl _ rfl _ rfl _ rfl _ rfl _ rfl _ rfl _ rfl _ rfl _ rfl _ rfl aK;have iK:=cU.ext aK;refine FQ rfl rfl rfl rfl (by decide)<|FQ rfl rfl rfl rfl (by decide)<|Au (c:=true) rfl rfl (Ae rfl j) (by decide) rfl (by decide)<|wD (fun st=>AY (v:=.bool true) (eR st) j (eR st))<|Ag<|Ab<|AD rfl rfl<|Af<|Ad<|wA (v:=I 1) rfl<|Ag<|Ab<|AI<|Bi<|Ax<|Ax ?_;have gM:=iK.erase 0;obtain rfl:=oi a;refine B4 (fun st=>?_);exact .inl ⟨rfl,(1:Int),rfl,qz st,qd st,sp st 2 rfl,gM⟩
           ·replace a:=AA a j;have h3:aD=true:=by simpa using j
            rcases Ak (decide ((0:Int)<e)) with d|d
            ·replace a:=Az a d;have bV:=((aW.ext aX.gr).gr z.gr (bZ.nq 1 0));replace a:=AK a;obtain⟨e8,a⟩:=a;replace a:=AW a;obtain⟨i30,b5,e9,gN,fA,a⟩:=a;have bI:=((aT.mv (AP aX)).mv (bZ.C4 z.gr 0 rfl));obtain⟨d9,eA,_,fB,rfl,fC⟩:=Sl.elem bI (by decide) gN;rcases Ak (decide (b5.BU≤g.BU)) with m|m
             ·replace a:=Az a m;refine B9 34 [Kc (pt aY 0),Kc (I g.BU),Kc (.bool aC),Kc (.bool !aC),Kc (.bool !aC),Kc (pt aY 1),Kc (I g.DT),Kc (.bool aD),Kc (.bool !aD),Kc (.bool !aD),Kc (.bool !aD),Kc (I e),Kc (.bool (decide ((0:Int)<e))),Kc (.bool (decide ((0:Int)<e))),Kc (pt aY 0),Kc (I g.BU),Kc (pt b1 4),Kc (.slice p b.AH.length q),Kc (I e),Kc (I (e-1)),Kc (pt d9 (eA+i30*2)),Kc (pt d9 (eA+i30*2)),Kc (I b5.BU),Kc (.bool (decide (b5.BU≤g.BU))),Kc (.bool (decide (b5.BU≤g.BU))),Kc undef,Kc undef,Kc undef,Kc undef,Kc undef,Kc undef,Kc undef,Kc undef,Kc undef] mixed rfl rfl
                  (Aa (oD (fun K=>Ai (es ((K.out 5 rfl).trans rfl)) (RS _ _)))
                  (Aa (oD (fun K=>AG Bz (es (K.dq 0 52)) (z.bk.ext K.AO) rfl))
                  (Aa (Dl rfl rfl (fun a' w' ph K=>(Ar Fk rfl (EN (es (K.dq 1 53)) (ec (v:=I 0)) (ec (v:=I 100))) (IW aR g.BU 0 100 ZA _ aC b4)).mono (fun _ _ h=>⟨h.2,h.1⟩)))
                  (Aa (oD (fun K=>Dz (es (K.dq 2 54))))
                  (Aa (oD (fun K=>Aq (es (K.dq 3 55))))
                  (Aa (Bb rfl rfl rfl (fun _=>rfl) (fun a' w' ph K=>Ae (K.dq 4 56) f) (fun a' w' ph K=>Ai (es ((K.out 5 rfl).trans rfl)) (TD _ _)))
                  (Aa (Bb rfl rfl rfl (fun _=>rfl) (fun a' w' ph K=>Ae (K.dq 4 56) f) (fun a' w' ph K=>AG Bz (es (K.dq 5 57)) (z.bk.ext K.AO) rfl))
                  (Aa (IT rfl rfl rfl (fun a' w' ph K=>Ae (K.dq 4 56) f) (fun a' w' ph K=>(Ar Fk rfl (EN (es (K.dq 6 58)) (ec (v:=I 0)) (ec (v:=I 100))) (IW aR g.DT 0 100 ZA _ aD cM)).mono (fun _ _ h=>⟨h.2,h.1⟩)))
                  (Aa (Bb rfl rfl rfl (fun _=>rfl) (fun a' w' ph K=>Ae (K.dq 4 56) f) (fun a' w' ph K=>Dz (es (K.dq 7 59))))
                  (Aa (oD (fun K=>BC (es (K.dq 4 56)) f (es (K.dq 8 60))))
                  (Aa (oD (fun K=>Aq (es (K.dq 9 61))))
                  (Aa (Bb rfl rfl rfl (fun _=>rfl) (fun a' w' ph K=>Ae (K.dq 10 62) j) (fun a' w' ph K=>Aq (es ((K.out 4 rfl).trans aI))))
                  (Aa (Bb rfl rfl rfl (fun _=>rfl) (fun a' w' ph K=>Ae (K.dq 10 62) j) (fun a' w' ph K=>HJ (es (K.dq 11 63)) (ec (v:=I 0))))
                  (Aa (Bb rfl rfl rfl (fun _=>rfl) (fun a' w' ph K=>Ae (K.dq 10 62) j) (fun a' w' ph K=>Aq (es (K.dq 12 64))))
                  (Aa (Bb rfl rfl rfl (fun _=>rfl) (fun a' w' ph K=>Ae (K.dq 13 65) d) (fun a' w' ph K=>Ai (es ((K.out 5 rfl).trans rfl)) (RS _ _)))
                  (Aa (Bb rfl rfl rfl (fun _=>rfl) (fun a' w' ph K=>Ae (K.dq 13 65) d) (fun a' w' ph K=>AG Bz (es (K.dq 14 66)) (z.bk.ext K.AO) rfl))
                  (Aa (Bb rfl rfl rfl (fun _=>rfl) (fun a' w' ph K=>Ae (K.dq 13 65) d) (fun a' w' ph K=>Ai (es ((K.out 1 rfl).trans aP)) (GQ _ _)))
                  (Aa (Bb rfl rfl rfl (fun _=>rfl) (fun a' w' ph K=>Ae (K.dq 13 65) d) (fun a' w' ph K=>AG Hw (es (K.dq 16 68)) (bV.ext K.AO) rfl))
                  (Aa (Bb rfl rfl rfl (fun _=>rfl) (fun a' w' ph K=>Ae (K.dq 13 65) d) (fun a' w' ph K=>Aq (es ((K.out 4 rfl).trans aI))))
                  (Aa (Bb rfl rfl rfl (fun _=>rfl) (fun a' w' ph K=>Ae (K.dq 13 65) d) (fun a' w' ph K=>Ex (es (K.dq 18 70)) (ec (v:=I 1)) e8))
                  (Aa (Bb rfl rfl rfl (fun _=>rfl) (fun a' w' ph K=>Ae (K.dq 13 65) d) (fun a' w' ph K=>BR (k:=i30) Tryz.underlying63 J7 (es (K.dq 17 69)) fB (es (K.dq 19 71)) e9 fA))
                  (Aa (Bb rfl rfl rfl (fun _=>rfl) (fun a' w' ph K=>Ae (K.dq 13 65) d) (fun a' w' ph K=>Ai (es (K.dq 20 72)) (Ml _ _ _)))
                  (Aa (Bb rfl rfl rfl (fun _=>rfl) (fun a' w' ph K=>Ae (K.dq 13 65) d) (fun a' w' ph K=>Bg Bz (es (K.dq 21 73)) (fC.mv (Ah K.AO)) rfl))
                  (Aa (Bb rfl rfl rfl (fun _=>rfl) (fun a' w' ph K=>Ae (K.dq 13 65) d) (fun a' w' ph K=>IX (es (K.dq 15 67)) (es (K.dq 22 74))))
                  (Aa (Bb rfl rfl rfl (fun _=>rfl) (fun a' w' ph K=>Ae (K.dq 13 65) d) (fun a' w' ph K=>Aq (es (K.dq 23 75))))
                  (Aa (oS (c:=true) (fun a' w' ph K=>Ae (K.dq 24 76) m))
                  (Aa (oS (c:=true) (fun a' w' ph K=>Ae (K.dq 24 76) m))
                  (Aa (oS (c:=true) (fun a' w' ph K=>Ae (K.dq 24 76) m))
                  (Aa (oS (c:=true) (fun a' w' ph K=>Ae (K.dq 24 76) m))
                  (Aa (oS (c:=true) (fun a' w' ph K=>Ae (K.dq 24 76) m))
                  (Aa (oS (c:=true) (fun a' w' ph K=>Ae (K.dq 24 76) m))
                  (Aa (oS (c:=true) (fun a' w' ph K=>Ae (K.dq 24 76) m))
                  (Aa (oS (c:=true) (fun a' w' ph K=>Ae (K.dq 24 76) m))
                  (Aa (oS (c:=true) (fun a' w' ph K=>Ae (K.dq 24 76) m))
                  (B8 _))))))))))))))))))))))))))))))))))) ?_
              intro d8;rintro _ rfl _ rfl _ rfl _ rfl _ rfl _ rfl _ rfl _ rfl _ rfl _ rfl _ rfl _ rfl _ rfl _ rfl _ rfl _ rfl _ rfl _ rfl _ rfl _ rfl _ rfl _ rfl _ rfl _ rfl _ rfl _ rfl _ rfl _ rfl _ rfl _ rfl _ rfl _ rfl _ rfl _ rfl aK;have gO:=cU.ext aK;refine Au (c:=true) rfl rfl (Ae rfl m) (by decide) rfl (by decide)<|An rfl rfl (Ae rfl d) rfl (by decide) (fun st=>AY (v:=.bool true) (eR st) m (eR st))<|An rfl rfl (Ae rfl j) rfl (by decide) (fun st=>AY (v:=.bool true) (eR st) d (eR st))<|wD (fun st=>BC (v:=.bool true) (eR st) j (eR st))<|Ag<|Ab<|AD rfl rfl<|Af<|Ad<|wA (v:=I 1) rfl<|Ag<|Ab<|AI<|Bi<|Ax<|Ax ?_;have gP:=gO.erase 0;obtain rfl:=oi a;refine B4 (fun st=>?_);exact .inl ⟨rfl,(1:Int),rfl,qz st,qd st,sp st 2 rfl,gP⟩
             ·replace a:=AA a m;replace a:=AK a;obtain⟨gQ,a⟩:=a;replace a:=AW a;obtain⟨i33,cV,gR,gS,gT,a⟩:=a;obtain⟨f9,gA,_,gU,rfl,gV⟩:=Sl.elem bI (by decide) gS;refine B9 34 [Kc (pt aY 0),Kc (I g.BU),Kc (.bool aC),Kc (.bool !aC),Kc (.bool !aC),Kc (pt aY 1),Kc (I g.DT),Kc (.bool aD),Kc (.bool !aD),Kc (.bool !aD),Kc (.bool !aD),Kc (I e),Kc (.bool (decide ((0:Int)<e))),Kc (.bool (decide ((0:Int)<e))),Kc (pt aY 0),Kc (I g.BU),Kc (pt b1 4),Kc (.slice p b.AH.length q),Kc (I e),Kc (I (e-1)),Kc (pt d9 (eA+i30*2)),Kc (pt d9 (eA+i30*2)),Kc (I b5.BU),Kc (.bool (decide (b5.BU≤g.BU))),Kc (.bool (decide (b5.BU≤g.BU))),Kc (pt aY 1),Kc (I g.DT),Kc (pt b1 4),Kc (.slice p b.AH.length q),Kc (I e),Kc (I (e-1)),Kc (pt f9 (gA+i33*2)),Kc (pt f9 (gA+i33*2+1)),Kc (I cV.DT)] mixed rfl rfl
                  (Aa (oD (fun K=>Ai (es ((K.out 5 rfl).trans rfl)) (RS _ _)))
                  (Aa (oD (fun K=>AG Bz (es (K.dq 0 52)) (z.bk.ext K.AO) rfl))
                  (Aa (Dl rfl rfl (fun a' w' ph K=>(Ar Fk rfl (EN (es (K.dq 1 53)) (ec (v:=I 0)) (ec (v:=I 100))) (IW aR g.BU 0 100 ZA _ aC b4)).mono (fun _ _ h=>⟨h.2,h.1⟩)))
                  (Aa (oD (fun K=>Dz (es (K.dq 2 54))))
                  (Aa (oD (fun K=>Aq (es (K.dq 3 55))))
                  (Aa (Bb rfl rfl rfl (fun _=>rfl) (fun a' w' ph K=>Ae (K.dq 4 56) f) (fun a' w' ph K=>Ai (es ((K.out 5 rfl).trans rfl)) (TD _ _)))
                  (Aa (Bb rfl rfl rfl (fun _=>rfl) (fun a' w' ph K=>Ae (K.dq 4 56) f) (fun a' w' ph K=>AG Bz (es (K.dq 5 57)) (z.bk.ext K.AO) rfl))
                  (Aa (IT rfl rfl rfl (fun a' w' ph K=>Ae (K.dq 4 56) f) (fun a' w' ph K=>(Ar Fk rfl (EN (es (K.dq 6 58)) (ec (v:=I 0)) (ec (v:=I 100))) (IW aR g.DT 0 100 ZA _ aD cM)).mono (fun _ _ h=>⟨h.2,h.1⟩)))
                  (Aa (Bb rfl rfl rfl (fun _=>rfl) (fun a' w' ph K=>Ae (K.dq 4 56) f) (fun a' w' ph K=>Dz (es (K.dq 7 59))))
                  (Aa (oD (fun K=>BC (es (K.dq 4 56)) f (es (K.dq 8 60))))
                  (Aa (oD (fun K=>Aq (es (K.dq 9 61))))
                  (Aa (Bb rfl rfl rfl (fun _=>rfl) (fun a' w' ph K=>Ae (K.dq 10 62) j) (fun a' w' ph K=>Aq (es ((K.out 4 rfl).trans aI))))
                  (Aa (Bb rfl rfl rfl (fun _=>rfl) (fun a' w' ph K=>Ae (K.dq 10 62) j) (fun a' w' ph K=>HJ (es (K.dq 11 63)) (ec (v:=I 0))))
                  (Aa (Bb rfl rfl rfl (fun _=>rfl) (fun a' w' ph K=>Ae (K.dq 10 62) j) (fun a' w' ph K=>Aq (es (K.dq 12 64))))
                  (Aa (Bb rfl rfl rfl (fun _=>rfl) (fun a' w' ph K=>Ae (K.dq 13 65) d) (fun a' w' ph K=>Ai (es ((K.out 5 rfl).trans rfl)) (RS _ _)))
                  (Aa (Bb rfl rfl rfl (fun _=>rfl) (fun a' w' ph K=>Ae (K.dq 13 65) d) (fun a' w' ph K=>AG Bz (es (K.dq 14 66)) (z.bk.ext K.AO) rfl))
                  (Aa (Bb rfl rfl rfl (fun _=>rfl) (fun a' w' ph K=>Ae (K.dq 13 65) d) (fun a' w' ph K=>Ai (es ((K.out 1 rfl).trans aP)) (GQ _ _)))
                  (Aa (Bb rfl rfl rfl (fun _=>rfl) (fun a' w' ph K=>Ae (K.dq 13 65) d) (fun a' w' ph K=>AG Hw (es (K.dq 16 68)) (bV.ext K.AO) rfl))
                  (Aa (Bb rfl rfl rfl (fun _=>rfl) (fun a' w' ph K=>Ae (K.dq 13 65) d) (fun a' w' ph K=>Aq (es ((K.out 4 rfl).trans aI))))
                  (Aa (Bb rfl rfl rfl (fun _=>rfl) (fun a' w' ph K=>Ae (K.dq 13 65) d) (fun a' w' ph K=>Ex (es (K.dq 18 70)) (ec (v:=I 1)) e8))
                  (Aa (Bb rfl rfl rfl (fun _=>rfl) (fun a' w' ph K=>Ae (K.dq 13 65) d) (fun a' w' ph K=>BR (k:=i30) Tryz.underlying63 J7 (es (K.dq 17 69)) fB (es (K.dq 19 71)) e9 fA))
                  (Aa (Bb rfl rfl rfl (fun _=>rfl) (fun a' w' ph K=>Ae (K.dq 13 65) d) (fun a' w' ph K=>Ai (es (K.dq 20 72)) (Ml _ _ _)))
                  (Aa (Bb rfl rfl rfl (fun _=>rfl) (fun a' w' ph K=>Ae (K.dq 13 65) d) (fun a' w' ph K=>Bg Bz (es (K.dq 21 73)) (fC.mv (Ah K.AO)) rfl))
                  (Aa (Bb rfl rfl rfl (fun _=>rfl) (fun a' w' ph K=>Ae (K.dq 13 65) d) (fun a' w' ph K=>IX (es (K.dq 15 67)) (es (K.dq 22 74))))
                  (Aa (Bb rfl rfl rfl (fun _=>rfl) (fun a' w' ph K=>Ae (K.dq 13 65) d) (fun a' w' ph K=>Aq (es (K.dq 23 75))))
                  (Aa (Bb rfl rfl rfl (fun _=>rfl) (fun a' w' ph K=>Ae (K.dq 24 76) m) (fun a' w' ph K=>Ai (es ((K.out 5 rfl).trans rfl)) (TD _ _)))
                  (Aa (Bb rfl rfl rfl (fun _=>rfl) (fun a' w' ph K=>Ae (K.dq 24 76) m) (fun a' w' ph K=>AG Bz (es (K.dq 25 77)) (z.bk.ext K.AO) rfl))
                  (Aa (Bb rfl rfl rfl (fun _=>rfl) (fun a' w' ph K=>Ae (K.dq 24 76) m) (fun a' w' ph K=>Ai (es ((K.out 1 rfl).trans aP)) (GQ _ _)))
                  (Aa (Bb rfl rfl rfl (fun _=>rfl) (fun a' w' ph K=>Ae (K.dq 24 76) m) (fun a' w' ph K=>AG Hw (es (K.dq 27 79)) (bV.ext K.AO) rfl))
                  (Aa (Bb rfl rfl rfl (fun _=>rfl) (fun a' w' ph K=>Ae (K.dq 24 76) m) (fun a' w' ph K=>Aq (es ((K.out 4 rfl).trans aI))))
                  (Aa (Bb rfl rfl rfl (fun _=>rfl) (fun a' w' ph K=>Ae (K.dq 24 76) m) (fun a' w' ph K=>Ex (es (K.dq 29 81)) (ec (v:=I 1)) gQ))
                  (Aa (Bb rfl rfl rfl (fun _=>rfl) (fun a' w' ph K=>Ae (K.dq 24 76) m) (fun a' w' ph K=>BR (k:=i33) Tryz.underlying63 J7 (es (K.dq 28 80)) gU (es (K.dq 30 82)) gR gT))
                  (Aa (Bb rfl rfl rfl (fun _=>rfl) (fun a' w' ph K=>Ae (K.dq 24 76) m) (fun a' w' ph K=>Ai (es (K.dq 31 83)) (O0 _ _ _)))
                  (Aa (Bb rfl rfl rfl (fun _=>rfl) (fun a' w' ph K=>Ae (K.dq 24 76) m) (fun a' w' ph K=>Gj Bz (es (K.dq 32 84)) (gV.mv (Ah K.AO)) rfl))
                  (B8 _))))))))))))))))))))))))))))))))))) ?_
              intro d8;rintro _ rfl _ rfl _ rfl _ rfl _ rfl _ rfl _ rfl _ rfl _ rfl _ rfl _ rfl _ rfl _ rfl _ rfl _ rfl _ rfl _ rfl _ rfl _ rfl _ rfl _ rfl _ rfl _ rfl _ rfl _ rfl _ rfl _ rfl _ rfl _ rfl _ rfl _ rfl _ rfl _ rfl _ rfl aK;have fD:=cU.ext aK;refine An rfl rfl (Ae rfl m) rfl (by decide) (fun st=>HJ (eR st) (eR st))<|An rfl rfl (Ae rfl d) rfl (by decide) (fun st=>BC (v:=.bool (decide (cV.DT<g.DT))) (eR st) m (eR st))<|An rfl rfl (Ae rfl j) rfl (by decide) (fun st=>AY (v:=.bool (decide (cV.DT<g.DT))) (eR st) d (eR st))<|wD (fun st=>BC (v:=.bool (decide (cV.DT<g.DT))) (eR st) j (eR st))<|Ag<|Ab ?_;rcases Ak (decide (cV.DT<g.DT)) with b6|b6
              ·replace a:=Az a b6;refine AD rfl b6<|Af<|Ad<|wA (v:=I 1) rfl<|Ag<|Ab<|AI<|Bi<|Ax<|Ax ?_;have gW:=fD.erase 0;obtain rfl:=oi a;refine B4 (fun st=>?_);exact .inl ⟨rfl,(1:Int),rfl,qz st,qd st,sp st 2 rfl,gW⟩
              ·replace a:=AA a b6;refine AE rfl b6<|AL<|Bs<|Ab<|Ad<|wM (v:=I e) aI ?_;replace a:=AK a;obtain⟨gX,a⟩:=a;refine wD (fun st=>B0 (eR st) (eR st) gX)<|wA (v:=I (e+1)) rfl<|Ag ?_;have gY:=fD.erase 0;have fE:=(bV.ext aK);have ⟨dF,dG,dH⟩:=EW aZ a0 a2 (mt (AP aX) (mt (bZ.C4 z.gr 0 rfl) (mt (Ah aK) (Bp 0))));have dI:=((bI.mv (Ah aK)).mv (Bp 0));have ⟨dJ,dK⟩:=LI a3 a4 (mt (AP aX) (mt (bZ.C4 z.gr 0 rfl) (mt (Ah aK) (Bp 0))));refine Bw bU (Nat.lt_succ_self _) (fun st=>?_);exact⟨(e+1),a,qz st,qd st,sp st 1 aP,sp st 4 rfl,gY,fE,dF,dG,dH,dI,dJ,dK⟩
            ·replace a:=AA a d;refine B9 34 [Kc (pt aY 0),Kc (I g.BU),Kc (.bool aC),Kc (.bool !aC),Kc (.bool !aC),Kc (pt aY 1),Kc (I g.DT),Kc (.bool aD),Kc (.bool !aD),Kc (.bool !aD),Kc (.bool !aD),Kc (I e),Kc (.bool (decide ((0:Int)<e))),Kc (.bool (decide ((0:Int)<e))),Kc undef,Kc undef,Kc undef,Kc undef,Kc undef,Kc undef,Kc undef,Kc undef,Kc undef,Kc undef,Kc undef,Kc undef,Kc undef,Kc undef,Kc undef,Kc undef,Kc undef,Kc undef,Kc undef,Kc undef] mixed rfl rfl
                 (Aa (oD (fun K=>Ai (es ((K.out 5 rfl).trans rfl)) (RS _ _)))
                 (Aa (oD (fun K=>AG Bz (es (K.dq 0 52)) (z.bk.ext K.AO) rfl))
                 (Aa (Dl rfl rfl (fun a' w' ph K=>(Ar Fk rfl (EN (es (K.dq 1 53)) (ec (v:=I 0)) (ec (v:=I 100))) (IW aR g.BU 0 100 ZA _ aC b4)).mono (fun _ _ h=>⟨h.2,h.1⟩)))
                 (Aa (oD (fun K=>Dz (es (K.dq 2 54))))
                 (Aa (oD (fun K=>Aq (es (K.dq 3 55))))
                 (Aa (Bb rfl rfl rfl (fun _=>rfl) (fun a' w' ph K=>Ae (K.dq 4 56) f) (fun a' w' ph K=>Ai (es ((K.out 5 rfl).trans rfl)) (TD _ _)))
                 (Aa (Bb rfl rfl rfl (fun _=>rfl) (fun a' w' ph K=>Ae (K.dq 4 56) f) (fun a' w' ph K=>AG Bz (es (K.dq 5 57)) (z.bk.ext K.AO) rfl))
                 (Aa (IT rfl rfl rfl (fun a' w' ph K=>Ae (K.dq 4 56) f) (fun a' w' ph K=>(Ar Fk rfl (EN (es (K.dq 6 58)) (ec (v:=I 0)) (ec (v:=I 100))) (IW aR g.DT 0 100 ZA _ aD cM)).mono (fun _ _ h=>⟨h.2,h.1⟩)))
                 (Aa (Bb rfl rfl rfl (fun _=>rfl) (fun a' w' ph K=>Ae (K.dq 4 56) f) (fun a' w' ph K=>Dz (es (K.dq 7 59))))
                 (Aa (oD (fun K=>BC (es (K.dq 4 56)) f (es (K.dq 8 60))))
                 (Aa (oD (fun K=>Aq (es (K.dq 9 61))))
                 (Aa (Bb rfl rfl rfl (fun _=>rfl) (fun a' w' ph K=>Ae (K.dq 10 62) j) (fun a' w' ph K=>Aq (es ((K.out 4 rfl).trans aI))))
                 (Aa (Bb rfl rfl rfl (fun _=>rfl) (fun a' w' ph K=>Ae (K.dq 10 62) j) (fun a' w' ph K=>HJ (es (K.dq 11 63)) (ec (v:=I 0))))
                 (Aa (Bb rfl rfl rfl (fun _=>rfl) (fun a' w' ph K=>Ae (K.dq 10 62) j) (fun a' w' ph K=>Aq (es (K.dq 12 64))))
                 (Aa (oS (c:=false) (fun a' w' ph K=>Ae (K.dq 13 65) d))
                 (Aa (oS (c:=false) (fun a' w' ph K=>Ae (K.dq 13 65) d))
                 (Aa (oS (c:=false) (fun a' w' ph K=>Ae (K.dq 13 65) d))
                 (Aa (oS (c:=false) (fun a' w' ph K=>Ae (K.dq 13 65) d))
                 (Aa (oS (c:=false) (fun a' w' ph K=>Ae (K.dq 13 65) d))
                 (Aa (oS (c:=false) (fun a' w' ph K=>Ae (K.dq 13 65) d))
                 (Aa (oS (c:=false) (fun a' w' ph K=>Ae (K.dq 13 65) d))
                 (Aa (oS (c:=false) (fun a' w' ph K=>Ae (K.dq 13 65) d))
                 (Aa (oS (c:=false) (fun a' w' ph K=>Ae (K.dq 13 65) d))
                 (Aa (oS (c:=false) (fun a' w' ph K=>Ae (K.dq 13 65) d))
                 (Aa (oS (c:=false) (fun a' w' ph K=>Ae (K.dq 13 65) d))
                 (Aa (DA rfl rfl rfl (fun a' w' ph K=>K.dq 24 76) (fun _=>rfl))
                 (Aa (DA rfl rfl rfl (fun a' w' ph K=>K.dq 24 76) (fun _=>rfl))
                 (Aa (DA rfl rfl rfl (fun a' w' ph K=>K.dq 24 76) (fun _=>rfl))
                 (Aa (DA rfl rfl rfl (fun a' w' ph K=>K.dq 24 76) (fun _=>rfl))
                 (Aa (DA rfl rfl rfl (fun a' w' ph K=>K.dq 24 76) (fun _=>rfl))
                 (Aa (DA rfl rfl rfl (fun a' w' ph K=>K.dq 24 76) (fun _=>rfl))
                 (Aa (DA rfl rfl rfl (fun a' w' ph K=>K.dq 24 76) (fun _=>rfl))
                 (Aa (DA rfl rfl rfl (fun a' w' ph K=>K.dq 24 76) (fun _=>rfl))
                 (Aa (DA rfl rfl rfl (fun a' w' ph K=>K.dq 24 76) (fun _=>rfl))
                 (B8 _))))))))))))))))))))))))))))))))))) ?_
             intro d8;rintro _ rfl _ rfl _ rfl _ rfl _ rfl _ rfl _ rfl _ rfl _ rfl _ rfl _ rfl _ rfl _ rfl _ rfl _ rfl _ rfl _ rfl _ rfl _ rfl _ rfl _ rfl _ rfl _ rfl _ rfl _ rfl _ rfl _ rfl _ rfl _ rfl _ rfl _ rfl _ rfl _ rfl _ rfl aK;have gZ:=cU.ext aK;refine FQ rfl rfl rfl rfl (by decide)<|Au (c:=false) rfl rfl (Ae rfl d) (by decide) rfl (by decide)<|An rfl rfl (Ae rfl j) rfl (by decide) (fun st=>BC (v:=.bool false) (eR st) d (eR st))<|wD (fun st=>BC (v:=.bool false) (eR st) j (eR st))<|Ag<|Ab<|AE rfl rfl<|AL<|Bs<|Ab<|Ad<|wM (v:=I e) aI ?_;replace a:=AK a;obtain⟨g0,a⟩:=a;refine wD (fun st=>B0 (eR st) (eR st) g0)<|wA (v:=I (e+1)) rfl<|Ag ?_;have g1:=gZ.erase 0;have fF:=(((aW.ext aX.gr).gr z.gr (bZ.nq 1 0)).ext aK);have ⟨dL,dM,dN,dO,dP,dQ⟩:=Cz aZ a0 a2 aT a3 a4 (mt (AP aX) (mt (bZ.C4 z.gr 0 rfl) (mt (Ah aK) (Bp 0))));refine Bw bU (Nat.lt_succ_self _) (fun st=>?_);exact⟨(e+1),a,qz st,qd st,sp st 1 aP,sp st 4 rfl,g1,fF,dL,dM,dN,dO,dP,dQ⟩
         ·replace a:=AA a bY;refine AE rfl bY<|Cd<|AB<|AB ?_;obtain rfl:=oi a;refine B4 (fun st=>?_);exact .inr ⟨rfl,(),rfl,qz st,qd st,sp st 1 aP,e7,aW,aZ,a0,a2,aT,a3,a4⟩
       case gE=>
        rintro bX iO iT (⟨rfl,bH,rfl,b7,b8,eX,cN⟩|⟨rfl,bH,rfl,b7,b8,eY,cN,eZ,cW,cX,cY,cZ,c0,c1⟩)
        ·skip
         replace a:=Eg a;refine Cn (X:=X0) (N:=149) b7 b8<|Bi<|Ax ?_;obtain rfl:=oi a;refine AJ rfl eX ?_;exact⟨cN.Bc,rfl⟩
        ·skip
         replace a:=Eh a;refine Cn (X:=X0) (N:=149) b7 b8<|Bn<|Ab<|Af<|Af<|Ad<|wA (v:=I 0) rfl<|Ag<|Ab<|AT ?_;replace a:=bind_some a;obtain⟨z37,bJ,a⟩:=a;refine Cm (fun bX i o=>(bX=.ret∧∃bK,z37=.inl bK∧i.tmps.size=149∧i.defers=(X0).ds∧sl i 2=I bK∧Hp FN [] w [some b1] o)∨(bX=.exit 2∧∃bK,z37=.inr bK∧i.tmps.size=149∧i.defers=(X0).ds∧sl i 1=pt b1 0∧Hp FN [] w [some b1] o∧Bk o b1 67 (Am aE aF aA aB aG aH p q t u x y b).toArray∧Sl AM o (zf Z w [some b1]) aE aF b.Al∧Sl (BO (Ay .i64)) o (zf Z w [some b1]) aA aB b.Ac∧Sl AQ o (zf Z w [some b1]) aG aH b.Ap∧Sl Bm o (zf Z w [some b1]) p q b.AH∧Sl Bl o (zf Z w [some b1]) t u b.Aw∧Sl BA o (zf Z w [some b1]) x y b.Ao)) ?g2 ?g3
         case g2=>
          clear a;refine Cl (fun(bU:Nat) (i:Act) (o:World)=>∃aM,HQ aR b bU aM=some z37∧i.tmps.size=149∧i.defers=(X0).ds∧sl i 1=pt b1 0∧sl i 6=I aM∧Hp FN [] w [some b1] o∧Bk o b1 67 (Am aE aF aA aB aG aH p q t u x y b).toArray∧Sl AM o (zf Z w [some b1]) aE aF b.Al∧Sl (BO (Ay .i64)) o (zf Z w [some b1]) aA aB b.Ac∧Sl AQ o (zf Z w [some b1]) aG aH b.Ap∧Sl Bm o (zf Z w [some b1]) p q b.AH∧Sl Bl o (zf Z w [some b1]) t u b.Aw∧Sl BA o (zf Z w [some b1]) x y b.Ao) aR ?g4 ?g5
          case g4=>
           intro st;exact⟨(0:Int),bJ,qz st,qd st,sp st 1 eY,sp st 6 rfl,cN,eZ,cW,cX,cY,cZ,c0,c1⟩
          case g5=>
           rintro(_|bU) iU iV ⟨aM,bJ,f4,f5,aQ,a5,dR,aL,bO,bP,bQ,bR,a8,bS⟩
           ·exact absurd (show none=some _ from bJ) (by simp)
           rw[HQ.eq_2] at bJ;have a:=bJ;clear bJ;refine B7 (N:=149) f4 f5<|Af<|Af<|Ad<|wM (v:=I aM) a5<|wD (fun st=>Ai (ee st aQ) (IV _ _))<|wD (fun st=>AG (v:=.slice t b.Aw.length u) JU (eR st) aL rfl)<|wD (fun st=>Bu Tryz.underlying64 (eR st))<|wD (fun st=>CO (eR st) (eR st))<|Ag<|Ab ?_;rcases Ak (decide (aM<(b.Aw.length:Int))) with b9|b9
           ·replace a:=Az a b9;refine AD rfl b9<|AL<|Ab<|Af<|AT<|Af ?_;replace a:=AW a;obtain⟨i40,eB,fG,g6,fH,a⟩:=a;obtain⟨eC,eD,_,fI,rfl,fJ⟩:=Sl.elem a8 (by decide) g6;replace a:=AK a;obtain⟨fK,a⟩:=a;replace a:=bind_some a;obtain⟨a9,fL,a⟩:=a;rcases Ak (!a9) with r|r
            ·replace a:=Az a r;have h4:a9=false:=by simpa using r
             refine B9 16 [Kc (pt b1 5),Kc (.slice t b.Aw.length u),Kc (I aM),Kc (pt eC (eD+i40*2)),Kc (pt eC (eD+i40*2)),Kc (I eB.En),Kc (pt b1 4),Kc (.slice p b.AH.length q),Kc (I (b.AH.length:Int)),Kc (I ((b.AH.length:Int)-1)),Kc (.bool a9),Kc (.bool !a9),Kc (.bool !a9),Kc undef,Kc undef,Kc undef] mixed rfl rfl
                 (Aa (oD (fun K=>Ai (es ((K.out 1 rfl).trans aQ)) (IV _ _)))
                 (Aa (oD (fun K=>AG JU (es (K.dq 0 97)) (aL.ext K.AO) rfl))
                 (Aa (oD (fun K=>Aq (es ((K.out 6 rfl).trans a5))))
                 (Aa (oD (fun K=>BR (k:=i40) Tryz.underlying64 OG (es (K.dq 1 98)) fI (es (K.dq 2 99)) fG fH))
                 (Aa (oD (fun K=>Ai (es (K.dq 3 100)) (TE _ _ _)))
                 (Aa (oD (fun K=>Bg Bz (es (K.dq 4 101)) (fJ.mv (Ah K.AO)) rfl))
                 (Aa (oD (fun K=>Ai (es ((K.out 1 rfl).trans aQ)) (GQ _ _)))
                 (Aa (oD (fun K=>AG Hw (es (K.dq 6 103)) (aL.ext K.AO) rfl))
                 (Aa (oD (fun K=>Bu Tryz.underlying63 (es (K.dq 7 104))))
                 (Aa (oD (fun K=>Ex (es (K.dq 8 105)) (ec (v:=I 1)) fK))
                 (Aa (Dl rfl rfl (fun a' w' ph K=>(Ar Fk rfl (EN (es (K.dq 5 102)) (ec (v:=I 0)) (es (K.dq 9 106))) (IW aR eB.En 0 ((b.AH.length:Int)-1) ZA _ a9 fL)).mono (fun _ _ h=>⟨h.2,h.1⟩)))
                 (Aa (oD (fun K=>Dz (es (K.dq 10 107))))
                 (Aa (oD (fun K=>Aq (es (K.dq 11 108))))
                 (Aa (oS (c:=true) (fun a' w' ph K=>Ae (K.dq 12 109) r))
                 (Aa (oS (c:=true) (fun a' w' ph K=>Ae (K.dq 12 109) r))
                 (Aa (oS (c:=true) (fun a' w' ph K=>Ae (K.dq 12 109) r))
                 (B8 _))))))))))))))))) ?_
             intro iL;rintro _ rfl _ rfl _ rfl _ rfl _ rfl _ rfl _ rfl _ rfl _ rfl _ rfl _ rfl _ rfl _ rfl _ rfl _ rfl _ rfl bC;have g7:=dR.ext bC;refine Au (c:=true) rfl rfl (Ae rfl r) (by decide) rfl (by decide)<|Au (c:=true) rfl rfl (Ae rfl r) (by decide) rfl (by decide)<|Au (c:=true) rfl rfl (Ae rfl r) (by decide) rfl (by decide)<|Au (c:=true) rfl rfl (Ae rfl r) (by decide) rfl (by decide)<|Au (c:=true) rfl rfl (Ae rfl r) (by decide) rfl (by decide)<|wD (fun st=>AY (v:=.bool true) (eR st) r (eR st))<|Ag<|Ab<|AD rfl rfl<|Af<|Ad<|wA (v:=I 1) rfl<|Ag<|Ab<|AI<|Bi<|Ax<|Ax ?_;obtain rfl:=oi a;refine B4 (fun st=>?_);exact .inl ⟨rfl,(1:Int),rfl,qz st,qd st,sp st 2 rfl,g7⟩
            ·replace a:=AA a r;have h6:a9=true:=by simpa using r
             refine B9 16 [Kc (pt b1 5),Kc (.slice t b.Aw.length u),Kc (I aM),Kc (pt eC (eD+i40*2)),Kc (pt eC (eD+i40*2)),Kc (I eB.En),Kc (pt b1 4),Kc (.slice p b.AH.length q),Kc (I (b.AH.length:Int)),Kc (I ((b.AH.length:Int)-1)),Kc (.bool a9),Kc (.bool !a9),Kc (.bool !a9),Kc (pt b1 5),Kc (.slice t b.Aw.length u),Kc (I aM)] mixed rfl rfl
                 (Aa (oD (fun K=>Ai (es ((K.out 1 rfl).trans aQ)) (IV _ _)))
                 (Aa (oD (fun K=>AG JU (es (K.dq 0 97)) (aL.ext K.AO) rfl))
                 (Aa (oD (fun K=>Aq (es ((K.out 6 rfl).trans a5))))
                 (Aa (oD (fun K=>BR (k:=i40) Tryz.underlying64 OG (es (K.dq 1 98)) fI (es (K.dq 2 99)) fG fH))
                 (Aa (oD (fun K=>Ai (es (K.dq 3 100)) (TE _ _ _)))
                 (Aa (oD (fun K=>Bg Bz (es (K.dq 4 101)) (fJ.mv (Ah K.AO)) rfl))
                 (Aa (oD (fun K=>Ai (es ((K.out 1 rfl).trans aQ)) (GQ _ _)))
                 (Aa (oD (fun K=>AG Hw (es (K.dq 6 103)) (aL.ext K.AO) rfl))
                 (Aa (oD (fun K=>Bu Tryz.underlying63 (es (K.dq 7 104))))
                 (Aa (oD (fun K=>Ex (es (K.dq 8 105)) (ec (v:=I 1)) fK))
                 (Aa (Dl rfl rfl (fun a' w' ph K=>(Ar Fk rfl (EN (es (K.dq 5 102)) (ec (v:=I 0)) (es (K.dq 9 106))) (IW aR eB.En 0 ((b.AH.length:Int)-1) ZA _ a9 fL)).mono (fun _ _ h=>⟨h.2,h.1⟩)))
                 (Aa (oD (fun K=>Dz (es (K.dq 10 107))))
                 (Aa (oD (fun K=>Aq (es (K.dq 11 108))))
                 (Aa (Bb rfl rfl rfl (fun _=>rfl) (fun a' w' ph K=>Ae (K.dq 12 109) r) (fun a' w' ph K=>Ai (es ((K.out 1 rfl).trans aQ)) (IV _ _)))
                 (Aa (Bb rfl rfl rfl (fun _=>rfl) (fun a' w' ph K=>Ae (K.dq 12 109) r) (fun a' w' ph K=>AG JU (es (K.dq 13 110)) (aL.ext K.AO) rfl))
                 (Aa (Bb rfl rfl rfl (fun _=>rfl) (fun a' w' ph K=>Ae (K.dq 12 109) r) (fun a' w' ph K=>Aq (es ((K.out 6 rfl).trans a5))))
                 (B8 _))))))))))))))))) ?_
             intro iL;rintro _ rfl _ rfl _ rfl _ rfl _ rfl _ rfl _ rfl _ rfl _ rfl _ rfl _ rfl _ rfl _ rfl _ rfl _ rfl _ rfl bC;have g8:=dR.ext bC;replace a:=AW a;obtain⟨i46,gB,g9,hA,hB,a⟩:=a;have cA:=(a8.mv (Ah bC));obtain⟨i6,i7,_,hC,rfl,hD⟩:=Sl.elem cA (by decide) hA;refine An rfl rfl (Ae rfl r) rfl (by decide) (fun st=>BR (k:=i46) Tryz.underlying64 OG (eR st) hC (eR st) g9 hB)<|An rfl rfl (Ae rfl r) rfl (by decide) (fun st=>Ai (eR st) (SC _ _ _))<|An rfl rfl (Ae rfl r) rfl (by decide) (fun st=>Gj (v:=I gB.Ey) Bz (eR st) hD rfl) ?_;replace a:=bind_some a;obtain⟨c2,hE,a⟩:=a;refine Di rfl rfl (Ae rfl r) rfl (by decide) (fun st=>Ar Fk (eR st) (EN (eR st) (eR st) (eR st)) (IW aR gB.Ey 1 90 ZA _ c2 hE)) ?_;rintro _ i8 ⟨cB,rfl⟩;have fM:=g8.ext cB;refine An rfl rfl (Ae rfl r) rfl (by decide) (fun st=>Dz (eR st))<|wD (fun st=>BC (v:=.bool !c2) (eR st) r (eR st))<|Ag<|Ab ?_;rcases Ak (!c2) with bD|bD
             ·replace a:=Az a bD;have h7:c2=false:=by simpa using bD
              refine AD rfl bD<|Af<|Ad<|wA (v:=I 1) rfl<|Ag<|Ab<|AI<|Bi<|Ax<|Ax ?_;obtain rfl:=oi a;refine B4 (fun st=>?_);exact .inl ⟨rfl,(1:Int),rfl,qz st,qd st,sp st 2 rfl,fM⟩
             ·replace a:=AA a bD;have h8:c2=true:=by simpa using bD
              refine AE rfl bD<|AL<|Bs<|Ab<|Ad<|wM (v:=I aM) a5 ?_;replace a:=AK a;obtain⟨hF,a⟩:=a;refine wD (fun st=>B0 (eR st) (eR st) hF)<|wA (v:=I (aM+1)) rfl<|Ag ?_;have fN:=((aL.ext bC).ext cB);have ⟨dS,dT,dU,dV⟩:=F4 bO bP bQ bR (mt (Ah bC) (Ah cB));have dW:=(cA.mv (Ah cB));have dX:=((bS.mv (Ah bC)).mv (Ah cB));refine Bw bU (Nat.lt_succ_self _) (fun st=>?_);exact⟨(aM+1),a,qz st,qd st,sp st 1 aQ,sp st 6 rfl,fM,fN,dS,dT,dU,dV,dW,dX⟩
           ·replace a:=AA a b9;refine AE rfl b9<|Cd<|AB<|AB ?_;obtain rfl:=oi a;refine B4 (fun st=>?_);exact .inr ⟨rfl,(),rfl,qz st,qd st,sp st 1 aQ,dR,aL,bO,bP,bQ,bR,a8,bS⟩
         case g3=>
          rintro bX iP iW (⟨rfl,bK,rfl,cC,cD,e0,cO⟩|⟨rfl,bK,rfl,cC,cD,e1,cO,e2,c3,c4,c5,c6,c7,c8⟩)
          ·skip
           replace a:=Eg a;refine Cn (X:=X0) (N:=149) cC cD<|Bi<|Ax ?_;obtain rfl:=oi a;refine AJ rfl e0 ?_;exact⟨cO.Bc,rfl⟩
          ·skip
           replace a:=Eh a;refine Cn (X:=X0) (N:=149) cC cD<|Bn<|Ab<|Af<|Af<|Ad<|wA (v:=I 0) rfl<|Ag<|Ab<|AT ?_;replace a:=bind_some a;obtain⟨z53,bL,a⟩:=a;refine Cm (fun bX i o=>(bX=.ret∧∃bM,z53=.inl bM∧i.tmps.size=149∧i.defers=(X0).ds∧sl i 2=I bM∧Hp FN [] w [some b1] o)∨(bX=.exit 4∧∃bM,z53=.inr bM∧i.tmps.size=149∧i.defers=(X0).ds∧Hp FN [] w [some b1] o)) ?hG ?hH
           case hG=>
            clear a;refine Cl (fun(bU:Nat) (i:Act) (o:World)=>∃aN,HR aR b bU aN=some z53∧i.tmps.size=149∧i.defers=(X0).ds∧sl i 1=pt b1 0∧sl i 7=I aN∧Hp FN [] w [some b1] o∧Bk o b1 67 (Am aE aF aA aB aG aH p q t u x y b).toArray∧Sl AM o (zf Z w [some b1]) aE aF b.Al∧Sl (BO (Ay .i64)) o (zf Z w [some b1]) aA aB b.Ac∧Sl AQ o (zf Z w [some b1]) aG aH b.Ap∧Sl Bm o (zf Z w [some b1]) p q b.AH∧Sl Bl o (zf Z w [some b1]) t u b.Aw∧Sl BA o (zf Z w [some b1]) x y b.Ao) aR ?hI ?hJ
            case hI=>
             intro st;exact⟨(0:Int),bL,qz st,qd st,sp st 1 e1,sp st 7 rfl,cO,e2,c3,c4,c5,c6,c7,c8⟩
            case hJ=>
             rintro(_|bU) iX iY ⟨aN,bL,f6,f7,aS,bA,dY,aO,c9,dA,dB,dC,dD,bT⟩
             ·exact absurd (show none=some _ from bL) (by simp)
             rw[HR.eq_2] at bL;have a:=bL;clear bL;refine B7 (N:=149) f6 f7<|Af<|Af<|Ad<|wM (v:=I aN) bA<|wD (fun st=>Ai (ee st aS) (Fx _ _))<|wD (fun st=>AG (v:=.slice x b.Ao.length y) GF (eR st) aO rfl)<|wD (fun st=>Bu Tryz.underlying65 (eR st))<|wD (fun st=>CO (eR st) (eR st))<|Ag<|Ab ?_;rcases Ak (decide (aN<(b.Ao.length:Int))) with cE|cE
             ·replace a:=Az a cE;refine AD rfl cE<|AL<|Ab<|Af<|AT<|Af ?_;replace a:=AW a;obtain⟨i56,eE,fO,hL,fP,a⟩:=a;obtain⟨eF,eG,_,fQ,rfl,fR⟩:=Sl.elem bT (by decide) hL;replace a:=AK a;obtain⟨fS,a⟩:=a;replace a:=bind_some a;obtain⟨bB,fT,a⟩:=a;rcases Ak (!bB) with s|s
              ·replace a:=Az a s;have h9:bB=false:=by simpa using s
               refine B9 17 [Kc (pt b1 6),Kc (.slice x b.Ao.length y),Kc (I aN),Kc (pt eF (eG+i56*3)),Kc (pt eF (eG+i56*3)),Kc (I eE.C0),Kc (pt b1 0),Kc (pt b1 1),Kc (.slice aA b.Ac.length aB),Kc (I (b.Ac.length:Int)),Kc (I ((b.Ac.length:Int)-1)),Kc (.bool bB),Kc (.bool !bB),Kc (.bool !bB),Kc undef,Kc undef,Kc undef] mixed rfl rfl
                   (Aa (oD (fun K=>Ai (es ((K.out 1 rfl).trans aS)) (Fx _ _)))
                   (Aa (oD (fun K=>AG GF (es (K.dq 0 126)) (aO.ext K.AO) rfl))
                   (Aa (oD (fun K=>Aq (es ((K.out 7 rfl).trans bA))))
                   (Aa (oD (fun K=>BR (k:=i56) Tryz.underlying65 LM (es (K.dq 1 127)) fQ (es (K.dq 2 128)) fO fP))
                   (Aa (oD (fun K=>Ai (es (K.dq 3 129)) (O1 _ _ _)))
                   (Aa (oD (fun K=>Bg Bz (es (K.dq 4 130)) (fR.mv (Ah K.AO)) rfl))
                   (Aa (oD (fun K=>Ai (es ((K.out 1 rfl).trans aS)) (Ee _ _)))
                   (Aa (oD (fun K=>Ai (es (K.dq 6 132)) (Ei _ _)))
                   (Aa (oD (fun K=>AG El (es (K.dq 7 133)) (aO.ext K.AO) rfl))
                   (Aa (oD (fun K=>Bu Tryz.underlying23 (es (K.dq 8 134))))
                   (Aa (oD (fun K=>Ex (es (K.dq 9 135)) (ec (v:=I 1)) fS))
                   (Aa (Dl rfl rfl (fun a' w' ph K=>(Ar Fk rfl (EN (es (K.dq 5 131)) (ec (v:=I 0)) (es (K.dq 10 136))) (IW aR eE.C0 0 ((b.Ac.length:Int)-1) ZA _ bB fT)).mono (fun _ _ h=>⟨h.2,h.1⟩)))
                   (Aa (oD (fun K=>Dz (es (K.dq 11 137))))
                   (Aa (oD (fun K=>Aq (es (K.dq 12 138))))
                   (Aa (oS (c:=true) (fun a' w' ph K=>Ae (K.dq 13 139) s))
                   (Aa (oS (c:=true) (fun a' w' ph K=>Ae (K.dq 13 139) s))
                   (Aa (oS (c:=true) (fun a' w' ph K=>Ae (K.dq 13 139) s))
                   (B8 _)))))))))))))))))) ?_
               intro iM;rintro _ rfl _ rfl _ rfl _ rfl _ rfl _ rfl _ rfl _ rfl _ rfl _ rfl _ rfl _ rfl _ rfl _ rfl _ rfl _ rfl _ rfl bN;have hM:=dY.ext bN;refine Au (c:=true) rfl rfl (Ae rfl s) (by decide) rfl (by decide)<|Au (c:=true) rfl rfl (Ae rfl s) (by decide) rfl (by decide)<|Au (c:=true) rfl rfl (Ae rfl s) (by decide) rfl (by decide)<|Au (c:=true) rfl rfl (Ae rfl s) (by decide) rfl (by decide)<|Au (c:=true) rfl rfl (Ae rfl s) (by decide) rfl (by decide)<|wD (fun st=>AY (v:=.bool true) (eR st) s (eR st))<|Ag<|Ab<|AD rfl rfl<|Af<|Ad<|wA (v:=I 1) rfl<|Ag<|Ab<|AI<|Bi<|Ax<|Ax ?_;obtain rfl:=oi a;refine B4 (fun st=>?_);exact .inl ⟨rfl,(1:Int),rfl,qz st,qd st,sp st 2 rfl,hM⟩
              ·replace a:=AA a s;have iA:bB=true:=by simpa using s
               refine B9 17 [Kc (pt b1 6),Kc (.slice x b.Ao.length y),Kc (I aN),Kc (pt eF (eG+i56*3)),Kc (pt eF (eG+i56*3)),Kc (I eE.C0),Kc (pt b1 0),Kc (pt b1 1),Kc (.slice aA b.Ac.length aB),Kc (I (b.Ac.length:Int)),Kc (I ((b.Ac.length:Int)-1)),Kc (.bool bB),Kc (.bool !bB),Kc (.bool !bB),Kc (pt b1 6),Kc (.slice x b.Ao.length y),Kc (I aN)] mixed rfl rfl
                   (Aa (oD (fun K=>Ai (es ((K.out 1 rfl).trans aS)) (Fx _ _)))
                   (Aa (oD (fun K=>AG GF (es (K.dq 0 126)) (aO.ext K.AO) rfl))
                   (Aa (oD (fun K=>Aq (es ((K.out 7 rfl).trans bA))))
                   (Aa (oD (fun K=>BR (k:=i56) Tryz.underlying65 LM (es (K.dq 1 127)) fQ (es (K.dq 2 128)) fO fP))
                   (Aa (oD (fun K=>Ai (es (K.dq 3 129)) (O1 _ _ _)))
                   (Aa (oD (fun K=>Bg Bz (es (K.dq 4 130)) (fR.mv (Ah K.AO)) rfl))
                   (Aa (oD (fun K=>Ai (es ((K.out 1 rfl).trans aS)) (Ee _ _)))
                   (Aa (oD (fun K=>Ai (es (K.dq 6 132)) (Ei _ _)))
                   (Aa (oD (fun K=>AG El (es (K.dq 7 133)) (aO.ext K.AO) rfl))
                   (Aa (oD (fun K=>Bu Tryz.underlying23 (es (K.dq 8 134))))
                   (Aa (oD (fun K=>Ex (es (K.dq 9 135)) (ec (v:=I 1)) fS))
                   (Aa (Dl rfl rfl (fun a' w' ph K=>(Ar Fk rfl (EN (es (K.dq 5 131)) (ec (v:=I 0)) (es (K.dq 10 136))) (IW aR eE.C0 0 ((b.Ac.length:Int)-1) ZA _ bB fT)).mono (fun _ _ h=>⟨h.2,h.1⟩)))
                   (Aa (oD (fun K=>Dz (es (K.dq 11 137))))
                   (Aa (oD (fun K=>Aq (es (K.dq 12 138))))
                   (Aa (Bb rfl rfl rfl (fun _=>rfl) (fun a' w' ph K=>Ae (K.dq 13 139) s) (fun a' w' ph K=>Ai (es ((K.out 1 rfl).trans aS)) (Fx _ _)))
                   (Aa (Bb rfl rfl rfl (fun _=>rfl) (fun a' w' ph K=>Ae (K.dq 13 139) s) (fun a' w' ph K=>AG GF (es (K.dq 14 140)) (aO.ext K.AO) rfl))
                   (Aa (Bb rfl rfl rfl (fun _=>rfl) (fun a' w' ph K=>Ae (K.dq 13 139) s) (fun a' w' ph K=>Aq (es ((K.out 7 rfl).trans bA))))
                   (B8 _)))))))))))))))))) ?_
               intro iM;rintro _ rfl _ rfl _ rfl _ rfl _ rfl _ rfl _ rfl _ rfl _ rfl _ rfl _ rfl _ rfl _ rfl _ rfl _ rfl _ rfl _ rfl bN;have hN:=dY.ext bN;replace a:=AW a;obtain⟨i62,eH,hO,hP,hQ,a⟩:=a;have cF:=(bT.mv (Ah bN));obtain⟨i9,jA,_,hR,rfl,hS⟩:=Sl.elem cF (by decide) hP;refine An rfl rfl (Ae rfl s) rfl (by decide) (fun st=>BR (k:=i62) Tryz.underlying65 LM (eR st) hR (eR st) hO hQ)<|An rfl rfl (Ae rfl s) rfl (by decide) (fun st=>Ai (eR st) (Px _ _ _))<|An rfl rfl (Ae rfl s) rfl (by decide) (fun st=>Ou (l:=[I eH.Db,I eH.Dc]) Gk (eR st) hS rfl rfl) ?_;replace a:=bind_some a;obtain⟨dE,hT,a⟩:=a;refine Di rfl rfl (Ae rfl s) rfl (by decide) (fun st=>Ar XB (eR st) (EN (eR st) (eR st) (eR st)) (a90 aR (⟨eH.Db,eH.Dc⟩:AN) 0 9000 ZA _ dE hT)) ?_;rintro _ jB ⟨cP,rfl⟩;have fU:=hN.ext cP;refine An rfl rfl (Ae rfl s) rfl (by decide) (fun st=>Dz (eR st))<|wD (fun st=>BC (v:=.bool !dE) (eR st) s (eR st))<|Ag<|Ab ?_;rcases Ak (!dE) with bE|bE
               ·replace a:=Az a bE;have iB:dE=false:=by simpa using bE
                refine AD rfl bE<|Af<|Ad<|wA (v:=I 1) rfl<|Ag<|Ab<|AI<|Bi<|Ax<|Ax ?_;obtain rfl:=oi a;refine B4 (fun st=>?_);exact .inl ⟨rfl,(1:Int),rfl,qz st,qd st,sp st 2 rfl,fU⟩
               ·replace a:=AA a bE;have iC:dE=true:=by simpa using bE
                refine AE rfl bE<|AL<|Bs<|Ab<|Ad<|wM (v:=I aN) bA ?_;replace a:=AK a;obtain⟨hU,a⟩:=a;refine wD (fun st=>B0 (eR st) (eR st) hU)<|wA (v:=I (aN+1)) rfl<|Ag ?_;have fV:=((aO.ext bN).ext cP);have ⟨dZ,d0,d1,d2,d3⟩:=Tw c9 dA dB dC dD (mt (Ah bN) (Ah cP));have d4:=(cF.mv (Ah cP));refine Bw bU (Nat.lt_succ_self _) (fun st=>?_);exact⟨(aN+1),a,qz st,qd st,sp st 1 aS,sp st 7 rfl,fU,fV,dZ,d0,d1,d2,d3,d4⟩
             ·replace a:=AA a cE;refine AE rfl cE<|Cd<|AB<|AB ?_;obtain rfl:=oi a;refine B4 (fun st=>?_);exact .inr ⟨rfl,(),rfl,qz st,qd st,dY⟩
           case hH=>
            rintro bX iQ iZ (⟨rfl,bM,rfl,cG,cH,e3,cQ⟩|⟨rfl,bM,rfl,cG,cH,cQ⟩)
            ·skip
             replace a:=Eg a;refine Cn (X:=X0) (N:=149) cG cH<|Bi<|Ax ?_;obtain rfl:=oi a;refine AJ rfl e3 ?_;exact⟨cQ.Bc,rfl⟩
            ·skip
             replace a:=Eh a;refine Cn (X:=X0) (N:=149) cG cH<|Bn<|Ab<|Af<|Ad<|wA (v:=I 0) rfl<|Ag<|Ab<|AI ?_;obtain rfl:=oi a;refine AJ rfl rfl ?_;exact⟨cQ.Bc,rfl⟩
theorem a98 q a(Z:Nat→Prop) w i(j:Oe q a=some i):
 Cw Tryz.prog 98 #[.agg #[I a.Lo,I a.Hi]] w (fun v w'=>Ext w w'∧(Hd AM).R w' (zf Z w []) v i):=by
 unfold Oe at j;refine AS (N:=8) Tryz.func98 rfl rfl (by simp) ?_;intro r ha s;have h:=sA 0 ha;clear ha;have e:Hp FN [] w [] w:=Hp.start (Cc.none w);refine Af<|Ad<|wE (fun st=>Ci (v:=.agg #[I a.Lo,I a.Hi]) (cs:= #[I a.Lo,I a.Hi]) (ee st h) rfl) ?_;rintro _ w1 ⟨b1,rfl,d⟩;have f:=e.nb d;have o:=e.Cr d;refine wE (fun st=>DH (cs:= #[I 0,I 0]) UK rfl) ?_;rintro _ w2 ⟨b2,rfl,b⟩;have k:=f.nb b;have p:=f.Cr b;refine Ag<|Ab<|Af<|Ad<|wD (fun st=>Ai (eR st) (JL _ _)) ?_;have c:=(d.bk.ext b.gr);refine wD (fun st=>AG (v:=I a.Lo) Bz (eR st) c rfl)<|wD (fun st=>Ai (eR st) (NU _ _))<|wD (fun st=>AG (v:=I a.Hi) Bz (eR st) c rfl)<|wD (fun st=>HS (vs:= #[(0,I a.Lo),(1,I a.Hi)]) (v:=.agg #[I a.Lo,I a.Hi]) (NF (eR st) (eR st)) (by kernel_rfl))<|Dk rfl rfl (fun st=>CS (n:=2) (l:=[I a.Lo,I a.Hi]) (EZ:= #[I a.Lo,I a.Hi]) (eR st) (eR st) SQ b.bk rfl rfl (show 0+2≤2 by decide) (Cg rfl) rfl) ?_;rintro _ t g;have m:=k.gr g.gr 0 rfl;refine Ag<|Ab<|AI ?_;obtain rfl:=oi j;refine Ku (v:=.agg #[I a.Lo,I a.Hi]) rfl rfl (GP PG g.bk rfl rfl) ?_;exact⟨m.Bc,⟨_,rfl,rfl⟩⟩
theorem a99 z d a b(Z:Nat→Prop) w(j:Sl (Ay .i64) w Z a b d) t(f:OF z d=some t):
 Cw Tryz.prog 99 #[.slice a d.length b] w (fun v w'=>Ext w w'∧(Gp (Ay .i64)).R w' (zf Z w []) v t):=by
 unfold OF at f;refine AS (N:=6) Tryz.func99 rfl rfl (by simp) ?_;intro aC ha aD;have s:=sA 0 ha;clear ha;have m:Hp FN [] w [] w:=Hp.start (Cc.none w);have g:=j.mv (Bh (Z:=Z) (L:=[]) w);refine Af<|Ad<|wA (v:=.slice none 0 0) rfl<|Ag<|Ab<|Af<|Ad<|wE (fun st=>De (e:=3) (vs:= #[]) (cs:= #[]) Xh (by kernel_rfl)) ?_;rintro _ w1 ⟨b1,rfl,c⟩;have i:=m.nb c;have l:=m.Cr c;refine wM (v:=.slice a d.length b) s ?_;have u:BY (Ay .i64) 3 w.heap.size w1 (zf Z w [some b1]) (some ⟨b1,0,none⟩) 0 ([]:List Int):=NJ (DQ:=[]) c.bk l trivial rfl (by simp[maxLen]);replace f:=Ck f;obtain⟨o,f⟩:=f;have h:=(g.mv (AP c));refine wE (fun st=>HY (ys:=d) Tryz.underlying31 Hv rfl rfl (by decide) (eR st) rfl (eR st) u h.n (by have:=o;simp only[maxLen];omega) (by have:=o;omega) i.sz) ?_;rintro _ aE ⟨aA,aB,rfl,p,q,x⟩;have r:=i.row p 0 rfl q;have y:=ED x (i.DN p 0 rfl (fun k hk=>(q k hk).1));refine wA (v:=.slice aA ((([]:List Int)++d).length) aB) rfl<|Ag<|Ab<|AI ?_;obtain rfl:=oi f;refine AJ rfl rfl ?_;exact⟨r.Bc,⟨_,_,rfl,r.IA (M:=[]) 0 rfl [] rfl trivial y⟩⟩
set_option maxHeartbeats 4000000 in
theorem a27 cT s y z aA aB aC aD(Z:Nat→Prop) w(fX:Sl AM w Z y z s.AF)(fY:Sl (BO (Ay .i64)) w Z aA aB s.BW)(fZ:Sl AQ w Z aC aD s.Bt) hQ(c:KG cT s=some hQ):
 Cw Tryz.prog 27 #[.agg (AU y z aA aB aC aD s).toArray] w (fun v w'=>Ext w w'∧(Hd ZV).R w' (zf Z w []) v hQ):=by
 unfold KG at c;refine AS (N:=70) Tryz.func27 rfl rfl (by simp) ?_;intro iW ha iX;have gI:=sA 0 ha;clear ha;have gE:Hp FN [] w [] w:=Hp.start (Cc.none w);have ⟨d8,d9,eA⟩:=EW fX fY fZ (Bh (Z:=Z) (L:=[]) w);refine Af<|Ad<|wE (fun st=>Ci (v:=.agg (AU y z aA aB aC aD s).toArray) (cs:=(AU y z aA aB aC aD s).toArray) (ee st gI) rfl) ?_;rintro _ w1 ⟨b1,rfl,d4⟩;have gF:=gE.nb d4;have iG:=gE.Cr d4;refine wE (fun st=>DH (cs:= #[.slice none 0 0,.slice none 0 0,.slice none 0 0]) Yx rfl) ?_;rintro _ w2 ⟨b2,rfl,c8⟩;have gG:=gF.nb c8;have iH:=gF.Cr c8;refine Ag<|Ab<|Af<|Ad<|wE (fun st=>DH (cs:= #[.slice none 0 0,.slice none 0 0,.slice none 0 0]) Yx rfl) ?_;rintro _ iN ⟨b3,rfl,cW⟩;have hR:=gG.nb cW;have iI:=gG.Cr cW;refine Ag<|Ab<|Af<|Af<|Ad<|wA (v:=I 0) rfl<|Ag<|Ab<|AT ?_;have hS:=hR.nil;have hT:BY AM 131 w.heap.size iN (zf Z w [none,some b3,some b2,some b1]) none 0 ([]:List AN):=BY.nil _ _ _ _ _;replace c:=bind_some c;obtain⟨z4,cX,c⟩:=c;refine Cm (fun c9 o p=>(c9=.exit 0∧∃a d,o.tmps.size=70∧o.defers=(X0).ds∧sl o 1=pt b1 0∧sl o 2=pt b2 0∧sl o 3=pt b3 0∧Hp FN [] w [ob a,some b3,some b2,some b1] p∧BY AM 131 w.heap.size p (zf Z w [ob a,some b3,some b2,some b1]) a d z4∧Bk p b1 26 (AU y z aA aB aC aD s).toArray∧Bk p b2 38 #[.slice none 0 0,.slice none 0 0,.slice none 0 0]∧Bk p b3 38 #[.slice a z4.length d,.slice none 0 0,.slice none 0 0]∧Sl AM p (zf Z w [ob a,some b3,some b2,some b1]) y z s.AF∧Sl (BO (Ay .i64)) p (zf Z w [ob a,some b3,some b2,some b1]) aA aB s.BW∧Sl AQ p (zf Z w [ob a,some b3,some b2,some b1]) aC aD s.Bt)) ?hU ?hV
 case hU=>
  clear c;refine Cl (fun(cB:Nat) (o:Act) (p:World)=>∃aY,∃aI,∃r aU,Ik cT s cB aY aI=some z4∧o.tmps.size=70∧o.defers=(X0).ds∧sl o 1=pt b1 0∧sl o 2=pt b2 0∧sl o 3=pt b3 0∧sl o 4=I aY∧Hp FN [] w [ob r,some b3,some b2,some b1] p∧BY AM 131 w.heap.size p (zf Z w [ob r,some b3,some b2,some b1]) r aU aI∧Bk p b1 26 (AU y z aA aB aC aD s).toArray∧Bk p b2 38 #[.slice none 0 0,.slice none 0 0,.slice none 0 0]∧Bk p b3 38 #[.slice r aI.length aU,.slice none 0 0,.slice none 0 0]∧Sl AM p (zf Z w [ob r,some b3,some b2,some b1]) y z s.AF∧Sl (BO (Ay .i64)) p (zf Z w [ob r,some b3,some b2,some b1]) aA aB s.BW∧Sl AQ p (zf Z w [ob r,some b3,some b2,some b1]) aC aD s.Bt) cT ?hW ?hX
  case hW=>
   intro st;have f0:=((d4.bk.ext c8.gr).ext cW.gr);have f1:=(c8.bk.ext cW.gr);have f2:=cW.bk;have ⟨eB,eC,eD⟩:=EW d8 d9 eA (mt (AP d4) (mt (AP c8) (mt (AP cW) CA)));exact⟨(0:Int),([]:List AN),none,0,cX,qz st,qd st,sp st 1 rfl,sp st 2 rfl,sp st 3 rfl,sp st 4 rfl,hS,hT,f0,f1,f2,eB,eC,eD⟩
  case hX=>
   rintro(_|cB) iY iZ ⟨aY,aI,r,aU,cX,gJ,gK,b9,d5,cA,c4,eV,bJ,bK,dA,cC,bH,cD,cE⟩
   ·exact absurd (show none=some _ from cX) (by simp)
   rw[Ik.eq_2] at cX;have c:=cX;clear cX;refine B7 (N:=70) gJ gK<|Af<|Af<|Ad<|wM (v:=I aY) c4<|wD (fun st=>Ai (ee st b9) (ES _ _))<|wD (fun st=>AG (v:=.slice y s.AF.length z) Fz (eR st) bK rfl)<|wD (fun st=>Bu Tryz.underlying22 (eR st))<|wD (fun st=>CO (eR st) (eR st))<|Ag<|Ab ?_;rcases Ak (decide (aY<(s.AF.length:Int))) with dB|dB
   ·replace c:=Az c dB;refine AD rfl dB<|AL<|Ab<|Af<|AT ?_;replace c:=AW c;obtain⟨i8,eW,hY,hZ,h3,c⟩:=c;obtain⟨iO,iP,_,h4,rfl,h6⟩:=Sl.elem bH (by decide) hZ;replace c:=bind_some c;obtain⟨a9,h7,c⟩:=c;refine B9 9 [Kc (pt b3 0),Kc (.slice r aI.length aU),Kc (pt b1 0),Kc (.slice y s.AF.length z),Kc (I aY),Kc (pt iO (iP+i8*2)),Kc (.agg #[I eW.Lo,I eW.Hi]),Kc (.agg #[I a9.Lo,I a9.Hi]),Kv (Gp AM) (zf Z w [ob r,some b3,some b2,some b1]) [a9]] mixed rfl rfl
        (Aa (oD (fun K=>Ai (es ((K.out 3 rfl).trans cA)) (OQ _ _)))
        (Aa (oD (fun K=>AG Qb (es (K.dq 0 15)) (cC.ext K.AO) rfl))
        (Aa (oD (fun K=>Ai (es ((K.out 1 rfl).trans b9)) (ES _ _)))
        (Aa (oD (fun K=>AG Fz (es (K.dq 2 17)) (bK.ext K.AO) rfl))
        (Aa (oD (fun K=>Aq (es ((K.out 4 rfl).trans c4))))
        (Aa (oD (fun K=>BR (k:=i8) Tryz.underlying22 G0 (es (K.dq 3 18)) h4 (es (K.dq 4 19)) hY h3))
        (Aa (oD (fun K=>Ew (l:=[I eW.Lo,I eW.Hi]) Gk (es (K.dq 5 20)) (h6.mv (Ah K.AO)) rfl rfl))
        (Aa (Dl rfl rfl (fun a' w' ph K=>(Ar Acy rfl (CR (es (K.dq 6 21))) (a98 cT eW ZA _ a9 h7)).mono (fun _ _ h=>⟨(by obtain⟨_,rfl,rfl⟩:=h.2;rfl),h.1⟩)))
        (Aa (Dl rfl rfl (fun a' w' ph K=>(De (e:=131) (vs:= #[(0,.agg #[I a9.Lo,I a9.Hi])]) (cs:= #[I a9.Lo,I a9.Hi]) (JN (es (K.dq 7 22))) (by kernel_rfl)).mono (fun u CJ ⟨h8,hu,hn⟩=>⟨⟨_,_,hu,LY (xs:=[a9]) (DQ:=[[I a9.Lo,I a9.Hi]]) hn.bk ((eV.ext K.AO).kn (Nat.le_of_eq hn.Jj.symm)) (R2.mv (Ah hn.gr) (show R2 AM w' (zf Z w [ob r,some b3,some b2,some b1]) [[I a9.Lo,I a9.Hi]] [a9] from⟨rfl,trivial⟩)) rfl (Nat.le_refl _)⟩,hn.gr⟩)))
        (B8 _)))))))))) ?_
    intro jE;rintro _ rfl _ rfl _ rfl _ rfl _ rfl _ rfl _ rfl _ rfl _ ⟨iJ,iK,rfl,eX⟩ cF;have cG:=eV.ext cF;have dC:=(bJ.ext cF (Ah cF));replace c:=Ck c;obtain⟨eY,c⟩:=c;refine wE (fun st=>HY (ys:=[a9]) Tryz.underlying35 Ady rfl rfl (by decide) (eR st) rfl (eR st) dC eX.n (by have:=eY;simp only[maxLen];omega) (by have:=eY;omega) cG.sz) ?_;rintro _ i0 ⟨eZ,e0,rfl,bO,dM,gL⟩;have cY:=cG.row bO 0 rfl dM;have gM:=ED gL (cG.DN bO 0 rfl (fun k hk=>(dM k hk).1));refine wD (fun st=>Ai (ee st cA) (OQ _ _)) ?_;have f3:=((cC.ext cF).gr bO (cG.nq 1 0));refine Dk rfl rfl (fun st=>CS (n:=1) (l:=[.slice eZ ((aI++[a9]).length) e0]) (EZ:= #[.slice eZ ((aI++[a9]).length) e0,.slice none 0 0,.slice none 0 0]) (eR st) (eR st) Ag0 f3 rfl rfl (show 0+1≤3 by decide) (Cg rfl) rfl) ?_;rintro _ i1 bI;have h9:=cY.gr bI.gr 1 rfl;refine Ag<|Bs<|Ab<|Ad<|wM (v:=I aY) c4 ?_;replace c:=AK c;obtain⟨gN,c⟩:=c;refine wD (fun st=>B0 (eR st) (eR st) gN)<|wA (v:=I (aY+1)) rfl<|Ag ?_;have e1:=(gM.gr bI.gr (fun k hk=>cY.ne 0 1 rfl (congrArg some hk) rfl) (cY.C4 bI.gr 1 rfl));have f4:=(((bK.ext cF).gr bO (cG.nq 3 0)).gr bI.gr (cY.nq 3 1));have f5:=(((dA.ext cF).gr bO (cG.nq 2 0)).gr bI.gr (cY.nq 2 1));have ⟨eE,eF,eG⟩:=EW bH cD cE (mt (Ah cF) (mt (cG.DN bO 0 rfl (fun k hk=>(dM k hk).1)) (cY.C4 bI.gr 1 rfl)));refine Bw cB (Nat.lt_succ_self _) (fun st=>?_);exact⟨(aY+1),(aI++[a9]),eZ,e0,c,qz st,qd st,sp st 1 b9,sp st 2 d5,sp st 3 cA,sp st 4 rfl,h9,e1,f4,f5,bI.bk,eE,eF,eG⟩
   ·replace c:=AA c dB;refine AE rfl dB<|Cd<|AB<|AB ?_;obtain rfl:=oi c;refine B4 (fun st=>?_);exact⟨rfl,r,aU,qz st,qd st,sp st 1 b9,sp st 2 d5,sp st 3 cA,eV,bJ,bK,dA,cC,bH,cD,cE⟩
 case hV=>
  rintro c9 iQ iA (⟨rfl,a,d,f6,f7,e2,e3,e4,gO,cH,e5,e6,e7,dN,dO,dP⟩);refine Cn (X:=X0) (N:=70) f6 f7<|Bn<|Ab<|Af<|Af<|Ad<|wA (v:=I 0) rfl<|Ag<|Ab<|AT ?_;have gP:=gO.nil;have gQ:BY (BO (Ay .i64)) 31 w.heap.size iA (zf Z w [none,ob a,some b3,some b2,some b1]) none 0 ([]:List (List Int)):=BY.nil _ _ _ _ _;replace c:=bind_some c;obtain⟨a4,bP,c⟩:=c;refine Cm (fun c9 o p=>(c9=.exit 2∧∃b g,o.tmps.size=70∧o.defers=(X0).ds∧sl o 1=pt b1 0∧sl o 2=pt b2 0∧sl o 3=pt b3 0∧Hp FN [] w [ob b,ob a,some b3,some b2,some b1] p∧BY (BO (Ay .i64)) 31 w.heap.size p (zf Z w [ob b,ob a,some b3,some b2,some b1]) b g a4∧BY AM 131 w.heap.size p (zf Z w [ob b,ob a,some b3,some b2,some b1]) a d z4∧Bk p b1 26 (AU y z aA aB aC aD s).toArray∧Bk p b2 38 #[.slice none 0 0,.slice none 0 0,.slice none 0 0]∧Bk p b3 38 #[.slice a z4.length d,.slice b a4.length g,.slice none 0 0]∧Sl AM p (zf Z w [ob b,ob a,some b3,some b2,some b1]) y z s.AF∧Sl (BO (Ay .i64)) p (zf Z w [ob b,ob a,some b3,some b2,some b1]) aA aB s.BW∧Sl AQ p (zf Z w [ob b,ob a,some b3,some b2,some b1]) aC aD s.Bt)) ?gR ?gS
  case gR=>
   clear c;refine Cl (fun(cB:Nat) (o:Act) (p:World)=>∃aJ,∃aE,∃i aL,H9 cT s cB aJ aE=some a4∧o.tmps.size=70∧o.defers=(X0).ds∧sl o 1=pt b1 0∧sl o 2=pt b2 0∧sl o 3=pt b3 0∧sl o 5=I aJ∧Hp FN [] w [ob i,ob a,some b3,some b2,some b1] p∧BY AM 131 w.heap.size p (zf Z w [ob i,ob a,some b3,some b2,some b1]) a d z4∧BY (BO (Ay .i64)) 31 w.heap.size p (zf Z w [ob i,ob a,some b3,some b2,some b1]) i aL aE∧Bk p b1 26 (AU y z aA aB aC aD s).toArray∧Bk p b2 38 #[.slice none 0 0,.slice none 0 0,.slice none 0 0]∧Bk p b3 38 #[.slice a z4.length d,.slice i aE.length aL,.slice none 0 0]∧Sl AM p (zf Z w [ob i,ob a,some b3,some b2,some b1]) y z s.AF∧Sl (BO (Ay .i64)) p (zf Z w [ob i,ob a,some b3,some b2,some b1]) aA aB s.BW∧Sl AQ p (zf Z w [ob i,ob a,some b3,some b2,some b1]) aC aD s.Bt) cT ?gT ?gU
   case gT=>
    intro st;have cI:=(cH.up CA);have e8:=e5;have e9:=e6;have fA:=e7;have ⟨dQ,dR,dS⟩:=EW dN dO dP CA;exact⟨(0:Int),([]:List (List Int)),none,0,bP,qz st,qd st,sp st 1 e2,sp st 2 e3,sp st 3 e4,sp st 5 rfl,gP,cI,gQ,e8,e9,fA,dQ,dR,dS⟩
   case gU=>
    rintro(_|cB) iR iS ⟨aJ,aE,i,aL,bP,f8,f9,bL,dD,bM,cJ,c5,a5,bA,bG,cZ,bQ,bW,bB,bX⟩
    ·exact absurd (show none=some _ from bP) (by simp)
    rw[H9.eq_2] at bP;have c:=bP;clear bP;refine B7 (N:=70) f8 f9<|Af<|Af<|Ad<|wM (v:=I aJ) cJ<|wD (fun st=>Ai (ee st bL) (Ei _ _))<|wD (fun st=>AG (v:=.slice aA s.BW.length aB) El (eR st) bG rfl)<|wD (fun st=>Bu Tryz.underlying23 (eR st))<|wD (fun st=>CO (eR st) (eR st))<|Ag<|Ab ?_;rcases Ak (decide (aJ<(s.BW.length:Int))) with cK|cK
    ·replace c:=Az c cK;refine AD rfl cK<|AL<|Ab<|Af<|AT ?_;replace c:=AW c;obtain⟨i18,gH,gV,gW,gX,c⟩:=c;obtain⟨iB,iC,_,gY,⟨d6,d7,rfl,fB⟩,gZ⟩:=Sl.C1 bB rfl gW;replace c:=bind_some c;obtain⟨aR,g0,c⟩:=c;refine B9 9 [Kc (pt b3 1),Kc (.slice i aE.length aL),Kc (pt b1 1),Kc (.slice aA s.BW.length aB),Kc (I aJ),Kc (pt iB (iC+i18)),Kc (.slice d6 gH.length d7),Kv (Gp (Ay .i64)) (zf Z w [ob i,ob a,some b3,some b2,some b1]) aR,Kv (Gp (BO (Ay .i64))) (zf Z w [ob i,ob a,some b3,some b2,some b1]) [aR]] mixed rfl rfl
         (Aa (oD (fun K=>Ai (es ((K.out 3 rfl).trans bM)) (PH _ _)))
         (Aa (oD (fun K=>AG El (es (K.dq 0 33)) (bQ.ext K.AO) rfl))
         (Aa (oD (fun K=>Ai (es ((K.out 1 rfl).trans bL)) (Ei _ _)))
         (Aa (oD (fun K=>AG El (es (K.dq 2 35)) (bG.ext K.AO) rfl))
         (Aa (oD (fun K=>Aq (es ((K.out 5 rfl).trans cJ))))
         (Aa (oD (fun K=>AX (k:=i18) Tryz.underlying23 FX (es (K.dq 3 36)) gY (es (K.dq 4 37)) gV gX))
         (Aa (oD (fun K=>Bg Eu (es (K.dq 5 38)) (gZ.mv (Ah K.AO)) rfl))
         (Aa (Dl rfl rfl (fun a' w' ph K=>(Ar Agu rfl (CR (es (K.dq 6 39))) (a99 cT gH d6 d7 (zf Z w [ob i,ob a,some b3,some b2,some b1]) _ (fB.mv (Ah K.AO)) aR g0)).mono (fun _ _ h=>⟨(Gp (Ay .i64)).mv h.2 ((c5.ext K.AO).Da (Nat.le_refl _)),h.1⟩)))
         (Aa (Dl rfl rfl (fun a' w' ph K=>match K.dq 7 40 with|⟨aV,aW,gA,c0⟩=>(De (e:=31) (vs:= #[(0,.slice aV aR.length aW)]) (cs:= #[.slice aV aR.length aW]) (JN (es (t:=40) (v:=.slice aV aR.length aW) gA)) (by kernel_rfl)).mono (fun u CJ ⟨h8,hu,hn⟩=>⟨⟨_,_,hu,LY (xs:=[aR]) (DQ:=[[.slice aV aR.length aW]]) hn.bk ((c5.ext K.AO).kn (Nat.le_of_eq hn.Jj.symm)) (R2.mv (Ah hn.gr) (show R2 (BO (Ay .i64)) w' (zf Z w [ob i,ob a,some b3,some b2,some b1]) [[.slice aV aR.length aW]] [aR] from⟨⟨_,_,rfl,c0⟩,trivial⟩)) rfl (Nat.le_refl _)⟩,hn.gr⟩)))
         (B8 _)))))))))) ?_
     intro i2;rintro _ rfl _ rfl _ rfl _ rfl _ rfl _ rfl _ rfl _ ⟨aV,aW,rfl,c0⟩ _ ⟨iD,iE,rfl,eH⟩ aZ;have a0:=c5.ext aZ;have cU:=(bA.ext aZ (Ah aZ));replace c:=Ck c;obtain⟨fC,c⟩:=c;refine wE (fun st=>HY (ys:=[aR]) Tryz.underlying23 Np rfl rfl (by decide) (eR st) rfl (eR st) cU eH.n (by have:=fC;simp only[maxLen];omega) (by have:=fC;omega) a0.sz) ?_;rintro _ i3 ⟨fD,fE,rfl,bC,c6,g1⟩;have bD:=a0.row bC 0 rfl c6;have g2:=ED g1 (a0.DN bC 0 rfl (fun k hk=>(c6 k hk).1));refine wD (fun st=>Ai (ee st bM) (PH _ _)) ?_;have fF:=((bQ.ext aZ).gr bC (a0.nq 2 0));refine Dk rfl rfl (fun st=>CS (n:=1) (l:=[.slice fD ((aE++[aR]).length) fE]) (EZ:= #[.slice a z4.length d,.slice fD ((aE++[aR]).length) fE,.slice none 0 0]) (eR st) (eR st) Ad9 fF rfl rfl (show 1+1≤3 by decide) (Cg rfl) rfl) ?_;rintro _ i4 a2;have g3:=bD.gr a2.gr 2 rfl;refine Ag<|Bs<|Ab<|Ad<|wM (v:=I aJ) cJ ?_;replace c:=AK c;obtain⟨g4,c⟩:=c;refine wD (fun st=>B0 (eR st) (eR st) g4)<|wA (v:=I (aJ+1)) rfl<|Ag ?_;have cL:=(((a5.ext aZ (Ah aZ)).gr bC (fun k hk=>a0.ne 1 0 rfl (congrArg some hk) rfl) (a0.DN bC 0 rfl (fun k hk=>(c6 k hk).1))).gr a2.gr (fun k hk=>bD.ne 1 2 rfl (congrArg some hk) rfl) (bD.C4 a2.gr 2 rfl));have eI:=(g2.gr a2.gr (fun k hk=>bD.ne 0 2 rfl (congrArg some hk) rfl) (bD.C4 a2.gr 2 rfl));have fG:=(((bG.ext aZ).gr bC (a0.nq 4 0)).gr a2.gr (bD.nq 4 2));have fH:=(((cZ.ext aZ).gr bC (a0.nq 3 0)).gr a2.gr (bD.nq 3 2));have ⟨dT,dU,dV⟩:=EW bW bB bX (mt (Ah aZ) (mt (a0.DN bC 0 rfl (fun k hk=>(c6 k hk).1)) (bD.C4 a2.gr 2 rfl)));refine Bw cB (Nat.lt_succ_self _) (fun st=>?_);exact⟨(aJ+1),(aE++[aR]),fD,fE,c,qz st,qd st,sp st 1 bL,sp st 2 dD,sp st 3 bM,sp st 5 rfl,g3,cL,eI,fG,fH,a2.bk,dT,dU,dV⟩
    ·replace c:=AA c cK;refine AE rfl cK<|Cd<|AB<|AB ?_;obtain rfl:=oi c;refine B4 (fun st=>?_);exact⟨rfl,i,aL,qz st,qd st,sp st 1 bL,sp st 2 dD,sp st 3 bM,c5,bA,a5,bG,cZ,bQ,bW,bB,bX⟩
  case gS=>
   rintro c9 iL g5 (⟨rfl,b,g,fI,fJ,eJ,eK,eM,gB,bR,bZ,eN,eO,eP,dE,dF,dG⟩);refine Cn (X:=X0) (N:=70) fI fJ<|Bn<|Ab<|Af<|Af<|Ad<|wA (v:=I 0) rfl<|Ag<|Ab<|AT ?_;have g6:=gB.nil;have g7:BY AQ 133 w.heap.size g5 (zf Z w [none,ob b,ob a,some b3,some b2,some b1]) none 0 ([]:List FD):=BY.nil _ _ _ _ _;replace c:=bind_some c;obtain⟨z24,bS,c⟩:=c;refine Cm (fun c9 o p=>(c9=.exit 4∧∃j x,o.tmps.size=70∧o.defers=(X0).ds∧sl o 2=pt b2 0∧sl o 3=pt b3 0∧Hp FN [] w [ob j,ob b,ob a,some b3,some b2,some b1] p∧BY (BO (Ay .i64)) 31 w.heap.size p (zf Z w [ob j,ob b,ob a,some b3,some b2,some b1]) b g a4∧BY AQ 133 w.heap.size p (zf Z w [ob j,ob b,ob a,some b3,some b2,some b1]) j x z24∧BY AM 131 w.heap.size p (zf Z w [ob j,ob b,ob a,some b3,some b2,some b1]) a d z4∧Bk p b2 38 #[.slice none 0 0,.slice none 0 0,.slice none 0 0]∧Bk p b3 38 #[.slice a z4.length d,.slice b a4.length g,.slice j z24.length x])) ?g8 ?g9
   case g8=>
    clear c;refine Cl (fun(cB:Nat) (o:Act) (p:World)=>∃aK,∃aF,∃m aM,Ia cT s cB aK aF=some z24∧o.tmps.size=70∧o.defers=(X0).ds∧sl o 1=pt b1 0∧sl o 2=pt b2 0∧sl o 3=pt b3 0∧sl o 6=I aK∧Hp FN [] w [ob m,ob b,ob a,some b3,some b2,some b1] p∧BY (BO (Ay .i64)) 31 w.heap.size p (zf Z w [ob m,ob b,ob a,some b3,some b2,some b1]) b g a4∧BY AM 131 w.heap.size p (zf Z w [ob m,ob b,ob a,some b3,some b2,some b1]) a d z4∧BY AQ 133 w.heap.size p (zf Z w [ob m,ob b,ob a,some b3,some b2,some b1]) m aM aF∧Bk p b1 26 (AU y z aA aB aC aD s).toArray∧Bk p b2 38 #[.slice none 0 0,.slice none 0 0,.slice none 0 0]∧Bk p b3 38 #[.slice a z4.length d,.slice b a4.length g,.slice m aF.length aM]∧Sl AM p (zf Z w [ob m,ob b,ob a,some b3,some b2,some b1]) y z s.AF∧Sl (BO (Ay .i64)) p (zf Z w [ob m,ob b,ob a,some b3,some b2,some b1]) aA aB s.BW∧Sl AQ p (zf Z w [ob m,ob b,ob a,some b3,some b2,some b1]) aC aD s.Bt) cT ?hA ?hB
    case hA=>
     intro st;have b4:=(bR.up CA);have cM:=(bZ.up CA);have fK:=eN;have fL:=eO;have fM:=eP;have ⟨dW,dX,dY⟩:=EW dE dF dG CA;exact⟨(0:Int),([]:List FD),none,0,bS,qz st,qd st,sp st 1 eJ,sp st 2 eK,sp st 3 eM,sp st 6 rfl,g6,b4,cM,g7,fK,fL,fM,dW,dX,dY⟩
    case hB=>
     rintro(_|cB) iT iU ⟨aK,aF,m,aM,bS,gC,gD,cN,dH,bN,cO,dZ,aX,a8,bE,bT,c1,c2,dI,dJ,bY⟩
     ·exact absurd (show none=some _ from bS) (by simp)
     rw[Ia.eq_2] at bS;have c:=bS;clear bS;refine B7 (N:=70) gC gD<|Af<|Af<|Ad<|wM (v:=I aK) cO<|wD (fun st=>Ai (ee st cN) (K1 _ _))<|wD (fun st=>AG (v:=.slice aC s.Bt.length aD) LZ (eR st) bT rfl)<|wD (fun st=>Bu Tryz.underlying24 (eR st))<|wD (fun st=>CO (eR st) (eR st))<|Ag<|Ab ?_;rcases Ak (decide (aK<(s.Bt.length:Int))) with cP|cP
     ·replace c:=Az c cP;refine AD rfl cP<|AL<|Ab<|Af<|AT<|Af<|Ad<|wD (fun st=>Ai (ee st cN) (K1 _ _))<|wD (fun st=>AG (v:=.slice aC s.Bt.length aD) LZ (eR st) bT rfl)<|wM (v:=I aK) cO ?_;replace c:=AW c;obtain⟨i27,f,hC,hD,hE,c⟩:=c;obtain⟨i5,i6,_,hF,rfl,hG⟩:=Sl.elem bY (by decide) hD;refine wD (fun st=>BR (k:=i27) Tryz.underlying24 Ro (eR st) hF (eR st) hC hE)<|wD (fun st=>Ew (l:=[.bool f.C0,I f.Number,I f.Bq,I f.Br]) Q1 (eR st) hG rfl rfl)<|wE (fun st=>DH (cs:= #[.bool false,I 0,I 0,I 0]) Abv rfl) ?_;rintro _ i7 ⟨dK,rfl,aH⟩;have aN:=dZ.nb aH;have iF:=dZ.Cr aH;refine Dk rfl rfl (fun st=>CS (n:=4) (l:=[.bool f.C0,I f.Number,I f.Bq,I f.Br]) (EZ:= #[.bool f.C0,I f.Number,I f.Bq,I f.Br]) (eR st) (eR st) Ro aH.bk rfl rfl (show 0+4≤4 by decide) (Cg rfl) rfl) ?_;rintro _ i9 aG;have fN:=aN.gr aG.gr 0 rfl;refine Ag<|Ab ?_;have dL:=((c2.ext aH.gr).gr aG.gr (aN.nq 4 0));replace c:=bind_some c;obtain⟨q,hH,c⟩:=c;refine B9 11 [Kc (pt b3 2),Kc (.slice m aF.length aM),Kc (pt dK 0),Kc (.bool f.C0),Kc (pt dK 1),Kc (I f.Number),Kc (pt dK 2),Kc (.agg #[I f.Bq,I f.Br]),Kc (.agg #[I q.Lo,I q.Hi]),Kc (.agg #[.bool f.C0,I f.Number,I q.Lo,I q.Hi]),Kv (Gp AQ) (zf Z w [some dK,ob m,ob b,ob a,some b3,some b2,some b1]) [(⟨f.C0,f.Number,q.Lo,q.Hi⟩:FD)]] mixed rfl rfl
          (Aa (oD (fun K=>Ai (es ((K.out 3 rfl).trans bN)) (Uf _ _)))
          (Aa (oD (fun K=>AG Xx (es (K.dq 0 56)) (dL.ext K.AO) rfl))
          (Aa (oD (fun K=>Ai (es ((K.out 7 rfl).trans rfl)) (Qc _ _)))
          (Aa (oD (fun K=>AG OP (es (K.dq 2 58)) (aG.bk.ext K.AO) rfl))
          (Aa (oD (fun K=>Ai (es ((K.out 7 rfl).trans rfl)) (PK _ _)))
          (Aa (oD (fun K=>AG Bz (es (K.dq 4 60)) (aG.bk.ext K.AO) rfl))
          (Aa (oD (fun K=>Ai (es ((K.out 7 rfl).trans rfl)) (HK _ _)))
          (Aa (oD (fun K=>AR (l:=[I f.Bq,I f.Br]) Gk (es (K.dq 6 62)) (aG.bk.ext K.AO) rfl rfl))
          (Aa (Dl rfl rfl (fun a' w' ph K=>(Ar Acy rfl (CR (es (K.dq 7 63))) (a98 cT (⟨f.Bq,f.Br⟩:AN) ZA _ q hH)).mono (fun _ _ h=>⟨(by obtain⟨_,rfl,rfl⟩:=h.2;rfl),h.1⟩)))
          (Aa (oD (fun K=>HS (vs:= #[(0,.bool f.C0),(1,I f.Number),(2,.agg #[I q.Lo,I q.Hi])]) (v:=.agg #[.bool f.C0,I f.Number,I q.Lo,I q.Hi]) (pm3 (es (K.dq 3 59)) (es (K.dq 5 61)) (es (K.dq 8 64))) (by kernel_rfl)))
          (Aa (Dl rfl rfl (fun a' w' ph K=>(De (e:=133) (vs:= #[(0,.agg #[.bool f.C0,I f.Number,I q.Lo,I q.Hi])]) (cs:= #[.bool f.C0,I f.Number,I q.Lo,I q.Hi]) (JN (es (K.dq 9 65))) (by kernel_rfl)).mono (fun u CJ ⟨h8,hu,hn⟩=>⟨⟨_,_,hu,LY (xs:=[(⟨f.C0,f.Number,q.Lo,q.Hi⟩:FD)]) (DQ:=[[.bool f.C0,I f.Number,I q.Lo,I q.Hi]]) hn.bk ((fN.ext K.AO).kn (Nat.le_of_eq hn.Jj.symm)) (R2.mv (Ah hn.gr) (show R2 AQ w' (zf Z w [some dK,ob m,ob b,ob a,some b3,some b2,some b1]) [[.bool f.C0,I f.Number,I q.Lo,I q.Hi]] [(⟨f.C0,f.Number,q.Lo,q.Hi⟩:FD)] from⟨rfl,trivial⟩)) rfl (Nat.le_refl _)⟩,hn.gr⟩)))
          (B8 _)))))))))))) ?_
      intro jA;rintro _ rfl _ rfl _ rfl _ rfl _ rfl _ rfl _ rfl _ rfl _ rfl _ rfl _ ⟨hO,hP,rfl,d0⟩ aO;have aP:=fN.ext aO;have cV:=(((bE.ext aH.gr (AP aH)).gr aG.gr (fun k hk=>aN.ne 1 0 rfl (congrArg some hk) rfl) (aN.C4 aG.gr 0 rfl)).ext aO (Ah aO));replace c:=Ck c;obtain⟨fO,c⟩:=c;refine wE (fun st=>HY (ys:=[(⟨f.C0,f.Number,q.Lo,q.Hi⟩:FD)]) Tryz.underlying36 Adz rfl rfl (by decide) (eR st) rfl (eR st) cV d0.n (by have:=fO;simp only[maxLen];omega) (by have:=fO;omega) aP.sz) ?_;rintro _ jB ⟨fP,fQ,rfl,aS,cQ,hI⟩;have aT:=aP.row aS 1 rfl cQ;have hJ:=ED hI (aP.DN aS 1 rfl (fun k hk=>(cQ k hk).1));refine wD (fun st=>Ai (ee st bN) (Uf _ _)) ?_;have fR:=((dL.ext aO).gr aS (aP.nq 4 1));refine Dk rfl rfl (fun st=>CS (n:=1) (l:=[.slice fP ((aF++[(⟨f.C0,f.Number,q.Lo,q.Hi⟩:FD)]).length) fQ]) (EZ:= #[.slice a z4.length d,.slice b a4.length g,.slice fP ((aF++[(⟨f.C0,f.Number,q.Lo,q.Hi⟩:FD)]).length) fQ]) (eR st) (eR st) Ag1 fR rfl rfl (show 2+1≤3 by decide) (Cg rfl) rfl) ?_;rintro _ jC aQ;have hL:=aT.gr aQ.gr 4 rfl;refine Ag<|Bs<|Ab<|Ad<|wM (v:=I aK) cO ?_;replace c:=AK c;obtain⟨hM,c⟩:=c;refine wD (fun st=>B0 (eR st) (eR st) hM)<|wA (v:=I (aK+1)) rfl<|Ag ?_;have hN:=hL.erase 0;have b5:=((((((aX.ext aH.gr (AP aH)).gr aG.gr (fun k hk=>aN.ne 2 0 rfl (congrArg some hk) rfl) (aN.C4 aG.gr 0 rfl)).ext aO (Ah aO)).gr aS (fun k hk=>aP.ne 2 1 rfl (congrArg some hk) rfl) (aP.DN aS 1 rfl (fun k hk=>(cQ k hk).1))).gr aQ.gr (fun k hk=>aT.ne 2 4 rfl (congrArg some hk) rfl) (aT.C4 aQ.gr 4 rfl)).up (Bp 0));have cR:=((((((a8.ext aH.gr (AP aH)).gr aG.gr (fun k hk=>aN.ne 3 0 rfl (congrArg some hk) rfl) (aN.C4 aG.gr 0 rfl)).ext aO (Ah aO)).gr aS (fun k hk=>aP.ne 3 1 rfl (congrArg some hk) rfl) (aP.DN aS 1 rfl (fun k hk=>(cQ k hk).1))).gr aQ.gr (fun k hk=>aT.ne 3 4 rfl (congrArg some hk) rfl) (aT.C4 aQ.gr 4 rfl)).up (Bp 0));have eQ:=((hJ.gr aQ.gr (fun k hk=>aT.ne 1 4 rfl (congrArg some hk) rfl) (aT.C4 aQ.gr 4 rfl)).up (Bp 0));have fS:=(((((bT.ext aH.gr).gr aG.gr (aN.nq 6 0)).ext aO).gr aS (aP.nq 6 1)).gr aQ.gr (aT.nq 6 4));have fT:=(((((c1.ext aH.gr).gr aG.gr (aN.nq 5 0)).ext aO).gr aS (aP.nq 5 1)).gr aQ.gr (aT.nq 5 4));have fU:=aQ.bk;have ⟨d1,d2,d3⟩:=EW dI dJ bY (mt (AP aH) (mt (aN.C4 aG.gr 0 rfl) (mt (Ah aO) (mt (aP.DN aS 1 rfl (fun k hk=>(cQ k hk).1)) (mt (aT.C4 aQ.gr 4 rfl) (Bp 0))))));refine Bw cB (Nat.lt_succ_self _) (fun st=>?_);exact⟨(aK+1),(aF++[(⟨f.C0,f.Number,q.Lo,q.Hi⟩:FD)]),fP,fQ,c,qz st,qd st,sp st 1 cN,sp st 2 dH,sp st 3 bN,sp st 6 rfl,hN,b5,cR,eQ,fS,fT,fU,d1,d2,d3⟩
     ·replace c:=AA c cP;refine AE rfl cP<|Cd<|AB<|AB ?_;obtain rfl:=oi c;refine B4 (fun st=>?_);exact⟨rfl,m,aM,qz st,qd st,sp st 2 dH,sp st 3 bN,dZ,aX,bE,a8,c1,c2⟩
   case g9=>
    rintro c9 iM iV (⟨rfl,j,x,fV,fW,c3,eS,a3,bU,bV,b6,eT,eU⟩);refine Cn (X:=X0) (N:=70) fV fW<|Bn<|Ab<|Af<|Ad<|wD (fun st=>AR (l:=[.slice a z4.length d,.slice b a4.length g,.slice j z24.length x]) N9 (ee st eS) eU rfl rfl)<|Dk rfl rfl (fun st=>CS (n:=3) (l:=[.slice a z4.length d,.slice b a4.length g,.slice j z24.length x]) (EZ:= #[.slice a z4.length d,.slice b a4.length g,.slice j z24.length x]) (ee st c3) (eR st) Aeb eT rfl rfl (show 0+3≤3 by decide) (Cg rfl) rfl) ?_;rintro _ jD bF;have c7:=a3.gr bF.gr 4 rfl;refine Ag<|Ab<|AI ?_;obtain rfl:=oi c;refine Ku (v:=.agg #[.slice a z4.length d,.slice b a4.length g,.slice j z24.length x]) rfl c3 (GP N9 bF.bk rfl rfl) ?_;have cS:=(b6.gr bF.gr (fun k hk=>a3.ne 2 4 rfl (congrArg some hk) rfl) (a3.C4 bF.gr 4 rfl));have b7:=(bU.gr bF.gr (fun k hk=>a3.ne 1 4 rfl (congrArg some hk) rfl) (a3.C4 bF.gr 4 rfl));have b8:=(bV.gr bF.gr (fun k hk=>a3.ne 0 4 rfl (congrArg some hk) rfl) (a3.C4 bF.gr 4 rfl));exact⟨c7.Bc,⟨_,rfl,_,_,_,_,_,_,rfl,c7.IA (M:=[]) 2 rfl [] rfl trivial cS,c7.IA (M:=[]) 1 rfl [] rfl trivial b7,c7.IA (M:=[]) 0 rfl [] rfl trivial b8⟩⟩
theorem a23 aR b i j d e m n(Z:Nat→Prop) w(aS:Sl AM w Z i j b.AF)(aT:Sl (BO (Ay .i64)) w Z d e b.BW)(aU:Sl AQ w Z m n b.Bt) bC(a:Nl aR b=some bC):
 Cw Tryz.prog 23 #[.agg (AU i j d e m n b).toArray] w (fun v w'=>Ext w w'∧Dg.R w' (zf Z w []) v bC):=by
 unfold Nl at a;refine AS (N:=42) Tryz.func23 rfl rfl (by simp) ?_;intro bS ha bT;have aZ:=sA 0 ha;clear ha;have aX:Hp FN [] w [] w:=Hp.start (Cc.none w);have ⟨aJ,t,aK⟩:=EW aS aT aU (Bh (Z:=Z) (L:=[]) w);refine Af<|Ad<|wE (fun st=>Ci (v:=.agg (AU i j d e m n b).toArray) (cs:=(AU i j d e m n b).toArray) (ee st aZ) rfl) ?_;rintro _ w1 ⟨b1,rfl,p⟩;have aD:=aX.nb p;have bP:=aX.Cr p;refine wA (v:=.bool false) rfl<|Ag<|Ab<|Af<|Af<|Ad<|wD (fun st=>Ai (eR st) (ES _ _))<|wD (fun st=>AG (v:=.slice i b.AF.length j) Fz (eR st) p.bk rfl)<|wD (fun st=>Bu Tryz.underlying22 (eR st))<|wD (fun st=>HJ (eR st) (eR st))<|wM (v:=.bool (decide ((5:Int)<(b.AF.length:Int)))) rfl ?_;rcases Ak (decide ((5:Int)<(b.AF.length:Int))) with g|g
 ·replace a:=Az a g;refine Au (c:=true) rfl rfl (Ae rfl g) (by decide) rfl (by decide)<|Au (c:=true) rfl rfl (Ae rfl g) (by decide) rfl (by decide)<|Au (c:=true) rfl rfl (Ae rfl g) (by decide) rfl (by decide)<|Au (c:=true) rfl rfl (Ae rfl g) (by decide) rfl (by decide)<|wD (fun st=>AY (v:=.bool true) (eR st) g (eR st))<|wM (v:=.bool true) rfl<|Au rfl rfl rfl (by decide) rfl (by decide)<|Au rfl rfl rfl (by decide) rfl (by decide)<|Au rfl rfl rfl (by decide) rfl (by decide)<|Au rfl rfl rfl (by decide) rfl (by decide)<|wD (fun st=>AY (v:=.bool true) (eR st) rfl (eR st))<|Ag<|Ab<|AD rfl rfl<|Af<|Ad<|wA (v:=.bool false) rfl<|Ag<|Ab<|AI<|Ax ?_;obtain rfl:=oi a;refine AJ rfl rfl ?_;exact⟨aD.Bc,rfl⟩
 ·replace a:=AA a g;refine An rfl rfl (Ae rfl g) rfl (by decide) (fun st=>Ai (eR st) (Ei _ _))<|An rfl rfl (Ae rfl g) rfl (by decide) (fun st=>AG (v:=.slice d b.BW.length e) El (eR st) p.bk rfl)<|An rfl rfl (Ae rfl g) rfl (by decide) (fun st=>Bu Tryz.underlying23 (eR st))<|An rfl rfl (Ae rfl g) rfl (by decide) (fun st=>HJ (eR st) (eR st))<|wD (fun st=>BC (v:=.bool (decide ((5:Int)<(b.BW.length:Int)))) (eR st) g (eR st))<|wM (v:=.bool (decide ((5:Int)<(b.BW.length:Int)))) rfl ?_;rcases Ak (decide ((5:Int)<(b.BW.length:Int))) with h|h
  ·replace a:=Az a h;refine Au (c:=true) rfl rfl (Ae rfl h) (by decide) rfl (by decide)<|Au (c:=true) rfl rfl (Ae rfl h) (by decide) rfl (by decide)<|Au (c:=true) rfl rfl (Ae rfl h) (by decide) rfl (by decide)<|Au (c:=true) rfl rfl (Ae rfl h) (by decide) rfl (by decide)<|wD (fun st=>AY (v:=.bool true) (eR st) h (eR st))<|Ag<|Ab<|AD rfl rfl<|Af<|Ad<|wA (v:=.bool false) rfl<|Ag<|Ab<|AI<|Ax ?_;obtain rfl:=oi a;refine AJ rfl rfl ?_;exact⟨aD.Bc,rfl⟩
  ·replace a:=AA a h;refine An rfl rfl (Ae rfl h) rfl (by decide) (fun st=>Ai (eR st) (K1 _ _))<|An rfl rfl (Ae rfl h) rfl (by decide) (fun st=>AG (v:=.slice m b.Bt.length n) LZ (eR st) p.bk rfl)<|An rfl rfl (Ae rfl h) rfl (by decide) (fun st=>Bu Tryz.underlying24 (eR st))<|An rfl rfl (Ae rfl h) rfl (by decide) (fun st=>HJ (eR st) (eR st))<|wD (fun st=>BC (v:=.bool (decide ((7:Int)<(b.Bt.length:Int)))) (eR st) h (eR st))<|Ag<|Ab ?_;rcases Ak (decide ((7:Int)<(b.Bt.length:Int))) with aE|aE
   ·replace a:=Az a aE;refine AD rfl aE<|Af<|Ad<|wA (v:=.bool false) rfl<|Ag<|Ab<|AI<|Ax ?_;obtain rfl:=oi a;refine AJ rfl rfl ?_;exact⟨aD.Bc,rfl⟩
   ·replace a:=AA a aE;refine AE rfl aE<|AL<|Ab<|Af<|Af<|Ad<|wA (v:=I 0) rfl<|Ag<|Ab<|AT ?_;replace a:=bind_some a;obtain⟨z5,u,a⟩:=a;refine Cm (fun a0 q aV=>(a0=.ret∧∃x,z5=.inl x∧q.tmps.size=42∧q.defers=(X0).ds∧sl q 2=.bool x∧w1=aV)∨(a0=.exit 0∧∃x,z5=.inr x∧q.tmps.size=42∧q.defers=(X0).ds∧sl q 1=pt b1 0∧w1=aV)) ?bD ?bE
    case bD=>
     clear a;refine Cl (fun(a2:Nat) (q:Act) (aV:World)=>∃o,I3 b a2 o=some z5∧q.tmps.size=42∧q.defers=(X0).ds∧sl q 1=pt b1 0∧sl q 3=I o∧w1=aV) aR ?bF ?bG
     case bF=>
      intro st;exact⟨(0:Int),u,qz st,qd st,sp st 1 rfl,sp st 3 rfl,rfl⟩
     case bG=>
      rintro(_|a2) bU _ ⟨o,u,a3,a4,s,aA,rfl⟩
      ·exact absurd (show none=some _ from u) (by simp)
      rw[I3.eq_2] at u;have a:=u;clear u;refine B7 (N:=42) a3 a4<|Af<|Af<|Ad<|wM (v:=I o) aA<|wD (fun st=>Ai (ee st s) (Ei _ _))<|wD (fun st=>AG (v:=.slice d b.BW.length e) El (eR st) p.bk rfl)<|wD (fun st=>Bu Tryz.underlying23 (eR st))<|wD (fun st=>CO (eR st) (eR st))<|Ag<|Ab ?_;rcases Ak (decide (o<(b.BW.length:Int))) with aF|aF
      ·replace a:=Az a aF;refine AD rfl aF<|AL<|Ab<|Af<|AT<|Af<|Ad<|wD (fun st=>Ai (ee st s) (Ei _ _))<|wD (fun st=>AG (v:=.slice d b.BW.length e) El (eR st) p.bk rfl)<|wM (v:=I o) aA ?_;replace a:=AW a;obtain⟨i7,bH,bI,bJ,bK,a⟩:=a;have r:=(t.mv (AP p));obtain⟨bX,bY,_,bL,⟨a5,a8,rfl,bQ⟩,bM⟩:=Sl.C1 r rfl bJ;refine wD (fun st=>AX (k:=i7) Tryz.underlying23 FX (eR st) bL (eR st) bI bK)<|wD (fun st=>Bg (v:=.slice a5 bH.length a8) Eu (eR st) bM rfl)<|wD (fun st=>Bu Tryz.underlying31 (eR st))<|wD (fun st=>HJ (eR st) (eR st))<|Ag<|Ab ?_;rcases Ak (decide ((6:Int)<(bH.length:Int))) with aG|aG
       ·replace a:=Az a aG;refine AD rfl aG<|Af<|Ad<|wA (v:=.bool false) rfl<|Ag<|Ab<|AI<|Bi<|Ax<|Ax ?_;obtain rfl:=oi a;refine B4 (fun st=>?_);exact .inl ⟨rfl,false,rfl,qz st,qd st,sp st 2 rfl,rfl⟩
       ·replace a:=AA a aG;refine AE rfl aG<|AL<|Bs<|Ab<|Ad<|wM (v:=I o) aA ?_;replace a:=AK a;obtain⟨bN,a⟩:=a;refine wD (fun st=>B0 (eR st) (eR st) bN)<|wA (v:=I (o+1)) rfl<|Ag ?_;refine Bw a2 (Nat.lt_succ_self _) (fun st=>?_);exact⟨(o+1),a,qz st,qd st,sp st 1 s,sp st 3 rfl,rfl⟩
      ·replace a:=AA a aF;refine AE rfl aF<|Cd<|AB<|AB ?_;obtain rfl:=oi a;refine B4 (fun st=>?_);exact .inr ⟨rfl,(),rfl,qz st,qd st,sp st 1 s,rfl⟩
    case bE=>
     rintro a0 bR _ (⟨rfl,x,rfl,aB,aC,aO,rfl⟩|⟨rfl,x,rfl,aB,aC,aH,rfl⟩)
     ·skip
      replace a:=Eg a;refine Cn (X:=X0) (N:=42) aB aC<|Bi<|Ax ?_;obtain rfl:=oi a;refine AJ rfl aO ?_;exact⟨aD.Bc,rfl⟩
     ·skip
      replace a:=Eh a;refine Cn (X:=X0) (N:=42) aB aC<|Bn<|Ab<|Af<|Ad<|wD (fun st=>AR (l:=(AU i j d e m n b)) EP (ee st aH) p.bk rfl rfl) ?_;have ⟨y,r,z⟩:=EW aJ t aK (AP p);replace a:=bind_some a;obtain⟨aP,a9,a⟩:=a;refine wE (fun st=>Ar Acx (eR st) (CR (eR st)) (a24 aR b i j d e m n ZA _ y.all r.all z.all aP a9)) ?_;rintro _ bV ⟨aI,rfl⟩;have aY:=aD.ext aI;refine wD (fun st=>DW (eR st) (eR st))<|wM (v:=.bool (aP !=0)) rfl ?_;rcases Ak (aP !=0) with f|f
      ·replace a:=Az a f;refine Au (c:=true) rfl rfl (Ae rfl f) (by decide) rfl (by decide)<|Au (c:=true) rfl rfl (Ae rfl f) (by decide) rfl (by decide)<|Au (c:=true) rfl rfl (Ae rfl f) (by decide) rfl (by decide)<|wD (fun st=>AY (v:=.bool true) (eR st) f (eR st))<|wA (v:=.bool true) rfl<|Ag<|Ab<|AI ?_;obtain rfl:=oi a;refine AJ rfl rfl ?_;exact⟨aY.Bc,rfl⟩
      ·replace a:=AA a f;have aW:=(p.bk.ext aI);refine An rfl rfl (Ae rfl f) rfl (by decide) (fun st=>AR (l:=(AU i j d e m n b)) EP (ee st aH) aW rfl rfl) ?_;have ⟨aL,aM,aN⟩:=EW y r z (Ah aI);replace a:=bind_some a;obtain⟨aQ,bA,a⟩:=a;refine Di rfl rfl (Ae rfl f) rfl (by decide) (fun st=>Ar Q2 (eR st) (CR (eR st)) (a59 aR b i j d e m n ZA _ aL.all aM.all aN.all aQ bA)) ?_;rintro _ bW ⟨bB,rfl⟩;have bO:=aY.ext bB;refine An rfl rfl (Ae rfl f) rfl (by decide) (fun st=>LX (eR st) (eR st))<|wD (fun st=>BC (v:=.bool (decide (aQ≤150))) (eR st) f (eR st))<|wA (v:=.bool (decide (aQ≤150))) rfl<|Ag<|Ab<|AI ?_;obtain rfl:=oi a;refine AJ rfl rfl ?_;exact⟨bO.Bc,rfl⟩
theorem Y1 q a(Z:Nat→Prop) w i(j:IM q a=some i):
 Cw Tryz.prog 66 #[.agg #[I a.Lo,I a.Hi]] w (fun v w'=>Ext w w'∧(Hd AM).R w' (zf Z w []) v i):=by
 unfold IM at j;refine AS (N:=8) Tryz.func66 rfl rfl (by simp) ?_;intro r ha s;have h:=sA 0 ha;clear ha;have e:Hp FN [] w [] w:=Hp.start (Cc.none w);refine Af<|Ad<|wE (fun st=>Ci (v:=.agg #[I a.Lo,I a.Hi]) (cs:= #[I a.Lo,I a.Hi]) (ee st h) rfl) ?_;rintro _ w1 ⟨b1,rfl,d⟩;have f:=e.nb d;have o:=e.Cr d;refine wE (fun st=>DH (cs:= #[I 0,I 0]) MD rfl) ?_;rintro _ w2 ⟨b2,rfl,b⟩;have k:=f.nb b;have p:=f.Cr b;refine Ag<|Ab<|Af<|Ad<|wD (fun st=>Ai (eR st) (JL _ _)) ?_;have c:=(d.bk.ext b.gr);refine wD (fun st=>AG (v:=I a.Lo) Bz (eR st) c rfl)<|wD (fun st=>Ai (eR st) (NU _ _))<|wD (fun st=>AG (v:=I a.Hi) Bz (eR st) c rfl)<|wD (fun st=>HS (vs:= #[(0,I a.Lo),(1,I a.Hi)]) (v:=.agg #[I a.Lo,I a.Hi]) (NF (eR st) (eR st)) (by kernel_rfl))<|Dk rfl rfl (fun st=>CS (n:=2) (l:=[I a.Lo,I a.Hi]) (EZ:= #[I a.Lo,I a.Hi]) (eR st) (eR st) JG b.bk rfl rfl (show 0+2≤2 by decide) (Cg rfl) rfl) ?_;rintro _ t g;have m:=k.gr g.gr 0 rfl;refine Ag<|Ab<|AI ?_;obtain rfl:=oi j;refine Ku (v:=.agg #[I a.Lo,I a.Hi]) rfl rfl (GP Jm g.bk rfl rfl) ?_;exact⟨m.Bc,⟨_,rfl,rfl⟩⟩
set_option maxHeartbeats 4000000 in
theorem Lh gA x aN aO aP aQ aR aS aY aZ a0 a2 a3 a4(Z:Nat→Prop) w(jM:Sl AM w Z aN aO x.Al)(jN:Sl (BO (Ay .i64)) w Z aP aQ x.Ac)(jO:Sl AQ w Z aR aS x.Ap)(jP:Sl Bm w Z aY aZ x.AH)(jQ:Sl Bl w Z a0 a2 x.Aw)(jR:Sl BA w Z a3 a4 x.Ao) mB(s:Co gA x=some mB):
 Cw Tryz.prog 38 #[.agg (Am aN aO aP aQ aR aS aY aZ a0 a2 a3 a4 x).toArray] w (fun v w'=>Ext w w'∧(Hd MX).R w' (zf Z w []) v mB):=by
 unfold Co at s;refine AS (N:=90) Tryz.func38 rfl rfl (by simp) ?_;intro m1 ha m2;have kG:=sA 0 ha;clear ha;have j2:Hp FN [] w [] w:=Hp.start (Cc.none w);have ⟨eN,eO,eP,hU,hV,hW⟩:=Cz jM jN jO jP jQ jR (Bh (Z:=Z) (L:=[]) w);refine Af<|Ad<|wE (fun st=>Ci (v:=.agg (Am aN aO aP aQ aR aS aY aZ a0 a2 a3 a4 x).toArray) (cs:=(Am aN aO aP aQ aR aS aY aZ a0 a2 a3 a4 x).toArray) (ee st kG) rfl) ?_;rintro _ w1 ⟨b1,rfl,eQ⟩;have j3:=j2.nb eQ;have mP:=j2.Cr eQ;refine wE (fun st=>DH (cs:= #[.slice none 0 0,.slice none 0 0,.slice none 0 0,I 0,.slice none 0 0,.slice none 0 0,.slice none 0 0]) Yy rfl) ?_;rintro _ w2 ⟨b2,rfl,d0⟩;have mC:=j3.nb d0;have mQ:=j3.Cr d0;refine Ag<|Ab<|Af ?_;have mD:=mC.nil;have hM:=(eQ.bk.ext d0.gr);have ⟨hX,hY,hZ⟩:=EW eN eO eP (mt (AP eQ) (mt (AP d0) CA));replace s:=bind_some s;obtain⟨aB,mE,s⟩:=s;obtain⟨mT,bF⟩:∃nE:(Nat→Bool)→(Nat→Value)→World→Prop,nE=(fun D V r=>∃(aJ:Option Nat) (c:Nat) (d:Option Addr) (f:Nat) (g:Option Addr) (i:Nat) (j:Option Addr) (m:Nat),Hp FN [] w [aJ,some b2,some b1] r∧Ext w2 r∧(∀h3,Mv w2 (ZZ FN [] h3 w.heap.size [none,some b2,some b1]) r (ZZ FN [] h3 w.heap.size [aJ,some b2,some b1]))∧(∀eE,aJ=some eE→w2.heap.size≤eE)∧(D 6=false→aJ=none)∧(D 0=true→V 0=pt b1 0)∧(D 1=true→V 1=.agg #[.slice aN x.Al.length aO,.slice aP x.Ac.length aQ,.slice aR x.Ap.length aS])∧(D 2=true→V 2=.agg (AU d f g i j m aB).toArray∧Sl AM r (zf Z w [aJ,some b2,some b1]) d f aB.AF∧Sl (BO (Ay .i64)) r (zf Z w [aJ,some b2,some b1]) g i aB.BW∧Sl AQ r (zf Z w [aJ,some b2,some b1]) j m aB.Bt)∧(D 3=true→V 3=pt b1 3)∧(D 4=true→V 4=I x.Flat)∧(D 5=true→V 5=.agg #[.slice d aB.AF.length f,.slice g aB.BW.length i,.slice j aB.Bt.length m,I x.Flat,.slice none 0 0,.slice none 0 0,.slice none 0 0])∧(D 6=true→Bk r c 53 #[.slice none 0 0,.slice none 0 0,.slice none 0 0,I 0,.slice none 0 0,.slice none 0 0,.slice none 0 0])∧(D 6=true→V 6=pt c 0∧aJ=some c∧w.heap.size≤c)):=⟨_,rfl⟩;refine Ld 7 mT mixed rfl rfl (by rw[bF];exact⟨none,0,none,0,none,0,none,0,(mD.ext (DX _)),DX _,fun _=>Ah (DX _),fun _ bC=>(by cases bC),fun _=>rfl,fun bC=>absurd (show false=true from bC) (by decide),fun bC=>absurd (show false=true from bC) (by decide),fun bC=>absurd (show false=true from bC) (by decide),fun bC=>absurd (show false=true from bC) (by decide),fun bC=>absurd (show false=true from bC) (by decide),fun bC=>absurd (show false=true from bC) (by decide),fun bC=>absurd (show false=true from bC) (by decide),fun bC=>absurd (show false=true from bC) (by decide)⟩)
     ⟨sj (k:=0) rfl (fun D V a' w' K aC=>by
          rw[bF] at aC;refine X4 aC fun aJ c d f aC=>X4 aC fun g i j m aC=>Y8 aC fun a8 bH bI aE aF _ aT aI aC=>Y4 aC fun aU aV a9 aK aC=>?_;have aW:=aC;exact(Ai (es ((K.out 1 rfl).trans rfl)) (Ee _ _)).mono fun v CJ ⟨c1,c2⟩=>by subst c1;subst c2;rw[bF];exact⟨aJ,c,d,f,g,i,j,m,a8,bH,bI,aE,aF,fun _=>rfl,aT,aI,aU,aV,a9,aK,aW⟩),
      sj (k:=1) rfl (fun D V a' w' K aC=>by
          rw[bF] at aC;refine X4 aC fun aJ c d f aC=>X4 aC fun g i j m aC=>Y8 aC fun a8 bH bI aE aF aX _ aI aC=>Y4 aC fun aU aV a9 aK aC=>?_;have aW:=aC;have hN:=aX (K.dn 0 rfl);exact(AR (l:=[.slice aN x.Al.length aO,.slice aP x.Ac.length aQ,.slice aR x.Ap.length aS]) EP (es (t:=7) (v:=pt b1 0) ((K.dq 0 7).trans hN)) (hM.ext bH) rfl rfl).mono fun v CJ ⟨c1,c2⟩=>by subst c1;subst c2;rw[bF];exact⟨aJ,c,d,f,g,i,j,m,a8,bH,bI,aE,aF,aX,fun _=>rfl,aI,aU,aV,a9,aK,aW⟩),
      sj (k:=2) rfl (fun D V a' w' K aC=>by
          rw[bF] at aC;refine X4 aC fun aJ c d f aC=>X4 aC fun g i j m aC=>Y8 aC fun a8 bH bI aE aF aX aT _ aC=>Y4 aC fun aU aV _ aK aC=>?_;have aW:=aC;have hO:=aT (K.dn 1 rfl);refine(Ar Acz rfl (CR (es (t:=8) (v:=.agg #[.slice aN x.Al.length aO,.slice aP x.Ac.length aQ,.slice aR x.Ap.length aS]) ((K.dq 1 8).trans hO))) (a27 gA (⟨x.Al,x.Ac,x.Ap⟩:AV) aN aO aP aQ aR aS _ _ (hX.mv (bI _)) (hY.mv (bI _)) (hZ.mv (bI _)) aB mE)).mono ?_;rintro v CJ ⟨e0,⟨_,rfl,⟨d,f,g,i,j,m,rfl,cM,cN,cO⟩⟩⟩;rw[bF];exact⟨aJ,c,d,f,g,i,j,m,(a8.ext e0),(Ext.trans bH e0),(fun h3=>(bI h3).trans (Ah e0)),aE,aF,aX,aT,fun _=>⟨rfl,cM.mv (a8.Da (Nat.le_refl _)),cN.mv (a8.Da (Nat.le_refl _)),cO.mv (a8.Da (Nat.le_refl _))⟩,aU,aV,fun bC=>(Qk K.me (K.down 5 _ rfl bC 2 rfl)).elim,fun bC=>((aK bC).ext e0),aW⟩),
      sj (k:=3) rfl (fun D V a' w' K aC=>by
          rw[bF] at aC;refine X4 aC fun aJ c d f aC=>X4 aC fun g i j m aC=>Y8 aC fun a8 bH bI aE aF aX aT aI aC=>Y4 aC fun _ aV a9 aK aC=>?_;have aW:=aC;exact(Ai (es ((K.out 1 rfl).trans rfl)) (QH _ _)).mono fun v CJ ⟨c1,c2⟩=>by subst c1;subst c2;rw[bF];exact⟨aJ,c,d,f,g,i,j,m,a8,bH,bI,aE,aF,aX,aT,aI,fun _=>rfl,aV,a9,aK,aW⟩),
      sj (k:=4) rfl (fun D V a' w' K aC=>by
          rw[bF] at aC;refine X4 aC fun aJ c d f aC=>X4 aC fun g i j m aC=>Y8 aC fun a8 bH bI aE aF aX aT aI aC=>Y4 aC fun aU _ a9 aK aC=>?_;have aW:=aC;have hP:=aU (K.dn 3 rfl);exact(AG (v:=I x.Flat) Bz (es (t:=10) (v:=pt b1 3) ((K.dq 3 10).trans hP)) (hM.ext bH) rfl).mono fun v CJ ⟨c1,c2⟩=>by subst c1;subst c2;rw[bF];exact⟨aJ,c,d,f,g,i,j,m,a8,bH,bI,aE,aF,aX,aT,aI,aU,fun _=>rfl,a9,aK,aW⟩),
      sj (k:=5) rfl (fun D V a' w' K aC=>by
          rw[bF] at aC;refine X4 aC fun aJ c d f aC=>X4 aC fun g i j m aC=>Y8 aC fun a8 bH bI aE aF aX aT aI aC=>Y4 aC fun aU aV _ aK aC=>?_;have aW:=aC;obtain⟨hQ,cM,cN,cO⟩:=aI (K.dn 2 rfl);have hR:=aV (K.dn 4 rfl);exact(HS (vs:= #[(0,.agg (AU d f g i j m aB).toArray),(1,I x.Flat)]) (v:=.agg #[.slice d aB.AF.length f,.slice g aB.BW.length i,.slice j aB.Bt.length m,I x.Flat,.slice none 0 0,.slice none 0 0,.slice none 0 0]) (NF (es (t:=9) (v:=.agg (AU d f g i j m aB).toArray) ((K.dq 2 9).trans hQ)) (es (t:=11) (v:=I x.Flat) ((K.dq 4 11).trans hR))) (by kernel_rfl)).mono fun v CJ ⟨c1,c2⟩=>by subst c1;subst c2;rw[bF];exact⟨aJ,c,d,f,g,i,j,m,a8,bH,bI,aE,aF,aX,aT,aI,aU,aV,fun _=>rfl,aK,aW⟩),
      sj (k:=6) rfl (fun D V a' w' K aC=>by
          rw[bF] at aC;refine X4 aC fun _ _ d f aC=>X4 aC fun g i j m aC=>Y8 aC fun a8 bH bI aE aF aX aT aI aC=>Y4 aC fun aU aV a9 _ aC=>?_;have aW:=aC;have kH:=aF K.me;subst kH;refine(DH (cs:= #[.slice none 0 0,.slice none 0 0,.slice none 0 0,I 0,.slice none 0 0,.slice none 0 0,.slice none 0 0]) Yy rfl).mono ?_;rintro v CJ ⟨iP,rfl,e1⟩;have eS:=NL e1;have h4:=e1.gr;rw[bF];exact⟨(some iP),iP,d,f,g,i,j,m,(a8.row h4 0 rfl eS),(Ext.trans bH h4),(fun h3=>(bI h3).trans (a8.DN h4 0 rfl (fun eE d1=>(eS eE d1).1))),(JK aE bH.size eS),fun bC=>absurd (show true=false from bC) (by decide),aX,aT,fun bC=>⟨(aI bC).1,((aI bC).2.1.mv (a8.DN h4 0 rfl (fun eE d1=>(eS eE d1).1))),((aI bC).2.2.1.mv (a8.DN h4 0 rfl (fun eE d1=>(eS eE d1).1))),((aI bC).2.2.2.mv (a8.DN h4 0 rfl (fun eE d1=>(eS eE d1).1)))⟩,aU,aV,a9,fun _=>e1.bk,fun _=>⟨rfl,rfl,Nat.le_trans a8.sz (Nat.le_of_eq e1.Jj.symm)⟩⟩),trivial⟩ ?_
 intro nF nG nH Nd bJ;rw[bF] at bJ;clear bF;refine X4 bJ fun aJ c d f bJ=>X4 bJ fun g i j m bJ=>Y8 bJ fun d2 iQ kI aE aF aX aT aI bJ=>Y4 bJ fun aU aV a9 aK bJ=>?_;have aW:=bJ;clear bJ;have hN:=aX (Nd 0 (by decide));have hO:=aT (Nd 1 (by decide));obtain⟨hQ,cM,cN,cO⟩:=aI (Nd 2 (by decide));have hP:=aU (Nd 3 (by decide));have hR:=aV (Nd 4 (by decide));have jS:=a9 (Nd 5 (by decide));obtain⟨hS,iR,l6⟩:=aW (Nd 6 (by decide));subst iR;have iS:=aK (Nd 6 (by decide));refine Dk rfl rfl (fun st=>CS (n:=7) (l:=[.slice d aB.AF.length f,.slice g aB.BW.length i,.slice j aB.Bt.length m,I x.Flat,.slice none 0 0,.slice none 0 0,.slice none 0 0]) (EZ:= #[.slice d aB.AF.length f,.slice g aB.BW.length i,.slice j aB.Bt.length m,I x.Flat,.slice none 0 0,.slice none 0 0,.slice none 0 0]) (ee st hS) (ee st jS) AbQ iS rfl rfl (show 0+7≤7 by decide) (Cg rfl) rfl) ?_;rintro _ mU eT;have mF:=d2.gr eT.gr 0 rfl;refine Ag<|Ab<|Af<|Af<|Ad<|wA (v:=I 0) rfl<|Ag<|Ab<|AT ?_;have mG:=mF.nil;have mH:BY Bm 48 w.heap.size mU (zf Z w [none,some c,some b2,some b1]) none 0 ([]:List Ez):=BY.nil _ _ _ _ _;replace s:=bind_some s;obtain⟨cD,eU,s⟩:=s;refine Cm (fun fP aD r=>(fP=.exit 0∧∃a q,aD.tmps.size=90∧aD.defers=(X0).ds∧sl aD 1=pt b1 0∧sl aD 2=pt b2 0∧sl aD 3=pt c 0∧Hp FN [] w [ob a,some c,some b2,some b1] r∧BY Bm 48 w.heap.size r (zf Z w [ob a,some c,some b2,some b1]) a q cD∧Bk r b1 67 (Am aN aO aP aQ aR aS aY aZ a0 a2 a3 a4 x).toArray∧Bk r b2 53 #[.slice none 0 0,.slice none 0 0,.slice none 0 0,I 0,.slice none 0 0,.slice none 0 0,.slice none 0 0]∧Bk r c 53 #[.slice d aB.AF.length f,.slice g aB.BW.length i,.slice j aB.Bt.length m,I x.Flat,.slice a cD.length q,.slice none 0 0,.slice none 0 0]∧Sl AM r (zf Z w [ob a,some c,some b2,some b1]) aN aO x.Al∧Sl (BO (Ay .i64)) r (zf Z w [ob a,some c,some b2,some b1]) aP aQ x.Ac∧Sl AQ r (zf Z w [ob a,some c,some b2,some b1]) aR aS x.Ap∧Sl Bm r (zf Z w [ob a,some c,some b2,some b1]) aY aZ x.AH∧Sl Bl r (zf Z w [ob a,some c,some b2,some b1]) a0 a2 x.Aw∧Sl BA r (zf Z w [ob a,some c,some b2,some b1]) a3 a4 x.Ao∧Sl AM r (zf Z w [ob a,some c,some b2,some b1]) d f aB.AF∧Sl (BO (Ay .i64)) r (zf Z w [ob a,some c,some b2,some b1]) g i aB.BW∧Sl AQ r (zf Z w [ob a,some c,some b2,some b1]) j m aB.Bt)) ?mI ?mJ
 case mI=>
  clear s;refine Cl (fun(d3:Nat) (aD:Act) (r:World)=>∃bX,∃a5,∃z bG,IL x d3 bX a5=some cD∧aD.tmps.size=90∧aD.defers=(X0).ds∧sl aD 1=pt b1 0∧sl aD 2=pt b2 0∧sl aD 3=pt c 0∧sl aD 4=I bX∧Hp FN [] w [ob z,some c,some b2,some b1] r∧BY Bm 48 w.heap.size r (zf Z w [ob z,some c,some b2,some b1]) z bG a5∧Bk r b1 67 (Am aN aO aP aQ aR aS aY aZ a0 a2 a3 a4 x).toArray∧Bk r b2 53 #[.slice none 0 0,.slice none 0 0,.slice none 0 0,I 0,.slice none 0 0,.slice none 0 0,.slice none 0 0]∧Bk r c 53 #[.slice d aB.AF.length f,.slice g aB.BW.length i,.slice j aB.Bt.length m,I x.Flat,.slice z a5.length bG,.slice none 0 0,.slice none 0 0]∧Sl AM r (zf Z w [ob z,some c,some b2,some b1]) aN aO x.Al∧Sl (BO (Ay .i64)) r (zf Z w [ob z,some c,some b2,some b1]) aP aQ x.Ac∧Sl AQ r (zf Z w [ob z,some c,some b2,some b1]) aR aS x.Ap∧Sl Bm r (zf Z w [ob z,some c,some b2,some b1]) aY aZ x.AH∧Sl Bl r (zf Z w [ob z,some c,some b2,some b1]) a0 a2 x.Aw∧Sl BA r (zf Z w [ob z,some c,some b2,some b1]) a3 a4 x.Ao∧Sl AM r (zf Z w [ob z,some c,some b2,some b1]) d f aB.AF∧Sl (BO (Ay .i64)) r (zf Z w [ob z,some c,some b2,some b1]) g i aB.BW∧Sl AQ r (zf Z w [ob z,some c,some b2,some b1]) j m aB.Bt) gA ?mK ?mL
  case mK=>
   intro st;have jT:=(((eQ.bk.ext d0.gr).ext iQ).gr eT.gr (d2.nq 2 0));have jU:=((d0.bk.ext iQ).gr eT.gr (d2.nq 1 0));have h6:=eT.bk;have ⟨h7,h8,h9,iA,iB,iC⟩:=Cz eN eO eP hU hV hW (mt (AP eQ) (mt (AP d0) (mt CA (mt (kI _) (mt (d2.C4 eT.gr 0 rfl) CA)))));have ⟨fQ,fR,fS⟩:=EW cM cN cO (mt (d2.C4 eT.gr 0 rfl) CA);exact⟨(0:Int),([]:List Ez),none,0,eU,qz st,qd st,sp st 1 rfl,sp st 2 rfl,sp st 3 hS,sp st 4 rfl,mG,mH,jT,jU,h6,h7,h8,h9,iA,iB,iC,fQ,fR,fS⟩
  case mL=>
   rintro(_|d3) m3 m4 ⟨bX,a5,z,bG,eU,kJ,kK,c3,hT,dY,dZ,iT,cE,cF,fT,cW,d4,d5,d6,b7,d7,d8,c4,c5,c6⟩
   ·exact absurd (show none=some _ from eU) (by simp)
   rw[IL.eq_2] at eU;have s:=eU;clear eU;refine B7 (N:=90) kJ kK<|Af<|Af<|Ad<|wM (v:=I bX) dZ<|wD (fun st=>Ai (ee st c3) (GQ _ _))<|wD (fun st=>AG (v:=.slice aY x.AH.length aZ) Hw (eR st) cF rfl)<|wD (fun st=>Bu Tryz.underlying63 (eR st))<|wD (fun st=>CO (eR st) (eR st))<|Ag<|Ab ?_;rcases Ak (decide (bX<(x.AH.length:Int))) with fU|fU
   ·replace s:=Az s fU;refine AD rfl fU<|AL<|Ab<|Af<|AT ?_;replace s:=AW s;obtain⟨i10,bK,kL,kM,kN,s⟩:=s;obtain⟨j4,j5,_,kO,rfl,kP⟩:=Sl.elem b7 (by decide) kM;replace s:=AW s;obtain⟨i11,bL,kQ,kR,kS,s⟩:=s;obtain⟨j6,j7,_,kT,rfl,kU⟩:=Sl.elem b7 (by decide) kR;refine B9 16 [Kc (pt c 4),Kc (.slice z a5.length bG),Kc (pt b1 4),Kc (.slice aY x.AH.length aZ),Kc (I bX),Kc (pt j4 (j5+i10*2)),Kc (pt j4 (j5+i10*2)),Kc (I bK.BU),Kc (pt b1 4),Kc (.slice aY x.AH.length aZ),Kc (I bX),Kc (pt j6 (j7+i11*2)),Kc (pt j6 (j7+i11*2+1)),Kc (I bL.DT),Kc (.agg #[I bK.BU,I bL.DT]),Kv (Gp Bm) (zf Z w [ob z,some c,some b2,some b1]) [(⟨bK.BU,bL.DT⟩:Ez)]] mixed rfl rfl
        (Aa (oD (fun K=>Ai (es ((K.out 3 rfl).trans dY)) (Tl _ _)))
        (Aa (oD (fun K=>AG Ty (es (K.dq 0 20)) (cW.ext K.AO) rfl))
        (Aa (oD (fun K=>Ai (es ((K.out 1 rfl).trans c3)) (GQ _ _)))
        (Aa (oD (fun K=>AG Hw (es (K.dq 2 22)) (cF.ext K.AO) rfl))
        (Aa (oD (fun K=>Aq (es ((K.out 4 rfl).trans dZ))))
        (Aa (oD (fun K=>BR (k:=i10) Tryz.underlying63 J7 (es (K.dq 3 23)) kO (es (K.dq 4 24)) kL kN))
        (Aa (oD (fun K=>Ai (es (K.dq 5 25)) (Ml _ _ _)))
        (Aa (oD (fun K=>Bg Bz (es (K.dq 6 26)) (kP.mv (Ah K.AO)) rfl))
        (Aa (oD (fun K=>Ai (es ((K.out 1 rfl).trans c3)) (GQ _ _)))
        (Aa (oD (fun K=>AG Hw (es (K.dq 8 28)) (cF.ext K.AO) rfl))
        (Aa (oD (fun K=>Aq (es ((K.out 4 rfl).trans dZ))))
        (Aa (oD (fun K=>BR (k:=i11) Tryz.underlying63 J7 (es (K.dq 9 29)) kT (es (K.dq 10 30)) kQ kS))
        (Aa (oD (fun K=>Ai (es (K.dq 11 31)) (O0 _ _ _)))
        (Aa (oD (fun K=>Gj Bz (es (K.dq 12 32)) (kU.mv (Ah K.AO)) rfl))
        (Aa (oD (fun K=>HS (vs:= #[(0,I bK.BU),(1,I bL.DT)]) (v:=.agg #[I bK.BU,I bL.DT]) (NF (es (K.dq 7 27)) (es (K.dq 13 33))) (by kernel_rfl)))
        (Aa (Dl rfl rfl (fun a' w' ph K=>(De (e:=48) (vs:= #[(0,.agg #[I bK.BU,I bL.DT])]) (cs:= #[I bK.BU,I bL.DT]) (JN (es (K.dq 14 34))) (by kernel_rfl)).mono (fun u CJ ⟨iP,hu,hn⟩=>⟨⟨_,_,hu,LY (xs:=[(⟨bK.BU,bL.DT⟩:Ez)]) (DQ:=[[I bK.BU,I bL.DT]]) hn.bk ((iT.ext K.AO).kn (Nat.le_of_eq hn.Jj.symm)) (R2.mv (Ah hn.gr) (show R2 Bm w' (zf Z w [ob z,some c,some b2,some b1]) [[I bK.BU,I bL.DT]] [(⟨bK.BU,bL.DT⟩:Ez)] from⟨rfl,trivial⟩)) rfl (Nat.le_refl _)⟩,hn.gr⟩)))
        (B8 _))))))))))))))))) ?_
    intro nI;rintro _ rfl _ rfl _ rfl _ rfl _ rfl _ rfl _ rfl _ rfl _ rfl _ rfl _ rfl _ rfl _ rfl _ rfl _ rfl _ ⟨mM,mN,rfl,iD⟩ d9;have eA:=iT.ext d9;have eF:=(cE.ext d9 (Ah d9));replace s:=Ck s;obtain⟨iU,s⟩:=s;refine wE (fun st=>HY (ys:=[(⟨bK.BU,bL.DT⟩:Ez)]) Tryz.underlying49 AfT rfl rfl (by decide) (eR st) rfl (eR st) eF iD.n (by have:=iU;simp only[maxLen];omega) (by have:=iU;omega) eA.sz) ?_;rintro _ m5 ⟨iV,iW,rfl,dI,gB,kV⟩;have eV:=eA.row dI 0 rfl gB;have kW:=ED kV (eA.DN dI 0 rfl (fun k hk=>(gB k hk).1));refine wD (fun st=>Ai (ee st dY) (Tl _ _)) ?_;have iE:=((cW.ext d9).gr dI (eA.nq 1 0));refine Dk rfl rfl (fun st=>CS (n:=1) (l:=[.slice iV ((a5++[(⟨bK.BU,bL.DT⟩:Ez)]).length) iW]) (EZ:= #[.slice d aB.AF.length f,.slice g aB.BW.length i,.slice j aB.Bt.length m,I x.Flat,.slice iV ((a5++[(⟨bK.BU,bL.DT⟩:Ez)]).length) iW,.slice none 0 0,.slice none 0 0]) (eR st) (eR st) Ag2 iE rfl rfl (show 4+1≤7 by decide) (Cg rfl) rfl) ?_;rintro _ m6 cX;have kX:=eV.gr cX.gr 1 rfl;refine Ag<|Bs<|Ab<|Ad<|wM (v:=I bX) dZ ?_;replace s:=AK s;obtain⟨kY,s⟩:=s;refine wD (fun st=>B0 (eR st) (eR st) kY)<|wA (v:=I (bX+1)) rfl<|Ag ?_;have iF:=(kW.gr cX.gr (fun k hk=>eV.ne 0 1 rfl (congrArg some hk) rfl) (eV.C4 cX.gr 1 rfl));have iX:=(((cF.ext d9).gr dI (eA.nq 3 0)).gr cX.gr (eV.nq 3 1));have iY:=(((fT.ext d9).gr dI (eA.nq 2 0)).gr cX.gr (eV.nq 2 1));have ⟨gC,gD,gE,gF,gG,gH,e2,e3,e4⟩:=Vl d4 d5 d6 b7 d7 d8 c4 c5 c6 (mt (Ah d9) (mt (eA.DN dI 0 rfl (fun k hk=>(gB k hk).1)) (eV.C4 cX.gr 1 rfl)));refine Bw d3 (Nat.lt_succ_self _) (fun st=>?_);exact⟨(bX+1),(a5++[(⟨bK.BU,bL.DT⟩:Ez)]),iV,iW,s,qz st,qd st,sp st 1 c3,sp st 2 hT,sp st 3 dY,sp st 4 rfl,kX,iF,iX,iY,cX.bk,gC,gD,gE,gF,gG,gH,e2,e3,e4⟩
   ·replace s:=AA s fU;refine AE rfl fU<|Cd<|AB<|AB ?_;obtain rfl:=oi s;refine B4 (fun st=>?_);exact⟨rfl,z,bG,qz st,qd st,sp st 1 c3,sp st 2 hT,sp st 3 dY,iT,cE,cF,fT,cW,d4,d5,d6,b7,d7,d8,c4,c5,c6⟩
 case mJ=>
  rintro fP mV mO (⟨rfl,a,q,jV,jW,iZ,i0,i1,kZ,dJ,i2,i3,gI,gJ,gK,gL,gM,gN,gO,e5,e6,e7⟩);refine Cn (X:=X0) (N:=90) jV jW<|Bn<|Ab<|Af<|Af<|Ad<|wA (v:=I 0) rfl<|Ag<|Ab<|AT ?_;have k0:=kZ.nil;have k1:BY Bl 134 w.heap.size mO (zf Z w [none,ob a,some c,some b2,some b1]) none 0 ([]:List CU):=BY.nil _ _ _ _ _;replace s:=bind_some s;obtain⟨cC,dK,s⟩:=s;refine Cm (fun fP aD r=>(fP=.exit 2∧∃b aA,aD.tmps.size=90∧aD.defers=(X0).ds∧sl aD 1=pt b1 0∧sl aD 2=pt b2 0∧sl aD 3=pt c 0∧Hp FN [] w [ob b,ob a,some c,some b2,some b1] r∧BY Bl 134 w.heap.size r (zf Z w [ob b,ob a,some c,some b2,some b1]) b aA cC∧BY Bm 48 w.heap.size r (zf Z w [ob b,ob a,some c,some b2,some b1]) a q cD∧Bk r b1 67 (Am aN aO aP aQ aR aS aY aZ a0 a2 a3 a4 x).toArray∧Bk r b2 53 #[.slice none 0 0,.slice none 0 0,.slice none 0 0,I 0,.slice none 0 0,.slice none 0 0,.slice none 0 0]∧Bk r c 53 #[.slice d aB.AF.length f,.slice g aB.BW.length i,.slice j aB.Bt.length m,I x.Flat,.slice a cD.length q,.slice b cC.length aA,.slice none 0 0]∧Sl AM r (zf Z w [ob b,ob a,some c,some b2,some b1]) aN aO x.Al∧Sl (BO (Ay .i64)) r (zf Z w [ob b,ob a,some c,some b2,some b1]) aP aQ x.Ac∧Sl AQ r (zf Z w [ob b,ob a,some c,some b2,some b1]) aR aS x.Ap∧Sl Bm r (zf Z w [ob b,ob a,some c,some b2,some b1]) aY aZ x.AH∧Sl Bl r (zf Z w [ob b,ob a,some c,some b2,some b1]) a0 a2 x.Aw∧Sl BA r (zf Z w [ob b,ob a,some c,some b2,some b1]) a3 a4 x.Ao∧Sl AM r (zf Z w [ob b,ob a,some c,some b2,some b1]) d f aB.AF∧Sl (BO (Ay .i64)) r (zf Z w [ob b,ob a,some c,some b2,some b1]) g i aB.BW∧Sl AQ r (zf Z w [ob b,ob a,some c,some b2,some b1]) j m aB.Bt)) ?k2 ?k3
  case k2=>
   clear s;refine Cl (fun(d3:Nat) (aD:Act) (r:World)=>∃bD,∃aL,∃p bA,Il x d3 bD aL=some cC∧aD.tmps.size=90∧aD.defers=(X0).ds∧sl aD 1=pt b1 0∧sl aD 2=pt b2 0∧sl aD 3=pt c 0∧sl aD 5=I bD∧Hp FN [] w [ob p,ob a,some c,some b2,some b1] r∧BY Bm 48 w.heap.size r (zf Z w [ob p,ob a,some c,some b2,some b1]) a q cD∧BY Bl 134 w.heap.size r (zf Z w [ob p,ob a,some c,some b2,some b1]) p bA aL∧Bk r b1 67 (Am aN aO aP aQ aR aS aY aZ a0 a2 a3 a4 x).toArray∧Bk r b2 53 #[.slice none 0 0,.slice none 0 0,.slice none 0 0,I 0,.slice none 0 0,.slice none 0 0,.slice none 0 0]∧Bk r c 53 #[.slice d aB.AF.length f,.slice g aB.BW.length i,.slice j aB.Bt.length m,I x.Flat,.slice a cD.length q,.slice p aL.length bA,.slice none 0 0]∧Sl AM r (zf Z w [ob p,ob a,some c,some b2,some b1]) aN aO x.Al∧Sl (BO (Ay .i64)) r (zf Z w [ob p,ob a,some c,some b2,some b1]) aP aQ x.Ac∧Sl AQ r (zf Z w [ob p,ob a,some c,some b2,some b1]) aR aS x.Ap∧Sl Bm r (zf Z w [ob p,ob a,some c,some b2,some b1]) aY aZ x.AH∧Sl Bl r (zf Z w [ob p,ob a,some c,some b2,some b1]) a0 a2 x.Aw∧Sl BA r (zf Z w [ob p,ob a,some c,some b2,some b1]) a3 a4 x.Ao∧Sl AM r (zf Z w [ob p,ob a,some c,some b2,some b1]) d f aB.AF∧Sl (BO (Ay .i64)) r (zf Z w [ob p,ob a,some c,some b2,some b1]) g i aB.BW∧Sl AQ r (zf Z w [ob p,ob a,some c,some b2,some b1]) j m aB.Bt) gA ?k4 ?k5
   case k4=>
    intro st;have dL:=(dJ.up CA);have i4:=i2;have i5:=i3;have gP:=gI;have ⟨gQ,gR,gS,gT,gU,gV,e8,e9,fA⟩:=Vl gJ gK gL gM gN gO e5 e6 e7 CA;exact⟨(0:Int),([]:List CU),none,0,dK,qz st,qd st,sp st 1 iZ,sp st 2 i0,sp st 3 i1,sp st 5 rfl,k0,dL,k1,i4,i5,gP,gQ,gR,gS,gT,gU,gV,e8,e9,fA⟩
   case k5=>
    rintro(_|d3) mW mX ⟨bD,aL,p,bA,dK,jX,jY,cG,fV,c7,c8,gW,bT,b4,b5,eW,cH,dR,dS,dT,dU,bU,dV,cQ,cR,cS⟩
    ·exact absurd (show none=some _ from dK) (by simp)
    rw[Il.eq_2] at dK;have s:=dK;clear dK;refine B7 (N:=90) jX jY<|Af<|Af<|Ad<|wM (v:=I bD) c8<|wD (fun st=>Ai (ee st cG) (IV _ _))<|wD (fun st=>AG (v:=.slice a0 x.Aw.length a2) JU (eR st) b5 rfl)<|wD (fun st=>Bu Tryz.underlying64 (eR st))<|wD (fun st=>CO (eR st) (eR st))<|Ag<|Ab ?_;rcases Ak (decide (bD<(x.Aw.length:Int))) with eB|eB
    ·replace s:=Az s eB;refine AD rfl eB<|AL<|Ab<|Af<|AT ?_;replace s:=AW s;obtain⟨i20,bM,k6,k7,k8,s⟩:=s;obtain⟨j8,j9,_,k9,rfl,lA⟩:=Sl.elem bU (by decide) k7;replace s:=AW s;obtain⟨i21,bN,lB,lC,lD,s⟩:=s;obtain⟨kA,kB,_,lE,rfl,lF⟩:=Sl.elem bU (by decide) lC;refine B9 16 [Kc (pt c 5),Kc (.slice p aL.length bA),Kc (pt b1 5),Kc (.slice a0 x.Aw.length a2),Kc (I bD),Kc (pt j8 (j9+i20*2)),Kc (pt j8 (j9+i20*2)),Kc (I bM.En),Kc (pt b1 5),Kc (.slice a0 x.Aw.length a2),Kc (I bD),Kc (pt kA (kB+i21*2)),Kc (pt kA (kB+i21*2+1)),Kc (I bN.Ey),Kc (.agg #[I bM.En,I bN.Ey]),Kv (Gp Bl) (zf Z w [ob p,ob a,some c,some b2,some b1]) [(⟨bM.En,bN.Ey⟩:CU)]] mixed rfl rfl
         (Aa (oD (fun K=>Ai (es ((K.out 3 rfl).trans c7)) (ME _ _)))
         (Aa (oD (fun K=>AG NQ (es (K.dq 0 45)) (cH.ext K.AO) rfl))
         (Aa (oD (fun K=>Ai (es ((K.out 1 rfl).trans cG)) (IV _ _)))
         (Aa (oD (fun K=>AG JU (es (K.dq 2 47)) (b5.ext K.AO) rfl))
         (Aa (oD (fun K=>Aq (es ((K.out 5 rfl).trans c8))))
         (Aa (oD (fun K=>BR (k:=i20) Tryz.underlying64 OG (es (K.dq 3 48)) k9 (es (K.dq 4 49)) k6 k8))
         (Aa (oD (fun K=>Ai (es (K.dq 5 50)) (TE _ _ _)))
         (Aa (oD (fun K=>Bg Bz (es (K.dq 6 51)) (lA.mv (Ah K.AO)) rfl))
         (Aa (oD (fun K=>Ai (es ((K.out 1 rfl).trans cG)) (IV _ _)))
         (Aa (oD (fun K=>AG JU (es (K.dq 8 53)) (b5.ext K.AO) rfl))
         (Aa (oD (fun K=>Aq (es ((K.out 5 rfl).trans c8))))
         (Aa (oD (fun K=>BR (k:=i21) Tryz.underlying64 OG (es (K.dq 9 54)) lE (es (K.dq 10 55)) lB lD))
         (Aa (oD (fun K=>Ai (es (K.dq 11 56)) (SC _ _ _)))
         (Aa (oD (fun K=>Gj Bz (es (K.dq 12 57)) (lF.mv (Ah K.AO)) rfl))
         (Aa (oD (fun K=>HS (vs:= #[(0,I bM.En),(1,I bN.Ey)]) (v:=.agg #[I bM.En,I bN.Ey]) (NF (es (K.dq 7 52)) (es (K.dq 13 58))) (by kernel_rfl)))
         (Aa (Dl rfl rfl (fun a' w' ph K=>(De (e:=134) (vs:= #[(0,.agg #[I bM.En,I bN.Ey])]) (cs:= #[I bM.En,I bN.Ey]) (JN (es (K.dq 14 59))) (by kernel_rfl)).mono (fun u CJ ⟨iP,hu,hn⟩=>⟨⟨_,_,hu,LY (xs:=[(⟨bM.En,bN.Ey⟩:CU)]) (DQ:=[[I bM.En,I bN.Ey]]) hn.bk ((gW.ext K.AO).kn (Nat.le_of_eq hn.Jj.symm)) (R2.mv (Ah hn.gr) (show R2 Bl w' (zf Z w [ob p,ob a,some c,some b2,some b1]) [[I bM.En,I bN.Ey]] [(⟨bM.En,bN.Ey⟩:CU)] from⟨rfl,trivial⟩)) rfl (Nat.le_refl _)⟩,hn.gr⟩)))
         (B8 _))))))))))))))))) ?_
     intro m7;rintro _ rfl _ rfl _ rfl _ rfl _ rfl _ rfl _ rfl _ rfl _ rfl _ rfl _ rfl _ rfl _ rfl _ rfl _ rfl _ ⟨l7,l8,rfl,gX⟩ b8;have b9:=gW.ext b8;have dW:=(b4.ext b8 (Ah b8));replace s:=Ck s;obtain⟨i6,s⟩:=s;refine wE (fun st=>HY (ys:=[(⟨bM.En,bN.Ey⟩:CU)]) Tryz.underlying50 AdA rfl rfl (by decide) (eR st) rfl (eR st) dW gX.n (by have:=i6;simp only[maxLen];omega) (by have:=i6;omega) b9.sz) ?_;rintro _ m8 ⟨i7,i8,rfl,cI,fB,lG⟩;have cJ:=b9.row cI 0 rfl fB;have lH:=ED lG (b9.DN cI 0 rfl (fun k hk=>(fB k hk).1));refine wD (fun st=>Ai (ee st c7) (ME _ _)) ?_;have gY:=((cH.ext b8).gr cI (b9.nq 2 0));refine Dk rfl rfl (fun st=>CS (n:=1) (l:=[.slice i7 ((aL++[(⟨bM.En,bN.Ey⟩:CU)]).length) i8]) (EZ:= #[.slice d aB.AF.length f,.slice g aB.BW.length i,.slice j aB.Bt.length m,I x.Flat,.slice a cD.length q,.slice i7 ((aL++[(⟨bM.En,bN.Ey⟩:CU)]).length) i8,.slice none 0 0]) (eR st) (eR st) Ag3 gY rfl rfl (show 5+1≤7 by decide) (Cg rfl) rfl) ?_;rintro _ m9 cA;have lI:=cJ.gr cA.gr 2 rfl;refine Ag<|Bs<|Ab<|Ad<|wM (v:=I bD) c8 ?_;replace s:=AK s;obtain⟨lJ,s⟩:=s;refine wD (fun st=>B0 (eR st) (eR st) lJ)<|wA (v:=I (bD+1)) rfl<|Ag ?_;have dM:=(((bT.ext b8 (Ah b8)).gr cI (fun k hk=>b9.ne 1 0 rfl (congrArg some hk) rfl) (b9.DN cI 0 rfl (fun k hk=>(fB k hk).1))).gr cA.gr (fun k hk=>cJ.ne 1 2 rfl (congrArg some hk) rfl) (cJ.C4 cA.gr 2 rfl));have iG:=(lH.gr cA.gr (fun k hk=>cJ.ne 0 2 rfl (congrArg some hk) rfl) (cJ.C4 cA.gr 2 rfl));have i9:=(((b5.ext b8).gr cI (b9.nq 4 0)).gr cA.gr (cJ.nq 4 2));have jA:=(((eW.ext b8).gr cI (b9.nq 3 0)).gr cA.gr (cJ.nq 3 2));have ⟨gZ,g0,g1,g2,g3,g4,fC,fD,fE⟩:=Vl dR dS dT dU bU dV cQ cR cS (mt (Ah b8) (mt (b9.DN cI 0 rfl (fun k hk=>(fB k hk).1)) (cJ.C4 cA.gr 2 rfl)));refine Bw d3 (Nat.lt_succ_self _) (fun st=>?_);exact⟨(bD+1),(aL++[(⟨bM.En,bN.Ey⟩:CU)]),i7,i8,s,qz st,qd st,sp st 1 cG,sp st 2 fV,sp st 3 c7,sp st 5 rfl,lI,dM,iG,i9,jA,cA.bk,gZ,g0,g1,g2,g3,g4,fC,fD,fE⟩
    ·replace s:=AA s eB;refine AE rfl eB<|Cd<|AB<|AB ?_;obtain rfl:=oi s;refine B4 (fun st=>?_);exact⟨rfl,p,bA,qz st,qd st,sp st 1 cG,sp st 2 fV,sp st 3 c7,gW,b4,bT,b5,eW,cH,dR,dS,dT,dU,bU,dV,cQ,cR,cS⟩
  case k3=>
   rintro fP mR lK (⟨rfl,b,aA,jB,jC,iH,iI,iJ,jZ,cY,c9,iK,iL,fW,fX,fY,fZ,f0,f1,f2,eG,eH,eI⟩);refine Cn (X:=X0) (N:=90) jB jC<|Bn<|Ab<|Af<|Af<|Ad<|wA (v:=I 0) rfl<|Ag<|Ab<|AT ?_;have lL:=jZ.nil;have lM:BY BA 136 w.heap.size lK (zf Z w [none,ob b,ob a,some c,some b2,some b1]) none 0 ([]:List Ct):=BY.nil _ _ _ _ _;replace s:=bind_some s;obtain⟨z26,dN,s⟩:=s;refine Cm (fun fP aD r=>(fP=.exit 4∧∃y aG,aD.tmps.size=90∧aD.defers=(X0).ds∧sl aD 2=pt b2 0∧sl aD 3=pt c 0∧Hp FN [] w [ob y,ob b,ob a,some c,some b2,some b1] r∧BY Bl 134 w.heap.size r (zf Z w [ob y,ob b,ob a,some c,some b2,some b1]) b aA cC∧BY BA 136 w.heap.size r (zf Z w [ob y,ob b,ob a,some c,some b2,some b1]) y aG z26∧BY Bm 48 w.heap.size r (zf Z w [ob y,ob b,ob a,some c,some b2,some b1]) a q cD∧Bk r b2 53 #[.slice none 0 0,.slice none 0 0,.slice none 0 0,I 0,.slice none 0 0,.slice none 0 0,.slice none 0 0]∧Bk r c 53 #[.slice d aB.AF.length f,.slice g aB.BW.length i,.slice j aB.Bt.length m,I x.Flat,.slice a cD.length q,.slice b cC.length aA,.slice y z26.length aG]∧Sl AM r (zf Z w [ob y,ob b,ob a,some c,some b2,some b1]) d f aB.AF∧Sl (BO (Ay .i64)) r (zf Z w [ob y,ob b,ob a,some c,some b2,some b1]) g i aB.BW∧Sl AQ r (zf Z w [ob y,ob b,ob a,some c,some b2,some b1]) j m aB.Bt)) ?lN ?lO
   case lN=>
    clear s;refine Cl (fun(d3:Nat) (aD:Act) (r:World)=>∃bE,∃aM,∃o bB,Im gA x d3 bE aM=some z26∧aD.tmps.size=90∧aD.defers=(X0).ds∧sl aD 1=pt b1 0∧sl aD 2=pt b2 0∧sl aD 3=pt c 0∧sl aD 6=I bE∧Hp FN [] w [ob o,ob b,ob a,some c,some b2,some b1] r∧BY Bl 134 w.heap.size r (zf Z w [ob o,ob b,ob a,some c,some b2,some b1]) b aA cC∧BY Bm 48 w.heap.size r (zf Z w [ob o,ob b,ob a,some c,some b2,some b1]) a q cD∧BY BA 136 w.heap.size r (zf Z w [ob o,ob b,ob a,some c,some b2,some b1]) o bB aM∧Bk r b1 67 (Am aN aO aP aQ aR aS aY aZ a0 a2 a3 a4 x).toArray∧Bk r b2 53 #[.slice none 0 0,.slice none 0 0,.slice none 0 0,I 0,.slice none 0 0,.slice none 0 0,.slice none 0 0]∧Bk r c 53 #[.slice d aB.AF.length f,.slice g aB.BW.length i,.slice j aB.Bt.length m,I x.Flat,.slice a cD.length q,.slice b cC.length aA,.slice o aM.length bB]∧Sl AM r (zf Z w [ob o,ob b,ob a,some c,some b2,some b1]) aN aO x.Al∧Sl (BO (Ay .i64)) r (zf Z w [ob o,ob b,ob a,some c,some b2,some b1]) aP aQ x.Ac∧Sl AQ r (zf Z w [ob o,ob b,ob a,some c,some b2,some b1]) aR aS x.Ap∧Sl Bm r (zf Z w [ob o,ob b,ob a,some c,some b2,some b1]) aY aZ x.AH∧Sl Bl r (zf Z w [ob o,ob b,ob a,some c,some b2,some b1]) a0 a2 x.Aw∧Sl BA r (zf Z w [ob o,ob b,ob a,some c,some b2,some b1]) a3 a4 x.Ao∧Sl AM r (zf Z w [ob o,ob b,ob a,some c,some b2,some b1]) d f aB.AF∧Sl (BO (Ay .i64)) r (zf Z w [ob o,ob b,ob a,some c,some b2,some b1]) g i aB.BW∧Sl AQ r (zf Z w [ob o,ob b,ob a,some c,some b2,some b1]) j m aB.Bt) gA ?lP ?lQ
    case lP=>
     intro st;have dA:=(cY.up CA);have dO:=(c9.up CA);have jD:=iK;have jE:=iL;have g5:=fW;have ⟨g6,g7,g8,g9,hA,hB,fF,fG,fH⟩:=Vl fX fY fZ f0 f1 f2 eG eH eI CA;exact⟨(0:Int),([]:List Ct),none,0,dN,qz st,qd st,sp st 1 iH,sp st 2 iI,sp st 3 iJ,sp st 6 rfl,lL,dA,dO,lM,jD,jE,g5,g6,g7,g8,g9,hA,hB,fF,fG,fH⟩
    case lQ=>
     rintro(_|d3) mY mZ ⟨bE,aM,o,bB,dN,j0,j1,dB,f3,dC,dD,hC,bO,bV,b6,cP,eX,cK,f4,f5,f6,f7,f8,cL,cT,cU,cV⟩
     ·exact absurd (show none=some _ from dN) (by simp)
     rw[Im.eq_2] at dN;have s:=dN;clear dN;refine B7 (N:=90) j0 j1<|Af<|Af<|Ad<|wM (v:=I bE) dD<|wD (fun st=>Ai (ee st dB) (Fx _ _))<|wD (fun st=>AG (v:=.slice a3 x.Ao.length a4) GF (eR st) cP rfl)<|wD (fun st=>Bu Tryz.underlying65 (eR st))<|wD (fun st=>CO (eR st) (eR st))<|Ag<|Ab ?_;rcases Ak (decide (bE<(x.Ao.length:Int))) with eC|eC
     ·replace s:=Az s eC;refine AD rfl eC<|AL<|Ab<|Af<|AT ?_;replace s:=AW s;obtain⟨i30,bP,lR,lS,lT,s⟩:=s;obtain⟨kC,kD,_,lU,rfl,lV⟩:=Sl.elem cL (by decide) lS;replace s:=AW s;obtain⟨i31,eY,lW,lX,lY,s⟩:=s;obtain⟨kE,kF,_,lZ,rfl,l0⟩:=Sl.elem cL (by decide) lX;replace s:=bind_some s;obtain⟨aH,l1,s⟩:=s;refine B9 17 [Kc (pt c 6),Kc (.slice o aM.length bB),Kc (pt b1 6),Kc (.slice a3 x.Ao.length a4),Kc (I bE),Kc (pt kC (kD+i30*3)),Kc (pt kC (kD+i30*3)),Kc (I bP.C0),Kc (pt b1 6),Kc (.slice a3 x.Ao.length a4),Kc (I bE),Kc (pt kE (kF+i31*3)),Kc (pt kE (kF+i31*3+1)),Kc (.agg #[I eY.Db,I eY.Dc]),Kc (.agg #[I aH.Lo,I aH.Hi]),Kc (.agg #[I bP.C0,I aH.Lo,I aH.Hi]),Kv (Gp BA) (zf Z w [ob o,ob b,ob a,some c,some b2,some b1]) [(⟨bP.C0,aH.Lo,aH.Hi⟩:Ct)]] mixed rfl rfl
          (Aa (oD (fun K=>Ai (es ((K.out 3 rfl).trans dC)) (Rm _ _)))
          (Aa (oD (fun K=>AG TA (es (K.dq 0 70)) (cK.ext K.AO) rfl))
          (Aa (oD (fun K=>Ai (es ((K.out 1 rfl).trans dB)) (Fx _ _)))
          (Aa (oD (fun K=>AG GF (es (K.dq 2 72)) (cP.ext K.AO) rfl))
          (Aa (oD (fun K=>Aq (es ((K.out 6 rfl).trans dD))))
          (Aa (oD (fun K=>BR (k:=i30) Tryz.underlying65 LM (es (K.dq 3 73)) lU (es (K.dq 4 74)) lR lT))
          (Aa (oD (fun K=>Ai (es (K.dq 5 75)) (O1 _ _ _)))
          (Aa (oD (fun K=>Bg Bz (es (K.dq 6 76)) (lV.mv (Ah K.AO)) rfl))
          (Aa (oD (fun K=>Ai (es ((K.out 1 rfl).trans dB)) (Fx _ _)))
          (Aa (oD (fun K=>AG GF (es (K.dq 8 78)) (cP.ext K.AO) rfl))
          (Aa (oD (fun K=>Aq (es ((K.out 6 rfl).trans dD))))
          (Aa (oD (fun K=>BR (k:=i31) Tryz.underlying65 LM (es (K.dq 9 79)) lZ (es (K.dq 10 80)) lW lY))
          (Aa (oD (fun K=>Ai (es (K.dq 11 81)) (Px _ _ _)))
          (Aa (oD (fun K=>Ou (l:=[I eY.Db,I eY.Dc]) Gk (es (K.dq 12 82)) (l0.mv (Ah K.AO)) rfl rfl))
          (Aa (Dl rfl rfl (fun a' w' ph K=>(Ar SR rfl (CR (es (K.dq 13 83))) (Y1 gA (⟨eY.Db,eY.Dc⟩:AN) ZA _ aH l1)).mono (fun _ _ h=>⟨(by obtain⟨_,rfl,rfl⟩:=h.2;rfl),h.1⟩)))
          (Aa (oD (fun K=>HS (vs:= #[(0,I bP.C0),(1,.agg #[I aH.Lo,I aH.Hi])]) (v:=.agg #[I bP.C0,I aH.Lo,I aH.Hi]) (NF (es (K.dq 7 77)) (es (K.dq 14 84))) (by kernel_rfl)))
          (Aa (Dl rfl rfl (fun a' w' ph K=>(De (e:=136) (vs:= #[(0,.agg #[I bP.C0,I aH.Lo,I aH.Hi])]) (cs:= #[I bP.C0,I aH.Lo,I aH.Hi]) (JN (es (K.dq 15 85))) (by kernel_rfl)).mono (fun u CJ ⟨iP,hu,hn⟩=>⟨⟨_,_,hu,LY (xs:=[(⟨bP.C0,aH.Lo,aH.Hi⟩:Ct)]) (DQ:=[[I bP.C0,I aH.Lo,I aH.Hi]]) hn.bk ((hC.ext K.AO).kn (Nat.le_of_eq hn.Jj.symm)) (R2.mv (Ah hn.gr) (show R2 BA w' (zf Z w [ob o,ob b,ob a,some c,some b2,some b1]) [[I bP.C0,I aH.Lo,I aH.Hi]] [(⟨bP.C0,aH.Lo,aH.Hi⟩:Ct)] from⟨rfl,trivial⟩)) rfl (Nat.le_refl _)⟩,hn.gr⟩)))
          (B8 _)))))))))))))))))) ?_
      intro nA;rintro _ rfl _ rfl _ rfl _ rfl _ rfl _ rfl _ rfl _ rfl _ rfl _ rfl _ rfl _ rfl _ rfl _ rfl _ rfl _ rfl _ ⟨l9,mA,rfl,hD⟩ bQ;have bR:=hC.ext bQ;have dX:=(b6.ext bQ (Ah bQ));replace s:=Ck s;obtain⟨jF,s⟩:=s;refine wE (fun st=>HY (ys:=[(⟨bP.C0,aH.Lo,aH.Hi⟩:Ct)]) Tryz.underlying51 AdB rfl rfl (by decide) (eR st) rfl (eR st) dX hD.n (by have:=jF;simp only[maxLen];omega) (by have:=jF;omega) bR.sz) ?_;rintro _ nB ⟨jG,jH,rfl,bY,eD,l2⟩;have bZ:=bR.row bY 0 rfl eD;have l3:=ED l2 (bR.DN bY 0 rfl (fun k hk=>(eD k hk).1));refine wD (fun st=>Ai (ee st dC) (Rm _ _)) ?_;have hE:=((cK.ext bQ).gr bY (bR.nq 3 0));refine Dk rfl rfl (fun st=>CS (n:=1) (l:=[.slice jG ((aM++[(⟨bP.C0,aH.Lo,aH.Hi⟩:Ct)]).length) jH]) (EZ:= #[.slice d aB.AF.length f,.slice g aB.BW.length i,.slice j aB.Bt.length m,I x.Flat,.slice a cD.length q,.slice b cC.length aA,.slice jG ((aM++[(⟨bP.C0,aH.Lo,aH.Hi⟩:Ct)]).length) jH]) (eR st) (eR st) Aea hE rfl rfl (show 6+1≤7 by decide) (Cg rfl) rfl) ?_;rintro _ nC bS;have l4:=bZ.gr bS.gr 3 rfl;refine Ag<|Bs<|Ab<|Ad<|wM (v:=I bE) dD ?_;replace s:=AK s;obtain⟨l5,s⟩:=s;refine wD (fun st=>B0 (eR st) (eR st) l5)<|wA (v:=I (bE+1)) rfl<|Ag ?_;have dE:=(((bO.ext bQ (Ah bQ)).gr bY (fun k hk=>bR.ne 1 0 rfl (congrArg some hk) rfl) (bR.DN bY 0 rfl (fun k hk=>(eD k hk).1))).gr bS.gr (fun k hk=>bZ.ne 1 3 rfl (congrArg some hk) rfl) (bZ.C4 bS.gr 3 rfl));have dP:=(((bV.ext bQ (Ah bQ)).gr bY (fun k hk=>bR.ne 2 0 rfl (congrArg some hk) rfl) (bR.DN bY 0 rfl (fun k hk=>(eD k hk).1))).gr bS.gr (fun k hk=>bZ.ne 2 3 rfl (congrArg some hk) rfl) (bZ.C4 bS.gr 3 rfl));have iM:=(l3.gr bS.gr (fun k hk=>bZ.ne 0 3 rfl (congrArg some hk) rfl) (bZ.C4 bS.gr 3 rfl));have jI:=(((cP.ext bQ).gr bY (bR.nq 5 0)).gr bS.gr (bZ.nq 5 3));have jJ:=(((eX.ext bQ).gr bY (bR.nq 4 0)).gr bS.gr (bZ.nq 4 3));have ⟨hF,hG,hH,hI,hJ,hL,fI,fJ,fK⟩:=Vl f4 f5 f6 f7 f8 cL cT cU cV (mt (Ah bQ) (mt (bR.DN bY 0 rfl (fun k hk=>(eD k hk).1)) (bZ.C4 bS.gr 3 rfl)));refine Bw d3 (Nat.lt_succ_self _) (fun st=>?_);exact⟨(bE+1),(aM++[(⟨bP.C0,aH.Lo,aH.Hi⟩:Ct)]),jG,jH,s,qz st,qd st,sp st 1 dB,sp st 2 f3,sp st 3 dC,sp st 6 rfl,l4,dE,dP,iM,jI,jJ,bS.bk,hF,hG,hH,hI,hJ,hL,fI,fJ,fK⟩
     ·replace s:=AA s eC;refine AE rfl eC<|Cd<|AB<|AB ?_;obtain rfl:=oi s;refine B4 (fun st=>?_);exact⟨rfl,o,bB,qz st,qd st,sp st 2 f3,sp st 3 dC,hC,bO,b6,bV,eX,cK,cT,cU,cV⟩
   case lO=>
    rintro fP mS m0 (⟨rfl,y,aG,jK,jL,eZ,iN,bW,cZ,c0,dF,iO,f9,eJ,eK,eM⟩);refine Cn (X:=X0) (N:=90) jK jL<|Bn<|Ab<|Af<|Ad<|wD (fun st=>AR (l:=[.slice d aB.AF.length f,.slice g aB.BW.length i,.slice j aB.Bt.length m,I x.Flat,.slice a cD.length q,.slice b cC.length aA,.slice y z26.length aG]) Hh (ee st iN) f9 rfl rfl)<|Dk rfl rfl (fun st=>CS (n:=7) (l:=[.slice d aB.AF.length f,.slice g aB.BW.length i,.slice j aB.Bt.length m,I x.Flat,.slice a cD.length q,.slice b cC.length aA,.slice y z26.length aG]) (EZ:= #[.slice d aB.AF.length f,.slice g aB.BW.length i,.slice j aB.Bt.length m,I x.Flat,.slice a cD.length q,.slice b cC.length aA,.slice y z26.length aG]) (ee st eZ) (eR st) AbQ iO rfl rfl (show 0+7≤7 by decide) (Cg rfl) rfl) ?_;rintro _ nD cB;have fL:=bW.gr cB.gr 4 rfl;refine Ag<|Ab<|AI ?_;obtain rfl:=oi s;refine Ku (v:=.agg #[.slice d aB.AF.length f,.slice g aB.BW.length i,.slice j aB.Bt.length m,I x.Flat,.slice a cD.length q,.slice b cC.length aA,.slice y z26.length aG]) rfl eZ (GP Hh cB.bk rfl rfl) ?_;have ⟨fM,fN,fO⟩:=EW eJ eK eM (bW.C4 cB.gr 4 rfl);have dQ:=(dF.gr cB.gr (fun k hk=>bW.ne 2 4 rfl (congrArg some hk) rfl) (bW.C4 cB.gr 4 rfl));have dG:=(cZ.gr cB.gr (fun k hk=>bW.ne 1 4 rfl (congrArg some hk) rfl) (bW.C4 cB.gr 4 rfl));have dH:=(c0.gr cB.gr (fun k hk=>bW.ne 0 4 rfl (congrArg some hk) rfl) (bW.C4 cB.gr 4 rfl));exact⟨fL.Bc,⟨_,rfl,_,_,_,_,_,_,_,_,_,_,_,_,rfl,fM.mv (CG (DI [] trivial)),fN.mv (CG (DI [] trivial)),fO.mv (CG (DI [] trivial)),fL.IA (M:=[]) 2 rfl [] rfl trivial dQ,fL.IA (M:=[]) 1 rfl [] rfl trivial dG,fL.IA (M:=[]) 0 rfl [] rfl trivial dH⟩⟩
theorem Vz aR i o d e f g(Z:Nat→Prop) w(aH:Sl (Ay .i64) w Z d e i)(aI:Sl (Ay .i64) w Z f g o) aS(a:E2 aR i o=some aS):
 Cw Tryz.prog 41 #[.slice d i.length e,.slice f o.length g] w (fun v w'=>Ext w w'∧Dg.R w' (zf Z w []) v aS):=by
 unfold E2 at a;refine AS (N:=26) Tryz.func41 rfl rfl (by simp) ?_;intro bI ha bJ;have aE:=sA 0 ha;have aF:=sA 1 ha;clear ha;have aJ:Hp FN [] w [] w:=Hp.start (Cc.none w);have ⟨z,aA⟩:=LI aH aI (Bh (Z:=Z) (L:=[]) w);refine Af<|Ad<|wA (v:=.bool false) rfl<|Ag<|Ab<|Af<|Af<|Ad<|wM (v:=.slice d i.length e) aE<|wD (fun st=>Bu Tryz.underlying31 (eR st))<|wM (v:=.slice f o.length g) aF<|wD (fun st=>Bu Tryz.underlying31 (eR st))<|wD (fun st=>DW (eR st) (eR st))<|Ag<|Ab ?_;rcases Ak ((i.length:Int) !=(o.length:Int)) with s|s
 ·replace a:=Az a s;refine AD rfl s<|Af<|Ad<|wA (v:=.bool false) rfl<|Ag<|Ab<|AI<|Ax ?_;obtain rfl:=oi a;refine AJ rfl rfl ?_;exact⟨aJ.Bc,rfl⟩
 ·replace a:=AA a s;refine AE rfl s<|AL<|Ab<|Af<|Af<|Ad<|wA (v:=I 0) rfl<|Ag<|Ab<|AT ?_;replace a:=bind_some a;obtain⟨z2,m,a⟩:=a;refine Cm (fun aN c aB=>(aN=.ret∧∃n,z2=.inl n∧c.tmps.size=26∧c.defers=(X0).ds∧sl c 4=.bool n∧Hp FN [] w [] aB)∨(aN=.exit 0∧∃n,z2=.inr n∧c.tmps.size=26∧c.defers=(X0).ds∧Hp FN [] w [] aB)) ?aT ?aU
  case aT=>
   clear a;refine Cl (fun(aO:Nat) (c:Act) (aB:World)=>∃b,Eo i o aO b=some z2∧c.tmps.size=26∧c.defers=(X0).ds∧sl c 0=.slice d i.length e∧sl c 1=.slice f o.length g∧sl c 5=I b∧Hp FN [] w [] aB∧Sl (Ay .i64) aB (zf Z w []) d e i∧Sl (Ay .i64) aB (zf Z w []) f g o) aR ?aV ?aW
   case aV=>
    intro st;exact⟨(0:Int),m,qz st,qd st,sp st 0 aE,sp st 1 aF,sp st 5 rfl,aJ,z,aA⟩
   case aW=>
    rintro(_|aO) bK bL ⟨b,m,aP,aQ,p,y,h,aK,j,l⟩
    ·exact absurd (show none=some _ from m) (by simp)
    rw[Eo.eq_2] at m;have a:=m;clear m;refine B7 (N:=26) aP aQ<|Af<|Af<|Ad<|wM (v:=I b) h<|wM (v:=.slice d i.length e) p<|wD (fun st=>Bu Tryz.underlying31 (eR st))<|wD (fun st=>CO (eR st) (eR st))<|Ag<|Ab ?_;rcases Ak (decide (b<(i.length:Int))) with t|t
    ·replace a:=Az a t;refine AD rfl t<|AL<|Ab<|Af<|AT<|Af ?_;replace a:=AW a;obtain⟨i5,aX,aY,aZ,a0,a⟩:=a;obtain⟨bD,bE,_,a2,rfl,a3⟩:=Sl.C1 j rfl aZ;replace a:=AW a;obtain⟨i6,a4,a5,a8,a9,a⟩:=a;obtain⟨bF,bG,_,bA,rfl,bB⟩:=Sl.C1 l rfl a8;refine B9 8 [Kc (.slice d i.length e),Kc (I b),Kc (pt bD (bE+i5)),Kc (I aX),Kc (.slice f o.length g),Kc (I b),Kc (pt bF (bG+i6)),Kc (I a4)] mixed rfl rfl
         (Aa (oD (fun K=>Aq (es ((K.out 0 rfl).trans p))))
         (Aa (oD (fun K=>Aq (es ((K.out 5 rfl).trans h))))
         (Aa (oD (fun K=>AX (k:=i5) Tryz.underlying31 DR (es (K.dq 0 17)) a2 (es (K.dq 1 18)) aY a0))
         (Aa (oD (fun K=>Bg Bz (es (K.dq 2 19)) (a3.mv (Ah K.AO)) rfl))
         (Aa (oD (fun K=>Aq (es ((K.out 1 rfl).trans y))))
         (Aa (oD (fun K=>Aq (es ((K.out 5 rfl).trans h))))
         (Aa (oD (fun K=>AX (k:=i6) Tryz.underlying31 DR (es (K.dq 4 21)) bA (es (K.dq 5 22)) a5 a9))
         (Aa (oD (fun K=>Bg Bz (es (K.dq 6 23)) (bB.mv (Ah K.AO)) rfl))
         (B8 _))))))))) ?_
     intro bN;rintro _ rfl _ rfl _ rfl _ rfl _ rfl _ rfl _ rfl _ rfl aL;have aM:=aK.ext aL;refine wD (fun st=>DW (eR st) (eR st))<|Ag<|Ab ?_;rcases Ak (aX !=a4) with u|u
     ·replace a:=Az a u;refine AD rfl u<|Af<|Ad<|wA (v:=.bool false) rfl<|Ag<|Ab<|AI<|Bi<|Ax<|Ax ?_;obtain rfl:=oi a;refine B4 (fun st=>?_);exact .inl ⟨rfl,false,rfl,qz st,qd st,sp st 4 rfl,aM⟩
     ·replace a:=AA a u;refine AE rfl u<|AL<|Bs<|Ab<|Ad<|wM (v:=I b) h ?_;replace a:=AK a;obtain⟨bC,a⟩:=a;refine wD (fun st=>B0 (eR st) (eR st) bC)<|wA (v:=I (b+1)) rfl<|Ag ?_;have ⟨aC,aD⟩:=LI j l (Ah aL);refine Bw aO (Nat.lt_succ_self _) (fun st=>?_);exact⟨(b+1),a,qz st,qd st,sp st 0 p,sp st 1 y,sp st 5 rfl,aM,aC,aD⟩
    ·replace a:=AA a t;refine AE rfl t<|Cd<|AB<|AB ?_;obtain rfl:=oi a;refine B4 (fun st=>?_);exact .inr ⟨rfl,(),rfl,qz st,qd st,aK⟩
  case aU=>
   rintro aN bH bM (⟨rfl,n,rfl,q,r,aG,x⟩|⟨rfl,n,rfl,q,r,x⟩)
   ·skip
    replace a:=Eg a;refine Cn (X:=X0) (N:=26) q r<|Bi<|Ax ?_;obtain rfl:=oi a;refine AJ rfl aG ?_;exact⟨x.Bc,rfl⟩
   ·skip
    replace a:=Eh a;refine Cn (X:=X0) (N:=26) q r<|Bn<|Ab<|Af<|Ad<|wA (v:=.bool true) rfl<|Ag<|Ab<|AI ?_;obtain rfl:=oi a;refine AJ rfl rfl ?_;exact⟨x.Bc,rfl⟩
theorem Tc aR a g h i j k m n o p q r s(Z:Nat→Prop) w(aE:Sl AM w Z g h a.Al)(aF:Sl (BO (Ay .i64)) w Z i j a.Ac)(aG:Sl AQ w Z k m a.Ap)(aH:Sl Bm w Z n o a.AH)(aI:Sl Bl w Z p q a.Aw)(aJ:Sl BA w Z r s a.Ao) aS(b:Gf aR a=some aS):
 Cw Tryz.prog 36 #[.agg (Am g h i j k m n o p q r s a).toArray] w (fun v w'=>Ext w w'∧Dg.R w' (zf Z w []) v aS):=by
 unfold Gf at b;refine AS (N:=24) Tryz.func36 rfl rfl (by simp) ?_;intro aW ha aX;have aM:=sA 0 ha;clear ha;have aK:Hp FN [] w [] w:=Hp.start (Cc.none w);have ⟨y,z,aA,aO,aP,aQ⟩:=Cz aE aF aG aH aI aJ (Bh (Z:=Z) (L:=[]) w);refine Af<|Ad<|wE (fun st=>Ci (v:=.agg (Am g h i j k m n o p q r s a).toArray) (cs:=(Am g h i j k m n o p q r s a).toArray) (ee st aM) rfl) ?_;rintro _ w1 ⟨b1,rfl,u⟩;have aT:=aK.nb u;have aV:=aK.Cr u;refine wA (v:=.bool false) rfl<|Ag<|Ab<|Af<|Ad<|wD (fun st=>Ai (eR st) (Ee _ _))<|wD (fun st=>AR (l:=[.slice g a.Al.length h,.slice i a.Ac.length j,.slice k a.Ap.length m]) EP (eR st) u.bk rfl rfl) ?_;have ⟨aB,aC,aD⟩:=EW y z aA (AP u);replace b:=bind_some b;obtain⟨aN,aU,b⟩:=b;refine wE (fun st=>Ar Agv (eR st) (CR (eR st)) (a23 aR (⟨a.Al,a.Ac,a.Ap⟩:AV) g h i j k m ZA _ aB.all aC.all aD.all aN aU)) ?_;rintro _ aY ⟨aL,rfl⟩;have x:=aT.ext aL;refine wM (v:=.bool aN) rfl ?_;rcases Ak (aN) with d|d
 ·replace b:=Az b d;refine An rfl rfl (Ae rfl d) rfl (by decide) (fun st=>Ai (eR st) (GQ _ _)) ?_;have t:=(u.bk.ext aL);refine An rfl rfl (Ae rfl d) rfl (by decide) (fun st=>AG (v:=.slice n a.AH.length o) Hw (eR st) t rfl)<|An rfl rfl (Ae rfl d) rfl (by decide) (fun st=>Bu Tryz.underlying63 (eR st))<|An rfl rfl (Ae rfl d) rfl (by decide) (fun st=>LX (eR st) (eR st))<|wD (fun st=>AY (v:=.bool (decide ((a.AH.length:Int)≤5))) (eR st) d (eR st))<|wM (v:=.bool (decide ((a.AH.length:Int)≤5))) rfl ?_;rcases Ak (decide ((a.AH.length:Int)≤5)) with e|e
  ·replace b:=Az b e;refine An rfl rfl (Ae rfl e) rfl (by decide) (fun st=>Ai (eR st) (IV _ _))<|An rfl rfl (Ae rfl e) rfl (by decide) (fun st=>AG (v:=.slice p a.Aw.length q) JU (eR st) t rfl)<|An rfl rfl (Ae rfl e) rfl (by decide) (fun st=>Bu Tryz.underlying64 (eR st))<|An rfl rfl (Ae rfl e) rfl (by decide) (fun st=>LX (eR st) (eR st))<|wD (fun st=>AY (v:=.bool (decide ((a.Aw.length:Int)≤5))) (eR st) e (eR st))<|wM (v:=.bool (decide ((a.Aw.length:Int)≤5))) rfl ?_;rcases Ak (decide ((a.Aw.length:Int)≤5)) with f|f
   ·replace b:=Az b f;refine An rfl rfl (Ae rfl f) rfl (by decide) (fun st=>Ai (eR st) (Fx _ _))<|An rfl rfl (Ae rfl f) rfl (by decide) (fun st=>AG (v:=.slice r a.Ao.length s) GF (eR st) t rfl)<|An rfl rfl (Ae rfl f) rfl (by decide) (fun st=>Bu Tryz.underlying65 (eR st))<|An rfl rfl (Ae rfl f) rfl (by decide) (fun st=>LX (eR st) (eR st))<|wD (fun st=>AY (v:=.bool (decide ((a.Ao.length:Int)≤7))) (eR st) f (eR st))<|wA (v:=.bool (decide ((a.Ao.length:Int)≤7))) rfl<|Ag<|Ab<|AI ?_;obtain rfl:=oi b;refine AJ rfl rfl ?_;exact⟨x.Bc,rfl⟩
   ·replace b:=AA b f;refine Au (c:=false) rfl rfl (Ae rfl f) (by decide) rfl (by decide)<|Au (c:=false) rfl rfl (Ae rfl f) (by decide) rfl (by decide)<|Au (c:=false) rfl rfl (Ae rfl f) (by decide) rfl (by decide)<|Au (c:=false) rfl rfl (Ae rfl f) (by decide) rfl (by decide)<|wD (fun st=>BC (v:=.bool false) (eR st) f (eR st))<|wA (v:=.bool false) rfl<|Ag<|Ab<|AI ?_;obtain rfl:=oi b;refine AJ rfl rfl ?_;exact⟨x.Bc,rfl⟩
  ·replace b:=AA b e;refine Au (c:=false) rfl rfl (Ae rfl e) (by decide) rfl (by decide)<|Au (c:=false) rfl rfl (Ae rfl e) (by decide) rfl (by decide)<|Au (c:=false) rfl rfl (Ae rfl e) (by decide) rfl (by decide)<|Au (c:=false) rfl rfl (Ae rfl e) (by decide) rfl (by decide)<|wD (fun st=>BC (v:=.bool false) (eR st) e (eR st))<|wM (v:=.bool false) rfl<|Au rfl rfl rfl (by decide) rfl (by decide)<|Au rfl rfl rfl (by decide) rfl (by decide)<|Au rfl rfl rfl (by decide) rfl (by decide)<|Au rfl rfl rfl (by decide) rfl (by decide)<|wD (fun st=>BC (v:=.bool false) (eR st) rfl (eR st))<|wA (v:=.bool false) rfl<|Ag<|Ab<|AI ?_;obtain rfl:=oi b;refine AJ rfl rfl ?_;exact⟨x.Bc,rfl⟩
 ·replace b:=AA b d;refine Au (c:=false) rfl rfl (Ae rfl d) (by decide) rfl (by decide)<|Au (c:=false) rfl rfl (Ae rfl d) (by decide) rfl (by decide)<|Au (c:=false) rfl rfl (Ae rfl d) (by decide) rfl (by decide)<|Au (c:=false) rfl rfl (Ae rfl d) (by decide) rfl (by decide)<|wD (fun st=>BC (v:=.bool false) (eR st) d (eR st))<|wM (v:=.bool false) rfl<|Au rfl rfl rfl (by decide) rfl (by decide)<|Au rfl rfl rfl (by decide) rfl (by decide)<|Au rfl rfl rfl (by decide) rfl (by decide)<|Au rfl rfl rfl (by decide) rfl (by decide)<|wD (fun st=>BC (v:=.bool false) (eR st) rfl (eR st))<|wM (v:=.bool false) rfl<|Au rfl rfl rfl (by decide) rfl (by decide)<|Au rfl rfl rfl (by decide) rfl (by decide)<|Au rfl rfl rfl (by decide) rfl (by decide)<|Au rfl rfl rfl (by decide) rfl (by decide)<|wD (fun st=>BC (v:=.bool false) (eR st) rfl (eR st))<|wA (v:=.bool false) rfl<|Ag<|Ab<|AI ?_;obtain rfl:=oi b;refine AJ rfl rfl ?_;exact⟨x.Bc,rfl⟩
theorem a57 o a b(Z:Nat→Prop) w h(i:Hq o a b=some h):
 Cw Tryz.prog 57 #[I a,I b] w (fun v w'=>Ext w w'∧(Hd AM).R w' (zf Z w []) v h):=by
 unfold Hq at i;refine AS (N:=8) Tryz.func57 rfl rfl (by simp) ?_;intro p ha q;have f:=sA 0 ha;have g:=sA 1 ha;clear ha;have d:Hp FN [] w [] w:=Hp.start (Cc.none w);refine Af<|Ad<|wE (fun st=>DH (cs:= #[I 0,I 0]) MD rfl) ?_;rintro _ w1 ⟨b1,rfl,c⟩;have j:=d.nb c;have m:=d.Cr c;refine Ag<|Ab<|Af<|Ad<|wM (v:=I a) f<|wM (v:=I b) g<|wD (fun st=>HS (vs:= #[(0,I a),(1,I b)]) (v:=.agg #[I a,I b]) (NF (eR st) (eR st)) (by kernel_rfl))<|Dk rfl rfl (fun st=>CS (n:=2) (l:=[I a,I b]) (EZ:= #[I a,I b]) (eR st) (eR st) JG c.bk rfl rfl (show 0+2≤2 by decide) (Cg rfl) rfl) ?_;rintro _ w2 e;have k:=j.gr e.gr 0 rfl;refine Ag<|Ab<|AI ?_;obtain rfl:=oi i;refine Ku (v:=.agg #[I a,I b]) rfl rfl (GP Jm e.bk rfl rfl) ?_;exact⟨k.Bc,⟨_,rfl,rfl⟩⟩
theorem Y5 bL aD(Z:Nat→Prop) w bP(p:GK bL aD=some bP):
 Cw Tryz.prog 88 #[I aD] w (fun v w'=>Ext w w'∧(Hd MX).R w' (zf Z w []) v bP):=by
 unfold GK at p;refine AS (N:=29) Tryz.func88 rfl rfl (by simp) ?_;intro bX ha bY;have bM:=sA 0 ha;clear ha;have bD:Hp FN [] w [] w:=Hp.start (Cc.none w);refine Af<|Ad<|wE (fun st=>DH (cs:= #[.slice none 0 0,.slice none 0 0,.slice none 0 0,I 0,.slice none 0 0,.slice none 0 0,.slice none 0 0]) Yy rfl) ?_;rintro _ w1 ⟨b1,rfl,aP⟩;have bE:=bD.nb aP;have bU:=bD.Cr aP;refine Ag<|Ab<|Af<|Ad<|wD (fun st=>HS (vs:= #[(0,I 40),(1,I 42)]) (v:=.agg #[I 40,I 42]) (NF (eR st) (eR st)) (by kernel_rfl))<|wD (fun st=>HS (vs:= #[(0,I 60),(1,I 63)]) (v:=.agg #[I 60,I 63]) (NF (eR st) (eR st)) (by kernel_rfl))<|wE (fun st=>De (e:=131) (vs:= #[(0,.agg #[I 40,I 42]),(1,.agg #[I 60,I 63])]) (cs:= #[I 40,I 42,I 60,I 63]) (NF (eR st) (eR st)) (by kernel_rfl)) ?_;rintro _ w2 ⟨b2,rfl,aL⟩;have bF:=bE.nb aL;have a5:=bE.Cr aL;refine wE (fun st=>De (e:=3) (vs:= #[(0,I 10),(1,I 10)]) (cs:= #[I 10,I 10]) (NF (eR st) (eR st)) (by kernel_rfl)) ?_;rintro _ b5 ⟨b3,rfl,aG⟩;have bG:=bF.nb aG;have a8:=bF.Cr aG;refine wE (fun st=>De (e:=3) (vs:= #[(0,I 5),(1,I 15)]) (cs:= #[I 5,I 15]) (NF (eR st) (eR st)) (by kernel_rfl)) ?_;rintro _ b6 ⟨t,rfl,aB⟩;have bH:=bG.nb aB;have a9:=bG.Cr aB;refine wE (fun st=>De (e:=31) (vs:= #[(0,.slice (some ⟨b3,0,none⟩) 2 2),(1,.slice (some ⟨t,0,none⟩) 2 2)]) (cs:= #[.slice (some ⟨b3,0,none⟩) 2 2,.slice (some ⟨t,0,none⟩) 2 2]) (NF (eR st) (eR st)) (by kernel_rfl)) ?_;rintro _ b7 ⟨f,rfl,x⟩;have bI:=bH.nb x;have bA:=bH.Cr x;refine wD (fun st=>HS (vs:= #[(0,.slice (some ⟨b2,0,none⟩) 2 2),(1,.slice (some ⟨f,0,none⟩) 2 2)]) (v:=.agg #[.slice (some ⟨b2,0,none⟩) 2 2,.slice (some ⟨f,0,none⟩) 2 2,.slice none 0 0]) (NF (eR st) (eR st)) (by kernel_rfl))<|wE (fun st=>DH (cs:= #[.slice none 0 0,.slice none 0 0,.slice none 0 0]) Yx rfl) ?_;rintro _ b8 ⟨aH,rfl,s⟩;have aC:=bI.nb s;have bV:=bI.Cr s;refine Dk rfl rfl (fun st=>CS (n:=3) (l:=[.slice (some ⟨b2,0,none⟩) 2 2,.slice (some ⟨f,0,none⟩) 2 2,.slice none 0 0]) (EZ:= #[.slice (some ⟨b2,0,none⟩) 2 2,.slice (some ⟨f,0,none⟩) 2 2,.slice none 0 0]) (eR st) (eR st) Aeb s.bk rfl rfl (show 0+3≤3 by decide) (Cg rfl) rfl) ?_;rintro _ b9 y;have bQ:=aC.gr y.gr 0 rfl;refine Ag<|Ab<|Af<|Ad ?_;replace p:=bind_some p;obtain⟨b,bR,p⟩:=p;refine wE (fun st=>Ar TF (eR st) (Dw (eR st) (eR st)) (a57 bL 80 80 ZA _ b bR)) ?_;rintro _ cA ⟨z,⟨_,rfl,rfl⟩⟩;have bS:=bQ.ext z;refine wD (fun st=>HS (vs:= #[(1,.agg #[I b.Lo,I b.Hi])]) (v:=.agg #[I 0,I b.Lo,I b.Hi]) (JN (eR st)) (by kernel_rfl)) ?_;replace p:=bind_some p;obtain⟨a,bN,p⟩:=p;refine wE (fun st=>Ar TF (eR st) (Dw (eR st) (eR st)) (a57 bL 40 40 ZA _ a bN)) ?_;rintro _ bZ ⟨m,⟨_,rfl,rfl⟩⟩;have bJ:=bS.ext m;refine wD (fun st=>HS (vs:= #[(1,.agg #[I a.Lo,I a.Hi])]) (v:=.agg #[I 0,I a.Lo,I a.Hi]) (JN (eR st)) (by kernel_rfl))<|wE (fun st=>De (e:=136) (vs:= #[(0,.agg #[I 0,I b.Lo,I b.Hi]),(1,.agg #[I 0,I a.Lo,I a.Hi])]) (cs:= #[I 0,I b.Lo,I b.Hi,I 0,I a.Lo,I a.Hi]) (NF (eR st) (eR st)) (by kernel_rfl)) ?_;rintro _ bT ⟨aQ,rfl,g⟩;have aR:=bJ.nb g;have aS:=bJ.Cr g;refine wA (v:=.slice (some ⟨aQ,0,none⟩) 2 2) rfl<|Ag<|Ab<|Af ?_;have aI:=aR.erase 0;have aM:=g.bk;have aT:Sl BA bT (zf Z w [some aH,some f,some t,some b3,some b2,some b1]) (some ⟨aQ,0,none⟩) 2 [(⟨0,b.Lo,b.Hi⟩:Ct),(⟨0,a.Lo,a.Hi⟩:Ct)]:=LY (e:=BA) (xs:=[(⟨0,b.Lo,b.Hi⟩:Ct),(⟨0,a.Lo,a.Hi⟩:Ct)]) (DQ:=[[I 0,I b.Lo,I b.Hi],[I 0,I a.Lo,I a.Hi]]) aM (aR.lit 0 rfl aS) ⟨rfl,rfl,trivial⟩ rfl (Nat.le_refl _);have aU:=(((y.bk.ext z).ext m).ext g.gr);replace p:=N1 p;obtain⟨bO,p⟩:=p;refine B9 11 [Kc (.agg #[.slice (some ⟨b2,0,none⟩) 2 2,.slice (some ⟨f,0,none⟩) 2 2,.slice none 0 0]),Kc (.agg #[I 55,I 6]),Kc (.agg #[I 51,I 4]),Kc (.agg #[I 40,I 2]),Kv (Gp Bm) (zf Z w [some aH,some f,some t,some b3,some b2,some b1]) [(⟨55,6⟩:Ez),(⟨51,4⟩:Ez),(⟨40,2⟩:Ez)],Kc (.agg #[I 0,I 20]),Kc (.agg #[I 1,I 10]),Kv (Gp Bl) (zf Z w [some aH,some f,some t,some b3,some b2,some b1]) [(⟨0,20⟩:CU),(⟨1,10⟩:CU)],Kc (.slice (some ⟨aQ,0,none⟩) 2 2),Kc (I aD),Kv (Gp BA) (zf Z w [some aH,some f,some t,some b3,some b2,some b1]) (Gv [(⟨0,b.Lo,b.Hi⟩:Ct),(⟨0,a.Lo,a.Hi⟩:Ct)] (0:Int) aD)] mixed rfl rfl
     (Aa (oD (fun K=>AR (l:=[.slice (some ⟨b2,0,none⟩) 2 2,.slice (some ⟨f,0,none⟩) 2 2,.slice none 0 0]) N9 (es ((K.out 3 rfl).trans rfl)) (aU.ext K.AO) rfl rfl))
     (Aa (oD (fun K=>HS (vs:= #[(0,I 55),(1,I 6)]) (v:=.agg #[I 55,I 6]) (NF (ec (v:=I 55)) (ec (v:=I 6))) (by kernel_rfl)))
     (Aa (oD (fun K=>HS (vs:= #[(0,I 51),(1,I 4)]) (v:=.agg #[I 51,I 4]) (NF (ec (v:=I 51)) (ec (v:=I 4))) (by kernel_rfl)))
     (Aa (oD (fun K=>HS (vs:= #[(0,I 40),(1,I 2)]) (v:=.agg #[I 40,I 2]) (NF (ec (v:=I 40)) (ec (v:=I 2))) (by kernel_rfl)))
     (Aa (Dl rfl rfl (fun a' w' ph K=>(De (e:=48) (vs:= #[(0,.agg #[I 55,I 6]),(1,.agg #[I 51,I 4]),(2,.agg #[I 40,I 2])]) (cs:= #[I 55,I 6,I 51,I 4,I 40,I 2]) (pm3 (es (K.dq 1 18)) (es (K.dq 2 19)) (es (K.dq 3 20))) (by kernel_rfl)).mono (fun u CJ ⟨bW,hu,hn⟩=>⟨⟨_,_,hu,LY (xs:=[(⟨55,6⟩:Ez),(⟨51,4⟩:Ez),(⟨40,2⟩:Ez)]) (DQ:=[[I 55,I 6],[I 51,I 4],[I 40,I 2]]) hn.bk ((aI.ext K.AO).kn (Nat.le_of_eq hn.Jj.symm)) (R2.mv (Ah hn.gr) (show R2 Bm w' (zf Z w [some aH,some f,some t,some b3,some b2,some b1]) [[I 55,I 6],[I 51,I 4],[I 40,I 2]] [(⟨55,6⟩:Ez),(⟨51,4⟩:Ez),(⟨40,2⟩:Ez)] from⟨rfl,rfl,rfl,trivial⟩)) rfl (Nat.le_refl _)⟩,hn.gr⟩)))
     (Aa (oD (fun K=>HS (vs:= #[(0,I 0),(1,I 20)]) (v:=.agg #[I 0,I 20]) (NF (ec (v:=I 0)) (ec (v:=I 20))) (by kernel_rfl)))
     (Aa (oD (fun K=>HS (vs:= #[(0,I 1),(1,I 10)]) (v:=.agg #[I 1,I 10]) (NF (ec (v:=I 1)) (ec (v:=I 10))) (by kernel_rfl)))
     (Aa (Dl rfl rfl (fun a' w' ph K=>(De (e:=134) (vs:= #[(0,.agg #[I 0,I 20]),(1,.agg #[I 1,I 10])]) (cs:= #[I 0,I 20,I 1,I 10]) (NF (es (K.dq 5 22)) (es (K.dq 6 23))) (by kernel_rfl)).mono (fun u CJ ⟨bW,hu,hn⟩=>⟨⟨_,_,hu,LY (xs:=[(⟨0,20⟩:CU),(⟨1,10⟩:CU)]) (DQ:=[[I 0,I 20],[I 1,I 10]]) hn.bk ((aI.ext K.AO).kn (Nat.le_of_eq hn.Jj.symm)) (R2.mv (Ah hn.gr) (show R2 Bl w' (zf Z w [some aH,some f,some t,some b3,some b2,some b1]) [[I 0,I 20],[I 1,I 10]] [(⟨0,20⟩:CU),(⟨1,10⟩:CU)] from⟨rfl,rfl,trivial⟩)) rfl (Nat.le_refl _)⟩,hn.gr⟩)))
     (Aa (oD (fun K=>Aq (es ((K.out 4 rfl).trans rfl))))
     (Aa (oD (fun K=>Aq (es ((K.out 0 rfl).trans bM))))
     (Aa (Dl rfl rfl (fun a' w' ph K=>(RF (e:=BA) (Z:=_) (xs:=[(⟨0,b.Lo,b.Hi⟩:Ct),(⟨0,a.Lo,a.Hi⟩:Ct)]) Tryz.underlying51 Vs rfl (es (K.dq 8 25)) S7 (Tt (es (K.dq 9 26))) (aT.mv (Ah K.AO)) bO).mono (fun u CJ ⟨h1,h2⟩=>by subst h2;exact⟨h1,Ext.refl _⟩)))
     (B8 _)))))))))))) ?_
 intro b4;rintro _ rfl _ rfl _ rfl _ rfl _ ⟨h,i,rfl,aN⟩ _ rfl _ rfl _ ⟨j,k,rfl,aO⟩ _ rfl _ rfl _ ⟨c,d,rfl,aJ⟩ q;have r:=aI.ext q;refine wD (fun st=>HS (vs:= #[(0,.agg #[.slice (some ⟨b2,0,none⟩) 2 2,.slice (some ⟨f,0,none⟩) 2 2,.slice none 0 0]),(1,I 3),(2,.slice h ([(⟨55,6⟩:Ez),(⟨51,4⟩:Ez),(⟨40,2⟩:Ez)].length) i),(3,.slice j ([(⟨0,20⟩:CU),(⟨1,10⟩:CU)].length) k),(4,.slice c ((Gv [(⟨0,b.Lo,b.Hi⟩:Ct),(⟨0,a.Lo,a.Hi⟩:Ct)] (0:Int) aD).length) d)]) (v:=.agg #[.slice (some ⟨b2,0,none⟩) 2 2,.slice (some ⟨f,0,none⟩) 2 2,.slice none 0 0,I 3,.slice h ([(⟨55,6⟩:Ez),(⟨51,4⟩:Ez),(⟨40,2⟩:Ez)].length) i,.slice j ([(⟨0,20⟩:CU),(⟨1,10⟩:CU)].length) k,.slice c ((Gv [(⟨0,b.Lo,b.Hi⟩:Ct),(⟨0,a.Lo,a.Hi⟩:Ct)] (0:Int) aD).length) d]) (pm5 (eR st) (eR st) (eR st) (eR st) (eR st)) (by kernel_rfl)) ?_;have aV:=((((((((((aP.bk.ext aL.gr).ext aG.gr).ext aB.gr).ext x.gr).ext s.gr).gr y.gr (aC.nq 5 0)).ext z).ext m).ext g.gr).ext q);refine Dk rfl rfl (fun st=>CS (n:=7) (l:=[.slice (some ⟨b2,0,none⟩) 2 2,.slice (some ⟨f,0,none⟩) 2 2,.slice none 0 0,I 3,.slice h ([(⟨55,6⟩:Ez),(⟨51,4⟩:Ez),(⟨40,2⟩:Ez)].length) i,.slice j ([(⟨0,20⟩:CU),(⟨1,10⟩:CU)].length) k,.slice c ((Gv [(⟨0,b.Lo,b.Hi⟩:Ct),(⟨0,a.Lo,a.Hi⟩:Ct)] (0:Int) aD).length) d]) (EZ:= #[.slice (some ⟨b2,0,none⟩) 2 2,.slice (some ⟨f,0,none⟩) 2 2,.slice none 0 0,I 3,.slice h ([(⟨55,6⟩:Ez),(⟨51,4⟩:Ez),(⟨40,2⟩:Ez)].length) i,.slice j ([(⟨0,20⟩:CU),(⟨1,10⟩:CU)].length) k,.slice c ((Gv [(⟨0,b.Lo,b.Hi⟩:Ct),(⟨0,a.Lo,a.Hi⟩:Ct)] (0:Int) aD).length) d]) (eR st) (eR st) AbQ aV rfl rfl (show 0+7≤7 by decide) (Cg rfl) rfl) ?_;rintro _ bK o;have aW:=r.gr o.gr 5 rfl;refine Ag<|Ab<|AI ?_;have aX:=aW.erase 3;have aY:=(((((((((aG.bk.ext aB.gr).ext x.gr).ext s.gr).gr y.gr (aC.nq 3 0)).ext z).ext m).ext g.gr).ext q).gr o.gr (r.nq 3 5));have bB:Sl (Ay .i64) bK (zf Z w [some aH,some f,some t,some b2,some b1]) (some ⟨b3,0,none⟩) 2 [10,10]:=LY (e:=(Ay .i64)) (xs:=[10,10]) (DQ:=[[I 10],[I 10]]) aY (aW.lit 3 rfl a8) ⟨rfl,rfl,trivial⟩ rfl (Nat.le_refl _);have aK:=aX.erase 2;have aZ:=((((((((aB.bk.ext x.gr).ext s.gr).gr y.gr (aC.nq 2 0)).ext z).ext m).ext g.gr).ext q).gr o.gr (r.nq 2 5));have bC:Sl (Ay .i64) bK (zf Z w [some aH,some f,some b2,some b1]) (some ⟨t,0,none⟩) 2 [5,15]:=LY (e:=(Ay .i64)) (xs:=[5,15]) (DQ:=[[I 5],[I 15]]) aZ (aX.lit 2 rfl a9) ⟨rfl,rfl,trivial⟩ rfl (Nat.le_refl _);obtain rfl:=oi p;have a0:=o.bk;refine Ku (v:=.agg #[.slice (some ⟨b2,0,none⟩) 2 2,.slice (some ⟨f,0,none⟩) 2 2,.slice none 0 0,I 3,.slice h ([(⟨55,6⟩:Ez),(⟨51,4⟩:Ez),(⟨40,2⟩:Ez)].length) i,.slice j ([(⟨0,20⟩:CU),(⟨1,10⟩:CU)].length) k,.slice c ((Gv [(⟨0,b.Lo,b.Hi⟩:Ct),(⟨0,a.Lo,a.Hi⟩:Ct)] (0:Int) aD).length) d]) rfl rfl (GP Hh a0 rfl rfl) ?_;have a2:=((((((((((aL.bk.ext aG.gr).ext aB.gr).ext x.gr).ext s.gr).gr y.gr (aC.nq 4 0)).ext z).ext m).ext g.gr).ext q).gr o.gr (r.nq 4 5));have a3:=(((((((x.bk.ext s.gr).gr y.gr (aC.nq 1 0)).ext z).ext m).ext g.gr).ext q).gr o.gr (r.nq 1 5));have a4:=(bB.mv (Bp 2));have ⟨aE,aF,aA⟩:=EW aN aO aJ (mt (r.C4 o.gr 5 rfl) (mt (Bp 3) (Bp 2)));exact⟨aK.Bc,⟨_,rfl,_,_,_,_,_,_,_,_,_,_,_,_,rfl,LY (e:=AM) (Z:=zf Z w []) (xs:=[(⟨40,42⟩:AN),(⟨60,63⟩:AN)]) (DQ:=[[I 40,I 42],[I 60,I 63]]) a2 (.inr ⟨a5,fun hm=>aK.FZ (F':=FN) (M:=[]) 2 rfl [] rfl trivial eL (.inr hm)⟩) ⟨rfl,rfl,trivial⟩ rfl (Nat.le_refl _),LY (e:=(BO (Ay .i64))) (Z:=zf Z w []) (xs:=[[10,10],[5,15]]) (DQ:=[[.slice (some ⟨b3,0,none⟩) 2 2],[.slice (some ⟨t,0,none⟩) 2 2]]) a3 (.inr ⟨bA,fun hm=>aK.FZ (F':=FN) (M:=[]) 1 rfl [] rfl trivial eL (.inr hm)⟩) ⟨⟨_,_,rfl,(a4.mv (CG (DI [] trivial)))⟩,⟨_,_,rfl,(bC.mv (CG (DI [] trivial)))⟩,trivial⟩ rfl (Nat.le_refl _),Sl.nil _ _ _,aE.mv (CG (DI [] trivial)),aF.mv (CG (DI [] trivial)),aA.mv (CG (DI [] trivial))⟩⟩
set_option maxHeartbeats 4000000 in
theorem a37 i(Z:Nat→Prop) w(a:Bx i=some true):
 Cw Tryz.prog 37 #[] w (fun v w'=>Ext w w'∧v=.bool true):=by
 unfold Bx at a;refine AS (N:=148) Tryz.func37 rfl rfl (by simp) ?_;intro jN ha jO;clear ha;have hN:Hp FN [] w [] w:=Hp.start (Cc.none w);refine Af<|Ad<|wA (v:=.bool false) rfl<|Ag<|Ab<|Af<|Ad ?_;replace a:=bind_some a;obtain⟨i6,i7,a⟩:=a;refine wE (fun st=>Ar SS (eR st) (CR (eR st)) (Y5 i 0 (zf Z w []) _ i6 i7)) ?_;rintro _ w2 ⟨i8,⟨_,rfl,⟨gF,gG,gH,gI,gJ,gK,gL,gM,gN,gO,gP,gQ,rfl,b5,b6,b7,b8,b9,cA⟩⟩⟩;have hO:=hN.ext i8;have ⟨b5,b6,b7,b8,b9,cA⟩:=Cz b5 b6 b7 b8 b9 cA (hN.Da (Nat.le_refl _));refine wE (fun st=>De (e:=3) (vs:= #[(0,I 41),(1,I 62)]) (cs:= #[I 41,I 62]) (NF (eR st) (eR st)) (by kernel_rfl)) ?_;rintro _ jM ⟨b3,rfl,d9⟩;have hP:=hO.nb d9;have hH:=hO.Cr d9;have hQ:=hP.erase 0;have hI:=d9.bk;have hJ:Sl (Ay .i64) jM (zf Z w []) (some ⟨b3,0,none⟩) 2 [41,62]:=LY (e:=(Ay .i64)) (xs:=[41,62]) (DQ:=[[I 41],[I 62]]) hI (hP.lit 0 rfl hH) ⟨rfl,rfl,trivial⟩ rfl (Nat.le_refl _);have ⟨dU,dV,dW,dX,dY,dZ⟩:=Cz b5 b6 b7 b8 b9 cA (mt (AP d9) (Bp 0));replace a:=bind_some a;obtain⟨cB,i9,a⟩:=a;refine wE (fun st=>Ar Aal (eR st) (Dw (eR st) (eR st)) (a32 i i6 [41,62] gF gG gH gI gJ gK gL gM gN gO gP gQ (some ⟨b3,0,none⟩) 2 (zf Z w []) _ dU dV dW dX dY dZ hJ cB i9)) ?_;rintro _ j6 ⟨jA,⟨_,_,rfl,⟨bZ,b4,rfl,c6⟩,rfl⟩⟩;have hR:=hQ.ext jA;have c6:=c6.mv (hQ.Da (Nat.le_refl _));refine wM (v:=.tuple #[.slice bZ cB.1.length b4,I cB.2]) rfl<|wD (fun st=>BH (v:=.slice bZ cB.1.length b4) (eR st) rfl)<|wD (fun st=>BH (v:=I cB.2) (eR st) rfl)<|wA (v:=.slice bZ cB.1.length b4) rfl<|wA (v:=I cB.2) rfl<|Ag<|Ab<|Af<|Ad ?_;replace a:=bind_some a;obtain⟨jB,jC,a⟩:=a;refine wE (fun st=>Ar SS (eR st) (CR (eR st)) (Y5 i 0 (zf Z w []) _ jB jC)) ?_;rintro _ j7 ⟨hS,⟨_,rfl,⟨gR,gS,gT,gU,gV,gW,gX,gY,gZ,g0,g1,g2,rfl,cC,cD,cE,cF,cG,cH⟩⟩⟩;have hT:=hR.ext hS;have ⟨cC,cD,cE,cF,cG,cH⟩:=Cz cC cD cE cF cG cH (hR.Da (Nat.le_refl _));replace a:=bind_some a;obtain⟨r,jD,a⟩:=a;refine wE (fun st=>Ar RH (eR st) (CR (eR st)) (WC i jB gR gS gT gU gV gW gX gY gZ g0 g1 g2 (zf Z w []) _ cC cD cE cF cG cH r jD)) ?_;rintro _ j8 ⟨hU,⟨_,_,rfl,⟨aJ,aK,rfl,c7⟩,rfl⟩⟩;have hV:=hT.ext hU;have c7:=c7.mv (hT.Da (Nat.le_refl _));refine wM (v:=.tuple #[.slice aJ r.1.length aK,I r.2]) rfl<|wD (fun st=>BH (v:=.slice aJ r.1.length aK) (eR st) rfl)<|wD (fun st=>BH (v:=I r.2) (eR st) rfl)<|wA (v:=.slice aJ r.1.length aK) rfl<|wA (v:=I r.2) rfl<|Ag<|Ab<|Af<|Ad ?_;replace a:=bind_some a;obtain⟨hW,h8,a⟩:=a;refine wE (fun st=>Ar SS (eR st) (CR (eR st)) (Y5 i 0 (zf Z w []) _ hW h8)) ?_;rintro _ jP ⟨d5,⟨_,rfl,⟨eA,eB,eC,eD,eE,eF,eG,eH,eI,eJ,eK,eM,rfl,aL,aM,aN,aO,aP,aQ⟩⟩⟩;have hX:=hV.ext d5;have ⟨aL,aM,aN,aO,aP,aQ⟩:=Cz aL aM aN aO aP aQ (hV.Da (Nat.le_refl _));refine wE (fun st=>De (e:=3) (vs:= #[(0,I 0),(1,I 1)]) (cs:= #[I 0,I 1]) (NF (eR st) (eR st)) (by kernel_rfl)) ?_;rintro _ jQ ⟨d,rfl,cI⟩;have jE:=hX.nb cI;have jF:=hX.Cr cI;have ⟨dH,dI,dJ,dK,dL,dM⟩:=Cz aL aM aN aO aP aQ (AP cI);replace a:=bind_some a;obtain⟨b,h9,a⟩:=a;refine wE (fun st=>Ar QA (eR st) (Dw (eR st) (eR st)) (UZ i hW [0,1] eA eB eC eD eE eF eG eH eI eJ eK eM (some ⟨d,0,none⟩) 2 ZA _ dH.all dI.all dJ.all dK.all dL.all dM.all (LY (e:=(Ay .i64)) (xs:=[0,1]) (DQ:=[[I 0],[I 1]]) cI.bk trivial ⟨rfl,rfl,trivial⟩ rfl (Nat.le_refl _)) b h9)) ?_;rintro _ jR ⟨d6,⟨_,_,rfl,⟨_,rfl,rfl⟩,rfl⟩⟩;have hY:=jE.ext d6;refine wM (v:=.tuple #[.agg #[I b.1.Lo,I b.1.Hi],I b.2]) rfl<|wD (fun st=>BH (v:=.agg #[I b.1.Lo,I b.1.Hi]) (eR st) rfl)<|wD (fun st=>BH (v:=I b.2) (eR st) rfl)<|wE (fun st=>DH (cs:= #[I 0,I 0]) MD rfl) ?_;rintro _ jS ⟨f,rfl,c8⟩;have d7:=hY.nb c8;have jG:=hY.Cr c8;refine Dk rfl rfl (fun st=>CS (n:=2) (l:=[I b.1.Lo,I b.1.Hi]) (EZ:= #[I b.1.Lo,I b.1.Hi]) (eR st) (eR st) JG c8.bk rfl rfl (show 0+2≤2 by decide) (Cg rfl) rfl) ?_;rintro _ jT dN;have g3:=d7.gr dN.gr 0 rfl;refine wA (v:=I b.2) rfl<|Ag<|Ab<|Af<|Ad ?_;replace a:=bind_some a;obtain⟨hZ,iA,a⟩:=a;refine wE (fun st=>Ar SS (eR st) (CR (eR st)) (Y5 i 0 (zf Z w [some f,some d]) _ hZ iA)) ?_;rintro _ jU ⟨dO,⟨_,rfl,⟨eN,eO,eP,eQ,eS,eT,eU,eV,eW,eX,eY,eZ,rfl,aR,aS,aT,aU,aV,aW⟩⟩⟩;have g4:=g3.ext dO;have ⟨aR,aS,aT,aU,aV,aW⟩:=Cz aR aS aT aU aV aW (g3.Da (Nat.le_refl _));replace a:=bind_some a;obtain⟨c,iB,a⟩:=a;refine wE (fun st=>Ar Vw (eR st) (CR (eR st)) (a34 i hZ eN eO eP eQ eS eT eU eV eW eX eY eZ (zf Z w [some f,some d]) _ aR aS aT aU aV aW c iB)) ?_;rintro _ jV ⟨dP,⟨_,_,_,rfl,⟨aB,aC,rfl,cJ⟩,rfl,rfl⟩⟩;have g5:=g4.ext dP;have cJ:=cJ.mv (g4.Da (Nat.le_refl _));refine wM (v:=.tuple #[.slice aB c.1.length aC,I c.2.1,I c.2.2]) rfl<|wD (fun st=>BH (v:=.slice aB c.1.length aC) (eR st) rfl)<|wD (fun st=>BH (v:=I c.2.1) (eR st) rfl)<|wD (fun st=>BH (v:=I c.2.2) (eR st) rfl)<|wA (v:=.slice aB c.1.length aC) rfl<|wA (v:=I c.2.1) rfl<|wA (v:=I c.2.2) rfl<|Ag<|Ab<|Af<|Ad ?_;replace a:=bind_some a;obtain⟨h3,iC,a⟩:=a;refine wE (fun st=>Ar SS (eR st) (CR (eR st)) (Y5 i 1 (zf Z w [some f,some d]) _ h3 iC)) ?_;rintro _ jW ⟨c9,⟨_,rfl,⟨e0,e1,e2,e3,e4,e5,e6,e7,e8,e9,fA,fB,rfl,aX,aY,aZ,a0,a2,a3⟩⟩⟩;have g6:=g5.ext c9;have ⟨aX,aY,aZ,a0,a2,a3⟩:=Cz aX aY aZ a0 a2 a3 (g5.Da (Nat.le_refl _));replace a:=bind_some a;obtain⟨j,iD,a⟩:=a;refine wE (fun st=>Ar Vx (eR st) (CR (eR st)) (a81 i h3 e0 e1 e2 e3 e4 e5 e6 e7 e8 e9 fA fB (zf Z w [some f,some d]) _ aX aY aZ a0 a2 a3 j iD)) ?_;rintro _ jX ⟨dA,⟨_,_,rfl,⟨aD,aE,rfl,cK⟩,rfl⟩⟩;have g7:=g6.ext dA;have cK:=cK.mv (g6.Da (Nat.le_refl _));refine wM (v:=.tuple #[.slice aD j.1.length aE,I j.2]) rfl<|wD (fun st=>BH (v:=.slice aD j.1.length aE) (eR st) rfl)<|wD (fun st=>BH (v:=I j.2) (eR st) rfl)<|wA (v:=.slice aD j.1.length aE) rfl<|wA (v:=I j.2) rfl<|Ag<|Ab<|Af<|Ad ?_;replace a:=bind_some a;obtain⟨h4,iE,a⟩:=a;refine wE (fun st=>Ar SS (eR st) (CR (eR st)) (Y5 i 0 (zf Z w [some f,some d]) _ h4 iE)) ?_;rintro _ jY ⟨cL,⟨_,rfl,⟨fC,fD,fE,fF,fG,fH,fI,fJ,fK,fL,fM,fN,rfl,a4,a5,a8,a9,bA,bB⟩⟩⟩;have g8:=g7.ext cL;have ⟨a4,a5,a8,a9,bA,bB⟩:=Cz a4 a5 a8 a9 bA bB (g7.Da (Nat.le_refl _));replace a:=bind_some a;obtain⟨m,iF,a⟩:=a;refine wE (fun st=>Ar XC (eR st) (CR (eR st)) (a69 i h4 fC fD fE fF fG fH fI fJ fK fL fM fN (zf Z w [some f,some d]) _ a4 a5 a8 a9 bA bB m iF)) ?_;rintro _ jZ ⟨cM,⟨_,_,rfl,⟨aF,aG,rfl,cN⟩,rfl⟩⟩;have g9:=g8.ext cM;have cN:=cN.mv (g8.Da (Nat.le_refl _));refine wM (v:=.tuple #[.slice aF m.1.length aG,I m.2]) rfl<|wD (fun st=>BH (v:=.slice aF m.1.length aG) (eR st) rfl)<|wD (fun st=>BH (v:=I m.2) (eR st) rfl)<|wA (v:=.slice aF m.1.length aG) rfl<|wA (v:=I m.2) rfl<|Ag<|Ab<|Af<|Ad ?_;replace a:=bind_some a;obtain⟨h6,iG,a⟩:=a;refine wE (fun st=>Ar SS (eR st) (CR (eR st)) (Y5 i 2 (zf Z w [some f,some d]) _ h6 iG)) ?_;rintro _ j0 ⟨bC,⟨_,rfl,⟨fO,fP,fQ,fR,fS,fT,fU,fV,fW,fX,fY,fZ,rfl,bD,bE,bF,bG,bH,bI⟩⟩⟩;have iH:=g9.ext bC;have ⟨bD,bE,bF,bG,bH,bI⟩:=Cz bD bE bF bG bH bI (g9.Da (Nat.le_refl _));replace a:=bind_some a;obtain⟨g,iI,a⟩:=a;refine wE (fun st=>Ar XD (eR st) (CR (eR st)) (a42 i h6 fO fP fQ fR fS fT fU fV fW fX fY fZ ZA _ bD.all bE.all bF.all bG.all bH.all bI.all g iI)) ?_;rintro _ j1 ⟨bJ,⟨_,_,rfl,rfl,rfl⟩⟩;have hA:=iH.ext bJ;refine wM (v:=.tuple #[I g.1,I g.2]) rfl<|wD (fun st=>BH (v:=I g.1) (eR st) rfl)<|wD (fun st=>BH (v:=I g.2) (eR st) rfl)<|wA (v:=I g.1) rfl<|wA (v:=I g.2) rfl<|Ag<|Ab<|Af<|Ad ?_;replace a:=bind_some a;obtain⟨h7,iJ,a⟩:=a;refine wE (fun st=>Ar SS (eR st) (CR (eR st)) (Y5 i 2 (zf Z w [some f,some d]) _ h7 iJ)) ?_;rintro _ j2 ⟨bK,⟨_,rfl,⟨f0,f1,f2,f3,f4,f5,f6,f7,f8,f9,gA,gB,rfl,bL,bM,bN,bO,bP,bQ⟩⟩⟩;have hB:=hA.ext bK;have ⟨bL,bM,bN,bO,bP,bQ⟩:=Cz bL bM bN bO bP bQ (hA.Da (Nat.le_refl _));replace a:=bind_some a;obtain⟨o,iK,a⟩:=a;refine wE (fun st=>Ar Uk (eR st) (CR (eR st)) (a43 i h7 f0 f1 f2 f3 f4 f5 f6 f7 f8 f9 gA gB (zf Z w [some f,some d]) _ bL bM bN bO bP bQ o iK)) ?_;rintro _ j3 ⟨bR,⟨_,_,rfl,⟨aH,aI,rfl,cO⟩,rfl⟩⟩;have cP:=hB.ext bR;have cO:=cO.mv (hB.Da (Nat.le_refl _));refine wM (v:=.tuple #[.slice aH o.1.length aI,I o.2]) rfl<|wD (fun st=>BH (v:=.slice aH o.1.length aI) (eR st) rfl)<|wD (fun st=>BH (v:=I o.2) (eR st) rfl)<|wA (v:=.slice aH o.1.length aI) rfl<|wA (v:=I o.2) rfl<|Ag<|Ab<|Af ?_;rcases Ak (cB.2==0) with bS|bS
 ·replace a:=Az a bS;have d0:=(((((((((((((((((c6.mv (Ah hS)).mv (Ah hU)).mv (Ah d5)).mv (AP cI)).mv (Ah d6)).mv (AP c8)).mv (d7.C4 dN.gr 0 rfl)).mv (Ah dO)).mv (Ah dP)).mv (Ah c9)).mv (Ah dA)).mv (Ah cL)).mv (Ah cM)).mv (Ah bC)).mv (Ah bJ)).mv (Ah bK)).mv (Ah bR));replace a:=bind_some a;obtain⟨d1,iL,a⟩:=a;rcases Ak (d1) with cQ|cQ
  ·replace a:=Az a cQ;rcases Ak (r.2==0) with bT|bT
   ·replace a:=Az a bT;rcases Ak ((r.1.length:Int)==2) with z|z
    ·replace a:=Az a z;replace a:=AW a;obtain⟨i43,p,iM,iN,iO,a⟩:=a;have c5:=(((((((((((((((c7.mv (Ah d5)).mv (AP cI)).mv (Ah d6)).mv (AP c8)).mv (d7.C4 dN.gr 0 rfl)).mv (Ah dO)).mv (Ah dP)).mv (Ah c9)).mv (Ah dA)).mv (Ah cL)).mv (Ah cM)).mv (Ah bC)).mv (Ah bJ)).mv (Ah bK)).mv (Ah bR));obtain⟨jH,jI,_,iP,rfl,iQ⟩:=Sl.elem c5 (by decide) iN;replace a:=bind_some a;obtain⟨s,iR,a⟩:=a;rcases Ak ([p.Lo,p.Hi]==[s.Lo,s.Hi]) with aA|aA
     ·replace a:=Az a aA;replace a:=AW a;obtain⟨i46,q,iS,iT,iU,a⟩:=a;obtain⟨jJ,jK,_,iV,rfl,iW⟩:=Sl.elem c5 (by decide) iT;replace a:=bind_some a;obtain⟨x,iX,a⟩:=a;rcases Ak ([q.Lo,q.Hi]==[x.Lo,x.Hi]) with cR|cR
      ·replace a:=Az a cR;rcases Ak (b.2==0) with bU|bU
       ·replace a:=Az a bU;have gC:=((((((((((dN.bk.ext dO).ext dP).ext c9).ext dA).ext cL).ext cM).ext bC).ext bJ).ext bK).ext bR);replace a:=bind_some a;obtain⟨y,iY,a⟩:=a;rcases Ak ([b.1.Lo,b.1.Hi]==[y.Lo,y.Hi]) with cS|cS
        ·replace a:=Az a cS;rcases Ak (c.2.2==0) with bV|bV
         ·replace a:=Az a bV;have dQ:=((((((((cJ.mv (Ah c9)).mv (Ah dA)).mv (Ah cL)).mv (Ah cM)).mv (Ah bC)).mv (Ah bJ)).mv (Ah bK)).mv (Ah bR));replace a:=bind_some a;obtain⟨d2,iZ,a⟩:=a;rcases Ak (d2) with cT|cT
          ·replace a:=Az a cT;rcases Ak (c.2.1==180) with cU|cU
           ·replace a:=Az a cU;rcases Ak (j.2==0) with bW|bW
            ·replace a:=Az a bW;have dR:=((((((cK.mv (Ah cL)).mv (Ah cM)).mv (Ah bC)).mv (Ah bJ)).mv (Ah bK)).mv (Ah bR));replace a:=bind_some a;obtain⟨d3,i0,a⟩:=a;rcases Ak (d3) with cV|cV
             ·replace a:=Az a cV;rcases Ak (m.2==0) with bX|bX
              ·replace a:=Az a bX;have dS:=((((cN.mv (Ah bC)).mv (Ah bJ)).mv (Ah bK)).mv (Ah bR));replace a:=bind_some a;obtain⟨d4,i1,a⟩:=a;rcases Ak (d4) with cW|cW
               ·replace a:=Az a cW;rcases Ak (g.2==0) with cX|cX
                ·replace a:=Az a cX;rcases Ak (g.1==1) with cY|cY
                 ·replace a:=Az a cY;rcases Ak (o.2==0) with bY|bY
                  ·replace a:=Az a bY;refine B9 85 [Kc (I cB.2),Kc (.bool (cB.2==0)),Kc (.bool (cB.2==0)),Kc (.slice bZ cB.1.length b4),Kv (Gp (Ay .i64)) (zf Z w [some f,some d]) [80,120],Kc (.bool d1),Kc (.bool d1),Kc (.bool d1),Kc (I r.2),Kc (.bool (r.2==0)),Kc (.bool (r.2==0)),Kc (.bool (r.2==0)),Kc (.slice aJ r.1.length aK),Kc (I (r.1.length:Int)),Kc (.bool ((r.1.length:Int)==2)),Kc (.bool ((r.1.length:Int)==2)),Kc (.bool ((r.1.length:Int)==2)),Kc (.slice aJ r.1.length aK),Kc (pt jH (jI+i43*2)),Kc (.agg #[I p.Lo,I p.Hi]),Kc (.agg #[I s.Lo,I s.Hi]),Kc (.bool ([p.Lo,p.Hi]==[s.Lo,s.Hi])),Kc (.bool ([p.Lo,p.Hi]==[s.Lo,s.Hi])),Kc (.bool ([p.Lo,p.Hi]==[s.Lo,s.Hi])),Kc (.slice aJ r.1.length aK),Kc (pt jJ (jK+i46*2)),Kc (.agg #[I q.Lo,I q.Hi]),Kc (.agg #[I x.Lo,I x.Hi]),Kc (.bool ([q.Lo,q.Hi]==[x.Lo,x.Hi])),Kc (.bool ([q.Lo,q.Hi]==[x.Lo,x.Hi])),Kc (.bool ([q.Lo,q.Hi]==[x.Lo,x.Hi])),Kc (I b.2),Kc (.bool (b.2==0)),Kc (.bool (b.2==0)),Kc (.bool (b.2==0)),Kc (.agg #[I b.1.Lo,I b.1.Hi]),Kc (.agg #[I y.Lo,I y.Hi]),Kc (.bool ([b.1.Lo,b.1.Hi]==[y.Lo,y.Hi])),Kc (.bool ([b.1.Lo,b.1.Hi]==[y.Lo,y.Hi])),Kc (.bool ([b.1.Lo,b.1.Hi]==[y.Lo,y.Hi])),Kc (I c.2.2),Kc (.bool (c.2.2==0)),Kc (.bool (c.2.2==0)),Kc (.bool (c.2.2==0)),Kc (.slice aB c.1.length aC),Kv (Gp (Ay .i64)) (zf Z w [some f,some d]) [1],Kc (.bool d2),Kc (.bool d2),Kc (.bool d2),Kc (I c.2.1),Kc (.bool (c.2.1==180)),Kc (.bool (c.2.1==180)),Kc (.bool (c.2.1==180)),Kc (I j.2),Kc (.bool (j.2==0)),Kc (.bool (j.2==0)),Kc (.bool (j.2==0)),Kc (.slice aD j.1.length aE),Kv (Gp (Ay .i64)) (zf Z w [some f,some d]) [1,0],Kc (.bool d3),Kc (.bool d3),Kc (.bool d3),Kc (I m.2),Kc (.bool (m.2==0)),Kc (.bool (m.2==0)),Kc (.bool (m.2==0)),Kc (.slice aF m.1.length aG),Kv (Gp (Ay .i64)) (zf Z w [some f,some d]) [0,1],Kc (.bool d4),Kc (.bool d4),Kc (.bool d4),Kc (I g.2),Kc (.bool (g.2==0)),Kc (.bool (g.2==0)),Kc (.bool (g.2==0)),Kc (I g.1),Kc (.bool (g.1==1)),Kc (.bool (g.1==1)),Kc (.bool (g.1==1)),Kc (I o.2),Kc (.bool (o.2==0)),Kc (.bool (o.2==0)),Kc (.bool (o.2==0)),Kc (.slice aH o.1.length aI),Kv (Gp (Ay .i64)) (zf Z w [some f,some d]) [0]] mixed rfl rfl
                       (Aa (oD (fun K=>Aq (es ((K.out 2 rfl).trans rfl))))
                       (Aa (oD (fun K=>Dj (es (K.dq 0 61)) (ec (v:=I 0))))
                       (Aa (oD (fun K=>Aq (es (K.dq 1 62))))
                       (Aa (Bb rfl rfl rfl (fun _=>rfl) (fun a' w' ph K=>Ae (K.dq 2 63) bS) (fun a' w' ph K=>Aq (es ((K.out 1 rfl).trans rfl))))
                       (Aa (IT rfl rfl rfl (fun a' w' ph K=>Ae (K.dq 2 63) bS) (fun a' w' ph K=>(De (e:=3) (vs:= #[(0,I 80),(1,I 120)]) (cs:= #[I 80,I 120]) (NF (ec (v:=I 80)) (ec (v:=I 120))) (by kernel_rfl)).mono (fun u CJ ⟨hL,hu,hn⟩=>⟨⟨_,_,hu,LY (xs:=[80,120]) (DQ:=[[I 80],[I 120]]) hn.bk ((cP.ext K.AO).kn (Nat.le_of_eq hn.Jj.symm)) (R2.mv (Ah hn.gr) (show R2 (Ay .i64) w' (zf Z w [some f,some d]) [[I 80],[I 120]] [80,120] from⟨rfl,rfl,trivial⟩)) rfl (Nat.le_refl _)⟩,hn.gr⟩)))
                       (Aa (IT rfl rfl rfl (fun a' w' ph K=>Ae (K.dq 2 63) bS) (fun a' w' ph K=>match K.dq 4 65 with|⟨dB,dC,hM,dG⟩=>(Ar Q3 rfl (Dw (es (K.dq 3 64)) (es (t:=65) (v:=.slice dB ([80,120].length) dC) hM)) (Vz i cB.1 [80,120] bZ b4 dB dC ZA _ (d0.mv (Ah K.AO)).all dG.all d1 iL)).mono (fun _ _ h=>⟨h.2,h.1⟩)))
                       (Aa (oD (fun K=>AY (es (K.dq 2 63)) bS (es (K.dq 5 66))))
                       (Aa (oD (fun K=>Aq (es (K.dq 6 67))))
                       (Aa (Bb rfl rfl rfl (fun _=>rfl) (fun a' w' ph K=>Ae (K.dq 7 68) cQ) (fun a' w' ph K=>Aq (es ((K.out 4 rfl).trans rfl))))
                       (Aa (Bb rfl rfl rfl (fun _=>rfl) (fun a' w' ph K=>Ae (K.dq 7 68) cQ) (fun a' w' ph K=>Dj (es (K.dq 8 69)) (ec (v:=I 0))))
                       (Aa (oD (fun K=>AY (es (K.dq 7 68)) cQ (es (K.dq 9 70))))
                       (Aa (oD (fun K=>Aq (es (K.dq 10 71))))
                       (Aa (Bb rfl rfl rfl (fun _=>rfl) (fun a' w' ph K=>Ae (K.dq 11 72) bT) (fun a' w' ph K=>Aq (es ((K.out 3 rfl).trans rfl))))
                       (Aa (Bb rfl rfl rfl (fun _=>rfl) (fun a' w' ph K=>Ae (K.dq 11 72) bT) (fun a' w' ph K=>Bu Tryz.underlying55 (es (K.dq 12 73))))
                       (Aa (Bb rfl rfl rfl (fun _=>rfl) (fun a' w' ph K=>Ae (K.dq 11 72) bT) (fun a' w' ph K=>Dj (es (K.dq 13 74)) (ec (v:=I 2))))
                       (Aa (oD (fun K=>AY (es (K.dq 11 72)) bT (es (K.dq 14 75))))
                       (Aa (oD (fun K=>Aq (es (K.dq 15 76))))
                       (Aa (Bb rfl rfl rfl (fun _=>rfl) (fun a' w' ph K=>Ae (K.dq 16 77) z) (fun a' w' ph K=>Aq (es ((K.out 3 rfl).trans rfl))))
                       (Aa (Bb rfl rfl rfl (fun _=>rfl) (fun a' w' ph K=>Ae (K.dq 16 77) z) (fun a' w' ph K=>BR (k:=i43) Tryz.underlying55 JG (es (K.dq 17 78)) iP (ec (v:=I 0)) iM iO))
                       (Aa (Bb rfl rfl rfl (fun _=>rfl) (fun a' w' ph K=>Ae (K.dq 16 77) z) (fun a' w' ph K=>Ew (l:=[I p.Lo,I p.Hi]) Jm (es (K.dq 18 79)) (iQ.mv (Ah K.AO)) rfl rfl))
                       (Aa (IT rfl rfl rfl (fun a' w' ph K=>Ae (K.dq 16 77) z) (fun a' w' ph K=>(Ar TF rfl (Dw (ec (v:=I 40)) (ec (v:=I 80))) (a57 i 40 80 ZA _ s iR)).mono (fun _ _ h=>⟨(by obtain⟨_,rfl,rfl⟩:=h.2;rfl),h.1⟩)))
                       (Aa (Bb rfl rfl rfl (fun _=>rfl) (fun a' w' ph K=>Ae (K.dq 16 77) z) (fun a' w' ph K=>TS (x1:=[p.Lo,p.Hi]) (x2:=[s.Lo,s.Hi]) Pz Py (es (K.dq 19 80)) (es (K.dq 20 81)) rfl rfl rfl rfl))
                       (Aa (oD (fun K=>AY (es (K.dq 16 77)) z (es (K.dq 21 82))))
                       (Aa (oD (fun K=>Aq (es (K.dq 22 83))))
                       (Aa (Bb rfl rfl rfl (fun _=>rfl) (fun a' w' ph K=>Ae (K.dq 23 84) aA) (fun a' w' ph K=>Aq (es ((K.out 3 rfl).trans rfl))))
                       (Aa (Bb rfl rfl rfl (fun _=>rfl) (fun a' w' ph K=>Ae (K.dq 23 84) aA) (fun a' w' ph K=>BR (k:=i46) Tryz.underlying55 JG (es (K.dq 24 85)) iV (ec (v:=I 1)) iS iU))
                       (Aa (Bb rfl rfl rfl (fun _=>rfl) (fun a' w' ph K=>Ae (K.dq 23 84) aA) (fun a' w' ph K=>Ew (l:=[I q.Lo,I q.Hi]) Jm (es (K.dq 25 86)) (iW.mv (Ah K.AO)) rfl rfl))
                       (Aa (IT rfl rfl rfl (fun a' w' ph K=>Ae (K.dq 23 84) aA) (fun a' w' ph K=>(Ar TF rfl (Dw (ec (v:=I 120)) (ec (v:=I 120))) (a57 i 120 120 ZA _ x iX)).mono (fun _ _ h=>⟨(by obtain⟨_,rfl,rfl⟩:=h.2;rfl),h.1⟩)))
                       (Aa (Bb rfl rfl rfl (fun _=>rfl) (fun a' w' ph K=>Ae (K.dq 23 84) aA) (fun a' w' ph K=>TS (x1:=[q.Lo,q.Hi]) (x2:=[x.Lo,x.Hi]) Pz Py (es (K.dq 26 87)) (es (K.dq 27 88)) rfl rfl rfl rfl))
                       (Aa (oD (fun K=>AY (es (K.dq 23 84)) aA (es (K.dq 28 89))))
                       (Aa (oD (fun K=>Aq (es (K.dq 29 90))))
                       (Aa (Bb rfl rfl rfl (fun _=>rfl) (fun a' w' ph K=>Ae (K.dq 30 91) cR) (fun a' w' ph K=>Aq (es ((K.out 6 rfl).trans rfl))))
                       (Aa (Bb rfl rfl rfl (fun _=>rfl) (fun a' w' ph K=>Ae (K.dq 30 91) cR) (fun a' w' ph K=>Dj (es (K.dq 31 92)) (ec (v:=I 0))))
                       (Aa (oD (fun K=>AY (es (K.dq 30 91)) cR (es (K.dq 32 93))))
                       (Aa (oD (fun K=>Aq (es (K.dq 33 94))))
                       (Aa (Bb rfl rfl rfl (fun _=>rfl) (fun a' w' ph K=>Ae (K.dq 34 95) bU) (fun a' w' ph K=>AR (l:=[I b.1.Lo,I b.1.Hi]) Jm (es ((K.out 5 rfl).trans rfl)) (gC.ext K.AO) rfl rfl))
                       (Aa (IT rfl rfl rfl (fun a' w' ph K=>Ae (K.dq 34 95) bU) (fun a' w' ph K=>(Ar TF rfl (Dw (ec (v:=I 160)) (ec (v:=I 200))) (a57 i 160 200 ZA _ y iY)).mono (fun _ _ h=>⟨(by obtain⟨_,rfl,rfl⟩:=h.2;rfl),h.1⟩)))
                       (Aa (Bb rfl rfl rfl (fun _=>rfl) (fun a' w' ph K=>Ae (K.dq 34 95) bU) (fun a' w' ph K=>TS (x1:=[b.1.Lo,b.1.Hi]) (x2:=[y.Lo,y.Hi]) Pz Py (es (K.dq 35 96)) (es (K.dq 36 97)) rfl rfl rfl rfl))
                       (Aa (oD (fun K=>AY (es (K.dq 34 95)) bU (es (K.dq 37 98))))
                       (Aa (oD (fun K=>Aq (es (K.dq 38 99))))
                       (Aa (Bb rfl rfl rfl (fun _=>rfl) (fun a' w' ph K=>Ae (K.dq 39 100) cS) (fun a' w' ph K=>Aq (es ((K.out 9 rfl).trans rfl))))
                       (Aa (Bb rfl rfl rfl (fun _=>rfl) (fun a' w' ph K=>Ae (K.dq 39 100) cS) (fun a' w' ph K=>Dj (es (K.dq 40 101)) (ec (v:=I 0))))
                       (Aa (oD (fun K=>AY (es (K.dq 39 100)) cS (es (K.dq 41 102))))
                       (Aa (oD (fun K=>Aq (es (K.dq 42 103))))
                       (Aa (Bb rfl rfl rfl (fun _=>rfl) (fun a' w' ph K=>Ae (K.dq 43 104) bV) (fun a' w' ph K=>Aq (es ((K.out 7 rfl).trans rfl))))
                       (Aa (IT rfl rfl rfl (fun a' w' ph K=>Ae (K.dq 43 104) bV) (fun a' w' ph K=>(De (e:=3) (vs:= #[(0,I 1)]) (cs:= #[I 1]) (JN (ec (v:=I 1))) (by kernel_rfl)).mono (fun u CJ ⟨hL,hu,hn⟩=>⟨⟨_,_,hu,LY (xs:=[1]) (DQ:=[[I 1]]) hn.bk ((cP.ext K.AO).kn (Nat.le_of_eq hn.Jj.symm)) (R2.mv (Ah hn.gr) (show R2 (Ay .i64) w' (zf Z w [some f,some d]) [[I 1]] [1] from⟨rfl,trivial⟩)) rfl (Nat.le_refl _)⟩,hn.gr⟩)))
                       (Aa (IT rfl rfl rfl (fun a' w' ph K=>Ae (K.dq 43 104) bV) (fun a' w' ph K=>match K.dq 45 106 with|⟨cZ,c0,hC,dD⟩=>(Ar Q3 rfl (Dw (es (K.dq 44 105)) (es (t:=106) (v:=.slice cZ ([1].length) c0) hC)) (Vz i c.1 [1] aB aC cZ c0 ZA _ (dQ.mv (Ah K.AO)).all dD.all d2 iZ)).mono (fun _ _ h=>⟨h.2,h.1⟩)))
                       (Aa (oD (fun K=>AY (es (K.dq 43 104)) bV (es (K.dq 46 107))))
                       (Aa (oD (fun K=>Aq (es (K.dq 47 108))))
                       (Aa (Bb rfl rfl rfl (fun _=>rfl) (fun a' w' ph K=>Ae (K.dq 48 109) cT) (fun a' w' ph K=>Aq (es ((K.out 8 rfl).trans rfl))))
                       (Aa (Bb rfl rfl rfl (fun _=>rfl) (fun a' w' ph K=>Ae (K.dq 48 109) cT) (fun a' w' ph K=>Dj (es (K.dq 49 110)) (ec (v:=I 180))))
                       (Aa (oD (fun K=>AY (es (K.dq 48 109)) cT (es (K.dq 50 111))))
                       (Aa (oD (fun K=>Aq (es (K.dq 51 112))))
                       (Aa (Bb rfl rfl rfl (fun _=>rfl) (fun a' w' ph K=>Ae (K.dq 52 113) cU) (fun a' w' ph K=>Aq (es ((K.out 11 rfl).trans rfl))))
                       (Aa (Bb rfl rfl rfl (fun _=>rfl) (fun a' w' ph K=>Ae (K.dq 52 113) cU) (fun a' w' ph K=>Dj (es (K.dq 53 114)) (ec (v:=I 0))))
                       (Aa (oD (fun K=>AY (es (K.dq 52 113)) cU (es (K.dq 54 115))))
                       (Aa (oD (fun K=>Aq (es (K.dq 55 116))))
                       (Aa (Bb rfl rfl rfl (fun _=>rfl) (fun a' w' ph K=>Ae (K.dq 56 117) bW) (fun a' w' ph K=>Aq (es ((K.out 10 rfl).trans rfl))))
                       (Aa (IT rfl rfl rfl (fun a' w' ph K=>Ae (K.dq 56 117) bW) (fun a' w' ph K=>(De (e:=3) (vs:= #[(0,I 1),(1,I 0)]) (cs:= #[I 1,I 0]) (NF (ec (v:=I 1)) (ec (v:=I 0))) (by kernel_rfl)).mono (fun u CJ ⟨hL,hu,hn⟩=>⟨⟨_,_,hu,LY (xs:=[1,0]) (DQ:=[[I 1],[I 0]]) hn.bk ((cP.ext K.AO).kn (Nat.le_of_eq hn.Jj.symm)) (R2.mv (Ah hn.gr) (show R2 (Ay .i64) w' (zf Z w [some f,some d]) [[I 1],[I 0]] [1,0] from⟨rfl,rfl,trivial⟩)) rfl (Nat.le_refl _)⟩,hn.gr⟩)))
                       (Aa (IT rfl rfl rfl (fun a' w' ph K=>Ae (K.dq 56 117) bW) (fun a' w' ph K=>match K.dq 58 119 with|⟨c1,c2,hD,dE⟩=>(Ar Q3 rfl (Dw (es (K.dq 57 118)) (es (t:=119) (v:=.slice c1 ([1,0].length) c2) hD)) (Vz i j.1 [1,0] aD aE c1 c2 ZA _ (dR.mv (Ah K.AO)).all dE.all d3 i0)).mono (fun _ _ h=>⟨h.2,h.1⟩)))
                       (Aa (oD (fun K=>AY (es (K.dq 56 117)) bW (es (K.dq 59 120))))
                       (Aa (oD (fun K=>Aq (es (K.dq 60 121))))
                       (Aa (Bb rfl rfl rfl (fun _=>rfl) (fun a' w' ph K=>Ae (K.dq 61 122) cV) (fun a' w' ph K=>Aq (es ((K.out 13 rfl).trans rfl))))
                       (Aa (Bb rfl rfl rfl (fun _=>rfl) (fun a' w' ph K=>Ae (K.dq 61 122) cV) (fun a' w' ph K=>Dj (es (K.dq 62 123)) (ec (v:=I 0))))
                       (Aa (oD (fun K=>AY (es (K.dq 61 122)) cV (es (K.dq 63 124))))
                       (Aa (oD (fun K=>Aq (es (K.dq 64 125))))
                       (Aa (Bb rfl rfl rfl (fun _=>rfl) (fun a' w' ph K=>Ae (K.dq 65 126) bX) (fun a' w' ph K=>Aq (es ((K.out 12 rfl).trans rfl))))
                       (Aa (IT rfl rfl rfl (fun a' w' ph K=>Ae (K.dq 65 126) bX) (fun a' w' ph K=>(De (e:=3) (vs:= #[(0,I 0),(1,I 1)]) (cs:= #[I 0,I 1]) (NF (ec (v:=I 0)) (ec (v:=I 1))) (by kernel_rfl)).mono (fun u CJ ⟨hL,hu,hn⟩=>⟨⟨_,_,hu,LY (xs:=[0,1]) (DQ:=[[I 0],[I 1]]) hn.bk ((cP.ext K.AO).kn (Nat.le_of_eq hn.Jj.symm)) (R2.mv (Ah hn.gr) (show R2 (Ay .i64) w' (zf Z w [some f,some d]) [[I 0],[I 1]] [0,1] from⟨rfl,rfl,trivial⟩)) rfl (Nat.le_refl _)⟩,hn.gr⟩)))
                       (Aa (IT rfl rfl rfl (fun a' w' ph K=>Ae (K.dq 65 126) bX) (fun a' w' ph K=>match K.dq 67 128 with|⟨c3,c4,hE,dF⟩=>(Ar Q3 rfl (Dw (es (K.dq 66 127)) (es (t:=128) (v:=.slice c3 ([0,1].length) c4) hE)) (Vz i m.1 [0,1] aF aG c3 c4 ZA _ (dS.mv (Ah K.AO)).all dF.all d4 i1)).mono (fun _ _ h=>⟨h.2,h.1⟩)))
                       (Aa (oD (fun K=>AY (es (K.dq 65 126)) bX (es (K.dq 68 129))))
                       (Aa (oD (fun K=>Aq (es (K.dq 69 130))))
                       (Aa (Bb rfl rfl rfl (fun _=>rfl) (fun a' w' ph K=>Ae (K.dq 70 131) cW) (fun a' w' ph K=>Aq (es ((K.out 15 rfl).trans rfl))))
                       (Aa (Bb rfl rfl rfl (fun _=>rfl) (fun a' w' ph K=>Ae (K.dq 70 131) cW) (fun a' w' ph K=>Dj (es (K.dq 71 132)) (ec (v:=I 0))))
                       (Aa (oD (fun K=>AY (es (K.dq 70 131)) cW (es (K.dq 72 133))))
                       (Aa (oD (fun K=>Aq (es (K.dq 73 134))))
                       (Aa (Bb rfl rfl rfl (fun _=>rfl) (fun a' w' ph K=>Ae (K.dq 74 135) cX) (fun a' w' ph K=>Aq (es ((K.out 14 rfl).trans rfl))))
                       (Aa (Bb rfl rfl rfl (fun _=>rfl) (fun a' w' ph K=>Ae (K.dq 74 135) cX) (fun a' w' ph K=>Dj (es (K.dq 75 136)) (ec (v:=I 1))))
                       (Aa (oD (fun K=>AY (es (K.dq 74 135)) cX (es (K.dq 76 137))))
                       (Aa (oD (fun K=>Aq (es (K.dq 77 138))))
                       (Aa (Bb rfl rfl rfl (fun _=>rfl) (fun a' w' ph K=>Ae (K.dq 78 139) cY) (fun a' w' ph K=>Aq (es ((K.out 17 rfl).trans rfl))))
                       (Aa (Bb rfl rfl rfl (fun _=>rfl) (fun a' w' ph K=>Ae (K.dq 78 139) cY) (fun a' w' ph K=>Dj (es (K.dq 79 140)) (ec (v:=I 0))))
                       (Aa (oD (fun K=>AY (es (K.dq 78 139)) cY (es (K.dq 80 141))))
                       (Aa (oD (fun K=>Aq (es (K.dq 81 142))))
                       (Aa (Bb rfl rfl rfl (fun _=>rfl) (fun a' w' ph K=>Ae (K.dq 82 143) bY) (fun a' w' ph K=>Aq (es ((K.out 16 rfl).trans rfl))))
                       (Aa (IT rfl rfl rfl (fun a' w' ph K=>Ae (K.dq 82 143) bY) (fun a' w' ph K=>(De (e:=3) (vs:= #[(0,I 0)]) (cs:= #[I 0]) (JN (ec (v:=I 0))) (by kernel_rfl)).mono (fun u CJ ⟨hL,hu,hn⟩=>⟨⟨_,_,hu,LY (xs:=[0]) (DQ:=[[I 0]]) hn.bk ((cP.ext K.AO).kn (Nat.le_of_eq hn.Jj.symm)) (R2.mv (Ah hn.gr) (show R2 (Ay .i64) w' (zf Z w [some f,some d]) [[I 0]] [0] from⟨rfl,trivial⟩)) rfl (Nat.le_refl _)⟩,hn.gr⟩)))
                       (B8 _)))))))))))))))))))))))))))))))))))))))))))))))))))))))))))))))))))))))))))))))))))))) ?_
                   intro j4;rintro _ rfl _ rfl _ rfl _ rfl _ ⟨dB,dC,rfl,dG⟩ _ rfl _ rfl _ rfl _ rfl _ rfl _ rfl _ rfl _ rfl _ rfl _ rfl _ rfl _ rfl _ rfl _ rfl _ rfl _ rfl _ rfl _ rfl _ rfl _ rfl _ rfl _ rfl _ rfl _ rfl _ rfl _ rfl _ rfl _ rfl _ rfl _ rfl _ rfl _ rfl _ rfl _ rfl _ rfl _ rfl _ rfl _ rfl _ rfl _ rfl _ ⟨cZ,c0,rfl,dD⟩ _ rfl _ rfl _ rfl _ rfl _ rfl _ rfl _ rfl _ rfl _ rfl _ rfl _ rfl _ rfl _ ⟨c1,c2,rfl,dE⟩ _ rfl _ rfl _ rfl _ rfl _ rfl _ rfl _ rfl _ rfl _ ⟨c3,c4,rfl,dF⟩ _ rfl _ rfl _ rfl _ rfl _ rfl _ rfl _ rfl _ rfl _ rfl _ rfl _ rfl _ rfl _ rfl _ rfl _ rfl _ rfl _ ⟨gD,gE,rfl,d8⟩ hF;have i2:=cP.ext hF;have dT:=(cO.mv (Ah hF));replace a:=bind_some a;obtain⟨hG,i3,a⟩:=a;refine Di rfl rfl (Ae rfl bY) rfl (by decide) (fun st=>Ar Q3 (eR st) (Dw (eR st) (eR st)) (Vz i o.1 [0] aH aI gD gE ZA _ dT.all d8.all hG i3)) ?_;rintro _ j5 ⟨i4,rfl⟩;have i5:=i2.ext i4;refine wD (fun st=>AY (v:=.bool hG) (eR st) bY (eR st))<|wA (v:=.bool hG) rfl<|Ag<|Ab<|AI ?_;have jL:=oi a;refine AJ rfl rfl ?_;exact⟨i5.Bc,congrArg Value.bool jL⟩
                  ·replace a:=AA a bY;exact absurd (oi a) (by decide)
                 ·replace a:=AA a cY;exact absurd (oi a) (by decide)
                ·replace a:=AA a cX;exact absurd (oi a) (by decide)
               ·replace a:=AA a cW;exact absurd (oi a) (by decide)
              ·replace a:=AA a bX;exact absurd (oi a) (by decide)
             ·replace a:=AA a cV;exact absurd (oi a) (by decide)
            ·replace a:=AA a bW;exact absurd (oi a) (by decide)
           ·replace a:=AA a cU;exact absurd (oi a) (by decide)
          ·replace a:=AA a cT;exact absurd (oi a) (by decide)
         ·replace a:=AA a bV;exact absurd (oi a) (by decide)
        ·replace a:=AA a cS;exact absurd (oi a) (by decide)
       ·replace a:=AA a bU;exact absurd (oi a) (by decide)
      ·replace a:=AA a cR;exact absurd (oi a) (by decide)
     ·replace a:=AA a aA;exact absurd (oi a) (by decide)
    ·replace a:=AA a z;exact absurd (oi a) (by decide)
   ·replace a:=AA a bT;exact absurd (oi a) (by decide)
  ·replace a:=AA a cQ;exact absurd (oi a) (by decide)
 ·replace a:=AA a bS;exact absurd (oi a) (by decide)
end Go.Proofs.YtbhofkcbfblijaaGreat
end
section
namespace Go.Proofs.YtbhofkcbfblijaaGreat
open Go.RowKit Go.ChangeShapes Go.WideShapes
theorem Aao{α β:Type}{g:α→Option β}:∀{l:List α} {r:List β},l.mapM g=some r→∀(i:Nat) (x:α),l[i]?=some x→∃y,r[i]?=some y∧g x=some y
 |[],_,_,i,x,hx=>by simp at hx
 |a::l,r,h,i,x,hx=>by
  rw[List.mapM_cons] at h;obtain⟨y,c,h2⟩:=Option.bind_eq_some_iff.1 h;obtain⟨ys,b,d⟩:=Option.bind_eq_some_iff.1 h2;obtain rfl:y::ys=r:=by simpa using d
  cases i with
  |zero=>
   obtain rfl:a=x:=by simpa using hx
   exact⟨y,rfl,c⟩
  |succ i=>exact Aao b i x (by simpa using hx)
theorem Ul{H:Type}{P:Program}{e:TypeId}{d:DataW H}{n:Nat}(hn:n∈d.weights P e):∀{l:List (DataW H)},d∈l→n∈DataW.weightsAll P e l
 |[],h=>by cases h
 |a::l,h=>by
  rw[DataW.weightsAll,List.mem_append];rcases List.mem_cons.1 h with rfl|h
  ·exact .inl hn
  ·exact .inr (Ul hn h)
def S9 {H:Type} (P:Program) (t:TypeId) (d:DataW H):Prop:=∀n∈d.weights P t,n≤reachBytes
theorem Li{H:Type}{P:Program}{a:List TypeId}{ds:List (DataW H)}(h:(DataW.weightsEach P a ds).all (· ≤reachBytes)=true){j:Nat}{t:TypeId}{d:DataW H}(b:a[j]?=some t)(c:ds[j]?=some d):S9 P t d:=fun n hn=>by
 have:=List.all_eq_true.1 h _ (DataW.weights_mem_each b c n hn);simpa using this
def Ss {α:Type} (P:Program) (t:TypeId) (e:Gy α) (wf:α→Prop):Prop:=
 ∀(H:Type) (enc:TypeId×Value→H) (w:World) (sp:Nat→Bool) (fuel:Nat) (cs:List Value) (x:DataW H×List MemPlace),DataW.trod enc P w 0 sp true fuel t cs=some x→S9 P t x.1→∃a,e.R w ZA cs a∧wf a
def Iz(k:IntKind)(n:Int):Prop:=(Lit.int k n).wf=true
section
variable{P:Program}{t:TypeId}
theorem NW{k:IntKind}(a:P.underlying t=some (.int k)):Ss P t (Ay k) (Iz k):=by
 intro H enc w sp fuel cs x h _;obtain⟨n,h1,_,b⟩:=DataW.trod_int a h;exact⟨n,h1,b⟩
theorem AdI(a:P.underlying t=some .bool):Ss P t AgU (fun _=>True):=by
 intro H enc w sp fuel cs x h _;obtain⟨b,h1,_⟩:=DataW.trod_bool a h;exact⟨b,h1,trivial⟩
theorem PX {e:Array Field} (g:P.underlying t=some (.struct e)) {H:Type} {enc:TypeId×Value→H} {w:World} {sp:Nat→Bool} {fuel:Nat} {cs:List Value} {x:DataW H×List MemPlace} (h:DataW.trod enc P w 0 sp true fuel t cs=some x):
  cs.length=P.cellsOf t∧∃c,∀(i a off:Nat),(e[i]?).map (fun f=>(f.type,f.offset))=some (a,off)→∃y,DataW.trod enc P w 0 sp true c a ((cs.drop off).take (P.cellsOf a))=some y∧(S9 P t x.1→S9 P a y.1):=by
 cases fuel with
 |zero=>simp[DataW.trod] at h
 |succ fuel=>
  unfold DataW.trod at h;simp only[g] at h;split at h
  ·rename_i hl
   obtain⟨xs,hx,rfl⟩:=Option.map_eq_some_iff.1 h;refine⟨hl,fuel,fun i a off m=>?_⟩;obtain⟨f,b,he⟩:=Option.map_eq_some_iff.1 m;obtain⟨k,o⟩:f.type=a∧f.offset=off:=by simpa using he
   rw[←Array.getElem?_toList] at b;obtain⟨y,p,l⟩:=Aao hx i f b;rw[k,o] at l;refine⟨y,l,fun hs n hn=>hs n ?_⟩;simp only[DataW.weights,g];exact DataW.weights_mem_each (j:=i) (t:=a) (d:=y.1) (by rw[List.getElem?_map,b];simp[k]) (by rw[List.getElem?_map,p];rfl) n hn
  ·cases h
theorem AbV{w:World}{a:Addr}{n:Nat}{cs:List Value}(h:w.cells? 0 a n=some cs):cs.length=n∧∀j u,cs[j]?=some u→w.cell? (a.add j)=some u:=by
 unfold World.cells? at h;rw[if_pos (Nat.zero_le _)] at h;have hl:=mapM_some_length h;refine⟨by simpa using hl,?_⟩;have key:∀(l:List Nat) (r:List Value),l.mapM (fun i=>w.cell? (a.add i))=some r→∀(j i:Nat) (u:Value),l[j]?=some i→r[j]?=some u→w.cell? (a.add i)=some u:=by
  intro l
  induction l with
  |nil=>intro r _ j i u hj;simp at hj
  |cons b l ih=>
   intro r h j i u hj hr;rw[List.mapM_cons] at h;obtain⟨y,e,h2⟩:=Option.bind_eq_some_iff.1 h;obtain⟨ys,c,f⟩:=Option.bind_eq_some_iff.1 h2;obtain rfl:y::ys=r:=by simpa using f
   cases j with
   |zero=>
    obtain rfl:b=i:=by simpa using hj
    obtain rfl:y=u:=by simpa using hr
    exact e
   |succ j=>exact ih ys c j i u (by simpa using hj) (by simpa using hr)
 intro j u hj;have d:j<n:=by
  have:=(List.getElem?_eq_some_iff.1 hj).1;have h2:cs.length=n:=by simpa using hl
  omega
 exact key _ _ h j j u (by simp[d]) hj
theorem AcC{w:World}{a:Addr}{u:Value}(h:w.cell? a=some u):∃b o,a=⟨b,o,none⟩∧b<w.heap.size:=by
 obtain⟨b,o,pt⟩:=a;cases pt with
 |none=>
  refine⟨b,o,rfl,?_⟩;unfold World.cell? at h;cases hq:w.heap[b]? with
  |none=>simp[hq] at h
  |some o=>exact(Array.getElem?_eq_some_iff.1 hq).1
 |some q=>
  unfold World.cell? at h;cases hq:w.heap[b]? with
  |none=>simp[hq] at h
  |some ob=>cases ob<;>simp[hq] at h
theorem add_add{a:Addr}{k j:Nat}(h:k≤j):(a.add k).add (j-k)=a.add j:=by
 obtain⟨b,o,pt⟩:=a;cases pt with
 |none=>rw[NG,NG,NG];congr 1;omega
 |some q=>
  unfold Addr.add
  by_cases hj:j=0
  ·have:k=0:=by omega
   subst this;subst hj;simp
  ·by_cases hk:k=0
   ·subst hk;simp[hj]
   ·by_cases c:j-k=0
    ·have:j=k:=by omega
     subst this;simp[hk]
    ·simp[hj,hk,c];omega
theorem Nq {α:Type} {e:TypeId} {ee:Gy α} {wf:α→Prop} (r:P.underlying t=some (.slice e)) (aF:P.cellsOf e=ee.sz) (h0:0<ee.sz) (aG:Ss P e ee wf) {b:Nat} (v:P.bytesOf e=b):Ss P t (BO ee) (fun xs=>xs.length*b≤140737488351232∧∀x∈xs,wf x):=by
 intro H enc w sp fuel cs x h p;rcases Go.Deep.open_slice r h with⟨rfl,_⟩|⟨a,len,cap,m,n0,D,aL,rfl,_,y,aJ,hm,aA,Ri⟩
 ·exact⟨[],⟨none,0,rfl,Sl.nil _ _ _⟩,by simp,by simp⟩
 ·have aK:len≤m:=by rw[hm];split<;>omega
  subst aA;have f:len*b≤140737488351232:=by
   have:=p ((((List.range len).map D).length+((List.range (m-len)).map fun j=>D (len+j)).length)*P.bytesOf e) (by simp[DataW.weights,r]);rw[v] at this;have h2:len*b≤(((List.range len).map D).length+((List.range (m-len)).map fun j=>D (len+j)).length)*b:=Nat.mul_le_mul_right _ (by simp);exact Nat.le_trans h2 this
  have g:∀i,i<len→S9 P e (D i):=fun i hi n hn=>p n (by
   simp only[DataW.weights,r];rw[List.mem_cons,List.mem_append];exact .inr (.inl (Ul hn (List.mem_map.2 ⟨i,by simpa using hi,rfl⟩))))
  have key:∀n,n≤len→∃DQ xs,R2 ee w ZA DQ xs∧xs.length=n∧(∀x∈xs,wf x)∧∀j u,DQ.flatten[j]?=some u→w.cell? (a.add j)=some u:=by
   intro n
   induction n with
   |zero=>exact fun _=>⟨[],[],trivial,rfl,by simp,by simp⟩
   |succ n ih=>
    intro hn;obtain⟨DQ,xs,h1,h2,s,k⟩:=ih (by omega);obtain⟨ds,aH,aB⟩:=Ri n (by omega);obtain⟨z,aI,aC⟩:=aG _ _ _ _ _ _ _ aB (g n (by omega));obtain⟨hl,l⟩:=AbV aH;refine⟨DQ++[ds],xs++[z],h1.append ⟨aI,trivial⟩,by simp[h2],?_,?_⟩
    ·intro x hx;rcases List.mem_append.1 hx with hx|hx
     ·exact s x hx
     ·rw[List.mem_singleton.1 hx];exact aC
    ·intro j u hj;rw[List.flatten_append] at hj;rcases Nat.lt_or_ge j DQ.flatten.length with c|d
     ·rw[List.getElem?_append_left c] at hj;exact k j u hj
     ·rw[List.getElem?_append_right d] at hj;have h5:=l (j-DQ.flatten.length) u (by simpa using hj);have aD:DQ.flatten.length=n*ee.sz:=by rw[h1.T3,h2]
      rw[aD] at h5 d;rw[aF] at h5;rw[add_add d] at h5;exact h5
  obtain⟨DQ,xs,h1,h2,s,k⟩:=key len (Nat.le_refl _);refine⟨xs,⟨some a,cap,by rw[h2],by rw[h2];exact y,(fun e=>by cases e),DQ,h1,?_⟩,by rw[h2];exact f,s⟩;cases aE:DQ.flatten with
  |nil=>exact .inl rfl
  |cons u us=>
   have hu:=k 0 u (by rw[aE];rfl);obtain⟨b,o,q,c⟩:=AcC hu;have ha:a=⟨b,o,none⟩:=by
    obtain⟨b',o',pt⟩:=a;cases pt<;>simp[Addr.add] at q⊢;exact q
   subst ha;refine .inr ⟨b,o,rfl,trivial,c,fun j u hj=>?_⟩;have:=k j u (by rw[aE];exact hj);rw[NG] at this;exact this
end
section
variable{H:Type}{enc:TypeId×Value→H}{P:Program}{W W':World}
theorem U0{sp:Nat→Bool}:∀{e:List TypeId} {vs:List Value} {ds:List (DataW H)} {ps:List MemPlace},DataW.TrodAll enc P W 0 sp true e vs ds ps→(∀p∈ps,W.sameAt W' p)→DataW.TrodAll enc P W' 0 sp true e vs ds ps
 |[],_,_,_,h,_=>by
  obtain⟨rfl,rfl,rfl⟩:=trodAll_nil h;exact rfl
 |_::_,_,_,_,h,hs=>by
  obtain⟨v,f,d,g,a,b,rfl,rfl,rfl,⟨n,hn⟩,h2⟩:=trodAll_cons h;exact⟨a,b,⟨n,DataW.trod_carry n _ _ _ hn fun p c=>hs p (List.mem_append_left _ c)⟩,U0 h2 fun p c=>hs p (List.mem_append_right _ c),rfl⟩
theorem LR(K:Kids P (· <P.types.size))(c:∀t e,t<P.types.size→P.underlying t=some (.slice e)→0<P.cellsOf e){a:List TypeId}{vs:List Value}{ds:List (DataW H)}{ps:List MemPlace}(d:∀t∈a,t<P.types.size)
  (f:DataW.TrodAll enc P W 0 (fun _=>true) true a vs ds ps)(hb:Ext W W')(b:∀p∈ps,p.block<W.heap.size)(sp:Nat→Bool)(hs:∀p∈ps,sp p.block=true):DataW.TrodAll enc P W' 0 sp true a vs ds ps:=
 U0 (DataW.TrodAll.respare K c d f hs) fun p g=>(U4 hb).same (b p g)
variable{α:Type}{e:Gy α}{wf:α→Prop}{t:TypeId}{b0:Nat}{v:Value}{d:DataW H}{p:List MemPlace}{sp:Nat→Bool}
theorem Nr{c:Array Field}(f:P.underlying t=some (.struct c))(g:Ss P t e wf)(b:Value.okWide P W .any b0 t v)(h:DataW.Trod enc P W 0 sp true t v d p)(hs:S9 P t d):∃a cs,v=.agg cs.toArray∧e.R W ZA cs a∧wf a:=by
 unfold Value.okWide at b;rw[f] at b;obtain⟨cs,rfl,_⟩:=b;obtain⟨n,hn⟩:=h;obtain⟨a,h1,h2⟩:=g _ _ _ _ _ _ _ hn hs;exact⟨a,cs.toList,by simp,h1,h2⟩
theorem Ko {f:Func} {s:ChangeSpec} {apart fresh handsOn again:Bool} {args:Array Value} {v:Value} {ds gs:List (DataW H)} {before pa pv:List MemPlace}
  (k:DataW.Whole enc P f.params.toList s.vars apart W args.toList ds gs before)
  (g:∀(b:Nat) (sp:Nat→Bool) (m:Bool),DataW.TrodAll enc P W' b sp m f.resultTypes.toList (v.resultList f.resultTypes.size) (s.fn H (ds++gs)).results [])
  (c:∀sp:Nat→Bool,(∀p∈before,sp p.block=true)→DataW.TrodAll enc P W' 0 sp true f.params.toList args.toList (s.fn H (ds++gs)).args pa)
  (d:∀sp:Nat→Bool,(∀p∈before,sp p.block=true)→DataW.TrodVars enc P W' sp s.vars (s.fn H (ds++gs)).vars pv)
  (e:before=pa++pv) (hx:Ext W W')
  (l:∀(j:Nat) (t:TypeId) (r:Value),f.resultTypes[j]?=some t→(v.resultList f.resultTypes.size)[j]?=some r→Value.okWide P W' .any 0 t r):
  s.post enc P f apart fresh handsOn again W args v W':=by
 have hb:=U4 hx;have h:∀p∈before,p.block<W.heap.size:=fun p a=>k.lt p a;have hold:∀p∈before,(fun b=>decide (b<W.heap.size)) p.block=true:=fun p a=>by simpa using h p a
 refine⟨ds,gs,before,[],pa,pv,k,g _ _ _,c _ hold,d _ hold,World.keptBut_mono (fun p a=>⟨a,?_⟩) (hb.frame (· ∈before)),fun _=>?_⟩
 ·rw[e,List.mem_append] at a;exact Or.inr a
 ·obtain⟨_,_,_,_,_,n,hn⟩:=k;refine⟨l,_,_,([]++pa)++pv,⟨[]++pa,pv,trodAll_append (c _ (fun _ _=>rfl)) (g _ _ _),d _ (fun _ _=>rfl),rfl,?_,?_⟩,?_⟩
  ·intro b off a;have i:MemPlace.cell b off∈before:=by rw[e];simpa using a
   rw[hb.frozen (h _ i)];exact n b off i
  ·intro ha;have:=hn ha;rw[e] at this;simpa using this
  ·intro p a _;rw[e];simpa using a
theorem LS{f:FuncId}{args:Array Value}{w:World}{R:Value→World→Prop}(h:Cw P f args w R):Calls P f args w (fun e w'=>∃v,e=.returned v∧R v w'):=h
end
theorem AbW:∀{cs:List Value},cs.length=2→∃a0 a1,cs=[a0,a1]
 |[a0,a1],_=>⟨a0,a1,rfl⟩
theorem Aeg:∀{cs:List Value},cs.length=3→∃a0 a1 a2,cs=[a0,a1,a2]
 |[a0,a1,a2],_=>⟨a0,a1,a2,rfl⟩
theorem Ag5:∀{cs:List Value},cs.length=4→∃a0 a1 a2 a3,cs=[a0,a1,a2,a3]
 |[a0,a1,a2,a3],_=>⟨a0,a1,a2,a3,rfl⟩
theorem Ag6:∀{cs:List Value},cs.length=7→∃a0 a1 a2 a3 a4 a5 a6,cs=[a0,a1,a2,a3,a4,a5,a6]
 |[a0,a1,a2,a3,a4,a5,a6],_=>⟨a0,a1,a2,a3,a4,a5,a6,rfl⟩
theorem Aap:Ss Tryz.prog 44 AM (fun x=>(Iz .i64 x.Lo∧Iz .i64 x.Hi)):=by
 intro H enc w sp fuel cs x h c;obtain⟨hl,i,d⟩:=PX Tryz.underlying44 h;have j:Tryz.prog.cellsOf 44=2:=by kernel_rfl
 rw[j] at hl;have e:Tryz.prog.cellsOf 3=1:=by kernel_rfl
 obtain⟨a0,a1,rfl⟩:=AbW hl;obtain⟨k,a,f⟩:=d 0 3 0 rfl;simp only[e,List.drop_zero,List.drop_succ_cons,List.take_succ_cons,List.take_zero] at a;obtain⟨n0,h0,w0⟩:=(NW Tryz.underlying3) _ _ _ _ _ _ _ a (f c);cases h0;obtain⟨l,b,g⟩:=d 1 3 1 rfl;simp only[e,List.drop_zero,List.drop_succ_cons,List.take_succ_cons,List.take_zero] at b;obtain⟨n1,h1,w1⟩:=(NW Tryz.underlying3) _ _ _ _ _ _ _ b (g c);cases h1;exact⟨⟨n0,n1⟩,rfl,w0,w1⟩
theorem AgF:Ss Tryz.prog 46 AQ (fun x=>(True∧Iz .i64 x.Number∧(Iz .i64 ((⟨x.Bq,x.Br⟩:AN).Lo)∧Iz .i64 ((⟨x.Bq,x.Br⟩:AN).Hi)))):=by
 intro H enc w sp fuel cs x h d;obtain⟨hl,l,e⟩:=PX Tryz.underlying46 h;have m:Tryz.prog.cellsOf 46=4:=by kernel_rfl
 rw[m] at hl;have n:Tryz.prog.cellsOf 3=1:=by kernel_rfl
 have o:Tryz.prog.cellsOf 4=1:=by kernel_rfl
 have f:Tryz.prog.cellsOf 44=2:=by kernel_rfl
 obtain⟨a0,a1,a2,a3,rfl⟩:=Ag5 hl;obtain⟨p,a,g⟩:=e 0 4 0 rfl;simp only[o,List.drop_zero,List.drop_succ_cons,List.take_succ_cons,List.take_zero] at a;obtain⟨n0,h0,w0⟩:=(AdI Tryz.underlying4) _ _ _ _ _ _ _ a (g d);cases h0;obtain⟨q,b,i⟩:=e 1 3 1 rfl;simp only[n,List.drop_zero,List.drop_succ_cons,List.take_succ_cons,List.take_zero] at b;obtain⟨n1,h1,w1⟩:=(NW Tryz.underlying3) _ _ _ _ _ _ _ b (i d);cases h1;obtain⟨r,c,j⟩:=e 2 44 2 rfl;simp only[f,List.drop_zero,List.drop_succ_cons,List.take_succ_cons,List.take_zero] at c;obtain⟨k,h2,w2⟩:=Aap _ _ _ _ _ _ _ c (j d);cases h2;exact⟨⟨n0,n1,k.Lo,k.Hi⟩,rfl,w0,w1,w2⟩
theorem AgG:Ss Tryz.prog 26 ZV (fun x=>((x.AF.length*16≤140737488351232∧∀y∈x.AF,(Iz .i64 y.Lo∧Iz .i64 y.Hi))∧(x.BW.length*24≤140737488351232∧∀y∈x.BW,(y.length*8≤140737488351232∧∀g∈y,Iz .i64 g))∧(x.Bt.length*32≤140737488351232∧∀y∈x.Bt,(True∧Iz .i64 y.Number∧(Iz .i64 ((⟨y.Bq,y.Br⟩:AN).Lo)∧Iz .i64 ((⟨y.Bq,y.Br⟩:AN).Hi)))))):=by
 intro H enc w sp fuel cs x h e;obtain⟨hl,o,f⟩:=PX Tryz.underlying26 h;have p:Tryz.prog.cellsOf 26=3:=by kernel_rfl
 rw[p] at hl;have i:Tryz.prog.cellsOf 22=1:=by kernel_rfl
 have j:Tryz.prog.cellsOf 23=1:=by kernel_rfl
 have k:Tryz.prog.cellsOf 24=1:=by kernel_rfl
 obtain⟨a0,a1,a2,rfl⟩:=Aeg hl;obtain⟨z,a,l⟩:=f 0 22 0 rfl;simp only[i,List.drop_zero,List.drop_succ_cons,List.take_succ_cons,List.take_zero] at a;obtain⟨n0,⟨q,c0,h0,s0⟩,w0⟩:=(Nq (b:=16) Tryz.underlying22 (by kernel_rfl) (by decide) Aap (by kernel_rfl)) _ _ _ _ _ _ _ a (l e);cases h0;obtain⟨aA,c,m⟩:=f 1 23 1 rfl;simp only[j,List.drop_zero,List.drop_succ_cons,List.take_succ_cons,List.take_zero] at c;obtain⟨n1,⟨r,s,h1,s1⟩,w1⟩:=(Nq (b:=24) Tryz.underlying23 (by kernel_rfl) (by decide) (Nq (b:=8) Tryz.underlying31 (by kernel_rfl) (by decide) (NW Tryz.underlying3) (by kernel_rfl)) (by kernel_rfl)) _ _ _ _ _ _ _ c (m e);cases h1;obtain⟨aB,d,n⟩:=f 2 24 2 rfl;simp only[k,List.drop_zero,List.drop_succ_cons,List.take_succ_cons,List.take_zero] at d;obtain⟨t,⟨u,v,h2,s2⟩,w2⟩:=(Nq (b:=32) Tryz.underlying24 (by kernel_rfl) (by decide) AgF (by kernel_rfl)) _ _ _ _ _ _ _ d (n e);cases h2;exact⟨⟨n0,n1,t⟩,⟨q,c0,r,s,u,v,rfl,s0,s1,s2⟩,w0,w1,w2⟩
theorem AfU:Ss Tryz.prog 128 Bm (fun x=>(Iz .i64 x.BU∧Iz .i64 x.DT)):=by
 intro H enc w sp fuel cs x h c;obtain⟨hl,i,d⟩:=PX Tryz.underlying128 h;have j:Tryz.prog.cellsOf 128=2:=by kernel_rfl
 rw[j] at hl;have e:Tryz.prog.cellsOf 3=1:=by kernel_rfl
 obtain⟨a0,a1,rfl⟩:=AbW hl;obtain⟨k,a,f⟩:=d 0 3 0 rfl;simp only[e,List.drop_zero,List.drop_succ_cons,List.take_succ_cons,List.take_zero] at a;obtain⟨n0,h0,w0⟩:=(NW Tryz.underlying3) _ _ _ _ _ _ _ a (f c);cases h0;obtain⟨l,b,g⟩:=d 1 3 1 rfl;simp only[e,List.drop_zero,List.drop_succ_cons,List.take_succ_cons,List.take_zero] at b;obtain⟨n1,h1,w1⟩:=(NW Tryz.underlying3) _ _ _ _ _ _ _ b (g c);cases h1;exact⟨⟨n0,n1⟩,rfl,w0,w1⟩
theorem AfV:Ss Tryz.prog 126 Bl (fun x=>(Iz .i64 x.En∧Iz .i64 x.Ey)):=by
 intro H enc w sp fuel cs x h c;obtain⟨hl,i,d⟩:=PX Tryz.underlying126 h;have j:Tryz.prog.cellsOf 126=2:=by kernel_rfl
 rw[j] at hl;have e:Tryz.prog.cellsOf 3=1:=by kernel_rfl
 obtain⟨a0,a1,rfl⟩:=AbW hl;obtain⟨k,a,f⟩:=d 0 3 0 rfl;simp only[e,List.drop_zero,List.drop_succ_cons,List.take_succ_cons,List.take_zero] at a;obtain⟨n0,h0,w0⟩:=(NW Tryz.underlying3) _ _ _ _ _ _ _ a (f c);cases h0;obtain⟨l,b,g⟩:=d 1 3 1 rfl;simp only[e,List.drop_zero,List.drop_succ_cons,List.take_succ_cons,List.take_zero] at b;obtain⟨n1,h1,w1⟩:=(NW Tryz.underlying3) _ _ _ _ _ _ _ b (g c);cases h1;exact⟨⟨n0,n1⟩,rfl,w0,w1⟩
theorem Aby:Ss Tryz.prog 121 BA (fun x=>(Iz .i64 x.C0∧(Iz .i64 ((⟨x.Db,x.Dc⟩:AN).Lo)∧Iz .i64 ((⟨x.Db,x.Dc⟩:AN).Hi)))):=by
 intro H enc w sp fuel cs x h c;obtain⟨hl,i,d⟩:=PX Tryz.underlying121 h;have j:Tryz.prog.cellsOf 121=3:=by kernel_rfl
 rw[j] at hl;have k:Tryz.prog.cellsOf 3=1:=by kernel_rfl
 have e:Tryz.prog.cellsOf 44=2:=by kernel_rfl
 obtain⟨a0,a1,a2,rfl⟩:=Aeg hl;obtain⟨l,a,f⟩:=d 0 3 0 rfl;simp only[k,List.drop_zero,List.drop_succ_cons,List.take_succ_cons,List.take_zero] at a;obtain⟨n0,h0,w0⟩:=(NW Tryz.underlying3) _ _ _ _ _ _ _ a (f c);cases h0;obtain⟨m,b,g⟩:=d 1 44 1 rfl;simp only[e,List.drop_zero,List.drop_succ_cons,List.take_succ_cons,List.take_zero] at b;obtain⟨n1,h1,w1⟩:=Aap _ _ _ _ _ _ _ b (g c);cases h1;exact⟨⟨n0,n1.Lo,n1.Hi⟩,rfl,w0,w1⟩
theorem O7:Ss Tryz.prog 67 MX (fun x=>(((((⟨x.Al,x.Ac,x.Ap⟩:AV).AF).length*16≤140737488351232∧∀y∈((⟨x.Al,x.Ac,x.Ap⟩:AV).AF),(Iz .i64 y.Lo∧Iz .i64 y.Hi))∧(((⟨x.Al,x.Ac,x.Ap⟩:AV).BW).length*24≤140737488351232∧∀y∈((⟨x.Al,x.Ac,x.Ap⟩:AV).BW),(y.length*8≤140737488351232∧∀s∈y,Iz .i64 s))∧(((⟨x.Al,x.Ac,x.Ap⟩:AV).Bt).length*32≤140737488351232∧∀y∈((⟨x.Al,x.Ac,x.Ap⟩:AV).Bt),(True∧Iz .i64 y.Number∧(Iz .i64 ((⟨y.Bq,y.Br⟩:AN).Lo)∧Iz .i64 ((⟨y.Bq,y.Br⟩:AN).Hi)))))∧Iz .i64 x.Flat∧(x.AH.length*16≤140737488351232∧∀y∈x.AH,(Iz .i64 y.BU∧Iz .i64 y.DT))∧(x.Aw.length*16≤140737488351232∧∀y∈x.Aw,(Iz .i64 y.En∧Iz .i64 y.Ey))∧(x.Ao.length*24≤140737488351232∧∀y∈x.Ao,(Iz .i64 y.C0∧(Iz .i64 ((⟨y.Db,y.Dc⟩:AN).Lo)∧Iz .i64 ((⟨y.Db,y.Dc⟩:AN).Hi)))))):=by
 intro H enc w sp fuel cs x h a;obtain⟨hl,aF,c⟩:=PX Tryz.underlying67 h;have aG:Tryz.prog.cellsOf 67=7:=by kernel_rfl
 rw[aG] at hl;have aH:Tryz.prog.cellsOf 3=1:=by kernel_rfl
 have t:Tryz.prog.cellsOf 26=3:=by kernel_rfl
 have u:Tryz.prog.cellsOf 63=1:=by kernel_rfl
 have v:Tryz.prog.cellsOf 64=1:=by kernel_rfl
 have z:Tryz.prog.cellsOf 65=1:=by kernel_rfl
 obtain⟨a0,a1,a2,a3,a4,a5,a6,rfl⟩:=Ag6 hl;obtain⟨aX,d,aA⟩:=c 0 26 0 rfl;simp only[t,List.drop_zero,List.drop_succ_cons,List.take_succ_cons,List.take_zero] at d;obtain⟨n0,⟨j,k,l,m,n,o,h0,p,q,r⟩,w0⟩:=AgG _ _ _ _ _ _ _ d (aA a);cases h0;obtain⟨aY,e,aB⟩:=c 1 3 3 rfl;simp only[aH,List.drop_zero,List.drop_succ_cons,List.take_succ_cons,List.take_zero] at e;obtain⟨n1,h1,w1⟩:=(NW Tryz.underlying3) _ _ _ _ _ _ _ e (aB a);cases h1;obtain⟨aZ,f,aC⟩:=c 2 63 4 rfl;simp only[u,List.drop_zero,List.drop_succ_cons,List.take_succ_cons,List.take_zero] at f;obtain⟨aI,⟨aJ,aK,h2,s2⟩,w2⟩:=(Nq (b:=16) Tryz.underlying63 (by kernel_rfl) (by decide) AfU (by kernel_rfl)) _ _ _ _ _ _ _ f (aC a);cases h2;obtain⟨a8,g,aD⟩:=c 3 64 5 rfl;simp only[v,List.drop_zero,List.drop_succ_cons,List.take_succ_cons,List.take_zero] at g;obtain⟨aL,⟨aM,aN,aO,aP⟩,aQ⟩:=(Nq (b:=16) Tryz.underlying64 (by kernel_rfl) (by decide) AfV (by kernel_rfl)) _ _ _ _ _ _ _ g (aD a);cases aO;obtain⟨a9,i,aE⟩:=c 4 65 6 rfl;simp only[z,List.drop_zero,List.drop_succ_cons,List.take_succ_cons,List.take_zero] at i;obtain⟨aR,⟨aS,aT,aU,aV⟩,aW⟩:=(Nq (b:=24) Tryz.underlying65 (by kernel_rfl) (by decide) Aby (by kernel_rfl)) _ _ _ _ _ _ _ i (aE a);cases aU;exact⟨⟨n0.AF,n0.BW,n0.Bt,n1,aI,aL,aR⟩,⟨j,k,l,m,n,o,aJ,aK,aM,aN,aS,aT,rfl,p,q,r,s2,aP,aV⟩,w0,w1,w2,aQ,aW⟩
theorem RB:ownKnob Tryz.prog.godebug=none:=by kernel_rfl
theorem P5:Kids Tryz.prog (· <Tryz.prog.types.size):=kids_rows (by kernel_rfl) (by kernel_rfl)
theorem P6:∀t e,t<Tryz.prog.types.size→Tryz.prog.underlying t=some (.slice e)→0<Tryz.prog.cellsOf e:=slices_full_of Tryz.prog (by kernel_rfl)
end Go.Proofs.YtbhofkcbfblijaaGreat
end
section
namespace Go.Proofs.YtbhofkcbfblijaaGreat
open Go
theorem Bf{a b:Bool}(h:a=true)(g:b=true):(a&&b)=true:=by rw[h,g];rfl
theorem FI{a b:Bool}(h:(a&&b)=true):a=true:=(Bool.and_eq_true _ _▸h:a=true∧b=true).1
theorem IE{a b:Bool}(h:(a&&b)=true):b=true:=(Bool.and_eq_true _ _▸h:a=true∧b=true).2
theorem O8:laidOutB Tryz.checked.prog=true:=by kernel_rfl
theorem O9:mapsRowed Tryz.checked.prog=true:=by kernel_rfl
theorem NX:(Tryz.checked.prog.stops==[])=true:=by kernel_rfl
theorem NY:(Tryz.checked.prog.stopKnobs==[])=true:=by kernel_rfl
theorem NZ:Tryz.checked.prog.stopsHeard=true:=by kernel_rfl
theorem Pa:(Rows.tradePlaysRow.plainKeys==Tryz.checked.prog.plainKeys)=true:=by kernel_rfl
theorem Hs:(Tryz.checked.prog.mayEnter&&(Rows.tradePlaysRow.lifted==Tryz.checked.prog.liftsFinal)&&(Tryz.checked.prog.make==some Rows.tradePlaysRow.make))=true:=by kernel_rfl
end Go.Proofs.YtbhofkcbfblijaaGreat
end
