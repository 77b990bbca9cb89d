import Derived.Test.YtbhofkcbfblijaaGreatCH4
import Derived.WalkKit
import Derived.KernelRfl
import Derived.WalkSpells
import Derived.WalkLawsBesides
import Derived.Maps.AppendAt
import Derived.OrdersIn
import Derived.RangeFuncIn
import Derived.RangeFuncLeaves
import Derived.RangeFuncRecord
import Derived.RangeFuncSeq
import Derived.Scope
import Derived.DeepKeys3
import Derived.Laws.CopyRow
import Derived.Laws.OwnMore
import Derived.Laws.MakeOwn
import Derived.Laws.IdiomCopy
import Derived.Sort.OwnSortedInts
import Derived.Lib.RowBridge
import Derived.Shelf.Sort.Plain
import Derived.Ground.Names2Prog
import Derived.Shelf.Slices.Clone
import Derived.Shelf.Slices.CompactI
import Derived.Shelf.Slices.In.SortNone
import Derived.Ground.SlgnProg
import Derived.Shelf.SlicesE.Clone
import Derived.Test.YtbhofkcbfblijaaGreatProg
/-
  The contracts of the functions of the program and of the reference, and the logic that they are proved in: the base that several claims of this seat share.
-/
set_option linter.all false
section
namespace Go.Proofs.YtbhofkcbfblijaaGreat
open Go.RowKit Go.WideShapes
set_option maxRecDepth 20000
open HF
attribute [local irreducible] Dm WL CC CW LV B7 Ih GL One Bg
theorem AbH dB g aL q r s t u y z aA aB aC aD aE aF aG aH aI l m bU d(Z:Nat→Prop) w(d0:BL FN [some d] w)(d1:∀b,Z b→¬FN b∧some b∉[some d])(cR:Sl Az w Z q r g.AX)(cS:Sl (Bs (Ao .i64)) w Z s t g.AY)(cT:Sl AH w Z u y g.AT)(cU:Sl Ba w Z z aA g.Bx)(cV:Sl Bc w Z aB aC g.Bw)(cW:Sl Bp w Z aD aE g.BT)(cX:Sl (Ao .i64) w Z aF aG g.weights)(cY:Sl Ep w Z aH aI g.Dg)(d2:Rz w Z (some ⟨bU,0,none⟩) (E4 q r s t u y z aA aB aC aD aE aF aG aH aI d g))(cZ:Sl (Ao .i64) w Z l m aL)(d3:EE (fun x:Int=>I x) w d 2 g.known) dC(f:GQ dB g aL=some dC):
 B7 Tryz.prog 121 #[pt bU 0,.slice l aL.length m] w (fun v w'=>Dc (FU FN [some d]) w w'∧Cm.R w' (zf Z w [some d]) v dC.1∧EE (fun x:Int=>I x) w' d 2 dC.2):=by
 unfold GQ at f;refine rq (N:=32) Tryz.func121 fun e1 ha e2=>?_;have dD:=sA 0 ha;have cI:=sA 1 ha;clear ha;obtain⟨i,e3,a3,cJ,dE⟩:=My d0 d1;have ⟨a4,a5,a7,a8,a9,bA,bB,bC⟩:=GN cR cS cT cU cV cW cX cY (BV (L:=[some d]) cJ w);have bP:=d2.mv (BV (L:=[some d]) cJ w);have bV:=cZ.mv (BV (L:=[some d]) cJ w);refine cr<|wA (v:=.bool false) rfl<|wr<|wA (v:=.slice none 0 0) rfl<|wr<|wM (v:=pt bU 0) dD ?_;replace f:=bind_some f;obtain⟨bE,d4,f⟩:=f;refine wE (fun st=>Aj Zj (eR st) (Cy (eR st)) (AeW dB g q r s t u y z aA aB aC aD aE aF aG aH aI bU d (zb i Z w [some d]) _ (a3.EP (F':=FN) (M:=[some d]) (C:=[]) [0] [] rfl ⟨rfl,trivial⟩ trivial eL) (a3.zz (F':=FN) (M:=[some d]) (C:=[]) [0] [] ⟨rfl,trivial⟩ trivial eL) a4 a5 a7 a8 a9 bA bB bC bP d3 bE d4)) ?_;rintro _ w2 ⟨cK,⟨aO,aP,rfl,cL⟩,c0⟩;have d5:=a3.Ek cK (BM [0] ⟨rfl,trivial⟩ eL);have bM:=cL.mv (a3.call (M:=[some d]) (Nat.le_refl _) (Ee ⟨.inl ⟨0,rfl⟩,trivial⟩) (fun _ h=>.inl h));refine wA (v:=.slice aO bE.1.length aP) rfl<|wn<|Af<|cr<|wM (v:=.slice l aL.length m) cI<|wD (fun st=>Be Tryz.underlying31 (eR st))<|wM (v:=I 0) rfl<|wn<|AI ?_;have d6:=d5.nil;have d7:BH (Ao .i64) 3 w.heap.size w2 (zb i Z w [none,some d]) none 0 ([]:List Int):=BH.nil _ _ _ _ _;replace f:=bind_some f;obtain⟨z3,bD,f⟩:=f;refine BX (fun d8 o j=>(d8=.exit 0∧∃a c,Fo X0 32 o∧sl o 1=.slice l aL.length m∧sl o 5=.slice a z3.length c∧Hp FN i w [ob a,some d] j∧BH (Ao .i64) 3 w.heap.size j (zb i Z w [ob a,some d]) a c z3∧Sl Az j (zb i Z w [ob a,some d]) q r g.AX∧Sl (Bs (Ao .i64)) j (zb i Z w [ob a,some d]) s t g.AY∧Sl AH j (zb i Z w [ob a,some d]) u y g.AT∧Sl Ba j (zb i Z w [ob a,some d]) z aA g.Bx∧Sl Bc j (zb i Z w [ob a,some d]) aB aC g.Bw∧Sl Bp j (zb i Z w [ob a,some d]) aD aE g.BT∧Sl (Ao .i64) j (zb i Z w [ob a,some d]) aF aG g.weights∧Sl Ep j (zb i Z w [ob a,some d]) aH aI g.Dg∧Sl (Ao .i64) j (zb i Z w [ob a,some d]) l m aL∧EE (fun x:Int=>I x) j d 2 bE.2∧Rz j (zb i Z w [ob a,some d]) (some ⟨bU,0,none⟩) (E4 q r s t u y z aA aB aC aD aE aF aG aH aI d g))) ?d9 ?eA
 case d9=>
  clear f;refine BW (fun dF o j=>∃aJ,∃p,∃e aM,FV aL bE dF aJ p=some z3∧Fo X0 32 o∧sl o 1=.slice l aL.length m∧sl o 5=.slice e aJ.length aM∧sl o 6=.slice aO bE.1.length aP∧sl o 11=.slice l aL.length m∧sl o 12=I (aL.length:Int)∧sl o 13=I p∧Hp FN i w [ob e,some d] j∧BH (Ao .i64) 3 w.heap.size j (zb i Z w [ob e,some d]) e aM aJ∧Sl Az j (zb i Z w [ob e,some d]) q r g.AX∧Sl (Bs (Ao .i64)) j (zb i Z w [ob e,some d]) s t g.AY∧Sl AH j (zb i Z w [ob e,some d]) u y g.AT∧Sl Ba j (zb i Z w [ob e,some d]) z aA g.Bx∧Sl Bc j (zb i Z w [ob e,some d]) aB aC g.Bw∧Sl Bp j (zb i Z w [ob e,some d]) aD aE g.BT∧Sl (Ao .i64) j (zb i Z w [ob e,some d]) aF aG g.weights∧Sl Ep j (zb i Z w [ob e,some d]) aH aI g.Dg∧Sl (Ao .i64) j (zb i Z w [ob e,some d]) l m aL∧Sl (Bs (Ao .i64)) j (zb i Z w [ob e,some d]) aO aP bE.1∧EE (fun x:Int=>I x) j d 2 bE.2∧Rz j (zb i Z w [ob e,some d]) (some ⟨bU,0,none⟩) (E4 q r s t u y z aA aB aC aD aE aF aG aH aI d g)) dB ?eB ?eC
  case eB=>
   intro st;have ⟨bW,bX,bY,bZ,b4,b5,b6,b7,b8⟩:=SO a4 a5 a7 a8 a9 bA bB bC bV (mt (a3.GD cK (BM [0] ⟨rfl,trivial⟩ eL)) B8);have bN:=(bM.mv B8);have c1:=c0;have c2:=((bP.mv (a3.GD cK (BM [0] ⟨rfl,trivial⟩ eL))).mv B8);exact⟨([]:List Int),(0:Int),none,0,bD,qo st,sp st 1 cI,sp st 5 rfl,sp st 6 rfl,sp st 11 rfl,sp st 12 rfl,sp st 13 rfl,d6,d7,bW,bX,bY,bZ,b4,b5,b6,b7,b8,bN,c1,c2⟩
  case eC=>
   rintro(_|dF) e4 e5 ⟨aJ,p,e,aM,bD,dG,bQ,bR,bS,bF,bG,aQ,aR,aS,aT,aU,aV,aW,aX,aY,aZ,a0,aK,aN,bH,bI⟩
   ·exact absurd (show none=some _ from bD) (by simp)
   rw[FV.eq_2] at bD;have f:=bD;clear bD;refine ro dG<|cr<|wD (fun st=>B9 (ee st aQ) (ee st bG))<|wn<|Af ?_;rcases Ae (decide (p<(aL.length:Int))) with bJ|bJ
   ·replace f:=Ap f bJ;refine Am rfl bJ<|cn<|Af<|AI<|Af<|Al ?_;replace f:=AP f;obtain⟨i6,dH,eD,eE,eF,f⟩:=f;obtain⟨e7,e8,_,eG,rfl,eH⟩:=Sl.Cz aK rfl eE;refine wD (fun st=>AR (k:=i6) Tryz.underlying31 C7 (ee st bF) eG (ee st aQ) eD eF)<|wD (fun st=>Bb (v:=I dH) Bh (eR st) eH rfl)<|wA (v:=I dH) rfl<|wn<|Al<|wM (v:=.slice e aJ.length aM) bR<|wM (v:=.slice aO bE.1.length aP) bS<|wM (v:=I dH) rfl ?_;replace f:=AP f;obtain⟨i7,c3,eI,eJ,eK,f⟩:=f;obtain⟨e9,fA,_,eM,⟨dI,dJ,rfl,c4⟩,eN⟩:=Sl.Cz aN rfl eJ;refine wD (fun st=>AR (k:=i7) Tryz.underlying23 ES (eR st) eM (eR st) eI eK)<|wD (fun st=>Bb (v:=.slice dI c3.length dJ) DB (eR st) eN rfl) ?_;replace f:=Ci f;obtain⟨c9,f⟩:=f;refine wE (fun st=>I0 (ys:=c3) Tryz.underlying31 HG rfl rfl (by decide) (eR st) rfl (eR st) aS c4.n (by have:=c9;simp only[maxLen];omega) (by have:=c9;omega) aR.sz) ?_;rintro _ fB ⟨eO,eP,rfl,bK,bT,eQ⟩;have eS:=aR.row bK 0 rfl bT;have eT:=Eb eQ (aR.DE bK 0 rfl (fun k hk=>(bT k hk).1));refine wA (v:=.slice eO ((aJ++c3).length) eP) rfl<|AU<|CS<|Al ?_;replace f:=AF f;obtain⟨dK,f⟩:=f;refine wD (fun st=>BG (ee st aQ) (eR st) dK)<|wM (v:=I (p+1)) rfl<|AU ?_;have ⟨b9,cA,cB,cC,cD,cE,cF,cG,cH,bO⟩:=Aa7 aT aU aV aW aX aY aZ a0 aK aN (aR.DE bK 0 rfl (fun k hk=>(bT k hk).1));have c5:=(bH.gr bK (aR.nq 1 0));have c6:=(bI.mv (aR.DE bK 0 rfl (fun k hk=>(bT k hk).1)));refine Bi dF (Nat.lt_succ_self _) (fun st=>?_);exact⟨(aJ++c3),(p+1),eO,eP,f,qo st,sp st 1 bQ,sp st 5 rfl,sp st 6 bS,sp st 11 bF,sp st 12 bG,sp st 13 rfl,eS,eT,b9,cA,cB,cC,cD,cE,cF,cG,cH,bO,c5,c6⟩
   ·replace f:=Aq f bJ;refine An rfl bJ<|Dq ?_;obtain rfl:=oi f;refine BC (fun st=>?_);exact⟨rfl,e,aM,qo st,sp st 1 bQ,sp st 5 bR,aR,aS,aT,aU,aV,aW,aX,aY,aZ,a0,aK,bH,bI⟩
 case eA=>
  rintro d8 eY e6 (⟨rfl,a,c,c7,cM,bL,cN,a2,dL,dM,dN,dO,dP,dQ,dR,dS,dT,cO,eU⟩);refine lf c7<|AZ<|BS<|cr<|wM (v:=.slice a z3.length c) bL ?_;replace f:=Ci f;obtain⟨dU,f⟩:=f;refine wE (fun st=>Aj AdY (eR st) (Cy (eR st)) (a159 z3 a c w.heap.size _ _ dU a2)) ?_;rintro _ eV ⟨rfl,cP,dV⟩;have dA:=cN.gr cP 0 rfl;have dW:BH (Ao .i64) 3 w.heap.size eV (zb i Z w [ob a,some d]) a c (IN z3):=dV _;have dX:=(bL).trans (show(.slice a z3.length c:Value)=.slice a ((IN z3).length) c by simp only[QG]);have eZ:(.slice a z3.length c:Value)=.slice a ((IN z3).length) c:=by simp only[QG]
  refine wr<|wM (v:=.slice a ((IN z3).length) c) dX ?_;replace f:=Ci f;obtain⟨dY,f⟩:=f;refine wE (fun st=>Aj AdZ (eR st) (Cy (eR st)) (a160 (IN z3) a c w.heap.size _ _ dY dW)) ?_;rintro _ eW ⟨rfl,cQ,dZ⟩;have eX:=dA.gr cQ 0 rfl;have e0:BH (Ao .i64) 3 w.heap.size eW (zb i Z w [ob a,some d]) a c (Lib.compact (IN z3)):=dZ _;refine wD (fun st=>Be Tryz.underlying31 (eR st))<|wM (v:=.slice l aL.length m) cM<|wD (fun st=>Be Tryz.underlying31 (eR st))<|wD (fun st=>B9 (eR st) (eR st))<|wA (v:=.bool (decide (((Lib.compact (IN z3)).length:Int)<(aL.length:Int)))) rfl<|wn<|Av ?_;obtain rfl:=oi f;refine Ay rfl rfl ?_;have c8:=((cO.gr cP (cN.nq 1 0)).gr cQ (dA.nq 1 0));exact⟨dE _ eX.fin,rfl,c8⟩
set_option maxHeartbeats 4000000 in
theorem AgB{eU:Type}{aO:Nat→Prop}{f8:Nat}{bV:IT eU}{d9:eU→(List Int)→Option (Bool×eU)} fM:∀aV aY c8 bI d3 bW (c9:eU) aT aU bY bZ q r m o (bM:Value) bF (Z Za:Nat→Prop) w (aP:Cb Tryz.prog bM aO f8 bV (v1 (Fq (Ao .i64))) Cm d9) (dJ:f8≤w.heap.size) (eA:BL aO [some q,some r,some m,some o,bF] w) (eB:∀b,Z b→¬aO b∧some b∉[some q,some r,some m,some o,bF]) (eC:∀b,Z b→Za b) (dA:∀b,Za b→¬aO b∧some b∉[some q,some r,some m,some o,bF]) (cQ:Sl (Ao .i64) w Z aT aU aY) (cR:Sl (Ao .i64) w Z bY bZ d3) (dK:Bk w q 31 #[.slice bY d3.length bZ]) (dL:Bk w r 148 #[bM]) (dM:Bk w m 3 #[I bW]) (dN:Bk w o 199 #[.func (.func 155) #[] #[pt q 0,pt r 0,pt m 0,pt o 0]]) (a:bV c9 w Z bF) dB (p:D6 fM d9 aV aY c8 bI d3 bW c9=some dB),
 B7 Tryz.prog 155 #[.slice aT aY.length aU,I c8,I bI,pt q 0,pt r 0,pt m 0,pt o 0] w (fun v w'=>∃dO dP o',Dc (FU aO [some q,some r,some m,some o,bF]) w w'∧Cm.R w' (zf Z w [some q,some r,some m,some o,o']) v dB.1∧Bk w' q 31 #[.slice dO dB.2.1.length dP]∧Sl (Ao .i64) w' (zf Z w [some q,some r,some m,some o,o']) dO dP dB.2.1∧Bk w' r 148 #[bM]∧Bk w' m 3 #[I bW]∧Bk w' o 199 #[.func (.func 155) #[] #[pt q 0,pt r 0,pt m 0,pt o 0]]∧(∀k,o'=some k→(bF=some k∨w.heap.size≤k)∧k<w'.heap.size)∧bV dB.2.2 w' (zf Z w [some q,some r,some m,some o,o']) o'):=by
 intro aV
 induction aV with
 |zero=>
  intro aY c8 bI d3 bW c9 aT aU bY bZ q r m o bM bF Z Za w aP dJ eA eB eC dA cQ cR dK dL dM dN a dB p;exact absurd (show none=some _ from p) (by simp)
 |succ aV ih=>
  intro aY c8 bI d3 bW c9 aT aU bY bZ q r m o bM bF Z Za w aP dJ eA eB eC dA cQ cR dK dL dM dN a dB p;rw[D6.eq_2] at p;refine rq (N:=37) Tryz.func155 fun gQ ha gR=>?_;have dC:=sA 0 ha;have fN:=sA 1 ha;have eD:=sA 2 ha;have fO:=sA 3 ha;have fP:=sA 4 ha;have fQ:=sA 5 ha;have fR:=sA 6 ha;clear ha;obtain⟨aZ,eE,bT,fH,gK,dD⟩:=Pk eA eB dA;have ⟨cM,d4⟩:=Nb cQ cR (BV (L:=[some q,some r,some m,some o,bF]) fH w);have eF:=aP.mz a (BV (L:=[some q,some r,some m,some o,bF]) fH w);refine cr<|wA (v:=.bool false) rfl<|wn<|Af<|cr<|wM (v:=I bI) eD<|wD (fun st=>CT (eR st) (eR st))<|wn ?_;rcases Ae (bI==0) with cW|cW
  ·replace p:=Ap p cW;refine Am rfl cW<|cr<|wM (v:=.slice aT aY.length aU) dC<|Cs rfl rfl (fun st=>Ca (n:=1) (l:=[.slice aT aY.length aU]) (DO:= #[.slice aT aY.length aU]) (ee st fO) (eR st) ES dK rfl rfl (show 0+1≤1 by decide) (BJ rfl) rfl) ?_;rintro _ w2 bU;have bN:=bT.gr bU.gr 0 rfl;refine wn<|Af<|Al ?_;have dQ:=(dL.gr bU.gr (bT.nq 1 0));refine wD (fun st=>As (v:=bM) VC (ee st fP) dQ rfl)<|wM (v:=.slice aT aY.length aU) dC ?_;have cN:=(cM.mv (bT.Co bU.gr 0 rfl));have fS:bV c9 w2 (ZZ aO aZ Z w.heap.size [some q,some r,some m,some o,bF]) bF:=(aP.mg eF bT bU.gr 0 rfl 4 rfl rfl (bT.Co bU.gr 0 rfl));replace p:=bind_some p;obtain⟨fT,f9,p⟩:=p;refine wE (fun st=>JD (aP.call c9 aY fT _ (ZZ aO aZ Z w.heap.size [some q,some r,some m,some o,bF]) (ZC aO [bF]) bF #[.slice aT aY.length aU] (Nat.le_trans dJ bN.sz) (bN.zz (F':=aO) (M:=[bF]) (C:=[]) [4] [] ⟨rfl,trivial⟩ trivial (fun _ h=>.inl h)) Nx fS ⟨_,rfl,⟨_,_,rfl,(cN.mv (bN.mz (F':=aO) (M:=[bF]) (C:=[]) [4] [] ⟨rfl,trivial⟩ trivial (fun _ h=>.inl h)))⟩⟩ f9) (eR st) (Cy (eR st))) ?_;rintro _ gL ⟨eG,cO,dE,rfl,gA⟩;have fI:=bN.HY cO (BM [4] ⟨rfl,trivial⟩ (fun _ h=>h)) 4 rfl dE;have fU:bV fT.2 gL (ZZ aO aZ Z w.heap.size [some q,some r,some m,some o,eG]) eG:=aP.mz gA (bN.call (M:=[eG]) (Nat.le_refl _) (Ee ⟨.inr (hw dE 4),trivial⟩) (Fg (L:=[some q,some r,some m,some o,bF]) (y:=eG) 4 (gm 0)));refine wA (v:=.bool fT.1) rfl<|wn<|Av<|AG ?_;obtain rfl:=oi p;refine Ay rfl rfl ?_;have eV:=(bU.bk.Ek cO (bN.EU 0 rfl [4] rfl ⟨rfl,trivial⟩ (fun _ h=>h)));have d5:=(cN.mv (bN.LS cO (BM [4] ⟨rfl,trivial⟩ (fun _ h=>h)) 4 rfl (fun k hk=>(dE k hk).1)));have eW:=(dQ.Ek cO (bN.EU 1 rfl [4] rfl ⟨rfl,trivial⟩ (fun _ h=>h)));have eX:=((dM.gr bU.gr (bT.nq 2 0)).Ek cO (bN.EU 2 rfl [4] rfl ⟨rfl,trivial⟩ (fun _ h=>h)));have eY:=((dN.gr bU.gr (bT.nq 3 0)).Ek cO (bN.EU 3 rfl [4] rfl ⟨rfl,trivial⟩ (fun _ h=>h)));exact⟨aT,aU,eG,dD _ fI.fin,rfl,eV,d5.mv (BQ (CE [0,1,2,3,4] ⟨rfl,rfl,rfl,rfl,rfl,trivial⟩)),eW,eX,eY,fI.mq 4 [0,1,2,3] (M:=[some q,some r,some m,some o]) ⟨rfl,rfl,rfl,rfl,trivial⟩ eE,aP.mz fU (BQ (CE [0,1,2,3,4] ⟨rfl,rfl,rfl,rfl,rfl,trivial⟩))⟩
  ·replace p:=Aq p cW;refine An rfl cW<|cn<|Af<|cr<|wM (v:=I c8) fN<|wA (v:=I c8) rfl<|wn<|AI ?_;replace p:=bind_some p;obtain⟨z5,cP,p⟩:=p;refine BX (fun fV bO aX=>(fV=.ret∧∃bG,z5=.inl bG∧∃a4 a5,∃bJ,Fo X0 37 bO∧sl bO 10=.bool bG.1∧Hp aO aZ w [some q,some r,some m,some o,bJ] aX∧Sl (Ao .i64) aX (ZZ aO aZ Z w.heap.size [some q,some r,some m,some o,bJ]) a4 a5 bG.2.1∧bV bG.2.2 aX (ZZ aO aZ Z w.heap.size [some q,some r,some m,some o,bJ]) bJ∧Bk aX q 31 #[.slice a4 bG.2.1.length a5]∧Bk aX r 148 #[bM]∧Bk aX m 3 #[I bW]∧Bk aX o 199 #[.func (.func 155) #[] #[pt q 0,pt r 0,pt m 0,pt o 0]])∨(fV=.exit 0∧∃bG,z5=.inr bG∧∃a7 a8,∃bK,Fo X0 37 bO∧Hp aO aZ w [some q,some r,some m,some o,bK] aX∧Sl (Ao .i64) aX (ZZ aO aZ Z w.heap.size [some q,some r,some m,some o,bK]) a7 a8 bG.1∧bV bG.2 aX (ZZ aO aZ Z w.heap.size [some q,some r,some m,some o,bK]) bK∧Bk aX q 31 #[.slice a7 bG.1.length a8]∧Bk aX r 148 #[bM]∧Bk aX m 3 #[I bW]∧Bk aX o 199 #[.func (.func 155) #[] #[pt q 0,pt r 0,pt m 0,pt o 0]])) ?gB ?gC
   case gB=>
    clear p;refine BW (fun fW bO aX=>∃c,∃a9,∃bL,∃bA bB,∃i,En (D6 fM d9 aV) aY bI bW fW c a9 bL=some z5∧Fo X0 37 bO∧sl bO 0=.slice aT aY.length aU∧sl bO 2=I bI∧sl bO 5=pt m 0∧sl bO 6=pt o 0∧sl bO 11=I c∧Hp aO aZ w [some q,some r,some m,some o,i] aX∧Sl (Ao .i64) aX (ZZ aO aZ Z w.heap.size [some q,some r,some m,some o,i]) bA bB a9∧bV bL aX (ZZ aO aZ Z w.heap.size [some q,some r,some m,some o,i]) i∧Sl (Ao .i64) aX (ZZ aO aZ Z w.heap.size [some q,some r,some m,some o,i]) aT aU aY∧Bk aX q 31 #[.slice bA a9.length bB]∧Bk aX r 148 #[bM]∧Bk aX m 3 #[I bW]∧Bk aX o 199 #[.func (.func 155) #[] #[pt q 0,pt r 0,pt m 0,pt o 0]]) fM ?gD ?gE
    case gD=>
     intro st;exact⟨c8,d3,c9,bY,bZ,bF,cP,qo st,sp st 0 dC,sp st 2 eD,sp st 5 fQ,sp st 6 fR,sp st 11 rfl,bT,d4,eF,cM,dK,dL,dM,dN⟩
    case gE=>
     rintro(_|fW) gS dR ⟨c,a9,bL,bA,bB,i,cP,fX,dS,cS,dT,dU,bQ,fJ,bR,dV,b4,cX,cY,b5,b6⟩
     ·exact absurd (show none=some _ from cP) (by simp)
     rw[En.eq_2] at cP;have p:=cP;clear cP;refine ro fX<|Af<|cr<|wM (v:=I c) bQ<|wD (fun st=>As (v:=I bW) Bh (ee st dT) b5 rfl)<|wM (v:=I bI) cS ?_;replace p:=AF p;obtain⟨gF,p⟩:=p;refine wD (fun st=>El (eR st) (eR st) gF)<|wD (fun st=>JP (eR st) (eR st))<|wn ?_;rcases Ae (decide (c≤(bW-bI))) with cZ|cZ
     ·replace p:=Ap p cZ;refine Am rfl cZ<|cn<|Af<|AI<|Af ?_;have gG:=fJ.nil;have fK:=gG.nil;have eZ:=b6;replace p:=Ci p;obtain⟨fY,p⟩:=p;have d6:=((b4.mv B8).mv B8);replace p:=Ci p;obtain⟨eH,p⟩:=p;replace p:=AF p;obtain⟨fZ,p⟩:=p;replace p:=AF p;obtain⟨f0,p⟩:=p;obtain⟨gM,aQ⟩:∃gU:(Nat→Bool)→(Nat→Value)→World→Prop,gU=(fun D V aX=>∃(aA:Option Nat) (x:Option Addr) (aB:Nat) (aJ:Option Nat) (u:Option Addr) (aN:Nat),Hp aO aZ w [aA,aJ,some q,some r,some m,some o,i] aX∧Ext dR aX∧(∀c0,Mv dR (ZZ aO aZ c0 w.heap.size [none,none,some q,some r,some m,some o,i]) aX (ZZ aO aZ c0 w.heap.size [aA,aJ,some q,some r,some m,some o,i]))∧(∀aV,aA=some aV→dR.heap.size≤aV)∧(∀aV,aJ=some aV→dR.heap.size≤aV)∧(D 2=false→aA=none)∧(D 4=false→aJ=none)∧(D 0=true→V 0=.func (.func 155) #[] #[pt q 0,pt r 0,pt m 0,pt o 0])∧(D 1=true→V 1=.slice aT aY.length aU)∧(D 2=true→D 5=false→V 2=.slice x ((aY).length) aB∧aA=ob x∧BH (Ao .i64) 3 w.heap.size aX (ZZ aO aZ Z w.heap.size [aA,aJ,some q,some r,some m,some o,i]) x aB aY)∧(D 3=true→V 3=I c)∧(D 4=true→V 4=.slice u (([c]).length) aN∧aJ=ob u∧BH (Ao .i64) 3 w.heap.size aX (ZZ aO aZ Z w.heap.size [aA,aJ,some q,some r,some m,some o,i]) u aN [c])∧(D 5=true→V 5=.slice x ((aY++[c]).length) aB∧aA=ob x∧BH (Ao .i64) 3 w.heap.size aX (ZZ aO aZ Z w.heap.size [aA,aJ,some q,some r,some m,some o,i]) x aB (aY++[c]))∧(D 6=true→V 6=I c)∧(D 7=true→V 7=I (c+1))∧(D 8=true→V 8=I bI)∧(D 9=true→V 9=I (bI-1))):=⟨_,rfl⟩;refine NS 10 gM mixed rfl rfl (by rw[aQ];exact⟨none,none,0,none,none,0,(fK.ext (Fh _)),Fh _,fun _=>Ac (Fh _),fun _ aK=>(by cases aK),fun _ aK=>(by cases aK),fun _=>rfl,fun _=>rfl,fun aK=>absurd (show false=true from aK) (by decide),fun aK=>absurd (show false=true from aK) (by decide),fun aK=>absurd (show false=true from aK) (by decide),fun aK=>absurd (show false=true from aK) (by decide),fun aK=>absurd (show false=true from aK) (by decide),fun aK=>absurd (show false=true from aK) (by decide),fun aK=>absurd (show false=true from aK) (by decide),fun aK=>absurd (show false=true from aK) (by decide),fun aK=>absurd (show false=true from aK) (by decide),fun aK=>absurd (show false=true from aK) (by decide)⟩)
          ⟨sj (k:=0) rfl (fun D V a' w' K a=>by
               rw[aQ] at a;refine X4 a fun aA x aB aJ a=>X2 a fun u aN a=>Y8 a fun aC aR aW d f j g _ a=>Y8 a fun aD z aE s aF aG aL aH a=>?_;have aI:=a;exact(As (v:=.func (.func 155) #[] #[pt q 0,pt r 0,pt m 0,pt o 0]) Zk (es ((K.out 6 rfl).trans dU)) (eZ.ext aR) rfl).mono fun v CO ⟨bC,bD⟩=>by subst bC;subst bD;rw[aQ];exact⟨aA,x,aB,aJ,u,aN,aC,aR,aW,d,f,j,g,fun _=>rfl,aD,z,aE,s,aF,aG,aL,aH,aI⟩),
           sj (k:=1) rfl (fun D V a' w' K a=>by
               rw[aQ] at a;refine X4 a fun aA x aB aJ a=>X2 a fun u aN a=>Y8 a fun aC aR aW d f j g aM a=>Y8 a fun _ z aE s aF aG aL aH a=>?_;have aI:=a;exact(Au (v:=.slice aT aY.length aU) (es ((K.out 0 rfl).trans dS))).mono fun v CO ⟨bC,bD⟩=>by subst bC;subst bD;rw[aQ];exact⟨aA,x,aB,aJ,u,aN,aC,aR,aW,d,f,j,g,aM,fun _=>rfl,z,aE,s,aF,aG,aL,aH,aI⟩),
           sj (k:=2) rfl (fun D V a' w' K a=>by
               rw[aQ] at a;refine X4 a fun _ _ _ aJ a=>X2 a fun u aN a=>Y8 a fun aC aR aW d f j g aM a=>Y8 a fun aD _ aE s _ aG aL aH a=>?_;have aI:=a;have dW:=aD (K.dn 1 rfl);have dF:=j K.me;subst dF;refine(Aj RB rfl (Cy (es (t:=27) (v:=.slice aT aY.length aU) ((K.dq 1 27).trans dW))) (a105 aY aT aU FN _ ((d6.mv (aW _)).Ou (fun _ _ _ _ _ _ h=>h)) fY)).mono ?_;rintro v CO ⟨bE,c1,eI,rfl,gN,eJ⟩;have a0:=Xk eJ;rw[aQ];exact⟨(ob c1),c1,eI,aJ,u,aN,(aC.row bE 0 rfl a0),(Ext.trans aR bE),(fun c0=>(aW c0).trans (aC.DE bE 0 rfl (fun aV aS=>(a0 aV aS).1))),(Mc d aR.size a0),f,fun aK=>absurd (show true=false from aK) (by decide),g,aM,aD,fun _ _=>⟨rfl,rfl,aC.US (fun _ _ _ _ _ _ h=>h) eJ⟩,aE,fun aK=>⟨(s aK).1,(s aK).2.1,((s aK).2.2.gr bE (fun aV aS=>aC.ne 1 0 rfl (congrArg some ((s aK).2.1.trans aS)) rfl) (aC.DE bE 0 rfl (fun aV aS=>(a0 aV aS).1)))⟩,fun aK=>(SN K.me (K.down 5 _ rfl aK 2 rfl)).elim,aG,aL,aH,aI⟩),
           sj (k:=3) rfl (fun D V a' w' K a=>by
               rw[aQ] at a;refine X4 a fun aA x aB aJ a=>X2 a fun u aN a=>Y8 a fun aC aR aW d f j g aM a=>Y8 a fun aD z _ s aF aG aL aH a=>?_;have aI:=a;exact(Au (v:=I c) (es ((K.out 11 rfl).trans bQ))).mono fun v CO ⟨bC,bD⟩=>by subst bC;subst bD;rw[aQ];exact⟨aA,x,aB,aJ,u,aN,aC,aR,aW,d,f,j,g,aM,aD,z,fun _=>rfl,s,aF,aG,aL,aH,aI⟩),
           sj (k:=4) rfl (fun D V a' w' K a=>by
               rw[aQ] at a;refine X4 a fun aA x aB _ a=>X2 a fun _ _ a=>Y8 a fun aC aR aW d f j g aM a=>Y8 a fun aD z aE _ aF aG aL aH a=>?_;have aI:=a;have dX:=aE (K.dn 3 rfl);have dF:=g K.me;subst dF;refine(Cx (e:=3) (vs:= #[(0,I c)]) (cs:= #[I c]) (I5 (es (t:=29) (v:=I c) ((K.dq 3 29).trans dX))) (by kernel_rfl)).mono ?_;rintro v CO ⟨gH,rfl,cT⟩;have a0:=QH cT;have bE:=cT.gr;rw[aQ];exact⟨aA,x,aB,(ob (some ⟨gH,0,none⟩)),(some ⟨gH,0,none⟩),1,(aC.row bE 1 rfl a0),(Ext.trans aR bE),(fun c0=>(aW c0).trans (aC.DE bE 1 rfl (fun aV aS=>(a0 aV aS).1))),d,(Mc f aR.size a0),j,fun aK=>absurd (show true=false from aK) (by decide),aM,aD,fun aK dY=>⟨(z aK dY).1,(z aK dY).2.1,((z aK dY).2.2.gr bE (fun aV aS=>aC.ne 0 1 rfl (congrArg some ((z aK dY).2.1.trans aS)) rfl) (aC.DE bE 1 rfl (fun aV aS=>(a0 aV aS).1)))⟩,aE,fun _=>⟨rfl,rfl,P6 (CM:=[[I c]]) cT.bk (Nat.le_trans aC.sz (Nat.le_of_eq cT.IL.symm)) ⟨rfl,trivial⟩ rfl (by simp[maxLen])⟩,fun aK=>⟨(aF aK).1,(aF aK).2.1,((aF aK).2.2.gr bE (fun aV aS=>aC.ne 0 1 rfl (congrArg some ((aF aK).2.1.trans aS)) rfl) (aC.DE bE 1 rfl (fun aV aS=>(a0 aV aS).1)))⟩,aG,aL,aH,aI⟩),
           sj (k:=5) rfl (fun D V a' w' K a=>by
               rw[aQ] at a;refine X4 a fun _ x aB _ a=>X2 a fun u aN a=>Y8 a fun aC aR aW d f _ g aM a=>Y8 a fun aD z aE s _ aG aL aH a=>?_;have aI:=a;obtain⟨e0,eK,e1⟩:=z (K.dn 2 rfl) K.me;subst eK;obtain⟨dZ,b7,e2⟩:=s (K.dn 4 rfl);subst b7;refine(I0 (ys:=[c]) Tryz.underlying31 HG rfl rfl (by decide) (es (t:=28) (v:=.slice x ((aY).length) aB) ((K.dq 2 28).trans e0)) rfl (es (t:=30) (v:=.slice u (([c]).length) aN) ((K.dq 4 30).trans dZ)) e1 (e2.Ou (fun _ _ _ _ _ _ h=>h)) (by have:=eH;simp only[maxLen];omega) (by have:=eH;omega) aC.sz).mono ?_;rintro v CO ⟨c1,eI,rfl,bE,a0,f1⟩;rw[aQ];exact⟨(ob c1),c1,eI,(ob u),u,aN,(aC.row bE 0 rfl a0),(T9 aR bE d),(fun c0=>(aW c0).trans (aC.DE bE 0 rfl (fun aV aS=>(a0 aV aS).1))),(Mc d aR.size a0),f,fun aK=>absurd (K.dn 2 rfl) (by rw[show D 2=false from aK];decide),g,aM,aD,fun _ aK=>absurd (show true=false from aK) (by decide),aE,fun aK=>⟨(s aK).1,rfl,((s aK).2.2.gr bE (fun aV aS=>aC.ne 1 0 rfl (congrArg some aS) rfl) (aC.DE bE 0 rfl (fun aV aS=>(a0 aV aS).1)))⟩,fun _=>⟨rfl,rfl,Eb f1 (aC.DE bE 0 rfl (fun aV aS=>(a0 aV aS).1))⟩,aG,aL,aH,aI⟩),
           sj (k:=6) rfl (fun D V a' w' K a=>by
               rw[aQ] at a;refine X4 a fun aA x aB aJ a=>X2 a fun u aN a=>Y8 a fun aC aR aW d f j g aM a=>Y8 a fun aD z aE s aF _ aL aH a=>?_;have aI:=a;exact(Au (v:=I c) (es ((K.out 11 rfl).trans bQ))).mono fun v CO ⟨bC,bD⟩=>by subst bC;subst bD;rw[aQ];exact⟨aA,x,aB,aJ,u,aN,aC,aR,aW,d,f,j,g,aM,aD,z,aE,s,aF,fun _=>rfl,aL,aH,aI⟩),
           sj (k:=7) rfl (fun D V a' w' K a=>by
               rw[aQ] at a;refine X4 a fun aA x aB aJ a=>X2 a fun u aN a=>Y8 a fun aC aR aW d f j g aM a=>Y8 a fun aD z aE s aF aG _ aH a=>?_;have aI:=a;have d0:=aG (K.dn 6 rfl);exact(BG (es (t:=32) (v:=I c) ((K.dq 6 32).trans d0)) (ec (v:=I 1)) fZ).mono fun v CO ⟨bC,bD⟩=>by subst bC;subst bD;rw[aQ];exact⟨aA,x,aB,aJ,u,aN,aC,aR,aW,d,f,j,g,aM,aD,z,aE,s,aF,aG,fun _=>rfl,aH,aI⟩),
           sj (k:=8) rfl (fun D V a' w' K a=>by
               rw[aQ] at a;refine X4 a fun aA x aB aJ a=>X2 a fun u aN a=>Y8 a fun aC aR aW d f j g aM a=>Y8 a fun aD z aE s aF aG aL _ a=>?_;have aI:=a;exact(Au (v:=I bI) (es ((K.out 2 rfl).trans cS))).mono fun v CO ⟨bC,bD⟩=>by subst bC;subst bD;rw[aQ];exact⟨aA,x,aB,aJ,u,aN,aC,aR,aW,d,f,j,g,aM,aD,z,aE,s,aF,aG,aL,fun _=>rfl,aI⟩),
           sj (k:=9) rfl (fun D V a' w' K a=>by
               rw[aQ] at a;refine X4 a fun aA x aB aJ a=>X2 a fun u aN a=>Y8 a fun aC aR aW d f j g aM a=>Y8 a fun aD z aE s aF aG aL aH a=>?_;have aI:=a;have d1:=aH (K.dn 8 rfl);exact(El (es (t:=34) (v:=I bI) ((K.dq 8 34).trans d1)) (ec (v:=I 1)) f0).mono fun v CO ⟨bC,bD⟩=>by subst bC;subst bD;rw[aQ];exact⟨aA,x,aB,aJ,u,aN,aC,aR,aW,d,f,j,g,aM,aD,z,aE,s,aF,aG,aL,aH,fun _=>rfl⟩),trivial⟩ ?_
      intro gV gW gO a2 a3;rw[aQ] at a3;clear aQ;refine X4 a3 fun aA x aB aJ a3=>X2 a3 fun u aN a3=>Y8 a3 fun dG b8 dH d f j g aM a3=>Y8 a3 fun aD z aE s aF aG aL aH a3=>?_;have aI:=a3;clear a3;have e3:=aM (a2 0 (by decide));have dW:=aD (a2 1 (by decide));have dX:=aE (a2 3 (by decide));obtain⟨dZ,b7,gJ⟩:=s (a2 4 (by decide));subst b7;obtain⟨e4,eM,e5⟩:=aF (a2 5 (by decide));subst eM;have d0:=aG (a2 6 (by decide));have e6:=aL (a2 7 (by decide));have d1:=aH (a2 8 (by decide));have e7:=aI (a2 9 (by decide));have b9:=dG.erase 0;have d7:=dG.SI 0 rfl e5;have c2:=((((bR.mv B8).mv B8).mv (dH _)).mv (AV 0));have e8:=(cX.ext b8);have e9:=(cY.ext b8);have fA:=(b5.ext b8);have fB:=(b6.ext b8);replace p:=bind_some p;obtain⟨bS,f2,p⟩:=p;have f3:bV bL gO (ZZ aO aZ Z w.heap.size [ob u,some q,some r,some m,some o,i]) i:=(aP.mz (aP.me (aP.mz (aP.mz dV B8) B8) fK b8 (dH _)) (AV 0));refine wE (fun st=>Oa (first:= #[]) (cap:= #[pt q 0,pt r 0,pt m 0,pt o 0]) (vs:= #[.slice x ((aY++[c]).length) aB,I (c+1),I (bI-1)]) (all:= #[.slice x ((aY++[c]).length) aB,I (c+1),I (bI-1),pt q 0,pt r 0,pt m 0,pt o 0]) Zl (ee st e3) (Dx (ee st e4) (ee st e6) (ee st e7)) (by simp) (ih (aY++[c]) (c+1) (bI-1) a9 bW bL x aB bA bB q r m o bM i (ZZ aO aZ Z w.heap.size [ob u,some q,some r,some m,some o,i]) (ZZ aO aZ Z w.heap.size [ob u,some q,some r,some m,some o,i]) _ aP (Nat.le_trans dJ dG.sz) (b9.EP (F':=aO) (M:=[some q,some r,some m,some o,i]) (C:=[]) [1,2,3,4,5] [] rfl ⟨rfl,rfl,rfl,rfl,rfl,trivial⟩ trivial (fun _ h=>.inl h)) (b9.zz (F':=aO) (M:=[some q,some r,some m,some o,i]) (C:=[]) [1,2,3,4,5] [] ⟨rfl,rfl,rfl,rfl,rfl,trivial⟩ trivial (fun _ h=>.inl h)) (fun _ h=>h) (b9.zz (F':=aO) (M:=[some q,some r,some m,some o,i]) (C:=[]) [1,2,3,4,5] [] ⟨rfl,rfl,rfl,rfl,rfl,trivial⟩ trivial (fun _ h=>.inl h)) d7 c2 e8 e9 fA fB f3 bS f2)) ?_;rintro _ eN ⟨cA,cB,bH,eO,rfl,c3,c4,c5,c6,c7,bX,f4⟩;have fL:=b9.HY eO (BM [1,2,3,4,5] ⟨rfl,rfl,rfl,rfl,rfl,trivial⟩ (fun _ h=>h)) 5 rfl bX;have bP:=c4.mv (b9.call (M:=[some q,some r,some m,some o,bH]) (Nat.le_refl _) (Ee ⟨.inl ⟨1,rfl⟩,.inl ⟨2,rfl⟩,.inl ⟨3,rfl⟩,.inl ⟨4,rfl⟩,.inr (hw bX 5),trivial⟩) (Fg (L:=[ob u,some q,some r,some m,some o,i]) (y:=bH) 5 (gm 4)));have d2:bV bS.2.2 eN (ZZ aO aZ Z w.heap.size [ob u,some q,some r,some m,some o,bH]) bH:=aP.mz f4 (b9.call (M:=[some q,some r,some m,some o,bH]) (Nat.le_refl _) (Ee ⟨.inl ⟨1,rfl⟩,.inl ⟨2,rfl⟩,.inl ⟨3,rfl⟩,.inl ⟨4,rfl⟩,.inr (hw bX 5),trivial⟩) (Fg (L:=[ob u,some q,some r,some m,some o,i]) (y:=bH) 5 (gm 4)));refine wn ?_;rcases Ae (bS.1) with cC|cC
      ·replace p:=Ap p cC;refine Am rfl cC<|cr<|wA (v:=.bool true) rfl<|wn<|Av<|Dd<|AG ?_;have gI:=fL.erase 0;obtain rfl:=oi p;have cL:=(bP.mv (AV 0));have f5:bV bS.2.2 eN (ZZ aO aZ Z w.heap.size [some q,some r,some m,some o,bH]) bH:=(aP.mz d2 (AV 0));have fC:=c3;have fD:=c5;have fE:=c6;have fF:=c7;refine BC (fun st=>?_);exact .inl ⟨rfl,(true,bS.2.1,bS.2.2),rfl,cA,cB,bH,qo st,sp st 10 rfl,gI,cL,f5,fC,fD,fE,fF⟩
      ·replace p:=Aq p cC;refine An rfl cC<|Ct<|CS<|Al<|wM (v:=I c) bQ ?_;replace p:=AF p;obtain⟨f6,p⟩:=p;refine wD (fun st=>BG (eR st) (eR st) f6)<|wA (v:=I (c+1)) rfl<|AU ?_;have f7:=fL.erase 0;have cD:=(bP.mv (AV 0));have fG:bV bS.2.2 eN (ZZ aO aZ Z w.heap.size [some q,some r,some m,some o,bH]) bH:=(aP.mz d2 (AV 0));have dI:=((((((b4.mv B8).mv B8).mv (dH _)).mv (AV 0)).mv (b9.LS eO (BM [1,2,3,4,5] ⟨rfl,rfl,rfl,rfl,rfl,trivial⟩ (fun _ h=>h)) 5 rfl (fun k hk=>(bX k hk).1))).mv (AV 0));have eP:=c3;have eQ:=c5;have eS:=c6;have eT:=c7;refine Bi fW (Nat.lt_succ_self _) (fun st=>?_);exact⟨(c+1),bS.2.1,bS.2.2,cA,cB,bH,p,qo st,sp st 0 dS,sp st 2 cS,sp st 5 dT,sp st 6 dU,sp st 11 rfl,f7,cD,fG,dI,eP,eQ,eS,eT⟩
     ·replace p:=Aq p cZ;refine An rfl cZ<|Dq ?_;obtain rfl:=oi p;refine BC (fun st=>?_);exact .inr ⟨rfl,(a9,bL),rfl,bA,bB,i,qo st,fJ,bR,dV,cX,cY,b5,b6⟩
   case gC=>
    rintro fV gP gT (⟨rfl,bG,rfl,a4,a5,bJ,cU,d8,cE,cF,cV,cG,cH,cI,cJ⟩|⟨rfl,bG,rfl,a7,a8,bK,cU,cE,cK,cV,cG,cH,cI,cJ⟩)
    ·skip
     replace p:=C9 p;refine lf cU<|Dd ?_;obtain rfl:=oi p;refine Ay rfl d8 ?_;exact⟨a4,a5,bJ,dD _ cE.fin,rfl,cG,cF.mv (BQ (CE [0,1,2,3,4] ⟨rfl,rfl,rfl,rfl,rfl,trivial⟩)),cH,cI,cJ,cE.mq 4 [0,1,2,3] (M:=[some q,some r,some m,some o]) ⟨rfl,rfl,rfl,rfl,trivial⟩ eE,aP.mz cV (BQ (CE [0,1,2,3,4] ⟨rfl,rfl,rfl,rfl,rfl,trivial⟩))⟩
    ·skip
     replace p:=Da p;refine lf cU<|AZ<|BS<|cr<|wA (v:=.bool false) rfl<|wn<|Av ?_;obtain rfl:=oi p;refine Ay rfl rfl ?_;exact⟨a7,a8,bK,dD _ cE.fin,rfl,cG,cK.mv (BQ (CE [0,1,2,3,4] ⟨rfl,rfl,rfl,rfl,rfl,trivial⟩)),cH,cI,cJ,cE.mq 4 [0,1,2,3] (M:=[some q,some r,some m,some o]) ⟨rfl,rfl,rfl,rfl,trivial⟩ eE,aP.mz cV (BQ (CE [0,1,2,3,4] ⟨rfl,rfl,rfl,rfl,rfl,trivial⟩))⟩
theorem AeY{bN:Type}{p:Nat→Prop}{cD:Nat}{aV:IT bN}{bD:bN→(List Int)→Option (Bool×bN)} bE aK(bO:bN)(aM:Value) aS(Z:Nat→Prop) w(i:Cb Tryz.prog aM p cD aV (v1 (Fq (Ao .i64))) Cm bD)(cE:cD≤w.heap.size)(cF:BL p [aS] w)(cG:∀b,Z b→¬p b∧some b∉[aS])(cZ:aV bO w Z aS) bP(f:Fa bE bD aK bO=some bP):
 B7 Tryz.prog 113 #[I aK,aM] w (fun v w'=>∃o',Dc (FU p [aS]) w w'∧(OM (Fq (Ao .i64)) Cm).R w' (zf Z w [o']) v (bP.1,bP.2.1)∧(∀k,o'=some k→(aS=some k∨w.heap.size≤k)∧k<w'.heap.size)∧aV bP.2.2 w' (zf Z w [o']) o'):=by
 unfold Fa at f;refine rq (N:=21) Tryz.func113 fun c2 ha c3=>?_;have b4:=sA 0 ha;have b5:=sA 1 ha;clear ha;obtain⟨aC,cH,bF,cI,b6⟩:=My cF cG;have b7:=i.mz cZ (BV (L:=[aS]) cI w);refine cr<|wE (fun st=>BP (v:=I aK) (cs:= #[I aK]) (ee st b4) rfl) ?_;rintro _ w1 ⟨b1,rfl,aW⟩;have bG:=bF.nb aW;have cV:=bF.BU aW;refine wE (fun st=>BP (v:=aM) (cs:= #[aM]) (ee st b5) i.fc) ?_;rintro _ w2 ⟨b2,rfl,aN⟩;have bH:=bG.nb aN;have cW:=bG.BU aN;refine wE (fun st=>CR (cs:= #[.slice none 0 0]) TE rfl) ?_;rintro _ c7 ⟨b3,rfl,aD⟩;have bI:=bH.nb aD;have cX:=bH.BU aD;refine wA (v:=.bool false) rfl<|wn<|AaZ<|cr<|wE (fun st=>CR (cs:= #[.nilFunc]) Abq rfl) ?_;rintro _ c8 ⟨g,rfl,x⟩;have aO:=bI.nb x;have cY:=bI.BU x;refine wr<|wD (fun st=>F4 (vs:= #[]) (us:= #[pt b3 0,pt b2 0,pt b1 0,pt g 0]) Gj (ZV (eR st) (eR st) (eR st) (eR st)))<|Cs rfl rfl (fun st=>Ca (n:=1) (l:=[.func (.func 155) #[] #[pt b3 0,pt b2 0,pt b1 0,pt g 0]]) (DO:= #[.func (.func 155) #[] #[pt b3 0,pt b2 0,pt b1 0,pt g 0]]) (eR st) (eR st) AeJ x.bk rfl rfl (show 0+1≤1 by decide) (BJ rfl) rfl) ?_;rintro _ c0 aE;have cJ:=aO.gr aE.gr 0 rfl;refine wn<|Af<|Aa0<|BS<|Af<|Af<|Al ?_;have a9:=((((aW.bk.ext aN.gr).ext aD.gr).ext x.gr).gr aE.gr (aO.nq 3 0));refine wD (fun st=>As (v:=I aK) Bh (eR st) a9 rfl) ?_;replace f:=AF f;obtain⟨cK,f⟩:=f;refine wD (fun st=>BG (eR st) (eR st) cK)<|wM (v:=I 0) rfl<|wn<|AI ?_;replace f:=bind_some f;obtain⟨u,aP,f⟩:=f;refine BX (fun cL r aA=>(cL=.exit 0∧∃c d,∃j,Fo X0 21 r∧sl r 4=pt b3 0∧sl r 5=.bool u.1∧Hp p aC w [some g,some b3,some b2,some b1,j] aA∧Sl (Ao .i64) aA (ZZ p aC Z w.heap.size [some g,some b3,some b2,some b1,j]) c d u.2.1∧Bk aA b3 31 #[.slice c u.2.1.length d]∧aV u.2.2 aA (ZZ p aC Z w.heap.size [some g,some b3,some b2,some b1,j]) j)) ?cM ?cN
 case cM=>
  clear f;refine BW (fun b8 r aA=>∃a5,∃e,∃q,∃aB,∃m o,∃a,EM bD bE aK b8 a5 e q aB=some u∧Fo X0 21 r∧sl r 4=pt b3 0∧sl r 5=.bool a5∧sl r 6=pt g 0∧sl r 10=I (aK+1)∧sl r 11=I e∧Hp p aC w [some g,some b3,some b2,some b1,a] aA∧Sl (Ao .i64) aA (ZZ p aC Z w.heap.size [some g,some b3,some b2,some b1,a]) m o q∧Bk aA b1 3 #[I aK]∧Bk aA b2 148 #[aM]∧Bk aA b3 31 #[.slice m q.length o]∧Bk aA g 199 #[.func (.func 155) #[] #[pt b3 0,pt b2 0,pt b1 0,pt g 0]]∧aV aB aA (ZZ p aC Z w.heap.size [some g,some b3,some b2,some b1,a]) a) bE ?cO ?cP
  case cO=>
   intro st;have bQ:=(((aN.bk.ext aD.gr).ext x.gr).gr aE.gr (aO.nq 2 0));have bR:=((aD.bk.ext x.gr).gr aE.gr (aO.nq 1 0));have b9:aV bO c0 (ZZ p aC Z w.heap.size [some g,some b3,some b2,some b1,aS]) aS:=(i.mg (i.me (i.me (i.me (i.me b7 bF aW.gr (AA aW)) bG aN.gr (AA aN)) bH aD.gr (AA aD)) bI x.gr (AA x)) aO aE.gr 0 rfl 4 rfl rfl (aO.Co aE.gr 0 rfl));exact⟨false,(0:Int),([]:List Int),bO,none,0,aS,aP,qo st,sp st 4 rfl,sp st 5 rfl,sp st 6 rfl,sp st 10 rfl,sp st 11 rfl,cJ,(Sl.nil _ _ _),a9,bQ,bR,aE.bk,b9⟩
  case cP=>
   rintro(_|b8) c4 c5 ⟨a5,e,q,aB,m,o,a,aP,cA,aT,bS,bA,aX,aF,z,s,bJ,bK,aY,aZ,bB⟩
   ·exact absurd (show none=some _ from aP) (by simp)
   rw[EM.eq_2] at aP;have f:=aP;clear aP;refine ro cA<|cr<|wD (fun st=>B9 (ee st aF) (ee st aX))<|wn<|Af ?_;rcases Ae (decide (e<(aK+1))) with a0|a0
   ·replace f:=Ap f a0;refine Am rfl a0<|cn<|Af<|AI<|cr<|wM (v:=I e) aF<|wA (v:=I e) rfl<|wr<|wD (fun st=>As (v:=.func (.func 155) #[] #[pt b3 0,pt b2 0,pt b1 0,pt g 0]) Zk (ee st bA) aZ rfl)<|wM (v:=I e) rfl ?_;replace f:=bind_some f;obtain⟨a2,cQ,f⟩:=f;refine wE (fun st=>Oa (first:= #[]) (cap:= #[pt b3 0,pt b2 0,pt b1 0,pt g 0]) (vs:= #[.slice none 0 0,I 0,I e]) (all:= #[.slice none 0 0,I 0,I e,pt b3 0,pt b2 0,pt b1 0,pt g 0]) Zl (eR st) (Dx (eR st) (eR st) (eR st)) (by simp) (AgB bE bE ([]:List Int) 0 e q aK aB none 0 m o b3 b2 b1 g aM a (ZZ p aC Z w.heap.size [some g,some b3,some b2,some b1,a]) (ZZ p aC Z w.heap.size [some g,some b3,some b2,some b1,a]) _ i (Nat.le_trans cE z.sz) (z.EP (F':=p) (M:=[some b3,some b2,some b1,some g,a]) (C:=[]) [1,2,3,0,4] [] rfl ⟨rfl,rfl,rfl,rfl,rfl,trivial⟩ trivial (fun _ h=>.inl h)) (z.zz (F':=p) (M:=[some b3,some b2,some b1,some g,a]) (C:=[]) [1,2,3,0,4] [] ⟨rfl,rfl,rfl,rfl,rfl,trivial⟩ trivial (fun _ h=>.inl h)) (fun _ h=>h) (z.zz (F':=p) (M:=[some b3,some b2,some b1,some g,a]) (C:=[]) [1,2,3,0,4] [] ⟨rfl,rfl,rfl,rfl,rfl,trivial⟩ trivial (fun _ h=>.inl h)) (Sl.nil (Ao .i64) _ _) s aY bK bJ aZ bB a2 cQ)) ?_;rintro _ cR ⟨aQ,aR,a3,cS,rfl,bC,a7,bT,bU,bV,a8,cT⟩;have bY:=z.HY cS (BM [1,2,3,0,4] ⟨rfl,rfl,rfl,rfl,rfl,trivial⟩ (fun _ h=>h)) 4 rfl a8;have t:=a7.mv (z.call (M:=[some b3,some b2,some b1,some g,a3]) (Nat.le_refl _) (Ee ⟨.inl ⟨1,rfl⟩,.inl ⟨2,rfl⟩,.inl ⟨3,rfl⟩,.inl ⟨0,rfl⟩,.inr (hw a8 4),trivial⟩) (Fg (L:=[some g,some b3,some b2,some b1,a]) (y:=a3) 4 (gm 4)));have bL:aV a2.2.2 cR (ZZ p aC Z w.heap.size [some g,some b3,some b2,some b1,a3]) a3:=i.mz cT (z.call (M:=[some b3,some b2,some b1,some g,a3]) (Nat.le_refl _) (Ee ⟨.inl ⟨1,rfl⟩,.inl ⟨2,rfl⟩,.inl ⟨3,rfl⟩,.inl ⟨0,rfl⟩,.inr (hw a8 4),trivial⟩) (Fg (L:=[some g,some b3,some b2,some b1,a]) (y:=a3) 4 (gm 4)));refine wA (v:=.bool a2.1) rfl<|wr<|wM (v:=.bool a2.1) rfl<|wn ?_;rcases Ae (a2.1) with aG|aG
    ·replace f:=Ap f aG;refine Am rfl aG<|Rp<|Sj (by decide)<|Lr<|Lr ?_;obtain rfl:=oi f;refine BC (fun st=>?_);exact⟨rfl,aQ,aR,a3,qo st,sp st 4 aT,sp st 5 rfl,bY,t,bC,bL⟩
    ·replace f:=Aq f aG;refine An rfl aG<|Ct<|CS<|Al ?_;replace f:=AF f;obtain⟨cB,f⟩:=f;refine wD (fun st=>BG (ee st aF) (eR st) cB)<|wM (v:=I (e+1)) rfl<|AU ?_;refine Bi b8 (Nat.lt_succ_self _) (fun st=>?_);exact⟨a2.1,(e+1),a2.2.1,a2.2.2,aQ,aR,a3,f,qo st,sp st 4 aT,sp st 5 rfl,sp st 6 bA,sp st 10 aX,sp st 11 rfl,bY,t,bU,bT,bC,bV,bL⟩
   ·replace f:=Aq f a0;refine An rfl a0<|Dq ?_;obtain rfl:=oi f;refine BC (fun st=>?_);exact⟨rfl,m,o,a,qo st,sp st 4 aT,sp st 5 bS,z,s,aY,bB⟩
 case cN=>
  rintro cL c1 c6 (⟨rfl,c,d,j,bW,aH,bM,aU,aI,a4,bX⟩);refine lf bW<|AZ<|BS<|cr<|wD (fun st=>As (v:=.slice c u.2.1.length d) DB (ee st aH) a4 rfl)<|wM (v:=.bool u.1) bM<|Cs rfl rfl (fun st=>Ca (n:=1) (l:=[.slice c u.2.1.length d]) (DO:= #[.slice c u.2.1.length d]) (ee st aH) (eR st) ES a4 rfl rfl (show 0+1≤1 by decide) (BJ rfl) rfl) ?_;rintro _ cU aJ;have bZ:=aU.gr aJ.gr 1 rfl;refine wA (v:=.bool u.1) rfl<|wn<|Av<|Z0 ?_;obtain rfl:=oi f;refine Oc (N:=21) (v:=.slice c u.2.1.length d) (v':=.bool u.1) rfl ⟨_,aH,JN DB ((aJ.bk.cell 0).trans rfl)⟩ rfl ?_;have aL:=(aI.mv (aU.Co aJ.gr 1 rfl));have cC:aV u.2.2 cU (ZZ p aC Z w.heap.size [some g,some b3,some b2,some b1,j]) j:=(i.mg bX aU aJ.gr 1 rfl 4 rfl rfl (aU.Co aJ.gr 1 rfl));exact⟨j,b6 _ bZ.fin,⟨_,_,rfl,⟨_,_,rfl,aL.mv (BQ (CE [4] ⟨rfl,trivial⟩))⟩,rfl⟩,bZ.mq 4 [] (M:=[]) trivial cH,i.mz cC (BQ (CE [4] ⟨rfl,trivial⟩))⟩
theorem AgC bC aK d f g h i j k l m n o p q r s t u y z q1 e aL a(Z Za:Nat→Prop) w(bD:BL FN [some q1,some e,some a] w)(bE:∀b,Z b→¬FN b∧some b∉[some q1,some e,some a])(bK:∀b,Z b→Za b)(a4:∀b,Za b→¬FN b∧some b∉[some q1,some e,some a])(aP:Sl (Ao .i64) w Za f g aK)(aQ:Sl Az w Z h i d.AX)(aR:Sl (Bs (Ao .i64)) w Z j k d.AY)(aS:Sl AH w Z l m d.AT)(aT:Sl Ba w Z n o d.Bx)(aU:Sl Bc w Z p q d.Bw)(aV:Sl Bp w Z r s d.BT)(aW:Sl (Ao .i64) w Z t u d.weights)(aX:Sl Ep w Z y z d.Dg)(bF:Rz w Z (some ⟨aL,0,none⟩) (E4 h i j k l m n o p q r s t u y z a d))(a2:Bk w q1 174 #[.func (.func 121) #[] #[]])(bG:EE (fun x:Int=>I x) w a 2 d.known)(aM:Bk w e 152 #[pt aL 0]) a5(aA:GA bC aK d=some a5):
 B7 Tryz.prog 122 #[.slice f aK.length g,pt q1 0,pt e 0] w (fun v w'=>Dc (FU FN [some q1,some e,some a]) w w'∧Cm.R w' (zf Z w [some q1,some e,some a]) v a5.1∧Bk w' q1 174 #[.func (.func 121) #[] #[]]∧EE (fun x:Int=>I x) w' a 2 a5.2∧Bk w' e 152 #[pt aL 0]):=by
 unfold GA at aA;refine rq (N:=10) Tryz.func122 fun bL ha bM=>?_;have a7:=sA 0 ha;have a8:=sA 1 ha;have a9:=sA 2 ha;clear ha;obtain⟨bO,bN,c,a3,bA,bB⟩:=Pk bD bE a4;have aB:=aP.mv (BV (L:=[some q1,some e,some a]) bA w);have ⟨aC,aD,aE,aF,aG,aH,aI,aJ⟩:=GN aQ aR aS aT aU aV aW aX (BV (L:=[some q1,some e,some a]) a3 w);have aY:=bF.mv (BV (L:=[some q1,some e,some a]) a3 w);refine cr<|wA (v:=.bool false) rfl<|wr<|wD (fun st=>Ad (ee st a8) (Abr _ _))<|wD (fun st=>As (v:=.func (.func 121) #[] #[]) Ad3 (eR st) a2 rfl)<|wD (fun st=>As (v:=pt aL 0) H7 (ee st a9) aM rfl)<|wM (v:=.slice f aK.length g) a7 ?_;replace aA:=bind_some aA;obtain⟨bH,bI,aA⟩:=aA;refine wE (fun st=>Aj VX (eR st) (CN (eR st) (eR st)) (AbH bC d aK h i j k l m n o p q r s t u y z f g aL a (ZC FN [some a]) _ (c.EP (F':=FN) (M:=[some a]) (C:=[]) [2] [] rfl ⟨rfl,trivial⟩ trivial eL) I9 (aC.mv (c.mz (F':=FN) (M:=[some a]) (C:=[]) [2] [] ⟨rfl,trivial⟩ trivial eL)) (aD.mv (c.mz (F':=FN) (M:=[some a]) (C:=[]) [2] [] ⟨rfl,trivial⟩ trivial eL)) (aE.mv (c.mz (F':=FN) (M:=[some a]) (C:=[]) [2] [] ⟨rfl,trivial⟩ trivial eL)) (aF.mv (c.mz (F':=FN) (M:=[some a]) (C:=[]) [2] [] ⟨rfl,trivial⟩ trivial eL)) (aG.mv (c.mz (F':=FN) (M:=[some a]) (C:=[]) [2] [] ⟨rfl,trivial⟩ trivial eL)) (aH.mv (c.mz (F':=FN) (M:=[some a]) (C:=[]) [2] [] ⟨rfl,trivial⟩ trivial eL)) (aI.mv (c.mz (F':=FN) (M:=[some a]) (C:=[]) [2] [] ⟨rfl,trivial⟩ trivial eL)) (aJ.mv (c.mz (F':=FN) (M:=[some a]) (C:=[]) [2] [] ⟨rfl,trivial⟩ trivial eL)) (aY.mv (c.mz (F':=FN) (M:=[some a]) (C:=[]) [2] [] ⟨rfl,trivial⟩ trivial eL)) (aB.mv (c.mz (F':=FN) (M:=[some a]) (C:=[]) [2] [] ⟨rfl,trivial⟩ trivial eL)) bG bH bI)) ?_;rintro _ w2 ⟨aN,rfl,aZ⟩;have bJ:=c.Ek aN (BM [2] ⟨rfl,trivial⟩ eL);refine wA (v:=.bool bH.1) rfl<|wn<|Av ?_;obtain rfl:=oi aA;refine Ay rfl rfl ?_;have a0:=(a2.Ek aN (c.EU 0 rfl [2] rfl ⟨rfl,trivial⟩ eL));have aO:=(aM.Ek aN (c.EU 1 rfl [2] rfl ⟨rfl,trivial⟩ eL));exact⟨bB _ bJ.fin,rfl,a0,aZ,aO⟩
theorem a69 cU aG aI aJ aK aL aM aN aO aP aB aC aQ aR(Z:Nat→Prop) w(dC:Sl Az w Z aI aJ aG.Ag)(dD:Sl (Bs (Ao .i64)) w Z aK aL aG.Ab)(dE:Sl AH w Z aM aN aG.Ak)(dF:Sl Ba w Z aO aP aG.AJ)(dG:Sl Bc w Z aB aC aG.Aw)(dH:Sl Bp w Z aQ aR aG.Ar) eI(c:I3 cU aG=some eI):
 B7 Tryz.prog 69 #[.agg (Ai aI aJ aK aL aM aN aO aP aB aC aQ aR aG).toArray] w (fun v w'=>Ext w w'∧(OM (Fq (Ao .i64)) (DT .i64)).R w' (zf Z w []) v eI):=by
 unfold I3 at c;refine rq (N:=29) Tryz.func69 fun e2 ha e3=>?_;have dY:=sA 0 ha;clear ha;have dM:Hp FN [] w [] w:=Hp.start (BL.none w);have ⟨cF,cG,cH,cI,cJ,cK⟩:=Cp dC dD dE dF dG dH (Bd (Z:=Z) (L:=[]) w);refine cr<|wE (fun st=>BP (v:=.agg (Ai aI aJ aK aL aM aN aO aP aB aC aQ aR aG).toArray) (cs:=(Ai aI aJ aK aL aM aN aO aP aB aC aQ aR aG).toArray) (ee st dY) rfl) ?_;rintro _ w1 ⟨b1,rfl,bP⟩;have bQ:=dM.nb bP;have eV:=dM.BU bP;refine wA (v:=.slice none 0 0) rfl<|wA (v:=I 0) rfl<|wr<|wD (fun st=>AK (l:=(Ai aI aJ aK aL aM aN aO aP aB aC aQ aR aG)) FY (eR st) bP.bk rfl rfl) ?_;have ⟨cL,cM,cN,cO,cP,cQ⟩:=Cp cF cG cH cI cJ cK (AA bP);replace c:=bind_some c;obtain⟨aD,eJ,c⟩:=c;refine wE (fun st=>Aj OB (eR st) (CN (eR st) (eR st)) (R7 cU aG true aI aJ aK aL aM aN aO aP aB aC aQ aR (zf Z w [some b1]) _ cL cM cN cO cP cQ aD eJ)) ?_;rintro _ eZ ⟨cV,⟨e7,rfl,eK⟩⟩;rcases Ib.cases eK with⟨cW,rfl⟩|⟨d,cW,b3,a,aU,aV,aW,aX,aY,aZ,a0,a2,a3,a4,a5,a7,a8,a9,bA,bB,rfl,bJ,eM,eN,cX,cY,cZ,c0,c1,c2,c3,c4⟩
 ·replace c:=Qh cW c;have dN:=bQ.ext cV;refine wM (v:=.tuple #[.pointer none,I aD.2]) rfl<|wD (fun st=>Bz (v:=.pointer none) (eR st) rfl)<|wD (fun st=>Bz (v:=I aD.2) (eR st) rfl)<|wE (fun st=>CR (cs:= #[.pointer none]) QM rfl) ?_;rintro _ e8 ⟨e9,rfl,c5⟩;have eO:=dN.nb c5;have eW:=dN.BU c5;refine Cs rfl rfl (fun st=>Ca (n:=1) (l:=[.pointer none]) (DO:= #[.pointer none]) (eR st) (eR st) S2 c5.bk rfl rfl (show 0+1≤1 by decide) (BJ rfl) rfl) ?_;rintro _ fA eP;have eQ:=eO.gr eP.gr 0 rfl;refine wA (v:=I aD.2) rfl<|wn<|Af<|cr<|wM (v:=I aD.2) rfl<|wD (fun st=>Db (eR st) (eR st))<|wn ?_;rcases Ae (aD.2 !=0) with cE|cE
  ·replace c:=Ap c cE;refine Am rfl cE<|cr<|wM (v:=I aD.2) rfl<|wA (v:=.slice none 0 0) rfl<|wA (v:=I aD.2) rfl<|wn<|Av<|AG ?_;obtain rfl:=oi c;refine D1 rfl rfl rfl ?_;exact⟨eQ.AS,⟨_,_,rfl,⟨_,_,rfl,Sl.nil _ _ _⟩,rfl⟩⟩
  ·replace c:=Aq c cE;exact absurd c (by simp)
 ·replace c:=Qi cW c;have dO:=bQ.Mi cV bJ;have dI:w.heap.size≤b3:=Nat.le_trans bQ.sz (bJ.mem _ (by simp)).1;have eC:w.heap.size≤a:=Nat.le_trans bQ.sz (bJ.mem _ (by simp)).1;have ⟨b5,b6,b7,b8,b9,cA,cB,cC⟩:=GN cX cY cZ c0 c1 c2 c3 c4 (bQ.Ov bJ);have dP:=dO.erase 0;have dZ:Rz eZ (zf Z w [some a,some b1]) (some ⟨b3,0,none⟩) (E4 aU aV aW aX aY aZ a0 a2 a3 a4 a5 a7 a8 a9 bA bB a d):=Ow eM (dO.lit 0 rfl dI) rfl;refine wM (v:=.tuple #[pt b3 0,I aD.2]) rfl<|wD (fun st=>Bz (v:=pt b3 0) (eR st) rfl)<|wD (fun st=>Bz (v:=I aD.2) (eR st) rfl)<|wE (fun st=>CR (cs:= #[.pointer none]) QM rfl) ?_;rintro _ fB ⟨aH,rfl,bD⟩;have bR:=dP.nb bD;have eX:=dP.BU bD;refine Cs rfl rfl (fun st=>Ca (n:=1) (l:=[pt b3 0]) (DO:= #[pt b3 0]) (eR st) (eR st) S2 bD.bk rfl rfl (show 0+1≤1 by decide) (BJ rfl) rfl) ?_;rintro _ fC bH;have c6:=bR.gr bH.gr 0 rfl;refine wA (v:=I aD.2) rfl<|wn<|Af<|cr<|wM (v:=I aD.2) rfl<|wD (fun st=>Db (eR st) (eR st))<|wn ?_;rcases Ae (aD.2 !=0) with bE|bE
  ·replace c:=Ap c bE;refine Am rfl bE<|cr<|wM (v:=I aD.2) rfl<|wA (v:=.slice none 0 0) rfl<|wA (v:=I aD.2) rfl<|wn<|Av<|AG ?_;obtain rfl:=oi c;refine D1 rfl rfl rfl ?_;exact⟨c6.AS,⟨_,_,rfl,⟨_,_,rfl,Sl.nil _ _ _⟩,rfl⟩⟩
  ·replace c:=Aq c bE;refine An rfl bE<|cn<|cr<|wD (fun st=>Fp (vs:= #[(0,.func (.func 121) #[] #[])]) (v:=.agg #[.func (.func 121) #[] #[]]) (I5 (eR st)) (by kernel_rfl))<|wE (fun st=>CR (cs:= #[.nilFunc]) Abs rfl) ?_;rintro _ e4 ⟨e,rfl,g⟩;have bI:=c6.nb g;have eS:=c6.BU g;refine Cs rfl rfl (fun st=>Ca (n:=1) (l:=[.func (.func 121) #[] #[]]) (DO:= #[.func (.func 121) #[] #[]]) (eR st) (eR st) AeK g.bk rfl rfl (show 0+1≤1 by decide) (BJ rfl) rfl) ?_;rintro _ eT aE;have cD:=bI.gr aE.gr 0 rfl;refine wr<|wD (fun st=>Ad (eR st) (Mf _ _)) ?_;have c7:=(((((bP.bk.ext cV).ext bD.gr).gr bH.gr (bR.nq 2 0)).ext g.gr).gr aE.gr (bI.nq 3 0));refine wD (fun st=>As (v:=.slice aB aG.Aw.length aC) Ni (eR st) c7 rfl)<|wD (fun st=>Be Tryz.underlying50 (eR st))<|wD (fun st=>F4 (vs:= #[]) (us:= #[pt e 0,pt aH 0]) Gj (CN (eR st) (eR st))) ?_;have d0:=cD.EP (F':=FN) (M:=[some e,some aH,some a]) (C:=[]) [0,1,2] [] rfl ⟨rfl,rfl,rfl,trivial⟩ trivial (fun k hk=>.inl (eL k hk));have dJ:Cb Tryz.prog (.func (.func 122) #[] #[pt e 0,pt aH 0]) (FU FN [some e,some aH,some a]) eT.heap.size (fun(st:(List (List Int×Int))) aS bK o=>o=none∧Bk aS e 174 #[.func (.func 121) #[] #[]]∧EE (fun x:Int=>I x) aS a 2 st∧Bk aS aH 152 #[pt b3 0]∧Rz aS bK (some ⟨b3,0,none⟩) (E4 aU aV aW aX aY aZ a0 a2 a3 a4 a5 a7 a8 a9 bA bB a d)∧Sl Az aS bK aU aV d.AX∧Sl (Bs (Ao .i64)) aS bK aW aX d.AY∧Sl AH aS bK aY aZ d.AT∧Sl Ba aS bK a0 a2 d.Bx∧Sl Bc aS bK a3 a4 d.Bw∧Sl Bp aS bK a5 a7 d.BT∧Sl (Ao .i64) aS bK a8 a9 d.weights∧Sl Ep aS bK bA bB d.Dg) (v1 (Fq (Ao .i64))) Cm (fun(st:(List (List Int×Int))) (x:(List Int))=>(GA cU x (⟨d.AX,d.AY,d.AT,d.CV,d.Bx,d.Bw,d.BT,d.weights,d.Dg,st⟩:CZ)).bind fun r=>some (r.1,r.2)):=by
    refine⟨rfl,rfl,cD.N2 [0,1,2] ⟨rfl,rfl,rfl,trivial⟩ eL,?_,?_,?_⟩
    ·intro st x r w1 d1 eU o vs hn bF i c8 aT e0;obtain⟨rfl,bL,bM,bC,bG,j,m,p,q,s,t,u,y⟩:=c8;obtain⟨_,rfl,⟨d2,d3,rfl,dK⟩⟩:=aT;obtain⟨e1,h1,h2⟩:=bind_some e0;obtain rfl:=Option.some.inj h2;refine(Ip Ad4 rfl (AgC cU x (⟨d.AX,d.AY,d.AT,d.CV,d.Bx,d.Bw,d.BT,d.weights,d.Dg,st⟩:CZ) d2 d3 aU aV aW aX aY aZ a0 a2 a3 a4 a5 a7 a8 a9 bA bB e aH b3 a d1 eU w1 (d0.grow hn) (fun b hb=>Jm (i b (bF b hb)).1) bF (fun b hb=>Jm (i b hb).1) dK j m p q s t u y bG bL bM bC e1 h1)).mono ?_;rintro v w2 ⟨aT,d4,d5,d6,dL⟩;exact⟨none,aT.UQ,(fun _ h=>by cases h),d4,⟨rfl,d5,d6,dL,(bG.mv (Ff (Ia aT (fun b hb=>Gm (i b (bF b hb)))))),(j.mv (Ff (Ia aT (fun b hb=>Gm (i b (bF b hb)))))),(m.mv (Ff (Ia aT (fun b hb=>Gm (i b (bF b hb)))))),(p.mv (Ff (Ia aT (fun b hb=>Gm (i b (bF b hb)))))),(q.mv (Ff (Ia aT (fun b hb=>Gm (i b (bF b hb)))))),(s.mv (Ff (Ia aT (fun b hb=>Gm (i b (bF b hb)))))),(t.mv (Ff (Ia aT (fun b hb=>Gm (i b (bF b hb)))))),(u.mv (Ff (Ia aT (fun b hb=>Gm (i b (bF b hb)))))),(y.mv (Ff (Ia aT (fun b hb=>Gm (i b (bF b hb))))))⟩⟩
    ·intro st w1 w2 d1 fD o c8 hm hb;obtain⟨rfl,bL,bM,bC,bG,j,m,p,q,s,t,u,y⟩:=c8;exact⟨rfl,bL.Mh (hb e (.inl (.inr (gm 0)))),bM.Mh (hb a (.inl (.inr (gm 2)))),bC.Mh (hb aH (.inl (.inr (gm 1)))),bG.mv hm,j.mv hm,m.mv hm,p.mv hm,q.mv hm,s.mv hm,t.mv hm,u.mv hm,y.mv hm⟩
    ·intro st w1 d1 o c8 k hk;obtain⟨rfl,bL,bM,bC,bG,j,m,p,q,s,t,u,y⟩:=c8;cases hk
   have bN:=cD.nil;replace c:=bind_some c;obtain⟨f,d7,c⟩:=c;have cR:=aE.bk;have c9:=((((eN.ext bD.gr).gr bH.gr (bR.nq 1 0)).ext g.gr).gr aE.gr (bI.nq 2 0));have dA:=((bH.bk.ext g.gr).gr aE.gr (bI.nq 1 0));have cS:=(((((dZ.mv (AA bD)).mv (bR.Co bH.gr 0 rfl)).mv (AA g)).mv (bI.Co aE.gr 0 rfl)).mv B8);have ⟨bS,bT,bU,bV,bW,bX,bY,bZ⟩:=GN b5 b6 b7 b8 b9 cA cB cC (mt (AV 0) (mt (AA bD) (mt (bR.Co bH.gr 0 rfl) (mt (AA g) (mt (bI.Co aE.gr 0 rfl) B8)))));refine wE (fun st=>Aj Zm (eR st) (CN (eR st) (eR st)) (AeY cU (aG.Aw.length:Int) d.known (.func (.func 122) #[] #[pt e 0,pt aH 0]) none (zf Z w [none,some e,some aH,some a,some b1]) _ dJ (Nat.le_refl _) (bN.EP (F':=(FU FN [some e,some aH,some a])) (M:=[none]) (C:=[some e,some aH,some a]) [0] [1,2,3] rfl ⟨rfl,trivial⟩ ⟨rfl,rfl,rfl,trivial⟩ (CG eL)) (bN.zz (F':=(FU FN [some e,some aH,some a])) (M:=[none]) (C:=[some e,some aH,some a]) [0] [1,2,3] ⟨rfl,trivial⟩ ⟨rfl,rfl,rfl,trivial⟩ (CG eL)) ⟨rfl,cR,c9,dA,cS,bS,bT,bU,bV,bW,bX,bY,bZ⟩ f d7)) ?_;rintro _ e5 ⟨e6,d8,⟨_,_,rfl,⟨z,aA,rfl,cT⟩,rfl⟩,eY,d9⟩;obtain⟨rfl,eD,eE,eA,eF,dQ,dR,dS,dT,dU,dV,dW,dX⟩:=d9;have eB:=bN.Ek (Dc.cl (M1:=[some e,some aH,some a]) (M2:=[none]) d8) (BM [1,2,3,0] ⟨rfl,rfl,rfl,rfl,trivial⟩ eL);have b4:=cT.mv (bN.call (M:=[none]) (Nat.le_refl _) (Ee ⟨.inl ⟨0,rfl⟩,trivial⟩) (fun _ h=>.inl h));have dB:=eB.erase 0;refine wM (v:=.tuple #[.slice z f.1.length aA,.bool f.2.1]) rfl<|wD (fun st=>Bz (v:=.slice z f.1.length aA) (eR st) rfl)<|wD (fun st=>Bz (v:=.bool f.2.1) (eR st) rfl)<|wA (v:=.slice z f.1.length aA) rfl<|wA (v:=.bool f.2.1) rfl<|wn<|Af<|cr<|wM (v:=.bool f.2.1) rfl<|wD (fun st=>CJ (eR st))<|wn ?_;rcases Ae (!f.2.1) with aF|aF
   ·replace c:=Ap c aF;have eG:f.2.1=false:=by simpa using aF
    refine Am rfl aF<|cr<|wA (v:=.slice none 0 0) rfl<|wA (v:=I 7) rfl<|wn<|Av<|AG ?_;obtain rfl:=oi c;refine D1 rfl rfl rfl ?_;exact⟨dB.AS,⟨_,_,rfl,⟨_,_,rfl,Sl.nil _ _ _⟩,rfl⟩⟩
   ·replace c:=Aq c aF;have eH:f.2.1=true:=by simpa using aF
    refine An rfl aF<|cn<|cr<|wM (v:=.slice z f.1.length aA) rfl<|wA (v:=.slice z f.1.length aA) rfl<|wA (v:=I 0) rfl<|wn<|Av ?_;obtain rfl:=oi c;refine D1 rfl rfl rfl ?_;have bO:=(b4.mv (AV 0));exact⟨dB.AS,⟨_,_,rfl,⟨_,_,rfl,bO.mv (BQ (CE [] trivial))⟩,rfl⟩⟩
set_option maxHeartbeats 4000000 in
theorem a42 dF f m o p q r s t u y z h i(Z:Nat→Prop) w(dX:Sl Az w Z m o f.Ag)(dY:Sl (Bs (Ao .i64)) w Z p q f.Ab)(dZ:Sl AH w Z r s f.Ak)(d0:Sl Ba w Z t u f.AJ)(d1:Sl Bc w Z y z f.Aw)(d2:Sl Bp w Z h i f.Ar) eP(b:Jz dF f=some eP):
 B7 Tryz.prog 42 #[.agg (Ai m o p q r s t u y z h i f).toArray] w (fun v w'=>Ext w w'∧(OM (DT .i64) (DT .i64)).R w' (zf Z w []) v eP):=by
 unfold Jz at b;refine rq (N:=35) Tryz.func42 fun e6 ha e7=>?_;have eE:=sA 0 ha;clear ha;have eB:Hp FN [] w [] w:=Hp.start (BL.none w);have ⟨cX,cY,cZ,c0,c1,c2⟩:=Cp dX dY dZ d0 d1 d2 (Bd (Z:=Z) (L:=[]) w);refine cr<|wE (fun st=>BP (v:=.agg (Ai m o p q r s t u y z h i f).toArray) (cs:=(Ai m o p q r s t u y z h i f).toArray) (ee st eE) rfl) ?_;rintro _ w1 ⟨b1,rfl,bN⟩;have bO:=eB.nb bN;have e4:=eB.BU bN;refine wA (v:=I 0) rfl<|wA (v:=I 0) rfl<|wr<|wD (fun st=>AK (l:=(Ai m o p q r s t u y z h i f)) FY (eR st) bN.bk rfl rfl) ?_;have ⟨bB,bC,bD,bE,bF,bG⟩:=Cp cX cY cZ c0 c1 c2 (AA bN);replace b:=bind_some b;obtain⟨aF,eQ,b⟩:=b;refine wE (fun st=>Aj VR (eR st) (CN (eR st) (eR st)) (AbG dF f true m o p q r s t u y z h i (zf Z w [some b1]) _ bB bC bD bE bF bG aF eQ)) ?_;rintro _ fB ⟨cT,⟨fC,rfl,eS⟩⟩;rcases Ib.cases eS with⟨dG,rfl⟩|⟨d,dG,b3,a,aH,aI,aJ,aK,aL,aM,aN,aO,aP,aQ,d3,d4,aR,aS,aT,aU,rfl,a7,eT,eU,dH,dI,dJ,dK,dL,dM,dN,dO⟩
 ·replace b:=Qh dG b;have eV:=bO.ext cT;refine wM (v:=.tuple #[.pointer none,I aF.2]) rfl<|wD (fun st=>Bz (v:=.pointer none) (eR st) rfl)<|wD (fun st=>Bz (v:=I aF.2) (eR st) rfl)<|wA (v:=.pointer none) rfl<|wA (v:=I aF.2) rfl<|wn<|Af<|cr<|wM (v:=I aF.2) rfl<|wD (fun st=>Db (eR st) (eR st))<|wn ?_;rcases Ae (aF.2 !=0) with cU|cU
  ·replace b:=Ap b cU;refine Am rfl cU<|cr<|wM (v:=I aF.2) rfl<|wA (v:=I 0) rfl<|wA (v:=I aF.2) rfl<|wn<|Av<|AG ?_;obtain rfl:=oi b;refine D1 rfl rfl rfl ?_;exact⟨eV.AS,⟨_,_,rfl,rfl,rfl⟩⟩
  ·replace b:=Aq b cU;exact absurd b (by simp)
 ·replace b:=Qi dG b;have eC:=bO.Mi cT a7;have d5:w.heap.size≤b3:=Nat.le_trans bO.sz (a7.mem _ (by simp)).1;have eM:w.heap.size≤a:=Nat.le_trans bO.sz (a7.mem _ (by simp)).1;have ⟨bX,bY,bZ,b4,b5,b6,b7,b8⟩:=GN dH dI dJ dK dL dM dN dO (bO.Ov a7);refine wM (v:=.tuple #[pt b3 0,I aF.2]) rfl<|wD (fun st=>Bz (v:=pt b3 0) (eR st) rfl)<|wD (fun st=>Bz (v:=I aF.2) (eR st) rfl)<|wA (v:=pt b3 0) rfl<|wA (v:=I aF.2) rfl<|wn<|Af<|cr<|wM (v:=I aF.2) rfl<|wD (fun st=>Db (eR st) (eR st))<|wn ?_;rcases Ae (aF.2 !=0) with bP|bP
  ·replace b:=Ap b bP;refine Am rfl bP<|cr<|wM (v:=I aF.2) rfl<|wA (v:=I 0) rfl<|wA (v:=I aF.2) rfl<|wn<|Av<|AG ?_;obtain rfl:=oi b;refine D1 rfl rfl rfl ?_;exact⟨eC.AS,⟨_,_,rfl,rfl,rfl⟩⟩
  ·replace b:=Aq b bP;refine An rfl bP<|cn<|Af<|cr<|wD (fun st=>Ad (eR st) (Oz _ _)) ?_;have cV:=(bN.bk.ext cT);refine wD (fun st=>As (v:=.slice h f.Ar.length i) QL (eR st) cV rfl)<|wD (fun st=>Be Tryz.underlying51 (eR st))<|wM (v:=I 0) rfl<|wn<|AI ?_;replace b:=bind_some b;obtain⟨eF,bH,b⟩:=b;refine BX (fun eG aD j=>(eG=.ret∧∃a8,eF=.inl a8∧∃(bQ:Option Addr) (bR:Nat),Fo X0 35 aD∧sl aD 2=I a8.1∧sl aD 3=I a8.2.1∧Hp FN [] w [some b3,some a,some b1] j)∨(eG=.exit 0∧∃a8,eF=.inr a8∧∃(bS:Option Addr) (bT:Nat),Fo X0 35 aD∧Hp FN [] w [some b3,some a,some b1] j)) ?eW ?eX
   case eW=>
    clear b;refine BW (fun eH aD j=>∃c,∃aA,∃g,∃aB aC,H2 dF f d eH c aA g=some eF∧Fo X0 35 aD∧sl aD 1=pt b1 0∧sl aD 4=pt b3 0∧sl aD 17=I (f.Ar.length:Int)∧sl aD 18=I c∧Hp FN [] w [some b3,some a,some b1] j∧Sl Bp j (zf Z w [some b3,some a,some b1]) aB aC aA∧Bk j b1 53 (Ai m o p q r s t u y z h i f).toArray∧Sl Az j (zf Z w [some b3,some a,some b1]) m o f.Ag∧Sl (Bs (Ao .i64)) j (zf Z w [some b3,some a,some b1]) p q f.Ab∧Sl AH j (zf Z w [some b3,some a,some b1]) r s f.Ak∧Sl Ba j (zf Z w [some b3,some a,some b1]) t u f.AJ∧Sl Bc j (zf Z w [some b3,some a,some b1]) y z f.Aw∧Sl Bp j (zf Z w [some b3,some a,some b1]) h i f.Ar∧Sl Az j (zf Z w [some b3,some a,some b1]) aH aI d.AX∧Sl (Bs (Ao .i64)) j (zf Z w [some b3,some a,some b1]) aJ aK d.AY∧Sl AH j (zf Z w [some b3,some a,some b1]) aL aM d.AT∧Sl Ba j (zf Z w [some b3,some a,some b1]) aN aO d.Bx∧Sl Bc j (zf Z w [some b3,some a,some b1]) aP aQ d.Bw∧Sl (Ao .i64) j (zf Z w [some b3,some a,some b1]) aR aS d.weights∧Sl Ep j (zf Z w [some b3,some a,some b1]) aT aU d.Dg∧EE (fun x:Int=>I x) j a 2 g∧Bk j b3 162 #[.slice aH d.AX.length aI,.slice aJ d.AY.length aK,.slice aL d.AT.length aM,I d.CV,.slice aN d.Bx.length aO,.slice aP d.Bw.length aQ,.slice aB aA.length aC,.slice aR d.weights.length aS,.slice aT d.Dg.length aU,.map (some a)]) dF ?eY ?eZ
    case eY=>
     intro st;have ⟨c3,c4,c5,c6,c7,c8⟩:=Cp bB bC bD bE bF bG (DY (Ac cT) a7);exact⟨(0:Int),d.BT,d.known,d3,d4,bH,qo st,sp st 1 rfl,sp st 4 rfl,sp st 17 rfl,sp st 18 rfl,eC,b6,cV,c3,c4,c5,c6,c7,c8,bX,bY,bZ,b4,b5,b7,b8,eU,eT⟩
    case eZ=>
     rintro(_|eH) e8 e0 ⟨c,aA,g,aB,aC,bH,eI,cW,bL,bU,a9,aW,d6,bV,b9,cA,cB,cC,cD,bA,aX,aY,aZ,a0,a2,a3,a4,dP,dQ⟩
     ·exact absurd (show none=some _ from bH) (by simp)
     rw[H2.eq_2] at bH;have b:=bH;clear bH;refine ro eI<|cr<|wD (fun st=>B9 (ee st a9) (ee st bU))<|wn<|Af ?_;rcases Ae (decide (c<(f.Ar.length:Int))) with bW|bW
     ·replace b:=Ap b bW;refine Am rfl bW<|cn<|Af<|AI<|cr<|wM (v:=I c) a9<|wA (v:=I c) rfl<|wr<|wM (v:=pt b3 0) bL<|wD (fun st=>Ad (ee st cW) (Oz _ _))<|wD (fun st=>As (v:=.slice h f.Ar.length i) QL (eR st) bV rfl)<|wM (v:=I c) rfl ?_;replace b:=AF b;obtain⟨e1,b⟩:=b;refine wD (fun st=>BG (eR st) (eR st) e1) ?_;replace b:=O9 b;obtain⟨e2,b⟩:=b;refine wE (fun st=>UR (e:=Bp) (Z:=_) (xs:=f.Ar) Tryz.underlying51 S1 rfl (eR st) Vv (Xg (eR st)) bA e2) ?_;rintro _ e0 ⟨⟨bI,bJ,rfl,dR⟩,rfl⟩;refine wD (fun st=>EO (eR st))<|wD (fun st=>Ad (eR st) (Abt _ _))<|wD (fun st=>Ad (eR st) (Oz _ _))<|Cs rfl rfl (fun st=>Ca (n:=1) (l:=[.slice bI ((HL f.Ar (0:Int) (c+1)).length) bJ]) (DO:= #[.slice aH d.AX.length aI,.slice aJ d.AY.length aK,.slice aL d.AT.length aM,I d.CV,.slice aN d.Bx.length aO,.slice aP d.Bw.length aQ,.slice bI ((HL f.Ar (0:Int) (c+1)).length) bJ,.slice aR d.weights.length aS,.slice aT d.Dg.length aU,.map (some a)]) (eR st) (eR st) Ach dQ rfl rfl (show 6+1≤10 by decide) (BJ rfl) rfl) ?_;rintro _ e3 k;have a5:=aW.gr k.gr 0 rfl;refine wr<|wM (v:=pt b3 0) bL ?_;have aE:=a5.erase 0;have d7:Rz e3 (zf Z w [some a,some b1]) (some ⟨b3,0,none⟩) [.slice aH d.AX.length aI,.slice aJ d.AY.length aK,.slice aL d.AT.length aM,I d.CV,.slice aN d.Bx.length aO,.slice aP d.Bw.length aQ,.slice bI ((HL f.Ar (0:Int) (c+1)).length) bJ,.slice aR d.weights.length aS,.slice aT d.Dg.length aU,.map (some a)]:=Ow k.bk (a5.lit 0 rfl d5) rfl;have ⟨cE,cF,cG,cH,cI,dS,cJ,cK⟩:=GN aX aY aZ a0 a2 dR a3 a4 (mt (aW.Co k.gr 0 rfl) (AV 0));have d8:=(dP.gr k.gr (aW.nq 1 0));replace b:=bind_some b;obtain⟨bK,eJ,b⟩:=b;refine wE (fun st=>Aj VS (eR st) (CN (eR st) (eR st)) (AbF dF (⟨d.AX,d.AY,d.AT,d.CV,d.Bx,d.Bw,HL f.Ar (0:Int) (c+1),d.weights,d.Dg,g⟩:CZ) ([]:List Int) aH aI aJ aK aL aM aN aO aP aQ bI bJ aR aS aT aU none 0 b3 a (ZC FN [some a]) _ (aE.EP (F':=FN) (M:=[some a]) (C:=[]) [0] [] rfl ⟨rfl,trivial⟩ trivial eL) I9 (cE.mv (aE.mz (F':=FN) (M:=[some a]) (C:=[]) [0] [] ⟨rfl,trivial⟩ trivial eL)) (cF.mv (aE.mz (F':=FN) (M:=[some a]) (C:=[]) [0] [] ⟨rfl,trivial⟩ trivial eL)) (cG.mv (aE.mz (F':=FN) (M:=[some a]) (C:=[]) [0] [] ⟨rfl,trivial⟩ trivial eL)) (cH.mv (aE.mz (F':=FN) (M:=[some a]) (C:=[]) [0] [] ⟨rfl,trivial⟩ trivial eL)) (cI.mv (aE.mz (F':=FN) (M:=[some a]) (C:=[]) [0] [] ⟨rfl,trivial⟩ trivial eL)) (dS.mv (aE.mz (F':=FN) (M:=[some a]) (C:=[]) [0] [] ⟨rfl,trivial⟩ trivial eL)) (cJ.mv (aE.mz (F':=FN) (M:=[some a]) (C:=[]) [0] [] ⟨rfl,trivial⟩ trivial eL)) (cK.mv (aE.mz (F':=FN) (M:=[some a]) (C:=[]) [0] [] ⟨rfl,trivial⟩ trivial eL)) (d7.mv (aE.mz (F':=FN) (M:=[some a]) (C:=[]) [0] [] ⟨rfl,trivial⟩ trivial eL)) (Sl.nil (Ao .i64) _ _) d8 bK eJ)) ?_;rintro _ e9 ⟨aV,rfl,dT⟩;have eD:=a5.Ek aV (BM [1] ⟨rfl,trivial⟩ eL);refine wD (fun st=>CJ (eR st))<|wn ?_;rcases Ae (!bK.1) with aG|aG
      ·replace b:=Ap b aG;have eN:bK.1=false:=by simpa using aG
       refine Am rfl aG<|cr<|wM (v:=I c) rfl<|wA (v:=I c) rfl<|wA (v:=I 0) rfl<|wn<|Av<|Dd<|AG ?_;obtain rfl:=oi b;refine BC (fun st=>?_);exact .inl ⟨rfl,(c,(0:Int),HL f.Ar (0:Int) (c+1),bK.2),rfl,bI,bJ,qo st,sp st 2 rfl,sp st 3 rfl,eD⟩
      ·replace b:=Aq b aG;have eO:bK.1=true:=by simpa using aG
       refine An rfl aG<|Ct<|CS<|Al ?_;replace b:=AF b;obtain⟨eK,b⟩:=b;refine wD (fun st=>BG (ee st a9) (eR st) eK)<|wM (v:=I (c+1)) rfl<|AU ?_;have dU:=((dR.mv (aW.Co k.gr 0 rfl)).mv (a5.GD aV (BM [1] ⟨rfl,trivial⟩ eL)));have d9:=((bV.gr k.gr (aW.nq 2 0)).Ek aV (a5.EU 2 rfl [1] rfl ⟨rfl,trivial⟩ eL));have ⟨c9,dA,dB,dC,dD,dE,cL,cM,cN,cO⟩:=Aa7 b9 cA cB cC cD bA aX aY aZ a0 (mt (aW.Co k.gr 0 rfl) (a5.GD aV (BM [1] ⟨rfl,trivial⟩ eL)));have ⟨cP,cQ,cR⟩:=DU a2 a3 a4 (mt (aW.Co k.gr 0 rfl) (a5.GD aV (BM [1] ⟨rfl,trivial⟩ eL)));have eA:=(k.bk.Ek aV (a5.EU 0 rfl [1] rfl ⟨rfl,trivial⟩ eL));refine Bi eH (Nat.lt_succ_self _) (fun st=>?_);exact⟨(c+1),(HL f.Ar (0:Int) (c+1)),bK.2,bI,bJ,b,qo st,sp st 1 cW,sp st 4 bL,sp st 17 bU,sp st 18 rfl,eD,dU,d9,c9,dA,dB,dC,dD,dE,cL,cM,cN,cO,cP,cQ,cR,dT,eA⟩
     ·replace b:=Aq b bW;refine An rfl bW<|Dq ?_;obtain rfl:=oi b;refine BC (fun st=>?_);exact .inr ⟨rfl,(aA,g),rfl,aB,aC,qo st,aW⟩
   case eX=>
    rintro eG e5 fA (⟨rfl,a8,rfl,bQ,bR,bM,dV,dW,cS⟩|⟨rfl,a8,rfl,bS,bT,bM,cS⟩)
    ·skip
     replace b:=C9 b;refine lf bM<|Dd ?_;obtain rfl:=oi b;refine D1 rfl dV dW ?_;exact⟨cS.AS,⟨_,_,rfl,rfl,rfl⟩⟩
    ·skip
     replace b:=Da b;refine lf bM<|AZ<|BS<|cr<|wA (v:=I 0) rfl<|wA (v:=I 7) rfl<|wn<|Av ?_;obtain rfl:=oi b;refine D1 rfl rfl rfl ?_;exact⟨cS.AS,⟨_,_,rfl,rfl,rfl⟩⟩
theorem a43 cF z aC aD aE aF aG aH aI aJ aK aL t u(Z:Nat→Prop) w(cT:Sl Az w Z aC aD z.Ag)(cU:Sl (Bs (Ao .i64)) w Z aE aF z.Ab)(cV:Sl AH w Z aG aH z.Ak)(cW:Sl Ba w Z aI aJ z.AJ)(cX:Sl Bc w Z aK aL z.Aw)(cY:Sl Bp w Z t u z.Ar) dL(d:JA cF z=some dL):
 B7 Tryz.prog 43 #[.agg (Ai aC aD aE aF aG aH aI aJ aK aL t u z).toArray] w (fun v w'=>Ext w w'∧(OM (Fq (Ao .i64)) (DT .i64)).R w' (zf Z w []) v dL):=by
 unfold JA at d;refine rq (N:=26) Tryz.func43 fun d6 ha d7=>?_;have c5:=sA 0 ha;clear ha;have c3:Hp FN [] w [] w:=Hp.start (BL.none w);have ⟨bZ,b4,b5,b6,b7,b8⟩:=Cp cT cU cV cW cX cY (Bd (Z:=Z) (L:=[]) w);refine cr<|wE (fun st=>BP (v:=.agg (Ai aC aD aE aF aG aH aI aJ aK aL t u z).toArray) (cs:=(Ai aC aD aE aF aG aH aI aJ aK aL t u z).toArray) (ee st c5) rfl) ?_;rintro _ w1 ⟨b1,rfl,bB⟩;have bC:=c3.nb bB;have d2:=c3.BU bB;refine wA (v:=.slice none 0 0) rfl<|wA (v:=I 0) rfl<|wr<|wD (fun st=>AK (l:=(Ai aC aD aE aF aG aH aI aJ aK aL t u z)) FY (eR st) bB.bk rfl rfl) ?_;have ⟨b9,cA,cB,cC,cD,cE⟩:=Cp bZ b4 b5 b6 b7 b8 (AA bB);replace d:=bind_some d;obtain⟨y,dM,d⟩:=d;refine wE (fun st=>Aj VR (eR st) (CN (eR st) (eR st)) (AbG cF z true aC aD aE aF aG aH aI aJ aK aL t u (zf Z w [some b1]) _ b9 cA cB cC cD cE y dM)) ?_;rintro _ dN ⟨cG,⟨d8,rfl,dO⟩⟩;rcases Ib.cases dO with⟨cH,rfl⟩|⟨c,cH,b3,a,aN,aO,aP,aQ,aR,aS,aT,aU,aV,aW,aX,aY,aZ,a0,a2,a3,rfl,a7,dP,dQ,cI,cJ,cK,cL,cM,cN,cO,cP⟩
 ·replace d:=Qh cH d;have dR:=bC.ext cG;refine wM (v:=.tuple #[.pointer none,I y.2]) rfl<|wD (fun st=>Bz (v:=.pointer none) (eR st) rfl)<|wD (fun st=>Bz (v:=I y.2) (eR st) rfl)<|wA (v:=.pointer none) rfl<|wA (v:=I y.2) rfl<|wn<|Af<|cr<|wM (v:=I y.2) rfl<|wD (fun st=>Db (eR st) (eR st))<|wn ?_;rcases Ae (y.2 !=0) with bW|bW
  ·replace d:=Ap d bW;refine Am rfl bW<|cr<|wM (v:=I y.2) rfl<|wA (v:=.slice none 0 0) rfl<|wA (v:=I y.2) rfl<|wn<|Av<|AG ?_;obtain rfl:=oi d;refine D1 rfl rfl rfl ?_;exact⟨dR.AS,⟨_,_,rfl,⟨_,_,rfl,Sl.nil _ _ _⟩,rfl⟩⟩
  ·replace d:=Aq d bW;exact absurd d (by simp)
 ·replace d:=Qi cH d;have c4:=bC.Mi cG a7;have cZ:w.heap.size≤b3:=Nat.le_trans bC.sz (a7.mem _ (by simp)).1;have dK:w.heap.size≤a:=Nat.le_trans bC.sz (a7.mem _ (by simp)).1;have ⟨bE,bF,bG,bH,bI,bJ,bK,bL⟩:=GN cI cJ cK cL cM cN cO cP (bC.Ov a7);have bX:=c4.erase 0;have c6:Rz dN (zf Z w [some a,some b1]) (some ⟨b3,0,none⟩) (E4 aN aO aP aQ aR aS aT aU aV aW aX aY aZ a0 a2 a3 a c):=Ow dP (c4.lit 0 rfl cZ) rfl;refine wM (v:=.tuple #[pt b3 0,I y.2]) rfl<|wD (fun st=>Bz (v:=pt b3 0) (eR st) rfl)<|wD (fun st=>Bz (v:=I y.2) (eR st) rfl)<|wA (v:=pt b3 0) rfl<|wA (v:=I y.2) rfl<|wn<|Af<|cr<|wM (v:=I y.2) rfl<|wD (fun st=>Db (eR st) (eR st))<|wn ?_;rcases Ae (y.2 !=0) with bD|bD
  ·replace d:=Ap d bD;refine Am rfl bD<|cr<|wM (v:=I y.2) rfl<|wA (v:=.slice none 0 0) rfl<|wA (v:=I y.2) rfl<|wn<|Av<|AG ?_;obtain rfl:=oi d;refine D1 rfl rfl rfl ?_;exact⟨bX.AS,⟨_,_,rfl,⟨_,_,rfl,Sl.nil _ _ _⟩,rfl⟩⟩
  ·replace d:=Aq d bD;refine An rfl bD<|cn<|cr<|wD (fun st=>Ad (eR st) (Oz _ _)) ?_;have c0:=(bB.bk.ext cG);refine wD (fun st=>As (v:=.slice t z.Ar.length u) QL (eR st) c0 rfl)<|wD (fun st=>Be Tryz.underlying51 (eR st))<|wM (v:=pt b3 0) rfl<|wD (fun st=>F4 (vs:= #[pt b3 0]) (us:= #[]) (Cy (eR st)) Gj) ?_;have dS:=bX.EP (F':=FN) (M:=[some a]) (C:=[]) [0] [] rfl ⟨rfl,trivial⟩ trivial (fun k hk=>.inl (eL k hk));have c7:Cb Tryz.prog (.func (.func 112) #[pt b3 0] #[]) (FU FN [some a]) dN.heap.size (fun(st:(List (List Int×Int))) a5 a8 o=>o=none∧EE (fun x:Int=>I x) a5 a 2 st∧Rz a5 a8 (some ⟨b3,0,none⟩) (E4 aN aO aP aQ aR aS aT aU aV aW aX aY aZ a0 a2 a3 a c)∧Sl Az a5 a8 aN aO c.AX∧Sl (Bs (Ao .i64)) a5 a8 aP aQ c.AY∧Sl AH a5 a8 aR aS c.AT∧Sl Ba a5 a8 aT aU c.Bx∧Sl Bc a5 a8 aV aW c.Bw∧Sl Bp a5 a8 aX aY c.BT∧Sl (Ao .i64) a5 a8 aZ a0 c.weights∧Sl Ep a5 a8 a2 a3 c.Dg) (v1 (Fq (Ao .i64))) Cm (fun(st:(List (List Int×Int))) (x:(List Int))=>(CF cF (⟨c.AX,c.AY,c.AT,c.CV,c.Bx,c.Bw,c.BT,c.weights,c.Dg,st⟩:CZ) x).bind fun r=>some (r.1,r.2)):=by
    refine⟨rfl,rfl,bX.N2 [0] ⟨rfl,trivial⟩ eL,?_,?_,?_⟩
    ·intro st x r w1 dT dU o vs hn e s cQ aM d3;obtain⟨rfl,a9,a4,f,g,i,j,m,n,p,q⟩:=cQ;obtain⟨_,rfl,⟨c8,c9,rfl,c1⟩⟩:=aM;obtain⟨d4,h1,h2⟩:=bind_some d3;obtain rfl:=Option.some.inj h2;refine(Ip VS rfl (AbF cF (⟨c.AX,c.AY,c.AT,c.CV,c.Bx,c.Bw,c.BT,c.weights,c.Dg,st⟩:CZ) x aN aO aP aQ aR aS aT aU aV aW aX aY aZ a0 a2 a3 c8 c9 b3 a dU w1 (dS.grow hn) (fun b hb=>Jm (s b hb).1) (f.mv (HH e)) (g.mv (HH e)) (i.mv (HH e)) (j.mv (HH e)) (m.mv (HH e)) (n.mv (HH e)) (p.mv (HH e)) (q.mv (HH e)) (a4.mv (HH e)) c1 a9 d4 h1)).mono ?_;rintro v w2 ⟨aM,dA,dB⟩;exact⟨none,aM.UQ,(fun _ h=>by cases h),dA,⟨rfl,dB,(a4.mv (Ff (Ia aM (fun b hb=>Gm (s b (e b hb)))))),(f.mv (Ff (Ia aM (fun b hb=>Gm (s b (e b hb)))))),(g.mv (Ff (Ia aM (fun b hb=>Gm (s b (e b hb)))))),(i.mv (Ff (Ia aM (fun b hb=>Gm (s b (e b hb)))))),(j.mv (Ff (Ia aM (fun b hb=>Gm (s b (e b hb)))))),(m.mv (Ff (Ia aM (fun b hb=>Gm (s b (e b hb)))))),(n.mv (Ff (Ia aM (fun b hb=>Gm (s b (e b hb)))))),(p.mv (Ff (Ia aM (fun b hb=>Gm (s b (e b hb)))))),(q.mv (Ff (Ia aM (fun b hb=>Gm (s b (e b hb))))))⟩⟩
    ·intro st w1 w2 dT d9 o cQ hm hb;obtain⟨rfl,a9,a4,f,g,i,j,m,n,p,q⟩:=cQ;exact⟨rfl,a9.Mh (hb a (.inl (.inr (gm 0)))),a4.mv hm,f.mv hm,g.mv hm,i.mv hm,j.mv hm,m.mv hm,n.mv hm,p.mv hm,q.mv hm⟩
    ·intro st w1 dT o cQ k hk;obtain⟨rfl,a9,a4,f,g,i,j,m,n,p,q⟩:=cQ;cases hk
   have bY:=bX.nil;replace d:=bind_some d;obtain⟨bA,dV,d⟩:=d;have c2:=dQ;have cR:=(c6.mv B8);have ⟨bM,bN,bO,bP,bQ,bR,bS,bT⟩:=GN bE bF bG bH bI bJ bK bL (mt (AV 0) B8);refine wE (fun st=>Aj Zm (eR st) (CN (eR st) (eR st)) (AeY cF (z.Ar.length:Int) c.known (.func (.func 112) #[pt b3 0] #[]) none (zf Z w [none,some a,some b1]) _ c7 (Nat.le_refl _) (bY.EP (F':=(FU FN [some a])) (M:=[none]) (C:=[some a]) [0] [1] rfl ⟨rfl,trivial⟩ ⟨rfl,trivial⟩ (CG eL)) (bY.zz (F':=(FU FN [some a])) (M:=[none]) (C:=[some a]) [0] [1] ⟨rfl,trivial⟩ ⟨rfl,trivial⟩ (CG eL)) ⟨rfl,c2,cR,bM,bN,bO,bP,bQ,bR,bS,bT⟩ bA dV)) ?_;rintro _ eA ⟨eB,dW,⟨_,_,rfl,⟨aA,aB,rfl,cS⟩,rfl⟩,d5,dX⟩;obtain⟨rfl,dY,dZ,dC,dD,dE,dF,dG,dH,dI,dJ⟩:=dX;have d0:=bY.Ek (Dc.cl (M1:=[some a]) (M2:=[none]) dW) (BM [1,0] ⟨rfl,rfl,trivial⟩ eL);have bU:=cS.mv (bY.call (M:=[none]) (Nat.le_refl _) (Ee ⟨.inl ⟨0,rfl⟩,trivial⟩) (fun _ h=>.inl h));have d1:=d0.erase 0;refine wM (v:=.tuple #[.slice aA bA.1.length aB,.bool bA.2.1]) rfl<|wD (fun st=>Bz (v:=.slice aA bA.1.length aB) (eR st) rfl)<|wD (fun st=>Bz (v:=.bool bA.2.1) (eR st) rfl)<|wA (v:=.slice aA bA.1.length aB) rfl<|wA (v:=.bool bA.2.1) rfl<|wr<|wM (v:=.slice aA bA.1.length aB) rfl<|wA (v:=.slice aA bA.1.length aB) rfl<|wA (v:=I 0) rfl<|wn<|Av ?_;obtain rfl:=oi d;refine D1 rfl rfl rfl ?_;have bV:=(bU.mv (AV 0));exact⟨d1.AS,⟨_,_,rfl,⟨_,_,rfl,bV.mv (BQ (CE [] trivial))⟩,rfl⟩⟩
theorem GZ k b d e(Z:Nat→Prop) w j(c:Cn k b d e=some j):
 B7 Tryz.prog 29 #[I b,I d,I e] w (fun v w'=>Ext w w'∧Cm.R w' (zf Z w []) v j):=by
 unfold Cn at c;refine rq (N:=15) Tryz.func29 fun l ha m=>?_;have f:=sA 0 ha;have h:=sA 1 ha;have i:=sA 2 ha;clear ha;have g:Hp FN [] w [] w:=Hp.start (BL.none w);refine cr<|wA (v:=.bool false) rfl<|wr<|wM (v:=I b) f<|wM (v:=I d) h<|wD (fun st=>J7 (eR st) (eR st))<|wM (v:=.bool (decide (d≤b))) rfl ?_;rcases Ae (decide (d≤b)) with a|a
 ·replace c:=Ap c a;refine wN a (v:=I b) f<|wN a (v:=I e) i<|wG a (fun st=>JP (eR st) (eR st))<|wD (fun st=>AW (v:=.bool (decide (b≤e))) (eR st) a (eR st))<|wA (v:=.bool (decide (b≤e))) rfl<|wn<|Av ?_;obtain rfl:=oi c;refine Ay rfl rfl ?_;exact⟨g.AS,rfl⟩
 ·replace c:=Aq c a;refine wF a<|wF a<|wF a<|wD (fun st=>Bo (v:=.bool false) (eR st) a (eR st))<|wA (v:=.bool false) rfl<|wn<|Av ?_;obtain rfl:=oi c;refine Ay rfl rfl ?_;exact⟨g.AS,rfl⟩
theorem a90 o b f g(Z:Nat→Prop) w m(d:HS o b f g=some m):
 B7 Tryz.prog 90 #[.agg #[I b.Lo,I b.Hi],I f,I g] w (fun v w'=>Ext w w'∧Cm.R w' (zf Z w []) v m):=by
 unfold HS at d;refine rq (N:=24) Tryz.func90 fun p ha q=>?_;have j:=sA 0 ha;have k:=sA 1 ha;have l:=sA 2 ha;clear ha;have i:Hp FN [] w [] w:=Hp.start (BL.none w);refine cr<|wE (fun st=>BP (v:=.agg #[I b.Lo,I b.Hi]) (cs:= #[I b.Lo,I b.Hi]) (ee st j) rfl) ?_;rintro _ w1 ⟨b1,rfl,e⟩;have h:=i.nb e;have n:=i.BU e;refine wA (v:=.bool false) rfl<|wr<|wD (fun st=>Ad (eR st) (JG _ _))<|wD (fun st=>As (v:=I b.Lo) Bh (eR st) e.bk rfl)<|wM (v:=I f) k<|wD (fun st=>J7 (eR st) (eR st))<|wM (v:=.bool (decide (f≤b.Lo))) rfl ?_;rcases Ae (decide (f≤b.Lo)) with a|a
 ·replace d:=Ap d a;refine wG a (fun st=>Ad (eR st) (JG _ _))<|wG a (fun st=>As (v:=I b.Lo) Bh (eR st) e.bk rfl)<|wG a (fun st=>Ad (eR st) (Le _ _))<|wG a (fun st=>As (v:=I b.Hi) Bh (eR st) e.bk rfl)<|wG a (fun st=>JP (eR st) (eR st))<|wD (fun st=>AW (v:=.bool (decide (b.Lo≤b.Hi))) (eR st) a (eR st))<|wM (v:=.bool (decide (b.Lo≤b.Hi))) rfl ?_;rcases Ae (decide (b.Lo≤b.Hi)) with c|c
  ·replace d:=Ap d c;refine wG c (fun st=>Ad (eR st) (Le _ _))<|wG c (fun st=>As (v:=I b.Hi) Bh (eR st) e.bk rfl)<|wN c (v:=I g) l<|wG c (fun st=>JP (eR st) (eR st))<|wD (fun st=>AW (v:=.bool (decide (b.Hi≤g))) (eR st) c (eR st))<|wA (v:=.bool (decide (b.Hi≤g))) rfl<|wn<|Av ?_;obtain rfl:=oi d;refine Ay rfl rfl ?_;exact⟨h.AS,rfl⟩
  ·replace d:=Aq d c;refine wF c<|wF c<|wF c<|wF c<|wD (fun st=>Bo (v:=.bool false) (eR st) c (eR st))<|wA (v:=.bool false) rfl<|wn<|Av ?_;obtain rfl:=oi d;refine Ay rfl rfl ?_;exact⟨h.AS,rfl⟩
 ·replace d:=Aq d a;refine wF a<|wF a<|wF a<|wF a<|wF a<|wD (fun st=>Bo (v:=.bool false) (eR st) a (eR st))<|wM (v:=.bool false) rfl<|wH<|wH<|wH<|wH<|wD (fun st=>Bo (v:=.bool false) (eR st) rfl (eR st))<|wA (v:=.bool false) rfl<|wn<|Av ?_;obtain rfl:=oi d;refine Ay rfl rfl ?_;exact⟨h.AS,rfl⟩
theorem AbI k a(Z:Nat→Prop) w f(b:Jq k a=some f):
 B7 Tryz.prog 118 #[.agg #[I a.Lo,I a.Hi]] w (fun v w'=>Ext w w'∧(DT .i64).R w' (zf Z w []) v f):=by
 unfold Jq at b;refine rq (N:=9) Tryz.func118 fun l ha m=>?_;have e:=sA 0 ha;clear ha;have d:Hp FN [] w [] w:=Hp.start (BL.none w);refine cr<|wE (fun st=>BP (v:=.agg #[I a.Lo,I a.Hi]) (cs:= #[I a.Lo,I a.Hi]) (ee st e) rfl) ?_;rintro _ w1 ⟨b1,rfl,c⟩;have g:=d.nb c;have j:=d.BU c;refine wA (v:=I 0) rfl<|wr<|wD (fun st=>Ad (eR st) (Le _ _))<|wD (fun st=>As (v:=I a.Hi) Bh (eR st) c.bk rfl)<|wD (fun st=>Ad (eR st) (JG _ _))<|wD (fun st=>As (v:=I a.Lo) Bh (eR st) c.bk rfl) ?_;replace b:=AF b;obtain⟨h,b⟩:=b;refine wD (fun st=>El (eR st) (eR st) h) ?_;replace b:=AF b;obtain⟨i,b⟩:=b;refine wD (fun st=>BG (eR st) (eR st) i)<|wA (v:=I ((a.Hi-a.Lo)+1)) rfl<|wn<|Av ?_;obtain rfl:=oi b;refine Ay rfl rfl ?_;exact⟨g.AS,rfl⟩
theorem a35 z j d e(Z:Nat→Prop) w(p:Sl (Ao .i64) w Z d e j) aA(a:JL z j=some aA):
 B7 Tryz.prog 35 #[.slice d j.length e] w (fun v w'=>Ext w w'∧(DT .i64).R w' (zf Z w []) v aA):=by
 unfold JL at a;refine rq (N:=18) Tryz.func35 fun aP ha aQ=>?_;have s:=sA 0 ha;clear ha;have aB:Hp FN [] w [] w:=Hp.start (BL.none w);have n:=p.mv (Bd (Z:=Z) (L:=[]) w);refine cr<|wA (v:=I 0) rfl<|wr<|wA (v:=I 0) rfl<|wn<|Af<|cr<|wA (v:=I 0) rfl<|wn<|AI ?_;replace a:=bind_some a;obtain⟨q,g,a⟩:=a;refine BX (fun aC f t=>(aC=.exit 0∧Fo X0 18 f∧sl f 3=I q∧w=t)) ?aD ?aE
 case aD=>
  clear a;refine BW (fun u f t=>∃c,∃b,GG j u c b=some q∧Fo X0 18 f∧sl f 0=.slice d j.length e∧sl f 3=I c∧sl f 4=I b∧w=t) z ?aF ?aG
  case aF=>
   intro st;exact⟨(0:Int),(0:Int),g,qo st,sp st 0 s,sp st 3 rfl,sp st 4 rfl,rfl⟩
  case aG=>
   rintro(_|u) aR _ ⟨c,b,g,x,h,m,i,rfl⟩
   ·exact absurd (show none=some _ from g) (by simp)
   rw[GG.eq_2] at g;have a:=g;clear g;refine ro x<|Af<|cr<|wM (v:=I b) i<|wM (v:=.slice d j.length e) h<|wD (fun st=>Be Tryz.underlying31 (eR st))<|wD (fun st=>B9 (eR st) (eR st))<|wn ?_;rcases Ae (decide (b<(j.length:Int))) with l|l
   ·replace a:=Ap a l;refine Am rfl l<|cn<|Af<|AI<|Al<|wM (v:=I c) m<|wM (v:=.slice d j.length e) h<|wM (v:=I b) i ?_;replace a:=AP a;obtain⟨i3,y,aH,aI,aJ,a⟩:=a;obtain⟨b3,aS,_,aK,rfl,aL⟩:=Sl.Cz n rfl aI;refine wD (fun st=>AR (k:=i3) Tryz.underlying31 C7 (eR st) aK (eR st) aH aJ)<|wD (fun st=>Bb (v:=I y) Bh (eR st) aL rfl) ?_;replace a:=AF a;obtain⟨aM,a⟩:=a;refine wD (fun st=>BG (eR st) (eR st) aM)<|wA (v:=I (c+y)) rfl<|AU<|CS<|Al<|wM (v:=I b) i ?_;replace a:=AF a;obtain⟨aN,a⟩:=a;refine wD (fun st=>BG (eR st) (eR st) aN)<|wA (v:=I (b+1)) rfl<|AU ?_;refine Bi u (Nat.lt_succ_self _) (fun st=>?_);exact⟨(c+y),(b+1),a,qo st,sp st 0 h,sp st 3 rfl,sp st 4 rfl,rfl⟩
   ·replace a:=Aq a l;refine An rfl l<|Dq ?_;obtain rfl:=oi a;refine BC (fun st=>?_);exact⟨rfl,qo st,sp st 3 m,rfl⟩
 case aE=>
  rintro aC aO _ (⟨rfl,r,o,rfl⟩);refine lf r<|AZ<|BS<|cr<|wM (v:=I q) o<|wA (v:=I q) rfl<|wn<|Av ?_;obtain rfl:=oi a;refine Ay rfl rfl ?_;exact⟨aB.AS,rfl⟩
theorem a91 aX g p b c h i j l d e(Z:Nat→Prop) w(aY:Sl Az w Z b c g.Ax)(aZ:Sl (Bs (Ao .i64)) w Z h i g.Bv)(a0:Sl AH w Z j l g.AQ)(a2:Sl (Ao .i64) w Z d e p) bJ(a:Km aX g p=some bJ):
 B7 Tryz.prog 91 #[.agg (AE b c h i j l g).toArray,.slice d p.length e] w (fun v w'=>Ext w w'∧Cm.R w' (zf Z w []) v bJ):=by
 unfold Km at a;refine rq (N:=24) Tryz.func91 fun b4 ha b5=>?_;have a9:=sA 0 ha;have bA:=sA 1 ha;clear ha;have a5:Hp FN [] w [] w:=Hp.start (BL.none w);have ⟨aG,aH,aI,aJ⟩:=Et aY aZ a0 a2 (Bd (Z:=Z) (L:=[]) w);refine cr<|wE (fun st=>BP (v:=.agg (AE b c h i j l g).toArray) (cs:=(AE b c h i j l g).toArray) (ee st a9) rfl) ?_;rintro _ w1 ⟨b1,rfl,aE⟩;have bK:=a5.nb aE;have bW:=a5.BU aE;refine wA (v:=.bool false) rfl<|wn<|Af<|cr<|wA (v:=I 0) rfl<|wn<|AI ?_;replace a:=bind_some a;obtain⟨z2,x,a⟩:=a;refine BX (fun bB m o=>(bB=.ret∧∃y,z2=.inl y∧Fo X0 24 m∧sl m 4=.bool y∧Hp FN [] w [some b1] o)∨(bB=.exit 0∧∃y,z2=.inr y∧Fo X0 24 m∧sl m 1=.slice d p.length e∧sl m 2=pt b1 0∧Hp FN [] w [some b1] o∧Bk o b1 26 (AE b c h i j l g).toArray∧Sl Az o (zf Z w [some b1]) b c g.Ax∧Sl (Bs (Ao .i64)) o (zf Z w [some b1]) h i g.Bv∧Sl AH o (zf Z w [some b1]) j l g.AQ∧Sl (Ao .i64) o (zf Z w [some b1]) d e p)) ?bL ?bM
 case bL=>
  clear a;refine BW (fun bC m o=>∃f,FB aX p bC f=some z2∧Fo X0 24 m∧sl m 1=.slice d p.length e∧sl m 2=pt b1 0∧sl m 5=I f∧Hp FN [] w [some b1] o∧Bk o b1 26 (AE b c h i j l g).toArray∧Sl Az o (zf Z w [some b1]) b c g.Ax∧Sl (Bs (Ao .i64)) o (zf Z w [some b1]) h i g.Bv∧Sl AH o (zf Z w [some b1]) j l g.AQ∧Sl (Ao .i64) o (zf Z w [some b1]) d e p) aX ?bN ?bO
  case bN=>
   intro st;have ⟨aK,aL,aM,aN⟩:=Et aG aH aI aJ (AA aE);exact⟨(0:Int),x,qo st,sp st 1 bA,sp st 2 rfl,sp st 5 rfl,bK,aE.bk,aK,aL,aM,aN⟩
  case bO=>
   rintro(_|bC) b6 b7 ⟨f,x,bD,q,aF,z,a7,aB,r,s,t,n⟩
   ·exact absurd (show none=some _ from x) (by simp)
   rw[FB.eq_2] at x;have a:=x;clear x;refine ro bD<|Af<|cr<|wM (v:=I f) z<|wM (v:=.slice d p.length e) q<|wD (fun st=>Be Tryz.underlying31 (eR st))<|wD (fun st=>B9 (eR st) (eR st))<|wn ?_;rcases Ae (decide (f<(p.length:Int))) with aC|aC
   ·replace a:=Ap a aC;refine Am rfl aC<|cn<|Af<|AI<|cr<|wM (v:=.slice d p.length e) q<|wM (v:=I f) z ?_;replace a:=AP a;obtain⟨i4,bP,bQ,bR,bS,a⟩:=a;obtain⟨b9,cA,_,bT,rfl,bU⟩:=Sl.Cz n rfl bR;refine wD (fun st=>AR (k:=i4) Tryz.underlying31 C7 (eR st) bT (eR st) bQ bS)<|wD (fun st=>Bb (v:=I bP) Bh (eR st) bU rfl) ?_;replace a:=bind_some a;obtain⟨a3,bV,a⟩:=a;refine wE (fun st=>Aj DR (eR st) (Dx (eR st) (eR st) (eR st)) (GZ aX bP 0 30 ZA _ a3 bV)) ?_;rintro _ cB ⟨aS,rfl⟩;have a8:=a7.ext aS;refine wD (fun st=>CJ (eR st))<|wn ?_;rcases Ae (!a3) with u|u
    ·replace a:=Ap a u;have bX:a3=false:=by simpa using u
     refine Am rfl u<|cr<|wA (v:=.bool false) rfl<|wn<|Av<|Dd<|AG ?_;obtain rfl:=oi a;refine BC (fun st=>?_);exact .inl ⟨rfl,false,rfl,qo st,sp st 4 rfl,a8⟩
    ·replace a:=Aq a u;have bY:a3=true:=by simpa using u
     refine An rfl u<|Ct<|CS<|Al<|wM (v:=I f) z ?_;replace a:=AF a;obtain⟨bE,a⟩:=a;refine wD (fun st=>BG (eR st) (eR st) bE)<|wA (v:=I (f+1)) rfl<|AU ?_;have a4:=(aB.ext aS);have ⟨aO,aP,aQ,aR⟩:=Et r s t n (Ac aS);refine Bi bC (Nat.lt_succ_self _) (fun st=>?_);exact⟨(f+1),a,qo st,sp st 1 q,sp st 2 aF,sp st 5 rfl,a8,a4,aO,aP,aQ,aR⟩
   ·replace a:=Aq a aC;refine An rfl aC<|Dq ?_;obtain rfl:=oi a;refine BC (fun st=>?_);exact .inr ⟨rfl,(),rfl,qo st,sp st 1 q,sp st 2 aF,a7,aB,r,s,t,n⟩
 case bM=>
  rintro bB bZ b8 (⟨rfl,y,rfl,aA,aT,aD⟩|⟨rfl,y,rfl,aA,aU,aV,aD,aW,bF,bG,bH,bI⟩)
  ·skip
   replace a:=C9 a;refine lf aA<|Dd ?_;obtain rfl:=oi a;refine Ay rfl aT ?_;exact⟨aD.AS,rfl⟩
  ·skip
   replace a:=Da a;refine lf aA<|AZ<|BS<|cr<|wM (v:=.slice d p.length e) aU<|wD (fun st=>Be Tryz.underlying31 (eR st))<|wD (fun st=>Ad (ee st aV) (Ej _ _))<|wD (fun st=>As (v:=.slice b g.Ax.length c) EJ (eR st) aW rfl)<|wD (fun st=>Be Tryz.underlying22 (eR st))<|wD (fun st=>CT (eR st) (eR st))<|wA (v:=.bool ((p.length:Int)==(g.Ax.length:Int))) rfl<|wn<|Av ?_;obtain rfl:=oi a;refine Ay rfl rfl ?_;exact⟨aD.AS,rfl⟩
theorem a59 aL e c d f g h i(Z:Nat→Prop) w(aM:Sl Az w Z c d e.Ax)(aN:Sl (Bs (Ao .i64)) w Z f g e.Bv)(aO:Sl AH w Z h i e.AQ) aZ(a:Ez aL e=some aZ):
 B7 Tryz.prog 59 #[.agg (AE c d f g h i e).toArray] w (fun v w'=>Ext w w'∧(DT .i64).R w' (zf Z w []) v aZ):=by
 unfold Ez at a;refine rq (N:=22) Tryz.func59 fun bJ ha bK=>?_;have aT:=sA 0 ha;clear ha;have aR:Hp FN [] w [] w:=Hp.start (BL.none w);have ⟨aA,aB,aC⟩:=DU aM aN aO (Bd (Z:=Z) (L:=[]) w);refine cr<|wE (fun st=>BP (v:=.agg (AE c d f g h i e).toArray) (cs:=(AE c d f g h i e).toArray) (ee st aT) rfl) ?_;rintro _ w1 ⟨b1,rfl,y⟩;have a0:=aR.nb y;have bH:=aR.BU y;refine wA (v:=I 0) rfl<|wr<|wA (v:=I 1) rfl<|wn<|Af<|cr<|wA (v:=I 0) rfl<|wn<|AI ?_;replace a:=bind_some a;obtain⟨z2,p,a⟩:=a;refine BX (fun a2 m t=>(a2=.exit 0∧Fo X0 22 m∧sl m 3=I z2∧Hp FN [] w [some b1] t)) ?a3 ?a4
 case a3=>
  clear a;refine BW (fun aU m t=>∃j,∃b,Gp aL e aU j b=some z2∧Fo X0 22 m∧sl m 1=pt b1 0∧sl m 3=I j∧sl m 4=I b∧Hp FN [] w [some b1] t∧Bk t b1 26 (AE c d f g h i e).toArray∧Sl Az t (zf Z w [some b1]) c d e.Ax∧Sl (Bs (Ao .i64)) t (zf Z w [some b1]) f g e.Bv∧Sl AH t (zf Z w [some b1]) h i e.AQ) aL ?a5 ?a7
  case a5=>
   intro st;have ⟨aD,aE,aF⟩:=DU aA aB aC (AA y);exact⟨(1:Int),(0:Int),p,qo st,sp st 1 rfl,sp st 3 rfl,sp st 4 rfl,a0,y.bk,aD,aE,aF⟩
  case a7=>
   rintro(_|aU) bL bM ⟨j,b,p,aV,q,z,r,aS,n,o,u,x⟩
   ·exact absurd (show none=some _ from p) (by simp)
   rw[Gp.eq_2] at p;have a:=p;clear p;refine ro aV<|Af<|cr<|wM (v:=I b) r<|wD (fun st=>Ad (ee st q) (Ej _ _))<|wD (fun st=>As (v:=.slice c e.Ax.length d) EJ (eR st) n rfl)<|wD (fun st=>Be Tryz.underlying22 (eR st))<|wD (fun st=>B9 (eR st) (eR st))<|wn ?_;rcases Ae (decide (b<(e.Ax.length:Int))) with s|s
   ·replace a:=Ap a s;refine Am rfl s<|cn<|Af<|AI<|Al<|wM (v:=I j) z<|wD (fun st=>Ad (ee st q) (Ej _ _))<|wD (fun st=>As (v:=.slice c e.Ax.length d) EJ (eR st) n rfl)<|wM (v:=I b) r ?_;replace a:=AP a;obtain⟨i4,aW,a8,a9,bA,a⟩:=a;obtain⟨bO,bP,_,bB,rfl,bC⟩:=Sl.elem o (by decide) a9;refine wD (fun st=>BD (k:=i4) Tryz.underlying22 Gu (eR st) bB (eR st) a8 bA)<|wD (fun st=>DF (l:=[I aW.Lo,I aW.Hi]) GR (eR st) bC rfl rfl) ?_;replace a:=bind_some a;obtain⟨aX,bD,a⟩:=a;refine wE (fun st=>Aj VY (eR st) (Cy (eR st)) (AbI aL aW ZA _ aX bD)) ?_;rintro _ bQ ⟨aJ,rfl⟩;have bE:=aS.ext aJ;replace a:=AF a;obtain⟨bF,a⟩:=a;refine wD (fun st=>N0 (eR st) (eR st) bF)<|wD (fun st=>UH (eR st) (eR st))<|wA (v:=I (min (3000:Int) (j*aX))) rfl<|AU<|CS<|Al<|wM (v:=I b) r ?_;replace a:=AF a;obtain⟨bG,a⟩:=a;refine wD (fun st=>BG (eR st) (eR st) bG)<|wA (v:=I (b+1)) rfl<|AU ?_;have aP:=(n.ext aJ);have ⟨aG,aH,aI⟩:=DU o u x (Ac aJ);refine Bi aU (Nat.lt_succ_self _) (fun st=>?_);exact⟨(min (3000:Int) (j*aX)),(b+1),a,qo st,sp st 1 q,sp st 3 rfl,sp st 4 rfl,bE,aP,aG,aH,aI⟩
   ·replace a:=Aq a s;refine An rfl s<|Dq ?_;obtain rfl:=oi a;refine BC (fun st=>?_);exact⟨rfl,qo st,sp st 3 z,aS⟩
 case a4=>
  rintro a2 bI bN (⟨rfl,aQ,aK,aY⟩);refine lf aQ<|AZ<|BS<|cr<|wM (v:=I z2) aK<|wA (v:=I z2) rfl<|wn<|Av ?_;obtain rfl:=oi a;refine Ay rfl rfl ?_;exact⟨aY.AS,rfl⟩
set_option maxHeartbeats 4000000 in
theorem a24 aM b e f c d g i(Z:Nat→Prop) w(dW:Sl Az w Z e f b.Ax)(dX:Sl (Bs (Ao .i64)) w Z c d b.Bv)(dY:Sl AH w Z g i b.AQ) fW(a:Ij aM b=some fW):
 B7 Tryz.prog 24 #[.agg (AE e f c d g i b).toArray] w (fun v w'=>Ext w w'∧(DT .i64).R w' (zf Z w []) v fW):=by
 unfold Ij at a;refine rq (N:=101) Tryz.func24 fun gL ha gM=>?_;have eC:=sA 0 ha;clear ha;have d4:Hp FN [] w [] w:=Hp.start (BL.none w);have ⟨cR,cS,cT⟩:=DU dW dX dY (Bd (Z:=Z) (L:=[]) w);refine cr<|wE (fun st=>BP (v:=.agg (AE e f c d g i b).toArray) (cs:=(AE e f c d g i b).toArray) (ee st eC) rfl) ?_;rintro _ w1 ⟨b1,rfl,a0⟩;have bS:=d4.nb a0;have gB:=d4.BU a0;refine wA (v:=I 0) rfl<|wn<|Af<|cr<|wD (fun st=>Ad (eR st) (Ej _ _))<|wD (fun st=>As (v:=.slice e b.Ax.length f) EJ (eR st) a0.bk rfl)<|wD (fun st=>Be Tryz.underlying22 (eR st))<|wD (fun st=>Gs (eR st) (eR st))<|wM (v:=.bool (decide ((3:Int)<(b.Ax.length:Int)))) rfl ?_;rcases Ae (decide ((3:Int)<(b.Ax.length:Int))) with aD|aD
 ·replace a:=Ap a aD;refine wF aD<|wF aD<|wF aD<|wF aD<|wD (fun st=>AW (v:=.bool true) (eR st) aD (eR st))<|wM (v:=.bool true) rfl<|wH<|wH<|wH<|wH<|wD (fun st=>AW (v:=.bool true) (eR st) rfl (eR st))<|wn<|Am rfl rfl<|cr<|wA (v:=I 3) rfl<|wn<|Av<|AG ?_;obtain rfl:=oi a;refine Ay rfl rfl ?_;exact⟨bS.AS,rfl⟩
 ·replace a:=Aq a aD;refine wG aD (fun st=>Ad (eR st) (DP _ _))<|wG aD (fun st=>As (v:=.slice c b.Bv.length d) DH (eR st) a0.bk rfl)<|wG aD (fun st=>Be Tryz.underlying23 (eR st))<|wG aD (fun st=>Gs (eR st) (eR st))<|wD (fun st=>Bo (v:=.bool (decide ((3:Int)<(b.Bv.length:Int)))) (eR st) aD (eR st))<|wM (v:=.bool (decide ((3:Int)<(b.Bv.length:Int)))) rfl ?_;rcases Ae (decide ((3:Int)<(b.Bv.length:Int))) with aE|aE
  ·replace a:=Ap a aE;refine wF aE<|wF aE<|wF aE<|wF aE<|wD (fun st=>AW (v:=.bool true) (eR st) aE (eR st))<|wn<|Am rfl rfl<|cr<|wA (v:=I 3) rfl<|wn<|Av<|AG ?_;obtain rfl:=oi a;refine Ay rfl rfl ?_;exact⟨bS.AS,rfl⟩
  ·replace a:=Aq a aE;refine wG aE (fun st=>Ad (eR st) (II _ _))<|wG aE (fun st=>As (v:=.slice g b.AQ.length i) JI (eR st) a0.bk rfl)<|wG aE (fun st=>Be Tryz.underlying24 (eR st))<|wG aE (fun st=>Gs (eR st) (eR st))<|wD (fun st=>Bo (v:=.bool (decide ((5:Int)<(b.AQ.length:Int)))) (eR st) aE (eR st))<|wn ?_;rcases Ae (decide ((5:Int)<(b.AQ.length:Int))) with bT|bT
   ·replace a:=Ap a bT;refine Am rfl bT<|cr<|wA (v:=I 3) rfl<|wn<|Av<|AG ?_;obtain rfl:=oi a;refine Ay rfl rfl ?_;exact⟨bS.AS,rfl⟩
   ·replace a:=Aq a bT;refine An rfl bT<|cn<|Af<|cr<|wD (fun st=>Ad (eR st) (Ej _ _))<|wD (fun st=>As (v:=.slice e b.Ax.length f) EJ (eR st) a0.bk rfl)<|wD (fun st=>Be Tryz.underlying22 (eR st))<|wD (fun st=>CT (eR st) (eR st))<|wn ?_;rcases Ae ((b.Ax.length:Int)==0) with bU|bU
    ·replace a:=Ap a bU;refine Am rfl bU<|cr<|wA (v:=I 1) rfl<|wn<|Av<|AG ?_;obtain rfl:=oi a;refine Ay rfl rfl ?_;exact⟨bS.AS,rfl⟩
    ·replace a:=Aq a bU;refine An rfl bU<|cn<|Af<|cr<|wA (v:=I 0) rfl<|wn<|AI ?_;replace a:=bind_some a;obtain⟨eD,bI,a⟩:=a;refine BX (fun a7 m p=>(a7=.ret∧∃bJ,eD=.inl bJ∧Fo X0 101 m∧sl m 2=I bJ∧Hp FN [] w [some b1] p)∨(a7=.exit 0∧∃bJ,eD=.inr bJ∧Fo X0 101 m∧sl m 1=pt b1 0∧Hp FN [] w [some b1] p∧Bk p b1 26 (AE e f c d g i b).toArray∧Sl Az p (zf Z w [some b1]) e f b.Ax∧Sl (Bs (Ao .i64)) p (zf Z w [some b1]) c d b.Bv∧Sl AH p (zf Z w [some b1]) g i b.AQ)) ?fX ?fY
     case fX=>
      clear a;refine BW (fun a2 m p=>∃aF,Gb aM b a2 aF=some eD∧Fo X0 101 m∧sl m 1=pt b1 0∧sl m 3=I aF∧Hp FN [] w [some b1] p∧Bk p b1 26 (AE e f c d g i b).toArray∧Sl Az p (zf Z w [some b1]) e f b.Ax∧Sl (Bs (Ao .i64)) p (zf Z w [some b1]) c d b.Bv∧Sl AH p (zf Z w [some b1]) g i b.AQ) aM ?fZ ?f0
      case fZ=>
       intro st;have ⟨cU,cV,cW⟩:=DU cR cS cT (AA a0);exact⟨(0:Int),bI,qo st,sp st 1 rfl,sp st 3 rfl,bS,a0.bk,cU,cV,cW⟩
      case f0=>
       rintro(_|a2) gN gO ⟨aF,bI,eE,a3,bL,d5,aS,aN,a8,a9⟩
       ·exact absurd (show none=some _ from bI) (by simp)
       rw[Gb.eq_2] at bI;have a:=bI;clear bI;refine ro eE<|Af<|cr<|wM (v:=I aF) bL<|wD (fun st=>Ad (ee st a3) (Ej _ _))<|wD (fun st=>As (v:=.slice e b.Ax.length f) EJ (eR st) aS rfl)<|wD (fun st=>Be Tryz.underlying22 (eR st))<|wD (fun st=>B9 (eR st) (eR st))<|wn ?_;rcases Ae (decide (aF<(b.Ax.length:Int))) with bV|bV
       ·replace a:=Ap a bV;refine Am rfl bV<|cn<|Af<|AI<|cr<|wD (fun st=>Ad (ee st a3) (Ej _ _))<|wD (fun st=>As (v:=.slice e b.Ax.length f) EJ (eR st) aS rfl)<|wM (v:=I aF) bL ?_;replace a:=AP a;obtain⟨i8,eF,f1,f2,f3,a⟩:=a;obtain⟨g4,g5,_,f4,rfl,f5⟩:=Sl.elem aN (by decide) f2;refine wD (fun st=>BD (k:=i8) Tryz.underlying22 Gu (eR st) f4 (eR st) f1 f3)<|wD (fun st=>DF (l:=[I eF.Lo,I eF.Hi]) GR (eR st) f5 rfl rfl) ?_;replace a:=bind_some a;obtain⟨dZ,f6,a⟩:=a;refine wE (fun st=>Aj U5 (eR st) (Dx (eR st) (eR st) (eR st)) (a90 aM eF 0 100 ZA _ dZ f6)) ?_;rintro _ gP ⟨dB,rfl⟩;have d6:=d5.ext dB;refine wD (fun st=>CJ (eR st))<|wn ?_;rcases Ae (!dZ) with aO|aO
        ·replace a:=Ap a aO;have fK:dZ=false:=by simpa using aO
         refine Am rfl aO<|cr<|wA (v:=I 1) rfl<|wn<|Av<|Dd<|AG ?_;obtain rfl:=oi a;refine BC (fun st=>?_);exact .inl ⟨rfl,(1:Int),rfl,qo st,sp st 2 rfl,d6⟩
        ·replace a:=Aq a aO;have fL:dZ=true:=by simpa using aO
         refine An rfl aO<|Ct<|CS<|Al<|wM (v:=I aF) bL ?_;replace a:=AF a;obtain⟨eG,a⟩:=a;refine wD (fun st=>BG (eR st) (eR st) eG)<|wA (v:=I (aF+1)) rfl<|AU ?_;have d0:=(aS.ext dB);have ⟨cX,cY,cZ⟩:=DU aN a8 a9 (Ac dB);refine Bi a2 (Nat.lt_succ_self _) (fun st=>?_);exact⟨(aF+1),a,qo st,sp st 1 a3,sp st 3 rfl,d6,d0,cX,cY,cZ⟩
       ·replace a:=Aq a bV;refine An rfl bV<|Dq ?_;obtain rfl:=oi a;refine BC (fun st=>?_);exact .inr ⟨rfl,(),rfl,qo st,sp st 1 a3,d5,aS,aN,a8,a9⟩
     case fY=>
      rintro a7 gE gQ (⟨rfl,bJ,rfl,bM,dC,cB⟩|⟨rfl,bJ,rfl,bM,dD,cB,dE,cC,cD,cE⟩)
      ·skip
       replace a:=C9 a;refine lf bM<|Dd ?_;obtain rfl:=oi a;refine Ay rfl dC ?_;exact⟨cB.AS,rfl⟩
      ·skip
       replace a:=Da a;refine lf bM<|AZ<|BS<|Af<|cr<|wA (v:=I 0) rfl<|wn<|AI ?_;replace a:=bind_some a;obtain⟨dF,aV,a⟩:=a;refine BX (fun a7 m p=>(a7=.ret∧∃aW,dF=.inl aW∧Fo X0 101 m∧sl m 2=I aW∧Hp FN [] w [some b1] p)∨(a7=.exit 2∧∃aW,dF=.inr aW∧Fo X0 101 m∧sl m 1=pt b1 0∧Hp FN [] w [some b1] p∧Bk p b1 26 (AE e f c d g i b).toArray∧Sl Az p (zf Z w [some b1]) e f b.Ax∧Sl (Bs (Ao .i64)) p (zf Z w [some b1]) c d b.Bv∧Sl AH p (zf Z w [some b1]) g i b.AQ)) ?eH ?eI
       case eH=>
        clear a;refine BW (fun a2 m p=>∃u,Fk aM b a2 u=some dF∧Fo X0 101 m∧sl m 1=pt b1 0∧sl m 4=I u∧Hp FN [] w [some b1] p∧Bk p b1 26 (AE e f c d g i b).toArray∧Sl Az p (zf Z w [some b1]) e f b.Ax∧Sl (Bs (Ao .i64)) p (zf Z w [some b1]) c d b.Bv∧Sl AH p (zf Z w [some b1]) g i b.AQ) aM ?eJ ?eK
        case eJ=>
         intro st;exact⟨(0:Int),aV,qo st,sp st 1 dD,sp st 4 rfl,cB,dE,cC,cD,cE⟩
        case eK=>
         rintro(_|a2) gF gG ⟨u,aV,d1,x,aH,dG,t,aA,y,aB⟩
         ·exact absurd (show none=some _ from aV) (by simp)
         rw[Fk.eq_2] at aV;have a:=aV;clear aV;refine ro d1<|Af<|cr<|wM (v:=I u) aH<|wD (fun st=>Ad (ee st x) (DP _ _))<|wD (fun st=>As (v:=.slice c b.Bv.length d) DH (eR st) t rfl)<|wD (fun st=>Be Tryz.underlying23 (eR st))<|wD (fun st=>B9 (eR st) (eR st))<|wn ?_;rcases Ae (decide (u<(b.Bv.length:Int))) with bA|bA
         ·replace a:=Ap a bA;refine Am rfl bA<|cn<|Af<|AI<|Af ?_;replace a:=AP a;obtain⟨i18,cO,dH,eM,dI,a⟩:=a;obtain⟨d7,d8,_,dJ,⟨a4,a5,rfl,bW⟩,dK⟩:=Sl.Cz y rfl eM;replace a:=bind_some a;obtain⟨aI,dL,a⟩:=a;rcases Ae (!aI) with j|j
          ·replace a:=Ap a j;have fM:aI=false:=by simpa using j
           refine BK 12 [Kc (.agg (AE e f c d g i b).toArray),Kc (pt b1 1),Kc (.slice c b.Bv.length d),Kc (I u),Kc (pt d7 (d8+i18)),Kc (.slice a4 cO.length a5),Kc (.bool aI),Kc (.bool !aI),Kc (.bool !aI),Kc undef,Kc undef,Kc undef] mixed rfl rfl
               (Aa (oD (fun K=>AK (l:=(AE e f c d g i b)) Dt (es ((K.out 1 rfl).trans x)) (t.ext K.AD) rfl rfl))
               (Aa (oD (fun K=>Ad (es ((K.out 1 rfl).trans x)) (DP _ _)))
               (Aa (oD (fun K=>As DH (es (K.dq 1 50)) (t.ext K.AD) rfl))
               (Aa (oD (fun K=>Au (es ((K.out 4 rfl).trans aH))))
               (Aa (oD (fun K=>AR (k:=i18) Tryz.underlying23 ES (es (K.dq 2 51)) dJ (es (K.dq 3 52)) dH dI))
               (Aa (oD (fun K=>Bb DB (es (K.dq 4 53)) (dK.mv (Ac K.AD)) rfl))
               (Aa (oE (fun K=>(Aj Aau rfl (CN (es (K.dq 0 49)) (es (K.dq 5 54))) (a91 aM b cO e f c d g i a4 a5 ZA _ (aA.mv (Ac K.AD)).all (y.mv (Ac K.AD)).all (aB.mv (Ac K.AD)).all (bW.mv (Ac K.AD)).all aI dL)).mono (fun _ _ h=>⟨h.2,h.1⟩)))
               (Aa (oD (fun K=>CJ (es (K.dq 6 55))))
               (Aa (oD (fun K=>Au (es (K.dq 7 56))))
               (Aa (oT j)
               (Aa (oT j)
               (Aa (oT j)
               (BI _))))))))))))) ?_
           intro f7;rintro _ rfl _ rfl _ rfl _ rfl _ rfl _ rfl _ rfl _ rfl _ rfl _ rfl _ rfl _ rfl aP;have f8:=dG.ext aP;refine wF j<|wF j<|wF j<|wF j<|wD (fun st=>AW (v:=.bool true) (eR st) j (eR st))<|wn<|Am rfl rfl<|cr<|wA (v:=I 1) rfl<|wn<|Av<|Dd<|AG ?_;obtain rfl:=oi a;refine BC (fun st=>?_);exact .inl ⟨rfl,(1:Int),rfl,qo st,sp st 2 rfl,f8⟩
          ·replace a:=Aq a j;have fN:aI=true:=by simpa using j
           refine BK 12 [Kc (.agg (AE e f c d g i b).toArray),Kc (pt b1 1),Kc (.slice c b.Bv.length d),Kc (I u),Kc (pt d7 (d8+i18)),Kc (.slice a4 cO.length a5),Kc (.bool aI),Kc (.bool !aI),Kc (.bool !aI),Kc (pt b1 1),Kc (.slice c b.Bv.length d),Kc (I u)] mixed rfl rfl
               (Aa (oD (fun K=>AK (l:=(AE e f c d g i b)) Dt (es ((K.out 1 rfl).trans x)) (t.ext K.AD) rfl rfl))
               (Aa (oD (fun K=>Ad (es ((K.out 1 rfl).trans x)) (DP _ _)))
               (Aa (oD (fun K=>As DH (es (K.dq 1 50)) (t.ext K.AD) rfl))
               (Aa (oD (fun K=>Au (es ((K.out 4 rfl).trans aH))))
               (Aa (oD (fun K=>AR (k:=i18) Tryz.underlying23 ES (es (K.dq 2 51)) dJ (es (K.dq 3 52)) dH dI))
               (Aa (oD (fun K=>Bb DB (es (K.dq 4 53)) (dK.mv (Ac K.AD)) rfl))
               (Aa (oE (fun K=>(Aj Aau rfl (CN (es (K.dq 0 49)) (es (K.dq 5 54))) (a91 aM b cO e f c d g i a4 a5 ZA _ (aA.mv (Ac K.AD)).all (y.mv (Ac K.AD)).all (aB.mv (Ac K.AD)).all (bW.mv (Ac K.AD)).all aI dL)).mono (fun _ _ h=>⟨h.2,h.1⟩)))
               (Aa (oD (fun K=>CJ (es (K.dq 6 55))))
               (Aa (oD (fun K=>Au (es (K.dq 7 56))))
               (Aa (oG j (fun K=>Ad (es ((K.out 1 rfl).trans x)) (DP _ _)))
               (Aa (oG j (fun K=>As DH (es (K.dq 9 58)) (t.ext K.AD) rfl))
               (Aa (oG j (fun K=>Au (es ((K.out 4 rfl).trans aH))))
               (BI _))))))))))))) ?_
           intro f7;rintro _ rfl _ rfl _ rfl _ rfl _ rfl _ rfl _ rfl _ rfl _ rfl _ rfl _ rfl _ rfl aP;have f9:=dG.ext aP;replace a:=AP a;obtain⟨i23,d9,eN,eO,eP,a⟩:=a;have bK:=(y.mv (Ac aP));obtain⟨gR,gS,_,eQ,⟨cP,cQ,rfl,dM⟩,eS⟩:=Sl.Cz bK rfl eO;refine wG j (fun st=>AR (k:=i23) Tryz.underlying23 ES (eR st) eQ (eR st) eN eP)<|wG j (fun st=>Bb (v:=.slice cP d9.length cQ) DB (eR st) eS rfl) ?_;replace a:=bind_some a;obtain⟨dN,eT,a⟩:=a;refine wX j (fun st=>Aj XQ (eR st) (Cy (eR st)) (a35 aM d9 cP cQ ZA _ dM.all dN eT)) ?_;rintro _ gT ⟨bB,rfl⟩;have eA:=f9.ext bB;refine wG j (fun st=>CT (eR st) (eR st))<|wD (fun st=>Bo (v:=.bool (dN==0)) (eR st) j (eR st))<|wn ?_;rcases Ae (dN==0) with bC|bC
           ·replace a:=Ap a bC;refine Am rfl bC<|cr<|wA (v:=I 1) rfl<|wn<|Av<|Dd<|AG ?_;obtain rfl:=oi a;refine BC (fun st=>?_);exact .inl ⟨rfl,(1:Int),rfl,qo st,sp st 2 rfl,eA⟩
           ·replace a:=Aq a bC;refine An rfl bC<|Ct<|CS<|Al<|wM (v:=I u) aH ?_;replace a:=AF a;obtain⟨eU,a⟩:=a;refine wD (fun st=>BG (eR st) (eR st) eU)<|wA (v:=I (u+1)) rfl<|AU ?_;have d2:=((t.ext aP).ext bB);have c0:=((aA.mv (Ac aP)).mv (Ac bB));have c1:=(bK.mv (Ac bB));have c2:=((aB.mv (Ac aP)).mv (Ac bB));refine Bi a2 (Nat.lt_succ_self _) (fun st=>?_);exact⟨(u+1),a,qo st,sp st 1 x,sp st 4 rfl,eA,d2,c0,c1,c2⟩
         ·replace a:=Aq a bA;refine An rfl bA<|Dq ?_;obtain rfl:=oi a;refine BC (fun st=>?_);exact .inr ⟨rfl,(),rfl,qo st,sp st 1 x,dG,t,aA,y,aB⟩
       case eI=>
        rintro a7 gC gH (⟨rfl,aW,rfl,bD,c3,bN⟩|⟨rfl,aW,rfl,bD,c4,bN,c5,bX,bY,bZ⟩)
        ·skip
         replace a:=C9 a;refine lf bD<|Dd ?_;obtain rfl:=oi a;refine Ay rfl c3 ?_;exact⟨bN.AS,rfl⟩
        ·skip
         replace a:=Da a;refine lf bD<|AZ<|BS<|Af<|cr<|wA (v:=I 0) rfl<|wn<|AI ?_;replace a:=bind_some a;obtain⟨z28,aX,a⟩:=a;refine BX (fun a7 m p=>(a7=.ret∧∃aY,z28=.inl aY∧Fo X0 101 m∧sl m 2=I aY∧Hp FN [] w [some b1] p)∨(a7=.exit 4∧∃aY,z28=.inr aY∧Fo X0 101 m∧sl m 1=pt b1 0∧Hp FN [] w [some b1] p∧Bk p b1 26 (AE e f c d g i b).toArray∧Sl Az p (zf Z w [some b1]) e f b.Ax∧Sl (Bs (Ao .i64)) p (zf Z w [some b1]) c d b.Bv∧Sl AH p (zf Z w [some b1]) g i b.AQ)) ?eV ?eW
         case eV=>
          clear a;refine BW (fun a2 m p=>∃q,E3 aM b a2 q=some z28∧Fo X0 101 m∧sl m 1=pt b1 0∧sl m 5=I q∧Hp FN [] w [some b1] p∧Bk p b1 26 (AE e f c d g i b).toArray∧Sl Az p (zf Z w [some b1]) e f b.Ax∧Sl (Bs (Ao .i64)) p (zf Z w [some b1]) c d b.Bv∧Sl AH p (zf Z w [some b1]) g i b.AQ) aM ?eX ?eY
          case eX=>
           intro st;exact⟨(0:Int),aX,qo st,sp st 1 c4,sp st 5 rfl,bN,c5,bX,bY,bZ⟩
          case eY=>
           rintro(_|a2) gI gJ ⟨q,aX,d3,z,aT,cF,aL,aJ,aK,aC⟩
           ·exact absurd (show none=some _ from aX) (by simp)
           rw[E3.eq_2] at aX;have a:=aX;clear aX;refine ro d3<|Af<|cr<|wM (v:=I q) aT<|wD (fun st=>Ad (ee st z) (II _ _))<|wD (fun st=>As (v:=.slice g b.AQ.length i) JI (eR st) aL rfl)<|wD (fun st=>Be Tryz.underlying24 (eR st))<|wD (fun st=>B9 (eR st) (eR st))<|wn ?_;rcases Ae (decide (q<(b.AQ.length:Int))) with bE|bE
           ·replace a:=Ap a bE;refine Am rfl bE<|cn<|Af<|AI<|cr<|wD (fun st=>Ad (ee st z) (II _ _))<|wD (fun st=>As (v:=.slice g b.AQ.length i) JI (eR st) aL rfl)<|wM (v:=I q) aT ?_;replace a:=AP a;obtain⟨i30,o,eZ,e0,e1,a⟩:=a;obtain⟨gU,gV,_,e2,rfl,e3⟩:=Sl.elem aC (by decide) e0;refine wD (fun st=>BD (k:=i30) Tryz.underlying24 OX (eR st) e2 (eR st) eZ e1)<|wD (fun st=>DF (l:=[.bool o.Ce,I o.Number,I o.AM,I o.AN]) OS (eR st) e3 rfl rfl)<|wE (fun st=>CR (cs:= #[.bool false,I 0,I 0,I 0]) Zn rfl) ?_;rintro _ gW ⟨gX,rfl,aZ⟩;have bO:=cF.nb aZ;have gA:=cF.BU aZ;refine Cs rfl rfl (fun st=>Ca (n:=4) (l:=[.bool o.Ce,I o.Number,I o.AM,I o.AN]) (DO:= #[.bool o.Ce,I o.Number,I o.AM,I o.AN]) (eR st) (eR st) OX aZ.bk rfl rfl (show 0+4≤4 by decide) (BJ rfl) rfl) ?_;rintro _ gY aG;have dO:=bO.gr aG.gr 0 rfl;refine wr<|wD (fun st=>Ad (ee st z) (Ej _ _)) ?_;have aU:=((aL.ext aZ.gr).gr aG.gr (bO.nq 1 0));refine wD (fun st=>As (v:=.slice e b.Ax.length f) EJ (eR st) aU rfl)<|wD (fun st=>Be Tryz.underlying22 (eR st))<|wA (v:=I (b.Ax.length:Int)) rfl<|wn<|Af<|cr<|wD (fun st=>Ad (eR st) (NW _ _))<|wD (fun st=>As (v:=.bool o.Ce) L3 (eR st) aG.bk rfl)<|wn ?_;rcases Ae (o.Ce) with bF|bF
            ·replace a:=Ap a bF;refine Am rfl bF<|Al<|wD (fun st=>Ad (ee st z) (DP _ _))<|wD (fun st=>As (v:=.slice c b.Bv.length d) DH (eR st) aU rfl)<|wD (fun st=>Be Tryz.underlying23 (eR st))<|wA (v:=I (b.Bv.length:Int)) rfl<|wr<|wD (fun st=>Ad (eR st) (Nj _ _))<|wD (fun st=>As (v:=I o.Number) Bh (eR st) aG.bk rfl)<|wM (v:=I (b.Bv.length:Int)) rfl ?_;replace a:=AF a;obtain⟨e4,a⟩:=a;refine wD (fun st=>El (eR st) (eR st) e4) ?_;replace a:=bind_some a;obtain⟨b4,e5,a⟩:=a;refine wE (fun st=>Aj DR (eR st) (Dx (eR st) (eR st) (eR st)) (GZ aM o.Number 0 ((b.Bv.length:Int)-1) ZA _ b4 e5)) ?_;rintro _ gZ ⟨bP,rfl⟩;have dP:=dO.ext bP;refine wD (fun st=>CJ (eR st))<|wM (v:=.bool !b4) rfl ?_;rcases Ae (!b4) with r|r
             ·replace a:=Ap a r;have fO:b4=false:=by simpa using r
              refine wF r<|wF r<|wF r<|wF r<|wD (fun st=>AW (v:=.bool true) (eR st) r (eR st))<|wn<|Am rfl rfl<|cr<|wA (v:=I 1) rfl<|wn<|Av<|Dd<|AG ?_;have e6:=dP.erase 0;obtain rfl:=oi a;refine BC (fun st=>?_);exact .inl ⟨rfl,(1:Int),rfl,qo st,sp st 2 rfl,e6⟩
             ·replace a:=Aq a r;have fP:b4=true:=by simpa using r
              refine wG r (fun st=>Ad (eR st) (FZ _ _)) ?_;have c6:=(aG.bk.ext bP);refine wG r (fun st=>AK (l:=[I o.AM,I o.AN]) GR (eR st) c6 rfl rfl) ?_;replace a:=bind_some a;obtain⟨b5,e7,a⟩:=a;refine wX r (fun st=>Aj U5 (eR st) (Dx (eR st) (eR st) (eR st)) (a90 aM (⟨o.AM,o.AN⟩:Bl) 0 100 ZA _ b5 e7)) ?_;rintro _ g0 ⟨cG,rfl⟩;have dQ:=dP.ext cG;refine wG r (fun st=>CJ (eR st))<|wD (fun st=>Bo (v:=.bool !b5) (eR st) r (eR st))<|wn ?_;rcases Ae (!b5) with aQ|aQ
              ·replace a:=Ap a aQ;have fQ:b5=false:=by simpa using aQ
               refine Am rfl aQ<|cr<|wA (v:=I 1) rfl<|wn<|Av<|Dd<|AG ?_;have e8:=dQ.erase 0;obtain rfl:=oi a;refine BC (fun st=>?_);exact .inl ⟨rfl,(1:Int),rfl,qo st,sp st 2 rfl,e8⟩
              ·replace a:=Aq a aQ;have fR:b5=true:=by simpa using aQ
               refine An rfl aQ<|Ct<|CS<|Al<|wM (v:=I q) aT ?_;replace a:=AF a;obtain⟨e9,a⟩:=a;refine wD (fun st=>BG (eR st) (eR st) e9)<|wA (v:=I (q+1)) rfl<|AU ?_;have fA:=dQ.erase 0;have dR:=((aU.ext bP).ext cG);have ⟨cH,cI,cJ⟩:=DU aJ aK aC (mt (AA aZ) (mt (bO.Co aG.gr 0 rfl) (mt (Ac bP) (mt (Ac cG) (AV 0)))));refine Bi a2 (Nat.lt_succ_self _) (fun st=>?_);exact⟨(q+1),a,qo st,sp st 1 z,sp st 5 rfl,fA,dR,cH,cI,cJ⟩
            ·replace a:=Aq a bF;refine An rfl bF<|cn<|cr<|wD (fun st=>Ad (eR st) (Nj _ _))<|wD (fun st=>As (v:=I o.Number) Bh (eR st) aG.bk rfl)<|wM (v:=I (b.Ax.length:Int)) rfl ?_;replace a:=AF a;obtain⟨fB,a⟩:=a;refine wD (fun st=>El (eR st) (eR st) fB) ?_;replace a:=bind_some a;obtain⟨b6,fC,a⟩:=a;refine wE (fun st=>Aj DR (eR st) (Dx (eR st) (eR st) (eR st)) (GZ aM o.Number 0 ((b.Ax.length:Int)-1) ZA _ b6 fC)) ?_;rintro _ g1 ⟨bQ,rfl⟩;have dS:=dO.ext bQ;refine wD (fun st=>CJ (eR st))<|wM (v:=.bool !b6) rfl ?_;rcases Ae (!b6) with s|s
             ·replace a:=Ap a s;have fS:b6=false:=by simpa using s
              refine wF s<|wF s<|wF s<|wF s<|wD (fun st=>AW (v:=.bool true) (eR st) s (eR st))<|wn<|Am rfl rfl<|cr<|wA (v:=I 1) rfl<|wn<|Av<|Dd<|AG ?_;have fD:=dS.erase 0;obtain rfl:=oi a;refine BC (fun st=>?_);exact .inl ⟨rfl,(1:Int),rfl,qo st,sp st 2 rfl,fD⟩
             ·replace a:=Aq a s;have fT:b6=true:=by simpa using s
              refine wG s (fun st=>Ad (eR st) (FZ _ _)) ?_;have c7:=(aG.bk.ext bQ);refine wG s (fun st=>AK (l:=[I o.AM,I o.AN]) GR (eR st) c7 rfl rfl) ?_;replace a:=bind_some a;obtain⟨b7,fE,a⟩:=a;refine wX s (fun st=>Aj U5 (eR st) (Dx (eR st) (eR st) (eR st)) (a90 aM (⟨o.AM,o.AN⟩:Bl) 0 100 ZA _ b7 fE)) ?_;rintro _ g2 ⟨cK,rfl⟩;have dT:=dS.ext cK;refine wG s (fun st=>CJ (eR st))<|wD (fun st=>Bo (v:=.bool !b7) (eR st) s (eR st))<|wn ?_;rcases Ae (!b7) with aR|aR
              ·replace a:=Ap a aR;have fU:b7=false:=by simpa using aR
               refine Am rfl aR<|cr<|wA (v:=I 1) rfl<|wn<|Av<|Dd<|AG ?_;have fF:=dT.erase 0;obtain rfl:=oi a;refine BC (fun st=>?_);exact .inl ⟨rfl,(1:Int),rfl,qo st,sp st 2 rfl,fF⟩
              ·replace a:=Aq a aR;have fV:b7=true:=by simpa using aR
               refine An rfl aR<|Ct<|CS<|Al<|wM (v:=I q) aT ?_;replace a:=AF a;obtain⟨fG,a⟩:=a;refine wD (fun st=>BG (eR st) (eR st) fG)<|wA (v:=I (q+1)) rfl<|AU ?_;have fH:=dT.erase 0;have dU:=((aU.ext bQ).ext cK);have ⟨cL,cM,cN⟩:=DU aJ aK aC (mt (AA aZ) (mt (bO.Co aG.gr 0 rfl) (mt (Ac bQ) (mt (Ac cK) (AV 0)))));refine Bi a2 (Nat.lt_succ_self _) (fun st=>?_);exact⟨(q+1),a,qo st,sp st 1 z,sp st 5 rfl,fH,dU,cL,cM,cN⟩
           ·replace a:=Aq a bE;refine An rfl bE<|Dq ?_;obtain rfl:=oi a;refine BC (fun st=>?_);exact .inr ⟨rfl,(),rfl,qo st,sp st 1 z,cF,aL,aJ,aK,aC⟩
         case eW=>
          rintro a7 gD gK (⟨rfl,aY,rfl,bG,c8,bR⟩|⟨rfl,aY,rfl,bG,c9,bR,dA,b8,b9,cA⟩)
          ·skip
           replace a:=C9 a;refine lf bG<|Dd ?_;obtain rfl:=oi a;refine Ay rfl c8 ?_;exact⟨bR.AS,rfl⟩
          ·skip
           replace a:=Da a;refine lf bG<|AZ<|BS<|Af<|cr<|wD (fun st=>AK (l:=(AE e f c d g i b)) Dt (ee st c9) dA rfl rfl) ?_;replace a:=bind_some a;obtain⟨eB,fI,a⟩:=a;refine wE (fun st=>Aj Ol (eR st) (Cy (eR st)) (a59 aM b e f c d g i ZA _ b8.all b9.all cA.all eB fI)) ?_;rintro _ g3 ⟨fJ,rfl⟩;have dV:=bR.ext fJ;refine wD (fun st=>Gs (eR st) (eR st))<|wn ?_;rcases Ae (decide ((2000:Int)<eB)) with bH|bH
           ·replace a:=Ap a bH;refine Am rfl bH<|cr<|wA (v:=I 3) rfl<|wn<|Av<|AG ?_;obtain rfl:=oi a;refine Ay rfl rfl ?_;exact⟨dV.AS,rfl⟩
           ·replace a:=Aq a bH;refine An rfl bH<|cn<|cr<|wA (v:=I 0) rfl<|wn<|Av ?_;obtain rfl:=oi a;refine Ay rfl rfl ?_;exact⟨dV.AS,rfl⟩
set_option maxHeartbeats 4000000 in
theorem U7 c1 bB dL a7 a8 bD bE bF bG(Z:Nat→Prop) w(dA:Sl Az w Z a7 a8 bB.Ax)(dB:Sl (Bs (Ao .i64)) w Z bD bE bB.Bv)(dC:Sl AH w Z bF bG bB.AQ) d0(aN:FM c1 bB dL=some d0):
 B7 Tryz.prog 58 #[.agg (AE a7 a8 bD bE bF bG bB).toArray,I dL] w (fun v w'=>Ext w w'∧(Fq (Ao .i64)).R w' (zf Z w []) v d0):=by
 unfold FM at aN;refine rq (N:=35) Tryz.func58 fun eP ha eQ=>?_;have dM:=sA 0 ha;have dN:=sA 1 ha;clear ha;have dJ:Hp FN [] w [] w:=Hp.start (BL.none w);have ⟨cQ,cR,cS⟩:=DU dA dB dC (Bd (Z:=Z) (L:=[]) w);refine cr<|wE (fun st=>BP (v:=.agg (AE a7 a8 bD bE bF bG bB).toArray) (cs:=(AE a7 a8 bD bE bF bG bB).toArray) (ee st dM) rfl) ?_;rintro _ w1 ⟨b1,rfl,cD⟩;have d1:=dJ.nb cD;have eI:=dJ.BU cD;refine wA (v:=.slice none 0 0) rfl<|wr<|wA (v:=.slice none 0 0) rfl<|wn<|Af<|cr<|wA (v:=I 0) rfl<|wn<|AI ?_;have d2:=d1.nil;have d3:BH (Ao .i64) 3 w.heap.size w1 (zf Z w [none,some b1]) none 0 ([]:List Int):=BH.nil _ _ _ _ _;replace aN:=bind_some aN;obtain⟨z2,bR,aN⟩:=aN;refine BX (fun bO bH bA=>(bO=.exit 0∧∃aW a3,Fo X0 35 bH∧sl bH 5=.slice aW z2.length a3∧Hp FN [] w [ob aW,some b1] bA∧BH (Ao .i64) 3 w.heap.size bA (zf Z w [ob aW,some b1]) aW a3 z2)) ?d4 ?d5
 case d4=>
  clear aN;refine BW (fun dO bH bA=>∃aK,∃aX,∃a5,∃aP a2,IS c1 bB dO aK aX a5=some z2∧Fo X0 35 bH∧sl bH 1=I aK∧sl bH 2=pt b1 0∧sl bH 5=.slice aP aX.length a2∧sl bH 6=I a5∧Hp FN [] w [ob aP,some b1] bA∧BH (Ao .i64) 3 w.heap.size bA (zf Z w [ob aP,some b1]) aP a2 aX∧Bk bA b1 26 (AE a7 a8 bD bE bF bG bB).toArray∧Sl Az bA (zf Z w [ob aP,some b1]) a7 a8 bB.Ax∧Sl (Bs (Ao .i64)) bA (zf Z w [ob aP,some b1]) bD bE bB.Bv∧Sl AH bA (zf Z w [ob aP,some b1]) bF bG bB.AQ) c1 ?d6 ?d7
  case d6=>
   intro st;have dD:=cD.bk;have ⟨cT,cU,cV⟩:=DU cQ cR cS (mt (AA cD) B8);exact⟨dL,([]:List Int),(0:Int),none,0,bR,qo st,sp st 1 dN,sp st 2 rfl,sp st 5 rfl,sp st 6 rfl,d2,d3,dD,cT,cU,cV⟩
  case d7=>
   rintro(_|dO) eS eT ⟨aK,aX,a5,aP,a2,bR,dP,cE,bU,cF,bV,c2,bI,bJ,bK,cA,cB⟩
   ·exact absurd (show none=some _ from bR) (by simp)
   rw[IS.eq_2] at bR;have aN:=bR;clear bR;refine ro dP<|Af<|cr<|wM (v:=I a5) bV<|wD (fun st=>Ad (ee st bU) (Ej _ _))<|wD (fun st=>As (v:=.slice a7 bB.Ax.length a8) EJ (eR st) bJ rfl)<|wD (fun st=>Be Tryz.underlying22 (eR st))<|wD (fun st=>B9 (eR st) (eR st))<|wn ?_;rcases Ae (decide (a5<(bB.Ax.length:Int))) with bY|bY
   ·replace aN:=Ap aN bY;refine Am rfl bY<|cn<|Af<|AI<|cr<|wD (fun st=>Ad (ee st bU) (Ej _ _))<|wD (fun st=>As (v:=.slice a7 bB.Ax.length a8) EJ (eR st) bJ rfl)<|wM (v:=I a5) bV ?_;replace aN:=AP aN;obtain⟨i5,aT,d8,d9,eA,aN⟩:=aN;obtain⟨eV,eW,_,eB,rfl,eC⟩:=Sl.elem bK (by decide) d9;refine wD (fun st=>BD (k:=i5) Tryz.underlying22 Gu (eR st) eB (eR st) d8 eA)<|wD (fun st=>DF (l:=[I aT.Lo,I aT.Hi]) GR (eR st) eC rfl rfl)<|wE (fun st=>CR (cs:= #[I 0,I 0]) IJ rfl) ?_;rintro _ eX ⟨bZ,rfl,bL⟩;have b4:=c2.nb bL;have eJ:=c2.BU bL;refine Cs rfl rfl (fun st=>Ca (n:=2) (l:=[I aT.Lo,I aT.Hi]) (DO:= #[I aT.Lo,I aT.Hi]) (eR st) (eR st) Gu bL.bk rfl rfl (show 0+2≤2 by decide) (BJ rfl) rfl) ?_;rintro _ dE bS;have eD:=b4.gr bS.gr 0 rfl;refine wn ?_;have b5:=eD.nil;have bW:=bS.bk;replace aN:=bind_some aN;obtain⟨aZ,dQ,aN⟩:=aN;replace aN:=GM aN;obtain⟨c3,aN⟩:=aN;replace aN:=AF aN;obtain⟨dR,aN⟩:=aN;have cW:=(((bI.ext bL.gr (AA bL)).gr bS.gr (fun k hk=>b4.ne 1 0 rfl (congrArg some hk) rfl) (b4.Co bS.gr 0 rfl)).up B8);replace aN:=Ci aN;obtain⟨c4,aN⟩:=aN;replace aN:=bind_some aN;obtain⟨bT,dS,aN⟩:=aN;replace aN:=PJ aN;obtain⟨c5,aN⟩:=aN;replace aN:=AF aN;obtain⟨dT,aN⟩:=aN;obtain⟨eN,aO⟩:∃eY:(Nat→Bool)→(Nat→Value)→World→Prop,eY=(fun D V bA=>∃(aH:Option Nat) (aI:Option Addr) (aJ:Nat) (q:Option Nat) (g:Option Addr) (r:Nat),Hp FN [] w [aH,some bZ,q,some b1] bA∧Dc (FU FN [ob aP]) dE bA∧(∀bP,Mv dE (ZZ FN [] bP w.heap.size [none,some bZ,ob aP,some b1]) bA (ZZ FN [] bP w.heap.size [aH,some bZ,q,some b1]))∧(∀a4,aH=some a4→dE.heap.size≤a4)∧(∀a4,q=some a4→ob aP=some a4∨dE.heap.size≤a4)∧(D 8=false→aH=none)∧(D 9=false→q=ob aP∧BH (Ao .i64) 3 w.heap.size bA (zf Z w [aH,some bZ,q,some b1]) aP a2 aX)∧(D 0=true→V 0=.slice aP aX.length a2)∧(D 1=true→V 1=pt bZ 0)∧(D 2=true→V 2=I aT.Lo)∧(D 3=true→V 3=I aK)∧(D 4=true→V 4=.agg #[I aT.Lo,I aT.Hi])∧(D 5=true→V 5=I aZ)∧(D 6=true→V 6=I (aK%aZ))∧(D 7=true→V 7=I (aT.Lo+(aK%aZ)))∧(D 8=true→V 8=.slice aI (([aT.Lo+(aK%aZ)]).length) aJ∧aH=ob aI∧BH (Ao .i64) 3 w.heap.size bA (zf Z w [aH,some bZ,q,some b1]) aI aJ [aT.Lo+(aK%aZ)])∧(D 9=true→V 9=.slice g ((aX++[aT.Lo+(aK%aZ)]).length) r∧q=ob g∧BH (Ao .i64) 3 w.heap.size bA (zf Z w [aH,some bZ,q,some b1]) g r (aX++[aT.Lo+(aK%aZ)]))∧(D 10=true→V 10=I aK)∧(D 11=true→V 11=.agg #[I aT.Lo,I aT.Hi])∧(D 12=true→V 12=I bT)∧(D 13=true→V 13=I (aK/bT))∧(D 14=true→V 14=.slice g ((aX++[aT.Lo+(aK%aZ)]).length) r)):=⟨_,rfl⟩;refine NS 15 eN mixed rfl rfl (by rw[aO];exact⟨none,none,0,(ob aP),none,0,(b5.ext (Fh _)),JU (Fh _),fun _=>Ac (Fh _),fun _ y=>(by cases y),fun _ y=>.inl y,fun _=>rfl,fun _=>⟨rfl,(cW.ext (Fh _) (Ac (Fh _)))⟩,fun y=>absurd (show false=true from y) (by decide),fun y=>absurd (show false=true from y) (by decide),fun y=>absurd (show false=true from y) (by decide),fun y=>absurd (show false=true from y) (by decide),fun y=>absurd (show false=true from y) (by decide),fun y=>absurd (show false=true from y) (by decide),fun y=>absurd (show false=true from y) (by decide),fun y=>absurd (show false=true from y) (by decide),fun y=>absurd (show false=true from y) (by decide),fun y=>absurd (show false=true from y) (by decide),fun y=>absurd (show false=true from y) (by decide),fun y=>absurd (show false=true from y) (by decide),fun y=>absurd (show false=true from y) (by decide),fun y=>absurd (show false=true from y) (by decide),fun y=>absurd (show false=true from y) (by decide)⟩)
        ⟨sj (k:=0) rfl (fun D V a' w' K a=>by
             rw[aO] at a;refine X4 a fun aH aI aJ q a=>X2 a fun g r a=>Y8 a fun aL aM aQ d c f b _ a=>Y8 a fun z aA aB aC aD aE aF s a=>Y4 a fun j m o p a=>a.elim fun u a=>?_;have x:=a;exact(Au (v:=.slice aP aX.length a2) (es (t:=5) (v:=.slice aP aX.length a2) ((K.later 14 5 _ rfl rfl rfl).trans cF))).mono fun v CO ⟨aU,aV⟩=>by subst aU;subst aV;rw[aO];exact⟨aH,aI,aJ,q,g,r,aL,aM,aQ,d,c,f,b,fun _=>rfl,z,aA,aB,aC,aD,aE,aF,s,j,m,o,p,u,x⟩),
         sj (k:=1) rfl (fun D V a' w' K a=>by
             rw[aO] at a;refine X4 a fun aH aI aJ q a=>X2 a fun g r a=>Y8 a fun aL aM aQ d c f b aG a=>Y8 a fun _ aA aB aC aD aE aF s a=>Y4 a fun j m o p a=>a.elim fun u a=>?_;have x:=a;exact(Ad (es ((K.out 7 rfl).trans rfl)) (JG _ _)).mono fun v CO ⟨aU,aV⟩=>by subst aU;subst aV;rw[aO];exact⟨aH,aI,aJ,q,g,r,aL,aM,aQ,d,c,f,b,aG,fun _=>rfl,aA,aB,aC,aD,aE,aF,s,j,m,o,p,u,x⟩),
         sj (k:=2) rfl (fun D V a' w' K a=>by
             rw[aO] at a;refine X4 a fun aH aI aJ q a=>X2 a fun g r a=>Y8 a fun aL aM aQ d c f b aG a=>Y8 a fun z _ aB aC aD aE aF s a=>Y4 a fun j m o p a=>a.elim fun u a=>?_;have x:=a;have cG:=z (K.dn 1 rfl);exact(As (v:=I aT.Lo) Bh (es (t:=21) (v:=pt bZ 0) ((K.dq 1 21).trans cG)) (bW.Ek aM (b5.EU 1 rfl [2] rfl ⟨rfl,trivial⟩ eL)) rfl).mono fun v CO ⟨aU,aV⟩=>by subst aU;subst aV;rw[aO];exact⟨aH,aI,aJ,q,g,r,aL,aM,aQ,d,c,f,b,aG,z,fun _=>rfl,aB,aC,aD,aE,aF,s,j,m,o,p,u,x⟩),
         sj (k:=3) rfl (fun D V a' w' K a=>by
             rw[aO] at a;refine X4 a fun aH aI aJ q a=>X2 a fun g r a=>Y8 a fun aL aM aQ d c f b aG a=>Y8 a fun z aA _ aC aD aE aF s a=>Y4 a fun j m o p a=>a.elim fun u a=>?_;have x:=a;exact(Au (v:=I aK) (es (t:=1) (v:=I aK) ((K.later 15 1 _ rfl rfl rfl).trans cE))).mono fun v CO ⟨aU,aV⟩=>by subst aU;subst aV;rw[aO];exact⟨aH,aI,aJ,q,g,r,aL,aM,aQ,d,c,f,b,aG,z,aA,fun _=>rfl,aC,aD,aE,aF,s,j,m,o,p,u,x⟩),
         sj (k:=4) rfl (fun D V a' w' K a=>by
             rw[aO] at a;refine X4 a fun aH aI aJ q a=>X2 a fun g r a=>Y8 a fun aL aM aQ d c f b aG a=>Y8 a fun z aA aB _ aD aE aF s a=>Y4 a fun j m o p a=>a.elim fun u a=>?_;have x:=a;exact(AK (l:=[I aT.Lo,I aT.Hi]) GR (es ((K.out 7 rfl).trans rfl)) (bW.Ek aM (b5.EU 1 rfl [2] rfl ⟨rfl,trivial⟩ eL)) rfl rfl).mono fun v CO ⟨aU,aV⟩=>by subst aU;subst aV;rw[aO];exact⟨aH,aI,aJ,q,g,r,aL,aM,aQ,d,c,f,b,aG,z,aA,aB,fun _=>rfl,aD,aE,aF,s,j,m,o,p,u,x⟩),
         sj (k:=5) rfl (fun D V a' w' K a=>by
             rw[aO] at a;refine X4 a fun aH aI aJ q a=>X2 a fun g r a=>Y8 a fun aL aM aQ d c f b aG a=>Y8 a fun z aA aB aC _ aE aF s a=>Y4 a fun j m o p a=>a.elim fun u a=>?_;have x:=a;have cH:=aC (K.dn 4 rfl);refine(Aj VY rfl (Cy (es (t:=24) (v:=.agg #[I aT.Lo,I aT.Hi]) ((K.dq 4 24).trans cH))) (AbI c1 aT ZA _ aZ dQ)).mono ?_;rintro v CO ⟨aR,rfl⟩;rw[aO];exact⟨aH,aI,aJ,q,g,r,(aL.ext aR),(Oe aM aR (fun _ bO=>by cases bO)),(fun bP=>(aQ bP).trans (Ac aR)),d,c,f,fun y=>⟨(b y).1,((b y).2.ext aR (Ac aR))⟩,aG,z,aA,aB,aC,fun _=>rfl,aE,aF,fun y=>⟨(s y).1,(s y).2.1,((s y).2.2.ext aR (Ac aR))⟩,fun y=>⟨(j y).1,(j y).2.1,((j y).2.2.ext aR (Ac aR))⟩,m,o,p,u,x⟩),
         sj (k:=6) rfl (fun D V a' w' K a=>by
             rw[aO] at a;refine X4 a fun aH aI aJ q a=>X2 a fun g r a=>Y8 a fun aL aM aQ d c f b aG a=>Y8 a fun z aA aB aC aD _ aF s a=>Y4 a fun j m o p a=>a.elim fun u a=>?_;have x:=a;have cI:=aB (K.dn 3 rfl);have cJ:=aD (K.dn 5 rfl);exact(JO (es (t:=23) (v:=I aK) ((K.dq 3 23).trans cI)) (es (t:=25) (v:=I aZ) ((K.dq 5 25).trans cJ)) c3.1 c3.2).mono fun v CO ⟨aU,aV⟩=>by subst aU;subst aV;rw[aO];exact⟨aH,aI,aJ,q,g,r,aL,aM,aQ,d,c,f,b,aG,z,aA,aB,aC,aD,fun _=>rfl,aF,s,j,m,o,p,u,x⟩),
         sj (k:=7) rfl (fun D V a' w' K a=>by
             rw[aO] at a;refine X4 a fun aH aI aJ q a=>X2 a fun g r a=>Y8 a fun aL aM aQ d c f b aG a=>Y8 a fun z aA aB aC aD aE _ s a=>Y4 a fun j m o p a=>a.elim fun u a=>?_;have x:=a;have cK:=aA (K.dn 2 rfl);have cL:=aE (K.dn 6 rfl);exact(BG (es (t:=22) (v:=I aT.Lo) ((K.dq 2 22).trans cK)) (es (t:=26) (v:=I (aK%aZ)) ((K.dq 6 26).trans cL)) dR).mono fun v CO ⟨aU,aV⟩=>by subst aU;subst aV;rw[aO];exact⟨aH,aI,aJ,q,g,r,aL,aM,aQ,d,c,f,b,aG,z,aA,aB,aC,aD,aE,fun _=>rfl,s,j,m,o,p,u,x⟩),
         sj (k:=8) rfl (fun D V a' w' K a=>by
             rw[aO] at a;refine X4 a fun _ _ _ q a=>X2 a fun g r a=>Y8 a fun aL aM aQ d c f b aG a=>Y8 a fun z aA aB aC aD aE aF _ a=>Y4 a fun j m o p a=>a.elim fun u a=>?_;have x:=a;have cM:=aF (K.dn 7 rfl);have dU:=f K.me;subst dU;refine(Cx (e:=3) (vs:= #[(0,I (aT.Lo+(aK%aZ)))]) (cs:= #[I (aT.Lo+(aK%aZ))]) (I5 (es (t:=27) (v:=I (aT.Lo+(aK%aZ))) ((K.dq 7 27).trans cM))) (by kernel_rfl)).mono ?_;rintro v CO ⟨eE,rfl,bX⟩;have a9:=QH bX;have bC:=bX.gr;rw[aO];exact⟨(ob (some ⟨eE,0,none⟩)),(some ⟨eE,0,none⟩),1,q,g,r,(aL.row bC 0 rfl a9),(Oe aM bC (fun _ bO=>by cases bO)),(fun bP=>(aQ bP).trans (aL.DE bC 0 rfl (fun a4 a0=>(a9 a4 a0).1))),(Mc d aM.size a9),c,fun y=>absurd (show true=false from y) (by decide),fun y=>⟨(b y).1,((b y).2.gr bC (fun a4 a0=>aL.ne 2 0 rfl (congrArg some (((b y).1).trans a0)) rfl) (aL.DE bC 0 rfl (fun a4 a0=>(a9 a4 a0).1)))⟩,aG,z,aA,aB,aC,aD,aE,aF,fun _=>⟨rfl,rfl,P6 (CM:=[[I (aT.Lo+(aK%aZ))]]) bX.bk (Nat.le_trans aL.sz (Nat.le_of_eq bX.IL.symm)) ⟨rfl,trivial⟩ rfl (by simp[maxLen])⟩,fun y=>⟨(j y).1,(j y).2.1,((j y).2.2.gr bC (fun a4 a0=>aL.ne 2 0 rfl (congrArg some ((j y).2.1.trans a0)) rfl) (aL.DE bC 0 rfl (fun a4 a0=>(a9 a4 a0).1)))⟩,m,o,p,u,x⟩),
         sj (k:=9) rfl (fun D V a' w' K a=>by
             rw[aO] at a;refine X4 a fun _ aI aJ _ a=>X2 a fun _ _ a=>Y8 a fun aL aM aQ d c f b aG a=>Y8 a fun z aA aB aC aD aE aF s a=>Y4 a fun _ m o p a=>a.elim fun u a=>?_;have x:=a;have cN:=aG (K.dn 0 rfl);obtain⟨cO,bM,dF⟩:=s (K.dn 8 rfl);subst bM;obtain⟨b6,cC⟩:=b K.me;subst b6;refine(I0 (ys:=[aT.Lo+(aK%aZ)]) Tryz.underlying31 HG rfl rfl (by decide) (es (t:=20) (v:=.slice aP aX.length a2) ((K.dq 0 20).trans cN)) rfl (es (t:=28) (v:=.slice aI (([aT.Lo+(aK%aZ)]).length) aJ) ((K.dq 8 28).trans cO)) cC (dF.Ou (fun _ _ _ _ _ _ h=>h)) (by have:=c4;simp only[maxLen];omega) (by have:=c4;omega) aL.sz).mono ?_;rintro v CO ⟨dK,eF,rfl,bC,a9,dV⟩;rw[aO];exact⟨(ob aI),aI,aJ,(ob dK),dK,eF,(aL.row bC 2 rfl a9),(Oe aM bC (fun a4 bO=>(c a4 bO).imp (fun y=>.inr (by rw[←y];exact List.mem_of_getElem? (i:=0) rfl)) id)),(fun bP=>(aQ bP).trans (aL.DE bC 2 rfl (fun a4 a0=>(a9 a4 a0).1))),d,(Ua c aM.size a9),f,fun y=>absurd (show true=false from y) (by decide),aG,z,aA,aB,aC,aD,aE,aF,fun y=>⟨(s y).1,rfl,((s y).2.2.gr bC (fun a4 a0=>aL.ne 0 2 rfl (congrArg some a0) rfl) (aL.DE bC 2 rfl (fun a4 a0=>(a9 a4 a0).1)))⟩,fun _=>⟨rfl,rfl,Eb dV (aL.DE bC 2 rfl (fun a4 a0=>(a9 a4 a0).1))⟩,m,o,p,u,fun y=>(SN K.me (K.down 14 _ rfl y 9 rfl)).elim⟩),
         sj (k:=10) rfl (fun D V a' w' K a=>by
             rw[aO] at a;refine X4 a fun aH aI aJ q a=>X2 a fun g r a=>Y8 a fun aL aM aQ d c f b aG a=>Y8 a fun z aA aB aC aD aE aF s a=>Y4 a fun j _ o p a=>a.elim fun u a=>?_;have x:=a;exact(Au (v:=I aK) (es (t:=1) (v:=I aK) ((K.later 15 1 _ rfl rfl rfl).trans cE))).mono fun v CO ⟨aU,aV⟩=>by subst aU;subst aV;rw[aO];exact⟨aH,aI,aJ,q,g,r,aL,aM,aQ,d,c,f,b,aG,z,aA,aB,aC,aD,aE,aF,s,j,fun _=>rfl,o,p,u,x⟩),
         sj (k:=11) rfl (fun D V a' w' K a=>by
             rw[aO] at a;refine X4 a fun aH aI aJ q a=>X2 a fun g r a=>Y8 a fun aL aM aQ d c f b aG a=>Y8 a fun z aA aB aC aD aE aF s a=>Y4 a fun j m _ p a=>a.elim fun u a=>?_;have x:=a;exact(AK (l:=[I aT.Lo,I aT.Hi]) GR (es ((K.out 7 rfl).trans rfl)) (bW.Ek aM (b5.EU 1 rfl [2] rfl ⟨rfl,trivial⟩ eL)) rfl rfl).mono fun v CO ⟨aU,aV⟩=>by subst aU;subst aV;rw[aO];exact⟨aH,aI,aJ,q,g,r,aL,aM,aQ,d,c,f,b,aG,z,aA,aB,aC,aD,aE,aF,s,j,m,fun _=>rfl,p,u,x⟩),
         sj (k:=12) rfl (fun D V a' w' K a=>by
             rw[aO] at a;refine X4 a fun aH aI aJ q a=>X2 a fun g r a=>Y8 a fun aL aM aQ d c f b aG a=>Y8 a fun z aA aB aC aD aE aF s a=>Y4 a fun j m o _ a=>a.elim fun u a=>?_;have x:=a;have b7:=o (K.dn 11 rfl);refine(Aj VY rfl (Cy (es (t:=31) (v:=.agg #[I aT.Lo,I aT.Hi]) ((K.dq 11 31).trans b7))) (AbI c1 aT ZA _ bT dS)).mono ?_;rintro v CO ⟨aR,rfl⟩;rw[aO];exact⟨aH,aI,aJ,q,g,r,(aL.ext aR),(Oe aM aR (fun _ bO=>by cases bO)),(fun bP=>(aQ bP).trans (Ac aR)),d,c,f,fun y=>⟨(b y).1,((b y).2.ext aR (Ac aR))⟩,aG,z,aA,aB,aC,aD,aE,aF,fun y=>⟨(s y).1,(s y).2.1,((s y).2.2.ext aR (Ac aR))⟩,fun y=>⟨(j y).1,(j y).2.1,((j y).2.2.ext aR (Ac aR))⟩,m,o,fun _=>rfl,u,x⟩),
         sj (k:=13) rfl (fun D V a' w' K a=>by
             rw[aO] at a;refine X4 a fun aH aI aJ q a=>X2 a fun g r a=>Y8 a fun aL aM aQ d c f b aG a=>Y8 a fun z aA aB aC aD aE aF s a=>Y4 a fun j m o p a=>a.elim fun _ a=>?_;have x:=a;have b8:=m (K.dn 10 rfl);have b9:=p (K.dn 12 rfl);exact(Ru (es (t:=30) (v:=I aK) ((K.dq 10 30).trans b8)) (es (t:=32) (v:=I bT) ((K.dq 12 32).trans b9)) c5.1 c5.2 dT).mono fun v CO ⟨aU,aV⟩=>by subst aU;subst aV;rw[aO];exact⟨aH,aI,aJ,q,g,r,aL,aM,aQ,d,c,f,b,aG,z,aA,aB,aC,aD,aE,aF,s,j,m,o,p,fun _=>rfl,x⟩),
         sj (k:=14) rfl (fun D V a' w' K a=>by
             rw[aO] at a;refine X4 a fun aH aI aJ _ a=>X2 a fun g r a=>Y8 a fun aL aM aQ d c f _ aG a=>Y8 a fun z aA aB aC aD aE aF s a=>Y4 a fun j m o p a=>a.elim fun u a=>?_;have x:=a;obtain⟨cP,bN,eK⟩:=j (K.dn 9 rfl);subst bN;exact(PF (v:=.slice g ((aX++[aT.Lo+(aK%aZ)]).length) r) (es (t:=29) (v:=.slice g ((aX++[aT.Lo+(aK%aZ)]).length) r) ((K.dq 9 29).trans cP))).mono fun v CO ⟨aU,aV⟩=>by subst aU;subst aV;rw[aO];exact⟨aH,aI,aJ,(ob g),g,r,aL,aM,aQ,d,c,f,fun y=>absurd ((K.dn 9 rfl)) (by rw[show D 9=false from y];decide),aG,z,aA,aB,aC,aD,aE,aF,s,j,m,o,p,u,fun _=>rfl⟩),trivial⟩ ?_
    intro eZ e0 e1 aS aY;rw[aO] at aY;clear aO;refine X4 aY fun aH aI aJ q aY=>X2 aY fun g r aY=>Y8 aY fun dW dX dY d c f b aG aY=>Y8 aY fun z aA aB aC aD aE aF s aY=>Y4 aY fun j m o p aY=>aY.elim fun u aY=>?_;have x:=aY;clear aY;have cN:=aG (aS 0 (by decide));have cG:=z (aS 1 (by decide));have cK:=aA (aS 2 (by decide));have cI:=aB (aS 3 (by decide));have cH:=aC (aS 4 (by decide));have cJ:=aD (aS 5 (by decide));have cL:=aE (aS 6 (by decide));have cM:=aF (aS 7 (by decide));obtain⟨cO,bM,eM⟩:=s (aS 8 (by decide));subst bM;obtain⟨cP,bN,dG⟩:=j (aS 9 (by decide));subst bN;have b8:=m (aS 10 (by decide));have b7:=o (aS 11 (by decide));have b9:=p (aS 12 (by decide));have c6:=u (aS 13 (by decide));have c7:=x (aS 14 (by decide));refine wA (v:=I (aK/bT)) c6<|AU<|CS<|Al<|wM (v:=I a5) bV ?_;replace aN:=AF aN;obtain⟨dZ,aN⟩:=aN;refine wD (fun st=>BG (eR st) (eR st) dZ)<|wA (v:=I (a5+1)) rfl<|AU ?_;have eG:=dW.erase 0;have eH:=eG.erase 0;have cX:=((dG.up (AV 0)).up (AV 0));have dH:=(((bJ.ext bL.gr).gr bS.gr (b4.nq 2 0)).Ek dX (b5.EU 3 rfl [2] rfl ⟨rfl,trivial⟩ eL));have ⟨cY,cZ,c0⟩:=DU bK cA cB (mt (AA bL) (mt (b4.Co bS.gr 0 rfl) (mt B8 (mt (dY _) (mt (AV 0) (AV 0))))));refine Bi dO (Nat.lt_succ_self _) (fun st=>?_);exact⟨(aK/bT),(aX++[aT.Lo+(aK%aZ)]),(a5+1),g,r,aN,qo st,sp st 1 rfl,sp st 2 bU,sp st 5 c7,sp st 6 rfl,eH,cX,dH,cY,cZ,c0⟩
   ·replace aN:=Aq aN bY;refine An rfl bY<|Dq ?_;obtain rfl:=oi aN;refine BC (fun st=>?_);exact⟨rfl,aP,a2,qo st,sp st 5 cF,c2,bI⟩
 case d5=>
  rintro bO eO eU (⟨rfl,aW,a3,dI,c8,c9,bQ⟩);refine lf dI<|AZ<|BS<|cr<|wM (v:=.slice aW z2.length a3) c8<|wA (v:=.slice aW z2.length a3) rfl<|wn<|Av ?_;obtain rfl:=oi aN;refine Ay rfl rfl ?_;exact⟨c9.AS,⟨_,_,rfl,c9.HP (M:=[]) 0 rfl [] rfl trivial bQ⟩⟩
theorem a87 aN o l g h c d(Z:Nat→Prop) w(aF:Sl (Ao .i64) w Z g h o)(aG:Sl (Ao .i64) w Z c d l) aU(a:DM aN o l=some aU):
 B7 Tryz.prog 87 #[.slice g o.length h,.slice c l.length d] w (fun v w'=>Ext w w'∧(DT .i64).R w' (zf Z w []) v aU):=by
 unfold DM at a;refine rq (N:=28) Tryz.func87 fun bQ ha bR=>?_;have aO:=sA 0 ha;have aP:=sA 1 ha;clear ha;have aV:Hp FN [] w [] w:=Hp.start (BL.none w);have ⟨x,y⟩:=Nb aF aG (Bd (Z:=Z) (L:=[]) w);refine cr<|wA (v:=I 0) rfl<|wr<|wA (v:=I 0) rfl<|wn<|Af<|cr<|wA (v:=I 0) rfl<|wn<|AI ?_;replace a:=bind_some a;obtain⟨aH,n,a⟩:=a;refine BX (fun aW f z=>(aW=.exit 0∧Fo X0 28 f∧sl f 1=.slice c l.length d∧sl f 5=I aH∧Hp FN [] w [] z∧Sl (Ao .i64) z (zf Z w []) c d l)) ?aX ?aY
 case aX=>
  clear a;refine BW (fun aQ f z=>∃i,∃b,Is o l aQ i b=some aH∧Fo X0 28 f∧sl f 0=.slice g o.length h∧sl f 1=.slice c l.length d∧sl f 5=I i∧sl f 6=I b∧Hp FN [] w [] z∧Sl (Ao .i64) z (zf Z w []) g h o∧Sl (Ao .i64) z (zf Z w []) c d l) aN ?aZ ?a0
  case aZ=>
   intro st;exact⟨(0:Int),(0:Int),n,qo st,sp st 0 aO,sp st 1 aP,sp st 5 rfl,sp st 6 rfl,aV,x,y⟩
  case a0=>
   rintro(_|aQ) bS bT ⟨i,b,n,aR,p,q,u,j,aL,m,e⟩
   ·exact absurd (show none=some _ from n) (by simp)
   rw[Is.eq_2] at n;have a:=n;clear n;refine ro aR<|Af<|cr<|wM (v:=I b) j<|wM (v:=.slice g o.length h) p<|wD (fun st=>Be Tryz.underlying31 (eR st))<|wD (fun st=>B9 (eR st) (eR st))<|wn ?_;rcases Ae (decide (b<(o.length:Int))) with r|r
   ·replace a:=Ap a r;refine Am rfl r<|cn<|Af<|AI ?_;replace a:=AP a;obtain⟨i4,aI,a2,a3,a4,a⟩:=a;obtain⟨bL,bM,_,a5,rfl,a7⟩:=Sl.Cz e rfl a3;replace a:=AP a;obtain⟨i5,aJ,a8,a9,bA,a⟩:=a;obtain⟨bN,bO,_,bB,rfl,bC⟩:=Sl.Cz m rfl a9;replace a:=AF a;obtain⟨bD,a⟩:=a;refine BK 10 [Kc (I i),Kc (.slice c l.length d),Kc (I b),Kc (pt bL (bM+i4)),Kc (I aI),Kc (.slice g o.length h),Kc (I b),Kc (pt bN (bO+i5)),Kc (I aJ),Kc (I (aI*aJ))] mixed rfl rfl
        (Aa (oD (fun K=>Au (es (t:=5) ((K.later 11 5 _ rfl rfl rfl).trans u))))
        (Aa (oD (fun K=>Au (es ((K.out 1 rfl).trans q))))
        (Aa (oD (fun K=>Au (es ((K.out 6 rfl).trans j))))
        (Aa (oD (fun K=>AR (k:=i4) Tryz.underlying31 C7 (es (K.dq 1 14)) a5 (es (K.dq 2 15)) a2 a4))
        (Aa (oD (fun K=>Bb Bh (es (K.dq 3 16)) (a7.mv (Ac K.AD)) rfl))
        (Aa (oD (fun K=>Au (es ((K.out 0 rfl).trans p))))
        (Aa (oD (fun K=>Au (es ((K.out 6 rfl).trans j))))
        (Aa (oD (fun K=>AR (k:=i5) Tryz.underlying31 C7 (es (K.dq 5 18)) bB (es (K.dq 6 19)) a8 bA))
        (Aa (oD (fun K=>Bb Bh (es (K.dq 7 20)) (bC.mv (Ac K.AD)) rfl))
        (Aa (oD (fun K=>N0 (es (K.dq 4 17)) (es (K.dq 8 21)) bD))
        (BI _))))))))))) ?_
    intro bW;rintro _ rfl _ rfl _ rfl _ rfl _ rfl _ rfl _ rfl _ rfl _ rfl _ rfl aM;have bE:=aL.ext aM;replace a:=AF a;obtain⟨bF,a⟩:=a;refine wD (fun st=>BG (eR st) (eR st) bF)<|wA (v:=I (i+(aI*aJ))) rfl<|AU<|CS<|Al<|wM (v:=I b) j ?_;replace a:=AF a;obtain⟨bG,a⟩:=a;refine wD (fun st=>BG (eR st) (eR st) bG)<|wA (v:=I (b+1)) rfl<|AU ?_;have ⟨aA,aB⟩:=Nb m e (Ac aM);refine Bi aQ (Nat.lt_succ_self _) (fun st=>?_);exact⟨(i+(aI*aJ)),(b+1),a,qo st,sp st 0 p,sp st 1 q,sp st 5 rfl,sp st 6 rfl,bE,aA,aB⟩
   ·replace a:=Aq a r;refine An rfl r<|Dq ?_;obtain rfl:=oi a;refine BC (fun st=>?_);exact⟨rfl,qo st,sp st 1 q,sp st 5 u,aL,e⟩
 case aY=>
  rintro aW bP bU (⟨rfl,aK,aC,aD,aS,s⟩);refine lf aK<|AZ<|BS<|cr<|wM (v:=I aH) aD<|wM (v:=.slice c l.length d) aC ?_;replace a:=bind_some a;obtain⟨bH,bI,a⟩:=a;refine wE (fun st=>Aj XQ (eR st) (Cy (eR st)) (a35 aN l c d ZA _ s.all bH bI)) ?_;rintro _ bV ⟨bJ,rfl⟩;have bK:=aS.ext bJ;replace a:=PJ a;obtain⟨aE,a⟩:=a;replace a:=AF a;obtain⟨aT,a⟩:=a;refine wD (fun st=>Ru (eR st) (eR st) aE.1 aE.2 aT)<|wA (v:=I (aH/bH)) rfl<|wn<|Av ?_;obtain rfl:=oi a;refine Ay rfl rfl ?_;exact⟨bK.AS,rfl⟩
theorem RE aM a aE e f b c g h i j l m n o(Z:Nat→Prop) w(u:Sl Az w Z e f a.Ag)(x:Sl (Bs (Ao .i64)) w Z b c a.Ab)(y:Sl AH w Z g h a.Ak)(z:Sl Ba w Z i j a.AJ)(aA:Sl Bc w Z l m a.Aw)(aB:Sl Bp w Z n o a.Ar) aN(d:Ef aM a aE=some aN):
 B7 Tryz.prog 56 #[.agg (Ai e f b c g h i j l m n o a).toArray,I aE] w (fun v w'=>Ext w w'∧(DT .i64).R w' (zf Z w []) v aN):=by
 unfold Ef at d;refine rq (N:=12) Tryz.func56 fun aZ ha a0=>?_;have aF:=sA 0 ha;have aG:=sA 1 ha;clear ha;have aD:Hp FN [] w [] w:=Hp.start (BL.none w);have ⟨aH,q,aI,aJ,aK,aL⟩:=Cp u x y z aA aB (Bd (Z:=Z) (L:=[]) w);refine cr<|wE (fun st=>BP (v:=.agg (Ai e f b c g h i j l m n o a).toArray) (cs:=(Ai e f b c g h i j l m n o a).toArray) (ee st aF) rfl) ?_;rintro _ w1 ⟨b1,rfl,p⟩;have aO:=aD.nb p;have aY:=aD.BU p;refine wA (v:=I 0) rfl<|wr<|wD (fun st=>Ad (eR st) (DQ _ _))<|wD (fun st=>Ad (eR st) (DP _ _))<|wD (fun st=>As (v:=.slice b a.Ab.length c) DH (eR st) p.bk rfl)<|wM (v:=I aE) aG ?_;replace d:=AP d;obtain⟨i2,x2,aP,aQ,aR,d⟩:=d;have r:=(q.mv (AA p));obtain⟨b2,a2,_,aS,⟨s,t,rfl,aC⟩,aT⟩:=Sl.Cz r rfl aQ;refine wD (fun st=>AR (k:=i2) Tryz.underlying23 ES (eR st) aS (eR st) aP aR)<|wD (fun st=>Bb (v:=.slice s x2.length t) DB (eR st) aT rfl) ?_;replace d:=bind_some d;obtain⟨aU,aV,d⟩:=d;refine wE (fun st=>Aj XQ (eR st) (Cy (eR st)) (a35 aM x2 s t ZA _ aC.all aU aV)) ?_;rintro _ a3 ⟨aW,rfl⟩;have aX:=aO.ext aW;refine wA (v:=I aU) rfl<|wn<|Av ?_;obtain rfl:=oi d;refine Ay rfl rfl ?_;exact⟨aX.AS,rfl⟩
theorem QQ bN b aV aW i j f g m n c d o p q r aH aI(Z:Nat→Prop) w(bV:Sl Az w Z i j b.Ag)(bW:Sl (Bs (Ao .i64)) w Z f g b.Ab)(bX:Sl AH w Z m n b.Ak)(bY:Sl Ba w Z c d b.AJ)(bZ:Sl Bc w Z o p b.Aw)(b4:Sl Bp w Z q r b.Ar)(b5:Sl (Ao .i64) w Z aH aI aV) cT(a:Eg bN b aV aW=some cT):
 B7 Tryz.prog 54 #[.agg (Ai i j f g m n c d o p q r b).toArray,.slice aH aV.length aI,I aW] w (fun v w'=>Ext w w'∧(DT .i64).R w' (zf Z w []) v cT):=by
 unfold Eg at a;refine rq (N:=43) Tryz.func54 fun dL ha dM=>?_;have cD:=sA 0 ha;have cE:=sA 1 ha;have cF:=sA 2 ha;clear ha;have b9:Hp FN [] w [] w:=Hp.start (BL.none w);have ⟨a9,bA,bB,bC,bD,bE,bF⟩:=Ea bV bW bX bY bZ b4 b5 (Bd (Z:=Z) (L:=[]) w);refine cr<|wE (fun st=>BP (v:=.agg (Ai i j f g m n c d o p q r b).toArray) (cs:=(Ai i j f g m n c d o p q r b).toArray) (ee st cD) rfl) ?_;rintro _ w1 ⟨b1,rfl,aX⟩;have cU:=b9.nb aX;have dH:=b9.BU aX;refine wA (v:=I 0) rfl<|wr<|wA (v:=I 0) rfl<|wn<|Af<|cr<|wD (fun st=>Ad (eR st) (Jj _ _))<|wD (fun st=>As (v:=.slice c b.AJ.length d) Ks (eR st) aX.bk rfl)<|wD (fun st=>Be Tryz.underlying63 (eR st)) ?_;replace a:=AF a;obtain⟨cV,a⟩:=a;refine wD (fun st=>El (eR st) (eR st) cV)<|wA (v:=I ((b.AJ.length:Int)-1)) rfl<|wn<|AI ?_;replace a:=bind_some a;obtain⟨z3,aR,a⟩:=a;refine BX (fun cW x u=>(cW=.exit 0∧Fo X0 43 x∧sl x 2=I aW∧sl x 3=pt b1 0∧sl x 7=I z3∧Hp FN [] w [some b1] u∧Bk u b1 67 (Ai i j f g m n c d o p q r b).toArray∧Sl Az u (zf Z w [some b1]) i j b.Ag∧Sl (Bs (Ao .i64)) u (zf Z w [some b1]) f g b.Ab∧Sl AH u (zf Z w [some b1]) m n b.Ak∧Sl Ba u (zf Z w [some b1]) c d b.AJ∧Sl Bc u (zf Z w [some b1]) o p b.Aw∧Sl Bp u (zf Z w [some b1]) q r b.Ar)) ?cX ?cY
 case cX=>
  clear a;refine BW (fun b6 x u=>∃aT,∃e,Hk bN b aV aW b6 aT e=some z3∧Fo X0 43 x∧sl x 1=.slice aH aV.length aI∧sl x 2=I aW∧sl x 3=pt b1 0∧sl x 7=I aT∧sl x 8=I e∧Hp FN [] w [some b1] u∧Bk u b1 67 (Ai i j f g m n c d o p q r b).toArray∧Sl Az u (zf Z w [some b1]) i j b.Ag∧Sl (Bs (Ao .i64)) u (zf Z w [some b1]) f g b.Ab∧Sl AH u (zf Z w [some b1]) m n b.Ak∧Sl Ba u (zf Z w [some b1]) c d b.AJ∧Sl Bc u (zf Z w [some b1]) o p b.Aw∧Sl Bp u (zf Z w [some b1]) q r b.Ar∧Sl (Ao .i64) u (zf Z w [some b1]) aH aI aV) bN ?cZ ?c0
  case cZ=>
   intro st;have ⟨bG,bH,bI,bJ,bK,bL,bM⟩:=Ea a9 bA bB bC bD bE bF (AA aX);exact⟨(0:Int),((b.AJ.length:Int)-1),aR,qo st,sp st 1 cE,sp st 2 cF,sp st 3 rfl,sp st 7 rfl,sp st 8 rfl,cU,aX.bk,bG,bH,bI,bJ,bK,bL,bM⟩
  case c0=>
   rintro(_|b6) dN dO ⟨aT,e,aR,cG,aU,aP,z,a8,aG,cA,y,aB,s,aC,t,aD,aE,aF⟩
   ·exact absurd (show none=some _ from aR) (by simp)
   rw[Hk.eq_2] at aR;have a:=aR;clear aR;refine ro cG<|Af<|cr<|wM (v:=I e) aG<|wD (fun st=>J7 (eR st) (eR st))<|wn ?_;rcases Ae (decide ((0:Int)≤e)) with aY|aY
   ·replace a:=Ap a aY;refine Am rfl aY<|cn<|Af<|AI<|Af ?_;replace a:=AP a;obtain⟨i6,c1,c2,c3,c4,a⟩:=a;obtain⟨dI,dJ,_,c5,⟨bO,bP,rfl,b7⟩,c6⟩:=Sl.Cz s rfl c3;replace a:=bind_some a;obtain⟨cH,c7,a⟩:=a;replace a:=AP a;obtain⟨i8,c8,c9,dA,dB,a⟩:=a;obtain⟨dC,dD,_,dE,rfl,dF⟩:=Sl.elem t (by decide) dA;refine BK 14 [Kc (.slice aH aV.length aI),Kc (pt b1 0),Kc (pt b1 1),Kc (.slice f b.Ab.length g),Kc (I aW),Kc (pt dI (dJ+i6)),Kc (.slice bO c1.length bP),Kc (I cH),Kc (pt b1 4),Kc (.slice c b.AJ.length d),Kc (I e),Kc (pt dC (dD+i8*2)),Kc (pt dC (dD+i8*2)),Kc (I c8.BN)] mixed rfl rfl
        (Aa (oD (fun K=>Au (es ((K.out 1 rfl).trans aU))))
        (Aa (oD (fun K=>Ad (es ((K.out 3 rfl).trans z)) (DQ _ _)))
        (Aa (oD (fun K=>Ad (es (K.dq 1 18)) (DP _ _)))
        (Aa (oD (fun K=>As DH (es (K.dq 2 19)) (y.ext K.AD) rfl))
        (Aa (oD (fun K=>Au (es ((K.out 2 rfl).trans aP))))
        (Aa (oD (fun K=>AR (k:=i6) Tryz.underlying23 ES (es (K.dq 3 20)) c5 (es (K.dq 4 21)) c2 c4))
        (Aa (oD (fun K=>Bb DB (es (K.dq 5 22)) (c6.mv (Ac K.AD)) rfl))
        (Aa (oE (fun K=>(Aj Nk rfl (CN (es (K.dq 0 17)) (es (K.dq 6 23))) (a87 bN aV c1 aH aI bO bP ZA _ (aF.mv (Ac K.AD)).all (b7.mv (Ac K.AD)).all cH c7)).mono (fun _ _ h=>⟨h.2,h.1⟩)))
        (Aa (oD (fun K=>Ad (es ((K.out 3 rfl).trans z)) (Jj _ _)))
        (Aa (oD (fun K=>As Ks (es (K.dq 8 25)) (y.ext K.AD) rfl))
        (Aa (oD (fun K=>Au (es ((K.out 8 rfl).trans aG))))
        (Aa (oD (fun K=>BD (k:=i8) Tryz.underlying63 Nl (es (K.dq 9 26)) dE (es (K.dq 10 27)) c9 dB))
        (Aa (oD (fun K=>Ad (es (K.dq 11 28)) (Om _ _ _)))
        (Aa (oD (fun K=>Bb Bh (es (K.dq 12 29)) (dF.mv (Ac K.AD)) rfl))
        (BI _))))))))))))))) ?_
    intro dT;rintro _ rfl _ rfl _ rfl _ rfl _ rfl _ rfl _ rfl _ rfl _ rfl _ rfl _ rfl _ rfl _ rfl _ rfl aS;have cB:=cA.ext aS;refine wD (fun st=>J7 (eR st) (eR st))<|wn ?_;rcases Ae (decide (c8.BN≤cH)) with aZ|aZ
    ·replace a:=Ap a aZ;refine Am rfl aZ<|Al<|wD (fun st=>Ad (ee st z) (Jj _ _)) ?_;have aQ:=(y.ext aS);refine wD (fun st=>As (v:=.slice c b.AJ.length d) Ks (eR st) aQ rfl)<|wM (v:=I e) aG ?_;replace a:=AP a;obtain⟨i10,bQ,cI,cJ,cK,a⟩:=a;have aA:=(t.mv (Ac aS));obtain⟨dP,dQ,_,cL,rfl,cM⟩:=Sl.elem aA (by decide) cJ;refine wD (fun st=>BD (k:=i10) Tryz.underlying63 Nl (eR st) cL (eR st) cI cK)<|wD (fun st=>Ad (eR st) (Ui _ _ _))<|wD (fun st=>Fu (v:=I bQ.Dn) Bh (eR st) cM rfl)<|wA (v:=I bQ.Dn) rfl<|AU<|CS<|Al<|wM (v:=I e) aG ?_;replace a:=AF a;obtain⟨cN,a⟩:=a;refine wD (fun st=>El (eR st) (eR st) cN)<|wA (v:=I (e-1)) rfl<|AU ?_;have ⟨aJ,aK,aL,aM,aN,aO⟩:=Cp aB s aC aD aE aF (Ac aS);refine Bi b6 (Nat.lt_succ_self _) (fun st=>?_);exact⟨bQ.Dn,(e-1),a,qo st,sp st 1 aU,sp st 2 aP,sp st 3 z,sp st 7 rfl,sp st 8 rfl,cB,aQ,aJ,aK,aL,aA,aM,aN,aO⟩
    ·replace a:=Aq a aZ;refine An rfl aZ<|Ct<|CS<|Al<|wM (v:=I e) aG ?_;replace a:=AF a;obtain⟨cO,a⟩:=a;refine wD (fun st=>El (eR st) (eR st) cO)<|wA (v:=I (e-1)) rfl<|AU ?_;have aQ:=(y.ext aS);have ⟨aJ,aK,aL,aA,aM,aN,aO⟩:=Ea aB s aC t aD aE aF (Ac aS);refine Bi b6 (Nat.lt_succ_self _) (fun st=>?_);exact⟨aT,(e-1),a,qo st,sp st 1 aU,sp st 2 aP,sp st 3 z,sp st 7 a8,sp st 8 rfl,cB,aQ,aJ,aK,aL,aA,aM,aN,aO⟩
   ·replace a:=Aq a aY;refine An rfl aY<|Dq ?_;obtain rfl:=oi a;refine BC (fun st=>?_);exact⟨rfl,qo st,sp st 2 aP,sp st 3 z,sp st 7 a8,cA,y,aB,s,aC,t,aD,aE⟩
 case cY=>
  rintro cW dK dR (⟨rfl,b8,bR,bS,bT,cP,bU,a0,a2,a3,a4,a5,a7⟩);refine lf b8<|AZ<|BS<|cr<|wM (v:=I z3) bT<|wD (fun st=>AK (l:=(Ai i j f g m n c d o p q r b)) Cc (ee st bS) bU rfl rfl)<|wM (v:=I aW) bR ?_;replace a:=bind_some a;obtain⟨cC,cQ,a⟩:=a;refine wE (fun st=>Aj Nn (eR st) (CN (eR st) (eR st)) (RE bN b aW i j f g m n c d o p q r ZA _ a0.all a2.all a3.all a4.all a5.all a7.all cC cQ)) ?_;rintro _ dS ⟨cR,rfl⟩;have dG:=cP.ext cR;replace a:=AF a;obtain⟨cS,a⟩:=a;refine wD (fun st=>N0 (eR st) (eR st) cS)<|wA (v:=I (z3*cC)) rfl<|wn<|Av ?_;obtain rfl:=oi a;refine Ay rfl rfl ?_;exact⟨dG.AS,rfl⟩
set_option maxHeartbeats 4000000 in
theorem a116 aR b aE aF aA aB aG aH o p s t u x(Z:Nat→Prop) w(fS:Sl Az w Z aE aF b.Ag)(fT:Sl (Bs (Ao .i64)) w Z aA aB b.Ab)(fU:Sl AH w Z aG aH b.Ak)(fV:Sl Ba w Z o p b.AJ)(fW:Sl Bc w Z s t b.Aw)(fX:Sl Bp w Z u x b.Ar) h6(a:Fy aR b=some h6):
 B7 Tryz.prog 116 #[.agg (Ai aE aF aA aB aG aH o p s t u x b).toArray] w (fun v w'=>Ext w w'∧(DT .i64).R w' (zf Z w []) v h6):=by
 unfold Fy at a;refine rq (N:=149) Tryz.func116 fun iT ha iU=>?_;have f5:=sA 0 ha;clear ha;have f1:Hp FN [] w [] w:=Hp.start (BL.none w);have ⟨eE,eF,eG,eH,eI,eJ⟩:=Cp fS fT fU fV fW fX (Bd (Z:=Z) (L:=[]) w);refine cr<|wE (fun st=>BP (v:=.agg (Ai aE aF aA aB aG aH o p s t u x b).toArray) (cs:=(Ai aE aF aA aB aG aH o p s t u x b).toArray) (ee st f5) rfl) ?_;rintro _ w1 ⟨b1,rfl,cE⟩;have h7:=f1.nb cE;have iG:=f1.BU cE;refine wA (v:=I 0) rfl<|wn<|Af<|cr<|wD (fun st=>Ad (eR st) (DQ _ _))<|wD (fun st=>AK (l:=[.slice aE b.Ag.length aF,.slice aA b.Ab.length aB,.slice aG b.Ak.length aH]) Dt (eR st) cE.bk rfl rfl) ?_;have ⟨cF,cG,cH⟩:=DU eE eF eG (AA cE);replace a:=bind_some a;obtain⟨eK,h8,a⟩:=a;refine wE (fun st=>Aj Aav (eR st) (Cy (eR st)) (a24 aR (⟨b.Ag,b.Ab,b.Ak⟩:AO) aE aF aA aB aG aH ZA _ cF.all cG.all cH.all eK h8)) ?_;rintro _ i5 ⟨d1,rfl⟩;have cN:=h7.ext d1;refine wA (v:=I eK) rfl<|wr<|wM (v:=I eK) rfl<|wD (fun st=>Db (eR st) (eR st))<|wn ?_;rcases Ae (eK !=0) with cO|cO
 ·replace a:=Ap a cO;refine Am rfl cO<|cr<|wM (v:=I eK) rfl<|wA (v:=I eK) rfl<|wn<|Av<|AG ?_;obtain rfl:=oi a;refine Ay rfl rfl ?_;exact⟨cN.AS,rfl⟩
 ·replace a:=Aq a cO;refine An rfl cO<|cn<|Af<|cr<|wD (fun st=>Ad (eR st) (Jj _ _)) ?_;have bE:=(cE.bk.ext d1);refine wD (fun st=>As (v:=.slice o b.AJ.length p) Ks (eR st) bE rfl)<|wD (fun st=>Be Tryz.underlying63 (eR st))<|wD (fun st=>Gs (eR st) (eR st))<|wM (v:=.bool (decide ((3:Int)<(b.AJ.length:Int)))) rfl ?_;rcases Ae (decide ((3:Int)<(b.AJ.length:Int))) with aU|aU
  ·replace a:=Ap a aU;refine wF aU<|wF aU<|wF aU<|wF aU<|wD (fun st=>AW (v:=.bool true) (eR st) aU (eR st))<|wM (v:=.bool true) rfl<|wH<|wH<|wH<|wH<|wD (fun st=>AW (v:=.bool true) (eR st) rfl (eR st))<|wn<|Am rfl rfl<|cr<|wA (v:=I 3) rfl<|wn<|Av<|AG ?_;obtain rfl:=oi a;refine Ay rfl rfl ?_;exact⟨cN.AS,rfl⟩
  ·replace a:=Aq a aU;refine wG aU (fun st=>Ad (eR st) (Hx _ _))<|wG aU (fun st=>As (v:=.slice s b.Aw.length t) IG (eR st) bE rfl)<|wG aU (fun st=>Be Tryz.underlying64 (eR st))<|wG aU (fun st=>Gs (eR st) (eR st))<|wD (fun st=>Bo (v:=.bool (decide ((3:Int)<(b.Aw.length:Int)))) (eR st) aU (eR st))<|wM (v:=.bool (decide ((3:Int)<(b.Aw.length:Int)))) rfl ?_;rcases Ae (decide ((3:Int)<(b.Aw.length:Int))) with aV|aV
   ·replace a:=Ap a aV;refine wF aV<|wF aV<|wF aV<|wF aV<|wD (fun st=>AW (v:=.bool true) (eR st) aV (eR st))<|wn<|Am rfl rfl<|cr<|wA (v:=I 3) rfl<|wn<|Av<|AG ?_;obtain rfl:=oi a;refine Ay rfl rfl ?_;exact⟨cN.AS,rfl⟩
   ·replace a:=Aq a aV;refine wG aV (fun st=>Ad (eR st) (EN _ _))<|wG aV (fun st=>As (v:=.slice u b.Ar.length x) FE (eR st) bE rfl)<|wG aV (fun st=>Be Tryz.underlying65 (eR st))<|wG aV (fun st=>Gs (eR st) (eR st))<|wD (fun st=>Bo (v:=.bool (decide ((5:Int)<(b.Ar.length:Int)))) (eR st) aV (eR st))<|wn ?_;rcases Ae (decide ((5:Int)<(b.Ar.length:Int))) with cP|cP
    ·replace a:=Ap a cP;refine Am rfl cP<|cr<|wA (v:=I 3) rfl<|wn<|Av<|AG ?_;obtain rfl:=oi a;refine Ay rfl rfl ?_;exact⟨cN.AS,rfl⟩
    ·replace a:=Aq a cP;refine An rfl cP<|cn<|Af<|cr<|wD (fun st=>Ad (eR st) (Pf _ _))<|wD (fun st=>As (v:=I b.Flat) Bh (eR st) bE rfl) ?_;replace a:=bind_some a;obtain⟨e0,h9,a⟩:=a;refine wE (fun st=>Aj DR (eR st) (Dx (eR st) (eR st) (eR st)) (GZ aR b.Flat 0 100 ZA _ e0 h9)) ?_;rintro _ i6 ⟨d2,rfl⟩;have e1:=cN.ext d2;refine wD (fun st=>CJ (eR st))<|wM (v:=.bool !e0) rfl ?_;rcases Ae (!e0) with aJ|aJ
     ·replace a:=Ap a aJ;have hO:e0=false:=by simpa using aJ
      refine wF aJ<|wF aJ<|wF aJ<|wF aJ<|wD (fun st=>AW (v:=.bool true) (eR st) aJ (eR st))<|wn<|Am rfl rfl<|cr<|wA (v:=I 1) rfl<|wn<|Av<|AG ?_;obtain rfl:=oi a;refine Ay rfl rfl ?_;exact⟨e1.AS,rfl⟩
     ·replace a:=Aq a aJ;have hP:e0=true:=by simpa using aJ
      refine wG aJ (fun st=>Ad (eR st) (Jj _ _)) ?_;have d3:=(bE.ext d2);refine wG aJ (fun st=>As (v:=.slice o b.AJ.length p) Ks (eR st) d3 rfl)<|wG aJ (fun st=>Be Tryz.underlying63 (eR st))<|wG aJ (fun st=>CT (eR st) (eR st))<|wD (fun st=>Bo (v:=.bool ((b.AJ.length:Int)==0)) (eR st) aJ (eR st))<|wn ?_;rcases Ae ((b.AJ.length:Int)==0) with bV|bV
      ·replace a:=Ap a bV;refine Am rfl bV<|cr<|wA (v:=I 1) rfl<|wn<|Av<|AG ?_;obtain rfl:=oi a;refine Ay rfl rfl ?_;exact⟨e1.AS,rfl⟩
      ·replace a:=Aq a bV;refine An rfl bV<|cn<|Af<|cr<|wA (v:=I 0) rfl<|wn<|AI ?_;replace a:=bind_some a;obtain⟨e2,bF,a⟩:=a;refine BX (fun bW z m=>(bW=.ret∧∃bG,e2=.inl bG∧Fo X0 149 z∧sl z 2=I bG∧Hp FN [] w [some b1] m)∨(bW=.exit 0∧∃bG,e2=.inr bG∧Fo X0 149 z∧sl z 1=pt b1 0∧Hp FN [] w [some b1] m∧Bk m b1 67 (Ai aE aF aA aB aG aH o p s t u x b).toArray∧Sl Az m (zf Z w [some b1]) aE aF b.Ag∧Sl (Bs (Ao .i64)) m (zf Z w [some b1]) aA aB b.Ab∧Sl AH m (zf Z w [some b1]) aG aH b.Ak∧Sl Ba m (zf Z w [some b1]) o p b.AJ∧Sl Bc m (zf Z w [some b1]) s t b.Aw∧Sl Bp m (zf Z w [some b1]) u x b.Ar)) ?f6 ?f7
       case f6=>
        clear a;refine BW (fun bT z m=>∃e,G7 aR b bT e=some e2∧Fo X0 149 z∧sl z 1=pt b1 0∧sl z 4=I e∧Hp FN [] w [some b1] m∧Bk m b1 67 (Ai aE aF aA aB aG aH o p s t u x b).toArray∧Sl Az m (zf Z w [some b1]) aE aF b.Ag∧Sl (Bs (Ao .i64)) m (zf Z w [some b1]) aA aB b.Ab∧Sl AH m (zf Z w [some b1]) aG aH b.Ak∧Sl Ba m (zf Z w [some b1]) o p b.AJ∧Sl Bc m (zf Z w [some b1]) s t b.Aw∧Sl Bp m (zf Z w [some b1]) u x b.Ar) aR ?f8 ?f9
        case f8=>
         intro st;have ⟨eM,eN,eO⟩:=DU cF cG cH (mt (Ac d1) (Ac d2));have ⟨eP,eQ,eS⟩:=DU eH eI eJ (mt (AA cE) (mt (Ac d1) (Ac d2)));exact⟨(0:Int),bF,qo st,sp st 1 rfl,sp st 4 rfl,e1,d3,eM,eN,eO,eP,eQ,eS⟩
        case f9=>
         rintro(_|bT) iK iL ⟨e,bF,fY,aP,aI,e3,aW,aZ,a0,a2,aT,a3,a4⟩
         ·exact absurd (show none=some _ from bF) (by simp)
         rw[G7.eq_2] at bF;have a:=bF;clear bF;refine ro fY<|Af<|cr<|wM (v:=I e) aI<|wD (fun st=>Ad (ee st aP) (Jj _ _))<|wD (fun st=>As (v:=.slice o b.AJ.length p) Ks (eR st) aW rfl)<|wD (fun st=>Be Tryz.underlying63 (eR st))<|wD (fun st=>B9 (eR st) (eR st))<|wn ?_;rcases Ae (decide (e<(b.AJ.length:Int))) with bX|bX
         ·replace a:=Ap a bX;refine Am rfl bX<|cn<|Af<|AI<|cr<|wD (fun st=>Ad (ee st aP) (Jj _ _))<|wD (fun st=>As (v:=.slice o b.AJ.length p) Ks (eR st) aW rfl)<|wM (v:=I e) aI ?_;replace a:=AP a;obtain⟨i16,g,gA,gB,gC,a⟩:=a;obtain⟨iV,iW,_,gD,rfl,gE⟩:=Sl.elem aT (by decide) gB;refine wD (fun st=>BD (k:=i16) Tryz.underlying63 Nl (eR st) gD (eR st) gA gC)<|wD (fun st=>DF (l:=[I g.BN,I g.Dn]) Ad5 (eR st) gE rfl rfl)<|wE (fun st=>CR (cs:= #[I 0,I 0]) Abu rfl) ?_;rintro _ iX ⟨aY,rfl,aX⟩;have bY:=e3.nb aX;have iA:=e3.BU aX;refine Cs rfl rfl (fun st=>Ca (n:=2) (l:=[I g.BN,I g.Dn]) (DO:= #[I g.BN,I g.Dn]) (eR st) (eR st) Nl aX.bk rfl rfl (show 0+2≤2 by decide) (BJ rfl) rfl) ?_;rintro _ iY y;have cQ:=bY.gr y.gr 0 rfl;refine wn<|Af ?_;replace a:=bind_some a;obtain⟨aC,bZ,a⟩:=a;rcases Ae (!aC) with f|f
          ·replace a:=Ap a f;have hQ:aC=false:=by simpa using f
           refine BK 34 [Kc (pt aY 0),Kc (I g.BN),Kc (.bool aC),Kc (.bool !aC),Kc (.bool !aC),Kc undef,Kc undef,Kc undef,Kc undef,Kc (.bool true),Kc (.bool true),Kc undef,Kc undef,Kc undef,Kc undef,Kc undef,Kc undef,Kc undef,Kc undef,Kc undef,Kc undef,Kc undef,Kc undef,Kc undef,Kc undef,Kc undef,Kc undef,Kc undef,Kc undef,Kc undef,Kc undef,Kc undef,Kc undef,Kc undef] mixed rfl rfl
               (Aa (oD (fun K=>Ad (K.kO 5) (O3 _ _)))
               (Aa (oD (fun K=>As Bh (es (K.dq 0 52)) (y.bk.ext K.AD) rfl))
               (Aa (oE (fun K=>(Aj DR rfl (Dx (es (K.dq 1 53)) (ec (v:=I 0)) (ec (v:=I 100))) (GZ aR g.BN 0 100 ZA _ aC bZ)).mono (fun _ _ h=>⟨h.2,h.1⟩)))
               (Aa (oD (fun K=>CJ (es (K.dq 2 54))))
               (Aa (oD (fun K=>Au (es (K.dq 3 55))))
               (Aa (oT f)
               (Aa (oT f)
               (Aa (oT f)
               (Aa (oT f)
               (Aa (oD (fun K=>AW (es (K.dq 4 56)) f (ec (v:=.bool true))))
               (Aa (oD (fun K=>Au (es (K.dq 9 61))))
               (Aa (oS (c:=true) (fun a' w' ph K=>(show sl a' 62=.bool true from K.dq 10 62)))
               (Aa (oS (c:=true) (fun a' w' ph K=>(show sl a' 62=.bool true from K.dq 10 62)))
               (Aa (oS (c:=true) (fun a' w' ph K=>(show sl a' 62=.bool true from K.dq 10 62)))
               (Aa (oU)
               (Aa (oU)
               (Aa (oU)
               (Aa (oU)
               (Aa (oU)
               (Aa (oU)
               (Aa (oU)
               (Aa (oU)
               (Aa (oU)
               (Aa (oU)
               (Aa (oU)
               (Aa (oU)
               (Aa (oU)
               (Aa (oU)
               (Aa (oU)
               (Aa (oU)
               (Aa (oU)
               (Aa (oU)
               (Aa (oU)
               (Aa (oU)
               (BI _))))))))))))))))))))))))))))))))))) ?_
           intro d4;rintro _ rfl _ rfl _ rfl _ rfl _ rfl _ rfl _ rfl _ rfl _ rfl _ rfl _ rfl _ rfl _ rfl _ rfl _ rfl _ rfl _ rfl _ rfl _ rfl _ rfl _ rfl _ rfl _ rfl _ rfl _ rfl _ rfl _ rfl _ rfl _ rfl _ rfl _ rfl _ rfl _ rfl _ rfl aK;have iB:=cQ.ext aK;refine FT rfl rfl rfl rfl (by decide)<|FT rfl rfl rfl rfl (by decide)<|wH<|wD (fun st=>AW (v:=.bool true) (eR st) rfl (eR st))<|wn<|Am rfl rfl<|cr<|wA (v:=I 1) rfl<|wn<|Av<|Dd<|AG ?_;have iC:=iB.erase 0;obtain rfl:=oi a;refine BC (fun st=>?_);exact .inl ⟨rfl,(1:Int),rfl,qo st,sp st 2 rfl,iC⟩
          ·replace a:=Aq a f;have hR:aC=true:=by simpa using f
           replace a:=bind_some a;obtain⟨aD,cI,a⟩:=a;rcases Ae (!aD) with i|i
           ·replace a:=Ap a i;have hS:aD=false:=by simpa using i
            refine BK 34 [Kc (pt aY 0),Kc (I g.BN),Kc (.bool aC),Kc (.bool !aC),Kc (.bool !aC),Kc (pt aY 1),Kc (I g.Dn),Kc (.bool aD),Kc (.bool !aD),Kc (.bool !aD),Kc (.bool !aD),Kc undef,Kc undef,Kc undef,Kc undef,Kc undef,Kc undef,Kc undef,Kc undef,Kc undef,Kc undef,Kc undef,Kc undef,Kc undef,Kc undef,Kc undef,Kc undef,Kc undef,Kc undef,Kc undef,Kc undef,Kc undef,Kc undef,Kc undef] mixed rfl rfl
                (Aa (oD (fun K=>Ad (K.kO 5) (O3 _ _)))
                (Aa (oD (fun K=>As Bh (es (K.dq 0 52)) (y.bk.ext K.AD) rfl))
                (Aa (oE (fun K=>(Aj DR rfl (Dx (es (K.dq 1 53)) (ec (v:=I 0)) (ec (v:=I 100))) (GZ aR g.BN 0 100 ZA _ aC bZ)).mono (fun _ _ h=>⟨h.2,h.1⟩)))
                (Aa (oD (fun K=>CJ (es (K.dq 2 54))))
                (Aa (oD (fun K=>Au (es (K.dq 3 55))))
                (Aa (oG f (fun K=>Ad (K.kO 5) (QO _ _)))
                (Aa (oG f (fun K=>As Bh (es (K.dq 5 57)) (y.bk.ext K.AD) rfl))
                (Aa (oX f (fun K=>(Aj DR rfl (Dx (es (K.dq 6 58)) (ec (v:=I 0)) (ec (v:=I 100))) (GZ aR g.Dn 0 100 ZA _ aD cI)).mono (fun _ _ h=>⟨h.2,h.1⟩)))
                (Aa (oG f (fun K=>CJ (es (K.dq 7 59))))
                (Aa (oD (fun K=>Bo (es (K.dq 4 56)) f (es (K.dq 8 60))))
                (Aa (oD (fun K=>Au (es (K.dq 9 61))))
                (Aa (oT i)
                (Aa (oT i)
                (Aa (oT i)
                (Aa (oU)
                (Aa (oU)
                (Aa (oU)
                (Aa (oU)
                (Aa (oU)
                (Aa (oU)
                (Aa (oU)
                (Aa (oU)
                (Aa (oU)
                (Aa (oU)
                (Aa (oU)
                (Aa (oU)
                (Aa (oU)
                (Aa (oU)
                (Aa (oU)
                (Aa (oU)
                (Aa (oU)
                (Aa (oU)
                (Aa (oU)
                (Aa (oU)
                (BI _))))))))))))))))))))))))))))))))))) ?_
            intro d4;rintro _ rfl _ rfl _ rfl _ rfl _ rfl _ rfl _ rfl _ rfl _ rfl _ rfl _ rfl _ rfl _ rfl _ rfl _ rfl _ rfl _ rfl _ rfl _ rfl _ rfl _ rfl _ rfl _ rfl _ rfl _ rfl _ rfl _ rfl _ rfl _ rfl _ rfl _ rfl _ rfl _ rfl _ rfl aK;have iD:=cQ.ext aK;refine FT rfl rfl rfl rfl (by decide)<|FT rfl rfl rfl rfl (by decide)<|wF i<|wD (fun st=>AW (v:=.bool true) (eR st) i (eR st))<|wn<|Am rfl rfl<|cr<|wA (v:=I 1) rfl<|wn<|Av<|Dd<|AG ?_;have gF:=iD.erase 0;obtain rfl:=oi a;refine BC (fun st=>?_);exact .inl ⟨rfl,(1:Int),rfl,qo st,sp st 2 rfl,gF⟩
           ·replace a:=Aq a i;have hT:aD=true:=by simpa using i
            rcases Ae (decide ((0:Int)<e)) with d|d
            ·replace a:=Ap a d;have bU:=((aW.ext aX.gr).gr y.gr (bY.nq 1 0));replace a:=AF a;obtain⟨e4,a⟩:=a;replace a:=AP a;obtain⟨i30,b4,e5,gG,e6,a⟩:=a;have bH:=((aT.mv (AA aX)).mv (bY.Co y.gr 0 rfl));obtain⟨d5,d6,_,e7,rfl,e8⟩:=Sl.elem bH (by decide) gG;rcases Ae (decide (b4.BN≤g.BN)) with j|j
             ·replace a:=Ap a j;refine BK 34 [Kc (pt aY 0),Kc (I g.BN),Kc (.bool aC),Kc (.bool !aC),Kc (.bool !aC),Kc (pt aY 1),Kc (I g.Dn),Kc (.bool aD),Kc (.bool !aD),Kc (.bool !aD),Kc (.bool !aD),Kc (I e),Kc (.bool (decide ((0:Int)<e))),Kc (.bool (decide ((0:Int)<e))),Kc (pt aY 0),Kc (I g.BN),Kc (pt b1 4),Kc (.slice o b.AJ.length p),Kc (I e),Kc (I (e-1)),Kc (pt d5 (d6+i30*2)),Kc (pt d5 (d6+i30*2)),Kc (I b4.BN),Kc (.bool (decide (b4.BN≤g.BN))),Kc (.bool (decide (b4.BN≤g.BN))),Kc undef,Kc undef,Kc undef,Kc undef,Kc undef,Kc undef,Kc undef,Kc undef,Kc undef] mixed rfl rfl
                  (Aa (oD (fun K=>Ad (K.kO 5) (O3 _ _)))
                  (Aa (oD (fun K=>As Bh (es (K.dq 0 52)) (y.bk.ext K.AD) rfl))
                  (Aa (oE (fun K=>(Aj DR rfl (Dx (es (K.dq 1 53)) (ec (v:=I 0)) (ec (v:=I 100))) (GZ aR g.BN 0 100 ZA _ aC bZ)).mono (fun _ _ h=>⟨h.2,h.1⟩)))
                  (Aa (oD (fun K=>CJ (es (K.dq 2 54))))
                  (Aa (oD (fun K=>Au (es (K.dq 3 55))))
                  (Aa (oG f (fun K=>Ad (K.kO 5) (QO _ _)))
                  (Aa (oG f (fun K=>As Bh (es (K.dq 5 57)) (y.bk.ext K.AD) rfl))
                  (Aa (oX f (fun K=>(Aj DR rfl (Dx (es (K.dq 6 58)) (ec (v:=I 0)) (ec (v:=I 100))) (GZ aR g.Dn 0 100 ZA _ aD cI)).mono (fun _ _ h=>⟨h.2,h.1⟩)))
                  (Aa (oG f (fun K=>CJ (es (K.dq 7 59))))
                  (Aa (oD (fun K=>Bo (es (K.dq 4 56)) f (es (K.dq 8 60))))
                  (Aa (oD (fun K=>Au (es (K.dq 9 61))))
                  (Aa (oG i (fun K=>Au (es ((K.out 4 rfl).trans aI))))
                  (Aa (oG i (fun K=>Gs (es (K.dq 11 63)) (ec (v:=I 0))))
                  (Aa (oG i (fun K=>Au (es (K.dq 12 64))))
                  (Aa (oG d (fun K=>Ad (K.kO 5) (O3 _ _)))
                  (Aa (oG d (fun K=>As Bh (es (K.dq 14 66)) (y.bk.ext K.AD) rfl))
                  (Aa (oG d (fun K=>Ad (es ((K.out 1 rfl).trans aP)) (Jj _ _)))
                  (Aa (oG d (fun K=>As Ks (es (K.dq 16 68)) (bU.ext K.AD) rfl))
                  (Aa (oG d (fun K=>Au (es ((K.out 4 rfl).trans aI))))
                  (Aa (oG d (fun K=>El (es (K.dq 18 70)) (ec (v:=I 1)) e4))
                  (Aa (oG d (fun K=>BD (k:=i30) Tryz.underlying63 Nl (es (K.dq 17 69)) e7 (es (K.dq 19 71)) e5 e6))
                  (Aa (oG d (fun K=>Ad (es (K.dq 20 72)) (Om _ _ _)))
                  (Aa (oG d (fun K=>Bb Bh (es (K.dq 21 73)) (e8.mv (Ac K.AD)) rfl))
                  (Aa (oG d (fun K=>J7 (es (K.dq 15 67)) (es (K.dq 22 74))))
                  (Aa (oG d (fun K=>Au (es (K.dq 23 75))))
                  (Aa (oT j)
                  (Aa (oT j)
                  (Aa (oT j)
                  (Aa (oT j)
                  (Aa (oT j)
                  (Aa (oT j)
                  (Aa (oT j)
                  (Aa (oT j)
                  (Aa (oT j)
                  (BI _))))))))))))))))))))))))))))))))))) ?_
              intro d4;rintro _ rfl _ rfl _ rfl _ rfl _ rfl _ rfl _ rfl _ rfl _ rfl _ rfl _ rfl _ rfl _ rfl _ rfl _ rfl _ rfl _ rfl _ rfl _ rfl _ rfl _ rfl _ rfl _ rfl _ rfl _ rfl _ rfl _ rfl _ rfl _ rfl _ rfl _ rfl _ rfl _ rfl _ rfl aK;have gH:=cQ.ext aK;refine wF j<|wG d (fun st=>AW (v:=.bool true) (eR st) j (eR st))<|wG i (fun st=>AW (v:=.bool true) (eR st) d (eR st))<|wD (fun st=>Bo (v:=.bool true) (eR st) i (eR st))<|wn<|Am rfl rfl<|cr<|wA (v:=I 1) rfl<|wn<|Av<|Dd<|AG ?_;have gI:=gH.erase 0;obtain rfl:=oi a;refine BC (fun st=>?_);exact .inl ⟨rfl,(1:Int),rfl,qo st,sp st 2 rfl,gI⟩
             ·replace a:=Aq a j;replace a:=AF a;obtain⟨gJ,a⟩:=a;replace a:=AP a;obtain⟨i33,cR,gK,gL,gM,a⟩:=a;obtain⟨f2,f3,_,gN,rfl,gO⟩:=Sl.elem bH (by decide) gL;refine BK 34 [Kc (pt aY 0),Kc (I g.BN),Kc (.bool aC),Kc (.bool !aC),Kc (.bool !aC),Kc (pt aY 1),Kc (I g.Dn),Kc (.bool aD),Kc (.bool !aD),Kc (.bool !aD),Kc (.bool !aD),Kc (I e),Kc (.bool (decide ((0:Int)<e))),Kc (.bool (decide ((0:Int)<e))),Kc (pt aY 0),Kc (I g.BN),Kc (pt b1 4),Kc (.slice o b.AJ.length p),Kc (I e),Kc (I (e-1)),Kc (pt d5 (d6+i30*2)),Kc (pt d5 (d6+i30*2)),Kc (I b4.BN),Kc (.bool (decide (b4.BN≤g.BN))),Kc (.bool (decide (b4.BN≤g.BN))),Kc (pt aY 1),Kc (I g.Dn),Kc (pt b1 4),Kc (.slice o b.AJ.length p),Kc (I e),Kc (I (e-1)),Kc (pt f2 (f3+i33*2)),Kc (pt f2 (f3+i33*2+1)),Kc (I cR.Dn)] mixed rfl rfl
                  (Aa (oD (fun K=>Ad (K.kO 5) (O3 _ _)))
                  (Aa (oD (fun K=>As Bh (es (K.dq 0 52)) (y.bk.ext K.AD) rfl))
                  (Aa (oE (fun K=>(Aj DR rfl (Dx (es (K.dq 1 53)) (ec (v:=I 0)) (ec (v:=I 100))) (GZ aR g.BN 0 100 ZA _ aC bZ)).mono (fun _ _ h=>⟨h.2,h.1⟩)))
                  (Aa (oD (fun K=>CJ (es (K.dq 2 54))))
                  (Aa (oD (fun K=>Au (es (K.dq 3 55))))
                  (Aa (oG f (fun K=>Ad (K.kO 5) (QO _ _)))
                  (Aa (oG f (fun K=>As Bh (es (K.dq 5 57)) (y.bk.ext K.AD) rfl))
                  (Aa (oX f (fun K=>(Aj DR rfl (Dx (es (K.dq 6 58)) (ec (v:=I 0)) (ec (v:=I 100))) (GZ aR g.Dn 0 100 ZA _ aD cI)).mono (fun _ _ h=>⟨h.2,h.1⟩)))
                  (Aa (oG f (fun K=>CJ (es (K.dq 7 59))))
                  (Aa (oD (fun K=>Bo (es (K.dq 4 56)) f (es (K.dq 8 60))))
                  (Aa (oD (fun K=>Au (es (K.dq 9 61))))
                  (Aa (oG i (fun K=>Au (es ((K.out 4 rfl).trans aI))))
                  (Aa (oG i (fun K=>Gs (es (K.dq 11 63)) (ec (v:=I 0))))
                  (Aa (oG i (fun K=>Au (es (K.dq 12 64))))
                  (Aa (oG d (fun K=>Ad (K.kO 5) (O3 _ _)))
                  (Aa (oG d (fun K=>As Bh (es (K.dq 14 66)) (y.bk.ext K.AD) rfl))
                  (Aa (oG d (fun K=>Ad (es ((K.out 1 rfl).trans aP)) (Jj _ _)))
                  (Aa (oG d (fun K=>As Ks (es (K.dq 16 68)) (bU.ext K.AD) rfl))
                  (Aa (oG d (fun K=>Au (es ((K.out 4 rfl).trans aI))))
                  (Aa (oG d (fun K=>El (es (K.dq 18 70)) (ec (v:=I 1)) e4))
                  (Aa (oG d (fun K=>BD (k:=i30) Tryz.underlying63 Nl (es (K.dq 17 69)) e7 (es (K.dq 19 71)) e5 e6))
                  (Aa (oG d (fun K=>Ad (es (K.dq 20 72)) (Om _ _ _)))
                  (Aa (oG d (fun K=>Bb Bh (es (K.dq 21 73)) (e8.mv (Ac K.AD)) rfl))
                  (Aa (oG d (fun K=>J7 (es (K.dq 15 67)) (es (K.dq 22 74))))
                  (Aa (oG d (fun K=>Au (es (K.dq 23 75))))
                  (Aa (oG j (fun K=>Ad (K.kO 5) (QO _ _)))
                  (Aa (oG j (fun K=>As Bh (es (K.dq 25 77)) (y.bk.ext K.AD) rfl))
                  (Aa (oG j (fun K=>Ad (es ((K.out 1 rfl).trans aP)) (Jj _ _)))
                  (Aa (oG j (fun K=>As Ks (es (K.dq 27 79)) (bU.ext K.AD) rfl))
                  (Aa (oG j (fun K=>Au (es ((K.out 4 rfl).trans aI))))
                  (Aa (oG j (fun K=>El (es (K.dq 29 81)) (ec (v:=I 1)) gJ))
                  (Aa (oG j (fun K=>BD (k:=i33) Tryz.underlying63 Nl (es (K.dq 28 80)) gN (es (K.dq 30 82)) gK gM))
                  (Aa (oG j (fun K=>Ad (es (K.dq 31 83)) (Ui _ _ _)))
                  (Aa (oG j (fun K=>Fu Bh (es (K.dq 32 84)) (gO.mv (Ac K.AD)) rfl))
                  (BI _))))))))))))))))))))))))))))))))))) ?_
              intro d4;rintro _ rfl _ rfl _ rfl _ rfl _ rfl _ rfl _ rfl _ rfl _ rfl _ rfl _ rfl _ rfl _ rfl _ rfl _ rfl _ rfl _ rfl _ rfl _ rfl _ rfl _ rfl _ rfl _ rfl _ rfl _ rfl _ rfl _ rfl _ rfl _ rfl _ rfl _ rfl _ rfl _ rfl _ rfl aK;have e9:=cQ.ext aK;refine wG j (fun st=>Gs (eR st) (eR st))<|wG d (fun st=>Bo (v:=.bool (decide (cR.Dn<g.Dn))) (eR st) j (eR st))<|wG i (fun st=>AW (v:=.bool (decide (cR.Dn<g.Dn))) (eR st) d (eR st))<|wD (fun st=>Bo (v:=.bool (decide (cR.Dn<g.Dn))) (eR st) i (eR st))<|wn ?_;rcases Ae (decide (cR.Dn<g.Dn)) with b5|b5
              ·replace a:=Ap a b5;refine Am rfl b5<|cr<|wA (v:=I 1) rfl<|wn<|Av<|Dd<|AG ?_;have gP:=e9.erase 0;obtain rfl:=oi a;refine BC (fun st=>?_);exact .inl ⟨rfl,(1:Int),rfl,qo st,sp st 2 rfl,gP⟩
              ·replace a:=Aq a b5;refine An rfl b5<|Ct<|CS<|Al<|wM (v:=I e) aI ?_;replace a:=AF a;obtain⟨gQ,a⟩:=a;refine wD (fun st=>BG (eR st) (eR st) gQ)<|wA (v:=I (e+1)) rfl<|AU ?_;have gR:=e9.erase 0;have fA:=(bU.ext aK);have ⟨dB,dC,dD⟩:=DU aZ a0 a2 (mt (AA aX) (mt (bY.Co y.gr 0 rfl) (mt (Ac aK) (AV 0))));have dE:=((bH.mv (Ac aK)).mv (AV 0));have ⟨dF,dG⟩:=Nb a3 a4 (mt (AA aX) (mt (bY.Co y.gr 0 rfl) (mt (Ac aK) (AV 0))));refine Bi bT (Nat.lt_succ_self _) (fun st=>?_);exact⟨(e+1),a,qo st,sp st 1 aP,sp st 4 rfl,gR,fA,dB,dC,dD,dE,dF,dG⟩
            ·replace a:=Aq a d;refine BK 34 [Kc (pt aY 0),Kc (I g.BN),Kc (.bool aC),Kc (.bool !aC),Kc (.bool !aC),Kc (pt aY 1),Kc (I g.Dn),Kc (.bool aD),Kc (.bool !aD),Kc (.bool !aD),Kc (.bool !aD),Kc (I e),Kc (.bool (decide ((0:Int)<e))),Kc (.bool (decide ((0:Int)<e))),Kc undef,Kc undef,Kc undef,Kc undef,Kc undef,Kc undef,Kc undef,Kc undef,Kc undef,Kc undef,Kc undef,Kc undef,Kc undef,Kc undef,Kc undef,Kc undef,Kc undef,Kc undef,Kc undef,Kc undef] mixed rfl rfl
                 (Aa (oD (fun K=>Ad (K.kO 5) (O3 _ _)))
                 (Aa (oD (fun K=>As Bh (es (K.dq 0 52)) (y.bk.ext K.AD) rfl))
                 (Aa (oE (fun K=>(Aj DR rfl (Dx (es (K.dq 1 53)) (ec (v:=I 0)) (ec (v:=I 100))) (GZ aR g.BN 0 100 ZA _ aC bZ)).mono (fun _ _ h=>⟨h.2,h.1⟩)))
                 (Aa (oD (fun K=>CJ (es (K.dq 2 54))))
                 (Aa (oD (fun K=>Au (es (K.dq 3 55))))
                 (Aa (oG f (fun K=>Ad (K.kO 5) (QO _ _)))
                 (Aa (oG f (fun K=>As Bh (es (K.dq 5 57)) (y.bk.ext K.AD) rfl))
                 (Aa (oX f (fun K=>(Aj DR rfl (Dx (es (K.dq 6 58)) (ec (v:=I 0)) (ec (v:=I 100))) (GZ aR g.Dn 0 100 ZA _ aD cI)).mono (fun _ _ h=>⟨h.2,h.1⟩)))
                 (Aa (oG f (fun K=>CJ (es (K.dq 7 59))))
                 (Aa (oD (fun K=>Bo (es (K.dq 4 56)) f (es (K.dq 8 60))))
                 (Aa (oD (fun K=>Au (es (K.dq 9 61))))
                 (Aa (oG i (fun K=>Au (es ((K.out 4 rfl).trans aI))))
                 (Aa (oG i (fun K=>Gs (es (K.dq 11 63)) (ec (v:=I 0))))
                 (Aa (oG i (fun K=>Au (es (K.dq 12 64))))
                 (Aa (oT d)
                 (Aa (oT d)
                 (Aa (oT d)
                 (Aa (oT d)
                 (Aa (oT d)
                 (Aa (oT d)
                 (Aa (oT d)
                 (Aa (oT d)
                 (Aa (oT d)
                 (Aa (oT d)
                 (Aa (oT d)
                 (Aa (oU)
                 (Aa (oU)
                 (Aa (oU)
                 (Aa (oU)
                 (Aa (oU)
                 (Aa (oU)
                 (Aa (oU)
                 (Aa (oU)
                 (Aa (oU)
                 (BI _))))))))))))))))))))))))))))))))))) ?_
             intro d4;rintro _ rfl _ rfl _ rfl _ rfl _ rfl _ rfl _ rfl _ rfl _ rfl _ rfl _ rfl _ rfl _ rfl _ rfl _ rfl _ rfl _ rfl _ rfl _ rfl _ rfl _ rfl _ rfl _ rfl _ rfl _ rfl _ rfl _ rfl _ rfl _ rfl _ rfl _ rfl _ rfl _ rfl _ rfl aK;have gS:=cQ.ext aK;refine FT rfl rfl rfl rfl (by decide)<|wF d<|wG i (fun st=>Bo (v:=.bool false) (eR st) d (eR st))<|wD (fun st=>Bo (v:=.bool false) (eR st) i (eR st))<|wn<|An rfl rfl<|Ct<|CS<|Al<|wM (v:=I e) aI ?_;replace a:=AF a;obtain⟨gT,a⟩:=a;refine wD (fun st=>BG (eR st) (eR st) gT)<|wA (v:=I (e+1)) rfl<|AU ?_;have gU:=gS.erase 0;have fB:=(((aW.ext aX.gr).gr y.gr (bY.nq 1 0)).ext aK);have ⟨dH,dI,dJ,dK,dL,dM⟩:=Cp aZ a0 a2 aT a3 a4 (mt (AA aX) (mt (bY.Co y.gr 0 rfl) (mt (Ac aK) (AV 0))));refine Bi bT (Nat.lt_succ_self _) (fun st=>?_);exact⟨(e+1),a,qo st,sp st 1 aP,sp st 4 rfl,gU,fB,dH,dI,dJ,dK,dL,dM⟩
         ·replace a:=Aq a bX;refine An rfl bX<|Dq ?_;obtain rfl:=oi a;refine BC (fun st=>?_);exact .inr ⟨rfl,(),rfl,qo st,sp st 1 aP,e3,aW,aZ,a0,a2,aT,a3,a4⟩
       case f7=>
        rintro bW iH iM (⟨rfl,bG,rfl,b6,eT,cJ⟩|⟨rfl,bG,rfl,b6,eU,cJ,eV,cS,cT,cU,cV,cW,cX⟩)
        ·skip
         replace a:=C9 a;refine lf b6<|Dd ?_;obtain rfl:=oi a;refine Ay rfl eT ?_;exact⟨cJ.AS,rfl⟩
        ·skip
         replace a:=Da a;refine lf b6<|AZ<|BS<|Af<|cr<|wA (v:=I 0) rfl<|wn<|AI ?_;replace a:=bind_some a;obtain⟨z37,bI,a⟩:=a;refine BX (fun bW z m=>(bW=.ret∧∃bJ,z37=.inl bJ∧Fo X0 149 z∧sl z 2=I bJ∧Hp FN [] w [some b1] m)∨(bW=.exit 2∧∃bJ,z37=.inr bJ∧Fo X0 149 z∧sl z 1=pt b1 0∧Hp FN [] w [some b1] m∧Bk m b1 67 (Ai aE aF aA aB aG aH o p s t u x b).toArray∧Sl Az m (zf Z w [some b1]) aE aF b.Ag∧Sl (Bs (Ao .i64)) m (zf Z w [some b1]) aA aB b.Ab∧Sl AH m (zf Z w [some b1]) aG aH b.Ak∧Sl Ba m (zf Z w [some b1]) o p b.AJ∧Sl Bc m (zf Z w [some b1]) s t b.Aw∧Sl Bp m (zf Z w [some b1]) u x b.Ar)) ?gV ?gW
         case gV=>
          clear a;refine BW (fun bT z m=>∃aM,Fl aR b bT aM=some z37∧Fo X0 149 z∧sl z 1=pt b1 0∧sl z 6=I aM∧Hp FN [] w [some b1] m∧Bk m b1 67 (Ai aE aF aA aB aG aH o p s t u x b).toArray∧Sl Az m (zf Z w [some b1]) aE aF b.Ag∧Sl (Bs (Ao .i64)) m (zf Z w [some b1]) aA aB b.Ab∧Sl AH m (zf Z w [some b1]) aG aH b.Ak∧Sl Ba m (zf Z w [some b1]) o p b.AJ∧Sl Bc m (zf Z w [some b1]) s t b.Aw∧Sl Bp m (zf Z w [some b1]) u x b.Ar) aR ?gX ?gY
          case gX=>
           intro st;exact⟨(0:Int),bI,qo st,sp st 1 eU,sp st 6 rfl,cJ,eV,cS,cT,cU,cV,cW,cX⟩
          case gY=>
           rintro(_|bT) iN iO ⟨aM,bI,fZ,aQ,a5,dN,aL,bN,bO,bP,bQ,a7,bR⟩
           ·exact absurd (show none=some _ from bI) (by simp)
           rw[Fl.eq_2] at bI;have a:=bI;clear bI;refine ro fZ<|Af<|cr<|wM (v:=I aM) a5<|wD (fun st=>Ad (ee st aQ) (Hx _ _))<|wD (fun st=>As (v:=.slice s b.Aw.length t) IG (eR st) aL rfl)<|wD (fun st=>Be Tryz.underlying64 (eR st))<|wD (fun st=>B9 (eR st) (eR st))<|wn ?_;rcases Ae (decide (aM<(b.Aw.length:Int))) with b7|b7
           ·replace a:=Ap a b7;refine Am rfl b7<|cn<|Af<|AI<|Af ?_;replace a:=AP a;obtain⟨i40,d7,fC,gZ,fD,a⟩:=a;obtain⟨d8,d9,_,fE,rfl,fF⟩:=Sl.elem a7 (by decide) gZ;replace a:=AF a;obtain⟨fG,a⟩:=a;replace a:=bind_some a;obtain⟨a8,fH,a⟩:=a;rcases Ae (!a8) with q|q
            ·replace a:=Ap a q;have hU:a8=false:=by simpa using q
             refine BK 16 [Kc (pt b1 5),Kc (.slice s b.Aw.length t),Kc (I aM),Kc (pt d8 (d9+i40*2)),Kc (pt d8 (d9+i40*2)),Kc (I d7.Dh),Kc (pt b1 4),Kc (.slice o b.AJ.length p),Kc (I (b.AJ.length:Int)),Kc (I ((b.AJ.length:Int)-1)),Kc (.bool a8),Kc (.bool !a8),Kc (.bool !a8),Kc undef,Kc undef,Kc undef] mixed rfl rfl
                 (Aa (oD (fun K=>Ad (es ((K.out 1 rfl).trans aQ)) (Hx _ _)))
                 (Aa (oD (fun K=>As IG (es (K.dq 0 97)) (aL.ext K.AD) rfl))
                 (Aa (oD (fun K=>Au (es ((K.out 6 rfl).trans a5))))
                 (Aa (oD (fun K=>BD (k:=i40) Tryz.underlying64 Mr (es (K.dq 1 98)) fE (es (K.dq 2 99)) fC fD))
                 (Aa (oD (fun K=>Ad (es (K.dq 3 100)) (QP _ _ _)))
                 (Aa (oD (fun K=>Bb Bh (es (K.dq 4 101)) (fF.mv (Ac K.AD)) rfl))
                 (Aa (oD (fun K=>Ad (es ((K.out 1 rfl).trans aQ)) (Jj _ _)))
                 (Aa (oD (fun K=>As Ks (es (K.dq 6 103)) (aL.ext K.AD) rfl))
                 (Aa (oD (fun K=>Be Tryz.underlying63 (es (K.dq 7 104))))
                 (Aa (oD (fun K=>El (es (K.dq 8 105)) (ec (v:=I 1)) fG))
                 (Aa (oE (fun K=>(Aj DR rfl (Dx (es (K.dq 5 102)) (ec (v:=I 0)) (es (K.dq 9 106))) (GZ aR d7.Dh 0 ((b.AJ.length:Int)-1) ZA _ a8 fH)).mono (fun _ _ h=>⟨h.2,h.1⟩)))
                 (Aa (oD (fun K=>CJ (es (K.dq 10 107))))
                 (Aa (oD (fun K=>Au (es (K.dq 11 108))))
                 (Aa (oT q)
                 (Aa (oT q)
                 (Aa (oT q)
                 (BI _))))))))))))))))) ?_
             intro iE;rintro _ rfl _ rfl _ rfl _ rfl _ rfl _ rfl _ rfl _ rfl _ rfl _ rfl _ rfl _ rfl _ rfl _ rfl _ rfl _ rfl bB;have g0:=dN.ext bB;refine wF q<|wF q<|wF q<|wF q<|wF q<|wD (fun st=>AW (v:=.bool true) (eR st) q (eR st))<|wn<|Am rfl rfl<|cr<|wA (v:=I 1) rfl<|wn<|Av<|Dd<|AG ?_;obtain rfl:=oi a;refine BC (fun st=>?_);exact .inl ⟨rfl,(1:Int),rfl,qo st,sp st 2 rfl,g0⟩
            ·replace a:=Aq a q;have hV:a8=true:=by simpa using q
             refine BK 16 [Kc (pt b1 5),Kc (.slice s b.Aw.length t),Kc (I aM),Kc (pt d8 (d9+i40*2)),Kc (pt d8 (d9+i40*2)),Kc (I d7.Dh),Kc (pt b1 4),Kc (.slice o b.AJ.length p),Kc (I (b.AJ.length:Int)),Kc (I ((b.AJ.length:Int)-1)),Kc (.bool a8),Kc (.bool !a8),Kc (.bool !a8),Kc (pt b1 5),Kc (.slice s b.Aw.length t),Kc (I aM)] mixed rfl rfl
                 (Aa (oD (fun K=>Ad (es ((K.out 1 rfl).trans aQ)) (Hx _ _)))
                 (Aa (oD (fun K=>As IG (es (K.dq 0 97)) (aL.ext K.AD) rfl))
                 (Aa (oD (fun K=>Au (es ((K.out 6 rfl).trans a5))))
                 (Aa (oD (fun K=>BD (k:=i40) Tryz.underlying64 Mr (es (K.dq 1 98)) fE (es (K.dq 2 99)) fC fD))
                 (Aa (oD (fun K=>Ad (es (K.dq 3 100)) (QP _ _ _)))
                 (Aa (oD (fun K=>Bb Bh (es (K.dq 4 101)) (fF.mv (Ac K.AD)) rfl))
                 (Aa (oD (fun K=>Ad (es ((K.out 1 rfl).trans aQ)) (Jj _ _)))
                 (Aa (oD (fun K=>As Ks (es (K.dq 6 103)) (aL.ext K.AD) rfl))
                 (Aa (oD (fun K=>Be Tryz.underlying63 (es (K.dq 7 104))))
                 (Aa (oD (fun K=>El (es (K.dq 8 105)) (ec (v:=I 1)) fG))
                 (Aa (oE (fun K=>(Aj DR rfl (Dx (es (K.dq 5 102)) (ec (v:=I 0)) (es (K.dq 9 106))) (GZ aR d7.Dh 0 ((b.AJ.length:Int)-1) ZA _ a8 fH)).mono (fun _ _ h=>⟨h.2,h.1⟩)))
                 (Aa (oD (fun K=>CJ (es (K.dq 10 107))))
                 (Aa (oD (fun K=>Au (es (K.dq 11 108))))
                 (Aa (oG q (fun K=>Ad (es ((K.out 1 rfl).trans aQ)) (Hx _ _)))
                 (Aa (oG q (fun K=>As IG (es (K.dq 13 110)) (aL.ext K.AD) rfl))
                 (Aa (oG q (fun K=>Au (es ((K.out 6 rfl).trans a5))))
                 (BI _))))))))))))))))) ?_
             intro iE;rintro _ rfl _ rfl _ rfl _ rfl _ rfl _ rfl _ rfl _ rfl _ rfl _ rfl _ rfl _ rfl _ rfl _ rfl _ rfl _ rfl bB;have g1:=dN.ext bB;replace a:=AP a;obtain⟨i46,f4,g2,g3,g4,a⟩:=a;have b8:=(a7.mv (Ac bB));obtain⟨iZ,i0,_,g5,rfl,g6⟩:=Sl.elem b8 (by decide) g3;refine wG q (fun st=>BD (k:=i46) Tryz.underlying64 Mr (eR st) g5 (eR st) g2 g4)<|wG q (fun st=>Ad (eR st) (PO _ _ _))<|wG q (fun st=>Fu (v:=I f4.Df) Bh (eR st) g6 rfl) ?_;replace a:=bind_some a;obtain⟨cY,g7,a⟩:=a;refine wX q (fun st=>Aj DR (eR st) (Dx (eR st) (eR st) (eR st)) (GZ aR f4.Df 1 90 ZA _ cY g7)) ?_;rintro _ i1 ⟨b9,rfl⟩;have fI:=g1.ext b9;refine wG q (fun st=>CJ (eR st))<|wD (fun st=>Bo (v:=.bool !cY) (eR st) q (eR st))<|wn ?_;rcases Ae (!cY) with bC|bC
             ·replace a:=Ap a bC;have hW:cY=false:=by simpa using bC
              refine Am rfl bC<|cr<|wA (v:=I 1) rfl<|wn<|Av<|Dd<|AG ?_;obtain rfl:=oi a;refine BC (fun st=>?_);exact .inl ⟨rfl,(1:Int),rfl,qo st,sp st 2 rfl,fI⟩
             ·replace a:=Aq a bC;have hX:cY=true:=by simpa using bC
              refine An rfl bC<|Ct<|CS<|Al<|wM (v:=I aM) a5 ?_;replace a:=AF a;obtain⟨g8,a⟩:=a;refine wD (fun st=>BG (eR st) (eR st) g8)<|wA (v:=I (aM+1)) rfl<|AU ?_;have fJ:=((aL.ext bB).ext b9);have ⟨dO,dP,dQ,dR⟩:=Et bN bO bP bQ (mt (Ac bB) (Ac b9));have dS:=(b8.mv (Ac b9));have dT:=((bR.mv (Ac bB)).mv (Ac b9));refine Bi bT (Nat.lt_succ_self _) (fun st=>?_);exact⟨(aM+1),a,qo st,sp st 1 aQ,sp st 6 rfl,fI,fJ,dO,dP,dQ,dR,dS,dT⟩
           ·replace a:=Aq a b7;refine An rfl b7<|Dq ?_;obtain rfl:=oi a;refine BC (fun st=>?_);exact .inr ⟨rfl,(),rfl,qo st,sp st 1 aQ,dN,aL,bN,bO,bP,bQ,a7,bR⟩
         case gW=>
          rintro bW iI iP (⟨rfl,bJ,rfl,cA,eW,cK⟩|⟨rfl,bJ,rfl,cA,eX,cK,eY,cZ,c0,c1,c2,c3,c4⟩)
          ·skip
           replace a:=C9 a;refine lf cA<|Dd ?_;obtain rfl:=oi a;refine Ay rfl eW ?_;exact⟨cK.AS,rfl⟩
          ·skip
           replace a:=Da a;refine lf cA<|AZ<|BS<|Af<|cr<|wA (v:=I 0) rfl<|wn<|AI ?_;replace a:=bind_some a;obtain⟨z53,bK,a⟩:=a;refine BX (fun bW z m=>(bW=.ret∧∃bL,z53=.inl bL∧Fo X0 149 z∧sl z 2=I bL∧Hp FN [] w [some b1] m)∨(bW=.exit 4∧∃bL,z53=.inr bL∧Fo X0 149 z∧Hp FN [] w [some b1] m)) ?g9 ?hA
           case g9=>
            clear a;refine BW (fun bT z m=>∃aN,Fm aR b bT aN=some z53∧Fo X0 149 z∧sl z 1=pt b1 0∧sl z 7=I aN∧Hp FN [] w [some b1] m∧Bk m b1 67 (Ai aE aF aA aB aG aH o p s t u x b).toArray∧Sl Az m (zf Z w [some b1]) aE aF b.Ag∧Sl (Bs (Ao .i64)) m (zf Z w [some b1]) aA aB b.Ab∧Sl AH m (zf Z w [some b1]) aG aH b.Ak∧Sl Ba m (zf Z w [some b1]) o p b.AJ∧Sl Bc m (zf Z w [some b1]) s t b.Aw∧Sl Bp m (zf Z w [some b1]) u x b.Ar) aR ?hB ?hC
            case hB=>
             intro st;exact⟨(0:Int),bK,qo st,sp st 1 eX,sp st 7 rfl,cK,eY,cZ,c0,c1,c2,c3,c4⟩
            case hC=>
             rintro(_|bT) iQ iR ⟨aN,bK,f0,aS,a9,dU,aO,c5,c6,c7,c8,c9,bS⟩
             ·exact absurd (show none=some _ from bK) (by simp)
             rw[Fm.eq_2] at bK;have a:=bK;clear bK;refine ro f0<|Af<|cr<|wM (v:=I aN) a9<|wD (fun st=>Ad (ee st aS) (EN _ _))<|wD (fun st=>As (v:=.slice u b.Ar.length x) FE (eR st) aO rfl)<|wD (fun st=>Be Tryz.underlying65 (eR st))<|wD (fun st=>B9 (eR st) (eR st))<|wn ?_;rcases Ae (decide (aN<(b.Ar.length:Int))) with cB|cB
             ·replace a:=Ap a cB;refine Am rfl cB<|cn<|Af<|AI<|Af ?_;replace a:=AP a;obtain⟨i56,eA,fK,hD,fL,a⟩:=a;obtain⟨eB,eC,_,fM,rfl,fN⟩:=Sl.elem bS (by decide) hD;replace a:=AF a;obtain⟨fO,a⟩:=a;replace a:=bind_some a;obtain⟨bA,fP,a⟩:=a;rcases Ae (!bA) with r|r
              ·replace a:=Ap a r;have hY:bA=false:=by simpa using r
               refine BK 17 [Kc (pt b1 6),Kc (.slice u b.Ar.length x),Kc (I aN),Kc (pt eB (eC+i56*3)),Kc (pt eB (eC+i56*3)),Kc (I eA.Ce),Kc (pt b1 0),Kc (pt b1 1),Kc (.slice aA b.Ab.length aB),Kc (I (b.Ab.length:Int)),Kc (I ((b.Ab.length:Int)-1)),Kc (.bool bA),Kc (.bool !bA),Kc (.bool !bA),Kc undef,Kc undef,Kc undef] mixed rfl rfl
                   (Aa (oD (fun K=>Ad (es ((K.out 1 rfl).trans aS)) (EN _ _)))
                   (Aa (oD (fun K=>As FE (es (K.dq 0 126)) (aO.ext K.AD) rfl))
                   (Aa (oD (fun K=>Au (es ((K.out 7 rfl).trans a9))))
                   (Aa (oD (fun K=>BD (k:=i56) Tryz.underlying65 J4 (es (K.dq 1 127)) fM (es (K.dq 2 128)) fK fL))
                   (Aa (oD (fun K=>Ad (es (K.dq 3 129)) (Mp _ _ _)))
                   (Aa (oD (fun K=>Bb Bh (es (K.dq 4 130)) (fN.mv (Ac K.AD)) rfl))
                   (Aa (oD (fun K=>Ad (es ((K.out 1 rfl).trans aS)) (DQ _ _)))
                   (Aa (oD (fun K=>Ad (es (K.dq 6 132)) (DP _ _)))
                   (Aa (oD (fun K=>As DH (es (K.dq 7 133)) (aO.ext K.AD) rfl))
                   (Aa (oD (fun K=>Be Tryz.underlying23 (es (K.dq 8 134))))
                   (Aa (oD (fun K=>El (es (K.dq 9 135)) (ec (v:=I 1)) fO))
                   (Aa (oE (fun K=>(Aj DR rfl (Dx (es (K.dq 5 131)) (ec (v:=I 0)) (es (K.dq 10 136))) (GZ aR eA.Ce 0 ((b.Ab.length:Int)-1) ZA _ bA fP)).mono (fun _ _ h=>⟨h.2,h.1⟩)))
                   (Aa (oD (fun K=>CJ (es (K.dq 11 137))))
                   (Aa (oD (fun K=>Au (es (K.dq 12 138))))
                   (Aa (oT r)
                   (Aa (oT r)
                   (Aa (oT r)
                   (BI _)))))))))))))))))) ?_
               intro iF;rintro _ rfl _ rfl _ rfl _ rfl _ rfl _ rfl _ rfl _ rfl _ rfl _ rfl _ rfl _ rfl _ rfl _ rfl _ rfl _ rfl _ rfl bM;have hE:=dU.ext bM;refine wF r<|wF r<|wF r<|wF r<|wF r<|wD (fun st=>AW (v:=.bool true) (eR st) r (eR st))<|wn<|Am rfl rfl<|cr<|wA (v:=I 1) rfl<|wn<|Av<|Dd<|AG ?_;obtain rfl:=oi a;refine BC (fun st=>?_);exact .inl ⟨rfl,(1:Int),rfl,qo st,sp st 2 rfl,hE⟩
              ·replace a:=Aq a r;have hZ:bA=true:=by simpa using r
               refine BK 17 [Kc (pt b1 6),Kc (.slice u b.Ar.length x),Kc (I aN),Kc (pt eB (eC+i56*3)),Kc (pt eB (eC+i56*3)),Kc (I eA.Ce),Kc (pt b1 0),Kc (pt b1 1),Kc (.slice aA b.Ab.length aB),Kc (I (b.Ab.length:Int)),Kc (I ((b.Ab.length:Int)-1)),Kc (.bool bA),Kc (.bool !bA),Kc (.bool !bA),Kc (pt b1 6),Kc (.slice u b.Ar.length x),Kc (I aN)] mixed rfl rfl
                   (Aa (oD (fun K=>Ad (es ((K.out 1 rfl).trans aS)) (EN _ _)))
                   (Aa (oD (fun K=>As FE (es (K.dq 0 126)) (aO.ext K.AD) rfl))
                   (Aa (oD (fun K=>Au (es ((K.out 7 rfl).trans a9))))
                   (Aa (oD (fun K=>BD (k:=i56) Tryz.underlying65 J4 (es (K.dq 1 127)) fM (es (K.dq 2 128)) fK fL))
                   (Aa (oD (fun K=>Ad (es (K.dq 3 129)) (Mp _ _ _)))
                   (Aa (oD (fun K=>Bb Bh (es (K.dq 4 130)) (fN.mv (Ac K.AD)) rfl))
                   (Aa (oD (fun K=>Ad (es ((K.out 1 rfl).trans aS)) (DQ _ _)))
                   (Aa (oD (fun K=>Ad (es (K.dq 6 132)) (DP _ _)))
                   (Aa (oD (fun K=>As DH (es (K.dq 7 133)) (aO.ext K.AD) rfl))
                   (Aa (oD (fun K=>Be Tryz.underlying23 (es (K.dq 8 134))))
                   (Aa (oD (fun K=>El (es (K.dq 9 135)) (ec (v:=I 1)) fO))
                   (Aa (oE (fun K=>(Aj DR rfl (Dx (es (K.dq 5 131)) (ec (v:=I 0)) (es (K.dq 10 136))) (GZ aR eA.Ce 0 ((b.Ab.length:Int)-1) ZA _ bA fP)).mono (fun _ _ h=>⟨h.2,h.1⟩)))
                   (Aa (oD (fun K=>CJ (es (K.dq 11 137))))
                   (Aa (oD (fun K=>Au (es (K.dq 12 138))))
                   (Aa (oG r (fun K=>Ad (es ((K.out 1 rfl).trans aS)) (EN _ _)))
                   (Aa (oG r (fun K=>As FE (es (K.dq 14 140)) (aO.ext K.AD) rfl))
                   (Aa (oG r (fun K=>Au (es ((K.out 7 rfl).trans a9))))
                   (BI _)))))))))))))))))) ?_
               intro iF;rintro _ rfl _ rfl _ rfl _ rfl _ rfl _ rfl _ rfl _ rfl _ rfl _ rfl _ rfl _ rfl _ rfl _ rfl _ rfl _ rfl _ rfl bM;have hF:=dU.ext bM;replace a:=AP a;obtain⟨i62,eD,hG,hH,hI,a⟩:=a;have cC:=(bS.mv (Ac bM));obtain⟨i2,i3,_,hJ,rfl,hL⟩:=Sl.elem cC (by decide) hH;refine wG r (fun st=>BD (k:=i62) Tryz.underlying65 J4 (eR st) hJ (eR st) hG hI)<|wG r (fun st=>Ad (eR st) (MY _ _ _))<|wG r (fun st=>L9 (l:=[I eD.CA,I eD.CB]) GR (eR st) hL rfl rfl) ?_;replace a:=bind_some a;obtain⟨dA,hM,a⟩:=a;refine wX r (fun st=>Aj U5 (eR st) (Dx (eR st) (eR st) (eR st)) (a90 aR (⟨eD.CA,eD.CB⟩:Bl) 0 9000 ZA _ dA hM)) ?_;rintro _ i4 ⟨cL,rfl⟩;have fQ:=hF.ext cL;refine wG r (fun st=>CJ (eR st))<|wD (fun st=>Bo (v:=.bool !dA) (eR st) r (eR st))<|wn ?_;rcases Ae (!dA) with bD|bD
               ·replace a:=Ap a bD;have h3:dA=false:=by simpa using bD
                refine Am rfl bD<|cr<|wA (v:=I 1) rfl<|wn<|Av<|Dd<|AG ?_;obtain rfl:=oi a;refine BC (fun st=>?_);exact .inl ⟨rfl,(1:Int),rfl,qo st,sp st 2 rfl,fQ⟩
               ·replace a:=Aq a bD;have h4:dA=true:=by simpa using bD
                refine An rfl bD<|Ct<|CS<|Al<|wM (v:=I aN) a9 ?_;replace a:=AF a;obtain⟨hN,a⟩:=a;refine wD (fun st=>BG (eR st) (eR st) hN)<|wA (v:=I (aN+1)) rfl<|AU ?_;have fR:=((aO.ext bM).ext cL);have ⟨dV,dW,dX,dY,dZ⟩:=mv5 c5 c6 c7 c8 c9 (mt (Ac bM) (Ac cL));have d0:=(cC.mv (Ac cL));refine Bi bT (Nat.lt_succ_self _) (fun st=>?_);exact⟨(aN+1),a,qo st,sp st 1 aS,sp st 7 rfl,fQ,fR,dV,dW,dX,dY,dZ,d0⟩
             ·replace a:=Aq a cB;refine An rfl cB<|Dq ?_;obtain rfl:=oi a;refine BC (fun st=>?_);exact .inr ⟨rfl,(),rfl,qo st,dU⟩
           case hA=>
            rintro bW iJ iS (⟨rfl,bL,rfl,cD,eZ,cM⟩|⟨rfl,bL,rfl,cD,cM⟩)
            ·skip
             replace a:=C9 a;refine lf cD<|Dd ?_;obtain rfl:=oi a;refine Ay rfl eZ ?_;exact⟨cM.AS,rfl⟩
            ·skip
             replace a:=Da a;refine lf cD<|AZ<|BS<|cr<|wA (v:=I 0) rfl<|wn<|Av ?_;obtain rfl:=oi a;refine Ay rfl rfl ?_;exact⟨cM.AS,rfl⟩
end Go.Proofs.YtbhofkcbfblijaaGreat
end
