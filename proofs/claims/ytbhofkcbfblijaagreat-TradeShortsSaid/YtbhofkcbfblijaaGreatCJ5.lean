import Derived.Test.YtbhofkcbfblijaaGreatCJ4
import Derived.WalkKit
import Derived.KernelRfl
import Derived.WalkSpells
import Derived.WalkLawsBesides
import Derived.Maps.AppendAt
import Derived.OrdersIn
import Derived.RangeFuncIn
import Derived.RangeFuncLeaves
import Derived.RangeFuncRecord
import Derived.RangeFuncSeq
import Derived.Scope
import Derived.DeepKeys3
import Derived.Laws.CopyRow
import Derived.Laws.OwnMore
import Derived.Laws.MakeOwn
import Derived.Laws.IdiomCopy
import Derived.Sort.OwnSortedInts
import Derived.Lib.RowBridge
import Derived.Shelf.Sort.Plain
import Derived.Ground.Names2Prog
import Derived.Shelf.Slices.Clone
import Derived.Shelf.Slices.CompactI
import Derived.Shelf.Slices.In.SortNone
import Derived.Ground.SlgnProg
import Derived.Shelf.SlicesE.Clone
import Derived.Test.YtbhofkcbfblijaaGreatProg
/-
  The contracts of the functions of the program and of the reference, and the logic that they are proved in: the base that several claims of this seat share.
-/
set_option linter.all false
section
namespace Go.Proofs.YtbhofkcbfblijaaGreat
open Go.RowKit Go.WideShapes
set_option maxRecDepth 20000
open HF
attribute [local irreducible] Cg WL CC CW LV BN Hb EX One Ba
theorem AaB dB e aL q r s t u y z aA aB aC aD aE aF aG aH aI j l bU g(Z:Nat→Prop) w(d0:Bw FN [some g] w)(d1:∀b,Z b→¬FN b∧some b∉[some g])(cR:Sl Ax w Z q r e.Av)(cS:Sl (Bx (Al .i64)) w Z s t e.Aw)(cT:Sl AF w Z u y e.As)(cU:Sl AT w Z z aA e.AM)(cV:Sl AW w Z aB aC e.AN)(cW:Sl Bj w Z aD aE e.Bf)(cX:Sl (Al .i64) w Z aF aG e.weights)(cY:Sl Cs w Z aH aI e.B5)(d2:Rz w Z (some ⟨bU,0,none⟩) (C6 q r s t u y z aA aB aC aD aE aF aG aH aI g e))(cZ:Sl (Al .i64) w Z j l aL)(d3:Cy (fun x:Int=>I x) w g 2 e.known) dC(d:Fh dB e aL=some dC):
 BN Tryz.prog 121 #[pt bU 0,.slice j aL.length l] w (fun v w'=>BX (FU FN [some g]) w w'∧BE.R w' (zf Z w [some g]) v dC.1∧Cy (fun x:Int=>I x) w' g 2 dC.2):=by
 unfold Fh at d;refine rq (N:=32) Tryz.func121 fun e1 ha e2=>?_;have dD:=sA 0 ha;have cI:=sA 1 ha;clear ha;obtain⟨bD,e3,a3,cJ,dE⟩:=Iu d0 d1;have ⟨a4,a5,a6,a7,a8,a9,bA,bB⟩:=EZ cR cS cT cU cV cW cX cY (AS (L:=[some g]) cJ w);have bP:=d2.mv (AS (L:=[some g]) cJ w);have bV:=cZ.mv (AS (L:=[some g]) cJ w);refine cr<|wA (v:=.bool false) rfl<|wr<|wA (v:=.slice none 0 0) rfl<|wr<|wM (v:=pt bU 0) dD ?_;replace d:=bind_some d;obtain⟨bE,d4,d⟩:=d;refine wE (fun st=>Ak Tj (eR st) (Cd (eR st)) (AaA dB e q r s t u y z aA aB aC aD aE aF aG aH aI bU g (zb bD Z w [some g]) _ (a3.CH (F':=FN) (M:=[some g]) (C:=[]) [0] [] rfl ⟨rfl,trivial⟩ trivial eL) (a3.zz (F':=FN) (M:=[some g]) (C:=[]) [0] [] ⟨rfl,trivial⟩ trivial eL) a4 a5 a6 a7 a8 a9 bA bB bP d3 bE d4)) ?_;rintro _ w2 ⟨cK,⟨aO,aP,rfl,cL⟩,c0⟩;have d5:=a3.Cn cK (AQ [0] ⟨rfl,trivial⟩ eL);have bM:=cL.mv (a3.call (M:=[some g]) (Nat.le_refl _) (Ch ⟨.inl ⟨0,rfl⟩,trivial⟩) (fun _ h=>.inl h));refine wA (v:=.slice aO bE.1.length aP) rfl<|wn<|Af<|cr<|wM (v:=.slice j aL.length l) cI<|wD (fun st=>Bn Tryz.underlying31 (eR st))<|wM (v:=I 0) rfl<|wn<|AI ?_;have d6:=d5.nil;have d7:Bp (Al .i64) 3 w.heap.size w2 (zb bD Z w [none,some g]) none 0 ([]:List Int):=Bp.nil _ _ _ _ _;replace d:=bind_some d;obtain⟨z3,bC,d⟩:=d;refine BQ (fun d8 o f=>(d8=.exit 0∧∃a c,Fo X0 32 o∧sl o 1=.slice j aL.length l∧sl o 5=.slice a z3.length c∧Hp FN bD w [ob a,some g] f∧(fun i=>Bp (Al .i64) 3 w.heap.size f i a c z3∧Sl Ax f i q r e.Av∧Sl (Bx (Al .i64)) f i s t e.Aw∧Sl AF f i u y e.As∧Sl AT f i z aA e.AM∧Sl AW f i aB aC e.AN∧Sl Bj f i aD aE e.Bf∧Sl (Al .i64) f i aF aG e.weights∧Sl Cs f i aH aI e.B5∧Sl (Al .i64) f i j l aL∧Cy (fun x:Int=>I x) f g 2 bE.2∧Rz f i (some ⟨bU,0,none⟩) (C6 q r s t u y z aA aB aC aD aE aF aG aH aI g e)) (zb bD Z w [ob a,some g]))) ?d9 ?eA
 case d9=>
  clear d;refine BP (fun dF o f=>∃aJ,∃p,∃m aM,Ej aL bE dF aJ p=some z3∧Fo X0 32 o∧sl o 1=.slice j aL.length l∧sl o 5=.slice m aJ.length aM∧sl o 6=.slice aO bE.1.length aP∧sl o 11=.slice j aL.length l∧sl o 12=I (aL.length:Int)∧sl o 13=I p∧Hp FN bD w [ob m,some g] f∧(fun i=>Bp (Al .i64) 3 w.heap.size f i m aM aJ∧Sl Ax f i q r e.Av∧Sl (Bx (Al .i64)) f i s t e.Aw∧Sl AF f i u y e.As∧Sl AT f i z aA e.AM∧Sl AW f i aB aC e.AN∧Sl Bj f i aD aE e.Bf∧Sl (Al .i64) f i aF aG e.weights∧Sl Cs f i aH aI e.B5∧Sl (Al .i64) f i j l aL∧Sl (Bx (Al .i64)) f i aO aP bE.1∧Cy (fun x:Int=>I x) f g 2 bE.2∧Rz f i (some ⟨bU,0,none⟩) (C6 q r s t u y z aA aB aC aD aE aF aG aH aI g e)) (zb bD Z w [ob m,some g])) dB ?eB ?eC
  case eB=>
   intro st;have ⟨bW,bX,bY,bZ,b4,b5,b6,b7,b8⟩:=O2 a4 a5 a6 a7 a8 a9 bA bB bV (mt (a3.Em cK (AQ [0] ⟨rfl,trivial⟩ eL)) Bv);have bN:=(bM.mv Bv);have c1:=c0;have c2:=((bP.mv (a3.Em cK (AQ [0] ⟨rfl,trivial⟩ eL))).mv Bv);exact⟨([]:List Int),(0:Int),none,0,bC,qo st,sp st 1 cI,sp st 5 rfl,sp st 6 rfl,sp st 11 rfl,sp st 12 rfl,sp st 13 rfl,d6,d7,bW,bX,bY,bZ,b4,b5,b6,b7,b8,bN,c1,c2⟩
  case eC=>
   rintro(_|dF) e4 e5 ⟨aJ,p,m,aM,bC,dG,bQ,bR,bS,bF,bG,aQ,aR,aS,aT,aU,aV,aW,aX,aY,aZ,a0,aK,aN,bH,bI⟩
   ·exact absurd (show none=some _ from bC) (by simp)
   rw[Ej.eq_2] at bC;have d:=bC;clear bC;refine ro dG<|cr<|wD (fun st=>B8 (ee st aQ) (ee st bG))<|wn<|Af ?_;rcases Ae (decide (p<(aL.length:Int))) with bJ|bJ
   ·replace d:=Am d bJ;refine Ah rfl bJ<|cn<|Af<|AI<|Af<|Ai ?_;replace d:=Bi d;obtain⟨i6,dH,eD,eE,eF,d⟩:=d;obtain⟨e7,e8,_,eG,rfl,eH⟩:=Sl.CR aK rfl eE;refine wD (fun st=>BA (k:=i6) Tryz.underlying31 Dy (ee st bF) eG (ee st aQ) eD eF)<|wD (fun st=>BF (v:=I dH) Bq (eR st) eH rfl)<|wA (v:=I dH) rfl<|wn<|Ai<|wM (v:=.slice m aJ.length aM) bR<|wM (v:=.slice aO bE.1.length aP) bS<|wM (v:=I dH) rfl ?_;replace d:=Bi d;obtain⟨i7,c3,eI,eJ,eK,d⟩:=d;obtain⟨e9,fA,_,eM,⟨dI,dJ,rfl,c4⟩,eN⟩:=Sl.CR aN rfl eJ;refine wD (fun st=>BA (k:=i7) Tryz.underlying23 E8 (eR st) eM (eR st) eI eK)<|wD (fun st=>BF (v:=.slice dI c3.length dJ) CU (eR st) eN rfl) ?_;replace d:=B9 d;obtain⟨c9,d⟩:=d;refine wE (fun st=>H4 (ys:=c3) Tryz.underlying31 It rfl rfl (by decide) (eR st) rfl (eR st) aS c4.n (by have:=c9;simp only[maxLen];omega) (by have:=c9;omega) aR.sz) ?_;rintro _ fB ⟨eO,eP,rfl,bK,bT,eQ⟩;have eS:=aR.row bK 0 rfl bT;have eT:=Ed eQ (aR.CL bK 0 rfl (fun k hk=>(bT k hk).1));refine wA (v:=.slice eO ((aJ++c3).length) eP) rfl<|Bc<|CG<|Ai ?_;replace d:=AJ d;obtain⟨dK,d⟩:=d;refine wD (fun st=>BK (ee st aQ) (eR st) dK)<|wM (v:=I (p+1)) rfl<|Bc ?_;have ⟨b9,cA,cB,cC,cD,cE,cF,cG,cH,bO⟩:=VM aT aU aV aW aX aY aZ a0 aK aN (aR.CL bK 0 rfl (fun k hk=>(bT k hk).1));have c5:=(bH.gr bK (aR.nq 1 0));have c6:=(bI.mv (aR.CL bK 0 rfl (fun k hk=>(bT k hk).1)));refine Br dF (Nat.lt_succ_self _) (fun st=>?_);exact⟨(aJ++c3),(p+1),eO,eP,d,qo st,sp st 1 bQ,sp st 5 rfl,sp st 6 bS,sp st 11 bF,sp st 12 bG,sp st 13 rfl,eS,eT,b9,cA,cB,cC,cD,cE,cF,cG,cH,bO,c5,c6⟩
   ·replace d:=An d bJ;refine Ao rfl bJ<|DA ?_;obtain rfl:=oi d;refine BG (fun st=>?_);exact⟨rfl,m,aM,qo st,sp st 1 bQ,sp st 5 bR,aR,aS,aT,aU,aV,aW,aX,aY,aZ,a0,aK,bH,bI⟩
 case eA=>
  rintro d8 eY e6 (⟨rfl,a,c,c7,cM,bL,cN,a2,dL,dM,dN,dO,dP,dQ,dR,dS,dT,cO,eU⟩);refine lf c7<|Be<|BM<|cr<|wM (v:=.slice a z3.length c) bL ?_;replace d:=B9 d;obtain⟨dU,d⟩:=d;refine wE (fun st=>Ak Y0 (eR st) (Cd (eR st)) (a159 z3 a c w.heap.size _ _ dU a2)) ?_;rintro _ eV ⟨rfl,cP,dV⟩;have dA:=cN.gr cP 0 rfl;have dW:Bp (Al .i64) 3 w.heap.size eV (zb bD Z w [ob a,some g]) a c (GU z3):=dV _;have dX:=(bL).trans (show(.slice a z3.length c:Value)=.slice a ((GU z3).length) c by simp only[LG]);have eZ:(.slice a z3.length c:Value)=.slice a ((GU z3).length) c:=by simp only[LG]
  refine wr<|wM (v:=.slice a ((GU z3).length) c) dX ?_;replace d:=B9 d;obtain⟨dY,d⟩:=d;refine wE (fun st=>Ak Y1 (eR st) (Cd (eR st)) (a160 (GU z3) a c w.heap.size _ _ dY dW)) ?_;rintro _ eW ⟨rfl,cQ,dZ⟩;have eX:=dA.gr cQ 0 rfl;have e0:Bp (Al .i64) 3 w.heap.size eW (zb bD Z w [ob a,some g]) a c (Lib.compact (GU z3)):=dZ _;refine wD (fun st=>Bn Tryz.underlying31 (eR st))<|wM (v:=.slice j aL.length l) cM<|wD (fun st=>Bn Tryz.underlying31 (eR st))<|wD (fun st=>B8 (eR st) (eR st))<|wA (v:=.bool (decide (((Lib.compact (GU z3)).length:Int)<(aL.length:Int)))) rfl<|wn<|Ap ?_;obtain rfl:=oi d;refine Au rfl rfl ?_;have c8:=((cO.gr cP (cN.nq 1 0)).gr cQ (dA.nq 1 0));exact⟨dE _ eX.fin,rfl,c8⟩
set_option maxHeartbeats 4000000 in
theorem Acd{eU:Type}{aU:Nat→Prop}{f8:Nat}{bU:IT eU}{d9:eU→(List Int)→Option (Bool×eU)} fM:∀aV aY c8 bH d3 bV (c9:eU) aS aT bX bY s u q r (bJ:Value) bE (Z Za:Nat→Prop) w (aO:Cb Tryz.prog bJ aU f8 bU (v1 (FE (Al .i64))) BE d9) (dJ:f8≤w.heap.size) (eA:Bw aU [some s,some u,some q,some r,bE] w) (eB:∀b,Z b→¬aU b∧some b∉[some s,some u,some q,some r,bE]) (eC:∀b,Z b→Za b) (dA:∀b,Za b→¬aU b∧some b∉[some s,some u,some q,some r,bE]) (cP:Sl (Al .i64) w Z aS aT aY) (cQ:Sl (Al .i64) w Z bX bY d3) (dK:Bk w s 31 #[.slice bX d3.length bY]) (dL:Bk w u 148 #[bJ]) (dM:Bk w q 3 #[I bV]) (dN:Bk w r 199 #[.func (.func 155) #[] #[pt s 0,pt u 0,pt q 0,pt r 0]]) (a:bU c9 w Z bE) dB (m:Ex fM d9 aV aY c8 bH d3 bV c9=some dB),
 BN Tryz.prog 155 #[.slice aS aY.length aT,I c8,I bH,pt s 0,pt u 0,pt q 0,pt r 0] w (fun v w'=>∃dO dP o',BX (FU aU [some s,some u,some q,some r,bE]) w w'∧BE.R w' (zf Z w [some s,some u,some q,some r,o']) v dB.1∧Bk w' s 31 #[.slice dO dB.2.1.length dP]∧Sl (Al .i64) w' (zf Z w [some s,some u,some q,some r,o']) dO dP dB.2.1∧Bk w' u 148 #[bJ]∧Bk w' q 3 #[I bV]∧Bk w' r 199 #[.func (.func 155) #[] #[pt s 0,pt u 0,pt q 0,pt r 0]]∧(∀k,o'=some k→(bE=some k∨w.heap.size≤k)∧k<w'.heap.size)∧bU dB.2.2 w' (zf Z w [some s,some u,some q,some r,o']) o'):=by
 intro aV
 induction aV with
 |zero=>
  intro aY c8 bH d3 bV c9 aS aT bX bY s u q r bJ bE Z Za w aO dJ eA eB eC dA cP cQ dK dL dM dN a dB m;exact absurd (show none=some _ from m) (by simp)
 |succ aV ih=>
  intro aY c8 bH d3 bV c9 aS aT bX bY s u q r bJ bE Z Za w aO dJ eA eB eC dA cP cQ dK dL dM dN a dB m;rw[Ex.eq_2] at m;refine rq (N:=37) Tryz.func155 fun gQ ha gR=>?_;have dC:=sA 0 ha;have fN:=sA 1 ha;have eD:=sA 2 ha;have fO:=sA 3 ha;have fP:=sA 4 ha;have fQ:=sA 5 ha;have fR:=sA 6 ha;clear ha;obtain⟨a7,eE,bS,fH,gK,dD⟩:=Kr eA eB dA;have ⟨cL,d4⟩:=K5 cP cQ (AS (L:=[some s,some u,some q,some r,bE]) fH w);have eF:=aO.mz a (AS (L:=[some s,some u,some q,some r,bE]) fH w);refine cr<|wA (v:=.bool false) rfl<|wn<|Af<|cr<|wM (v:=I bH) eD<|wD (fun st=>Dt (eR st) (eR st))<|wn ?_;rcases Ae (bH==0) with cW|cW
  ·replace m:=Am m cW;refine Ah rfl cW<|cr<|wM (v:=.slice aS aY.length aT) dC<|BD rfl rfl (fun st=>Bt (n:=1) (l:=[.slice aS aY.length aT]) (Cm:= #[.slice aS aY.length aT]) (ee st fO) (eR st) E8 dK rfl rfl (show 0+1≤1 by decide) (AY rfl) rfl) ?_;rintro _ w2 bT;have bK:=bS.gr bT.gr 0 rfl;refine wn<|Af<|Ai ?_;have dQ:=(dL.gr bT.gr (bS.nq 1 0));refine wD (fun st=>Ag (v:=bJ) PH (ee st fP) dQ rfl)<|wM (v:=.slice aS aY.length aT) dC ?_;have cM:=(cL.mv (bS.By bT.gr 0 rfl));have fS:bU c9 w2 (ZZ aU a7 Z w.heap.size [some s,some u,some q,some r,bE]) bE:=(aO.mg eF bS bT.gr 0 rfl 4 rfl rfl (bS.By bT.gr 0 rfl));replace m:=bind_some m;obtain⟨fT,f9,m⟩:=m;refine wE (fun st=>F1 (aO.call c9 aY fT _ (ZZ aU a7 Z w.heap.size [some s,some u,some q,some r,bE]) (ZC aU [bE]) bE #[.slice aS aY.length aT] (Nat.le_trans dJ bK.sz) (bK.zz (F':=aU) (M:=[bE]) (C:=[]) [4] [] ⟨rfl,trivial⟩ trivial (fun _ h=>.inl h)) Jf fS ⟨_,rfl,⟨_,_,rfl,(cM.mv (bK.mz (F':=aU) (M:=[bE]) (C:=[]) [4] [] ⟨rfl,trivial⟩ trivial (fun _ h=>.inl h)))⟩⟩ f9) (eR st) (Cd (eR st))) ?_;rintro _ gL ⟨eG,cN,dE,rfl,gA⟩;have fI:=bK.EF cN (AQ [4] ⟨rfl,trivial⟩ (fun _ h=>h)) 4 rfl dE;have fU:bU fT.2 gL (ZZ aU a7 Z w.heap.size [some s,some u,some q,some r,eG]) eG:=aO.mz gA (bK.call (M:=[eG]) (Nat.le_refl _) (Ch ⟨.inr (hw dE 4),trivial⟩) (CT (L:=[some s,some u,some q,some r,bE]) (y:=eG) 4 (gm 0)));refine wA (v:=.bool fT.1) rfl<|wn<|Ap<|AG ?_;obtain rfl:=oi m;refine Au rfl rfl ?_;have eV:=(bT.bk.Cn cN (bK.CI 0 rfl [4] rfl ⟨rfl,trivial⟩ (fun _ h=>h)));have d5:=(cM.mv (bK.HY cN (AQ [4] ⟨rfl,trivial⟩ (fun _ h=>h)) 4 rfl (fun k hk=>(dE k hk).1)));have eW:=(dQ.Cn cN (bK.CI 1 rfl [4] rfl ⟨rfl,trivial⟩ (fun _ h=>h)));have eX:=((dM.gr bT.gr (bS.nq 2 0)).Cn cN (bK.CI 2 rfl [4] rfl ⟨rfl,trivial⟩ (fun _ h=>h)));have eY:=((dN.gr bT.gr (bS.nq 3 0)).Cn cN (bK.CI 3 rfl [4] rfl ⟨rfl,trivial⟩ (fun _ h=>h)));exact⟨aS,aT,eG,dD _ fI.fin,rfl,eV,d5.mv (AX (BB [0,1,2,3,4] ⟨rfl,rfl,rfl,rfl,rfl,trivial⟩)),eW,eX,eY,fI.mq 4 [0,1,2,3] (M:=[some s,some u,some q,some r]) ⟨rfl,rfl,rfl,rfl,trivial⟩ eE,aO.mz fU (AX (BB [0,1,2,3,4] ⟨rfl,rfl,rfl,rfl,rfl,trivial⟩))⟩
  ·replace m:=An m cW;refine Ao rfl cW<|cn<|Af<|cr<|wM (v:=I c8) fN<|wA (v:=I c8) rfl<|wn<|AI ?_;replace m:=bind_some m;obtain⟨z5,cO,m⟩:=m;refine BQ (fun fV bL aX=>(fV=.ret∧∃bF,z5=.inl bF∧∃a3 a4,∃bN,Fo X0 37 bL∧sl bL 10=.bool bF.1∧Hp aU a7 w [some s,some u,some q,some r,bN] aX∧(fun cR=>Sl (Al .i64) aX cR a3 a4 bF.2.1∧bU bF.2.2 aX cR bN∧Bk aX s 31 #[.slice a3 bF.2.1.length a4]∧Bk aX u 148 #[bJ]∧Bk aX q 3 #[I bV]∧Bk aX r 199 #[.func (.func 155) #[] #[pt s 0,pt u 0,pt q 0,pt r 0]]) (ZZ aU a7 Z w.heap.size [some s,some u,some q,some r,bN]))∨(fV=.exit 0∧∃bF,z5=.inr bF∧∃a5 a6,∃bO,Fo X0 37 bL∧Hp aU a7 w [some s,some u,some q,some r,bO] aX∧(fun cR=>Sl (Al .i64) aX cR a5 a6 bF.1∧bU bF.2 aX cR bO∧Bk aX s 31 #[.slice a5 bF.1.length a6]∧Bk aX u 148 #[bJ]∧Bk aX q 3 #[I bV]∧Bk aX r 199 #[.func (.func 155) #[] #[pt s 0,pt u 0,pt q 0,pt r 0]]) (ZZ aU a7 Z w.heap.size [some s,some u,some q,some r,bO]))) ?gB ?gC
   case gB=>
    clear m;refine BP (fun fW bL aX=>∃c,∃a8,∃bI,∃a9 bA,∃j,E4 (Ex fM d9 aV) aY bH bV fW c a8 bI=some z5∧Fo X0 37 bL∧sl bL 0=.slice aS aY.length aT∧sl bL 2=I bH∧sl bL 5=pt q 0∧sl bL 6=pt r 0∧sl bL 11=I c∧Hp aU a7 w [some s,some u,some q,some r,j] aX∧(fun cR=>Sl (Al .i64) aX cR a9 bA a8∧bU bI aX cR j∧Sl (Al .i64) aX cR aS aT aY∧Bk aX s 31 #[.slice a9 a8.length bA]∧Bk aX u 148 #[bJ]∧Bk aX q 3 #[I bV]∧Bk aX r 199 #[.func (.func 155) #[] #[pt s 0,pt u 0,pt q 0,pt r 0]]) (ZZ aU a7 Z w.heap.size [some s,some u,some q,some r,j])) fM ?gD ?gE
    case gD=>
     intro st;exact⟨c8,d3,c9,bX,bY,bE,cO,qo st,sp st 0 dC,sp st 2 eD,sp st 5 fQ,sp st 6 fR,sp st 11 rfl,bS,d4,eF,cL,dK,dL,dM,dN⟩
    case gE=>
     rintro(_|fW) gS dR ⟨c,a8,bI,a9,bA,j,cO,fX,dS,cS,dT,dU,bP,fJ,bQ,dV,bZ,cX,cY,b4,b5⟩
     ·exact absurd (show none=some _ from cO) (by simp)
     rw[E4.eq_2] at cO;have m:=cO;clear cO;refine ro fX<|Af<|cr<|wM (v:=I c) bP<|wD (fun st=>Ag (v:=I bV) Bq (ee st dT) b4 rfl)<|wM (v:=I bH) cS ?_;replace m:=AJ m;obtain⟨gF,m⟩:=m;refine wD (fun st=>Fi (eR st) (eR st) gF)<|wD (fun st=>HS (eR st) (eR st))<|wn ?_;rcases Ae (decide (c≤(bV-bH))) with cZ|cZ
     ·replace m:=Am m cZ;refine Ah rfl cZ<|cn<|Af<|AI<|Af ?_;have gG:=fJ.nil;have fK:=gG.nil;have eZ:=b5;replace m:=B9 m;obtain⟨fY,m⟩:=m;have d6:=((bZ.mv Bv).mv Bv);replace m:=B9 m;obtain⟨eH,m⟩:=m;replace m:=AJ m;obtain⟨fZ,m⟩:=m;replace m:=AJ m;obtain⟨f0,m⟩:=m;obtain⟨gM,aP⟩:∃gU:(Nat→Bool)→(Nat→Value)→World→Prop,gU=(fun D V aX=>∃(aA:Option Nat) (x:Option Addr) (aB:Nat) (aJ:Option Nat) (p:Option Addr) (aN:Nat),Hp aU a7 w [aA,aJ,some s,some u,some q,some r,j] aX∧Ext dR aX∧(∀c0,Mv dR (ZZ aU a7 c0 w.heap.size [none,none,some s,some u,some q,some r,j]) aX (ZZ aU a7 c0 w.heap.size [aA,aJ,some s,some u,some q,some r,j]))∧(∀aV,aA=some aV→dR.heap.size≤aV)∧(∀aV,aJ=some aV→dR.heap.size≤aV)∧(D 2=false→aA=none)∧(D 4=false→aJ=none)∧(D 0=true→V 0=.func (.func 155) #[] #[pt s 0,pt u 0,pt q 0,pt r 0])∧(D 1=true→V 1=.slice aS aY.length aT)∧(D 2=true→D 5=false→V 2=.slice x ((aY).length) aB∧aA=ob x∧Bp (Al .i64) 3 w.heap.size aX (ZZ aU a7 Z w.heap.size [aA,aJ,some s,some u,some q,some r,j]) x aB aY)∧(D 3=true→V 3=I c)∧(D 4=true→V 4=.slice p (([c]).length) aN∧aJ=ob p∧Bp (Al .i64) 3 w.heap.size aX (ZZ aU a7 Z w.heap.size [aA,aJ,some s,some u,some q,some r,j]) p aN [c])∧(D 5=true→V 5=.slice x ((aY++[c]).length) aB∧aA=ob x∧Bp (Al .i64) 3 w.heap.size aX (ZZ aU a7 Z w.heap.size [aA,aJ,some s,some u,some q,some r,j]) x aB (aY++[c]))∧(D 6=true→V 6=I c)∧(D 7=true→V 7=I (c+1))∧(D 8=true→V 8=I bH)∧(D 9=true→V 9=I (bH-1))):=⟨_,rfl⟩;refine JT 10 gM mixed rfl rfl (by rw[aP];exact⟨none,none,0,none,none,0,(fK.ext (C5 _)),C5 _,fun _=>Ac (C5 _),fun _ aK=>(by cases aK),fun _ aK=>(by cases aK),fun _=>rfl,fun _=>rfl,fun aK=>absurd (show false=true from aK) (by decide),fun aK=>absurd (show false=true from aK) (by decide),fun aK=>absurd (show false=true from aK) (by decide),fun aK=>absurd (show false=true from aK) (by decide),fun aK=>absurd (show false=true from aK) (by decide),fun aK=>absurd (show false=true from aK) (by decide),fun aK=>absurd (show false=true from aK) (by decide),fun aK=>absurd (show false=true from aK) (by decide),fun aK=>absurd (show false=true from aK) (by decide),fun aK=>absurd (show false=true from aK) (by decide)⟩)
          ⟨sj (k:=0) rfl (fun D V a' w' K a=>by
               rw[aP] at a;refine X4 a fun aA x aB aJ a=>X2 a fun p aN a=>Y8 a fun aC aQ aW d f i g _ a=>Y8 a fun aD z aE o aF aG aL aH a=>?_;have aI:=a;exact(Ag (v:=.func (.func 155) #[] #[pt s 0,pt u 0,pt q 0,pt r 0]) Tk (es ((K.out 6 rfl).trans dU)) (eZ.ext aQ) rfl).mono fun v BI ⟨bB,bC⟩=>by subst bB;subst bC;rw[aP];exact⟨aA,x,aB,aJ,p,aN,aC,aQ,aW,d,f,i,g,fun _=>rfl,aD,z,aE,o,aF,aG,aL,aH,aI⟩),
           sj (k:=1) rfl (fun D V a' w' K a=>by
               rw[aP] at a;refine X4 a fun aA x aB aJ a=>X2 a fun p aN a=>Y8 a fun aC aQ aW d f i g aM a=>Y8 a fun _ z aE o aF aG aL aH a=>?_;have aI:=a;exact(AA (v:=.slice aS aY.length aT) (es ((K.out 0 rfl).trans dS))).mono fun v BI ⟨bB,bC⟩=>by subst bB;subst bC;rw[aP];exact⟨aA,x,aB,aJ,p,aN,aC,aQ,aW,d,f,i,g,aM,fun _=>rfl,z,aE,o,aF,aG,aL,aH,aI⟩),
           sj (k:=2) rfl (fun D V a' w' K a=>by
               rw[aP] at a;refine X4 a fun _ _ _ aJ a=>X2 a fun p aN a=>Y8 a fun aC aQ aW d f i g aM a=>Y8 a fun aD _ aE o _ aG aL aH a=>?_;have aI:=a;have dW:=aD (K.dn 1 rfl);have dF:=i K.me;subst dF;refine(Ak Mn rfl (Cd (es (t:=27) (v:=.slice aS aY.length aT) ((K.dq 1 27).trans dW))) (a105 aY aS aT FN _ ((d6.mv (aW _)).JU (fun _ _ _ _ _ _ h=>h)) fY)).mono ?_;rintro v BI ⟨bD,c1,eI,rfl,gN,eJ⟩;have aZ:=Rb eJ;rw[aP];exact⟨(ob c1),c1,eI,aJ,p,aN,(aC.row bD 0 rfl aZ),(Ext.trans aQ bD),(fun c0=>(aW c0).trans (aC.CL bD 0 rfl (fun aV aR=>(aZ aV aR).1))),(Ig d aQ.size aZ),f,fun aK=>absurd (show true=false from aK) (by decide),g,aM,aD,fun _ _=>⟨rfl,rfl,aC.O1 (fun _ _ _ _ _ _ h=>h) eJ⟩,aE,fun aK=>⟨(o aK).1,(o aK).2.1,((o aK).2.2.gr bD (fun aV aR=>aC.ne 1 0 rfl (congrArg some ((o aK).2.1.trans aR)) rfl) (aC.CL bD 0 rfl (fun aV aR=>(aZ aV aR).1)))⟩,fun aK=>(Np K.me (K.down 5 _ rfl aK 2 rfl)).elim,aG,aL,aH,aI⟩),
           sj (k:=3) rfl (fun D V a' w' K a=>by
               rw[aP] at a;refine X4 a fun aA x aB aJ a=>X2 a fun p aN a=>Y8 a fun aC aQ aW d f i g aM a=>Y8 a fun aD z _ o aF aG aL aH a=>?_;have aI:=a;exact(AA (v:=I c) (es ((K.out 11 rfl).trans bP))).mono fun v BI ⟨bB,bC⟩=>by subst bB;subst bC;rw[aP];exact⟨aA,x,aB,aJ,p,aN,aC,aQ,aW,d,f,i,g,aM,aD,z,fun _=>rfl,o,aF,aG,aL,aH,aI⟩),
           sj (k:=4) rfl (fun D V a' w' K a=>by
               rw[aP] at a;refine X4 a fun aA x aB _ a=>X2 a fun _ _ a=>Y8 a fun aC aQ aW d f i g aM a=>Y8 a fun aD z aE _ aF aG aL aH a=>?_;have aI:=a;have dX:=aE (K.dn 3 rfl);have dF:=g K.me;subst dF;refine(B1 (e:=3) (vs:= #[(0,I c)]) (cs:= #[I c]) (IP (es (t:=29) (v:=I c) ((K.dq 3 29).trans dX))) (by kernel_rfl)).mono ?_;rintro v BI ⟨gH,rfl,cT⟩;have aZ:=LH cT;have bD:=cT.gr;rw[aP];exact⟨aA,x,aB,(ob (some ⟨gH,0,none⟩)),(some ⟨gH,0,none⟩),1,(aC.row bD 1 rfl aZ),(Ext.trans aQ bD),(fun c0=>(aW c0).trans (aC.CL bD 1 rfl (fun aV aR=>(aZ aV aR).1))),d,(Ig f aQ.size aZ),i,fun aK=>absurd (show true=false from aK) (by decide),aM,aD,fun aK dY=>⟨(z aK dY).1,(z aK dY).2.1,((z aK dY).2.2.gr bD (fun aV aR=>aC.ne 0 1 rfl (congrArg some ((z aK dY).2.1.trans aR)) rfl) (aC.CL bD 1 rfl (fun aV aR=>(aZ aV aR).1)))⟩,aE,fun _=>⟨rfl,rfl,K3 (BJ:=[[I c]]) cT.bk (Nat.le_trans aC.sz (Nat.le_of_eq cT.FI.symm)) ⟨rfl,trivial⟩ rfl (by simp[maxLen])⟩,fun aK=>⟨(aF aK).1,(aF aK).2.1,((aF aK).2.2.gr bD (fun aV aR=>aC.ne 0 1 rfl (congrArg some ((aF aK).2.1.trans aR)) rfl) (aC.CL bD 1 rfl (fun aV aR=>(aZ aV aR).1)))⟩,aG,aL,aH,aI⟩),
           sj (k:=5) rfl (fun D V a' w' K a=>by
               rw[aP] at a;refine X4 a fun _ x aB _ a=>X2 a fun p aN a=>Y8 a fun aC aQ aW d f _ g aM a=>Y8 a fun aD z aE o _ aG aL aH a=>?_;have aI:=a;obtain⟨e0,eK,e1⟩:=z (K.dn 2 rfl) K.me;subst eK;obtain⟨dZ,b6,e2⟩:=o (K.dn 4 rfl);subst b6;refine(H4 (ys:=[c]) Tryz.underlying31 It rfl rfl (by decide) (es (t:=28) (v:=.slice x ((aY).length) aB) ((K.dq 2 28).trans e0)) rfl (es (t:=30) (v:=.slice p (([c]).length) aN) ((K.dq 4 30).trans dZ)) e1 (e2.JU (fun _ _ _ _ _ _ h=>h)) (by have:=eH;simp only[maxLen];omega) (by have:=eH;omega) aC.sz).mono ?_;rintro v BI ⟨c1,eI,rfl,bD,aZ,f1⟩;rw[aP];exact⟨(ob c1),c1,eI,(ob p),p,aN,(aC.row bD 0 rfl aZ),(Ot aQ bD d),(fun c0=>(aW c0).trans (aC.CL bD 0 rfl (fun aV aR=>(aZ aV aR).1))),(Ig d aQ.size aZ),f,fun aK=>absurd (K.dn 2 rfl) (by rw[show D 2=false from aK];decide),g,aM,aD,fun _ aK=>absurd (show true=false from aK) (by decide),aE,fun aK=>⟨(o aK).1,rfl,((o aK).2.2.gr bD (fun aV aR=>aC.ne 1 0 rfl (congrArg some aR) rfl) (aC.CL bD 0 rfl (fun aV aR=>(aZ aV aR).1)))⟩,fun _=>⟨rfl,rfl,Ed f1 (aC.CL bD 0 rfl (fun aV aR=>(aZ aV aR).1))⟩,aG,aL,aH,aI⟩),
           sj (k:=6) rfl (fun D V a' w' K a=>by
               rw[aP] at a;refine X4 a fun aA x aB aJ a=>X2 a fun p aN a=>Y8 a fun aC aQ aW d f i g aM a=>Y8 a fun aD z aE o aF _ aL aH a=>?_;have aI:=a;exact(AA (v:=I c) (es ((K.out 11 rfl).trans bP))).mono fun v BI ⟨bB,bC⟩=>by subst bB;subst bC;rw[aP];exact⟨aA,x,aB,aJ,p,aN,aC,aQ,aW,d,f,i,g,aM,aD,z,aE,o,aF,fun _=>rfl,aL,aH,aI⟩),
           sj (k:=7) rfl (fun D V a' w' K a=>by
               rw[aP] at a;refine X4 a fun aA x aB aJ a=>X2 a fun p aN a=>Y8 a fun aC aQ aW d f i g aM a=>Y8 a fun aD z aE o aF aG _ aH a=>?_;have aI:=a;have d0:=aG (K.dn 6 rfl);exact(BK (es (t:=32) (v:=I c) ((K.dq 6 32).trans d0)) (ec (v:=I 1)) fZ).mono fun v BI ⟨bB,bC⟩=>by subst bB;subst bC;rw[aP];exact⟨aA,x,aB,aJ,p,aN,aC,aQ,aW,d,f,i,g,aM,aD,z,aE,o,aF,aG,fun _=>rfl,aH,aI⟩),
           sj (k:=8) rfl (fun D V a' w' K a=>by
               rw[aP] at a;refine X4 a fun aA x aB aJ a=>X2 a fun p aN a=>Y8 a fun aC aQ aW d f i g aM a=>Y8 a fun aD z aE o aF aG aL _ a=>?_;have aI:=a;exact(AA (v:=I bH) (es ((K.out 2 rfl).trans cS))).mono fun v BI ⟨bB,bC⟩=>by subst bB;subst bC;rw[aP];exact⟨aA,x,aB,aJ,p,aN,aC,aQ,aW,d,f,i,g,aM,aD,z,aE,o,aF,aG,aL,fun _=>rfl,aI⟩),
           sj (k:=9) rfl (fun D V a' w' K a=>by
               rw[aP] at a;refine X4 a fun aA x aB aJ a=>X2 a fun p aN a=>Y8 a fun aC aQ aW d f i g aM a=>Y8 a fun aD z aE o aF aG aL aH a=>?_;have aI:=a;have d1:=aH (K.dn 8 rfl);exact(Fi (es (t:=34) (v:=I bH) ((K.dq 8 34).trans d1)) (ec (v:=I 1)) f0).mono fun v BI ⟨bB,bC⟩=>by subst bB;subst bC;rw[aP];exact⟨aA,x,aB,aJ,p,aN,aC,aQ,aW,d,f,i,g,aM,aD,z,aE,o,aF,aG,aL,aH,fun _=>rfl⟩),trivial⟩ ?_
      intro gV gW gO a0 a2;rw[aP] at a2;clear aP;refine X4 a2 fun aA x aB aJ a2=>X2 a2 fun p aN a2=>Y8 a2 fun dG b7 dH d f i g aM a2=>Y8 a2 fun aD z aE o aF aG aL aH a2=>?_;have aI:=a2;clear a2;have e3:=aM (a0 0 (by decide));have dW:=aD (a0 1 (by decide));have dX:=aE (a0 3 (by decide));obtain⟨dZ,b6,gJ⟩:=o (a0 4 (by decide));subst b6;obtain⟨e4,eM,e5⟩:=aF (a0 5 (by decide));subst eM;have d0:=aG (a0 6 (by decide));have e6:=aL (a0 7 (by decide));have d1:=aH (a0 8 (by decide));have e7:=aI (a0 9 (by decide));have b8:=dG.erase 0;have d7:=dG.P8 0 rfl e5;have c2:=((((bQ.mv Bv).mv Bv).mv (dH _)).mv (AH 0));have e8:=(cX.ext b7);have e9:=(cY.ext b7);have fA:=(b4.ext b7);have fB:=(b5.ext b7);replace m:=bind_some m;obtain⟨bR,f2,m⟩:=m;have f3:bU bI gO (ZZ aU a7 Z w.heap.size [ob p,some s,some u,some q,some r,j]) j:=(aO.mz (aO.me (aO.mz (aO.mz dV Bv) Bv) fK b7 (dH _)) (AH 0));refine wE (fun st=>JI (first:= #[]) (cap:= #[pt s 0,pt u 0,pt q 0,pt r 0]) (vs:= #[.slice x ((aY++[c]).length) aB,I (c+1),I (bH-1)]) (all:= #[.slice x ((aY++[c]).length) aB,I (c+1),I (bH-1),pt s 0,pt u 0,pt q 0,pt r 0]) Tl (ee st e3) (DX (ee st e4) (ee st e6) (ee st e7)) (by simp) (ih (aY++[c]) (c+1) (bH-1) a8 bV bI x aB a9 bA s u q r bJ j (ZZ aU a7 Z w.heap.size [ob p,some s,some u,some q,some r,j]) (ZZ aU a7 Z w.heap.size [ob p,some s,some u,some q,some r,j]) _ aO (Nat.le_trans dJ dG.sz) (b8.CH (F':=aU) (M:=[some s,some u,some q,some r,j]) (C:=[]) [1,2,3,4,5] [] rfl ⟨rfl,rfl,rfl,rfl,rfl,trivial⟩ trivial (fun _ h=>.inl h)) (b8.zz (F':=aU) (M:=[some s,some u,some q,some r,j]) (C:=[]) [1,2,3,4,5] [] ⟨rfl,rfl,rfl,rfl,rfl,trivial⟩ trivial (fun _ h=>.inl h)) (fun _ h=>h) (b8.zz (F':=aU) (M:=[some s,some u,some q,some r,j]) (C:=[]) [1,2,3,4,5] [] ⟨rfl,rfl,rfl,rfl,rfl,trivial⟩ trivial (fun _ h=>.inl h)) d7 c2 e8 e9 fA fB f3 bR f2)) ?_;rintro _ eN ⟨b9,cA,bG,eO,rfl,c3,c4,c5,c6,c7,bW,f4⟩;have fL:=b8.EF eO (AQ [1,2,3,4,5] ⟨rfl,rfl,rfl,rfl,rfl,trivial⟩ (fun _ h=>h)) 5 rfl bW;have bM:=c4.mv (b8.call (M:=[some s,some u,some q,some r,bG]) (Nat.le_refl _) (Ch ⟨.inl ⟨1,rfl⟩,.inl ⟨2,rfl⟩,.inl ⟨3,rfl⟩,.inl ⟨4,rfl⟩,.inr (hw bW 5),trivial⟩) (CT (L:=[ob p,some s,some u,some q,some r,j]) (y:=bG) 5 (gm 4)));have d2:bU bR.2.2 eN (ZZ aU a7 Z w.heap.size [ob p,some s,some u,some q,some r,bG]) bG:=aO.mz f4 (b8.call (M:=[some s,some u,some q,some r,bG]) (Nat.le_refl _) (Ch ⟨.inl ⟨1,rfl⟩,.inl ⟨2,rfl⟩,.inl ⟨3,rfl⟩,.inl ⟨4,rfl⟩,.inr (hw bW 5),trivial⟩) (CT (L:=[ob p,some s,some u,some q,some r,j]) (y:=bG) 5 (gm 4)));refine wn ?_;rcases Ae (bR.1) with cB|cB
      ·replace m:=Am m cB;refine Ah rfl cB<|cr<|wA (v:=.bool true) rfl<|wn<|Ap<|CO<|AG ?_;have gI:=fL.erase 0;obtain rfl:=oi m;have cK:=(bM.mv (AH 0));have f5:bU bR.2.2 eN (ZZ aU a7 Z w.heap.size [some s,some u,some q,some r,bG]) bG:=(aO.mz d2 (AH 0));have fC:=c3;have fD:=c5;have fE:=c6;have fF:=c7;refine BG (fun st=>?_);exact .inl ⟨rfl,(true,bR.2.1,bR.2.2),rfl,b9,cA,bG,qo st,sp st 10 rfl,gI,cK,f5,fC,fD,fE,fF⟩
      ·replace m:=An m cB;refine Ao rfl cB<|Ce<|CG<|Ai<|wM (v:=I c) bP ?_;replace m:=AJ m;obtain⟨f6,m⟩:=m;refine wD (fun st=>BK (eR st) (eR st) f6)<|wA (v:=I (c+1)) rfl<|Bc ?_;have f7:=fL.erase 0;have cC:=(bM.mv (AH 0));have fG:bU bR.2.2 eN (ZZ aU a7 Z w.heap.size [some s,some u,some q,some r,bG]) bG:=(aO.mz d2 (AH 0));have dI:=((((((bZ.mv Bv).mv Bv).mv (dH _)).mv (AH 0)).mv (b8.HY eO (AQ [1,2,3,4,5] ⟨rfl,rfl,rfl,rfl,rfl,trivial⟩ (fun _ h=>h)) 5 rfl (fun k hk=>(bW k hk).1))).mv (AH 0));have eP:=c3;have eQ:=c5;have eS:=c6;have eT:=c7;refine Br fW (Nat.lt_succ_self _) (fun st=>?_);exact⟨(c+1),bR.2.1,bR.2.2,b9,cA,bG,m,qo st,sp st 0 dS,sp st 2 cS,sp st 5 dT,sp st 6 dU,sp st 11 rfl,f7,cC,fG,dI,eP,eQ,eS,eT⟩
     ·replace m:=An m cZ;refine Ao rfl cZ<|DA ?_;obtain rfl:=oi m;refine BG (fun st=>?_);exact .inr ⟨rfl,(a8,bI),rfl,a9,bA,j,qo st,fJ,bQ,dV,cX,cY,b4,b5⟩
   case gC=>
    rintro fV gP gT (⟨rfl,bF,rfl,a3,a4,bN,cU,d8,cD,cE,cV,cF,cG,cH,cI⟩|⟨rfl,bF,rfl,a5,a6,bO,cU,cD,cJ,cV,cF,cG,cH,cI⟩)
    ·skip
     replace m:=CM m;refine lf cU<|CO ?_;obtain rfl:=oi m;refine Au rfl d8 ?_;exact⟨a3,a4,bN,dD _ cD.fin,rfl,cF,cE.mv (AX (BB [0,1,2,3,4] ⟨rfl,rfl,rfl,rfl,rfl,trivial⟩)),cG,cH,cI,cD.mq 4 [0,1,2,3] (M:=[some s,some u,some q,some r]) ⟨rfl,rfl,rfl,rfl,trivial⟩ eE,aO.mz cV (AX (BB [0,1,2,3,4] ⟨rfl,rfl,rfl,rfl,rfl,trivial⟩))⟩
    ·skip
     replace m:=CN m;refine lf cU<|Be<|BM<|cr<|wA (v:=.bool false) rfl<|wn<|Ap ?_;obtain rfl:=oi m;refine Au rfl rfl ?_;exact⟨a5,a6,bO,dD _ cD.fin,rfl,cF,cJ.mv (AX (BB [0,1,2,3,4] ⟨rfl,rfl,rfl,rfl,rfl,trivial⟩)),cG,cH,cI,cD.mq 4 [0,1,2,3] (M:=[some s,some u,some q,some r]) ⟨rfl,rfl,rfl,rfl,trivial⟩ eE,aO.mz cV (AX (BB [0,1,2,3,4] ⟨rfl,rfl,rfl,rfl,rfl,trivial⟩))⟩
theorem AaC{bN:Type}{q:Nat→Prop}{cD:Nat}{aV:IT bN}{bC:bN→(List Int)→Option (Bool×bN)} bD aJ(bO:bN)(aL:Value) aR(Z:Nat→Prop) w(i:Cb Tryz.prog aL q cD aV (v1 (FE (Al .i64))) BE bC)(cE:cD≤w.heap.size)(cF:Bw q [aR] w)(cG:∀b,Z b→¬q b∧some b∉[aR])(cZ:aV bO w Z aR) bP(f:FR bD bC aJ bO=some bP):
 BN Tryz.prog 113 #[I aJ,aL] w (fun v w'=>∃o',BX (FU q [aR]) w w'∧(Md (FE (Al .i64)) BE).R w' (zf Z w [o']) v (bP.1,bP.2.1)∧(∀k,o'=some k→(aR=some k∨w.heap.size≤k)∧k<w'.heap.size)∧aV bP.2.2 w' (zf Z w [o']) o'):=by
 unfold FR at f;refine rq (N:=21) Tryz.func113 fun c2 ha c3=>?_;have b4:=sA 0 ha;have b5:=sA 1 ha;clear ha;obtain⟨aS,cH,bE,cI,b6⟩:=Iu cF cG;have b7:=i.mz cZ (AS (L:=[aR]) cI w);refine cr<|wE (fun st=>BL (v:=I aJ) (cs:= #[I aJ]) (ee st b4) rfl) ?_;rintro _ w1 ⟨b1,rfl,aW⟩;have bF:=bE.nb aW;have cV:=bE.BH aW;refine wE (fun st=>BL (v:=aL) (cs:= #[aL]) (ee st b5) i.fc) ?_;rintro _ w2 ⟨b2,rfl,aM⟩;have bG:=bF.nb aM;have cW:=bF.BH aM;refine wE (fun st=>BZ (cs:= #[.slice none 0 0]) NV rfl) ?_;rintro _ c7 ⟨b3,rfl,aC⟩;have bH:=bG.nb aC;have cX:=bG.BH aC;refine wA (v:=.bool false) rfl<|wn<|Vx<|cr<|wE (fun st=>BZ (cs:= #[.nilFunc]) Wf rfl) ?_;rintro _ c8 ⟨g,rfl,x⟩;have aN:=bH.nb x;have cY:=bH.BH x;refine wr<|wD (fun st=>Dl (vs:= #[]) (us:= #[pt b3 0,pt b2 0,pt b1 0,pt g 0]) F6 (WR (eR st) (eR st) (eR st) (eR st)))<|BD rfl rfl (fun st=>Bt (n:=1) (l:=[.func (.func 155) #[] #[pt b3 0,pt b2 0,pt b1 0,pt g 0]]) (Cm:= #[.func (.func 155) #[] #[pt b3 0,pt b2 0,pt b1 0,pt g 0]]) (eR st) (eR st) Aac x.bk rfl rfl (show 0+1≤1 by decide) (AY rfl) rfl) ?_;rintro _ c0 aD;have cJ:=aN.gr aD.gr 0 rfl;refine wn<|Af<|Vy<|BM<|Af<|Af<|Ai ?_;have a8:=((((aW.bk.ext aM.gr).ext aC.gr).ext x.gr).gr aD.gr (aN.nq 3 0));refine wD (fun st=>Ag (v:=I aJ) Bq (eR st) a8 rfl) ?_;replace f:=AJ f;obtain⟨cK,f⟩:=f;refine wD (fun st=>BK (eR st) (eR st) cK)<|wM (v:=I 0) rfl<|wn<|AI ?_;replace f:=bind_some f;obtain⟨u,aO,f⟩:=f;refine BQ (fun cL r aA=>(cL=.exit 0∧∃c d,∃o,Fo X0 21 r∧sl r 4=pt b3 0∧sl r 5=.bool u.1∧Hp q aS w [some g,some b3,some b2,some b1,o] aA∧(fun bI=>Sl (Al .i64) aA bI c d u.2.1∧Bk aA b3 31 #[.slice c u.2.1.length d]∧aV u.2.2 aA bI o) (ZZ q aS Z w.heap.size [some g,some b3,some b2,some b1,o]))) ?cM ?cN
 case cM=>
  clear f;refine BP (fun b8 r aA=>∃a5,∃e,∃p,∃aB,∃j m,∃a,Fy bC bD aJ b8 a5 e p aB=some u∧Fo X0 21 r∧sl r 4=pt b3 0∧sl r 5=.bool a5∧sl r 6=pt g 0∧sl r 10=I (aJ+1)∧sl r 11=I e∧Hp q aS w [some g,some b3,some b2,some b1,a] aA∧(fun bI=>Sl (Al .i64) aA bI j m p∧Bk aA b1 3 #[I aJ]∧Bk aA b2 148 #[aL]∧Bk aA b3 31 #[.slice j p.length m]∧Bk aA g 199 #[.func (.func 155) #[] #[pt b3 0,pt b2 0,pt b1 0,pt g 0]]∧aV aB aA bI a) (ZZ q aS Z w.heap.size [some g,some b3,some b2,some b1,a])) bD ?cO ?cP
  case cO=>
   intro st;have bQ:=(((aM.bk.ext aC.gr).ext x.gr).gr aD.gr (aN.nq 2 0));have bR:=((aC.bk.ext x.gr).gr aD.gr (aN.nq 1 0));have b9:aV bO c0 (ZZ q aS Z w.heap.size [some g,some b3,some b2,some b1,aR]) aR:=(i.mg (i.me (i.me (i.me (i.me b7 bE aW.gr (Ay aW)) bF aM.gr (Ay aM)) bG aC.gr (Ay aC)) bH x.gr (Ay x)) aN aD.gr 0 rfl 4 rfl rfl (aN.By aD.gr 0 rfl));exact⟨false,(0:Int),([]:List Int),bO,none,0,aR,aO,qo st,sp st 4 rfl,sp st 5 rfl,sp st 6 rfl,sp st 10 rfl,sp st 11 rfl,cJ,(Sl.nil _ _ _),a8,bQ,bR,aD.bk,b9⟩
  case cP=>
   rintro(_|b8) c4 c5 ⟨a5,e,p,aB,j,m,a,aO,cA,aT,bS,a9,aX,aE,z,s,bJ,bK,aY,aZ,bA⟩
   ·exact absurd (show none=some _ from aO) (by simp)
   rw[Fy.eq_2] at aO;have f:=aO;clear aO;refine ro cA<|cr<|wD (fun st=>B8 (ee st aE) (ee st aX))<|wn<|Af ?_;rcases Ae (decide (e<(aJ+1))) with a0|a0
   ·replace f:=Am f a0;refine Ah rfl a0<|cn<|Af<|AI<|cr<|wM (v:=I e) aE<|wA (v:=I e) rfl<|wr<|wD (fun st=>Ag (v:=.func (.func 155) #[] #[pt b3 0,pt b2 0,pt b1 0,pt g 0]) Tk (ee st a9) aZ rfl)<|wM (v:=I e) rfl ?_;replace f:=bind_some f;obtain⟨a2,cQ,f⟩:=f;refine wE (fun st=>JI (first:= #[]) (cap:= #[pt b3 0,pt b2 0,pt b1 0,pt g 0]) (vs:= #[.slice none 0 0,I 0,I e]) (all:= #[.slice none 0 0,I 0,I e,pt b3 0,pt b2 0,pt b1 0,pt g 0]) Tl (eR st) (DX (eR st) (eR st) (eR st)) (by simp) (Acd bD bD ([]:List Int) 0 e p aJ aB none 0 j m b3 b2 b1 g aL a (ZZ q aS Z w.heap.size [some g,some b3,some b2,some b1,a]) (ZZ q aS Z w.heap.size [some g,some b3,some b2,some b1,a]) _ i (Nat.le_trans cE z.sz) (z.CH (F':=q) (M:=[some b3,some b2,some b1,some g,a]) (C:=[]) [1,2,3,0,4] [] rfl ⟨rfl,rfl,rfl,rfl,rfl,trivial⟩ trivial (fun _ h=>.inl h)) (z.zz (F':=q) (M:=[some b3,some b2,some b1,some g,a]) (C:=[]) [1,2,3,0,4] [] ⟨rfl,rfl,rfl,rfl,rfl,trivial⟩ trivial (fun _ h=>.inl h)) (fun _ h=>h) (z.zz (F':=q) (M:=[some b3,some b2,some b1,some g,a]) (C:=[]) [1,2,3,0,4] [] ⟨rfl,rfl,rfl,rfl,rfl,trivial⟩ trivial (fun _ h=>.inl h)) (Sl.nil (Al .i64) _ _) s aY bK bJ aZ bA a2 cQ)) ?_;rintro _ cR ⟨aP,aQ,a3,cS,rfl,bB,a6,bT,bU,bV,a7,cT⟩;have bY:=z.EF cS (AQ [1,2,3,0,4] ⟨rfl,rfl,rfl,rfl,rfl,trivial⟩ (fun _ h=>h)) 4 rfl a7;have t:=a6.mv (z.call (M:=[some b3,some b2,some b1,some g,a3]) (Nat.le_refl _) (Ch ⟨.inl ⟨1,rfl⟩,.inl ⟨2,rfl⟩,.inl ⟨3,rfl⟩,.inl ⟨0,rfl⟩,.inr (hw a7 4),trivial⟩) (CT (L:=[some g,some b3,some b2,some b1,a]) (y:=a3) 4 (gm 4)));have bL:aV a2.2.2 cR (ZZ q aS Z w.heap.size [some g,some b3,some b2,some b1,a3]) a3:=i.mz cT (z.call (M:=[some b3,some b2,some b1,some g,a3]) (Nat.le_refl _) (Ch ⟨.inl ⟨1,rfl⟩,.inl ⟨2,rfl⟩,.inl ⟨3,rfl⟩,.inl ⟨0,rfl⟩,.inr (hw a7 4),trivial⟩) (CT (L:=[some g,some b3,some b2,some b1,a]) (y:=a3) 4 (gm 4)));refine wA (v:=.bool a2.1) rfl<|wr<|wM (v:=.bool a2.1) rfl<|wn ?_;rcases Ae (a2.1) with aF|aF
    ·replace f:=Am f aF;refine Ah rfl aF<|Ma<|MX (by decide)<|Hz<|Hz ?_;obtain rfl:=oi f;refine BG (fun st=>?_);exact⟨rfl,aP,aQ,a3,qo st,sp st 4 aT,sp st 5 rfl,bY,t,bB,bL⟩
    ·replace f:=An f aF;refine Ao rfl aF<|Ce<|CG<|Ai ?_;replace f:=AJ f;obtain⟨cB,f⟩:=f;refine wD (fun st=>BK (ee st aE) (eR st) cB)<|wM (v:=I (e+1)) rfl<|Bc ?_;refine Br b8 (Nat.lt_succ_self _) (fun st=>?_);exact⟨a2.1,(e+1),a2.2.1,a2.2.2,aP,aQ,a3,f,qo st,sp st 4 aT,sp st 5 rfl,sp st 6 a9,sp st 10 aX,sp st 11 rfl,bY,t,bU,bT,bB,bV,bL⟩
   ·replace f:=An f a0;refine Ao rfl a0<|DA ?_;obtain rfl:=oi f;refine BG (fun st=>?_);exact⟨rfl,j,m,a,qo st,sp st 4 aT,sp st 5 bS,z,s,aY,bA⟩
 case cN=>
  rintro cL c1 c6 (⟨rfl,c,d,o,bW,aG,bM,aU,aH,a4,bX⟩);refine lf bW<|Be<|BM<|cr<|wD (fun st=>Ag (v:=.slice c u.2.1.length d) CU (ee st aG) a4 rfl)<|wM (v:=.bool u.1) bM<|BD rfl rfl (fun st=>Bt (n:=1) (l:=[.slice c u.2.1.length d]) (Cm:= #[.slice c u.2.1.length d]) (ee st aG) (eR st) E8 a4 rfl rfl (show 0+1≤1 by decide) (AY rfl) rfl) ?_;rintro _ cU aI;have bZ:=aU.gr aI.gr 1 rfl;refine wA (v:=.bool u.1) rfl<|wn<|Ap<|Ug ?_;obtain rfl:=oi f;refine Kh (N:=21) (v:=.slice c u.2.1.length d) (v':=.bool u.1) rfl ⟨_,aG,Ga CU ((aI.bk.cell 0).trans rfl)⟩ rfl ?_;have aK:=(aH.mv (aU.By aI.gr 1 rfl));have cC:aV u.2.2 cU (ZZ q aS Z w.heap.size [some g,some b3,some b2,some b1,o]) o:=(i.mg bX aU aI.gr 1 rfl 4 rfl rfl (aU.By aI.gr 1 rfl));exact⟨o,b6 _ bZ.fin,⟨_,_,rfl,⟨_,_,rfl,aK.mv (AX (BB [4] ⟨rfl,trivial⟩))⟩,rfl⟩,bZ.mq 4 [] (M:=[]) trivial cH,i.mz cC (AX (BB [4] ⟨rfl,trivial⟩))⟩
theorem Ace bB aK d f g h i j k l m n o p q r s t u y z q1 e aL a(Z Za:Nat→Prop) w(bC:Bw FN [some q1,some e,some a] w)(bD:∀b,Z b→¬FN b∧some b∉[some q1,some e,some a])(bJ:∀b,Z b→Za b)(a4:∀b,Za b→¬FN b∧some b∉[some q1,some e,some a])(aP:Sl (Al .i64) w Za f g aK)(aQ:Sl Ax w Z h i d.Av)(aR:Sl (Bx (Al .i64)) w Z j k d.Aw)(aS:Sl AF w Z l m d.As)(aT:Sl AT w Z n o d.AM)(aU:Sl AW w Z p q d.AN)(aV:Sl Bj w Z r s d.Bf)(aW:Sl (Al .i64) w Z t u d.weights)(aX:Sl Cs w Z y z d.B5)(bE:Rz w Z (some ⟨aL,0,none⟩) (C6 h i j k l m n o p q r s t u y z a d))(a2:Bk w q1 174 #[.func (.func 121) #[] #[]])(bF:Cy (fun x:Int=>I x) w a 2 d.known)(aM:Bk w e 152 #[pt aL 0]) a5(aA:E7 bB aK d=some a5):
 BN Tryz.prog 122 #[.slice f aK.length g,pt q1 0,pt e 0] w (fun v w'=>BX (FU FN [some q1,some e,some a]) w w'∧BE.R w' (zf Z w [some q1,some e,some a]) v a5.1∧Bk w' q1 174 #[.func (.func 121) #[] #[]]∧Cy (fun x:Int=>I x) w' a 2 a5.2∧Bk w' e 152 #[pt aL 0]):=by
 unfold E7 at aA;refine rq (N:=10) Tryz.func122 fun bK ha bL=>?_;have a6:=sA 0 ha;have a7:=sA 1 ha;have a8:=sA 2 ha;clear ha;obtain⟨bN,bM,c,a3,a9,bA⟩:=Kr bC bD a4;have aB:=aP.mv (AS (L:=[some q1,some e,some a]) a9 w);have ⟨aC,aD,aE,aF,aG,aH,aI,aJ⟩:=EZ aQ aR aS aT aU aV aW aX (AS (L:=[some q1,some e,some a]) a3 w);have aY:=bE.mv (AS (L:=[some q1,some e,some a]) a3 w);refine cr<|wA (v:=.bool false) rfl<|wr<|wD (fun st=>Ad (ee st a7) (Wg _ _))<|wD (fun st=>Ag (v:=.func (.func 121) #[] #[]) Y9 (eR st) a2 rfl)<|wD (fun st=>Ag (v:=pt aL 0) EN (ee st a8) aM rfl)<|wM (v:=.slice f aK.length g) a6 ?_;replace aA:=bind_some aA;obtain⟨bG,bH,aA⟩:=aA;refine wE (fun st=>Ak Tm (eR st) (Ci (eR st) (eR st)) (AaB bB d aK h i j k l m n o p q r s t u y z f g aL a (ZC FN [some a]) _ (c.CH (F':=FN) (M:=[some a]) (C:=[]) [2] [] rfl ⟨rfl,trivial⟩ trivial eL) Gs (aC.mv (c.mz (F':=FN) (M:=[some a]) (C:=[]) [2] [] ⟨rfl,trivial⟩ trivial eL)) (aD.mv (c.mz (F':=FN) (M:=[some a]) (C:=[]) [2] [] ⟨rfl,trivial⟩ trivial eL)) (aE.mv (c.mz (F':=FN) (M:=[some a]) (C:=[]) [2] [] ⟨rfl,trivial⟩ trivial eL)) (aF.mv (c.mz (F':=FN) (M:=[some a]) (C:=[]) [2] [] ⟨rfl,trivial⟩ trivial eL)) (aG.mv (c.mz (F':=FN) (M:=[some a]) (C:=[]) [2] [] ⟨rfl,trivial⟩ trivial eL)) (aH.mv (c.mz (F':=FN) (M:=[some a]) (C:=[]) [2] [] ⟨rfl,trivial⟩ trivial eL)) (aI.mv (c.mz (F':=FN) (M:=[some a]) (C:=[]) [2] [] ⟨rfl,trivial⟩ trivial eL)) (aJ.mv (c.mz (F':=FN) (M:=[some a]) (C:=[]) [2] [] ⟨rfl,trivial⟩ trivial eL)) (aY.mv (c.mz (F':=FN) (M:=[some a]) (C:=[]) [2] [] ⟨rfl,trivial⟩ trivial eL)) (aB.mv (c.mz (F':=FN) (M:=[some a]) (C:=[]) [2] [] ⟨rfl,trivial⟩ trivial eL)) bF bG bH)) ?_;rintro _ w2 ⟨aN,rfl,aZ⟩;have bI:=c.Cn aN (AQ [2] ⟨rfl,trivial⟩ eL);refine wA (v:=.bool bG.1) rfl<|wn<|Ap ?_;obtain rfl:=oi aA;refine Au rfl rfl ?_;have a0:=(a2.Cn aN (c.CI 0 rfl [2] rfl ⟨rfl,trivial⟩ eL));have aO:=(aM.Cn aN (c.CI 1 rfl [2] rfl ⟨rfl,trivial⟩ eL));exact⟨bA _ bI.fin,rfl,a0,aZ,aO⟩
theorem a69 cT aG aI aJ aK aL aM aN aO aP aB aC aQ aR(Z:Nat→Prop) w(dB:Sl Ax w Z aI aJ aG.Aj)(dC:Sl (Bx (Al .i64)) w Z aK aL aG.Ab)(dD:Sl AF w Z aM aN aG.Aq)(dE:Sl AT w Z aO aP aG.AB)(dF:Sl AW w Z aB aC aG.AE)(dG:Sl Bj w Z aQ aR aG.AK) eH(c:Ha cT aG=some eH):
 BN Tryz.prog 69 #[.agg (Ar aI aJ aK aL aM aN aO aP aB aC aQ aR aG).toArray] w (fun v w'=>Ext w w'∧(Md (FE (Al .i64)) (Dk .i64)).R w' (zf Z w []) v eH):=by
 unfold Ha at c;refine rq (N:=29) Tryz.func69 fun e2 ha e3=>?_;have dX:=sA 0 ha;clear ha;have dL:Hp FN [] w [] w:=Hp.start (Bw.none w);have ⟨cE,cF,cG,cH,cI,cJ⟩:=CA dB dC dD dE dF dG (Bu (Z:=Z) (L:=[]) w);refine cr<|wE (fun st=>BL (v:=.agg (Ar aI aJ aK aL aM aN aO aP aB aC aQ aR aG).toArray) (cs:=(Ar aI aJ aK aL aM aN aO aP aB aC aQ aR aG).toArray) (ee st dX) rfl) ?_;rintro _ w1 ⟨b1,rfl,bO⟩;have bP:=dL.nb bO;have eU:=dL.BH bO;refine wA (v:=.slice none 0 0) rfl<|wA (v:=I 0) rfl<|wr<|wD (fun st=>AO (l:=(Ar aI aJ aK aL aM aN aO aP aB aC aQ aR aG)) Eg (eR st) bO.bk rfl rfl) ?_;have ⟨cK,cL,cM,cN,cO,cP⟩:=CA cE cF cG cH cI cJ (Ay bO);replace c:=bind_some c;obtain⟨aD,eI,c⟩:=c;refine wE (fun st=>Ak Lv (eR st) (Ci (eR st) (eR st)) (P3 cT aG true aI aJ aK aL aM aN aO aP aB aC aQ aR (zf Z w [some b1]) _ cK cL cM cN cO cP aD eI)) ?_;rintro _ eY ⟨cU,⟨e7,rfl,eJ⟩⟩;rcases FL.cases eJ with⟨cV,rfl⟩|⟨d,cV,b3,a,aU,aV,aW,aX,aY,aZ,a0,a2,a3,a4,a5,a6,a7,a8,a9,bA,rfl,bI,eK,eM,cW,cX,cY,cZ,c0,c1,c2,c3⟩
 ·replace c:=ME cV c;have dM:=bP.ext cU;refine wM (v:=.tuple #[.pointer none,I aD.2]) rfl<|wD (fun st=>Bs (v:=.pointer none) (eR st) rfl)<|wD (fun st=>Bs (v:=I aD.2) (eR st) rfl)<|wE (fun st=>BZ (cs:= #[.pointer none]) LO rfl) ?_;rintro _ e8 ⟨e9,rfl,c4⟩;have eN:=dM.nb c4;have eV:=dM.BH c4;refine BD rfl rfl (fun st=>Bt (n:=1) (l:=[.pointer none]) (Cm:= #[.pointer none]) (eR st) (eR st) NB c4.bk rfl rfl (show 0+1≤1 by decide) (AY rfl) rfl) ?_;rintro _ fA eO;have eP:=eN.gr eO.gr 0 rfl;refine wA (v:=I aD.2) rfl<|wn<|Af<|cr<|wM (v:=I aD.2) rfl<|wD (fun st=>Cx (eR st) (eR st))<|wn ?_;rcases Ae (aD.2 !=0) with cD|cD
  ·replace c:=Am c cD;refine Ah rfl cD<|cr<|wM (v:=I aD.2) rfl<|wA (v:=.slice none 0 0) rfl<|wA (v:=I aD.2) rfl<|wn<|Ap<|AG ?_;obtain rfl:=oi c;refine C0 rfl rfl rfl ?_;exact⟨eP.AZ,⟨_,_,rfl,⟨_,_,rfl,Sl.nil _ _ _⟩,rfl⟩⟩
  ·replace c:=An c cD;exact absurd c (by simp)
 ·replace c:=MF cV c;have dN:=bP.I1 cU bI;have dH:w.heap.size≤b3:=Nat.le_trans bP.sz (bI.mem _ (by simp)).1;have eB:w.heap.size≤a:=Nat.le_trans bP.sz (bI.mem _ (by simp)).1;have ⟨b4,b5,b6,b7,b8,b9,cA,cB⟩:=EZ cW cX cY cZ c0 c1 c2 c3 (bP.KV bI);have dO:=dN.erase 0;have dY:Rz eY (zf Z w [some a,some b1]) (some ⟨b3,0,none⟩) (C6 aU aV aW aX aY aZ a0 a2 a3 a4 a5 a6 a7 a8 a9 bA a d):=KW eK (dN.lit 0 rfl dH) rfl;refine wM (v:=.tuple #[pt b3 0,I aD.2]) rfl<|wD (fun st=>Bs (v:=pt b3 0) (eR st) rfl)<|wD (fun st=>Bs (v:=I aD.2) (eR st) rfl)<|wE (fun st=>BZ (cs:= #[.pointer none]) LO rfl) ?_;rintro _ fB ⟨aH,rfl,bC⟩;have bQ:=dO.nb bC;have eW:=dO.BH bC;refine BD rfl rfl (fun st=>Bt (n:=1) (l:=[pt b3 0]) (Cm:= #[pt b3 0]) (eR st) (eR st) NB bC.bk rfl rfl (show 0+1≤1 by decide) (AY rfl) rfl) ?_;rintro _ fC bG;have c5:=bQ.gr bG.gr 0 rfl;refine wA (v:=I aD.2) rfl<|wn<|Af<|cr<|wM (v:=I aD.2) rfl<|wD (fun st=>Cx (eR st) (eR st))<|wn ?_;rcases Ae (aD.2 !=0) with bD|bD
  ·replace c:=Am c bD;refine Ah rfl bD<|cr<|wM (v:=I aD.2) rfl<|wA (v:=.slice none 0 0) rfl<|wA (v:=I aD.2) rfl<|wn<|Ap<|AG ?_;obtain rfl:=oi c;refine C0 rfl rfl rfl ?_;exact⟨c5.AZ,⟨_,_,rfl,⟨_,_,rfl,Sl.nil _ _ _⟩,rfl⟩⟩
  ·replace c:=An c bD;refine Ao rfl bD<|cn<|cr<|wD (fun st=>Dz (vs:= #[(0,.func (.func 121) #[] #[])]) (v:=.agg #[.func (.func 121) #[] #[]]) (IP (eR st)) (by kernel_rfl))<|wE (fun st=>BZ (cs:= #[.nilFunc]) Wh rfl) ?_;rintro _ e4 ⟨e,rfl,g⟩;have bH:=c5.nb g;have eQ:=c5.BH g;refine BD rfl rfl (fun st=>Bt (n:=1) (l:=[.func (.func 121) #[] #[]]) (Cm:= #[.func (.func 121) #[] #[]]) (eR st) (eR st) Aad g.bk rfl rfl (show 0+1≤1 by decide) (AY rfl) rfl) ?_;rintro _ eS aE;have cC:=bH.gr aE.gr 0 rfl;refine wr<|wD (fun st=>Ad (eR st) (KM _ _)) ?_;have c6:=(((((bO.bk.ext cU).ext bC.gr).gr bG.gr (bQ.nq 2 0)).ext g.gr).gr aE.gr (bH.nq 3 0));refine wD (fun st=>Ag (v:=.slice aB aG.AE.length aC) LM (eR st) c6 rfl)<|wD (fun st=>Bn Tryz.underlying50 (eR st))<|wD (fun st=>Dl (vs:= #[]) (us:= #[pt e 0,pt aH 0]) F6 (Ci (eR st) (eR st))) ?_;have dZ:=cC.CH (F':=FN) (M:=[some e,some aH,some a]) (C:=[]) [0,1,2] [] rfl ⟨rfl,rfl,rfl,trivial⟩ trivial (fun k hk=>.inl (eL k hk));have dI:Cb Tryz.prog (.func (.func 122) #[] #[pt e 0,pt aH 0]) (FU FN [some e,some aH,some a]) eS.heap.size (fun(st:(List (List Int×Int))) aS bJ o=>o=none∧Bk aS e 174 #[.func (.func 121) #[] #[]]∧Cy (fun x:Int=>I x) aS a 2 st∧Bk aS aH 152 #[pt b3 0]∧Rz aS bJ (some ⟨b3,0,none⟩) (C6 aU aV aW aX aY aZ a0 a2 a3 a4 a5 a6 a7 a8 a9 bA a d)∧Sl Ax aS bJ aU aV d.Av∧Sl (Bx (Al .i64)) aS bJ aW aX d.Aw∧Sl AF aS bJ aY aZ d.As∧Sl AT aS bJ a0 a2 d.AM∧Sl AW aS bJ a3 a4 d.AN∧Sl Bj aS bJ a5 a6 d.Bf∧Sl (Al .i64) aS bJ a7 a8 d.weights∧Sl Cs aS bJ a9 bA d.B5) (v1 (FE (Al .i64))) BE (fun(st:(List (List Int×Int))) (x:(List Int))=>(E7 cT x (⟨d.Av,d.Aw,d.As,d.BV,d.AM,d.AN,d.Bf,d.weights,d.B5,st⟩:B7)).bind fun r=>some (r.1,r.2)):=by
    refine⟨rfl,rfl,cC.JB [0,1,2] ⟨rfl,rfl,rfl,trivial⟩ eL,?_,?_,?_⟩
    ·intro st x r w1 d0 eT o vs eZ bE i c7 aT e0;obtain⟨rfl,bK,bL,bB,bF,j,m,p,q,s,t,u,y⟩:=c7;obtain⟨_,rfl,⟨d1,d2,rfl,dJ⟩⟩:=aT;obtain⟨e1,h1,h2⟩:=bind_some e0;obtain rfl:=Option.some.inj h2;refine(EY Zb rfl (Ace cT x (⟨d.Av,d.Aw,d.As,d.BV,d.AM,d.AN,d.Bf,d.weights,d.B5,st⟩:B7) d1 d2 aU aV aW aX aY aZ a0 a2 a3 a4 a5 a6 a7 a8 a9 bA e aH b3 a d0 eT w1 (dZ.grow eZ) (fun b hb=>FK (i b (bE b hb)).1) bE (fun b hb=>FK (i b hb).1) dJ j m p q s t u y bF bK bL bB e1 h1)).mono ?_;rintro v w2 ⟨aT,d3,d4,d5,dK⟩;exact⟨none,aT.O0,(fun _ h=>by cases h),d3,⟨rfl,d4,d5,dK,(bF.mv (CS (EP aT (fun b hb=>DC (i b (bE b hb)))))),(j.mv (CS (EP aT (fun b hb=>DC (i b (bE b hb)))))),(m.mv (CS (EP aT (fun b hb=>DC (i b (bE b hb)))))),(p.mv (CS (EP aT (fun b hb=>DC (i b (bE b hb)))))),(q.mv (CS (EP aT (fun b hb=>DC (i b (bE b hb)))))),(s.mv (CS (EP aT (fun b hb=>DC (i b (bE b hb)))))),(t.mv (CS (EP aT (fun b hb=>DC (i b (bE b hb)))))),(u.mv (CS (EP aT (fun b hb=>DC (i b (bE b hb)))))),(y.mv (CS (EP aT (fun b hb=>DC (i b (bE b hb))))))⟩⟩
    ·intro st w1 w2 d0 fD o c7 hm hb;obtain⟨rfl,bK,bL,bB,bF,j,m,p,q,s,t,u,y⟩:=c7;exact⟨rfl,bK.Ik (hb e (.inl (.inr (gm 0)))),bL.Ik (hb a (.inl (.inr (gm 2)))),bB.Ik (hb aH (.inl (.inr (gm 1)))),bF.mv hm,j.mv hm,m.mv hm,p.mv hm,q.mv hm,s.mv hm,t.mv hm,u.mv hm,y.mv hm⟩
    ·intro st w1 d0 o c7 k hk;obtain⟨rfl,bK,bL,bB,bF,j,m,p,q,s,t,u,y⟩:=c7;cases hk
   have bM:=cC.nil;replace c:=bind_some c;obtain⟨f,d6,c⟩:=c;have cQ:=aE.bk;have c8:=((((eM.ext bC.gr).gr bG.gr (bQ.nq 1 0)).ext g.gr).gr aE.gr (bH.nq 2 0));have c9:=((bG.bk.ext g.gr).gr aE.gr (bH.nq 1 0));have cR:=(((((dY.mv (Ay bC)).mv (bQ.By bG.gr 0 rfl)).mv (Ay g)).mv (bH.By aE.gr 0 rfl)).mv Bv);have ⟨bR,bS,bT,bU,bV,bW,bX,bY⟩:=EZ b4 b5 b6 b7 b8 b9 cA cB (mt (AH 0) (mt (Ay bC) (mt (bQ.By bG.gr 0 rfl) (mt (Ay g) (mt (bH.By aE.gr 0 rfl) Bv)))));refine wE (fun st=>Ak Tn (eR st) (Ci (eR st) (eR st)) (AaC cT (aG.AE.length:Int) d.known (.func (.func 122) #[] #[pt e 0,pt aH 0]) none (zf Z w [none,some e,some aH,some a,some b1]) _ dI (Nat.le_refl _) (bM.CH (F':=(FU FN [some e,some aH,some a])) (M:=[none]) (C:=[some e,some aH,some a]) [0] [1,2,3] rfl ⟨rfl,trivial⟩ ⟨rfl,rfl,rfl,trivial⟩ (Co eL)) (bM.zz (F':=(FU FN [some e,some aH,some a])) (M:=[none]) (C:=[some e,some aH,some a]) [0] [1,2,3] ⟨rfl,trivial⟩ ⟨rfl,rfl,rfl,trivial⟩ (Co eL)) ⟨rfl,cQ,c8,c9,cR,bR,bS,bT,bU,bV,bW,bX,bY⟩ f d6)) ?_;rintro _ e5 ⟨e6,d7,⟨_,_,rfl,⟨z,aA,rfl,cS⟩,rfl⟩,eX,d8⟩;obtain⟨rfl,eC,eD,d9,eE,dP,dQ,dR,dS,dT,dU,dV,dW⟩:=d8;have eA:=bM.Cn (BX.cl (M1:=[some e,some aH,some a]) (M2:=[none]) d7) (AQ [1,2,3,0] ⟨rfl,rfl,rfl,rfl,trivial⟩ eL);have bZ:=cS.mv (bM.call (M:=[none]) (Nat.le_refl _) (Ch ⟨.inl ⟨0,rfl⟩,trivial⟩) (fun _ h=>.inl h));have dA:=eA.erase 0;refine wM (v:=.tuple #[.slice z f.1.length aA,.bool f.2.1]) rfl<|wD (fun st=>Bs (v:=.slice z f.1.length aA) (eR st) rfl)<|wD (fun st=>Bs (v:=.bool f.2.1) (eR st) rfl)<|wA (v:=.slice z f.1.length aA) rfl<|wA (v:=.bool f.2.1) rfl<|wn<|Af<|cr<|wM (v:=.bool f.2.1) rfl<|wD (fun st=>Ca (eR st))<|wn ?_;rcases Ae (!f.2.1) with aF|aF
   ·replace c:=Am c aF;have eF:f.2.1=false:=by simpa using aF
    refine Ah rfl aF<|cr<|wA (v:=.slice none 0 0) rfl<|wA (v:=I 7) rfl<|wn<|Ap<|AG ?_;obtain rfl:=oi c;refine C0 rfl rfl rfl ?_;exact⟨dA.AZ,⟨_,_,rfl,⟨_,_,rfl,Sl.nil _ _ _⟩,rfl⟩⟩
   ·replace c:=An c aF;have eG:f.2.1=true:=by simpa using aF
    refine Ao rfl aF<|cn<|cr<|wM (v:=.slice z f.1.length aA) rfl<|wA (v:=.slice z f.1.length aA) rfl<|wA (v:=I 0) rfl<|wn<|Ap ?_;obtain rfl:=oi c;refine C0 rfl rfl rfl ?_;have bN:=(bZ.mv (AH 0));exact⟨dA.AZ,⟨_,_,rfl,⟨_,_,rfl,bN.mv (AX (BB [] trivial))⟩,rfl⟩⟩
set_option maxHeartbeats 4000000 in
theorem a42 dF d o p q r s t u y z aA h i(Z:Nat→Prop) w(dX:Sl Ax w Z o p d.Aj)(dY:Sl (Bx (Al .i64)) w Z q r d.Ab)(dZ:Sl AF w Z s t d.Aq)(d0:Sl AT w Z u y d.AB)(d1:Sl AW w Z z aA d.AE)(d2:Sl Bj w Z h i d.AK) eQ(a:Kb dF d=some eQ):
 BN Tryz.prog 42 #[.agg (Ar o p q r s t u y z aA h i d).toArray] w (fun v w'=>Ext w w'∧(Md (Dk .i64) (Dk .i64)).R w' (zf Z w []) v eQ):=by
 unfold Kb at a;refine rq (N:=35) Tryz.func42 fun e7 ha e8=>?_;have eF:=sA 0 ha;clear ha;have eB:Hp FN [] w [] w:=Hp.start (Bw.none w);have ⟨cX,cY,cZ,c0,c1,c2⟩:=CA dX dY dZ d0 d1 d2 (Bu (Z:=Z) (L:=[]) w);refine cr<|wE (fun st=>BL (v:=.agg (Ar o p q r s t u y z aA h i d).toArray) (cs:=(Ar o p q r s t u y z aA h i d).toArray) (ee st eF) rfl) ?_;rintro _ w1 ⟨b1,rfl,bN⟩;have bO:=eB.nb bN;have e5:=eB.BH bN;refine wA (v:=I 0) rfl<|wA (v:=I 0) rfl<|wr<|wD (fun st=>AO (l:=(Ar o p q r s t u y z aA h i d)) Eg (eR st) bN.bk rfl rfl) ?_;have ⟨bB,bC,bD,bE,bF,bG⟩:=CA cX cY cZ c0 c1 c2 (Ay bN);replace a:=bind_some a;obtain⟨aF,eS,a⟩:=a;refine wE (fun st=>Ak PR (eR st) (Ci (eR st) (eR st)) (Ws dF d true o p q r s t u y z aA h i (zf Z w [some b1]) _ bB bC bD bE bF bG aF eS)) ?_;rintro _ fC ⟨cT,⟨fD,rfl,eT⟩⟩;rcases FL.cases eT with⟨dG,rfl⟩|⟨c,dG,b3,f,aH,aI,aJ,aK,aL,aM,aN,aO,aP,aQ,d3,d4,aR,aS,aT,aU,rfl,a7,eU,eV,dH,dI,dJ,dK,dL,dM,dN,dO⟩
 ·replace a:=ME dG a;have eW:=bO.ext cT;refine wM (v:=.tuple #[.pointer none,I aF.2]) rfl<|wD (fun st=>Bs (v:=.pointer none) (eR st) rfl)<|wD (fun st=>Bs (v:=I aF.2) (eR st) rfl)<|wA (v:=.pointer none) rfl<|wA (v:=I aF.2) rfl<|wn<|Af<|cr<|wM (v:=I aF.2) rfl<|wD (fun st=>Cx (eR st) (eR st))<|wn ?_;rcases Ae (aF.2 !=0) with cU|cU
  ·replace a:=Am a cU;refine Ah rfl cU<|cr<|wM (v:=I aF.2) rfl<|wA (v:=I 0) rfl<|wA (v:=I aF.2) rfl<|wn<|Ap<|AG ?_;obtain rfl:=oi a;refine C0 rfl rfl rfl ?_;exact⟨eW.AZ,⟨_,_,rfl,rfl,rfl⟩⟩
  ·replace a:=An a cU;exact absurd a (by simp)
 ·replace a:=MF dG a;have eC:=bO.I1 cT a7;have d5:w.heap.size≤b3:=Nat.le_trans bO.sz (a7.mem _ (by simp)).1;have eN:w.heap.size≤f:=Nat.le_trans bO.sz (a7.mem _ (by simp)).1;have ⟨bX,bY,bZ,b4,b5,b6,b7,b8⟩:=EZ dH dI dJ dK dL dM dN dO (bO.KV a7);refine wM (v:=.tuple #[pt b3 0,I aF.2]) rfl<|wD (fun st=>Bs (v:=pt b3 0) (eR st) rfl)<|wD (fun st=>Bs (v:=I aF.2) (eR st) rfl)<|wA (v:=pt b3 0) rfl<|wA (v:=I aF.2) rfl<|wn<|Af<|cr<|wM (v:=I aF.2) rfl<|wD (fun st=>Cx (eR st) (eR st))<|wn ?_;rcases Ae (aF.2 !=0) with bP|bP
  ·replace a:=Am a bP;refine Ah rfl bP<|cr<|wM (v:=I aF.2) rfl<|wA (v:=I 0) rfl<|wA (v:=I aF.2) rfl<|wn<|Ap<|AG ?_;obtain rfl:=oi a;refine C0 rfl rfl rfl ?_;exact⟨eC.AZ,⟨_,_,rfl,rfl,rfl⟩⟩
  ·replace a:=An a bP;refine Ao rfl bP<|cn<|Af<|cr<|wD (fun st=>Ad (eR st) (JY _ _)) ?_;have cV:=(bN.bk.ext cT);refine wD (fun st=>Ag (v:=.slice h d.AK.length i) LN (eR st) cV rfl)<|wD (fun st=>Bn Tryz.underlying51 (eR st))<|wM (v:=I 0) rfl<|wn<|AI ?_;replace a:=bind_some a;obtain⟨eG,bH,a⟩:=a;refine BQ (fun eH aE j=>(eH=.ret∧∃a8,eG=.inl a8∧∃(bQ:Option Addr) (bR:Nat),Fo X0 35 aE∧sl aE 2=I a8.1∧sl aE 3=I a8.2.1∧Hp FN [] w [some b3,some f,some b1] j)∨(eH=.exit 0∧∃a8,eG=.inr a8∧∃(bS:Option Addr) (bT:Nat),Fo X0 35 aE∧Hp FN [] w [some b3,some f,some b1] j)) ?eX ?eY
   case eX=>
    clear a;refine BP (fun eI aE j=>∃b,∃aB,∃g,∃aC aD,Jl dF d c eI b aB g=some eG∧Fo X0 35 aE∧sl aE 1=pt b1 0∧sl aE 4=pt b3 0∧sl aE 17=I (d.AK.length:Int)∧sl aE 18=I b∧Hp FN [] w [some b3,some f,some b1] j∧(fun aV=>Sl Bj j aV aC aD aB∧Bk j b1 53 (Ar o p q r s t u y z aA h i d).toArray∧Sl Ax j aV o p d.Aj∧Sl (Bx (Al .i64)) j aV q r d.Ab∧Sl AF j aV s t d.Aq∧Sl AT j aV u y d.AB∧Sl AW j aV z aA d.AE∧Sl Bj j aV h i d.AK∧Sl Ax j aV aH aI c.Av∧Sl (Bx (Al .i64)) j aV aJ aK c.Aw∧Sl AF j aV aL aM c.As∧Sl AT j aV aN aO c.AM∧Sl AW j aV aP aQ c.AN∧Sl (Al .i64) j aV aR aS c.weights∧Sl Cs j aV aT aU c.B5∧Cy (fun x:Int=>I x) j f 2 g∧Bk j b3 162 #[.slice aH c.Av.length aI,.slice aJ c.Aw.length aK,.slice aL c.As.length aM,I c.BV,.slice aN c.AM.length aO,.slice aP c.AN.length aQ,.slice aC aB.length aD,.slice aR c.weights.length aS,.slice aT c.B5.length aU,.map (some f)]) (zf Z w [some b3,some f,some b1])) dF ?eZ ?e0
    case eZ=>
     intro st;have ⟨c3,c4,c5,c6,c7,c8⟩:=CA bB bC bD bE bF bG (Cj (Ac cT) a7);exact⟨(0:Int),c.Bf,c.known,d3,d4,bH,qo st,sp st 1 rfl,sp st 4 rfl,sp st 17 rfl,sp st 18 rfl,eC,b6,cV,c3,c4,c5,c6,c7,c8,bX,bY,bZ,b4,b5,b7,b8,eV,eU⟩
    case e0=>
     rintro(_|eI) e9 e1 ⟨b,aB,g,aC,aD,bH,eJ,cW,bL,bU,a9,aX,d6,bV,b9,cA,cB,cC,cD,bA,aY,aZ,a0,a2,a3,a4,a5,dP,dQ⟩
     ·exact absurd (show none=some _ from bH) (by simp)
     rw[Jl.eq_2] at bH;have a:=bH;clear bH;refine ro eJ<|cr<|wD (fun st=>B8 (ee st a9) (ee st bU))<|wn<|Af ?_;rcases Ae (decide (b<(d.AK.length:Int))) with bW|bW
     ·replace a:=Am a bW;refine Ah rfl bW<|cn<|Af<|AI<|cr<|wM (v:=I b) a9<|wA (v:=I b) rfl<|wr<|wM (v:=pt b3 0) bL<|wD (fun st=>Ad (ee st cW) (JY _ _))<|wD (fun st=>Ag (v:=.slice h d.AK.length i) LN (eR st) bV rfl)<|wM (v:=I b) rfl ?_;replace a:=AJ a;obtain⟨e2,a⟩:=a;refine wD (fun st=>BK (eR st) (eR st) e2) ?_;replace a:=L2 a;obtain⟨e3,a⟩:=a;refine wE (fun st=>Un (e:=Bj) (Z:=_) (xs:=d.AK) Tryz.underlying51 NA rfl (eR st) TM (VH (eR st)) bA e3) ?_;rintro _ e1 ⟨⟨bI,bJ,rfl,dR⟩,rfl⟩;refine wD (fun st=>CB (eR st))<|wD (fun st=>Ad (eR st) (Wi _ _))<|wD (fun st=>Ad (eR st) (JY _ _))<|BD rfl rfl (fun st=>Bt (n:=1) (l:=[.slice bI ((Gb d.AK (0:Int) (b+1)).length) bJ]) (Cm:= #[.slice aH c.Av.length aI,.slice aJ c.Aw.length aK,.slice aL c.As.length aM,I c.BV,.slice aN c.AM.length aO,.slice aP c.AN.length aQ,.slice bI ((Gb d.AK (0:Int) (b+1)).length) bJ,.slice aR c.weights.length aS,.slice aT c.B5.length aU,.map (some f)]) (eR st) (eR st) W5 dQ rfl rfl (show 6+1≤10 by decide) (AY rfl) rfl) ?_;rintro _ e4 k;have a6:=aX.gr k.gr 0 rfl;refine wr<|wM (v:=pt b3 0) bL ?_;have eD:=a6.erase 0;have d7:Rz e4 (zf Z w [some f,some b1]) (some ⟨b3,0,none⟩) [.slice aH c.Av.length aI,.slice aJ c.Aw.length aK,.slice aL c.As.length aM,I c.BV,.slice aN c.AM.length aO,.slice aP c.AN.length aQ,.slice bI ((Gb d.AK (0:Int) (b+1)).length) bJ,.slice aR c.weights.length aS,.slice aT c.B5.length aU,.map (some f)]:=KW k.bk (a6.lit 0 rfl d5) rfl;have ⟨cE,cF,cG,cH,cI,dS,cJ,cK⟩:=EZ aY aZ a0 a2 a3 dR a4 a5 (mt (aX.By k.gr 0 rfl) (AH 0));have d8:=(dP.gr k.gr (aX.nq 1 0));replace a:=bind_some a;obtain⟨bK,eK,a⟩:=a;have m:=eD.mz (Z:=Z) (F':=FN) (M:=[some f]) (C:=[]) [0] [] ⟨rfl,trivial⟩ trivial eL;refine wE (fun st=>Ak PS (eR st) (Ci (eR st) (eR st)) (Wr dF (⟨c.Av,c.Aw,c.As,c.BV,c.AM,c.AN,Gb d.AK (0:Int) (b+1),c.weights,c.B5,g⟩:B7) ([]:List Int) aH aI aJ aK aL aM aN aO aP aQ bI bJ aR aS aT aU none 0 b3 f (ZC FN [some f]) _ (eD.CH (F':=FN) (M:=[some f]) (C:=[]) [0] [] rfl ⟨rfl,trivial⟩ trivial eL) Gs (cE.mv m) (cF.mv m) (cG.mv m) (cH.mv m) (cI.mv m) (dS.mv m) (cJ.mv m) (cK.mv m) (d7.mv m) (Sl.nil (Al .i64) _ _) d8 bK eK)) ?_;rintro _ fA ⟨aW,rfl,dT⟩;have eE:=a6.Cn aW (AQ [1] ⟨rfl,trivial⟩ eL);refine wD (fun st=>Ca (eR st))<|wn ?_;rcases Ae (!bK.1) with aG|aG
      ·replace a:=Am a aG;have eO:bK.1=false:=by simpa using aG
       refine Ah rfl aG<|cr<|wM (v:=I b) rfl<|wA (v:=I b) rfl<|wA (v:=I 0) rfl<|wn<|Ap<|CO<|AG ?_;obtain rfl:=oi a;refine BG (fun st=>?_);exact .inl ⟨rfl,(b,(0:Int),Gb d.AK (0:Int) (b+1),bK.2),rfl,bI,bJ,qo st,sp st 2 rfl,sp st 3 rfl,eE⟩
      ·replace a:=An a aG;have eP:bK.1=true:=by simpa using aG
       refine Ao rfl aG<|Ce<|CG<|Ai ?_;replace a:=AJ a;obtain⟨eM,a⟩:=a;refine wD (fun st=>BK (ee st a9) (eR st) eM)<|wM (v:=I (b+1)) rfl<|Bc ?_;have dU:=((dR.mv (aX.By k.gr 0 rfl)).mv (a6.Em aW (AQ [1] ⟨rfl,trivial⟩ eL)));have d9:=((bV.gr k.gr (aX.nq 2 0)).Cn aW (a6.CI 2 rfl [1] rfl ⟨rfl,trivial⟩ eL));have ⟨c9,dA,dB,dC,dD,dE,cL,cM,cN,cO⟩:=VM b9 cA cB cC cD bA aY aZ a0 a2 (mt (aX.By k.gr 0 rfl) (a6.Em aW (AQ [1] ⟨rfl,trivial⟩ eL)));have ⟨cP,cQ,cR⟩:=Er a3 a4 a5 (mt (aX.By k.gr 0 rfl) (a6.Em aW (AQ [1] ⟨rfl,trivial⟩ eL)));have eA:=(k.bk.Cn aW (a6.CI 0 rfl [1] rfl ⟨rfl,trivial⟩ eL));refine Br eI (Nat.lt_succ_self _) (fun st=>?_);exact⟨(b+1),(Gb d.AK (0:Int) (b+1)),bK.2,bI,bJ,a,qo st,sp st 1 cW,sp st 4 bL,sp st 17 bU,sp st 18 rfl,eE,dU,d9,c9,dA,dB,dC,dD,dE,cL,cM,cN,cO,cP,cQ,cR,dT,eA⟩
     ·replace a:=An a bW;refine Ao rfl bW<|DA ?_;obtain rfl:=oi a;refine BG (fun st=>?_);exact .inr ⟨rfl,(aB,g),rfl,aC,aD,qo st,aX⟩
   case eY=>
    rintro eH e6 fB (⟨rfl,a8,rfl,bQ,bR,bM,dV,dW,cS⟩|⟨rfl,a8,rfl,bS,bT,bM,cS⟩)
    ·skip
     replace a:=CM a;refine lf bM<|CO ?_;obtain rfl:=oi a;refine C0 rfl dV dW ?_;exact⟨cS.AZ,⟨_,_,rfl,rfl,rfl⟩⟩
    ·skip
     replace a:=CN a;refine lf bM<|Be<|BM<|cr<|wA (v:=I 0) rfl<|wA (v:=I 7) rfl<|wn<|Ap ?_;obtain rfl:=oi a;refine C0 rfl rfl rfl ?_;exact⟨cS.AZ,⟨_,_,rfl,rfl,rfl⟩⟩
theorem a43 cE z aC aD aE aF aG aH aI aJ aK aL t u(Z:Nat→Prop) w(cS:Sl Ax w Z aC aD z.Aj)(cT:Sl (Bx (Al .i64)) w Z aE aF z.Ab)(cU:Sl AF w Z aG aH z.Aq)(cV:Sl AT w Z aI aJ z.AB)(cW:Sl AW w Z aK aL z.AE)(cX:Sl Bj w Z t u z.AK) dK(d:Kd cE z=some dK):
 BN Tryz.prog 43 #[.agg (Ar aC aD aE aF aG aH aI aJ aK aL t u z).toArray] w (fun v w'=>Ext w w'∧(Md (FE (Al .i64)) (Dk .i64)).R w' (zf Z w []) v dK):=by
 unfold Kd at d;refine rq (N:=26) Tryz.func43 fun d6 ha d7=>?_;have c4:=sA 0 ha;clear ha;have c2:Hp FN [] w [] w:=Hp.start (Bw.none w);have ⟨bY,bZ,b4,b5,b6,b7⟩:=CA cS cT cU cV cW cX (Bu (Z:=Z) (L:=[]) w);refine cr<|wE (fun st=>BL (v:=.agg (Ar aC aD aE aF aG aH aI aJ aK aL t u z).toArray) (cs:=(Ar aC aD aE aF aG aH aI aJ aK aL t u z).toArray) (ee st c4) rfl) ?_;rintro _ w1 ⟨b1,rfl,bA⟩;have bB:=c2.nb bA;have d1:=c2.BH bA;refine wA (v:=.slice none 0 0) rfl<|wA (v:=I 0) rfl<|wr<|wD (fun st=>AO (l:=(Ar aC aD aE aF aG aH aI aJ aK aL t u z)) Eg (eR st) bA.bk rfl rfl) ?_;have ⟨b8,b9,cA,cB,cC,cD⟩:=CA bY bZ b4 b5 b6 b7 (Ay bA);replace d:=bind_some d;obtain⟨y,dL,d⟩:=d;refine wE (fun st=>Ak PR (eR st) (Ci (eR st) (eR st)) (Ws cE z true aC aD aE aF aG aH aI aJ aK aL t u (zf Z w [some b1]) _ b8 b9 cA cB cC cD y dL)) ?_;rintro _ dM ⟨cF,⟨d8,rfl,dN⟩⟩;rcases FL.cases dN with⟨cG,rfl⟩|⟨c,cG,b3,a,aN,aO,aP,aQ,aR,aS,aT,aU,aV,aW,aX,aY,aZ,a0,a2,a3,rfl,a6,dO,dP,cH,cI,cJ,cK,cL,cM,cN,cO⟩
 ·replace d:=ME cG d;have dQ:=bB.ext cF;refine wM (v:=.tuple #[.pointer none,I y.2]) rfl<|wD (fun st=>Bs (v:=.pointer none) (eR st) rfl)<|wD (fun st=>Bs (v:=I y.2) (eR st) rfl)<|wA (v:=.pointer none) rfl<|wA (v:=I y.2) rfl<|wn<|Af<|cr<|wM (v:=I y.2) rfl<|wD (fun st=>Cx (eR st) (eR st))<|wn ?_;rcases Ae (y.2 !=0) with bV|bV
  ·replace d:=Am d bV;refine Ah rfl bV<|cr<|wM (v:=I y.2) rfl<|wA (v:=.slice none 0 0) rfl<|wA (v:=I y.2) rfl<|wn<|Ap<|AG ?_;obtain rfl:=oi d;refine C0 rfl rfl rfl ?_;exact⟨dQ.AZ,⟨_,_,rfl,⟨_,_,rfl,Sl.nil _ _ _⟩,rfl⟩⟩
  ·replace d:=An d bV;exact absurd d (by simp)
 ·replace d:=MF cG d;have c3:=bB.I1 cF a6;have cY:w.heap.size≤b3:=Nat.le_trans bB.sz (a6.mem _ (by simp)).1;have dJ:w.heap.size≤a:=Nat.le_trans bB.sz (a6.mem _ (by simp)).1;have ⟨bD,bE,bF,bG,bH,bI,bJ,bK⟩:=EZ cH cI cJ cK cL cM cN cO (bB.KV a6);have bW:=c3.erase 0;have c5:Rz dM (zf Z w [some a,some b1]) (some ⟨b3,0,none⟩) (C6 aN aO aP aQ aR aS aT aU aV aW aX aY aZ a0 a2 a3 a c):=KW dO (c3.lit 0 rfl cY) rfl;refine wM (v:=.tuple #[pt b3 0,I y.2]) rfl<|wD (fun st=>Bs (v:=pt b3 0) (eR st) rfl)<|wD (fun st=>Bs (v:=I y.2) (eR st) rfl)<|wA (v:=pt b3 0) rfl<|wA (v:=I y.2) rfl<|wn<|Af<|cr<|wM (v:=I y.2) rfl<|wD (fun st=>Cx (eR st) (eR st))<|wn ?_;rcases Ae (y.2 !=0) with bC|bC
  ·replace d:=Am d bC;refine Ah rfl bC<|cr<|wM (v:=I y.2) rfl<|wA (v:=.slice none 0 0) rfl<|wA (v:=I y.2) rfl<|wn<|Ap<|AG ?_;obtain rfl:=oi d;refine C0 rfl rfl rfl ?_;exact⟨bW.AZ,⟨_,_,rfl,⟨_,_,rfl,Sl.nil _ _ _⟩,rfl⟩⟩
  ·replace d:=An d bC;refine Ao rfl bC<|cn<|cr<|wD (fun st=>Ad (eR st) (JY _ _)) ?_;have cZ:=(bA.bk.ext cF);refine wD (fun st=>Ag (v:=.slice t z.AK.length u) LN (eR st) cZ rfl)<|wD (fun st=>Bn Tryz.underlying51 (eR st))<|wM (v:=pt b3 0) rfl<|wD (fun st=>Dl (vs:= #[pt b3 0]) (us:= #[]) (Cd (eR st)) F6) ?_;have dR:=bW.CH (F':=FN) (M:=[some a]) (C:=[]) [0] [] rfl ⟨rfl,trivial⟩ trivial (fun k hk=>.inl (eL k hk));have c6:Cb Tryz.prog (.func (.func 112) #[pt b3 0] #[]) (FU FN [some a]) dM.heap.size (fun(st:(List (List Int×Int))) a5 a7 o=>o=none∧Cy (fun x:Int=>I x) a5 a 2 st∧Rz a5 a7 (some ⟨b3,0,none⟩) (C6 aN aO aP aQ aR aS aT aU aV aW aX aY aZ a0 a2 a3 a c)∧Sl Ax a5 a7 aN aO c.Av∧Sl (Bx (Al .i64)) a5 a7 aP aQ c.Aw∧Sl AF a5 a7 aR aS c.As∧Sl AT a5 a7 aT aU c.AM∧Sl AW a5 a7 aV aW c.AN∧Sl Bj a5 a7 aX aY c.Bf∧Sl (Al .i64) a5 a7 aZ a0 c.weights∧Sl Cs a5 a7 a2 a3 c.B5) (v1 (FE (Al .i64))) BE (fun(st:(List (List Int×Int))) (x:(List Int))=>(DE cE (⟨c.Av,c.Aw,c.As,c.BV,c.AM,c.AN,c.Bf,c.weights,c.B5,st⟩:B7) x).bind fun r=>some (r.1,r.2)):=by
    refine⟨rfl,rfl,bW.JB [0] ⟨rfl,trivial⟩ eL,?_,?_,?_⟩
    ·intro st x r w1 dS dT o vs d2 e s cP aM d3;obtain⟨rfl,a8,a4,f,g,i,j,m,n,p,q⟩:=cP;obtain⟨_,rfl,⟨c7,c8,rfl,c0⟩⟩:=aM;obtain⟨d4,h1,h2⟩:=bind_some d3;obtain rfl:=Option.some.inj h2;refine(EY PS rfl (Wr cE (⟨c.Av,c.Aw,c.As,c.BV,c.AM,c.AN,c.Bf,c.weights,c.B5,st⟩:B7) x aN aO aP aQ aR aS aT aU aV aW aX aY aZ a0 a2 a3 c7 c8 b3 a dT w1 (dR.grow d2) (fun b hb=>FK (s b hb).1) (f.mv (En e)) (g.mv (En e)) (i.mv (En e)) (j.mv (En e)) (m.mv (En e)) (n.mv (En e)) (p.mv (En e)) (q.mv (En e)) (a4.mv (En e)) c0 a8 d4 h1)).mono ?_;rintro v w2 ⟨aM,c9,dA⟩;exact⟨none,aM.O0,(fun _ h=>by cases h),c9,⟨rfl,dA,(a4.mv (CS (EP aM (fun b hb=>DC (s b (e b hb)))))),(f.mv (CS (EP aM (fun b hb=>DC (s b (e b hb)))))),(g.mv (CS (EP aM (fun b hb=>DC (s b (e b hb)))))),(i.mv (CS (EP aM (fun b hb=>DC (s b (e b hb)))))),(j.mv (CS (EP aM (fun b hb=>DC (s b (e b hb)))))),(m.mv (CS (EP aM (fun b hb=>DC (s b (e b hb)))))),(n.mv (CS (EP aM (fun b hb=>DC (s b (e b hb)))))),(p.mv (CS (EP aM (fun b hb=>DC (s b (e b hb)))))),(q.mv (CS (EP aM (fun b hb=>DC (s b (e b hb))))))⟩⟩
    ·intro st w1 w2 dS d9 o cP hm hb;obtain⟨rfl,a8,a4,f,g,i,j,m,n,p,q⟩:=cP;exact⟨rfl,a8.Ik (hb a (.inl (.inr (gm 0)))),a4.mv hm,f.mv hm,g.mv hm,i.mv hm,j.mv hm,m.mv hm,n.mv hm,p.mv hm,q.mv hm⟩
    ·intro st w1 dS o cP k hk;obtain⟨rfl,a8,a4,f,g,i,j,m,n,p,q⟩:=cP;cases hk
   have bX:=bW.nil;replace d:=bind_some d;obtain⟨a9,dU,d⟩:=d;have c1:=dP;have cQ:=(c5.mv Bv);have ⟨bL,bM,bN,bO,bP,bQ,bR,bS⟩:=EZ bD bE bF bG bH bI bJ bK (mt (AH 0) Bv);refine wE (fun st=>Ak Tn (eR st) (Ci (eR st) (eR st)) (AaC cE (z.AK.length:Int) c.known (.func (.func 112) #[pt b3 0] #[]) none (zf Z w [none,some a,some b1]) _ c6 (Nat.le_refl _) (bX.CH (F':=(FU FN [some a])) (M:=[none]) (C:=[some a]) [0] [1] rfl ⟨rfl,trivial⟩ ⟨rfl,trivial⟩ (Co eL)) (bX.zz (F':=(FU FN [some a])) (M:=[none]) (C:=[some a]) [0] [1] ⟨rfl,trivial⟩ ⟨rfl,trivial⟩ (Co eL)) ⟨rfl,c1,cQ,bL,bM,bN,bO,bP,bQ,bR,bS⟩ a9 dU)) ?_;rintro _ eA ⟨eB,dV,⟨_,_,rfl,⟨aA,aB,rfl,cR⟩,rfl⟩,d5,dW⟩;obtain⟨rfl,dX,dY,dB,dC,dD,dE,dF,dG,dH,dI⟩:=dW;have dZ:=bX.Cn (BX.cl (M1:=[some a]) (M2:=[none]) dV) (AQ [1,0] ⟨rfl,rfl,trivial⟩ eL);have bT:=cR.mv (bX.call (M:=[none]) (Nat.le_refl _) (Ch ⟨.inl ⟨0,rfl⟩,trivial⟩) (fun _ h=>.inl h));have d0:=dZ.erase 0;refine wM (v:=.tuple #[.slice aA a9.1.length aB,.bool a9.2.1]) rfl<|wD (fun st=>Bs (v:=.slice aA a9.1.length aB) (eR st) rfl)<|wD (fun st=>Bs (v:=.bool a9.2.1) (eR st) rfl)<|wA (v:=.slice aA a9.1.length aB) rfl<|wA (v:=.bool a9.2.1) rfl<|wr<|wM (v:=.slice aA a9.1.length aB) rfl<|wA (v:=.slice aA a9.1.length aB) rfl<|wA (v:=I 0) rfl<|wn<|Ap ?_;obtain rfl:=oi d;refine C0 rfl rfl rfl ?_;have bU:=(bT.mv (AH 0));exact⟨d0.AZ,⟨_,_,rfl,⟨_,_,rfl,bU.mv (AX (BB [] trivial))⟩,rfl⟩⟩
theorem Jr k b d e(Z:Nat→Prop) w j(c:CJ k b d e=some j):
 BN Tryz.prog 29 #[I b,I d,I e] w (fun v w'=>Ext w w'∧BE.R w' (zf Z w []) v j):=by
 unfold CJ at c;refine rq (N:=15) Tryz.func29 fun l ha m=>?_;have f:=sA 0 ha;have h:=sA 1 ha;have i:=sA 2 ha;clear ha;have g:Hp FN [] w [] w:=Hp.start (Bw.none w);refine cr<|wA (v:=.bool false) rfl<|wr<|wM (v:=I b) f<|wM (v:=I d) h<|wD (fun st=>HT (eR st) (eR st))<|wM (v:=.bool (decide (d≤b))) rfl ?_;rcases Ae (decide (d≤b)) with a|a
 ·replace c:=Am c a;refine wN a (v:=I b) f<|wN a (v:=I e) i<|wG a (fun st=>HS (eR st) (eR st))<|wD (fun st=>AR (v:=.bool (decide (b≤e))) (eR st) a (eR st))<|wA (v:=.bool (decide (b≤e))) rfl<|wn<|Ap ?_;obtain rfl:=oi c;refine Au rfl rfl ?_;exact⟨g.AZ,rfl⟩
 ·replace c:=An c a;refine wF a<|wF a<|wF a<|wD (fun st=>Bg (v:=.bool false) (eR st) a (eR st))<|wA (v:=.bool false) rfl<|wn<|Ap ?_;obtain rfl:=oi c;refine Au rfl rfl ?_;exact⟨g.AZ,rfl⟩
theorem W7 o b f g(Z:Nat→Prop) w m(d:Ey o b f g=some m):
 BN Tryz.prog 90 #[.agg #[I b.Lo,I b.Hi],I f,I g] w (fun v w'=>Ext w w'∧BE.R w' (zf Z w []) v m):=by
 unfold Ey at d;refine rq (N:=24) Tryz.func90 fun p ha q=>?_;have j:=sA 0 ha;have k:=sA 1 ha;have l:=sA 2 ha;clear ha;have i:Hp FN [] w [] w:=Hp.start (Bw.none w);refine cr<|wE (fun st=>BL (v:=.agg #[I b.Lo,I b.Hi]) (cs:= #[I b.Lo,I b.Hi]) (ee st j) rfl) ?_;rintro _ w1 ⟨b1,rfl,e⟩;have h:=i.nb e;have n:=i.BH e;refine wA (v:=.bool false) rfl<|wr<|wD (fun st=>Ad (eR st) (I5 _ _))<|wD (fun st=>Ag (v:=I b.Lo) Bq (eR st) e.bk rfl)<|wM (v:=I f) k<|wD (fun st=>HT (eR st) (eR st))<|wM (v:=.bool (decide (f≤b.Lo))) rfl ?_;rcases Ae (decide (f≤b.Lo)) with a|a
 ·replace d:=Am d a;refine wG a (fun st=>Ad (eR st) (I5 _ _))<|wG a (fun st=>Ag (v:=I b.Lo) Bq (eR st) e.bk rfl)<|wG a (fun st=>Ad (eR st) (KO _ _))<|wG a (fun st=>Ag (v:=I b.Hi) Bq (eR st) e.bk rfl)<|wG a (fun st=>HS (eR st) (eR st))<|wD (fun st=>AR (v:=.bool (decide (b.Lo≤b.Hi))) (eR st) a (eR st))<|wM (v:=.bool (decide (b.Lo≤b.Hi))) rfl ?_;rcases Ae (decide (b.Lo≤b.Hi)) with c|c
  ·replace d:=Am d c;refine wG c (fun st=>Ad (eR st) (KO _ _))<|wG c (fun st=>Ag (v:=I b.Hi) Bq (eR st) e.bk rfl)<|wN c (v:=I g) l<|wG c (fun st=>HS (eR st) (eR st))<|wD (fun st=>AR (v:=.bool (decide (b.Hi≤g))) (eR st) c (eR st))<|wA (v:=.bool (decide (b.Hi≤g))) rfl<|wn<|Ap ?_;obtain rfl:=oi d;refine Au rfl rfl ?_;exact⟨h.AZ,rfl⟩
  ·replace d:=An d c;refine wF c<|wF c<|wF c<|wF c<|wD (fun st=>Bg (v:=.bool false) (eR st) c (eR st))<|wA (v:=.bool false) rfl<|wn<|Ap ?_;obtain rfl:=oi d;refine Au rfl rfl ?_;exact⟨h.AZ,rfl⟩
 ·replace d:=An d a;refine wF a<|wF a<|wF a<|wF a<|wF a<|wD (fun st=>Bg (v:=.bool false) (eR st) a (eR st))<|wM (v:=.bool false) rfl<|wH<|wH<|wH<|wH<|wD (fun st=>Bg (v:=.bool false) (eR st) rfl (eR st))<|wA (v:=.bool false) rfl<|wn<|Ap ?_;obtain rfl:=oi d;refine Au rfl rfl ?_;exact⟨h.AZ,rfl⟩
theorem Wt k a(Z:Nat→Prop) w f(b:FT k a=some f):
 BN Tryz.prog 118 #[.agg #[I a.Lo,I a.Hi]] w (fun v w'=>Ext w w'∧(Dk .i64).R w' (zf Z w []) v f):=by
 unfold FT at b;refine rq (N:=9) Tryz.func118 fun l ha m=>?_;have e:=sA 0 ha;clear ha;have d:Hp FN [] w [] w:=Hp.start (Bw.none w);refine cr<|wE (fun st=>BL (v:=.agg #[I a.Lo,I a.Hi]) (cs:= #[I a.Lo,I a.Hi]) (ee st e) rfl) ?_;rintro _ w1 ⟨b1,rfl,c⟩;have g:=d.nb c;have j:=d.BH c;refine wA (v:=I 0) rfl<|wr<|wD (fun st=>Ad (eR st) (KO _ _))<|wD (fun st=>Ag (v:=I a.Hi) Bq (eR st) c.bk rfl)<|wD (fun st=>Ad (eR st) (I5 _ _))<|wD (fun st=>Ag (v:=I a.Lo) Bq (eR st) c.bk rfl) ?_;replace b:=AJ b;obtain⟨h,b⟩:=b;refine wD (fun st=>Fi (eR st) (eR st) h) ?_;replace b:=AJ b;obtain⟨i,b⟩:=b;refine wD (fun st=>BK (eR st) (eR st) i)<|wA (v:=I ((a.Hi-a.Lo)+1)) rfl<|wn<|Ap ?_;obtain rfl:=oi b;refine Au rfl rfl ?_;exact⟨g.AZ,rfl⟩
theorem a35 z j d e(Z:Nat→Prop) w(p:Sl (Al .i64) w Z d e j) aA(a:F8 z j=some aA):
 BN Tryz.prog 35 #[.slice d j.length e] w (fun v w'=>Ext w w'∧(Dk .i64).R w' (zf Z w []) v aA):=by
 unfold F8 at a;refine rq (N:=18) Tryz.func35 fun aP ha aQ=>?_;have s:=sA 0 ha;clear ha;have aB:Hp FN [] w [] w:=Hp.start (Bw.none w);have n:=p.mv (Bu (Z:=Z) (L:=[]) w);refine cr<|wA (v:=I 0) rfl<|wr<|wA (v:=I 0) rfl<|wn<|Af<|cr<|wA (v:=I 0) rfl<|wn<|AI ?_;replace a:=bind_some a;obtain⟨q,g,a⟩:=a;refine BQ (fun aC f t=>(aC=.exit 0∧Fo X0 18 f∧sl f 3=I q∧w=t)) ?aD ?aE
 case aD=>
  clear a;refine BP (fun u f t=>∃c,∃b,DO j u c b=some q∧Fo X0 18 f∧sl f 0=.slice d j.length e∧sl f 3=I c∧sl f 4=I b∧w=t) z ?aF ?aG
  case aF=>
   intro st;exact⟨(0:Int),(0:Int),g,qo st,sp st 0 s,sp st 3 rfl,sp st 4 rfl,rfl⟩
  case aG=>
   rintro(_|u) aR _ ⟨c,b,g,x,h,m,i,rfl⟩
   ·exact absurd (show none=some _ from g) (by simp)
   rw[DO.eq_2] at g;have a:=g;clear g;refine ro x<|Af<|cr<|wM (v:=I b) i<|wM (v:=.slice d j.length e) h<|wD (fun st=>Bn Tryz.underlying31 (eR st))<|wD (fun st=>B8 (eR st) (eR st))<|wn ?_;rcases Ae (decide (b<(j.length:Int))) with l|l
   ·replace a:=Am a l;refine Ah rfl l<|cn<|Af<|AI<|Ai<|wM (v:=I c) m<|wM (v:=.slice d j.length e) h<|wM (v:=I b) i ?_;replace a:=Bi a;obtain⟨i3,y,aH,aI,aJ,a⟩:=a;obtain⟨b3,aS,_,aK,rfl,aL⟩:=Sl.CR n rfl aI;refine wD (fun st=>BA (k:=i3) Tryz.underlying31 Dy (eR st) aK (eR st) aH aJ)<|wD (fun st=>BF (v:=I y) Bq (eR st) aL rfl) ?_;replace a:=AJ a;obtain⟨aM,a⟩:=a;refine wD (fun st=>BK (eR st) (eR st) aM)<|wA (v:=I (c+y)) rfl<|Bc<|CG<|Ai<|wM (v:=I b) i ?_;replace a:=AJ a;obtain⟨aN,a⟩:=a;refine wD (fun st=>BK (eR st) (eR st) aN)<|wA (v:=I (b+1)) rfl<|Bc ?_;refine Br u (Nat.lt_succ_self _) (fun st=>?_);exact⟨(c+y),(b+1),a,qo st,sp st 0 h,sp st 3 rfl,sp st 4 rfl,rfl⟩
   ·replace a:=An a l;refine Ao rfl l<|DA ?_;obtain rfl:=oi a;refine BG (fun st=>?_);exact⟨rfl,qo st,sp st 3 m,rfl⟩
 case aE=>
  rintro aC aO _ (⟨rfl,r,o,rfl⟩);refine lf r<|Be<|BM<|cr<|wM (v:=I q) o<|wA (v:=I q) rfl<|wn<|Ap ?_;obtain rfl:=oi a;refine Au rfl rfl ?_;exact⟨aB.AZ,rfl⟩
theorem a91 aY g p b c h i j l d e(Z:Nat→Prop) w(aZ:Sl Ax w Z b c g.Az)(a0:Sl (Bx (Al .i64)) w Z h i g.Bb)(a2:Sl AF w Z j l g.AP)(a3:Sl (Al .i64) w Z d e p) bJ(a:GA aY g p=some bJ):
 BN Tryz.prog 91 #[.agg (AU b c h i j l g).toArray,.slice d p.length e] w (fun v w'=>Ext w w'∧BE.R w' (zf Z w []) v bJ):=by
 unfold GA at a;refine rq (N:=24) Tryz.func91 fun b4 ha b5=>?_;have a9:=sA 0 ha;have bA:=sA 1 ha;clear ha;have a6:Hp FN [] w [] w:=Hp.start (Bw.none w);have ⟨aH,aI,aJ,aK⟩:=ID aZ a0 a2 a3 (Bu (Z:=Z) (L:=[]) w);refine cr<|wE (fun st=>BL (v:=.agg (AU b c h i j l g).toArray) (cs:=(AU b c h i j l g).toArray) (ee st a9) rfl) ?_;rintro _ w1 ⟨b1,rfl,aF⟩;have bK:=a6.nb aF;have bW:=a6.BH aF;refine wA (v:=.bool false) rfl<|wn<|Af<|cr<|wA (v:=I 0) rfl<|wn<|AI ?_;replace a:=bind_some a;obtain⟨z2,x,a⟩:=a;refine BQ (fun bB m o=>(bB=.ret∧∃y,z2=.inl y∧Fo X0 24 m∧sl m 4=.bool y∧Hp FN [] w [some b1] o)∨(bB=.exit 0∧∃y,z2=.inr y∧Fo X0 24 m∧sl m 1=.slice d p.length e∧sl m 2=pt b1 0∧Hp FN [] w [some b1] o∧Bk o b1 26 (AU b c h i j l g).toArray∧(fun z=>Sl Ax o z b c g.Az∧Sl (Bx (Al .i64)) o z h i g.Bb∧Sl AF o z j l g.AP∧Sl (Al .i64) o z d e p) (zf Z w [some b1]))) ?bL ?bM
 case bL=>
  clear a;refine BP (fun bC m o=>∃f,Da aY p bC f=some z2∧Fo X0 24 m∧sl m 1=.slice d p.length e∧sl m 2=pt b1 0∧sl m 5=I f∧Hp FN [] w [some b1] o∧Bk o b1 26 (AU b c h i j l g).toArray∧(fun z=>Sl Ax o z b c g.Az∧Sl (Bx (Al .i64)) o z h i g.Bb∧Sl AF o z j l g.AP∧Sl (Al .i64) o z d e p) (zf Z w [some b1])) aY ?bN ?bO
  case bN=>
   intro st;have ⟨aL,aM,aN,aO⟩:=ID aH aI aJ aK (Ay aF);exact⟨(0:Int),x,qo st,sp st 1 bA,sp st 2 rfl,sp st 5 rfl,bK,aF.bk,aL,aM,aN,aO⟩
  case bO=>
   rintro(_|bC) b6 b7 ⟨f,x,bD,q,aG,aA,a7,aC,r,s,t,n⟩
   ·exact absurd (show none=some _ from x) (by simp)
   rw[Da.eq_2] at x;have a:=x;clear x;refine ro bD<|Af<|cr<|wM (v:=I f) aA<|wM (v:=.slice d p.length e) q<|wD (fun st=>Bn Tryz.underlying31 (eR st))<|wD (fun st=>B8 (eR st) (eR st))<|wn ?_;rcases Ae (decide (f<(p.length:Int))) with aD|aD
   ·replace a:=Am a aD;refine Ah rfl aD<|cn<|Af<|AI<|cr<|wM (v:=.slice d p.length e) q<|wM (v:=I f) aA ?_;replace a:=Bi a;obtain⟨i4,bP,bQ,bR,bS,a⟩:=a;obtain⟨b9,cA,_,bT,rfl,bU⟩:=Sl.CR n rfl bR;refine wD (fun st=>BA (k:=i4) Tryz.underlying31 Dy (eR st) bT (eR st) bQ bS)<|wD (fun st=>BF (v:=I bP) Bq (eR st) bU rfl) ?_;replace a:=bind_some a;obtain⟨a4,bV,a⟩:=a;refine wE (fun st=>Ak Fs (eR st) (DX (eR st) (eR st) (eR st)) (Jr aY bP 0 30 ZA _ a4 bV)) ?_;rintro _ cB ⟨aT,rfl⟩;have a8:=a7.ext aT;refine wD (fun st=>Ca (eR st))<|wn ?_;rcases Ae (!a4) with u|u
    ·replace a:=Am a u;have bX:a4=false:=by simpa using u
     refine Ah rfl u<|cr<|wA (v:=.bool false) rfl<|wn<|Ap<|CO<|AG ?_;obtain rfl:=oi a;refine BG (fun st=>?_);exact .inl ⟨rfl,false,rfl,qo st,sp st 4 rfl,a8⟩
    ·replace a:=An a u;have bY:a4=true:=by simpa using u
     refine Ao rfl u<|Ce<|CG<|Ai<|wM (v:=I f) aA ?_;replace a:=AJ a;obtain⟨bE,a⟩:=a;refine wD (fun st=>BK (eR st) (eR st) bE)<|wA (v:=I (f+1)) rfl<|Bc ?_;have a5:=(aC.ext aT);have ⟨aP,aQ,aR,aS⟩:=ID r s t n (Ac aT);refine Br bC (Nat.lt_succ_self _) (fun st=>?_);exact⟨(f+1),a,qo st,sp st 1 q,sp st 2 aG,sp st 5 rfl,a8,a5,aP,aQ,aR,aS⟩
   ·replace a:=An a aD;refine Ao rfl aD<|DA ?_;obtain rfl:=oi a;refine BG (fun st=>?_);exact .inr ⟨rfl,(),rfl,qo st,sp st 1 q,sp st 2 aG,a7,aC,r,s,t,n⟩
 case bM=>
  rintro bB bZ b8 (⟨rfl,y,rfl,aB,aU,aE⟩|⟨rfl,y,rfl,aB,aV,aW,aE,aX,bF,bG,bH,bI⟩)
  ·skip
   replace a:=CM a;refine lf aB<|CO ?_;obtain rfl:=oi a;refine Au rfl aU ?_;exact⟨aE.AZ,rfl⟩
  ·skip
   replace a:=CN a;refine lf aB<|Be<|BM<|cr<|wM (v:=.slice d p.length e) aV<|wD (fun st=>Bn Tryz.underlying31 (eR st))<|wD (fun st=>Ad (ee st aW) (Gm _ _))<|wD (fun st=>Ag (v:=.slice b g.Az.length c) Hm (eR st) aX rfl)<|wD (fun st=>Bn Tryz.underlying22 (eR st))<|wD (fun st=>Dt (eR st) (eR st))<|wA (v:=.bool ((p.length:Int)==(g.Az.length:Int))) rfl<|wn<|Ap ?_;obtain rfl:=oi a;refine Au rfl rfl ?_;exact⟨aE.AZ,rfl⟩
theorem a59 aL e c d f g h i(Z:Nat→Prop) w(aM:Sl Ax w Z c d e.Az)(aN:Sl (Bx (Al .i64)) w Z f g e.Bb)(aO:Sl AF w Z h i e.AP) a0(a:Ez aL e=some a0):
 BN Tryz.prog 59 #[.agg (AU c d f g h i e).toArray] w (fun v w'=>Ext w w'∧(Dk .i64).R w' (zf Z w []) v a0):=by
 unfold Ez at a;refine rq (N:=22) Tryz.func59 fun bJ ha bK=>?_;have aT:=sA 0 ha;clear ha;have aR:Hp FN [] w [] w:=Hp.start (Bw.none w);have ⟨aA,aB,aC⟩:=Er aM aN aO (Bu (Z:=Z) (L:=[]) w);refine cr<|wE (fun st=>BL (v:=.agg (AU c d f g h i e).toArray) (cs:=(AU c d f g h i e).toArray) (ee st aT) rfl) ?_;rintro _ w1 ⟨b1,rfl,y⟩;have a2:=aR.nb y;have bH:=aR.BH y;refine wA (v:=I 0) rfl<|wr<|wA (v:=I 1) rfl<|wn<|Af<|cr<|wA (v:=I 0) rfl<|wn<|AI ?_;replace a:=bind_some a;obtain⟨z2,p,a⟩:=a;refine BQ (fun a3 m t=>(a3=.exit 0∧Fo X0 22 m∧sl m 3=I z2∧Hp FN [] w [some b1] t)) ?a4 ?a5
 case a4=>
  clear a;refine BP (fun aU m t=>∃j,∃b,DF aL e aU j b=some z2∧Fo X0 22 m∧sl m 1=pt b1 0∧sl m 3=I j∧sl m 4=I b∧Hp FN [] w [some b1] t∧Bk t b1 26 (AU c d f g h i e).toArray∧(fun aV=>Sl Ax t aV c d e.Az∧Sl (Bx (Al .i64)) t aV f g e.Bb∧Sl AF t aV h i e.AP) (zf Z w [some b1])) aL ?a6 ?a7
  case a6=>
   intro st;have ⟨aD,aE,aF⟩:=Er aA aB aC (Ay y);exact⟨(1:Int),(0:Int),p,qo st,sp st 1 rfl,sp st 3 rfl,sp st 4 rfl,a2,y.bk,aD,aE,aF⟩
  case a7=>
   rintro(_|aU) bL bM ⟨j,b,p,aW,q,z,r,aS,n,o,u,x⟩
   ·exact absurd (show none=some _ from p) (by simp)
   rw[DF.eq_2] at p;have a:=p;clear p;refine ro aW<|Af<|cr<|wM (v:=I b) r<|wD (fun st=>Ad (ee st q) (Gm _ _))<|wD (fun st=>Ag (v:=.slice c e.Az.length d) Hm (eR st) n rfl)<|wD (fun st=>Bn Tryz.underlying22 (eR st))<|wD (fun st=>B8 (eR st) (eR st))<|wn ?_;rcases Ae (decide (b<(e.Az.length:Int))) with s|s
   ·replace a:=Am a s;refine Ah rfl s<|cn<|Af<|AI<|Ai<|wM (v:=I j) z<|wD (fun st=>Ad (ee st q) (Gm _ _))<|wD (fun st=>Ag (v:=.slice c e.Az.length d) Hm (eR st) n rfl)<|wM (v:=I b) r ?_;replace a:=Bi a;obtain⟨i4,aX,a8,a9,bA,a⟩:=a;obtain⟨bO,bP,_,bB,rfl,bC⟩:=Sl.elem o (by decide) a9;refine wD (fun st=>BC (k:=i4) Tryz.underlying22 Ie (eR st) bB (eR st) a8 bA)<|wD (fun st=>Cv (l:=[I aX.Lo,I aX.Hi]) FW (eR st) bC rfl rfl) ?_;replace a:=bind_some a;obtain⟨aY,bD,a⟩:=a;refine wE (fun st=>Ak PX (eR st) (Cd (eR st)) (Wt aL aX ZA _ aY bD)) ?_;rintro _ bQ ⟨aJ,rfl⟩;have bE:=aS.ext aJ;replace a:=AJ a;obtain⟨bF,a⟩:=a;refine wD (fun st=>LU (eR st) (eR st) bF)<|wD (fun st=>TF (eR st) (eR st))<|wA (v:=I (min (3000:Int) (j*aY))) rfl<|Bc<|CG<|Ai<|wM (v:=I b) r ?_;replace a:=AJ a;obtain⟨bG,a⟩:=a;refine wD (fun st=>BK (eR st) (eR st) bG)<|wA (v:=I (b+1)) rfl<|Bc ?_;have aP:=(n.ext aJ);have ⟨aG,aH,aI⟩:=Er o u x (Ac aJ);refine Br aU (Nat.lt_succ_self _) (fun st=>?_);exact⟨(min (3000:Int) (j*aY)),(b+1),a,qo st,sp st 1 q,sp st 3 rfl,sp st 4 rfl,bE,aP,aG,aH,aI⟩
   ·replace a:=An a s;refine Ao rfl s<|DA ?_;obtain rfl:=oi a;refine BG (fun st=>?_);exact⟨rfl,qo st,sp st 3 z,aS⟩
 case a5=>
  rintro a3 bI bN (⟨rfl,aQ,aK,aZ⟩);refine lf aQ<|Be<|BM<|cr<|wM (v:=I z2) aK<|wA (v:=I z2) rfl<|wn<|Ap ?_;obtain rfl:=oi a;refine Au rfl rfl ?_;exact⟨aZ.AZ,rfl⟩
set_option maxHeartbeats 4000000 in
theorem a24 aN b e f c d g i(Z:Nat→Prop) w(dW:Sl Ax w Z e f b.Az)(dX:Sl (Bx (Al .i64)) w Z c d b.Bb)(dY:Sl AF w Z g i b.AP) fW(a:ET aN b=some fW):
 BN Tryz.prog 24 #[.agg (AU e f c d g i b).toArray] w (fun v w'=>Ext w w'∧(Dk .i64).R w' (zf Z w []) v fW):=by
 unfold ET at a;refine rq (N:=101) Tryz.func24 fun gL ha gM=>?_;have eC:=sA 0 ha;clear ha;have d4:Hp FN [] w [] w:=Hp.start (Bw.none w);have ⟨cR,cS,cT⟩:=Er dW dX dY (Bu (Z:=Z) (L:=[]) w);refine cr<|wE (fun st=>BL (v:=.agg (AU e f c d g i b).toArray) (cs:=(AU e f c d g i b).toArray) (ee st eC) rfl) ?_;rintro _ w1 ⟨b1,rfl,a2⟩;have bS:=d4.nb a2;have gB:=d4.BH a2;refine wA (v:=I 0) rfl<|wn<|Af<|cr<|wD (fun st=>Ad (eR st) (Gm _ _))<|wD (fun st=>Ag (v:=.slice e b.Az.length f) Hm (eR st) a2.bk rfl)<|wD (fun st=>Bn Tryz.underlying22 (eR st))<|wD (fun st=>Fj (eR st) (eR st))<|wM (v:=.bool (decide ((3:Int)<(b.Az.length:Int)))) rfl ?_;rcases Ae (decide ((3:Int)<(b.Az.length:Int))) with aE|aE
 ·replace a:=Am a aE;refine wF aE<|wF aE<|wF aE<|wF aE<|wD (fun st=>AR (v:=.bool true) (eR st) aE (eR st))<|wM (v:=.bool true) rfl<|wH<|wH<|wH<|wH<|wD (fun st=>AR (v:=.bool true) (eR st) rfl (eR st))<|wn<|Ah rfl rfl<|cr<|wA (v:=I 3) rfl<|wn<|Ap<|AG ?_;obtain rfl:=oi a;refine Au rfl rfl ?_;exact⟨bS.AZ,rfl⟩
 ·replace a:=An a aE;refine wG aE (fun st=>Ad (eR st) (EO _ _))<|wG aE (fun st=>Ag (v:=.slice c b.Bb.length d) DK (eR st) a2.bk rfl)<|wG aE (fun st=>Bn Tryz.underlying23 (eR st))<|wG aE (fun st=>Fj (eR st) (eR st))<|wD (fun st=>Bg (v:=.bool (decide ((3:Int)<(b.Bb.length:Int)))) (eR st) aE (eR st))<|wM (v:=.bool (decide ((3:Int)<(b.Bb.length:Int)))) rfl ?_;rcases Ae (decide ((3:Int)<(b.Bb.length:Int))) with aF|aF
  ·replace a:=Am a aF;refine wF aF<|wF aF<|wF aF<|wF aF<|wD (fun st=>AR (v:=.bool true) (eR st) aF (eR st))<|wn<|Ah rfl rfl<|cr<|wA (v:=I 3) rfl<|wn<|Ap<|AG ?_;obtain rfl:=oi a;refine Au rfl rfl ?_;exact⟨bS.AZ,rfl⟩
  ·replace a:=An a aF;refine wG aF (fun st=>Ad (eR st) (Ko _ _))<|wG aF (fun st=>Ag (v:=.slice g b.AP.length i) K8 (eR st) a2.bk rfl)<|wG aF (fun st=>Bn Tryz.underlying24 (eR st))<|wG aF (fun st=>Fj (eR st) (eR st))<|wD (fun st=>Bg (v:=.bool (decide ((5:Int)<(b.AP.length:Int)))) (eR st) aF (eR st))<|wn ?_;rcases Ae (decide ((5:Int)<(b.AP.length:Int))) with bT|bT
   ·replace a:=Am a bT;refine Ah rfl bT<|cr<|wA (v:=I 3) rfl<|wn<|Ap<|AG ?_;obtain rfl:=oi a;refine Au rfl rfl ?_;exact⟨bS.AZ,rfl⟩
   ·replace a:=An a bT;refine Ao rfl bT<|cn<|Af<|cr<|wD (fun st=>Ad (eR st) (Gm _ _))<|wD (fun st=>Ag (v:=.slice e b.Az.length f) Hm (eR st) a2.bk rfl)<|wD (fun st=>Bn Tryz.underlying22 (eR st))<|wD (fun st=>Dt (eR st) (eR st))<|wn ?_;rcases Ae ((b.Az.length:Int)==0) with bU|bU
    ·replace a:=Am a bU;refine Ah rfl bU<|cr<|wA (v:=I 1) rfl<|wn<|Ap<|AG ?_;obtain rfl:=oi a;refine Au rfl rfl ?_;exact⟨bS.AZ,rfl⟩
    ·replace a:=An a bU;refine Ao rfl bU<|cn<|Af<|cr<|wA (v:=I 0) rfl<|wn<|AI ?_;replace a:=bind_some a;obtain⟨eD,bI,a⟩:=a;refine BQ (fun a7 m p=>(a7=.ret∧∃bJ,eD=.inl bJ∧Fo X0 101 m∧sl m 2=I bJ∧Hp FN [] w [some b1] p)∨(a7=.exit 0∧∃bJ,eD=.inr bJ∧Fo X0 101 m∧sl m 1=pt b1 0∧Hp FN [] w [some b1] p∧Bk p b1 26 (AU e f c d g i b).toArray∧(fun z=>Sl Ax p z e f b.Az∧Sl (Bx (Al .i64)) p z c d b.Bb∧Sl AF p z g i b.AP) (zf Z w [some b1]))) ?fX ?fY
     case fX=>
      clear a;refine BP (fun a3 m p=>∃aG,Dp aN b a3 aG=some eD∧Fo X0 101 m∧sl m 1=pt b1 0∧sl m 3=I aG∧Hp FN [] w [some b1] p∧Bk p b1 26 (AU e f c d g i b).toArray∧(fun z=>Sl Ax p z e f b.Az∧Sl (Bx (Al .i64)) p z c d b.Bb∧Sl AF p z g i b.AP) (zf Z w [some b1])) aN ?fZ ?f0
      case fZ=>
       intro st;have ⟨cU,cV,cW⟩:=Er cR cS cT (Ay a2);exact⟨(0:Int),bI,qo st,sp st 1 rfl,sp st 3 rfl,bS,a2.bk,cU,cV,cW⟩
      case f0=>
       rintro(_|a3) gN gO ⟨aG,bI,eE,a4,bL,d5,aT,aO,a8,a9⟩
       ·exact absurd (show none=some _ from bI) (by simp)
       rw[Dp.eq_2] at bI;have a:=bI;clear bI;refine ro eE<|Af<|cr<|wM (v:=I aG) bL<|wD (fun st=>Ad (ee st a4) (Gm _ _))<|wD (fun st=>Ag (v:=.slice e b.Az.length f) Hm (eR st) aT rfl)<|wD (fun st=>Bn Tryz.underlying22 (eR st))<|wD (fun st=>B8 (eR st) (eR st))<|wn ?_;rcases Ae (decide (aG<(b.Az.length:Int))) with bV|bV
       ·replace a:=Am a bV;refine Ah rfl bV<|cn<|Af<|AI<|cr<|wD (fun st=>Ad (ee st a4) (Gm _ _))<|wD (fun st=>Ag (v:=.slice e b.Az.length f) Hm (eR st) aT rfl)<|wM (v:=I aG) bL ?_;replace a:=Bi a;obtain⟨i8,eF,f1,f2,f3,a⟩:=a;obtain⟨g4,g5,_,f4,rfl,f5⟩:=Sl.elem aO (by decide) f2;refine wD (fun st=>BC (k:=i8) Tryz.underlying22 Ie (eR st) f4 (eR st) f1 f3)<|wD (fun st=>Cv (l:=[I eF.Lo,I eF.Hi]) FW (eR st) f5 rfl rfl) ?_;replace a:=bind_some a;obtain⟨dZ,f6,a⟩:=a;refine wE (fun st=>Ak Pk (eR st) (DX (eR st) (eR st) (eR st)) (W7 aN eF 0 100 ZA _ dZ f6)) ?_;rintro _ gP ⟨dB,rfl⟩;have d6:=d5.ext dB;refine wD (fun st=>Ca (eR st))<|wn ?_;rcases Ae (!dZ) with aP|aP
        ·replace a:=Am a aP;have fK:dZ=false:=by simpa using aP
         refine Ah rfl aP<|cr<|wA (v:=I 1) rfl<|wn<|Ap<|CO<|AG ?_;obtain rfl:=oi a;refine BG (fun st=>?_);exact .inl ⟨rfl,(1:Int),rfl,qo st,sp st 2 rfl,d6⟩
        ·replace a:=An a aP;have fL:dZ=true:=by simpa using aP
         refine Ao rfl aP<|Ce<|CG<|Ai<|wM (v:=I aG) bL ?_;replace a:=AJ a;obtain⟨eG,a⟩:=a;refine wD (fun st=>BK (eR st) (eR st) eG)<|wA (v:=I (aG+1)) rfl<|Bc ?_;have d0:=(aT.ext dB);have ⟨cX,cY,cZ⟩:=Er aO a8 a9 (Ac dB);refine Br a3 (Nat.lt_succ_self _) (fun st=>?_);exact⟨(aG+1),a,qo st,sp st 1 a4,sp st 3 rfl,d6,d0,cX,cY,cZ⟩
       ·replace a:=An a bV;refine Ao rfl bV<|DA ?_;obtain rfl:=oi a;refine BG (fun st=>?_);exact .inr ⟨rfl,(),rfl,qo st,sp st 1 a4,d5,aT,aO,a8,a9⟩
     case fY=>
      rintro a7 gE gQ (⟨rfl,bJ,rfl,bM,dC,cB⟩|⟨rfl,bJ,rfl,bM,dD,cB,dE,cC,cD,cE⟩)
      ·skip
       replace a:=CM a;refine lf bM<|CO ?_;obtain rfl:=oi a;refine Au rfl dC ?_;exact⟨cB.AZ,rfl⟩
      ·skip
       replace a:=CN a;refine lf bM<|Be<|BM<|Af<|cr<|wA (v:=I 0) rfl<|wn<|AI ?_;replace a:=bind_some a;obtain⟨dF,aW,a⟩:=a;refine BQ (fun a7 m p=>(a7=.ret∧∃aX,dF=.inl aX∧Fo X0 101 m∧sl m 2=I aX∧Hp FN [] w [some b1] p)∨(a7=.exit 2∧∃aX,dF=.inr aX∧Fo X0 101 m∧sl m 1=pt b1 0∧Hp FN [] w [some b1] p∧Bk p b1 26 (AU e f c d g i b).toArray∧(fun z=>Sl Ax p z e f b.Az∧Sl (Bx (Al .i64)) p z c d b.Bb∧Sl AF p z g i b.AP) (zf Z w [some b1]))) ?eH ?eI
       case eH=>
        clear a;refine BP (fun a3 m p=>∃u,CV aN b a3 u=some dF∧Fo X0 101 m∧sl m 1=pt b1 0∧sl m 4=I u∧Hp FN [] w [some b1] p∧Bk p b1 26 (AU e f c d g i b).toArray∧(fun z=>Sl Ax p z e f b.Az∧Sl (Bx (Al .i64)) p z c d b.Bb∧Sl AF p z g i b.AP) (zf Z w [some b1])) aN ?eJ ?eK
        case eJ=>
         intro st;exact⟨(0:Int),aW,qo st,sp st 1 dD,sp st 4 rfl,cB,dE,cC,cD,cE⟩
        case eK=>
         rintro(_|a3) gF gG ⟨u,aW,d1,x,aI,dG,t,aB,y,aC⟩
         ·exact absurd (show none=some _ from aW) (by simp)
         rw[CV.eq_2] at aW;have a:=aW;clear aW;refine ro d1<|Af<|cr<|wM (v:=I u) aI<|wD (fun st=>Ad (ee st x) (EO _ _))<|wD (fun st=>Ag (v:=.slice c b.Bb.length d) DK (eR st) t rfl)<|wD (fun st=>Bn Tryz.underlying23 (eR st))<|wD (fun st=>B8 (eR st) (eR st))<|wn ?_;rcases Ae (decide (u<(b.Bb.length:Int))) with bA|bA
         ·replace a:=Am a bA;refine Ah rfl bA<|cn<|Af<|AI<|Af ?_;replace a:=Bi a;obtain⟨i18,cO,dH,eM,dI,a⟩:=a;obtain⟨d7,d8,_,dJ,⟨a5,a6,rfl,bW⟩,dK⟩:=Sl.CR y rfl eM;replace a:=bind_some a;obtain⟨aJ,dL,a⟩:=a;rcases Ae (!aJ) with j|j
          ·replace a:=Am a j;have fM:aJ=false:=by simpa using j
           refine BW 12 [Kc (.agg (AU e f c d g i b).toArray),Kc (pt b1 1),Kc (.slice c b.Bb.length d),Kc (I u),Kc (pt d7 (d8+i18)),Kc (.slice a5 cO.length a6),Kc (.bool aJ),Kc (.bool !aJ),Kc (.bool !aJ),Kc undef,Kc undef,Kc undef] mixed rfl rfl
               (Aa (oD (fun K=>AO (l:=(AU e f c d g i b)) HN (es ((K.out 1 rfl).trans x)) (t.ext K.AV) rfl rfl))
               (Aa (oD (fun K=>Ad (es ((K.out 1 rfl).trans x)) (EO _ _)))
               (Aa (oD (fun K=>Ag DK (es (K.dq 1 50)) (t.ext K.AV) rfl))
               (Aa (oD (fun K=>AA (es ((K.out 4 rfl).trans aI))))
               (Aa (oD (fun K=>BA (k:=i18) Tryz.underlying23 E8 (es (K.dq 2 51)) dJ (es (K.dq 3 52)) dH dI))
               (Aa (oD (fun K=>BF CU (es (K.dq 4 53)) (dK.mv (Ac K.AV)) rfl))
               (Aa (oE (fun K=>(Ak UU rfl (Ci (es (K.dq 0 49)) (es (K.dq 5 54))) (a91 aN b cO e f c d g i a5 a6 ZA _ (aB.mv (Ac K.AV)).all (y.mv (Ac K.AV)).all (aC.mv (Ac K.AV)).all (bW.mv (Ac K.AV)).all aJ dL)).mono (fun _ _ h=>⟨h.2,h.1⟩)))
               (Aa (oD (fun K=>Ca (es (K.dq 6 55))))
               (Aa (oD (fun K=>AA (es (K.dq 7 56))))
               (Aa (oT j)
               (Aa (oT j)
               (Aa (oT j)
               (BR _))))))))))))) ?_
           intro f7;rintro _ rfl _ rfl _ rfl _ rfl _ rfl _ rfl _ rfl _ rfl _ rfl _ rfl _ rfl _ rfl aQ;have f8:=dG.ext aQ;refine wF j<|wF j<|wF j<|wF j<|wD (fun st=>AR (v:=.bool true) (eR st) j (eR st))<|wn<|Ah rfl rfl<|cr<|wA (v:=I 1) rfl<|wn<|Ap<|CO<|AG ?_;obtain rfl:=oi a;refine BG (fun st=>?_);exact .inl ⟨rfl,(1:Int),rfl,qo st,sp st 2 rfl,f8⟩
          ·replace a:=An a j;have fN:aJ=true:=by simpa using j
           refine BW 12 [Kc (.agg (AU e f c d g i b).toArray),Kc (pt b1 1),Kc (.slice c b.Bb.length d),Kc (I u),Kc (pt d7 (d8+i18)),Kc (.slice a5 cO.length a6),Kc (.bool aJ),Kc (.bool !aJ),Kc (.bool !aJ),Kc (pt b1 1),Kc (.slice c b.Bb.length d),Kc (I u)] mixed rfl rfl
               (Aa (oD (fun K=>AO (l:=(AU e f c d g i b)) HN (es ((K.out 1 rfl).trans x)) (t.ext K.AV) rfl rfl))
               (Aa (oD (fun K=>Ad (es ((K.out 1 rfl).trans x)) (EO _ _)))
               (Aa (oD (fun K=>Ag DK (es (K.dq 1 50)) (t.ext K.AV) rfl))
               (Aa (oD (fun K=>AA (es ((K.out 4 rfl).trans aI))))
               (Aa (oD (fun K=>BA (k:=i18) Tryz.underlying23 E8 (es (K.dq 2 51)) dJ (es (K.dq 3 52)) dH dI))
               (Aa (oD (fun K=>BF CU (es (K.dq 4 53)) (dK.mv (Ac K.AV)) rfl))
               (Aa (oE (fun K=>(Ak UU rfl (Ci (es (K.dq 0 49)) (es (K.dq 5 54))) (a91 aN b cO e f c d g i a5 a6 ZA _ (aB.mv (Ac K.AV)).all (y.mv (Ac K.AV)).all (aC.mv (Ac K.AV)).all (bW.mv (Ac K.AV)).all aJ dL)).mono (fun _ _ h=>⟨h.2,h.1⟩)))
               (Aa (oD (fun K=>Ca (es (K.dq 6 55))))
               (Aa (oD (fun K=>AA (es (K.dq 7 56))))
               (Aa (oG j (fun K=>Ad (es ((K.out 1 rfl).trans x)) (EO _ _)))
               (Aa (oG j (fun K=>Ag DK (es (K.dq 9 58)) (t.ext K.AV) rfl))
               (Aa (oG j (fun K=>AA (es ((K.out 4 rfl).trans aI))))
               (BR _))))))))))))) ?_
           intro f7;rintro _ rfl _ rfl _ rfl _ rfl _ rfl _ rfl _ rfl _ rfl _ rfl _ rfl _ rfl _ rfl aQ;have f9:=dG.ext aQ;replace a:=Bi a;obtain⟨i23,d9,eN,eO,eP,a⟩:=a;have bK:=(y.mv (Ac aQ));obtain⟨gR,gS,_,eQ,⟨cP,cQ,rfl,dM⟩,eS⟩:=Sl.CR bK rfl eO;refine wG j (fun st=>BA (k:=i23) Tryz.underlying23 E8 (eR st) eQ (eR st) eN eP)<|wG j (fun st=>BF (v:=.slice cP d9.length cQ) CU (eR st) eS rfl) ?_;replace a:=bind_some a;obtain⟨dN,eT,a⟩:=a;refine wX j (fun st=>Ak RO (eR st) (Cd (eR st)) (a35 aN d9 cP cQ ZA _ dM.all dN eT)) ?_;rintro _ gT ⟨bB,rfl⟩;have eA:=f9.ext bB;refine wG j (fun st=>Dt (eR st) (eR st))<|wD (fun st=>Bg (v:=.bool (dN==0)) (eR st) j (eR st))<|wn ?_;rcases Ae (dN==0) with bC|bC
           ·replace a:=Am a bC;refine Ah rfl bC<|cr<|wA (v:=I 1) rfl<|wn<|Ap<|CO<|AG ?_;obtain rfl:=oi a;refine BG (fun st=>?_);exact .inl ⟨rfl,(1:Int),rfl,qo st,sp st 2 rfl,eA⟩
           ·replace a:=An a bC;refine Ao rfl bC<|Ce<|CG<|Ai<|wM (v:=I u) aI ?_;replace a:=AJ a;obtain⟨eU,a⟩:=a;refine wD (fun st=>BK (eR st) (eR st) eU)<|wA (v:=I (u+1)) rfl<|Bc ?_;have d2:=((t.ext aQ).ext bB);have c0:=((aB.mv (Ac aQ)).mv (Ac bB));have c1:=(bK.mv (Ac bB));have c2:=((aC.mv (Ac aQ)).mv (Ac bB));refine Br a3 (Nat.lt_succ_self _) (fun st=>?_);exact⟨(u+1),a,qo st,sp st 1 x,sp st 4 rfl,eA,d2,c0,c1,c2⟩
         ·replace a:=An a bA;refine Ao rfl bA<|DA ?_;obtain rfl:=oi a;refine BG (fun st=>?_);exact .inr ⟨rfl,(),rfl,qo st,sp st 1 x,dG,t,aB,y,aC⟩
       case eI=>
        rintro a7 gC gH (⟨rfl,aX,rfl,bD,c3,bN⟩|⟨rfl,aX,rfl,bD,c4,bN,c5,bX,bY,bZ⟩)
        ·skip
         replace a:=CM a;refine lf bD<|CO ?_;obtain rfl:=oi a;refine Au rfl c3 ?_;exact⟨bN.AZ,rfl⟩
        ·skip
         replace a:=CN a;refine lf bD<|Be<|BM<|Af<|cr<|wA (v:=I 0) rfl<|wn<|AI ?_;replace a:=bind_some a;obtain⟨z28,aY,a⟩:=a;refine BQ (fun a7 m p=>(a7=.ret∧∃aZ,z28=.inl aZ∧Fo X0 101 m∧sl m 2=I aZ∧Hp FN [] w [some b1] p)∨(a7=.exit 4∧∃aZ,z28=.inr aZ∧Fo X0 101 m∧sl m 1=pt b1 0∧Hp FN [] w [some b1] p∧Bk p b1 26 (AU e f c d g i b).toArray∧(fun z=>Sl Ax p z e f b.Az∧Sl (Bx (Al .i64)) p z c d b.Bb∧Sl AF p z g i b.AP) (zf Z w [some b1]))) ?eV ?eW
         case eV=>
          clear a;refine BP (fun a3 m p=>∃q,CK aN b a3 q=some z28∧Fo X0 101 m∧sl m 1=pt b1 0∧sl m 5=I q∧Hp FN [] w [some b1] p∧Bk p b1 26 (AU e f c d g i b).toArray∧(fun z=>Sl Ax p z e f b.Az∧Sl (Bx (Al .i64)) p z c d b.Bb∧Sl AF p z g i b.AP) (zf Z w [some b1])) aN ?eX ?eY
          case eX=>
           intro st;exact⟨(0:Int),aY,qo st,sp st 1 c4,sp st 5 rfl,bN,c5,bX,bY,bZ⟩
          case eY=>
           rintro(_|a3) gI gJ ⟨q,aY,d3,aA,aU,cF,aM,aK,aL,aD⟩
           ·exact absurd (show none=some _ from aY) (by simp)
           rw[CK.eq_2] at aY;have a:=aY;clear aY;refine ro d3<|Af<|cr<|wM (v:=I q) aU<|wD (fun st=>Ad (ee st aA) (Ko _ _))<|wD (fun st=>Ag (v:=.slice g b.AP.length i) K8 (eR st) aM rfl)<|wD (fun st=>Bn Tryz.underlying24 (eR st))<|wD (fun st=>B8 (eR st) (eR st))<|wn ?_;rcases Ae (decide (q<(b.AP.length:Int))) with bE|bE
           ·replace a:=Am a bE;refine Ah rfl bE<|cn<|Af<|AI<|cr<|wD (fun st=>Ad (ee st aA) (Ko _ _))<|wD (fun st=>Ag (v:=.slice g b.AP.length i) K8 (eR st) aM rfl)<|wM (v:=I q) aU ?_;replace a:=Bi a;obtain⟨i30,o,eZ,e0,e1,a⟩:=a;obtain⟨gU,gV,_,e2,rfl,e3⟩:=Sl.elem aD (by decide) e0;refine wD (fun st=>BC (k:=i30) Tryz.underlying24 Pm (eR st) e2 (eR st) eZ e1)<|wD (fun st=>Cv (l:=[.bool o.BY,I o.Number,I o.Bl,I o.Bm]) RP (eR st) e3 rfl rfl)<|wE (fun st=>BZ (cs:= #[.bool false,I 0,I 0,I 0]) To rfl) ?_;rintro _ gW ⟨gX,rfl,a0⟩;have bO:=cF.nb a0;have gA:=cF.BH a0;refine BD rfl rfl (fun st=>Bt (n:=4) (l:=[.bool o.BY,I o.Number,I o.Bl,I o.Bm]) (Cm:= #[.bool o.BY,I o.Number,I o.Bl,I o.Bm]) (eR st) (eR st) Pm a0.bk rfl rfl (show 0+4≤4 by decide) (AY rfl) rfl) ?_;rintro _ gY aH;have dO:=bO.gr aH.gr 0 rfl;refine wr<|wD (fun st=>Ad (ee st aA) (Gm _ _)) ?_;have aV:=((aM.ext a0.gr).gr aH.gr (bO.nq 1 0));refine wD (fun st=>Ag (v:=.slice e b.Az.length f) Hm (eR st) aV rfl)<|wD (fun st=>Bn Tryz.underlying22 (eR st))<|wA (v:=I (b.Az.length:Int)) rfl<|wn<|Af<|cr<|wD (fun st=>Ad (eR st) (PY _ _))<|wD (fun st=>Ag (v:=.bool o.BY) KB (eR st) aH.bk rfl)<|wn ?_;rcases Ae (o.BY) with bF|bF
            ·replace a:=Am a bF;refine Ah rfl bF<|Ai<|wD (fun st=>Ad (ee st aA) (EO _ _))<|wD (fun st=>Ag (v:=.slice c b.Bb.length d) DK (eR st) aV rfl)<|wD (fun st=>Bn Tryz.underlying23 (eR st))<|wA (v:=I (b.Bb.length:Int)) rfl<|wr<|wD (fun st=>Ad (eR st) (NX _ _))<|wD (fun st=>Ag (v:=I o.Number) Bq (eR st) aH.bk rfl)<|wM (v:=I (b.Bb.length:Int)) rfl ?_;replace a:=AJ a;obtain⟨e4,a⟩:=a;refine wD (fun st=>Fi (eR st) (eR st) e4) ?_;replace a:=bind_some a;obtain⟨b4,e5,a⟩:=a;refine wE (fun st=>Ak Fs (eR st) (DX (eR st) (eR st) (eR st)) (Jr aN o.Number 0 ((b.Bb.length:Int)-1) ZA _ b4 e5)) ?_;rintro _ gZ ⟨bP,rfl⟩;have dP:=dO.ext bP;refine wD (fun st=>Ca (eR st))<|wM (v:=.bool !b4) rfl ?_;rcases Ae (!b4) with r|r
             ·replace a:=Am a r;have fO:b4=false:=by simpa using r
              refine wF r<|wF r<|wF r<|wF r<|wD (fun st=>AR (v:=.bool true) (eR st) r (eR st))<|wn<|Ah rfl rfl<|cr<|wA (v:=I 1) rfl<|wn<|Ap<|CO<|AG ?_;have e6:=dP.erase 0;obtain rfl:=oi a;refine BG (fun st=>?_);exact .inl ⟨rfl,(1:Int),rfl,qo st,sp st 2 rfl,e6⟩
             ·replace a:=An a r;have fP:b4=true:=by simpa using r
              refine wG r (fun st=>Ad (eR st) (KP _ _)) ?_;have c6:=(aH.bk.ext bP);refine wG r (fun st=>AO (l:=[I o.Bl,I o.Bm]) FW (eR st) c6 rfl rfl) ?_;replace a:=bind_some a;obtain⟨b5,e7,a⟩:=a;refine wX r (fun st=>Ak Pk (eR st) (DX (eR st) (eR st) (eR st)) (W7 aN (⟨o.Bl,o.Bm⟩:AL) 0 100 ZA _ b5 e7)) ?_;rintro _ g0 ⟨cG,rfl⟩;have dQ:=dP.ext cG;refine wG r (fun st=>Ca (eR st))<|wD (fun st=>Bg (v:=.bool !b5) (eR st) r (eR st))<|wn ?_;rcases Ae (!b5) with aR|aR
              ·replace a:=Am a aR;have fQ:b5=false:=by simpa using aR
               refine Ah rfl aR<|cr<|wA (v:=I 1) rfl<|wn<|Ap<|CO<|AG ?_;have e8:=dQ.erase 0;obtain rfl:=oi a;refine BG (fun st=>?_);exact .inl ⟨rfl,(1:Int),rfl,qo st,sp st 2 rfl,e8⟩
              ·replace a:=An a aR;have fR:b5=true:=by simpa using aR
               refine Ao rfl aR<|Ce<|CG<|Ai<|wM (v:=I q) aU ?_;replace a:=AJ a;obtain⟨e9,a⟩:=a;refine wD (fun st=>BK (eR st) (eR st) e9)<|wA (v:=I (q+1)) rfl<|Bc ?_;have fA:=dQ.erase 0;have dR:=((aV.ext bP).ext cG);have ⟨cH,cI,cJ⟩:=Er aK aL aD (mt (Ay a0) (mt (bO.By aH.gr 0 rfl) (mt (Ac bP) (mt (Ac cG) (AH 0)))));refine Br a3 (Nat.lt_succ_self _) (fun st=>?_);exact⟨(q+1),a,qo st,sp st 1 aA,sp st 5 rfl,fA,dR,cH,cI,cJ⟩
            ·replace a:=An a bF;refine Ao rfl bF<|cn<|cr<|wD (fun st=>Ad (eR st) (NX _ _))<|wD (fun st=>Ag (v:=I o.Number) Bq (eR st) aH.bk rfl)<|wM (v:=I (b.Az.length:Int)) rfl ?_;replace a:=AJ a;obtain⟨fB,a⟩:=a;refine wD (fun st=>Fi (eR st) (eR st) fB) ?_;replace a:=bind_some a;obtain⟨b6,fC,a⟩:=a;refine wE (fun st=>Ak Fs (eR st) (DX (eR st) (eR st) (eR st)) (Jr aN o.Number 0 ((b.Az.length:Int)-1) ZA _ b6 fC)) ?_;rintro _ g1 ⟨bQ,rfl⟩;have dS:=dO.ext bQ;refine wD (fun st=>Ca (eR st))<|wM (v:=.bool !b6) rfl ?_;rcases Ae (!b6) with s|s
             ·replace a:=Am a s;have fS:b6=false:=by simpa using s
              refine wF s<|wF s<|wF s<|wF s<|wD (fun st=>AR (v:=.bool true) (eR st) s (eR st))<|wn<|Ah rfl rfl<|cr<|wA (v:=I 1) rfl<|wn<|Ap<|CO<|AG ?_;have fD:=dS.erase 0;obtain rfl:=oi a;refine BG (fun st=>?_);exact .inl ⟨rfl,(1:Int),rfl,qo st,sp st 2 rfl,fD⟩
             ·replace a:=An a s;have fT:b6=true:=by simpa using s
              refine wG s (fun st=>Ad (eR st) (KP _ _)) ?_;have c7:=(aH.bk.ext bQ);refine wG s (fun st=>AO (l:=[I o.Bl,I o.Bm]) FW (eR st) c7 rfl rfl) ?_;replace a:=bind_some a;obtain⟨b7,fE,a⟩:=a;refine wX s (fun st=>Ak Pk (eR st) (DX (eR st) (eR st) (eR st)) (W7 aN (⟨o.Bl,o.Bm⟩:AL) 0 100 ZA _ b7 fE)) ?_;rintro _ g2 ⟨cK,rfl⟩;have dT:=dS.ext cK;refine wG s (fun st=>Ca (eR st))<|wD (fun st=>Bg (v:=.bool !b7) (eR st) s (eR st))<|wn ?_;rcases Ae (!b7) with aS|aS
              ·replace a:=Am a aS;have fU:b7=false:=by simpa using aS
               refine Ah rfl aS<|cr<|wA (v:=I 1) rfl<|wn<|Ap<|CO<|AG ?_;have fF:=dT.erase 0;obtain rfl:=oi a;refine BG (fun st=>?_);exact .inl ⟨rfl,(1:Int),rfl,qo st,sp st 2 rfl,fF⟩
              ·replace a:=An a aS;have fV:b7=true:=by simpa using aS
               refine Ao rfl aS<|Ce<|CG<|Ai<|wM (v:=I q) aU ?_;replace a:=AJ a;obtain⟨fG,a⟩:=a;refine wD (fun st=>BK (eR st) (eR st) fG)<|wA (v:=I (q+1)) rfl<|Bc ?_;have fH:=dT.erase 0;have dU:=((aV.ext bQ).ext cK);have ⟨cL,cM,cN⟩:=Er aK aL aD (mt (Ay a0) (mt (bO.By aH.gr 0 rfl) (mt (Ac bQ) (mt (Ac cK) (AH 0)))));refine Br a3 (Nat.lt_succ_self _) (fun st=>?_);exact⟨(q+1),a,qo st,sp st 1 aA,sp st 5 rfl,fH,dU,cL,cM,cN⟩
           ·replace a:=An a bE;refine Ao rfl bE<|DA ?_;obtain rfl:=oi a;refine BG (fun st=>?_);exact .inr ⟨rfl,(),rfl,qo st,sp st 1 aA,cF,aM,aK,aL,aD⟩
         case eW=>
          rintro a7 gD gK (⟨rfl,aZ,rfl,bG,c8,bR⟩|⟨rfl,aZ,rfl,bG,c9,bR,dA,b8,b9,cA⟩)
          ·skip
           replace a:=CM a;refine lf bG<|CO ?_;obtain rfl:=oi a;refine Au rfl c8 ?_;exact⟨bR.AZ,rfl⟩
          ·skip
           replace a:=CN a;refine lf bG<|Be<|BM<|Af<|cr<|wD (fun st=>AO (l:=(AU e f c d g i b)) HN (ee st c9) dA rfl rfl) ?_;replace a:=bind_some a;obtain⟨eB,fI,a⟩:=a;refine wE (fun st=>Ak RQ (eR st) (Cd (eR st)) (a59 aN b e f c d g i ZA _ b8.all b9.all cA.all eB fI)) ?_;rintro _ g3 ⟨fJ,rfl⟩;have dV:=bR.ext fJ;refine wD (fun st=>Fj (eR st) (eR st))<|wn ?_;rcases Ae (decide ((2000:Int)<eB)) with bH|bH
           ·replace a:=Am a bH;refine Ah rfl bH<|cr<|wA (v:=I 3) rfl<|wn<|Ap<|AG ?_;obtain rfl:=oi a;refine Au rfl rfl ?_;exact⟨dV.AZ,rfl⟩
           ·replace a:=An a bH;refine Ao rfl bH<|cn<|cr<|wA (v:=I 0) rfl<|wn<|Ap ?_;obtain rfl:=oi a;refine Au rfl rfl ?_;exact⟨dV.AZ,rfl⟩
set_option maxHeartbeats 4000000 in
theorem a58 c0 bA dL a6 a7 bC bD bE bF(Z:Nat→Prop) w(c9:Sl Ax w Z a6 a7 bA.Az)(dA:Sl (Bx (Al .i64)) w Z bC bD bA.Bb)(dB:Sl AF w Z bE bF bA.AP) d0(aN:H8 c0 bA dL=some d0):
 BN Tryz.prog 58 #[.agg (AU a6 a7 bC bD bE bF bA).toArray,I dL] w (fun v w'=>Ext w w'∧(FE (Al .i64)).R w' (zf Z w []) v d0):=by
 unfold H8 at aN;refine rq (N:=35) Tryz.func58 fun eP ha eQ=>?_;have dM:=sA 0 ha;have dN:=sA 1 ha;clear ha;have dJ:Hp FN [] w [] w:=Hp.start (Bw.none w);have ⟨cP,cQ,cR⟩:=Er c9 dA dB (Bu (Z:=Z) (L:=[]) w);refine cr<|wE (fun st=>BL (v:=.agg (AU a6 a7 bC bD bE bF bA).toArray) (cs:=(AU a6 a7 bC bD bE bF bA).toArray) (ee st dM) rfl) ?_;rintro _ w1 ⟨b1,rfl,cC⟩;have d1:=dJ.nb cC;have eI:=dJ.BH cC;refine wA (v:=.slice none 0 0) rfl<|wr<|wA (v:=.slice none 0 0) rfl<|wn<|Af<|cr<|wA (v:=I 0) rfl<|wn<|AI ?_;have d2:=d1.nil;have d3:Bp (Al .i64) 3 w.heap.size w1 (zf Z w [none,some b1]) none 0 ([]:List Int):=Bp.nil _ _ _ _ _;replace aN:=bind_some aN;obtain⟨z2,bQ,aN⟩:=aN;refine BQ (fun bN bG a9=>(bN=.exit 0∧∃aW a3,Fo X0 35 bG∧sl bG 5=.slice aW z2.length a3∧Hp FN [] w [ob aW,some b1] a9∧Bp (Al .i64) 3 w.heap.size a9 (zf Z w [ob aW,some b1]) aW a3 z2)) ?d4 ?d5
 case d4=>
  clear aN;refine BP (fun dO bG a9=>∃aK,∃aX,∃a5,∃aQ a2,Fl c0 bA dO aK aX a5=some z2∧Fo X0 35 bG∧sl bG 1=I aK∧sl bG 2=pt b1 0∧sl bG 5=.slice aQ aX.length a2∧sl bG 6=I a5∧Hp FN [] w [ob aQ,some b1] a9∧(fun dC=>Bp (Al .i64) 3 w.heap.size a9 dC aQ a2 aX∧Bk a9 b1 26 (AU a6 a7 bC bD bE bF bA).toArray∧Sl Ax a9 dC a6 a7 bA.Az∧Sl (Bx (Al .i64)) a9 dC bC bD bA.Bb∧Sl AF a9 dC bE bF bA.AP) (zf Z w [ob aQ,some b1])) c0 ?d6 ?d7
  case d6=>
   intro st;have dD:=cC.bk;have ⟨cS,cT,cU⟩:=Er cP cQ cR (mt (Ay cC) Bv);exact⟨dL,([]:List Int),(0:Int),none,0,bQ,qo st,sp st 1 dN,sp st 2 rfl,sp st 5 rfl,sp st 6 rfl,d2,d3,dD,cS,cT,cU⟩
  case d7=>
   rintro(_|dO) eS eT ⟨aK,aX,a5,aQ,a2,bQ,dP,cD,bT,cE,bU,c1,bH,bI,bJ,b9,cA⟩
   ·exact absurd (show none=some _ from bQ) (by simp)
   rw[Fl.eq_2] at bQ;have aN:=bQ;clear bQ;refine ro dP<|Af<|cr<|wM (v:=I a5) bU<|wD (fun st=>Ad (ee st bT) (Gm _ _))<|wD (fun st=>Ag (v:=.slice a6 bA.Az.length a7) Hm (eR st) bI rfl)<|wD (fun st=>Bn Tryz.underlying22 (eR st))<|wD (fun st=>B8 (eR st) (eR st))<|wn ?_;rcases Ae (decide (a5<(bA.Az.length:Int))) with bX|bX
   ·replace aN:=Am aN bX;refine Ah rfl bX<|cn<|Af<|AI<|cr<|wD (fun st=>Ad (ee st bT) (Gm _ _))<|wD (fun st=>Ag (v:=.slice a6 bA.Az.length a7) Hm (eR st) bI rfl)<|wM (v:=I a5) bU ?_;replace aN:=Bi aN;obtain⟨i5,aT,d8,d9,eA,aN⟩:=aN;obtain⟨eV,eW,_,eB,rfl,eC⟩:=Sl.elem bJ (by decide) d9;refine wD (fun st=>BC (k:=i5) Tryz.underlying22 Ie (eR st) eB (eR st) d8 eA)<|wD (fun st=>Cv (l:=[I aT.Lo,I aT.Hi]) FW (eR st) eC rfl rfl)<|wE (fun st=>BZ (cs:= #[I 0,I 0]) I6 rfl) ?_;rintro _ eX ⟨bY,rfl,bK⟩;have bZ:=c1.nb bK;have eJ:=c1.BH bK;refine BD rfl rfl (fun st=>Bt (n:=2) (l:=[I aT.Lo,I aT.Hi]) (Cm:= #[I aT.Lo,I aT.Hi]) (eR st) (eR st) Ie bK.bk rfl rfl (show 0+2≤2 by decide) (AY rfl) rfl) ?_;rintro _ dE bR;have eD:=bZ.gr bR.gr 0 rfl;refine wn ?_;have b4:=eD.nil;have bV:=bR.bk;replace aN:=bind_some aN;obtain⟨aZ,dQ,aN⟩:=aN;replace aN:=MA aN;obtain⟨c2,aN⟩:=aN;replace aN:=AJ aN;obtain⟨dR,aN⟩:=aN;have cV:=(((bH.ext bK.gr (Ay bK)).gr bR.gr (fun k hk=>bZ.ne 1 0 rfl (congrArg some hk) rfl) (bZ.By bR.gr 0 rfl)).up Bv);replace aN:=B9 aN;obtain⟨c3,aN⟩:=aN;replace aN:=bind_some aN;obtain⟨bS,dS,aN⟩:=aN;replace aN:=On aN;obtain⟨c4,aN⟩:=aN;replace aN:=AJ aN;obtain⟨dT,aN⟩:=aN;obtain⟨eN,aO⟩:∃eY:(Nat→Bool)→(Nat→Value)→World→Prop,eY=(fun D V a9=>∃(aH:Option Nat) (aI:Option Addr) (aJ:Nat) (q:Option Nat) (g:Option Addr) (r:Nat),Hp FN [] w [aH,some bY,q,some b1] a9∧BX (FU FN [ob aQ]) dE a9∧(∀bO,Mv dE (ZZ FN [] bO w.heap.size [none,some bY,ob aQ,some b1]) a9 (ZZ FN [] bO w.heap.size [aH,some bY,q,some b1]))∧(∀a4,aH=some a4→dE.heap.size≤a4)∧(∀a4,q=some a4→ob aQ=some a4∨dE.heap.size≤a4)∧(D 8=false→aH=none)∧(D 9=false→q=ob aQ∧Bp (Al .i64) 3 w.heap.size a9 (zf Z w [aH,some bY,q,some b1]) aQ a2 aX)∧(D 0=true→V 0=.slice aQ aX.length a2)∧(D 1=true→V 1=pt bY 0)∧(D 2=true→V 2=I aT.Lo)∧(D 3=true→V 3=I aK)∧(D 4=true→V 4=.agg #[I aT.Lo,I aT.Hi])∧(D 5=true→V 5=I aZ)∧(D 6=true→V 6=I (aK%aZ))∧(D 7=true→V 7=I (aT.Lo+(aK%aZ)))∧(D 8=true→V 8=.slice aI (([aT.Lo+(aK%aZ)]).length) aJ∧aH=ob aI∧Bp (Al .i64) 3 w.heap.size a9 (zf Z w [aH,some bY,q,some b1]) aI aJ [aT.Lo+(aK%aZ)])∧(D 9=true→V 9=.slice g ((aX++[aT.Lo+(aK%aZ)]).length) r∧q=ob g∧Bp (Al .i64) 3 w.heap.size a9 (zf Z w [aH,some bY,q,some b1]) g r (aX++[aT.Lo+(aK%aZ)]))∧(D 10=true→V 10=I aK)∧(D 11=true→V 11=.agg #[I aT.Lo,I aT.Hi])∧(D 12=true→V 12=I bS)∧(D 13=true→V 13=I (aK/bS))∧(D 14=true→V 14=.slice g ((aX++[aT.Lo+(aK%aZ)]).length) r)):=⟨_,rfl⟩;refine JT 15 eN mixed rfl rfl (by rw[aO];exact⟨none,none,0,(ob aQ),none,0,(b4.ext (C5 _)),Gd (C5 _),fun _=>Ac (C5 _),fun _ y=>(by cases y),fun _ y=>.inl y,fun _=>rfl,fun _=>⟨rfl,(cV.ext (C5 _) (Ac (C5 _)))⟩,fun y=>absurd (show false=true from y) (by decide),fun y=>absurd (show false=true from y) (by decide),fun y=>absurd (show false=true from y) (by decide),fun y=>absurd (show false=true from y) (by decide),fun y=>absurd (show false=true from y) (by decide),fun y=>absurd (show false=true from y) (by decide),fun y=>absurd (show false=true from y) (by decide),fun y=>absurd (show false=true from y) (by decide),fun y=>absurd (show false=true from y) (by decide),fun y=>absurd (show false=true from y) (by decide),fun y=>absurd (show false=true from y) (by decide),fun y=>absurd (show false=true from y) (by decide),fun y=>absurd (show false=true from y) (by decide),fun y=>absurd (show false=true from y) (by decide),fun y=>absurd (show false=true from y) (by decide)⟩)
        ⟨sj (k:=0) rfl (fun D V a' w' K a=>by
             rw[aO] at a;refine X4 a fun aH aI aJ q a=>X2 a fun g r a=>Y8 a fun aL aM aP d c f b _ a=>Y8 a fun z aA aB aC aD aE aF s a=>Y4 a fun j m o p a=>a.elim fun u a=>?_;have x:=a;exact(AA (v:=.slice aQ aX.length a2) (es (t:=5) (v:=.slice aQ aX.length a2) ((K.later 14 5 _ rfl rfl rfl).trans cE))).mono fun v BI ⟨aU,aV⟩=>by subst aU;subst aV;rw[aO];exact⟨aH,aI,aJ,q,g,r,aL,aM,aP,d,c,f,b,fun _=>rfl,z,aA,aB,aC,aD,aE,aF,s,j,m,o,p,u,x⟩),
         sj (k:=1) rfl (fun D V a' w' K a=>by
             rw[aO] at a;refine X4 a fun aH aI aJ q a=>X2 a fun g r a=>Y8 a fun aL aM aP d c f b aG a=>Y8 a fun _ aA aB aC aD aE aF s a=>Y4 a fun j m o p a=>a.elim fun u a=>?_;have x:=a;exact(Ad (es ((K.out 7 rfl).trans rfl)) (I5 _ _)).mono fun v BI ⟨aU,aV⟩=>by subst aU;subst aV;rw[aO];exact⟨aH,aI,aJ,q,g,r,aL,aM,aP,d,c,f,b,aG,fun _=>rfl,aA,aB,aC,aD,aE,aF,s,j,m,o,p,u,x⟩),
         sj (k:=2) rfl (fun D V a' w' K a=>by
             rw[aO] at a;refine X4 a fun aH aI aJ q a=>X2 a fun g r a=>Y8 a fun aL aM aP d c f b aG a=>Y8 a fun z _ aB aC aD aE aF s a=>Y4 a fun j m o p a=>a.elim fun u a=>?_;have x:=a;have cF:=z (K.dn 1 rfl);exact(Ag (v:=I aT.Lo) Bq (es (t:=21) (v:=pt bY 0) ((K.dq 1 21).trans cF)) (bV.Cn aM (b4.CI 1 rfl [2] rfl ⟨rfl,trivial⟩ eL)) rfl).mono fun v BI ⟨aU,aV⟩=>by subst aU;subst aV;rw[aO];exact⟨aH,aI,aJ,q,g,r,aL,aM,aP,d,c,f,b,aG,z,fun _=>rfl,aB,aC,aD,aE,aF,s,j,m,o,p,u,x⟩),
         sj (k:=3) rfl (fun D V a' w' K a=>by
             rw[aO] at a;refine X4 a fun aH aI aJ q a=>X2 a fun g r a=>Y8 a fun aL aM aP d c f b aG a=>Y8 a fun z aA _ aC aD aE aF s a=>Y4 a fun j m o p a=>a.elim fun u a=>?_;have x:=a;exact(AA (v:=I aK) (es (t:=1) (v:=I aK) ((K.later 15 1 _ rfl rfl rfl).trans cD))).mono fun v BI ⟨aU,aV⟩=>by subst aU;subst aV;rw[aO];exact⟨aH,aI,aJ,q,g,r,aL,aM,aP,d,c,f,b,aG,z,aA,fun _=>rfl,aC,aD,aE,aF,s,j,m,o,p,u,x⟩),
         sj (k:=4) rfl (fun D V a' w' K a=>by
             rw[aO] at a;refine X4 a fun aH aI aJ q a=>X2 a fun g r a=>Y8 a fun aL aM aP d c f b aG a=>Y8 a fun z aA aB _ aD aE aF s a=>Y4 a fun j m o p a=>a.elim fun u a=>?_;have x:=a;exact(AO (l:=[I aT.Lo,I aT.Hi]) FW (es ((K.out 7 rfl).trans rfl)) (bV.Cn aM (b4.CI 1 rfl [2] rfl ⟨rfl,trivial⟩ eL)) rfl rfl).mono fun v BI ⟨aU,aV⟩=>by subst aU;subst aV;rw[aO];exact⟨aH,aI,aJ,q,g,r,aL,aM,aP,d,c,f,b,aG,z,aA,aB,fun _=>rfl,aD,aE,aF,s,j,m,o,p,u,x⟩),
         sj (k:=5) rfl (fun D V a' w' K a=>by
             rw[aO] at a;refine X4 a fun aH aI aJ q a=>X2 a fun g r a=>Y8 a fun aL aM aP d c f b aG a=>Y8 a fun z aA aB aC _ aE aF s a=>Y4 a fun j m o p a=>a.elim fun u a=>?_;have x:=a;have cG:=aC (K.dn 4 rfl);refine(Ak PX rfl (Cd (es (t:=24) (v:=.agg #[I aT.Lo,I aT.Hi]) ((K.dq 4 24).trans cG))) (Wt c0 aT ZA _ aZ dQ)).mono ?_;rintro v BI ⟨aR,rfl⟩;rw[aO];exact⟨aH,aI,aJ,q,g,r,(aL.ext aR),(JM aM aR (fun _ bN=>by cases bN)),(fun bO=>(aP bO).trans (Ac aR)),d,c,f,fun y=>⟨(b y).1,((b y).2.ext aR (Ac aR))⟩,aG,z,aA,aB,aC,fun _=>rfl,aE,aF,fun y=>⟨(s y).1,(s y).2.1,((s y).2.2.ext aR (Ac aR))⟩,fun y=>⟨(j y).1,(j y).2.1,((j y).2.2.ext aR (Ac aR))⟩,m,o,p,u,x⟩),
         sj (k:=6) rfl (fun D V a' w' K a=>by
             rw[aO] at a;refine X4 a fun aH aI aJ q a=>X2 a fun g r a=>Y8 a fun aL aM aP d c f b aG a=>Y8 a fun z aA aB aC aD _ aF s a=>Y4 a fun j m o p a=>a.elim fun u a=>?_;have x:=a;have cH:=aB (K.dn 3 rfl);have cI:=aD (K.dn 5 rfl);exact(QB (es (t:=23) (v:=I aK) ((K.dq 3 23).trans cH)) (es (t:=25) (v:=I aZ) ((K.dq 5 25).trans cI)) c2.1 c2.2).mono fun v BI ⟨aU,aV⟩=>by subst aU;subst aV;rw[aO];exact⟨aH,aI,aJ,q,g,r,aL,aM,aP,d,c,f,b,aG,z,aA,aB,aC,aD,fun _=>rfl,aF,s,j,m,o,p,u,x⟩),
         sj (k:=7) rfl (fun D V a' w' K a=>by
             rw[aO] at a;refine X4 a fun aH aI aJ q a=>X2 a fun g r a=>Y8 a fun aL aM aP d c f b aG a=>Y8 a fun z aA aB aC aD aE _ s a=>Y4 a fun j m o p a=>a.elim fun u a=>?_;have x:=a;have cJ:=aA (K.dn 2 rfl);have cK:=aE (K.dn 6 rfl);exact(BK (es (t:=22) (v:=I aT.Lo) ((K.dq 2 22).trans cJ)) (es (t:=26) (v:=I (aK%aZ)) ((K.dq 6 26).trans cK)) dR).mono fun v BI ⟨aU,aV⟩=>by subst aU;subst aV;rw[aO];exact⟨aH,aI,aJ,q,g,r,aL,aM,aP,d,c,f,b,aG,z,aA,aB,aC,aD,aE,fun _=>rfl,s,j,m,o,p,u,x⟩),
         sj (k:=8) rfl (fun D V a' w' K a=>by
             rw[aO] at a;refine X4 a fun _ _ _ q a=>X2 a fun g r a=>Y8 a fun aL aM aP d c f b aG a=>Y8 a fun z aA aB aC aD aE aF _ a=>Y4 a fun j m o p a=>a.elim fun u a=>?_;have x:=a;have cL:=aF (K.dn 7 rfl);have dU:=f K.me;subst dU;refine(B1 (e:=3) (vs:= #[(0,I (aT.Lo+(aK%aZ)))]) (cs:= #[I (aT.Lo+(aK%aZ))]) (IP (es (t:=27) (v:=I (aT.Lo+(aK%aZ))) ((K.dq 7 27).trans cL))) (by kernel_rfl)).mono ?_;rintro v BI ⟨eE,rfl,bW⟩;have a8:=LH bW;have bB:=bW.gr;rw[aO];exact⟨(ob (some ⟨eE,0,none⟩)),(some ⟨eE,0,none⟩),1,q,g,r,(aL.row bB 0 rfl a8),(JM aM bB (fun _ bN=>by cases bN)),(fun bO=>(aP bO).trans (aL.CL bB 0 rfl (fun a4 a0=>(a8 a4 a0).1))),(Ig d aM.size a8),c,fun y=>absurd (show true=false from y) (by decide),fun y=>⟨(b y).1,((b y).2.gr bB (fun a4 a0=>aL.ne 2 0 rfl (congrArg some (((b y).1).trans a0)) rfl) (aL.CL bB 0 rfl (fun a4 a0=>(a8 a4 a0).1)))⟩,aG,z,aA,aB,aC,aD,aE,aF,fun _=>⟨rfl,rfl,K3 (BJ:=[[I (aT.Lo+(aK%aZ))]]) bW.bk (Nat.le_trans aL.sz (Nat.le_of_eq bW.FI.symm)) ⟨rfl,trivial⟩ rfl (by simp[maxLen])⟩,fun y=>⟨(j y).1,(j y).2.1,((j y).2.2.gr bB (fun a4 a0=>aL.ne 2 0 rfl (congrArg some ((j y).2.1.trans a0)) rfl) (aL.CL bB 0 rfl (fun a4 a0=>(a8 a4 a0).1)))⟩,m,o,p,u,x⟩),
         sj (k:=9) rfl (fun D V a' w' K a=>by
             rw[aO] at a;refine X4 a fun _ aI aJ _ a=>X2 a fun _ _ a=>Y8 a fun aL aM aP d c f b aG a=>Y8 a fun z aA aB aC aD aE aF s a=>Y4 a fun _ m o p a=>a.elim fun u a=>?_;have x:=a;have cM:=aG (K.dn 0 rfl);obtain⟨cN,bL,dF⟩:=s (K.dn 8 rfl);subst bL;obtain⟨b5,cB⟩:=b K.me;subst b5;refine(H4 (ys:=[aT.Lo+(aK%aZ)]) Tryz.underlying31 It rfl rfl (by decide) (es (t:=20) (v:=.slice aQ aX.length a2) ((K.dq 0 20).trans cM)) rfl (es (t:=28) (v:=.slice aI (([aT.Lo+(aK%aZ)]).length) aJ) ((K.dq 8 28).trans cN)) cB (dF.JU (fun _ _ _ _ _ _ h=>h)) (by have:=c3;simp only[maxLen];omega) (by have:=c3;omega) aL.sz).mono ?_;rintro v BI ⟨dK,eF,rfl,bB,a8,dV⟩;rw[aO];exact⟨(ob aI),aI,aJ,(ob dK),dK,eF,(aL.row bB 2 rfl a8),(JM aM bB (fun a4 bN=>(c a4 bN).imp (fun y=>.inr (by rw[←y];exact List.mem_of_getElem? (i:=0) rfl)) id)),(fun bO=>(aP bO).trans (aL.CL bB 2 rfl (fun a4 a0=>(a8 a4 a0).1))),d,(Ou c aM.size a8),f,fun y=>absurd (show true=false from y) (by decide),aG,z,aA,aB,aC,aD,aE,aF,fun y=>⟨(s y).1,rfl,((s y).2.2.gr bB (fun a4 a0=>aL.ne 0 2 rfl (congrArg some a0) rfl) (aL.CL bB 2 rfl (fun a4 a0=>(a8 a4 a0).1)))⟩,fun _=>⟨rfl,rfl,Ed dV (aL.CL bB 2 rfl (fun a4 a0=>(a8 a4 a0).1))⟩,m,o,p,u,fun y=>(Np K.me (K.down 14 _ rfl y 9 rfl)).elim⟩),
         sj (k:=10) rfl (fun D V a' w' K a=>by
             rw[aO] at a;refine X4 a fun aH aI aJ q a=>X2 a fun g r a=>Y8 a fun aL aM aP d c f b aG a=>Y8 a fun z aA aB aC aD aE aF s a=>Y4 a fun j _ o p a=>a.elim fun u a=>?_;have x:=a;exact(AA (v:=I aK) (es (t:=1) (v:=I aK) ((K.later 15 1 _ rfl rfl rfl).trans cD))).mono fun v BI ⟨aU,aV⟩=>by subst aU;subst aV;rw[aO];exact⟨aH,aI,aJ,q,g,r,aL,aM,aP,d,c,f,b,aG,z,aA,aB,aC,aD,aE,aF,s,j,fun _=>rfl,o,p,u,x⟩),
         sj (k:=11) rfl (fun D V a' w' K a=>by
             rw[aO] at a;refine X4 a fun aH aI aJ q a=>X2 a fun g r a=>Y8 a fun aL aM aP d c f b aG a=>Y8 a fun z aA aB aC aD aE aF s a=>Y4 a fun j m _ p a=>a.elim fun u a=>?_;have x:=a;exact(AO (l:=[I aT.Lo,I aT.Hi]) FW (es ((K.out 7 rfl).trans rfl)) (bV.Cn aM (b4.CI 1 rfl [2] rfl ⟨rfl,trivial⟩ eL)) rfl rfl).mono fun v BI ⟨aU,aV⟩=>by subst aU;subst aV;rw[aO];exact⟨aH,aI,aJ,q,g,r,aL,aM,aP,d,c,f,b,aG,z,aA,aB,aC,aD,aE,aF,s,j,m,fun _=>rfl,p,u,x⟩),
         sj (k:=12) rfl (fun D V a' w' K a=>by
             rw[aO] at a;refine X4 a fun aH aI aJ q a=>X2 a fun g r a=>Y8 a fun aL aM aP d c f b aG a=>Y8 a fun z aA aB aC aD aE aF s a=>Y4 a fun j m o _ a=>a.elim fun u a=>?_;have x:=a;have b6:=o (K.dn 11 rfl);refine(Ak PX rfl (Cd (es (t:=31) (v:=.agg #[I aT.Lo,I aT.Hi]) ((K.dq 11 31).trans b6))) (Wt c0 aT ZA _ bS dS)).mono ?_;rintro v BI ⟨aR,rfl⟩;rw[aO];exact⟨aH,aI,aJ,q,g,r,(aL.ext aR),(JM aM aR (fun _ bN=>by cases bN)),(fun bO=>(aP bO).trans (Ac aR)),d,c,f,fun y=>⟨(b y).1,((b y).2.ext aR (Ac aR))⟩,aG,z,aA,aB,aC,aD,aE,aF,fun y=>⟨(s y).1,(s y).2.1,((s y).2.2.ext aR (Ac aR))⟩,fun y=>⟨(j y).1,(j y).2.1,((j y).2.2.ext aR (Ac aR))⟩,m,o,fun _=>rfl,u,x⟩),
         sj (k:=13) rfl (fun D V a' w' K a=>by
             rw[aO] at a;refine X4 a fun aH aI aJ q a=>X2 a fun g r a=>Y8 a fun aL aM aP d c f b aG a=>Y8 a fun z aA aB aC aD aE aF s a=>Y4 a fun j m o p a=>a.elim fun _ a=>?_;have x:=a;have b7:=m (K.dn 10 rfl);have b8:=p (K.dn 12 rfl);exact(Q5 (es (t:=30) (v:=I aK) ((K.dq 10 30).trans b7)) (es (t:=32) (v:=I bS) ((K.dq 12 32).trans b8)) c4.1 c4.2 dT).mono fun v BI ⟨aU,aV⟩=>by subst aU;subst aV;rw[aO];exact⟨aH,aI,aJ,q,g,r,aL,aM,aP,d,c,f,b,aG,z,aA,aB,aC,aD,aE,aF,s,j,m,o,p,fun _=>rfl,x⟩),
         sj (k:=14) rfl (fun D V a' w' K a=>by
             rw[aO] at a;refine X4 a fun aH aI aJ _ a=>X2 a fun g r a=>Y8 a fun aL aM aP d c f _ aG a=>Y8 a fun z aA aB aC aD aE aF s a=>Y4 a fun j m o p a=>a.elim fun u a=>?_;have x:=a;obtain⟨cO,bM,eK⟩:=j (K.dn 9 rfl);subst bM;exact(KF (v:=.slice g ((aX++[aT.Lo+(aK%aZ)]).length) r) (es (t:=29) (v:=.slice g ((aX++[aT.Lo+(aK%aZ)]).length) r) ((K.dq 9 29).trans cO))).mono fun v BI ⟨aU,aV⟩=>by subst aU;subst aV;rw[aO];exact⟨aH,aI,aJ,(ob g),g,r,aL,aM,aP,d,c,f,fun y=>absurd ((K.dn 9 rfl)) (by rw[show D 9=false from y];decide),aG,z,aA,aB,aC,aD,aE,aF,s,j,m,o,p,u,fun _=>rfl⟩),trivial⟩ ?_
    intro eZ e0 e1 aS aY;rw[aO] at aY;clear aO;refine X4 aY fun aH aI aJ q aY=>X2 aY fun g r aY=>Y8 aY fun dW dX dY d c f b aG aY=>Y8 aY fun z aA aB aC aD aE aF s aY=>Y4 aY fun j m o p aY=>aY.elim fun u aY=>?_;have x:=aY;clear aY;have cM:=aG (aS 0 (by decide));have cF:=z (aS 1 (by decide));have cJ:=aA (aS 2 (by decide));have cH:=aB (aS 3 (by decide));have cG:=aC (aS 4 (by decide));have cI:=aD (aS 5 (by decide));have cK:=aE (aS 6 (by decide));have cL:=aF (aS 7 (by decide));obtain⟨cN,bL,eM⟩:=s (aS 8 (by decide));subst bL;obtain⟨cO,bM,dG⟩:=j (aS 9 (by decide));subst bM;have b7:=m (aS 10 (by decide));have b6:=o (aS 11 (by decide));have b8:=p (aS 12 (by decide));have c5:=u (aS 13 (by decide));have c6:=x (aS 14 (by decide));refine wA (v:=I (aK/bS)) c5<|Bc<|CG<|Ai<|wM (v:=I a5) bU ?_;replace aN:=AJ aN;obtain⟨dZ,aN⟩:=aN;refine wD (fun st=>BK (eR st) (eR st) dZ)<|wA (v:=I (a5+1)) rfl<|Bc ?_;have eG:=dW.erase 0;have eH:=eG.erase 0;have cW:=((dG.up (AH 0)).up (AH 0));have dH:=(((bI.ext bK.gr).gr bR.gr (bZ.nq 2 0)).Cn dX (b4.CI 3 rfl [2] rfl ⟨rfl,trivial⟩ eL));have ⟨cX,cY,cZ⟩:=Er bJ b9 cA (mt (Ay bK) (mt (bZ.By bR.gr 0 rfl) (mt Bv (mt (dY _) (mt (AH 0) (AH 0))))));refine Br dO (Nat.lt_succ_self _) (fun st=>?_);exact⟨(aK/bS),(aX++[aT.Lo+(aK%aZ)]),(a5+1),g,r,aN,qo st,sp st 1 rfl,sp st 2 bT,sp st 5 c6,sp st 6 rfl,eH,cW,dH,cX,cY,cZ⟩
   ·replace aN:=An aN bX;refine Ao rfl bX<|DA ?_;obtain rfl:=oi aN;refine BG (fun st=>?_);exact⟨rfl,aQ,a2,qo st,sp st 5 cE,c1,bH⟩
 case d5=>
  rintro bN eO eU (⟨rfl,aW,a3,dI,c7,c8,bP⟩);refine lf dI<|Be<|BM<|cr<|wM (v:=.slice aW z2.length a3) c7<|wA (v:=.slice aW z2.length a3) rfl<|wn<|Ap ?_;obtain rfl:=oi aN;refine Au rfl rfl ?_;exact⟨c8.AZ,⟨_,_,rfl,c8.Jz (M:=[]) 0 rfl [] rfl trivial bP⟩⟩
theorem a77 a2 e y c d m n o p i j(Z:Nat→Prop) w(a3:Sl Ax w Z c d e.Az)(a4:Sl (Bx (Al .i64)) w Z m n e.Bb)(a5:Sl AF w Z o p e.AP)(a6:Sl (Al .i64) w Z i j y) bN(a:Hw a2 e y=some bN):
 BN Tryz.prog 77 #[.agg (AU c d m n o p e).toArray,.slice i y.length j] w (fun v w'=>Ext w w'∧BE.R w' (zf Z w []) v bN):=by
 unfold Hw at a;refine rq (N:=43) Tryz.func77 fun cP ha cQ=>?_;have bB:=sA 0 ha;have bC:=sA 1 ha;clear ha;have a9:Hp FN [] w [] w:=Hp.start (Bw.none w);have ⟨aI,aJ,aK,aL⟩:=ID a3 a4 a5 a6 (Bu (Z:=Z) (L:=[]) w);refine cr<|wE (fun st=>BL (v:=.agg (AU c d m n o p e).toArray) (cs:=(AU c d m n o p e).toArray) (ee st bB) rfl) ?_;rintro _ w1 ⟨b1,rfl,aH⟩;have bO:=a9.nb aH;have cL:=a9.BH aH;refine wA (v:=.bool false) rfl<|wn<|Af<|cr<|wA (v:=I 0) rfl<|wn<|AI ?_;replace a:=bind_some a;obtain⟨z2,aB,a⟩:=a;refine BQ (fun bD s z=>(bD=.ret∧∃aC,z2=.inl aC∧Fo X0 43 s∧sl s 4=.bool aC∧Hp FN [] w [some b1] z)∨(bD=.exit 0∧∃aC,z2=.inr aC∧Fo X0 43 s∧sl s 1=.slice i y.length j∧sl s 2=pt b1 0∧Hp FN [] w [some b1] z∧Bk z b1 26 (AU c d m n o p e).toArray∧(fun aD=>Sl Ax z aD c d e.Az∧Sl (Bx (Al .i64)) z aD m n e.Bb∧Sl AF z aD o p e.AP∧Sl (Al .i64) z aD i j y) (zf Z w [some b1]))) ?bP ?bQ
 case bP=>
  clear a;refine BP (fun bE s z=>∃b,DY a2 e y bE b=some z2∧Fo X0 43 s∧sl s 1=.slice i y.length j∧sl s 2=pt b1 0∧sl s 5=I b∧Hp FN [] w [some b1] z∧Bk z b1 26 (AU c d m n o p e).toArray∧(fun aD=>Sl Ax z aD c d e.Az∧Sl (Bx (Al .i64)) z aD m n e.Bb∧Sl AF z aD o p e.AP∧Sl (Al .i64) z aD i j y) (zf Z w [some b1])) a2 ?bR ?bS
  case bR=>
   intro st;have ⟨aM,aN,aO,aP⟩:=ID aI aJ aK aL (Ay aH);exact⟨(0:Int),aB,qo st,sp st 1 bC,sp st 2 rfl,sp st 5 rfl,bO,aH.bk,aM,aN,aO,aP⟩
  case bS=>
   rintro(_|bE) cR cS ⟨b,aB,bF,aA,q,r,aU,h,f,t,u,l⟩
   ·exact absurd (show none=some _ from aB) (by simp)
   rw[DY.eq_2] at aB;have a:=aB;clear aB;refine ro bF<|Af<|cr<|wM (v:=I b) r<|wM (v:=.slice i y.length j) aA<|wD (fun st=>Bn Tryz.underlying31 (eR st))<|wD (fun st=>B8 (eR st) (eR st))<|wM (v:=.bool (decide (b<(y.length:Int)))) rfl ?_;rcases Ae (decide (b<(y.length:Int))) with g|g
   ·replace a:=Am a g;refine wN g (v:=I b) r<|wG g (fun st=>Ad (ee st q) (Gm _ _))<|wG g (fun st=>Ag (v:=.slice c e.Az.length d) Hm (eR st) h rfl)<|wG g (fun st=>Bn Tryz.underlying22 (eR st))<|wG g (fun st=>B8 (eR st) (eR st))<|wD (fun st=>AR (v:=.bool (decide (b<(e.Az.length:Int)))) (eR st) g (eR st))<|wn ?_;rcases Ae (decide (b<(e.Az.length:Int))) with aF|aF
    ·replace a:=Am a aF;refine Ah rfl aF<|cn<|Af<|AI<|Af ?_;replace a:=Bi a;obtain⟨i6,bT,bU,bV,bW,a⟩:=a;obtain⟨cM,cN,_,bX,rfl,bY⟩:=Sl.CR l rfl bV;replace a:=Bi a;obtain⟨i7,bZ,b4,b5,b6,a⟩:=a;obtain⟨b7,b8,_,b9,rfl,cA⟩:=Sl.elem f (by decide) b5;replace a:=Bi a;obtain⟨i8,cB,cC,cD,cE,a⟩:=a;obtain⟨cF,cG,_,cH,rfl,cI⟩:=Sl.elem f (by decide) cD;refine BW 16 [Kc (.slice i y.length j),Kc (I b),Kc (pt cM (cN+i6)),Kc (I bT),Kc (pt b1 0),Kc (.slice c e.Az.length d),Kc (I b),Kc (pt b7 (b8+i7*2)),Kc (pt b7 (b8+i7*2)),Kc (I bZ.Lo),Kc (pt b1 0),Kc (.slice c e.Az.length d),Kc (I b),Kc (pt cF (cG+i8*2)),Kc (pt cF (cG+i8*2+1)),Kc (I cB.Hi)] mixed rfl rfl
         (Aa (oD (fun K=>AA (es ((K.out 1 rfl).trans aA))))
         (Aa (oD (fun K=>AA (es ((K.out 5 rfl).trans r))))
         (Aa (oD (fun K=>BA (k:=i6) Tryz.underlying31 Dy (es (K.dq 0 19)) bX (es (K.dq 1 20)) bU bW))
         (Aa (oD (fun K=>BF Bq (es (K.dq 2 21)) (bY.mv (Ac K.AV)) rfl))
         (Aa (oD (fun K=>Ad (es ((K.out 2 rfl).trans q)) (Gm _ _)))
         (Aa (oD (fun K=>Ag Hm (es (K.dq 4 23)) (h.ext K.AV) rfl))
         (Aa (oD (fun K=>AA (es ((K.out 5 rfl).trans r))))
         (Aa (oD (fun K=>BC (k:=i7) Tryz.underlying22 Ie (es (K.dq 5 24)) b9 (es (K.dq 6 25)) b4 b6))
         (Aa (oD (fun K=>Ad (es (K.dq 7 26)) (Zc _ _ _)))
         (Aa (oD (fun K=>BF Bq (es (K.dq 8 27)) (cA.mv (Ac K.AV)) rfl))
         (Aa (oD (fun K=>Ad (es ((K.out 2 rfl).trans q)) (Gm _ _)))
         (Aa (oD (fun K=>Ag Hm (es (K.dq 10 29)) (h.ext K.AV) rfl))
         (Aa (oD (fun K=>AA (es ((K.out 5 rfl).trans r))))
         (Aa (oD (fun K=>BC (k:=i8) Tryz.underlying22 Ie (es (K.dq 11 30)) cH (es (K.dq 12 31)) cC cE))
         (Aa (oD (fun K=>Ad (es (K.dq 13 32)) (Zd _ _ _)))
         (Aa (oD (fun K=>EG Bq (es (K.dq 14 33)) (cI.mv (Ac K.AV)) rfl))
         (BR _))))))))))))))))) ?_
     intro cV;rintro _ rfl _ rfl _ rfl _ rfl _ rfl _ rfl _ rfl _ rfl _ rfl _ rfl _ rfl _ rfl _ rfl _ rfl _ rfl _ rfl aV;have cJ:=aU.ext aV;replace a:=bind_some a;obtain⟨a7,cK,a⟩:=a;refine wE (fun st=>Ak Fs (eR st) (DX (eR st) (eR st) (eR st)) (Jr a2 bT bZ.Lo cB.Hi ZA _ a7 cK)) ?_;rintro _ cT ⟨aW,rfl⟩;have bA:=cJ.ext aW;refine wD (fun st=>Ca (eR st))<|wn ?_;rcases Ae (!a7) with x|x
     ·replace a:=Am a x;have bL:a7=false:=by simpa using x
      refine Ah rfl x<|cr<|wA (v:=.bool false) rfl<|wn<|Ap<|CO<|AG ?_;obtain rfl:=oi a;refine BG (fun st=>?_);exact .inl ⟨rfl,false,rfl,qo st,sp st 4 rfl,bA⟩
     ·replace a:=An a x;have bM:a7=true:=by simpa using x
      refine Ao rfl x<|Ce<|CG<|Ai<|wM (v:=I b) r ?_;replace a:=AJ a;obtain⟨bG,a⟩:=a;refine wD (fun st=>BK (eR st) (eR st) bG)<|wA (v:=I (b+1)) rfl<|Bc ?_;have a8:=((h.ext aV).ext aW);have ⟨aQ,aR,aS,aT⟩:=ID f t u l (mt (Ac aV) (Ac aW));refine Br bE (Nat.lt_succ_self _) (fun st=>?_);exact⟨(b+1),a,qo st,sp st 1 aA,sp st 2 q,sp st 5 rfl,bA,a8,aQ,aR,aS,aT⟩
    ·replace a:=An a aF;refine Ao rfl aF<|DA ?_;obtain rfl:=oi a;refine BG (fun st=>?_);exact .inr ⟨rfl,(),rfl,qo st,sp st 1 aA,sp st 2 q,aU,h,f,t,u,l⟩
   ·replace a:=An a g;refine wF g<|wF g<|wF g<|wF g<|wF g<|wD (fun st=>Bg (v:=.bool false) (eR st) g (eR st))<|wn<|Ao rfl rfl<|DA ?_;obtain rfl:=oi a;refine BG (fun st=>?_);exact .inr ⟨rfl,(),rfl,qo st,sp st 1 aA,sp st 2 q,aU,h,f,t,u,l⟩
 case bQ=>
  rintro bD cO cU (⟨rfl,aC,rfl,aE,aX,aG⟩|⟨rfl,aC,rfl,aE,aY,aZ,aG,a0,bH,bI,bJ,bK⟩)
  ·skip
   replace a:=CM a;refine lf aE<|CO ?_;obtain rfl:=oi a;refine Au rfl aX ?_;exact⟨aG.AZ,rfl⟩
  ·skip
   replace a:=CN a;refine lf aE<|Be<|BM<|cr<|wM (v:=.slice i y.length j) aY<|wD (fun st=>Bn Tryz.underlying31 (eR st))<|wD (fun st=>Ad (ee st aZ) (Gm _ _))<|wD (fun st=>Ag (v:=.slice c e.Az.length d) Hm (eR st) a0 rfl)<|wD (fun st=>Bn Tryz.underlying22 (eR st))<|wD (fun st=>Dt (eR st) (eR st))<|wA (v:=.bool ((y.length:Int)==(e.Az.length:Int))) rfl<|wn<|Ap ?_;obtain rfl:=oi a;refine Au rfl rfl ?_;exact⟨aG.AZ,rfl⟩
theorem a87 aN o l g h c d(Z:Nat→Prop) w(aF:Sl (Al .i64) w Z g h o)(aG:Sl (Al .i64) w Z c d l) aU(a:D5 aN o l=some aU):
 BN Tryz.prog 87 #[.slice g o.length h,.slice c l.length d] w (fun v w'=>Ext w w'∧(Dk .i64).R w' (zf Z w []) v aU):=by
 unfold D5 at a;refine rq (N:=28) Tryz.func87 fun bP ha bQ=>?_;have aO:=sA 0 ha;have aP:=sA 1 ha;clear ha;have aV:Hp FN [] w [] w:=Hp.start (Bw.none w);have ⟨x,y⟩:=K5 aF aG (Bu (Z:=Z) (L:=[]) w);refine cr<|wA (v:=I 0) rfl<|wr<|wA (v:=I 0) rfl<|wn<|Af<|cr<|wA (v:=I 0) rfl<|wn<|AI ?_;replace a:=bind_some a;obtain⟨aH,n,a⟩:=a;refine BQ (fun aW f z=>(aW=.exit 0∧Fo X0 28 f∧sl f 1=.slice c l.length d∧sl f 5=I aH∧Hp FN [] w [] z∧Sl (Al .i64) z (zf Z w []) c d l)) ?aX ?aY
 case aX=>
  clear a;refine BP (fun aQ f z=>∃i,∃b,E5 o l aQ i b=some aH∧Fo X0 28 f∧sl f 0=.slice g o.length h∧sl f 1=.slice c l.length d∧sl f 5=I i∧sl f 6=I b∧Hp FN [] w [] z∧Sl (Al .i64) z (zf Z w []) g h o∧Sl (Al .i64) z (zf Z w []) c d l) aN ?aZ ?a0
  case aZ=>
   intro st;exact⟨(0:Int),(0:Int),n,qo st,sp st 0 aO,sp st 1 aP,sp st 5 rfl,sp st 6 rfl,aV,x,y⟩
  case a0=>
   rintro(_|aQ) bR bS ⟨i,b,n,aR,p,q,u,j,aL,m,e⟩
   ·exact absurd (show none=some _ from n) (by simp)
   rw[E5.eq_2] at n;have a:=n;clear n;refine ro aR<|Af<|cr<|wM (v:=I b) j<|wM (v:=.slice g o.length h) p<|wD (fun st=>Bn Tryz.underlying31 (eR st))<|wD (fun st=>B8 (eR st) (eR st))<|wn ?_;rcases Ae (decide (b<(o.length:Int))) with r|r
   ·replace a:=Am a r;refine Ah rfl r<|cn<|Af<|AI ?_;replace a:=Bi a;obtain⟨i4,aI,a2,a3,a4,a⟩:=a;obtain⟨bK,bL,_,a5,rfl,a6⟩:=Sl.CR e rfl a3;replace a:=Bi a;obtain⟨i5,aJ,a7,a8,a9,a⟩:=a;obtain⟨bM,bN,_,bA,rfl,bB⟩:=Sl.CR m rfl a8;replace a:=AJ a;obtain⟨bC,a⟩:=a;refine BW 10 [Kc (I i),Kc (.slice c l.length d),Kc (I b),Kc (pt bK (bL+i4)),Kc (I aI),Kc (.slice g o.length h),Kc (I b),Kc (pt bM (bN+i5)),Kc (I aJ),Kc (I (aI*aJ))] mixed rfl rfl
        (Aa (oD (fun K=>AA (es (t:=5) ((K.later 11 5 _ rfl rfl rfl).trans u))))
        (Aa (oD (fun K=>AA (es ((K.out 1 rfl).trans q))))
        (Aa (oD (fun K=>AA (es ((K.out 6 rfl).trans j))))
        (Aa (oD (fun K=>BA (k:=i4) Tryz.underlying31 Dy (es (K.dq 1 14)) a5 (es (K.dq 2 15)) a2 a4))
        (Aa (oD (fun K=>BF Bq (es (K.dq 3 16)) (a6.mv (Ac K.AV)) rfl))
        (Aa (oD (fun K=>AA (es ((K.out 0 rfl).trans p))))
        (Aa (oD (fun K=>AA (es ((K.out 6 rfl).trans j))))
        (Aa (oD (fun K=>BA (k:=i5) Tryz.underlying31 Dy (es (K.dq 5 18)) bA (es (K.dq 6 19)) a7 a9))
        (Aa (oD (fun K=>BF Bq (es (K.dq 7 20)) (bB.mv (Ac K.AV)) rfl))
        (Aa (oD (fun K=>LU (es (K.dq 4 17)) (es (K.dq 8 21)) bC))
        (BR _))))))))))) ?_
    intro bV;rintro _ rfl _ rfl _ rfl _ rfl _ rfl _ rfl _ rfl _ rfl _ rfl _ rfl aM;have bD:=aL.ext aM;replace a:=AJ a;obtain⟨bE,a⟩:=a;refine wD (fun st=>BK (eR st) (eR st) bE)<|wA (v:=I (i+(aI*aJ))) rfl<|Bc<|CG<|Ai<|wM (v:=I b) j ?_;replace a:=AJ a;obtain⟨bF,a⟩:=a;refine wD (fun st=>BK (eR st) (eR st) bF)<|wA (v:=I (b+1)) rfl<|Bc ?_;have ⟨aA,aB⟩:=K5 m e (Ac aM);refine Br aQ (Nat.lt_succ_self _) (fun st=>?_);exact⟨(i+(aI*aJ)),(b+1),a,qo st,sp st 0 p,sp st 1 q,sp st 5 rfl,sp st 6 rfl,bD,aA,aB⟩
   ·replace a:=An a r;refine Ao rfl r<|DA ?_;obtain rfl:=oi a;refine BG (fun st=>?_);exact⟨rfl,qo st,sp st 1 q,sp st 5 u,aL,e⟩
 case aY=>
  rintro aW bO bT (⟨rfl,aK,aC,aD,aS,s⟩);refine lf aK<|Be<|BM<|cr<|wM (v:=I aH) aD<|wM (v:=.slice c l.length d) aC ?_;replace a:=bind_some a;obtain⟨bG,bH,a⟩:=a;refine wE (fun st=>Ak RO (eR st) (Cd (eR st)) (a35 aN l c d ZA _ s.all bG bH)) ?_;rintro _ bU ⟨bI,rfl⟩;have bJ:=aS.ext bI;replace a:=On a;obtain⟨aE,a⟩:=a;replace a:=AJ a;obtain⟨aT,a⟩:=a;refine wD (fun st=>Q5 (eR st) (eR st) aE.1 aE.2 aT)<|wA (v:=I (aH/bG)) rfl<|wn<|Ap ?_;obtain rfl:=oi a;refine Au rfl rfl ?_;exact⟨bJ.AZ,rfl⟩
theorem a31 aJ p i s j l e f m n b c(Z:Nat→Prop) w(z:Sl Ax w Z j l p.Az)(aA:Sl (Bx (Al .i64)) w Z e f p.Bb)(aB:Sl AF w Z m n p.AP)(aC:Sl (Al .i64) w Z b c i) aK(a:Ht aJ p i s=some aK):
 BN Tryz.prog 31 #[.agg (AU j l e f m n p).toArray,.slice b i.length c,I s] w (fun v w'=>Ext w w'∧(Dk .i64).R w' (zf Z w []) v aK):=by
 unfold Ht at a;refine rq (N:=25) Tryz.func31 fun a4 ha a5=>?_;have aG:=sA 0 ha;have o:=sA 1 ha;have r:=sA 2 ha;clear ha;have aE:Hp FN [] w [] w:=Hp.start (Bw.none w);have ⟨aH,t,aI,g⟩:=ID z aA aB aC (Bu (Z:=Z) (L:=[]) w);refine cr<|wE (fun st=>BL (v:=.agg (AU j l e f m n p).toArray) (cs:=(AU j l e f m n p).toArray) (ee st aG) rfl) ?_;rintro _ w1 ⟨b1,rfl,h⟩;have aF:=aE.nb h;have a3:=aE.BH h;refine wA (v:=I 0) rfl<|wn<|Af<|cr<|wM (v:=I s) r<|wM (v:=.slice b i.length c) o<|wD (fun st=>Bn Tryz.underlying31 (eR st))<|wD (fun st=>B8 (eR st) (eR st))<|wn ?_;rcases Ae (decide (s<(i.length:Int))) with q|q
 ·replace a:=Am a q;refine Ah rfl q<|cr<|wM (v:=.slice b i.length c) o<|wM (v:=I s) r ?_;replace a:=Bi a;obtain⟨i3,aL,aM,aN,aO,a⟩:=a;have d:=(g.mv (Ay h));obtain⟨b3,a6,_,aP,rfl,aQ⟩:=Sl.CR d rfl aN;refine wD (fun st=>BA (k:=i3) Tryz.underlying31 Dy (eR st) aP (eR st) aM aO)<|wD (fun st=>BF (v:=I aL) Bq (eR st) aQ rfl)<|wA (v:=I aL) rfl<|wn<|Ap<|AG ?_;obtain rfl:=oi a;refine Au rfl rfl ?_;exact⟨aF.AZ,rfl⟩
 ·replace a:=An a q;refine Ao rfl q<|cn<|cr<|wM (v:=.slice b i.length c) o<|wD (fun st=>Ad (eR st) (EO _ _))<|wD (fun st=>Ag (v:=.slice e p.Bb.length f) DK (eR st) h.bk rfl)<|wM (v:=I s) r<|wM (v:=.slice b i.length c) o<|wD (fun st=>Bn Tryz.underlying31 (eR st)) ?_;replace a:=AJ a;obtain⟨aR,a⟩:=a;refine wD (fun st=>Fi (eR st) (eR st) aR) ?_;replace a:=Bi a;obtain⟨i5,aS,aT,aU,aV,a⟩:=a;have u:=(t.mv (Ay h));obtain⟨a7,a8,_,aW,⟨x,y,rfl,aD⟩,aX⟩:=Sl.CR u rfl aU;refine wD (fun st=>BA (k:=i5) Tryz.underlying23 E8 (eR st) aW (eR st) aT aV)<|wD (fun st=>BF (v:=.slice x aS.length y) CU (eR st) aX rfl) ?_;have d:=(g.mv (Ay h));replace a:=bind_some a;obtain⟨aY,aZ,a⟩:=a;refine wE (fun st=>Ak RR (eR st) (Ci (eR st) (eR st)) (a87 aJ i aS b c x y ZA _ d.all aD.all aY aZ)) ?_;rintro _ a9 ⟨a0,rfl⟩;have a2:=aF.ext a0;refine wA (v:=I aY) rfl<|wn<|Ap ?_;obtain rfl:=oi a;refine Au rfl rfl ?_;exact⟨a2.AZ,rfl⟩
theorem a146 aC k aB a c d e f g i m n(Z:Nat→Prop) w(aF:Sl Ax w Z c d k.Az)(aG:Sl (Bx (Al .i64)) w Z e f k.Bb)(aH:Sl AF w Z g i k.AP)(aI:Sl (Al .i64) w Z m n aB) aT(b:Hj aC k aB a=some aT):
 BN Tryz.prog 146 #[.agg (AU c d e f g i k).toArray,.slice m aB.length n,.agg #[.bool a.BY,I a.Number,I a.Bl,I a.Bm]] w (fun v w'=>Ext w w'∧BE.R w' (zf Z w []) v aT):=by
 unfold Hj at b;refine rq (N:=28) Tryz.func146 fun a8 ha a9=>?_;have aN:=sA 0 ha;have aD:=sA 1 ha;have aO:=sA 2 ha;clear ha;have aJ:Hp FN [] w [] w:=Hp.start (Bw.none w);have ⟨t,u,x,y⟩:=ID aF aG aH aI (Bu (Z:=Z) (L:=[]) w);refine cr<|wE (fun st=>BL (v:=.agg (AU c d e f g i k).toArray) (cs:=(AU c d e f g i k).toArray) (ee st aN) rfl) ?_;rintro _ w1 ⟨b1,rfl,z⟩;have aK:=aJ.nb z;have a6:=aJ.BH z;refine wE (fun st=>BL (v:=.agg #[.bool a.BY,I a.Number,I a.Bl,I a.Bm]) (cs:= #[.bool a.BY,I a.Number,I a.Bl,I a.Bm]) (ee st aO) rfl) ?_;rintro _ w2 ⟨b2,rfl,j⟩;have aL:=aK.nb j;have a7:=aK.BH j;refine wA (v:=.bool false) rfl<|wr<|wD (fun st=>Ad (eR st) (NX _ _))<|wD (fun st=>Ag (v:=I a.Number) Bq (eR st) j.bk rfl)<|wA (v:=I a.Number) rfl<|wn<|Af<|cr<|wD (fun st=>Ad (eR st) (PY _ _))<|wD (fun st=>Ag (v:=.bool a.BY) KB (eR st) j.bk rfl)<|wn ?_;rcases Ae (a.BY) with aA|aA
 ·replace b:=Am b aA;refine Ah rfl aA<|Ai<|wM (v:=I a.Number) rfl<|wD (fun st=>Ad (eR st) (Gm _ _)) ?_;have s:=(z.bk.ext j.gr);refine wD (fun st=>Ag (v:=.slice c k.Az.length d) Hm (eR st) s rfl)<|wD (fun st=>Bn Tryz.underlying22 (eR st)) ?_;replace b:=AJ b;obtain⟨aU,b⟩:=b;refine wD (fun st=>BK (eR st) (eR st) aU)<|wA (v:=I (a.Number+(k.Az.length:Int))) rfl<|wn<|Af ?_;have ⟨o,p,q,r⟩:=ID t u x y (mt (Ay z) (Ay j));replace b:=bind_some b;obtain⟨aP,aV,b⟩:=b;refine BW 10 [Kc (.agg (AU c d e f g i k).toArray),Kc (.slice m aB.length n),Kc (I (a.Number+(k.Az.length:Int))),Kc (I aP),Kc (pt b2 2),Kc (pt b2 2),Kc (I a.Bl),Kc (pt b2 2),Kc (pt b2 3),Kc (I a.Bm)] mixed rfl rfl
      (Aa (oD (fun K=>AO (l:=(AU c d e f g i k)) HN (K.kO 3) (s.ext K.AV) rfl rfl))
      (Aa (oD (fun K=>AA (es ((K.out 1 rfl).trans aD))))
      (Aa (oD (fun K=>AA (K.kO 7)))
      (Aa (oE (fun K=>(Ak UW rfl (DX (es (K.dq 0 17)) (es (K.dq 1 18)) (es (K.dq 2 19))) (a31 aC k aB (a.Number+(k.Az.length:Int)) c d e f g i m n ZA _ (o.mv (Ac K.AV)).all (p.mv (Ac K.AV)).all (q.mv (Ac K.AV)).all (r.mv (Ac K.AV)).all aP aV)).mono (fun _ _ h=>⟨h.2,h.1⟩)))
      (Aa (oD (fun K=>Ad (K.kO 5) (KP _ _)))
      (Aa (oD (fun K=>Ad (es (K.dq 4 21)) (Qk _ _)))
      (Aa (oD (fun K=>Ag Bq (es (K.dq 5 22)) (j.bk.ext K.AV) rfl))
      (Aa (oD (fun K=>Ad (K.kO 5) (KP _ _)))
      (Aa (oD (fun K=>Ad (es (K.dq 7 24)) (Ql _ _)))
      (Aa (oD (fun K=>Ag Bq (es (K.dq 8 25)) (j.bk.ext K.AV) rfl))
      (BR _))))))))))) ?_
  intro bB;rintro _ rfl _ rfl _ rfl _ rfl _ rfl _ rfl _ rfl _ rfl _ rfl _ rfl aW;have aX:=aL.ext aW;replace b:=bind_some b;obtain⟨aY,aZ,b⟩:=b;refine wE (fun st=>Ak Fs (eR st) (DX (eR st) (eR st) (eR st)) (Jr aC aP a.Bl a.Bm ZA _ aY aZ)) ?_;rintro _ bC ⟨a0,rfl⟩;have a2:=aX.ext a0;refine wA (v:=.bool aY) rfl<|wn<|Ap ?_;obtain rfl:=oi b;refine Au rfl rfl ?_;exact⟨a2.AZ,rfl⟩
 ·replace b:=An b aA;refine Ao rfl aA<|cn<|Af ?_;have s:=(z.bk.ext j.gr);have ⟨o,p,q,r⟩:=ID t u x y (mt (Ay z) (Ay j));replace b:=bind_some b;obtain⟨aE,aQ,b⟩:=b;refine BW 10 [Kc (.agg (AU c d e f g i k).toArray),Kc (.slice m aB.length n),Kc (I a.Number),Kc (I aE),Kc (pt b2 2),Kc (pt b2 2),Kc (I a.Bl),Kc (pt b2 2),Kc (pt b2 3),Kc (I a.Bm)] mixed rfl rfl
      (Aa (oD (fun K=>AO (l:=(AU c d e f g i k)) HN (K.kO 3) (s.ext K.AV) rfl rfl))
      (Aa (oD (fun K=>AA (es ((K.out 1 rfl).trans aD))))
      (Aa (oD (fun K=>AA (K.kO 7)))
      (Aa (oE (fun K=>(Ak UW rfl (DX (es (K.dq 0 17)) (es (K.dq 1 18)) (es (K.dq 2 19))) (a31 aC k aB a.Number c d e f g i m n ZA _ (o.mv (Ac K.AV)).all (p.mv (Ac K.AV)).all (q.mv (Ac K.AV)).all (r.mv (Ac K.AV)).all aE aQ)).mono (fun _ _ h=>⟨h.2,h.1⟩)))
      (Aa (oD (fun K=>Ad (K.kO 5) (KP _ _)))
      (Aa (oD (fun K=>Ad (es (K.dq 4 21)) (Qk _ _)))
      (Aa (oD (fun K=>Ag Bq (es (K.dq 5 22)) (j.bk.ext K.AV) rfl))
      (Aa (oD (fun K=>Ad (K.kO 5) (KP _ _)))
      (Aa (oD (fun K=>Ad (es (K.dq 7 24)) (Ql _ _)))
      (Aa (oD (fun K=>Ag Bq (es (K.dq 8 25)) (j.bk.ext K.AV) rfl))
      (BR _))))))))))) ?_
  intro bD;rintro _ rfl _ rfl _ rfl _ rfl _ rfl _ rfl _ rfl _ rfl _ rfl _ rfl a3;have a4:=aL.ext a3;replace b:=bind_some b;obtain⟨aM,aR,b⟩:=b;refine wE (fun st=>Ak Fs (eR st) (DX (eR st) (eR st) (eR st)) (Jr aC aE a.Bl a.Bm ZA _ aM aR)) ?_;rintro _ bA ⟨aS,rfl⟩;have a5:=a4.ext aS;refine wA (v:=.bool aM) rfl<|wn<|Ap ?_;obtain rfl:=oi b;refine Au rfl rfl ?_;exact⟨a5.AZ,rfl⟩
theorem Acf a6 h u d e f g b c j m(Z:Nat→Prop) w(bB:Sl Ax w Z d e h.Az)(bC:Sl (Bx (Al .i64)) w Z f g h.Bb)(bD:Sl AF w Z b c h.AP)(bE:Sl (Al .i64) w Z j m u) b5(a:GB a6 h u=some b5):
 BN Tryz.prog 100 #[.agg (AU d e f g b c h).toArray,.slice j u.length m] w (fun v w'=>Ext w w'∧BE.R w' (zf Z w []) v b5):=by
 unfold GB at a;refine rq (N:=26) Tryz.func100 fun cJ ha cK=>?_;have bN:=sA 0 ha;have a7:=sA 1 ha;clear ha;have bJ:Hp FN [] w [] w:=Hp.start (Bw.none w);have ⟨aT,aU,aV,aW⟩:=ID bB bC bD bE (Bu (Z:=Z) (L:=[]) w);refine cr<|wE (fun st=>BL (v:=.agg (AU d e f g b c h).toArray) (cs:=(AU d e f g b c h).toArray) (ee st bN) rfl) ?_;rintro _ w1 ⟨b1,rfl,aK⟩;have b6:=bJ.nb aK;have cF:=bJ.BH aK;refine wA (v:=.bool false) rfl<|wn<|Af<|cr<|wD (fun st=>AO (l:=(AU d e f g b c h)) HN (eR st) aK.bk rfl rfl)<|wM (v:=.slice j u.length m) a7 ?_;have ⟨x,y,z,aA⟩:=ID aT aU aV aW (Ay aK);replace a:=bind_some a;obtain⟨bF,b7,a⟩:=a;refine wE (fun st=>Ak Aae (eR st) (Ci (eR st) (eR st)) (a77 a6 h u d e f g b c j m ZA _ x.all y.all z.all aA.all bF b7)) ?_;rintro _ cP ⟨a8,rfl⟩;have bK:=b6.ext a8;refine wD (fun st=>Ca (eR st))<|wn ?_;rcases Ae (!bF) with s|s
 ·replace a:=Am a s;have cG:bF=false:=by simpa using s
  refine Ah rfl s<|cr<|wA (v:=.bool false) rfl<|wn<|Ap<|AG ?_;obtain rfl:=oi a;refine Au rfl rfl ?_;exact⟨bK.AZ,rfl⟩
 ·replace a:=An a s;have cH:bF=true:=by simpa using s
  refine Ao rfl s<|cn<|Af<|cr<|wA (v:=I 0) rfl<|wn<|AI ?_;replace a:=bind_some a;obtain⟨bO,aB,a⟩:=a;refine BQ (fun bP q aH=>(bP=.ret∧∃aC,bO=.inl aC∧Fo X0 26 q∧sl q 4=.bool aC∧Hp FN [] w [some b1] aH)∨(bP=.exit 0∧∃aC,bO=.inr aC∧Fo X0 26 q∧Hp FN [] w [some b1] aH)) ?b8 ?b9
  case b8=>
   clear a;refine BP (fun bQ q aH=>∃i,Db a6 h u bQ i=some bO∧Fo X0 26 q∧sl q 1=.slice j u.length m∧sl q 2=pt b1 0∧sl q 5=I i∧Hp FN [] w [some b1] aH∧Bk aH b1 26 (AU d e f g b c h).toArray∧(fun bG=>Sl Ax aH bG d e h.Az∧Sl (Bx (Al .i64)) aH bG f g h.Bb∧Sl AF aH bG b c h.AP∧Sl (Al .i64) aH bG j m u) (zf Z w [some b1])) a6 ?cA ?cB
   case cA=>
    intro st;have bH:=(aK.bk.ext a8);have ⟨aX,aY,aZ,a0⟩:=ID x y z aA (Ac a8);exact⟨(0:Int),aB,qo st,sp st 1 a7,sp st 2 rfl,sp st 5 rfl,bK,bH,aX,aY,aZ,a0⟩
   case cB=>
    rintro(_|bQ) cL cM ⟨i,aB,bR,aR,r,aI,bL,o,aM,aN,t,aO⟩
    ·exact absurd (show none=some _ from aB) (by simp)
    rw[Db.eq_2] at aB;have a:=aB;clear aB;refine ro bR<|Af<|cr<|wM (v:=I i) aI<|wD (fun st=>Ad (ee st r) (Ko _ _))<|wD (fun st=>Ag (v:=.slice b h.AP.length c) K8 (eR st) o rfl)<|wD (fun st=>Bn Tryz.underlying24 (eR st))<|wD (fun st=>B8 (eR st) (eR st))<|wn ?_;rcases Ae (decide (i<(h.AP.length:Int))) with aL|aL
    ·replace a:=Am a aL;refine Ah rfl aL<|cn<|Af<|AI<|Af ?_;replace a:=Bi a;obtain⟨i10,p,bS,bT,bU,a⟩:=a;obtain⟨cC,cD,_,bV,rfl,bW⟩:=Sl.elem t (by decide) bT;refine BW 7 [Kc (.agg (AU d e f g b c h).toArray),Kc (.slice j u.length m),Kc (pt b1 2),Kc (.slice b h.AP.length c),Kc (I i),Kc (pt cC (cD+i10*4)),Kc (.agg #[.bool p.BY,I p.Number,I p.Bl,I p.Bm])] mixed rfl rfl
         (Aa (oD (fun K=>AO (l:=(AU d e f g b c h)) HN (es ((K.out 2 rfl).trans r)) (o.ext K.AV) rfl rfl))
         (Aa (oD (fun K=>AA (es ((K.out 1 rfl).trans aR))))
         (Aa (oD (fun K=>Ad (es ((K.out 2 rfl).trans r)) (Ko _ _)))
         (Aa (oD (fun K=>Ag K8 (es (K.dq 2 19)) (o.ext K.AV) rfl))
         (Aa (oD (fun K=>AA (es ((K.out 5 rfl).trans aI))))
         (Aa (oD (fun K=>BC (k:=i10) Tryz.underlying24 Pm (es (K.dq 3 20)) bV (es (K.dq 4 21)) bS bU))
         (Aa (oD (fun K=>Cv (l:=[.bool p.BY,I p.Number,I p.Bl,I p.Bm]) RP (es (K.dq 5 22)) (bW.mv (Ac K.AV)) rfl rfl))
         (BR _)))))))) ?_
     intro cQ;rintro _ rfl _ rfl _ rfl _ rfl _ rfl _ rfl _ rfl a9;have cE:=bL.ext a9;have ⟨aD,aE,aF,aG⟩:=ID aM aN t aO (Ac a9);replace a:=bind_some a;obtain⟨aS,bX,a⟩:=a;refine wE (fun st=>Ak Ze (eR st) (DX (eR st) (eR st) (eR st)) (a146 a6 h u p d e f g b c j m ZA _ aD.all aE.all aF.all aG.all aS bX)) ?_;rintro _ cN ⟨aP,rfl⟩;have bM:=cE.ext aP;refine wD (fun st=>Ca (eR st))<|wn ?_;rcases Ae (!aS) with n|n
     ·replace a:=Am a n;have bZ:aS=false:=by simpa using n
      refine Ah rfl n<|cr<|wA (v:=.bool false) rfl<|wn<|Ap<|CO<|AG ?_;obtain rfl:=oi a;refine BG (fun st=>?_);exact .inl ⟨rfl,false,rfl,qo st,sp st 4 rfl,bM⟩
     ·replace a:=An a n;have b4:aS=true:=by simpa using n
      refine Ao rfl n<|Ce<|CG<|Ai<|wM (v:=I i) aI ?_;replace a:=AJ a;obtain⟨bY,a⟩:=a;refine wD (fun st=>BK (eR st) (eR st) bY)<|wA (v:=I (i+1)) rfl<|Bc ?_;have bI:=((o.ext a9).ext aP);have ⟨a2,a3,a4,a5⟩:=ID aD aE aF aG (Ac aP);refine Br bQ (Nat.lt_succ_self _) (fun st=>?_);exact⟨(i+1),a,qo st,sp st 1 aR,sp st 2 r,sp st 5 rfl,bM,bI,a2,a3,a4,a5⟩
    ·replace a:=An a aL;refine Ao rfl aL<|DA ?_;obtain rfl:=oi a;refine BG (fun st=>?_);exact .inr ⟨rfl,(),rfl,qo st,bL⟩
  case b9=>
   rintro bP cI cO (⟨rfl,aC,rfl,aJ,bA,aQ⟩|⟨rfl,aC,rfl,aJ,aQ⟩)
   ·skip
    replace a:=CM a;refine lf aJ<|CO ?_;obtain rfl:=oi a;refine Au rfl bA ?_;exact⟨aQ.AZ,rfl⟩
   ·skip
    replace a:=CN a;refine lf aJ<|Be<|BM<|cr<|wA (v:=.bool true) rfl<|wn<|Ap ?_;obtain rfl:=oi a;refine Au rfl rfl ?_;exact⟨aQ.AZ,rfl⟩
theorem a28 a3 q d f g h i j(Z:Nat→Prop) w(bP:Sl Ax w Z d f q.Az)(bQ:Sl (Bx (Al .i64)) w Z g h q.Bb)(bR:Sl AF w Z i j q.AP) cB(a:EA a3 q=some cB):
 BN Tryz.prog 28 #[.agg (AU d f g h i j q).toArray] w (fun v w'=>Ext w w'∧(FE (Bx (Al .i64))).R w' (zf Z w []) v cB):=by
 unfold EA at a;refine rq (N:=23) Tryz.func28 fun cW ha cX=>?_;have b5:=sA 0 ha;clear ha;have bY:Hp FN [] w [] w:=Hp.start (Bw.none w);have ⟨a4,a5,a6⟩:=Er bP bQ bR (Bu (Z:=Z) (L:=[]) w);refine cr<|wE (fun st=>BL (v:=.agg (AU d f g h i j q).toArray) (cs:=(AU d f g h i j q).toArray) (ee st b5) rfl) ?_;rintro _ w1 ⟨b1,rfl,a0⟩;have cC:=bY.nb a0;have cU:=bY.BH a0;refine wA (v:=.slice none 0 0) rfl<|wr<|wA (v:=.slice none 0 0) rfl<|wn<|Af<|cr<|wA (v:=I 0) rfl<|wn<|AI ?_;have cD:=cC.nil;have cE:Bp (Bx (Al .i64)) 31 w.heap.size w1 (zf Z w [none,some b1]) none 0 ([]:List (List Int)):=Bp.nil _ _ _ _ _;replace a:=bind_some a;obtain⟨z2,aN,a⟩:=a;refine BQ (fun cF aF aR=>(cF=.exit 0∧∃b n,Fo X0 23 aF∧sl aF 3=.slice b z2.length n∧Hp FN [] w [ob b,some b1] aR∧Bp (Bx (Al .i64)) 31 w.heap.size aR (zf Z w [ob b,some b1]) b n z2)) ?cG ?cH
 case cG=>
  clear a;refine BP (fun bS aF aR=>∃r,∃c,∃m t,DU a3 q bS r c=some z2∧Fo X0 23 aF∧sl aF 1=pt b1 0∧sl aF 3=.slice m r.length t∧sl aF 4=I c∧Hp FN [] w [ob m,some b1] aR∧(fun bT=>Bp (Bx (Al .i64)) 31 w.heap.size aR bT m t r∧Bk aR b1 26 (AU d f g h i j q).toArray∧Sl Ax aR bT d f q.Az∧Sl (Bx (Al .i64)) aR bT g h q.Bb∧Sl AF aR bT i j q.AP) (zf Z w [ob m,some b1])) a3 ?cI ?cJ
  case cI=>
   intro st;have bU:=a0.bk;have ⟨a7,a8,a9⟩:=Er a4 a5 a6 (mt (Ay a0) Bv);exact⟨([]:List (List Int)),(0:Int),none,0,aN,qo st,sp st 1 rfl,sp st 3 rfl,sp st 4 rfl,cD,cE,bU,a7,a8,a9⟩
  case cJ=>
   rintro(_|bS) cY cZ ⟨r,c,m,t,aN,b6,y,aS,aE,cK,x,aV,aG,aH,aI⟩
   ·exact absurd (show none=some _ from aN) (by simp)
   rw[DU.eq_2] at aN;have a:=aN;clear aN;refine ro b6<|Af<|cr<|wM (v:=I c) aE<|wD (fun st=>AO (l:=(AU d f g h i j q)) HN (ee st y) aV rfl rfl) ?_;replace a:=bind_some a;obtain⟨cL,cM,a⟩:=a;refine wE (fun st=>Ak RQ (eR st) (Cd (eR st)) (a59 a3 q d f g h i j ZA _ aG.all aH.all aI.all cL cM)) ?_;rintro _ c5 ⟨z,rfl⟩;have bJ:=cK.ext z;refine wD (fun st=>B8 (eR st) (eR st))<|wn ?_;rcases Ae (decide (c<cL)) with aW|aW
   ·replace a:=Am a aW;refine Ah rfl aW<|cn<|Af<|AI<|Af<|Ai ?_;have a2:=(aV.ext z);refine wD (fun st=>AO (l:=(AU d f g h i j q)) HN (ee st y) a2 rfl rfl)<|wM (v:=I c) aE ?_;have ⟨aO,aP,aQ⟩:=Er aG aH aI (Ac z);replace a:=bind_some a;obtain⟨aJ,cN,a⟩:=a;refine wE (fun st=>Ak Aaf (eR st) (Ci (eR st) (eR st)) (a58 a3 q c d f g h i j (zf Z w [ob m,some b1]) _ aO aP aQ aJ cN)) ?_;rintro _ c6 ⟨aK,⟨o,p,rfl,aA⟩⟩;have cO:=bJ.ext aK;have aA:=aA.mv (bJ.DQ (Nat.le_refl _));refine wA (v:=.slice o aJ.length p) rfl<|wn<|Af<|Ai ?_;have aT:=(a2.ext aK);refine wD (fun st=>AO (l:=(AU d f g h i j q)) HN (ee st y) aT rfl rfl)<|wM (v:=.slice o aJ.length p) rfl ?_;have ⟨aB,aC,aD⟩:=Er aO aP aQ (Ac aK);replace a:=bind_some a;obtain⟨cP,cQ,a⟩:=a;refine wE (fun st=>Ak Zf (eR st) (Ci (eR st) (eR st)) (Acf a3 q aJ d f g h i j o p ZA _ aB.all aC.all aD.all aA.all cP cQ)) ?_;rintro _ c0 ⟨u,rfl⟩;have bK:=cO.ext u;refine wn ?_;rcases Ae (cP) with aL|aL
    ·replace a:=Am a aL;refine Ah rfl aL<|Ai<|wM (v:=.slice m r.length t) aS<|wM (v:=.slice o aJ.length p) rfl<|wE (fun st=>B1 (e:=31) (vs:= #[(0,.slice o aJ.length p)]) (cs:= #[.slice o aJ.length p]) (IP (eR st)) (by kernel_rfl)) ?_;rintro _ c1 ⟨c2,rfl,s⟩;have aX:=bK.nb s;have cR:=bK.BH s;have bA:=((((x.ext z (Ac z)).ext aK (Ac aK)).ext u (Ac u)).ext s.gr (Ay s));replace a:=B9 a;obtain⟨bL,a⟩:=a;have aY:=((aA.mv (Ac u)).mv (Ay s));refine wE (fun st=>IZ (ys:=[aJ]) Tryz.underlying23 NW rfl rfl (by decide) (eR st) rfl (eR st) bA (I0 (BJ:=[[.slice o aJ.length p]]) s.bk ⟨⟨_,_,rfl,aY⟩,trivial⟩ rfl) (by have:=bL;simp only[maxLen];omega) (by have:=bL;omega) aX.sz (by simp)) ?_;rintro _ c3 ⟨bZ,b4,rfl,aU,aZ,b7⟩;have cS:=aX.row aU 1 rfl aZ;have b8:=Ed b7 (aX.CL aU 1 rfl (fun k hk=>(aZ k hk).1));refine wA (v:=.slice bZ ((r++[aJ]).length) b4) rfl<|Bc<|CG<|Ai<|wM (v:=I c) aE ?_;replace a:=AJ a;obtain⟨b9,a⟩:=a;refine wD (fun st=>BK (eR st) (eR st) b9)<|wA (v:=I (c+1)) rfl<|Bc ?_;have cT:=cS.erase 0;have bM:=(b8.up (AH 0));have bV:=(((aT.ext u).ext s.gr).gr aU (aX.nq 2 1));have ⟨bB,bC,bD⟩:=Er aB aC aD (mt (Ac u) (mt (Ay s) (mt (aX.CL aU 1 rfl (fun k hk=>(aZ k hk).1)) (AH 0))));refine Br bS (Nat.lt_succ_self _) (fun st=>?_);exact⟨(r++[aJ]),(c+1),bZ,b4,a,qo st,sp st 1 y,sp st 3 rfl,sp st 4 rfl,cT,bM,bV,bB,bC,bD⟩
    ·replace a:=An a aL;refine Ao rfl aL<|Ce<|CG<|Ai<|wM (v:=I c) aE ?_;replace a:=AJ a;obtain⟨cA,a⟩:=a;refine wD (fun st=>BK (eR st) (eR st) cA)<|wA (v:=I (c+1)) rfl<|Bc ?_;have bE:=(((x.ext z (Ac z)).ext aK (Ac aK)).ext u (Ac u));have bW:=(aT.ext u);have ⟨bF,bG,bH⟩:=Er aB aC aD (Ac u);refine Br bS (Nat.lt_succ_self _) (fun st=>?_);exact⟨r,(c+1),m,t,a,qo st,sp st 1 y,sp st 3 aS,sp st 4 rfl,bK,bE,bW,bF,bG,bH⟩
   ·replace a:=An a aW;refine Ao rfl aW<|DA ?_;obtain rfl:=oi a;have bI:=(x.ext z (Ac z));refine BG (fun st=>?_);exact⟨rfl,m,t,qo st,sp st 3 aS,bJ,bI⟩
 case cH=>
  rintro cF cV c4 (⟨rfl,b,n,bX,bN,bO,aM⟩);refine lf bX<|Be<|BM<|cr<|wM (v:=.slice b z2.length n) bN<|wA (v:=.slice b z2.length n) rfl<|wn<|Ap ?_;obtain rfl:=oi a;refine Au rfl rfl ?_;exact⟨bO.AZ,⟨_,_,rfl,bO.Jz (M:=[]) 0 rfl [] rfl trivial aM⟩⟩
theorem a56 aM a aE e f b c g h i j l m n o(Z:Nat→Prop) w(u:Sl Ax w Z e f a.Aj)(x:Sl (Bx (Al .i64)) w Z b c a.Ab)(y:Sl AF w Z g h a.Aq)(z:Sl AT w Z i j a.AB)(aA:Sl AW w Z l m a.AE)(aB:Sl Bj w Z n o a.AK) aN(d:EB aM a aE=some aN):
 BN Tryz.prog 56 #[.agg (Ar e f b c g h i j l m n o a).toArray,I aE] w (fun v w'=>Ext w w'∧(Dk .i64).R w' (zf Z w []) v aN):=by
 unfold EB at d;refine rq (N:=12) Tryz.func56 fun aZ ha a0=>?_;have aF:=sA 0 ha;have aG:=sA 1 ha;clear ha;have aD:Hp FN [] w [] w:=Hp.start (Bw.none w);have ⟨aH,q,aI,aJ,aK,aL⟩:=CA u x y z aA aB (Bu (Z:=Z) (L:=[]) w);refine cr<|wE (fun st=>BL (v:=.agg (Ar e f b c g h i j l m n o a).toArray) (cs:=(Ar e f b c g h i j l m n o a).toArray) (ee st aF) rfl) ?_;rintro _ w1 ⟨b1,rfl,p⟩;have aO:=aD.nb p;have aY:=aD.BH p;refine wA (v:=I 0) rfl<|wr<|wD (fun st=>Ad (eR st) (GJ _ _))<|wD (fun st=>Ad (eR st) (EO _ _))<|wD (fun st=>Ag (v:=.slice b a.Ab.length c) DK (eR st) p.bk rfl)<|wM (v:=I aE) aG ?_;replace d:=Bi d;obtain⟨i2,x2,aP,aQ,aR,d⟩:=d;have r:=(q.mv (Ay p));obtain⟨b2,a2,_,aS,⟨s,t,rfl,aC⟩,aT⟩:=Sl.CR r rfl aQ;refine wD (fun st=>BA (k:=i2) Tryz.underlying23 E8 (eR st) aS (eR st) aP aR)<|wD (fun st=>BF (v:=.slice s x2.length t) CU (eR st) aT rfl) ?_;replace d:=bind_some d;obtain⟨aU,aV,d⟩:=d;refine wE (fun st=>Ak RO (eR st) (Cd (eR st)) (a35 aM x2 s t ZA _ aC.all aU aV)) ?_;rintro _ a3 ⟨aW,rfl⟩;have aX:=aO.ext aW;refine wA (v:=I aU) rfl<|wn<|Ap ?_;obtain rfl:=oi d;refine Au rfl rfl ?_;exact⟨aX.AZ,rfl⟩
theorem a54 bN b aW aX i j f g m n c d o p q r aI aJ(Z:Nat→Prop) w(bV:Sl Ax w Z i j b.Aj)(bW:Sl (Bx (Al .i64)) w Z f g b.Ab)(bX:Sl AF w Z m n b.Aq)(bY:Sl AT w Z c d b.AB)(bZ:Sl AW w Z o p b.AE)(b4:Sl Bj w Z q r b.AK)(b5:Sl (Al .i64) w Z aI aJ aW) cT(a:Fz bN b aW aX=some cT):
 BN Tryz.prog 54 #[.agg (Ar i j f g m n c d o p q r b).toArray,.slice aI aW.length aJ,I aX] w (fun v w'=>Ext w w'∧(Dk .i64).R w' (zf Z w []) v cT):=by
 unfold Fz at a;refine rq (N:=43) Tryz.func54 fun dL ha dM=>?_;have cD:=sA 0 ha;have cE:=sA 1 ha;have cF:=sA 2 ha;clear ha;have b9:Hp FN [] w [] w:=Hp.start (Bw.none w);have ⟨a9,bA,bB,bC,bD,bE,bF⟩:=FF bV bW bX bY bZ b4 b5 (Bu (Z:=Z) (L:=[]) w);refine cr<|wE (fun st=>BL (v:=.agg (Ar i j f g m n c d o p q r b).toArray) (cs:=(Ar i j f g m n c d o p q r b).toArray) (ee st cD) rfl) ?_;rintro _ w1 ⟨b1,rfl,aY⟩;have cU:=b9.nb aY;have dH:=b9.BH aY;refine wA (v:=I 0) rfl<|wr<|wA (v:=I 0) rfl<|wn<|Af<|cr<|wD (fun st=>Ad (eR st) (GK _ _))<|wD (fun st=>Ag (v:=.slice c b.AB.length d) HO (eR st) aY.bk rfl)<|wD (fun st=>Bn Tryz.underlying63 (eR st)) ?_;replace a:=AJ a;obtain⟨cV,a⟩:=a;refine wD (fun st=>Fi (eR st) (eR st) cV)<|wA (v:=I ((b.AB.length:Int)-1)) rfl<|wn<|AI ?_;replace a:=bind_some a;obtain⟨z3,aS,a⟩:=a;refine BQ (fun cW x u=>(cW=.exit 0∧Fo X0 43 x∧sl x 2=I aX∧sl x 3=pt b1 0∧sl x 7=I z3∧Hp FN [] w [some b1] u∧Bk u b1 67 (Ar i j f g m n c d o p q r b).toArray∧(fun aG=>Sl Ax u aG i j b.Aj∧Sl (Bx (Al .i64)) u aG f g b.Ab∧Sl AF u aG m n b.Aq∧Sl AT u aG c d b.AB∧Sl AW u aG o p b.AE∧Sl Bj u aG q r b.AK) (zf Z w [some b1]))) ?cX ?cY
 case cX=>
  clear a;refine BP (fun b6 x u=>∃aU,∃e,D6 bN b aW aX b6 aU e=some z3∧Fo X0 43 x∧sl x 1=.slice aI aW.length aJ∧sl x 2=I aX∧sl x 3=pt b1 0∧sl x 7=I aU∧sl x 8=I e∧Hp FN [] w [some b1] u∧Bk u b1 67 (Ar i j f g m n c d o p q r b).toArray∧(fun aG=>Sl Ax u aG i j b.Aj∧Sl (Bx (Al .i64)) u aG f g b.Ab∧Sl AF u aG m n b.Aq∧Sl AT u aG c d b.AB∧Sl AW u aG o p b.AE∧Sl Bj u aG q r b.AK∧Sl (Al .i64) u aG aI aJ aW) (zf Z w [some b1])) bN ?cZ ?c0
  case cZ=>
   intro st;have ⟨bG,bH,bI,bJ,bK,bL,bM⟩:=FF a9 bA bB bC bD bE bF (Ay aY);exact⟨(0:Int),((b.AB.length:Int)-1),aS,qo st,sp st 1 cE,sp st 2 cF,sp st 3 rfl,sp st 7 rfl,sp st 8 rfl,cU,aY.bk,bG,bH,bI,bJ,bK,bL,bM⟩
  case c0=>
   rintro(_|b6) dN dO ⟨aU,e,aS,cG,aV,aQ,z,a8,aH,cA,y,aB,s,aC,t,aD,aE,aF⟩
   ·exact absurd (show none=some _ from aS) (by simp)
   rw[D6.eq_2] at aS;have a:=aS;clear aS;refine ro cG<|Af<|cr<|wM (v:=I e) aH<|wD (fun st=>HT (eR st) (eR st))<|wn ?_;rcases Ae (decide ((0:Int)≤e)) with aZ|aZ
   ·replace a:=Am a aZ;refine Ah rfl aZ<|cn<|Af<|AI<|Af ?_;replace a:=Bi a;obtain⟨i6,c1,c2,c3,c4,a⟩:=a;obtain⟨dI,dJ,_,c5,⟨bO,bP,rfl,b7⟩,c6⟩:=Sl.CR s rfl c3;replace a:=bind_some a;obtain⟨cH,c7,a⟩:=a;replace a:=Bi a;obtain⟨i8,c8,c9,dA,dB,a⟩:=a;obtain⟨dC,dD,_,dE,rfl,dF⟩:=Sl.elem t (by decide) dA;refine BW 14 [Kc (.slice aI aW.length aJ),Kc (pt b1 0),Kc (pt b1 1),Kc (.slice f b.Ab.length g),Kc (I aX),Kc (pt dI (dJ+i6)),Kc (.slice bO c1.length bP),Kc (I cH),Kc (pt b1 4),Kc (.slice c b.AB.length d),Kc (I e),Kc (pt dC (dD+i8*2)),Kc (pt dC (dD+i8*2)),Kc (I c8.Bd)] mixed rfl rfl
        (Aa (oD (fun K=>AA (es ((K.out 1 rfl).trans aV))))
        (Aa (oD (fun K=>Ad (es ((K.out 3 rfl).trans z)) (GJ _ _)))
        (Aa (oD (fun K=>Ad (es (K.dq 1 18)) (EO _ _)))
        (Aa (oD (fun K=>Ag DK (es (K.dq 2 19)) (y.ext K.AV) rfl))
        (Aa (oD (fun K=>AA (es ((K.out 2 rfl).trans aQ))))
        (Aa (oD (fun K=>BA (k:=i6) Tryz.underlying23 E8 (es (K.dq 3 20)) c5 (es (K.dq 4 21)) c2 c4))
        (Aa (oD (fun K=>BF CU (es (K.dq 5 22)) (c6.mv (Ac K.AV)) rfl))
        (Aa (oE (fun K=>(Ak RR rfl (Ci (es (K.dq 0 17)) (es (K.dq 6 23))) (a87 bN aW c1 aI aJ bO bP ZA _ (aF.mv (Ac K.AV)).all (b7.mv (Ac K.AV)).all cH c7)).mono (fun _ _ h=>⟨h.2,h.1⟩)))
        (Aa (oD (fun K=>Ad (es ((K.out 3 rfl).trans z)) (GK _ _)))
        (Aa (oD (fun K=>Ag HO (es (K.dq 8 25)) (y.ext K.AV) rfl))
        (Aa (oD (fun K=>AA (es ((K.out 8 rfl).trans aH))))
        (Aa (oD (fun K=>BC (k:=i8) Tryz.underlying63 J7 (es (K.dq 9 26)) dE (es (K.dq 10 27)) c9 dB))
        (Aa (oD (fun K=>Ad (es (K.dq 11 28)) (LP _ _ _)))
        (Aa (oD (fun K=>BF Bq (es (K.dq 12 29)) (dF.mv (Ac K.AV)) rfl))
        (BR _))))))))))))))) ?_
    intro dT;rintro _ rfl _ rfl _ rfl _ rfl _ rfl _ rfl _ rfl _ rfl _ rfl _ rfl _ rfl _ rfl _ rfl _ rfl aT;have cB:=cA.ext aT;refine wD (fun st=>HT (eR st) (eR st))<|wn ?_;rcases Ae (decide (c8.Bd≤cH)) with a0|a0
    ·replace a:=Am a a0;refine Ah rfl a0<|Ai<|wD (fun st=>Ad (ee st z) (GK _ _)) ?_;have aR:=(y.ext aT);refine wD (fun st=>Ag (v:=.slice c b.AB.length d) HO (eR st) aR rfl)<|wM (v:=I e) aH ?_;replace a:=Bi a;obtain⟨i10,bQ,cI,cJ,cK,a⟩:=a;have aA:=(t.mv (Ac aT));obtain⟨dP,dQ,_,cL,rfl,cM⟩:=Sl.elem aA (by decide) cJ;refine wD (fun st=>BC (k:=i10) Tryz.underlying63 J7 (eR st) cL (eR st) cI cK)<|wD (fun st=>Ad (eR st) (OH _ _ _))<|wD (fun st=>EG (v:=I bQ.B3) Bq (eR st) cM rfl)<|wA (v:=I bQ.B3) rfl<|Bc<|CG<|Ai<|wM (v:=I e) aH ?_;replace a:=AJ a;obtain⟨cN,a⟩:=a;refine wD (fun st=>Fi (eR st) (eR st) cN)<|wA (v:=I (e-1)) rfl<|Bc ?_;have ⟨aK,aL,aM,aN,aO,aP⟩:=CA aB s aC aD aE aF (Ac aT);refine Br b6 (Nat.lt_succ_self _) (fun st=>?_);exact⟨bQ.B3,(e-1),a,qo st,sp st 1 aV,sp st 2 aQ,sp st 3 z,sp st 7 rfl,sp st 8 rfl,cB,aR,aK,aL,aM,aA,aN,aO,aP⟩
    ·replace a:=An a a0;refine Ao rfl a0<|Ce<|CG<|Ai<|wM (v:=I e) aH ?_;replace a:=AJ a;obtain⟨cO,a⟩:=a;refine wD (fun st=>Fi (eR st) (eR st) cO)<|wA (v:=I (e-1)) rfl<|Bc ?_;have aR:=(y.ext aT);have ⟨aK,aL,aM,aA,aN,aO,aP⟩:=FF aB s aC t aD aE aF (Ac aT);refine Br b6 (Nat.lt_succ_self _) (fun st=>?_);exact⟨aU,(e-1),a,qo st,sp st 1 aV,sp st 2 aQ,sp st 3 z,sp st 7 a8,sp st 8 rfl,cB,aR,aK,aL,aM,aA,aN,aO,aP⟩
   ·replace a:=An a aZ;refine Ao rfl aZ<|DA ?_;obtain rfl:=oi a;refine BG (fun st=>?_);exact⟨rfl,qo st,sp st 2 aQ,sp st 3 z,sp st 7 a8,cA,y,aB,s,aC,t,aD,aE⟩
 case cY=>
  rintro cW dK dR (⟨rfl,b8,bR,bS,bT,cP,bU,a2,a3,a4,a5,a6,a7⟩);refine lf b8<|Be<|BM<|cr<|wM (v:=I z3) bT<|wD (fun st=>AO (l:=(Ar i j f g m n c d o p q r b)) DL (ee st bS) bU rfl rfl)<|wM (v:=I aX) bR ?_;replace a:=bind_some a;obtain⟨cC,cQ,a⟩:=a;refine wE (fun st=>Ak RS (eR st) (Ci (eR st) (eR st)) (a56 bN b aX i j f g m n c d o p q r ZA _ a2.all a3.all a4.all a5.all a6.all a7.all cC cQ)) ?_;rintro _ dS ⟨cR,rfl⟩;have dG:=cP.ext cR;replace a:=AJ a;obtain⟨cS,a⟩:=a;refine wD (fun st=>LU (eR st) (eR st) cS)<|wA (v:=I (z3*cC)) rfl<|wn<|Ap ?_;obtain rfl:=oi a;refine Au rfl rfl ?_;exact⟨dG.AZ,rfl⟩
theorem Acg bZ c aU f g i j m o p q r s d e z aA(Z:Nat→Prop) w(b6:Sl Ax w Z f g c.Aj)(b7:Sl (Bx (Al .i64)) w Z i j c.Ab)(b8:Sl AF w Z m o c.Aq)(b9:Sl AT w Z p q c.AB)(cA:Sl AW w Z r s c.AE)(cB:Sl Bj w Z d e c.AK)(cC:Sl (Al .i64) w Z z aA aU) cV(a:Hk bZ c aU=some cV):
 BN Tryz.prog 114 #[.agg (Ar f g i j m o p q r s d e c).toArray,.slice z aU.length aA] w (fun v w'=>Ext w w'∧(Dk .i64).R w' (zf Z w []) v cV):=by
 unfold Hk at a;refine rq (N:=41) Tryz.func114 fun dO ha dP=>?_;have cK:=sA 0 ha;have cL:=sA 1 ha;clear ha;have cH:Hp FN [] w [] w:=Hp.start (Bw.none w);have ⟨a7,a8,a9,bA,bB,bC,bD⟩:=FF b6 b7 b8 b9 cA cB cC (Bu (Z:=Z) (L:=[]) w);refine cr<|wE (fun st=>BL (v:=.agg (Ar f g i j m o p q r s d e c).toArray) (cs:=(Ar f g i j m o p q r s d e c).toArray) (ee st cK) rfl) ?_;rintro _ w1 ⟨b1,rfl,a5⟩;have cW:=cH.nb a5;have dL:=cH.BH a5;refine wA (v:=I 0) rfl<|wr<|wA (v:=I 0) rfl<|wn<|Af<|cr<|wA (v:=I 0) rfl<|wn<|AI ?_;replace a:=bind_some a;obtain⟨z2,aP,a⟩:=a;refine BQ (fun cX aH aJ=>(cX=.exit 0∧Fo X0 41 aH∧sl aH 5=I z2∧Hp FN [] w [some b1] aJ)) ?cY ?cZ
 case cY=>
  clear a;refine BP (fun cD aH aJ=>∃y,∃b,Ea bZ c aU cD y b=some z2∧Fo X0 41 aH∧sl aH 1=.slice z aU.length aA∧sl aH 2=pt b1 0∧sl aH 5=I y∧sl aH 6=I b∧Hp FN [] w [some b1] aJ∧Bk aJ b1 67 (Ar f g i j m o p q r s d e c).toArray∧(fun aX=>Sl Ax aJ aX f g c.Aj∧Sl (Bx (Al .i64)) aJ aX i j c.Ab∧Sl AF aJ aX m o c.Aq∧Sl AT aJ aX p q c.AB∧Sl AW aJ aX r s c.AE∧Sl Bj aJ aX d e c.AK∧Sl (Al .i64) aJ aX z aA aU) (zf Z w [some b1])) bZ ?c0 ?c1
  case c0=>
   intro st;have ⟨bE,bF,bG,bH,bI,bJ,bK⟩:=FF a7 a8 a9 bA bB bC bD (Ay a5);exact⟨(0:Int),(0:Int),aP,qo st,sp st 1 cL,sp st 2 rfl,sp st 5 rfl,sp st 6 rfl,cW,a5.bk,bE,bF,bG,bH,bI,bJ,bK⟩
  case c1=>
   rintro(_|cD) dQ dR ⟨y,b,aP,cM,aS,t,aT,u,b4,aK,aY,aZ,a0,a2,a3,aL,a4⟩
   ·exact absurd (show none=some _ from aP) (by simp)
   rw[Ea.eq_2] at aP;have a:=aP;clear aP;refine ro cM<|Af<|cr<|wM (v:=I b) u<|wD (fun st=>Ad (ee st t) (Ii _ _))<|wD (fun st=>Ag (v:=.slice d c.AK.length e) I7 (eR st) aK rfl)<|wD (fun st=>Bn Tryz.underlying65 (eR st))<|wD (fun st=>B8 (eR st) (eR st))<|wn ?_;rcases Ae (decide (b<(c.AK.length:Int))) with aV|aV
   ·replace a:=Am a aV;refine Ah rfl aV<|cn<|Af<|AI<|cr<|wD (fun st=>Ad (ee st t) (Ii _ _))<|wD (fun st=>Ag (v:=.slice d c.AK.length e) I7 (eR st) aK rfl)<|wM (v:=I b) u ?_;replace a:=Bi a;obtain⟨i4,aO,c2,c3,c4,a⟩:=a;obtain⟨dU,dV,_,c5,rfl,c6⟩:=Sl.elem aL (by decide) c3;refine wD (fun st=>BC (k:=i4) Tryz.underlying65 LQ (eR st) c5 (eR st) c2 c4)<|wD (fun st=>Ad (eR st) (OI _ _ _))<|wD (fun st=>Ni (l:=[I aO.Ck,I aO.Cl]) FW (eR st) c6 rfl rfl)<|wE (fun st=>BZ (cs:= #[I 0,I 0]) I6 rfl) ?_;rintro _ dW ⟨c7,rfl,aQ⟩;have a6:=b4.nb aQ;have dM:=b4.BH aQ;refine BD rfl rfl (fun st=>Bt (n:=2) (l:=[I aO.Ck,I aO.Cl]) (Cm:= #[I aO.Ck,I aO.Cl]) (eR st) (eR st) Ie aQ.bk rfl rfl (show 0+2≤2 by decide) (AY rfl) rfl) ?_;rintro _ dX aR;have c8:=a6.gr aR.gr 0 rfl;refine wn<|Af ?_;have aI:=((aK.ext aQ.gr).gr aR.gr (a6.nq 1 0));replace a:=Bi a;obtain⟨i8,c9,dA,dB,dC,a⟩:=a;have x:=((aL.mv (Ay aQ)).mv (a6.By aR.gr 0 rfl));obtain⟨dD,dE,_,dF,rfl,dG⟩:=Sl.elem x (by decide) dB;have ⟨aB,aC,aD,aE,aF,aG⟩:=CA aY aZ a0 a2 a3 a4 (mt (Ay aQ) (a6.By aR.gr 0 rfl));replace a:=bind_some a;obtain⟨cN,dH,a⟩:=a;refine BW 13 [Kc (.agg (Ar f g i j m o p q r s d e c).toArray),Kc (.slice z aU.length aA),Kc (pt b1 6),Kc (.slice d c.AK.length e),Kc (I b),Kc (pt dD (dE+i8*3)),Kc (pt dD (dE+i8*3)),Kc (I c9.BY),Kc (I cN),Kc (pt c7 0),Kc (I aO.Ck),Kc (pt c7 1),Kc (I aO.Cl)] mixed rfl rfl
        (Aa (oD (fun K=>AO (l:=(Ar f g i j m o p q r s d e c)) DL (es ((K.out 2 rfl).trans t)) (aI.ext K.AV) rfl rfl))
        (Aa (oD (fun K=>AA (es ((K.out 1 rfl).trans aS))))
        (Aa (oD (fun K=>Ad (es ((K.out 2 rfl).trans t)) (Ii _ _)))
        (Aa (oD (fun K=>Ag I7 (es (K.dq 2 23)) (aI.ext K.AV) rfl))
        (Aa (oD (fun K=>AA (es ((K.out 6 rfl).trans u))))
        (Aa (oD (fun K=>BC (k:=i8) Tryz.underlying65 LQ (es (K.dq 3 24)) dF (es (K.dq 4 25)) dA dC))
        (Aa (oD (fun K=>Ad (es (K.dq 5 26)) (MV _ _ _)))
        (Aa (oD (fun K=>BF Bq (es (K.dq 6 27)) (dG.mv (Ac K.AV)) rfl))
        (Aa (oE (fun K=>(Ak RT rfl (DX (es (K.dq 0 21)) (es (K.dq 1 22)) (es (K.dq 7 28))) (a54 bZ c aU c9.BY f g i j m o p q r s d e z aA ZA _ (aB.mv (Ac K.AV)).all (aC.mv (Ac K.AV)).all (aD.mv (Ac K.AV)).all (aE.mv (Ac K.AV)).all (aF.mv (Ac K.AV)).all (x.mv (Ac K.AV)).all (aG.mv (Ac K.AV)).all cN dH)).mono (fun _ _ h=>⟨h.2,h.1⟩)))
        (Aa (oD (fun K=>Ad (K.kO 7) (I5 _ _)))
        (Aa (oD (fun K=>Ag Bq (es (K.dq 9 30)) (aR.bk.ext K.AV) rfl))
        (Aa (oD (fun K=>Ad (K.kO 7) (KO _ _)))
        (Aa (oD (fun K=>Ag Bq (es (K.dq 11 32)) (aR.bk.ext K.AV) rfl))
        (BR _)))))))))))))) ?_
    intro dY;rintro _ rfl _ rfl _ rfl _ rfl _ rfl _ rfl _ rfl _ rfl _ rfl _ rfl _ rfl _ rfl _ rfl aW;have dI:=c8.ext aW;replace a:=bind_some a;obtain⟨cI,cO,a⟩:=a;refine wE (fun st=>Ak Fs (eR st) (DX (eR st) (eR st) (eR st)) (Jr bZ cN aO.Ck aO.Cl ZA _ cI cO)) ?_;rintro _ dS ⟨aM,rfl⟩;have cJ:=dI.ext aM;refine wn ?_;rcases Ae (cI) with aN|aN
    ·replace a:=Am a aN;refine Ah rfl aN<|Ai<|wM (v:=I y) aT<|wM (v:=I b) u ?_;replace a:=Je a;obtain⟨cP,a⟩:=a;refine wD (fun st=>Kp (k:=.u64) MU Tryz.underlying91 (eR st) cP) ?_;replace a:=K4 a;obtain⟨cQ,a⟩:=a;refine wD (fun st=>OX (eR st) (eR st) cQ) ?_;replace a:=Nj a;obtain⟨cR,a⟩:=a;refine wD (fun st=>VF (eR st) (eR st) cR)<|wA (v:=I (Mf y (HZ (1:Int) b))) rfl<|Bc<|CG<|Ai<|wM (v:=I b) u ?_;replace a:=AJ a;obtain⟨cS,a⟩:=a;refine wD (fun st=>BK (eR st) (eR st) cS)<|wA (v:=I (b+1)) rfl<|Bc ?_;have dJ:=cJ.erase 0;have cE:=((aI.ext aW).ext aM);have ⟨bL,bM,bN,bO,bP,bQ,bR⟩:=FF aB aC aD aE aF x aG (mt (Ac aW) (mt (Ac aM) (AH 0)));refine Br cD (Nat.lt_succ_self _) (fun st=>?_);exact⟨(Mf y (HZ (1:Int) b)),(b+1),a,qo st,sp st 1 aS,sp st 2 t,sp st 5 rfl,sp st 6 rfl,dJ,cE,bL,bM,bN,bO,bP,bQ,bR⟩
    ·replace a:=An a aN;refine Ao rfl aN<|Ce<|CG<|Ai<|wM (v:=I b) u ?_;replace a:=AJ a;obtain⟨cT,a⟩:=a;refine wD (fun st=>BK (eR st) (eR st) cT)<|wA (v:=I (b+1)) rfl<|Bc ?_;have dK:=cJ.erase 0;have cF:=((aI.ext aW).ext aM);have ⟨bS,bT,bU,bV,bW,bX,bY⟩:=FF aB aC aD aE aF x aG (mt (Ac aW) (mt (Ac aM) (AH 0)));refine Br cD (Nat.lt_succ_self _) (fun st=>?_);exact⟨y,(b+1),a,qo st,sp st 1 aS,sp st 2 t,sp st 5 aT,sp st 6 rfl,dK,cF,bS,bT,bU,bV,bW,bX,bY⟩
   ·replace a:=An a aV;refine Ao rfl aV<|DA ?_;obtain rfl:=oi a;refine BG (fun st=>?_);exact⟨rfl,qo st,sp st 5 aT,b4⟩
 case cZ=>
  rintro cX dN dT (⟨rfl,cG,b5,cU⟩);refine lf cG<|Be<|BM<|cr<|wM (v:=I z2) b5<|wA (v:=I z2) rfl<|wn<|Ap ?_;obtain rfl:=oi a;refine Au rfl rfl ?_;exact⟨cU.AZ,rfl⟩
theorem a61 aM b e f g h i j l m n o c d(Z:Nat→Prop) w(q:Sl Ax w Z e f b.Aj)(r:Sl (Bx (Al .i64)) w Z g h b.Ab)(s:Sl AF w Z i j b.Aq)(t:Sl AT w Z l m b.AB)(u:Sl AW w Z n o b.AE)(x:Sl Bj w Z c d b.AK) aG(a:HL aM b=some aG):
 BN Tryz.prog 61 #[.agg (Ar e f g h i j l m n o c d b).toArray] w (fun v w'=>Ext w w'∧(Dk .i64).R w' (zf Z w []) v aG):=by
 unfold HL at a;refine rq (N:=9) Tryz.func61 fun aN ha aO=>?_;have z:=sA 0 ha;clear ha;have y:Hp FN [] w [] w:=Hp.start (Bw.none w);have ⟨aA,aB,aC,aD,aE,aF⟩:=CA q r s t u x (Bu (Z:=Z) (L:=[]) w);refine cr<|wE (fun st=>BL (v:=.agg (Ar e f g h i j l m n o c d b).toArray) (cs:=(Ar e f g h i j l m n o c d b).toArray) (ee st z) rfl) ?_;rintro _ w1 ⟨b1,rfl,p⟩;have aH:=y.nb p;have aL:=y.BH p;refine wA (v:=I 0) rfl<|wr<|wD (fun st=>Ad (eR st) (Ii _ _))<|wD (fun st=>Ag (v:=.slice c b.AK.length d) I7 (eR st) p.bk rfl)<|wD (fun st=>Bn Tryz.underlying65 (eR st)) ?_;replace a:=Je a;obtain⟨aI,a⟩:=a;refine wD (fun st=>Kp (k:=.u64) MU Tryz.underlying91 (eR st) aI) ?_;replace a:=K4 a;obtain⟨aJ,a⟩:=a;refine wD (fun st=>OX (eR st) (eR st) aJ) ?_;replace a:=AJ a;obtain⟨aK,a⟩:=a;refine wD (fun st=>Fi (eR st) (eR st) aK)<|wA (v:=I ((HZ (1:Int) (b.AK.length:Int))-1)) rfl<|wn<|Ap ?_;obtain rfl:=oi a;refine Au rfl rfl ?_;exact⟨aH.AZ,rfl⟩
theorem a53 bN c d f g i j m o p q r s t(Z:Nat→Prop) w(cQ:Sl Ax w Z d f c.Aj)(cR:Sl (Bx (Al .i64)) w Z g i c.Ab)(cS:Sl AF w Z j m c.Aq)(cT:Sl AT w Z o p c.AB)(cU:Sl AW w Z q r c.AE)(cV:Sl Bj w Z s t c.AK) dL(a:GY bN c=some dL):
 BN Tryz.prog 53 #[.agg (Ar d f g i j m o p q r s t c).toArray] w (fun v w'=>Ext w w'∧(FE (Bx (Al .i64))).R w' (zf Z w []) v dL):=by
 unfold GY at a;refine rq (N:=32) Tryz.func53 fun eB ha eC=>?_;have c8:=sA 0 ha;clear ha;have c2:Hp FN [] w [] w:=Hp.start (Bw.none w);have ⟨bO,bP,bQ,bR,bS,bT⟩:=CA cQ cR cS cT cU cV (Bu (Z:=Z) (L:=[]) w);refine cr<|wE (fun st=>BL (v:=.agg (Ar d f g i j m o p q r s t c).toArray) (cs:=(Ar d f g i j m o p q r s t c).toArray) (ee st c8) rfl) ?_;rintro _ w1 ⟨b1,rfl,a8⟩;have c3:=c2.nb a8;have d6:=c2.BH a8;refine wA (v:=.slice none 0 0) rfl<|wr<|wA (v:=.slice none 0 0) rfl<|wr<|wD (fun st=>Ad (eR st) (GJ _ _))<|wD (fun st=>AO (l:=[.slice d c.Aj.length f,.slice g c.Ab.length i,.slice j c.Aq.length m]) HN (eR st) a8.bk rfl rfl) ?_;have ⟨a9,bA,bB⟩:=Er bO bP bQ (Ay a8);replace a:=bind_some a;obtain⟨bE,dM,a⟩:=a;refine wE (fun st=>Ak UX (eR st) (Cd (eR st)) (a28 bN (⟨c.Aj,c.Ab,c.Aq⟩:Bh) d f g i j m (zf Z w [some b1]) _ a9 bA bB bE dM)) ?_;rintro _ d7 ⟨bM,⟨aD,aE,rfl,aW⟩⟩;have dN:=c3.ext bM;have aW:=aW.mv (c3.DQ (Nat.le_refl _));refine wA (v:=.slice aD bE.length aE) rfl<|wn<|Af<|cr<|wA (v:=I 0) rfl<|wn<|AI ?_;have dO:=dN.nil;have dP:Bp (Bx (Al .i64)) 31 w.heap.size d7 (zf Z w [none,some b1]) none 0 ([]:List (List Int)):=Bp.nil _ _ _ _ _;replace a:=bind_some a;obtain⟨z4,bC,a⟩:=a;refine BQ (fun dQ aS aL=>(dQ=.exit 0∧∃b u,Fo X0 32 aS∧sl aS 3=.slice b z4.length u∧Hp FN [] w [ob b,some b1] aL∧Bp (Bx (Al .i64)) 31 w.heap.size aL (zf Z w [ob b,some b1]) b u z4)) ?dR ?dS
 case dR=>
  clear a;refine BP (fun cW aS aL=>∃aB,∃n,∃y aF,DV bN c bE cW aB n=some z4∧Fo X0 32 aS∧sl aS 1=pt b1 0∧sl aS 3=.slice y aB.length aF∧sl aS 4=.slice aD bE.length aE∧sl aS 5=I n∧Hp FN [] w [ob y,some b1] aL∧(fun bH=>Bp (Bx (Al .i64)) 31 w.heap.size aL bH y aF aB∧Bk aL b1 67 (Ar d f g i j m o p q r s t c).toArray∧Sl Ax aL bH d f c.Aj∧Sl (Bx (Al .i64)) aL bH g i c.Ab∧Sl AF aL bH j m c.Aq∧Sl AT aL bH o p c.AB∧Sl AW aL bH q r c.AE∧Sl Bj aL bH s t c.AK∧Sl (Bx (Al .i64)) aL bH aD aE bE) (zf Z w [ob y,some b1])) bN ?dT ?dU
  case dT=>
   intro st;have cX:=(a8.bk.ext bM);have ⟨bU,bV,bW⟩:=Er a9 bA bB (mt (Ac bM) Bv);have ⟨bX,bY,bZ⟩:=Er bR bS bT (mt (Ay a8) (mt (Ac bM) Bv));have bJ:=(aW.mv Bv);exact⟨([]:List (List Int)),(0:Int),none,0,bC,qo st,sp st 1 rfl,sp st 3 rfl,sp st 4 rfl,sp st 5 rfl,dO,dP,cX,bU,bV,bW,bX,bY,bZ,bJ⟩
  case dU=>
   rintro(_|cW) eD eE ⟨aB,n,y,aF,bC,c9,aT,bF,aI,aJ,c4,aH,aK,aX,aY,aZ,a0,a2,a3,aC⟩
   ·exact absurd (show none=some _ from bC) (by simp)
   rw[DV.eq_2] at bC;have a:=bC;clear bC;refine ro c9<|Af<|cr<|wM (v:=I n) aJ<|wM (v:=.slice aD bE.length aE) aI<|wD (fun st=>Bn Tryz.underlying23 (eR st))<|wD (fun st=>B8 (eR st) (eR st))<|wn ?_;rcases Ae (decide (n<(bE.length:Int))) with bI|bI
   ·replace a:=Am a bI;refine Ah rfl bI<|cn<|Af<|AI<|Af ?_;replace a:=Bi a;obtain⟨i8,dV,dW,dX,dY,a⟩:=a;obtain⟨d8,d9,_,dZ,⟨cI,cJ,rfl,cY⟩,d0⟩:=Sl.CR aC rfl dX;replace a:=bind_some a;obtain⟨dA,d1,a⟩:=a;refine BW 7 [Kc (.agg (Ar d f g i j m o p q r s t c).toArray),Kc (.slice aD bE.length aE),Kc (I n),Kc (pt d8 (d9+i8)),Kc (.slice cI dV.length cJ),Kc (I dA),Kc (.agg (Ar d f g i j m o p q r s t c).toArray)] mixed rfl rfl
        (Aa (oD (fun K=>AO (l:=(Ar d f g i j m o p q r s t c)) DL (es ((K.out 1 rfl).trans aT)) (aK.ext K.AV) rfl rfl))
        (Aa (oD (fun K=>AA (es ((K.out 4 rfl).trans aI))))
        (Aa (oD (fun K=>AA (es ((K.out 5 rfl).trans aJ))))
        (Aa (oD (fun K=>BA (k:=i8) Tryz.underlying23 E8 (es (K.dq 1 16)) dZ (es (K.dq 2 17)) dW dY))
        (Aa (oD (fun K=>BF CU (es (K.dq 3 18)) (d0.mv (Ac K.AV)) rfl))
        (Aa (oE (fun K=>(Ak Zg rfl (Ci (es (K.dq 0 15)) (es (K.dq 4 19))) (Acg bN c dV d f g i j m o p q r s t cI cJ ZA _ (aX.mv (Ac K.AV)).all (aY.mv (Ac K.AV)).all (aZ.mv (Ac K.AV)).all (a0.mv (Ac K.AV)).all (a2.mv (Ac K.AV)).all (a3.mv (Ac K.AV)).all (cY.mv (Ac K.AV)).all dA d1)).mono (fun _ _ h=>⟨h.2,h.1⟩)))
        (Aa (oD (fun K=>AO (l:=(Ar d f g i j m o p q r s t c)) DL (es ((K.out 1 rfl).trans aT)) (aK.ext K.AV) rfl rfl))
        (BR _)))))))) ?_
    intro eN;rintro _ rfl _ rfl _ rfl _ rfl _ rfl _ rfl _ rfl aG;have d2:=c4.ext aG;have ⟨aM,aN,aO,aP,aQ,aR⟩:=CA aX aY aZ a0 a2 a3 (Ac aG);replace a:=bind_some a;obtain⟨c5,dB,a⟩:=a;refine wE (fun st=>Ak Aag (eR st) (Cd (eR st)) (a61 bN c d f g i j m o p q r s t ZA _ aM.all aN.all aO.all aP.all aQ.all aR.all c5 dB)) ?_;rintro _ eF ⟨x,rfl⟩;have cK:=d2.ext x;refine wD (fun st=>Dt (eR st) (eR st))<|wn ?_;rcases Ae (dA==c5) with a4|a4
    ·replace a:=Am a a4;refine Ah rfl a4<|Ai<|wM (v:=.slice y aB.length aF) bF<|wM (v:=.slice aD bE.length aE) aI<|wM (v:=I n) aJ ?_;replace a:=Bi a;obtain⟨i13,a5,dC,dD,dE,a⟩:=a;have z:=((aC.mv (Ac aG)).mv (Ac x));obtain⟨eG,eH,_,dF,⟨aU,aV,rfl,cL⟩,dG⟩:=Sl.CR z rfl dD;refine wD (fun st=>BA (k:=i13) Tryz.underlying23 E8 (eR st) dF (eR st) dC dE)<|wD (fun st=>BF (v:=.slice aU a5.length aV) CU (eR st) dG rfl)<|wE (fun st=>B1 (e:=31) (vs:= #[(0,.slice aU a5.length aV)]) (cs:= #[.slice aU a5.length aV]) (IP (eR st)) (by kernel_rfl)) ?_;rintro _ eI ⟨eJ,rfl,aA⟩;have bD:=cK.nb aA;have d3:=cK.BH aA;have b4:=(((aH.ext aG (Ac aG)).ext x (Ac x)).ext aA.gr (Ay aA));replace a:=B9 a;obtain⟨cM,a⟩:=a;have bK:=(cL.mv (Ay aA));refine wE (fun st=>IZ (ys:=[a5]) Tryz.underlying23 NW rfl rfl (by decide) (eR st) rfl (eR st) b4 (I0 (BJ:=[[.slice aU a5.length aV]]) aA.bk ⟨⟨_,_,rfl,bK⟩,trivial⟩ rfl) (by have:=cM;simp only[maxLen];omega) (by have:=cM;omega) bD.sz (by simp)) ?_;rintro _ eK ⟨c6,c7,rfl,a6,bG,dH⟩;have d4:=bD.row a6 1 rfl bG;have dI:=Ed dH (bD.CL a6 1 rfl (fun k hk=>(bG k hk).1));refine wA (v:=.slice c6 ((aB++[a5]).length) c7) rfl<|Bc<|CG<|Ai<|wM (v:=I n) aJ ?_;replace a:=AJ a;obtain⟨dJ,a⟩:=a;refine wD (fun st=>BK (eR st) (eR st) dJ)<|wA (v:=I (n+1)) rfl<|Bc ?_;have d5:=d4.erase 0;have cN:=(dI.up (AH 0));have cZ:=((((aK.ext aG).ext x).ext aA.gr).gr a6 (bD.nq 2 1));have ⟨b5,b6,b7,b8,b9,cA⟩:=CA aM aN aO aP aQ aR (mt (Ac x) (mt (Ay aA) (mt (bD.CL a6 1 rfl (fun k hk=>(bG k hk).1)) (AH 0))));have bL:=(((z.mv (Ay aA)).mv (bD.CL a6 1 rfl (fun k hk=>(bG k hk).1))).mv (AH 0));refine Br cW (Nat.lt_succ_self _) (fun st=>?_);exact⟨(aB++[a5]),(n+1),c6,c7,a,qo st,sp st 1 aT,sp st 3 rfl,sp st 4 aI,sp st 5 rfl,d5,cN,cZ,b5,b6,b7,b8,b9,cA,bL⟩
    ·replace a:=An a a4;refine Ao rfl a4<|Ce<|CG<|Ai<|wM (v:=I n) aJ ?_;replace a:=AJ a;obtain⟨dK,a⟩:=a;refine wD (fun st=>BK (eR st) (eR st) dK)<|wA (v:=I (n+1)) rfl<|Bc ?_;have cB:=((aH.ext aG (Ac aG)).ext x (Ac x));have c0:=((aK.ext aG).ext x);have ⟨cC,cD,cE,cF,cG,cH⟩:=CA aM aN aO aP aQ aR (Ac x);have z:=((aC.mv (Ac aG)).mv (Ac x));refine Br cW (Nat.lt_succ_self _) (fun st=>?_);exact⟨aB,(n+1),y,aF,a,qo st,sp st 1 aT,sp st 3 bF,sp st 4 aI,sp st 5 rfl,cK,cB,c0,cC,cD,cE,cF,cG,cH,z⟩
   ·replace a:=An a bI;refine Ao rfl bI<|DA ?_;obtain rfl:=oi a;refine BG (fun st=>?_);exact⟨rfl,y,aF,qo st,sp st 3 bF,c4,aH⟩
 case dS=>
  rintro dQ eA eM (⟨rfl,b,u,c1,cO,cP,a7⟩);refine lf c1<|Be<|BM<|cr<|wM (v:=.slice b z4.length u) cO<|wA (v:=.slice b z4.length u) rfl<|wn<|Ap ?_;obtain rfl:=oi a;refine Au rfl rfl ?_;exact⟨cP.AZ,⟨_,_,rfl,cP.Jz (M:=[]) 0 rfl [] rfl trivial a7⟩⟩
theorem a52 aG o r g i(Z:Nat→Prop) w(aV:Sl (Al .i64) w Z g i o) bZ(a:Gq aG o r=some bZ):
 BN Tryz.prog 52 #[.slice g o.length i,I r] w (fun v w'=>Ext w w'∧(Md (Dk .i64) BE).R w' (zf Z w []) v bZ):=by
 unfold Gq at a;refine rq (N:=47) Tryz.func52 fun cK ha cL=>?_;have aY:=sA 0 ha;have aZ:=sA 1 ha;clear ha;have b4:Hp FN [] w [] w:=Hp.start (Bw.none w);have aH:=aV.mv (Bu (Z:=Z) (L:=[]) w);refine cr<|wA (v:=I 0) rfl<|wA (v:=.bool false) rfl<|wr<|wA (v:=I 0) rfl<|wn<|Af<|cr<|wA (v:=I 0) rfl<|wn<|AI ?_;replace a:=bind_some a;obtain⟨a0,u,a⟩:=a;refine BQ (fun a2 m aJ=>(a2=.ret∧∃n,a0=.inl n∧Fo X0 47 m∧sl m 4=I n.1∧sl m 5=.bool n.2∧Hp FN [] w [] aJ)∨(a2=.exit 0∧∃n,a0=.inr n∧Fo X0 47 m∧sl m 6=I n∧Hp FN [] w [] aJ)) ?b5 ?b6
 case b5=>
  clear a;refine BP (fun aW m aJ=>∃l,∃b,Dm aG o r aW l b=some a0∧Fo X0 47 m∧sl m 0=.slice g o.length i∧sl m 1=I r∧sl m 6=I l∧sl m 7=I b∧Hp FN [] w [] aJ∧Sl (Al .i64) aJ (zf Z w []) g i o) aG ?b7 ?b8
  case b7=>
   intro st;exact⟨(0:Int),(0:Int),u,qo st,sp st 0 aY,sp st 1 aZ,sp st 6 rfl,sp st 7 rfl,b4,aH⟩
  case b8=>
   rintro(_|aW) cM cN ⟨l,b,u,a3,f,q,z,d,aD,j⟩
   ·exact absurd (show none=some _ from u) (by simp)
   rw[Dm.eq_2] at u;have a:=u;clear u;refine ro a3<|Af<|cr<|wM (v:=I b) d<|wM (v:=.slice g o.length i) f<|wD (fun st=>Bn Tryz.underlying31 (eR st))<|wD (fun st=>B8 (eR st) (eR st))<|wn ?_;rcases Ae (decide (b<(o.length:Int))) with aB|aB
   ·replace a:=Am a aB;refine Ah rfl aB<|cn<|Af<|AI<|Af<|Af ?_;replace a:=Bi a;obtain⟨i4,aI,aK,b9,aL,a⟩:=a;obtain⟨a4,a5,_,aM,rfl,aN⟩:=Sl.CR j rfl b9;replace a:=AJ a;obtain⟨aO,a⟩:=a;replace a:=bind_some a;obtain⟨p,aP,a⟩:=a;rcases Ae (!p) with e|e
    ·replace a:=Am a e;have cH:p=false:=by simpa using e
     refine BW 21 [Kc (.slice g o.length i),Kc (I b),Kc (pt a4 (a5+i4)),Kc (I aI),Kc (I r),Kc (I (r-1)),Kc (.bool p),Kc (.bool !p),Kc (.bool !p),Kc undef,Kc undef,Kc undef,Kc undef,Kc undef,Kc undef,Kc undef,Kc undef,Kc undef,Kc undef,Kc undef,Kc undef] mixed rfl rfl
         (Aa (oD (fun K=>AA (es ((K.out 0 rfl).trans f))))
         (Aa (oD (fun K=>AA (es ((K.out 7 rfl).trans d))))
         (Aa (oD (fun K=>BA (k:=i4) Tryz.underlying31 Dy (es (K.dq 0 14)) aM (es (K.dq 1 15)) aK aL))
         (Aa (oD (fun K=>BF Bq (es (K.dq 2 16)) (aN.mv (Ac K.AV)) rfl))
         (Aa (oD (fun K=>AA (es ((K.out 1 rfl).trans q))))
         (Aa (oD (fun K=>Fi (es (K.dq 4 18)) (ec (v:=I 1)) aO))
         (Aa (oE (fun K=>(Ak Fs rfl (DX (es (K.dq 3 17)) (ec (v:=I 0)) (es (K.dq 5 19))) (Jr aG aI 0 (r-1) ZA _ p aP)).mono (fun _ _ h=>⟨h.2,h.1⟩)))
         (Aa (oD (fun K=>Ca (es (K.dq 6 20))))
         (Aa (oD (fun K=>AA (es (K.dq 7 21))))
         (Aa (oT e)
         (Aa (oT e)
         (Aa (oT e)
         (Aa (oU)
         (Aa (oU)
         (Aa (oU)
         (Aa (oU)
         (Aa (oU)
         (Aa (oU)
         (Aa (oU)
         (Aa (oU)
         (Aa (oU)
         (BR _)))))))))))))))))))))) ?_
     intro cA;rintro _ rfl _ rfl _ rfl _ rfl _ rfl _ rfl _ rfl _ rfl _ rfl _ rfl _ rfl _ rfl _ rfl _ rfl _ rfl _ rfl _ rfl _ rfl _ rfl _ rfl _ rfl s;have cB:=aD.ext s;refine E9 rfl rfl rfl rfl (by decide)<|wF e<|wD (fun st=>AR (v:=.bool true) (eR st) e (eR st))<|wn<|Ah rfl rfl<|cr<|wA (v:=I 0) rfl<|wA (v:=.bool false) rfl<|wn<|Ap<|AG<|CO<|AG ?_;obtain rfl:=oi a;refine BG (fun st=>?_);exact .inl ⟨rfl,((0:Int),false),rfl,qo st,sp st 4 rfl,sp st 5 rfl,cB⟩
    ·replace a:=An a e;have cI:p=true:=by simpa using e
     rcases Ae (decide ((0:Int)<b)) with c|c
     ·replace a:=Am a c;replace a:=Bi a;obtain⟨i11,aE,a6,a7,a8,a⟩:=a;obtain⟨cC,cD,_,a9,rfl,bA⟩:=Sl.CR j rfl a7;replace a:=AJ a;obtain⟨bB,a⟩:=a;replace a:=Bi a;obtain⟨i13,aF,bC,bD,bE,a⟩:=a;obtain⟨cE,cF,_,bF,rfl,bG⟩:=Sl.CR j rfl bD;refine BW 21 [Kc (.slice g o.length i),Kc (I b),Kc (pt a4 (a5+i4)),Kc (I aI),Kc (I r),Kc (I (r-1)),Kc (.bool p),Kc (.bool !p),Kc (.bool !p),Kc (I b),Kc (.bool (decide ((0:Int)<b))),Kc (.bool (decide ((0:Int)<b))),Kc (.slice g o.length i),Kc (I b),Kc (pt cC (cD+i11)),Kc (I aE),Kc (.slice g o.length i),Kc (I b),Kc (I (b-1)),Kc (pt cE (cF+i13)),Kc (I aF)] mixed rfl rfl
          (Aa (oD (fun K=>AA (es ((K.out 0 rfl).trans f))))
          (Aa (oD (fun K=>AA (es ((K.out 7 rfl).trans d))))
          (Aa (oD (fun K=>BA (k:=i4) Tryz.underlying31 Dy (es (K.dq 0 14)) aM (es (K.dq 1 15)) aK aL))
          (Aa (oD (fun K=>BF Bq (es (K.dq 2 16)) (aN.mv (Ac K.AV)) rfl))
          (Aa (oD (fun K=>AA (es ((K.out 1 rfl).trans q))))
          (Aa (oD (fun K=>Fi (es (K.dq 4 18)) (ec (v:=I 1)) aO))
          (Aa (oE (fun K=>(Ak Fs rfl (DX (es (K.dq 3 17)) (ec (v:=I 0)) (es (K.dq 5 19))) (Jr aG aI 0 (r-1) ZA _ p aP)).mono (fun _ _ h=>⟨h.2,h.1⟩)))
          (Aa (oD (fun K=>Ca (es (K.dq 6 20))))
          (Aa (oD (fun K=>AA (es (K.dq 7 21))))
          (Aa (oG e (fun K=>AA (es ((K.out 7 rfl).trans d))))
          (Aa (oG e (fun K=>Fj (es (K.dq 9 23)) (ec (v:=I 0))))
          (Aa (oG e (fun K=>AA (es (K.dq 10 24))))
          (Aa (oG c (fun K=>AA (es ((K.out 0 rfl).trans f))))
          (Aa (oG c (fun K=>AA (es ((K.out 7 rfl).trans d))))
          (Aa (oG c (fun K=>BA (k:=i11) Tryz.underlying31 Dy (es (K.dq 12 26)) a9 (es (K.dq 13 27)) a6 a8))
          (Aa (oG c (fun K=>BF Bq (es (K.dq 14 28)) (bA.mv (Ac K.AV)) rfl))
          (Aa (oG c (fun K=>AA (es ((K.out 0 rfl).trans f))))
          (Aa (oG c (fun K=>AA (es ((K.out 7 rfl).trans d))))
          (Aa (oG c (fun K=>Fi (es (K.dq 17 31)) (ec (v:=I 1)) bB))
          (Aa (oG c (fun K=>BA (k:=i13) Tryz.underlying31 Dy (es (K.dq 16 30)) bF (es (K.dq 18 32)) bC bE))
          (Aa (oG c (fun K=>BF Bq (es (K.dq 19 33)) (bG.mv (Ac K.AV)) rfl))
          (BR _)))))))))))))))))))))) ?_
      intro cA;rintro _ rfl _ rfl _ rfl _ rfl _ rfl _ rfl _ rfl _ rfl _ rfl _ rfl _ rfl _ rfl _ rfl _ rfl _ rfl _ rfl _ rfl _ rfl _ rfl _ rfl _ rfl s;have aX:=aD.ext s;refine wG c (fun st=>HS (eR st) (eR st))<|wG e (fun st=>AR (v:=.bool (decide (aE≤aF))) (eR st) c (eR st))<|wD (fun st=>Bg (v:=.bool (decide (aE≤aF))) (eR st) e (eR st))<|wn ?_;rcases Ae (decide (aE≤aF)) with t|t
      ·replace a:=Am a t;refine Ah rfl t<|cr<|wA (v:=I 0) rfl<|wA (v:=.bool false) rfl<|wn<|Ap<|AG<|CO<|AG ?_;obtain rfl:=oi a;refine BG (fun st=>?_);exact .inl ⟨rfl,((0:Int),false),rfl,qo st,sp st 4 rfl,sp st 5 rfl,aX⟩
      ·replace a:=An a t;refine Ao rfl t<|cn<|Ai<|wM (v:=I l) z<|wM (v:=.slice g o.length i) f<|wM (v:=I b) d ?_;replace a:=Bi a;obtain⟨i15,aQ,bH,bI,bJ,a⟩:=a;have x:=(j.mv (Ac s));obtain⟨cO,cP,_,bK,rfl,bL⟩:=Sl.CR x rfl bI;refine wD (fun st=>BA (k:=i15) Tryz.underlying31 Dy (eR st) bK (eR st) bH bJ)<|wD (fun st=>BF (v:=I aQ) Bq (eR st) bL rfl) ?_;replace a:=Je a;obtain⟨bM,a⟩:=a;refine wD (fun st=>Kp (k:=.u64) MU Tryz.underlying91 (eR st) bM) ?_;replace a:=K4 a;obtain⟨bN,a⟩:=a;refine wD (fun st=>OX (eR st) (eR st) bN) ?_;replace a:=Nj a;obtain⟨bO,a⟩:=a;refine wD (fun st=>VF (eR st) (eR st) bO)<|wA (v:=I (Mf l (HZ (1:Int) aQ))) rfl<|Bc<|CG<|Ai<|wM (v:=I b) d ?_;replace a:=AJ a;obtain⟨bP,a⟩:=a;refine wD (fun st=>BK (eR st) (eR st) bP)<|wA (v:=I (b+1)) rfl<|Bc ?_;refine Br aW (Nat.lt_succ_self _) (fun st=>?_);exact⟨(Mf l (HZ (1:Int) aQ)),(b+1),a,qo st,sp st 0 f,sp st 1 q,sp st 6 rfl,sp st 7 rfl,aX,x⟩
     ·replace a:=An a c;refine BW 21 [Kc (.slice g o.length i),Kc (I b),Kc (pt a4 (a5+i4)),Kc (I aI),Kc (I r),Kc (I (r-1)),Kc (.bool p),Kc (.bool !p),Kc (.bool !p),Kc (I b),Kc (.bool (decide ((0:Int)<b))),Kc (.bool (decide ((0:Int)<b))),Kc undef,Kc undef,Kc undef,Kc undef,Kc undef,Kc undef,Kc undef,Kc undef,Kc undef] mixed rfl rfl
          (Aa (oD (fun K=>AA (es ((K.out 0 rfl).trans f))))
          (Aa (oD (fun K=>AA (es ((K.out 7 rfl).trans d))))
          (Aa (oD (fun K=>BA (k:=i4) Tryz.underlying31 Dy (es (K.dq 0 14)) aM (es (K.dq 1 15)) aK aL))
          (Aa (oD (fun K=>BF Bq (es (K.dq 2 16)) (aN.mv (Ac K.AV)) rfl))
          (Aa (oD (fun K=>AA (es ((K.out 1 rfl).trans q))))
          (Aa (oD (fun K=>Fi (es (K.dq 4 18)) (ec (v:=I 1)) aO))
          (Aa (oE (fun K=>(Ak Fs rfl (DX (es (K.dq 3 17)) (ec (v:=I 0)) (es (K.dq 5 19))) (Jr aG aI 0 (r-1) ZA _ p aP)).mono (fun _ _ h=>⟨h.2,h.1⟩)))
          (Aa (oD (fun K=>Ca (es (K.dq 6 20))))
          (Aa (oD (fun K=>AA (es (K.dq 7 21))))
          (Aa (oG e (fun K=>AA (es ((K.out 7 rfl).trans d))))
          (Aa (oG e (fun K=>Fj (es (K.dq 9 23)) (ec (v:=I 0))))
          (Aa (oG e (fun K=>AA (es (K.dq 10 24))))
          (Aa (oT c)
          (Aa (oT c)
          (Aa (oT c)
          (Aa (oT c)
          (Aa (oT c)
          (Aa (oT c)
          (Aa (oT c)
          (Aa (oT c)
          (Aa (oT c)
          (BR _)))))))))))))))))))))) ?_
      intro cA;rintro _ rfl _ rfl _ rfl _ rfl _ rfl _ rfl _ rfl _ rfl _ rfl _ rfl _ rfl _ rfl _ rfl _ rfl _ rfl _ rfl _ rfl _ rfl _ rfl _ rfl _ rfl s;have cG:=aD.ext s;refine wF c<|wG e (fun st=>Bg (v:=.bool false) (eR st) c (eR st))<|wD (fun st=>Bg (v:=.bool false) (eR st) e (eR st))<|wn<|Ao rfl rfl<|cn<|Ai<|wM (v:=I l) z<|wM (v:=.slice g o.length i) f<|wM (v:=I b) d ?_;replace a:=Bi a;obtain⟨i20,aR,bQ,bR,bS,a⟩:=a;have y:=(j.mv (Ac s));obtain⟨cQ,cR,_,bT,rfl,bU⟩:=Sl.CR y rfl bR;refine wD (fun st=>BA (k:=i20) Tryz.underlying31 Dy (eR st) bT (eR st) bQ bS)<|wD (fun st=>BF (v:=I aR) Bq (eR st) bU rfl) ?_;replace a:=Je a;obtain⟨bV,a⟩:=a;refine wD (fun st=>Kp (k:=.u64) MU Tryz.underlying91 (eR st) bV) ?_;replace a:=K4 a;obtain⟨bW,a⟩:=a;refine wD (fun st=>OX (eR st) (eR st) bW) ?_;replace a:=Nj a;obtain⟨bX,a⟩:=a;refine wD (fun st=>VF (eR st) (eR st) bX)<|wA (v:=I (Mf l (HZ (1:Int) aR))) rfl<|Bc<|CG<|Ai<|wM (v:=I b) d ?_;replace a:=AJ a;obtain⟨bY,a⟩:=a;refine wD (fun st=>BK (eR st) (eR st) bY)<|wA (v:=I (b+1)) rfl<|Bc ?_;refine Br aW (Nat.lt_succ_self _) (fun st=>?_);exact⟨(Mf l (HZ (1:Int) aR)),(b+1),a,qo st,sp st 0 f,sp st 1 q,sp st 6 rfl,sp st 7 rfl,cG,y⟩
   ·replace a:=An a aB;refine Ao rfl aB<|DA ?_;obtain rfl:=oi a;refine BG (fun st=>?_);exact .inr ⟨rfl,l,rfl,qo st,sp st 6 z,aD⟩
 case b6=>
  rintro a2 cJ cS (⟨rfl,n,rfl,aA,aS,aT,aC⟩|⟨rfl,n,rfl,aA,aU,aC⟩)
  ·skip
   replace a:=CM a;refine lf aA<|CO ?_;obtain rfl:=oi a;refine C0 rfl aS aT ?_;exact⟨aC.AZ,⟨_,_,rfl,rfl,rfl⟩⟩
  ·skip
   replace a:=CN a;refine lf aA<|Be<|BM<|cr<|wM (v:=I n) aU<|wA (v:=I n) rfl<|wA (v:=.bool true) rfl<|wn<|Ap ?_;obtain rfl:=oi a;refine C0 rfl rfl rfl ?_;exact⟨aC.AZ,⟨_,_,rfl,rfl,rfl⟩⟩
set_option maxHeartbeats 4000000 in
theorem a116 aS b aF aG aA aB aH aI o p s t u x(Z:Nat→Prop) w(fS:Sl Ax w Z aF aG b.Aj)(fT:Sl (Bx (Al .i64)) w Z aA aB b.Ab)(fU:Sl AF w Z aH aI b.Aq)(fV:Sl AT w Z o p b.AB)(fW:Sl AW w Z s t b.AE)(fX:Sl Bj w Z u x b.AK) h5(a:Hl aS b=some h5):
 BN Tryz.prog 116 #[.agg (Ar aF aG aA aB aH aI o p s t u x b).toArray] w (fun v w'=>Ext w w'∧(Dk .i64).R w' (zf Z w []) v h5):=by
 unfold Hl at a;refine rq (N:=149) Tryz.func116 fun iS ha iT=>?_;have f5:=sA 0 ha;clear ha;have f1:Hp FN [] w [] w:=Hp.start (Bw.none w);have ⟨eE,eF,eG,eH,eI,eJ⟩:=CA fS fT fU fV fW fX (Bu (Z:=Z) (L:=[]) w);refine cr<|wE (fun st=>BL (v:=.agg (Ar aF aG aA aB aH aI o p s t u x b).toArray) (cs:=(Ar aF aG aA aB aH aI o p s t u x b).toArray) (ee st f5) rfl) ?_;rintro _ w1 ⟨b1,rfl,cE⟩;have h6:=f1.nb cE;have iF:=f1.BH cE;refine wA (v:=I 0) rfl<|wn<|Af<|cr<|wD (fun st=>Ad (eR st) (GJ _ _))<|wD (fun st=>AO (l:=[.slice aF b.Aj.length aG,.slice aA b.Ab.length aB,.slice aH b.Aq.length aI]) HN (eR st) cE.bk rfl rfl) ?_;have ⟨cF,cG,cH⟩:=Er eE eF eG (Ay cE);replace a:=bind_some a;obtain⟨eK,h7,a⟩:=a;refine wE (fun st=>Ak UY (eR st) (Cd (eR st)) (a24 aS (⟨b.Aj,b.Ab,b.Aq⟩:Bh) aF aG aA aB aH aI ZA _ cF.all cG.all cH.all eK h7)) ?_;rintro _ i4 ⟨d1,rfl⟩;have cN:=h6.ext d1;refine wA (v:=I eK) rfl<|wr<|wM (v:=I eK) rfl<|wD (fun st=>Cx (eR st) (eR st))<|wn ?_;rcases Ae (eK !=0) with cO|cO
 ·replace a:=Am a cO;refine Ah rfl cO<|cr<|wM (v:=I eK) rfl<|wA (v:=I eK) rfl<|wn<|Ap<|AG ?_;obtain rfl:=oi a;refine Au rfl rfl ?_;exact⟨cN.AZ,rfl⟩
 ·replace a:=An a cO;refine Ao rfl cO<|cn<|Af<|cr<|wD (fun st=>Ad (eR st) (GK _ _)) ?_;have bE:=(cE.bk.ext d1);refine wD (fun st=>Ag (v:=.slice o b.AB.length p) HO (eR st) bE rfl)<|wD (fun st=>Bn Tryz.underlying63 (eR st))<|wD (fun st=>Fj (eR st) (eR st))<|wM (v:=.bool (decide ((3:Int)<(b.AB.length:Int)))) rfl ?_;rcases Ae (decide ((3:Int)<(b.AB.length:Int))) with aV|aV
  ·replace a:=Am a aV;refine wF aV<|wF aV<|wF aV<|wF aV<|wD (fun st=>AR (v:=.bool true) (eR st) aV (eR st))<|wM (v:=.bool true) rfl<|wH<|wH<|wH<|wH<|wD (fun st=>AR (v:=.bool true) (eR st) rfl (eR st))<|wn<|Ah rfl rfl<|cr<|wA (v:=I 3) rfl<|wn<|Ap<|AG ?_;obtain rfl:=oi a;refine Au rfl rfl ?_;exact⟨cN.AZ,rfl⟩
  ·replace a:=An a aV;refine wG aV (fun st=>Ad (eR st) (Ij _ _))<|wG aV (fun st=>Ag (v:=.slice s b.AE.length t) I8 (eR st) bE rfl)<|wG aV (fun st=>Bn Tryz.underlying64 (eR st))<|wG aV (fun st=>Fj (eR st) (eR st))<|wD (fun st=>Bg (v:=.bool (decide ((3:Int)<(b.AE.length:Int)))) (eR st) aV (eR st))<|wM (v:=.bool (decide ((3:Int)<(b.AE.length:Int)))) rfl ?_;rcases Ae (decide ((3:Int)<(b.AE.length:Int))) with aW|aW
   ·replace a:=Am a aW;refine wF aW<|wF aW<|wF aW<|wF aW<|wD (fun st=>AR (v:=.bool true) (eR st) aW (eR st))<|wn<|Ah rfl rfl<|cr<|wA (v:=I 3) rfl<|wn<|Ap<|AG ?_;obtain rfl:=oi a;refine Au rfl rfl ?_;exact⟨cN.AZ,rfl⟩
   ·replace a:=An a aW;refine wG aW (fun st=>Ad (eR st) (Ii _ _))<|wG aW (fun st=>Ag (v:=.slice u b.AK.length x) I7 (eR st) bE rfl)<|wG aW (fun st=>Bn Tryz.underlying65 (eR st))<|wG aW (fun st=>Fj (eR st) (eR st))<|wD (fun st=>Bg (v:=.bool (decide ((5:Int)<(b.AK.length:Int)))) (eR st) aW (eR st))<|wn ?_;rcases Ae (decide ((5:Int)<(b.AK.length:Int))) with cP|cP
    ·replace a:=Am a cP;refine Ah rfl cP<|cr<|wA (v:=I 3) rfl<|wn<|Ap<|AG ?_;obtain rfl:=oi a;refine Au rfl rfl ?_;exact⟨cN.AZ,rfl⟩
    ·replace a:=An a cP;refine Ao rfl cP<|cn<|Af<|cr<|wD (fun st=>Ad (eR st) (PZ _ _))<|wD (fun st=>Ag (v:=I b.Flat) Bq (eR st) bE rfl) ?_;replace a:=bind_some a;obtain⟨e0,h8,a⟩:=a;refine wE (fun st=>Ak Fs (eR st) (DX (eR st) (eR st) (eR st)) (Jr aS b.Flat 0 100 ZA _ e0 h8)) ?_;rintro _ i5 ⟨d2,rfl⟩;have e1:=cN.ext d2;refine wD (fun st=>Ca (eR st))<|wM (v:=.bool !e0) rfl ?_;rcases Ae (!e0) with aK|aK
     ·replace a:=Am a aK;have hO:e0=false:=by simpa using aK
      refine wF aK<|wF aK<|wF aK<|wF aK<|wD (fun st=>AR (v:=.bool true) (eR st) aK (eR st))<|wn<|Ah rfl rfl<|cr<|wA (v:=I 1) rfl<|wn<|Ap<|AG ?_;obtain rfl:=oi a;refine Au rfl rfl ?_;exact⟨e1.AZ,rfl⟩
     ·replace a:=An a aK;have hP:e0=true:=by simpa using aK
      refine wG aK (fun st=>Ad (eR st) (GK _ _)) ?_;have d3:=(bE.ext d2);refine wG aK (fun st=>Ag (v:=.slice o b.AB.length p) HO (eR st) d3 rfl)<|wG aK (fun st=>Bn Tryz.underlying63 (eR st))<|wG aK (fun st=>Dt (eR st) (eR st))<|wD (fun st=>Bg (v:=.bool ((b.AB.length:Int)==0)) (eR st) aK (eR st))<|wn ?_;rcases Ae ((b.AB.length:Int)==0) with bV|bV
      ·replace a:=Am a bV;refine Ah rfl bV<|cr<|wA (v:=I 1) rfl<|wn<|Ap<|AG ?_;obtain rfl:=oi a;refine Au rfl rfl ?_;exact⟨e1.AZ,rfl⟩
      ·replace a:=An a bV;refine Ao rfl bV<|cn<|Af<|cr<|wA (v:=I 0) rfl<|wn<|AI ?_;replace a:=bind_some a;obtain⟨e2,bF,a⟩:=a;refine BQ (fun bW z m=>(bW=.ret∧∃bG,e2=.inl bG∧Fo X0 149 z∧sl z 2=I bG∧Hp FN [] w [some b1] m)∨(bW=.exit 0∧∃bG,e2=.inr bG∧Fo X0 149 z∧sl z 1=pt b1 0∧Hp FN [] w [some b1] m∧Bk m b1 67 (Ar aF aG aA aB aH aI o p s t u x b).toArray∧(fun aE=>Sl Ax m aE aF aG b.Aj∧Sl (Bx (Al .i64)) m aE aA aB b.Ab∧Sl AF m aE aH aI b.Aq∧Sl AT m aE o p b.AB∧Sl AW m aE s t b.AE∧Sl Bj m aE u x b.AK) (zf Z w [some b1]))) ?f6 ?f7
       case f6=>
        clear a;refine BP (fun bT z m=>∃e,DW aS b bT e=some e2∧Fo X0 149 z∧sl z 1=pt b1 0∧sl z 4=I e∧Hp FN [] w [some b1] m∧Bk m b1 67 (Ar aF aG aA aB aH aI o p s t u x b).toArray∧(fun aE=>Sl Ax m aE aF aG b.Aj∧Sl (Bx (Al .i64)) m aE aA aB b.Ab∧Sl AF m aE aH aI b.Aq∧Sl AT m aE o p b.AB∧Sl AW m aE s t b.AE∧Sl Bj m aE u x b.AK) (zf Z w [some b1])) aS ?f8 ?f9
        case f8=>
         intro st;have ⟨eM,eN,eO⟩:=Er cF cG cH (mt (Ac d1) (Ac d2));have ⟨eP,eQ,eS⟩:=Er eH eI eJ (mt (Ay cE) (mt (Ac d1) (Ac d2)));exact⟨(0:Int),bF,qo st,sp st 1 rfl,sp st 4 rfl,e1,d3,eM,eN,eO,eP,eQ,eS⟩
        case f9=>
         rintro(_|bT) iJ iK ⟨e,bF,fY,aQ,aJ,e3,aX,a0,a2,a3,aU,a4,a5⟩
         ·exact absurd (show none=some _ from bF) (by simp)
         rw[DW.eq_2] at bF;have a:=bF;clear bF;refine ro fY<|Af<|cr<|wM (v:=I e) aJ<|wD (fun st=>Ad (ee st aQ) (GK _ _))<|wD (fun st=>Ag (v:=.slice o b.AB.length p) HO (eR st) aX rfl)<|wD (fun st=>Bn Tryz.underlying63 (eR st))<|wD (fun st=>B8 (eR st) (eR st))<|wn ?_;rcases Ae (decide (e<(b.AB.length:Int))) with bX|bX
         ·replace a:=Am a bX;refine Ah rfl bX<|cn<|Af<|AI<|cr<|wD (fun st=>Ad (ee st aQ) (GK _ _))<|wD (fun st=>Ag (v:=.slice o b.AB.length p) HO (eR st) aX rfl)<|wM (v:=I e) aJ ?_;replace a:=Bi a;obtain⟨i16,g,gA,gB,gC,a⟩:=a;obtain⟨iU,iV,_,gD,rfl,gE⟩:=Sl.elem aU (by decide) gB;refine wD (fun st=>BC (k:=i16) Tryz.underlying63 J7 (eR st) gD (eR st) gA gC)<|wD (fun st=>Cv (l:=[I g.Bd,I g.B3]) Zh (eR st) gE rfl rfl)<|wE (fun st=>BZ (cs:= #[I 0,I 0]) Wj rfl) ?_;rintro _ iW ⟨aZ,rfl,aY⟩;have bY:=e3.nb aY;have h9:=e3.BH aY;refine BD rfl rfl (fun st=>Bt (n:=2) (l:=[I g.Bd,I g.B3]) (Cm:= #[I g.Bd,I g.B3]) (eR st) (eR st) J7 aY.bk rfl rfl (show 0+2≤2 by decide) (AY rfl) rfl) ?_;rintro _ iX y;have cQ:=bY.gr y.gr 0 rfl;refine wn<|Af ?_;replace a:=bind_some a;obtain⟨aC,bZ,a⟩:=a;rcases Ae (!aC) with f|f
          ·replace a:=Am a f;have hQ:aC=false:=by simpa using f
           refine BW 34 [Kc (pt aZ 0),Kc (I g.Bd),Kc (.bool aC),Kc (.bool !aC),Kc (.bool !aC),Kc undef,Kc undef,Kc undef,Kc undef,Kc (.bool true),Kc (.bool true),Kc undef,Kc undef,Kc undef,Kc undef,Kc undef,Kc undef,Kc undef,Kc undef,Kc undef,Kc undef,Kc undef,Kc undef,Kc undef,Kc undef,Kc undef,Kc undef,Kc undef,Kc undef,Kc undef,Kc undef,Kc undef,Kc undef,Kc undef] mixed rfl rfl
               (Aa (oD (fun K=>Ad (K.kO 5) (Kj _ _)))
               (Aa (oD (fun K=>Ag Bq (es (K.dq 0 52)) (y.bk.ext K.AV) rfl))
               (Aa (oE (fun K=>(Ak Fs rfl (DX (es (K.dq 1 53)) (ec (v:=I 0)) (ec (v:=I 100))) (Jr aS g.Bd 0 100 ZA _ aC bZ)).mono (fun _ _ h=>⟨h.2,h.1⟩)))
               (Aa (oD (fun K=>Ca (es (K.dq 2 54))))
               (Aa (oD (fun K=>AA (es (K.dq 3 55))))
               (Aa (oT f)
               (Aa (oT f)
               (Aa (oT f)
               (Aa (oT f)
               (Aa (oD (fun K=>AR (es (K.dq 4 56)) f (ec (v:=.bool true))))
               (Aa (oD (fun K=>AA (es (K.dq 9 61))))
               (Aa (oS (c:=true) (fun a' w' ph K=>(show sl a' 62=.bool true from K.dq 10 62)))
               (Aa (oS (c:=true) (fun a' w' ph K=>(show sl a' 62=.bool true from K.dq 10 62)))
               (Aa (oS (c:=true) (fun a' w' ph K=>(show sl a' 62=.bool true from K.dq 10 62)))
               (Aa (oU)
               (Aa (oU)
               (Aa (oU)
               (Aa (oU)
               (Aa (oU)
               (Aa (oU)
               (Aa (oU)
               (Aa (oU)
               (Aa (oU)
               (Aa (oU)
               (Aa (oU)
               (Aa (oU)
               (Aa (oU)
               (Aa (oU)
               (Aa (oU)
               (Aa (oU)
               (Aa (oU)
               (Aa (oU)
               (Aa (oU)
               (Aa (oU)
               (BR _))))))))))))))))))))))))))))))))))) ?_
           intro d4;rintro _ rfl _ rfl _ rfl _ rfl _ rfl _ rfl _ rfl _ rfl _ rfl _ rfl _ rfl _ rfl _ rfl _ rfl _ rfl _ rfl _ rfl _ rfl _ rfl _ rfl _ rfl _ rfl _ rfl _ rfl _ rfl _ rfl _ rfl _ rfl _ rfl _ rfl _ rfl _ rfl _ rfl _ rfl aL;have iA:=cQ.ext aL;refine E9 rfl rfl rfl rfl (by decide)<|E9 rfl rfl rfl rfl (by decide)<|wH<|wD (fun st=>AR (v:=.bool true) (eR st) rfl (eR st))<|wn<|Ah rfl rfl<|cr<|wA (v:=I 1) rfl<|wn<|Ap<|CO<|AG ?_;have iB:=iA.erase 0;obtain rfl:=oi a;refine BG (fun st=>?_);exact .inl ⟨rfl,(1:Int),rfl,qo st,sp st 2 rfl,iB⟩
          ·replace a:=An a f;have hR:aC=true:=by simpa using f
           replace a:=bind_some a;obtain⟨aD,cI,a⟩:=a;rcases Ae (!aD) with i|i
           ·replace a:=Am a i;have hS:aD=false:=by simpa using i
            refine BW 34 [Kc (pt aZ 0),Kc (I g.Bd),Kc (.bool aC),Kc (.bool !aC),Kc (.bool !aC),Kc (pt aZ 1),Kc (I g.B3),Kc (.bool aD),Kc (.bool !aD),Kc (.bool !aD),Kc (.bool !aD),Kc undef,Kc undef,Kc undef,Kc undef,Kc undef,Kc undef,Kc undef,Kc undef,Kc undef,Kc undef,Kc undef,Kc undef,Kc undef,Kc undef,Kc undef,Kc undef,Kc undef,Kc undef,Kc undef,Kc undef,Kc undef,Kc undef,Kc undef] mixed rfl rfl
                (Aa (oD (fun K=>Ad (K.kO 5) (Kj _ _)))
                (Aa (oD (fun K=>Ag Bq (es (K.dq 0 52)) (y.bk.ext K.AV) rfl))
                (Aa (oE (fun K=>(Ak Fs rfl (DX (es (K.dq 1 53)) (ec (v:=I 0)) (ec (v:=I 100))) (Jr aS g.Bd 0 100 ZA _ aC bZ)).mono (fun _ _ h=>⟨h.2,h.1⟩)))
                (Aa (oD (fun K=>Ca (es (K.dq 2 54))))
                (Aa (oD (fun K=>AA (es (K.dq 3 55))))
                (Aa (oG f (fun K=>Ad (K.kO 5) (LS _ _)))
                (Aa (oG f (fun K=>Ag Bq (es (K.dq 5 57)) (y.bk.ext K.AV) rfl))
                (Aa (oX f (fun K=>(Ak Fs rfl (DX (es (K.dq 6 58)) (ec (v:=I 0)) (ec (v:=I 100))) (Jr aS g.B3 0 100 ZA _ aD cI)).mono (fun _ _ h=>⟨h.2,h.1⟩)))
                (Aa (oG f (fun K=>Ca (es (K.dq 7 59))))
                (Aa (oD (fun K=>Bg (es (K.dq 4 56)) f (es (K.dq 8 60))))
                (Aa (oD (fun K=>AA (es (K.dq 9 61))))
                (Aa (oT i)
                (Aa (oT i)
                (Aa (oT i)
                (Aa (oU)
                (Aa (oU)
                (Aa (oU)
                (Aa (oU)
                (Aa (oU)
                (Aa (oU)
                (Aa (oU)
                (Aa (oU)
                (Aa (oU)
                (Aa (oU)
                (Aa (oU)
                (Aa (oU)
                (Aa (oU)
                (Aa (oU)
                (Aa (oU)
                (Aa (oU)
                (Aa (oU)
                (Aa (oU)
                (Aa (oU)
                (Aa (oU)
                (BR _))))))))))))))))))))))))))))))))))) ?_
            intro d4;rintro _ rfl _ rfl _ rfl _ rfl _ rfl _ rfl _ rfl _ rfl _ rfl _ rfl _ rfl _ rfl _ rfl _ rfl _ rfl _ rfl _ rfl _ rfl _ rfl _ rfl _ rfl _ rfl _ rfl _ rfl _ rfl _ rfl _ rfl _ rfl _ rfl _ rfl _ rfl _ rfl _ rfl _ rfl aL;have iC:=cQ.ext aL;refine E9 rfl rfl rfl rfl (by decide)<|E9 rfl rfl rfl rfl (by decide)<|wF i<|wD (fun st=>AR (v:=.bool true) (eR st) i (eR st))<|wn<|Ah rfl rfl<|cr<|wA (v:=I 1) rfl<|wn<|Ap<|CO<|AG ?_;have gF:=iC.erase 0;obtain rfl:=oi a;refine BG (fun st=>?_);exact .inl ⟨rfl,(1:Int),rfl,qo st,sp st 2 rfl,gF⟩
           ·replace a:=An a i;have hT:aD=true:=by simpa using i
            rcases Ae (decide ((0:Int)<e)) with d|d
            ·replace a:=Am a d;have bU:=((aX.ext aY.gr).gr y.gr (bY.nq 1 0));replace a:=AJ a;obtain⟨e4,a⟩:=a;replace a:=Bi a;obtain⟨i30,b4,e5,gG,e6,a⟩:=a;have bH:=((aU.mv (Ay aY)).mv (bY.By y.gr 0 rfl));obtain⟨d5,d6,_,e7,rfl,e8⟩:=Sl.elem bH (by decide) gG;rcases Ae (decide (b4.Bd≤g.Bd)) with j|j
             ·replace a:=Am a j;refine BW 34 [Kc (pt aZ 0),Kc (I g.Bd),Kc (.bool aC),Kc (.bool !aC),Kc (.bool !aC),Kc (pt aZ 1),Kc (I g.B3),Kc (.bool aD),Kc (.bool !aD),Kc (.bool !aD),Kc (.bool !aD),Kc (I e),Kc (.bool (decide ((0:Int)<e))),Kc (.bool (decide ((0:Int)<e))),Kc (pt aZ 0),Kc (I g.Bd),Kc (pt b1 4),Kc (.slice o b.AB.length p),Kc (I e),Kc (I (e-1)),Kc (pt d5 (d6+i30*2)),Kc (pt d5 (d6+i30*2)),Kc (I b4.Bd),Kc (.bool (decide (b4.Bd≤g.Bd))),Kc (.bool (decide (b4.Bd≤g.Bd))),Kc undef,Kc undef,Kc undef,Kc undef,Kc undef,Kc undef,Kc undef,Kc undef,Kc undef] mixed rfl rfl
                  (Aa (oD (fun K=>Ad (K.kO 5) (Kj _ _)))
                  (Aa (oD (fun K=>Ag Bq (es (K.dq 0 52)) (y.bk.ext K.AV) rfl))
                  (Aa (oE (fun K=>(Ak Fs rfl (DX (es (K.dq 1 53)) (ec (v:=I 0)) (ec (v:=I 100))) (Jr aS g.Bd 0 100 ZA _ aC bZ)).mono (fun _ _ h=>⟨h.2,h.1⟩)))
                  (Aa (oD (fun K=>Ca (es (K.dq 2 54))))
                  (Aa (oD (fun K=>AA (es (K.dq 3 55))))
                  (Aa (oG f (fun K=>Ad (K.kO 5) (LS _ _)))
                  (Aa (oG f (fun K=>Ag Bq (es (K.dq 5 57)) (y.bk.ext K.AV) rfl))
                  (Aa (oX f (fun K=>(Ak Fs rfl (DX (es (K.dq 6 58)) (ec (v:=I 0)) (ec (v:=I 100))) (Jr aS g.B3 0 100 ZA _ aD cI)).mono (fun _ _ h=>⟨h.2,h.1⟩)))
                  (Aa (oG f (fun K=>Ca (es (K.dq 7 59))))
                  (Aa (oD (fun K=>Bg (es (K.dq 4 56)) f (es (K.dq 8 60))))
                  (Aa (oD (fun K=>AA (es (K.dq 9 61))))
                  (Aa (oG i (fun K=>AA (es ((K.out 4 rfl).trans aJ))))
                  (Aa (oG i (fun K=>Fj (es (K.dq 11 63)) (ec (v:=I 0))))
                  (Aa (oG i (fun K=>AA (es (K.dq 12 64))))
                  (Aa (oG d (fun K=>Ad (K.kO 5) (Kj _ _)))
                  (Aa (oG d (fun K=>Ag Bq (es (K.dq 14 66)) (y.bk.ext K.AV) rfl))
                  (Aa (oG d (fun K=>Ad (es ((K.out 1 rfl).trans aQ)) (GK _ _)))
                  (Aa (oG d (fun K=>Ag HO (es (K.dq 16 68)) (bU.ext K.AV) rfl))
                  (Aa (oG d (fun K=>AA (es ((K.out 4 rfl).trans aJ))))
                  (Aa (oG d (fun K=>Fi (es (K.dq 18 70)) (ec (v:=I 1)) e4))
                  (Aa (oG d (fun K=>BC (k:=i30) Tryz.underlying63 J7 (es (K.dq 17 69)) e7 (es (K.dq 19 71)) e5 e6))
                  (Aa (oG d (fun K=>Ad (es (K.dq 20 72)) (LP _ _ _)))
                  (Aa (oG d (fun K=>BF Bq (es (K.dq 21 73)) (e8.mv (Ac K.AV)) rfl))
                  (Aa (oG d (fun K=>HT (es (K.dq 15 67)) (es (K.dq 22 74))))
                  (Aa (oG d (fun K=>AA (es (K.dq 23 75))))
                  (Aa (oT j)
                  (Aa (oT j)
                  (Aa (oT j)
                  (Aa (oT j)
                  (Aa (oT j)
                  (Aa (oT j)
                  (Aa (oT j)
                  (Aa (oT j)
                  (Aa (oT j)
                  (BR _))))))))))))))))))))))))))))))))))) ?_
              intro d4;rintro _ rfl _ rfl _ rfl _ rfl _ rfl _ rfl _ rfl _ rfl _ rfl _ rfl _ rfl _ rfl _ rfl _ rfl _ rfl _ rfl _ rfl _ rfl _ rfl _ rfl _ rfl _ rfl _ rfl _ rfl _ rfl _ rfl _ rfl _ rfl _ rfl _ rfl _ rfl _ rfl _ rfl _ rfl aL;have gH:=cQ.ext aL;refine wF j<|wG d (fun st=>AR (v:=.bool true) (eR st) j (eR st))<|wG i (fun st=>AR (v:=.bool true) (eR st) d (eR st))<|wD (fun st=>Bg (v:=.bool true) (eR st) i (eR st))<|wn<|Ah rfl rfl<|cr<|wA (v:=I 1) rfl<|wn<|Ap<|CO<|AG ?_;have gI:=gH.erase 0;obtain rfl:=oi a;refine BG (fun st=>?_);exact .inl ⟨rfl,(1:Int),rfl,qo st,sp st 2 rfl,gI⟩
             ·replace a:=An a j;replace a:=AJ a;obtain⟨gJ,a⟩:=a;replace a:=Bi a;obtain⟨i33,cR,gK,gL,gM,a⟩:=a;obtain⟨f2,f3,_,gN,rfl,gO⟩:=Sl.elem bH (by decide) gL;refine BW 34 [Kc (pt aZ 0),Kc (I g.Bd),Kc (.bool aC),Kc (.bool !aC),Kc (.bool !aC),Kc (pt aZ 1),Kc (I g.B3),Kc (.bool aD),Kc (.bool !aD),Kc (.bool !aD),Kc (.bool !aD),Kc (I e),Kc (.bool (decide ((0:Int)<e))),Kc (.bool (decide ((0:Int)<e))),Kc (pt aZ 0),Kc (I g.Bd),Kc (pt b1 4),Kc (.slice o b.AB.length p),Kc (I e),Kc (I (e-1)),Kc (pt d5 (d6+i30*2)),Kc (pt d5 (d6+i30*2)),Kc (I b4.Bd),Kc (.bool (decide (b4.Bd≤g.Bd))),Kc (.bool (decide (b4.Bd≤g.Bd))),Kc (pt aZ 1),Kc (I g.B3),Kc (pt b1 4),Kc (.slice o b.AB.length p),Kc (I e),Kc (I (e-1)),Kc (pt f2 (f3+i33*2)),Kc (pt f2 (f3+i33*2+1)),Kc (I cR.B3)] mixed rfl rfl
                  (Aa (oD (fun K=>Ad (K.kO 5) (Kj _ _)))
                  (Aa (oD (fun K=>Ag Bq (es (K.dq 0 52)) (y.bk.ext K.AV) rfl))
                  (Aa (oE (fun K=>(Ak Fs rfl (DX (es (K.dq 1 53)) (ec (v:=I 0)) (ec (v:=I 100))) (Jr aS g.Bd 0 100 ZA _ aC bZ)).mono (fun _ _ h=>⟨h.2,h.1⟩)))
                  (Aa (oD (fun K=>Ca (es (K.dq 2 54))))
                  (Aa (oD (fun K=>AA (es (K.dq 3 55))))
                  (Aa (oG f (fun K=>Ad (K.kO 5) (LS _ _)))
                  (Aa (oG f (fun K=>Ag Bq (es (K.dq 5 57)) (y.bk.ext K.AV) rfl))
                  (Aa (oX f (fun K=>(Ak Fs rfl (DX (es (K.dq 6 58)) (ec (v:=I 0)) (ec (v:=I 100))) (Jr aS g.B3 0 100 ZA _ aD cI)).mono (fun _ _ h=>⟨h.2,h.1⟩)))
                  (Aa (oG f (fun K=>Ca (es (K.dq 7 59))))
                  (Aa (oD (fun K=>Bg (es (K.dq 4 56)) f (es (K.dq 8 60))))
                  (Aa (oD (fun K=>AA (es (K.dq 9 61))))
                  (Aa (oG i (fun K=>AA (es ((K.out 4 rfl).trans aJ))))
                  (Aa (oG i (fun K=>Fj (es (K.dq 11 63)) (ec (v:=I 0))))
                  (Aa (oG i (fun K=>AA (es (K.dq 12 64))))
                  (Aa (oG d (fun K=>Ad (K.kO 5) (Kj _ _)))
                  (Aa (oG d (fun K=>Ag Bq (es (K.dq 14 66)) (y.bk.ext K.AV) rfl))
                  (Aa (oG d (fun K=>Ad (es ((K.out 1 rfl).trans aQ)) (GK _ _)))
                  (Aa (oG d (fun K=>Ag HO (es (K.dq 16 68)) (bU.ext K.AV) rfl))
                  (Aa (oG d (fun K=>AA (es ((K.out 4 rfl).trans aJ))))
                  (Aa (oG d (fun K=>Fi (es (K.dq 18 70)) (ec (v:=I 1)) e4))
                  (Aa (oG d (fun K=>BC (k:=i30) Tryz.underlying63 J7 (es (K.dq 17 69)) e7 (es (K.dq 19 71)) e5 e6))
                  (Aa (oG d (fun K=>Ad (es (K.dq 20 72)) (LP _ _ _)))
                  (Aa (oG d (fun K=>BF Bq (es (K.dq 21 73)) (e8.mv (Ac K.AV)) rfl))
                  (Aa (oG d (fun K=>HT (es (K.dq 15 67)) (es (K.dq 22 74))))
                  (Aa (oG d (fun K=>AA (es (K.dq 23 75))))
                  (Aa (oG j (fun K=>Ad (K.kO 5) (LS _ _)))
                  (Aa (oG j (fun K=>Ag Bq (es (K.dq 25 77)) (y.bk.ext K.AV) rfl))
                  (Aa (oG j (fun K=>Ad (es ((K.out 1 rfl).trans aQ)) (GK _ _)))
                  (Aa (oG j (fun K=>Ag HO (es (K.dq 27 79)) (bU.ext K.AV) rfl))
                  (Aa (oG j (fun K=>AA (es ((K.out 4 rfl).trans aJ))))
                  (Aa (oG j (fun K=>Fi (es (K.dq 29 81)) (ec (v:=I 1)) gJ))
                  (Aa (oG j (fun K=>BC (k:=i33) Tryz.underlying63 J7 (es (K.dq 28 80)) gN (es (K.dq 30 82)) gK gM))
                  (Aa (oG j (fun K=>Ad (es (K.dq 31 83)) (OH _ _ _)))
                  (Aa (oG j (fun K=>EG Bq (es (K.dq 32 84)) (gO.mv (Ac K.AV)) rfl))
                  (BR _))))))))))))))))))))))))))))))))))) ?_
              intro d4;rintro _ rfl _ rfl _ rfl _ rfl _ rfl _ rfl _ rfl _ rfl _ rfl _ rfl _ rfl _ rfl _ rfl _ rfl _ rfl _ rfl _ rfl _ rfl _ rfl _ rfl _ rfl _ rfl _ rfl _ rfl _ rfl _ rfl _ rfl _ rfl _ rfl _ rfl _ rfl _ rfl _ rfl _ rfl aL;have e9:=cQ.ext aL;refine wG j (fun st=>Fj (eR st) (eR st))<|wG d (fun st=>Bg (v:=.bool (decide (cR.B3<g.B3))) (eR st) j (eR st))<|wG i (fun st=>AR (v:=.bool (decide (cR.B3<g.B3))) (eR st) d (eR st))<|wD (fun st=>Bg (v:=.bool (decide (cR.B3<g.B3))) (eR st) i (eR st))<|wn ?_;rcases Ae (decide (cR.B3<g.B3)) with b5|b5
              ·replace a:=Am a b5;refine Ah rfl b5<|cr<|wA (v:=I 1) rfl<|wn<|Ap<|CO<|AG ?_;have gP:=e9.erase 0;obtain rfl:=oi a;refine BG (fun st=>?_);exact .inl ⟨rfl,(1:Int),rfl,qo st,sp st 2 rfl,gP⟩
              ·replace a:=An a b5;refine Ao rfl b5<|Ce<|CG<|Ai<|wM (v:=I e) aJ ?_;replace a:=AJ a;obtain⟨gQ,a⟩:=a;refine wD (fun st=>BK (eR st) (eR st) gQ)<|wA (v:=I (e+1)) rfl<|Bc ?_;have gR:=e9.erase 0;have fA:=(bU.ext aL);have ⟨dB,dC,dD⟩:=Er a0 a2 a3 (mt (Ay aY) (mt (bY.By y.gr 0 rfl) (mt (Ac aL) (AH 0))));have dE:=((bH.mv (Ac aL)).mv (AH 0));have ⟨dF,dG⟩:=K5 a4 a5 (mt (Ay aY) (mt (bY.By y.gr 0 rfl) (mt (Ac aL) (AH 0))));refine Br bT (Nat.lt_succ_self _) (fun st=>?_);exact⟨(e+1),a,qo st,sp st 1 aQ,sp st 4 rfl,gR,fA,dB,dC,dD,dE,dF,dG⟩
            ·replace a:=An a d;refine BW 34 [Kc (pt aZ 0),Kc (I g.Bd),Kc (.bool aC),Kc (.bool !aC),Kc (.bool !aC),Kc (pt aZ 1),Kc (I g.B3),Kc (.bool aD),Kc (.bool !aD),Kc (.bool !aD),Kc (.bool !aD),Kc (I e),Kc (.bool (decide ((0:Int)<e))),Kc (.bool (decide ((0:Int)<e))),Kc undef,Kc undef,Kc undef,Kc undef,Kc undef,Kc undef,Kc undef,Kc undef,Kc undef,Kc undef,Kc undef,Kc undef,Kc undef,Kc undef,Kc undef,Kc undef,Kc undef,Kc undef,Kc undef,Kc undef] mixed rfl rfl
                 (Aa (oD (fun K=>Ad (K.kO 5) (Kj _ _)))
                 (Aa (oD (fun K=>Ag Bq (es (K.dq 0 52)) (y.bk.ext K.AV) rfl))
                 (Aa (oE (fun K=>(Ak Fs rfl (DX (es (K.dq 1 53)) (ec (v:=I 0)) (ec (v:=I 100))) (Jr aS g.Bd 0 100 ZA _ aC bZ)).mono (fun _ _ h=>⟨h.2,h.1⟩)))
                 (Aa (oD (fun K=>Ca (es (K.dq 2 54))))
                 (Aa (oD (fun K=>AA (es (K.dq 3 55))))
                 (Aa (oG f (fun K=>Ad (K.kO 5) (LS _ _)))
                 (Aa (oG f (fun K=>Ag Bq (es (K.dq 5 57)) (y.bk.ext K.AV) rfl))
                 (Aa (oX f (fun K=>(Ak Fs rfl (DX (es (K.dq 6 58)) (ec (v:=I 0)) (ec (v:=I 100))) (Jr aS g.B3 0 100 ZA _ aD cI)).mono (fun _ _ h=>⟨h.2,h.1⟩)))
                 (Aa (oG f (fun K=>Ca (es (K.dq 7 59))))
                 (Aa (oD (fun K=>Bg (es (K.dq 4 56)) f (es (K.dq 8 60))))
                 (Aa (oD (fun K=>AA (es (K.dq 9 61))))
                 (Aa (oG i (fun K=>AA (es ((K.out 4 rfl).trans aJ))))
                 (Aa (oG i (fun K=>Fj (es (K.dq 11 63)) (ec (v:=I 0))))
                 (Aa (oG i (fun K=>AA (es (K.dq 12 64))))
                 (Aa (oT d)
                 (Aa (oT d)
                 (Aa (oT d)
                 (Aa (oT d)
                 (Aa (oT d)
                 (Aa (oT d)
                 (Aa (oT d)
                 (Aa (oT d)
                 (Aa (oT d)
                 (Aa (oT d)
                 (Aa (oT d)
                 (Aa (oU)
                 (Aa (oU)
                 (Aa (oU)
                 (Aa (oU)
                 (Aa (oU)
                 (Aa (oU)
                 (Aa (oU)
                 (Aa (oU)
                 (Aa (oU)
                 (BR _))))))))))))))))))))))))))))))))))) ?_
             intro d4;rintro _ rfl _ rfl _ rfl _ rfl _ rfl _ rfl _ rfl _ rfl _ rfl _ rfl _ rfl _ rfl _ rfl _ rfl _ rfl _ rfl _ rfl _ rfl _ rfl _ rfl _ rfl _ rfl _ rfl _ rfl _ rfl _ rfl _ rfl _ rfl _ rfl _ rfl _ rfl _ rfl _ rfl _ rfl aL;have gS:=cQ.ext aL;refine E9 rfl rfl rfl rfl (by decide)<|wF d<|wG i (fun st=>Bg (v:=.bool false) (eR st) d (eR st))<|wD (fun st=>Bg (v:=.bool false) (eR st) i (eR st))<|wn<|Ao rfl rfl<|Ce<|CG<|Ai<|wM (v:=I e) aJ ?_;replace a:=AJ a;obtain⟨gT,a⟩:=a;refine wD (fun st=>BK (eR st) (eR st) gT)<|wA (v:=I (e+1)) rfl<|Bc ?_;have gU:=gS.erase 0;have fB:=(((aX.ext aY.gr).gr y.gr (bY.nq 1 0)).ext aL);have ⟨dH,dI,dJ,dK,dL,dM⟩:=CA a0 a2 a3 aU a4 a5 (mt (Ay aY) (mt (bY.By y.gr 0 rfl) (mt (Ac aL) (AH 0))));refine Br bT (Nat.lt_succ_self _) (fun st=>?_);exact⟨(e+1),a,qo st,sp st 1 aQ,sp st 4 rfl,gU,fB,dH,dI,dJ,dK,dL,dM⟩
         ·replace a:=An a bX;refine Ao rfl bX<|DA ?_;obtain rfl:=oi a;refine BG (fun st=>?_);exact .inr ⟨rfl,(),rfl,qo st,sp st 1 aQ,e3,aX,a0,a2,a3,aU,a4,a5⟩
       case f7=>
        rintro bW iG iL (⟨rfl,bG,rfl,b6,eT,cJ⟩|⟨rfl,bG,rfl,b6,eU,cJ,eV,cS,cT,cU,cV,cW,cX⟩)
        ·skip
         replace a:=CM a;refine lf b6<|CO ?_;obtain rfl:=oi a;refine Au rfl eT ?_;exact⟨cJ.AZ,rfl⟩
        ·skip
         replace a:=CN a;refine lf b6<|Be<|BM<|Af<|cr<|wA (v:=I 0) rfl<|wn<|AI ?_;replace a:=bind_some a;obtain⟨z37,bI,a⟩:=a;refine BQ (fun bW z m=>(bW=.ret∧∃bJ,z37=.inl bJ∧Fo X0 149 z∧sl z 2=I bJ∧Hp FN [] w [some b1] m)∨(bW=.exit 2∧∃bJ,z37=.inr bJ∧Fo X0 149 z∧sl z 1=pt b1 0∧Hp FN [] w [some b1] m∧Bk m b1 67 (Ar aF aG aA aB aH aI o p s t u x b).toArray∧(fun aE=>Sl Ax m aE aF aG b.Aj∧Sl (Bx (Al .i64)) m aE aA aB b.Ab∧Sl AF m aE aH aI b.Aq∧Sl AT m aE o p b.AB∧Sl AW m aE s t b.AE∧Sl Bj m aE u x b.AK) (zf Z w [some b1]))) ?gV ?gW
         case gV=>
          clear a;refine BP (fun bT z m=>∃aN,CX aS b bT aN=some z37∧Fo X0 149 z∧sl z 1=pt b1 0∧sl z 6=I aN∧Hp FN [] w [some b1] m∧Bk m b1 67 (Ar aF aG aA aB aH aI o p s t u x b).toArray∧(fun aE=>Sl Ax m aE aF aG b.Aj∧Sl (Bx (Al .i64)) m aE aA aB b.Ab∧Sl AF m aE aH aI b.Aq∧Sl AT m aE o p b.AB∧Sl AW m aE s t b.AE∧Sl Bj m aE u x b.AK) (zf Z w [some b1])) aS ?gX ?gY
          case gX=>
           intro st;exact⟨(0:Int),bI,qo st,sp st 1 eU,sp st 6 rfl,cJ,eV,cS,cT,cU,cV,cW,cX⟩
          case gY=>
           rintro(_|bT) iM iN ⟨aN,bI,fZ,aR,a6,dN,aM,bN,bO,bP,bQ,a7,bR⟩
           ·exact absurd (show none=some _ from bI) (by simp)
           rw[CX.eq_2] at bI;have a:=bI;clear bI;refine ro fZ<|Af<|cr<|wM (v:=I aN) a6<|wD (fun st=>Ad (ee st aR) (Ij _ _))<|wD (fun st=>Ag (v:=.slice s b.AE.length t) I8 (eR st) aM rfl)<|wD (fun st=>Bn Tryz.underlying64 (eR st))<|wD (fun st=>B8 (eR st) (eR st))<|wn ?_;rcases Ae (decide (aN<(b.AE.length:Int))) with b7|b7
           ·replace a:=Am a b7;refine Ah rfl b7<|cn<|Af<|AI<|Af ?_;replace a:=Bi a;obtain⟨i40,d7,fC,gZ,fD,a⟩:=a;obtain⟨d8,d9,_,fE,rfl,fF⟩:=Sl.elem a7 (by decide) gZ;replace a:=AJ a;obtain⟨fG,a⟩:=a;replace a:=bind_some a;obtain⟨a8,fH,a⟩:=a;rcases Ae (!a8) with q|q
            ·replace a:=Am a q;have hU:a8=false:=by simpa using q
             refine BW 16 [Kc (pt b1 5),Kc (.slice s b.AE.length t),Kc (I aN),Kc (pt d8 (d9+i40*2)),Kc (pt d8 (d9+i40*2)),Kc (I d7.Cr),Kc (pt b1 4),Kc (.slice o b.AB.length p),Kc (I (b.AB.length:Int)),Kc (I ((b.AB.length:Int)-1)),Kc (.bool a8),Kc (.bool !a8),Kc (.bool !a8),Kc undef,Kc undef,Kc undef] mixed rfl rfl
                 (Aa (oD (fun K=>Ad (es ((K.out 1 rfl).trans aR)) (Ij _ _)))
                 (Aa (oD (fun K=>Ag I8 (es (K.dq 0 97)) (aM.ext K.AV) rfl))
                 (Aa (oD (fun K=>AA (es ((K.out 6 rfl).trans a6))))
                 (Aa (oD (fun K=>BC (k:=i40) Tryz.underlying64 LR (es (K.dq 1 98)) fE (es (K.dq 2 99)) fC fD))
                 (Aa (oD (fun K=>Ad (es (K.dq 3 100)) (OJ _ _ _)))
                 (Aa (oD (fun K=>BF Bq (es (K.dq 4 101)) (fF.mv (Ac K.AV)) rfl))
                 (Aa (oD (fun K=>Ad (es ((K.out 1 rfl).trans aR)) (GK _ _)))
                 (Aa (oD (fun K=>Ag HO (es (K.dq 6 103)) (aM.ext K.AV) rfl))
                 (Aa (oD (fun K=>Bn Tryz.underlying63 (es (K.dq 7 104))))
                 (Aa (oD (fun K=>Fi (es (K.dq 8 105)) (ec (v:=I 1)) fG))
                 (Aa (oE (fun K=>(Ak Fs rfl (DX (es (K.dq 5 102)) (ec (v:=I 0)) (es (K.dq 9 106))) (Jr aS d7.Cr 0 ((b.AB.length:Int)-1) ZA _ a8 fH)).mono (fun _ _ h=>⟨h.2,h.1⟩)))
                 (Aa (oD (fun K=>Ca (es (K.dq 10 107))))
                 (Aa (oD (fun K=>AA (es (K.dq 11 108))))
                 (Aa (oT q)
                 (Aa (oT q)
                 (Aa (oT q)
                 (BR _))))))))))))))))) ?_
             intro iD;rintro _ rfl _ rfl _ rfl _ rfl _ rfl _ rfl _ rfl _ rfl _ rfl _ rfl _ rfl _ rfl _ rfl _ rfl _ rfl _ rfl bB;have g0:=dN.ext bB;refine wF q<|wF q<|wF q<|wF q<|wF q<|wD (fun st=>AR (v:=.bool true) (eR st) q (eR st))<|wn<|Ah rfl rfl<|cr<|wA (v:=I 1) rfl<|wn<|Ap<|CO<|AG ?_;obtain rfl:=oi a;refine BG (fun st=>?_);exact .inl ⟨rfl,(1:Int),rfl,qo st,sp st 2 rfl,g0⟩
            ·replace a:=An a q;have hV:a8=true:=by simpa using q
             refine BW 16 [Kc (pt b1 5),Kc (.slice s b.AE.length t),Kc (I aN),Kc (pt d8 (d9+i40*2)),Kc (pt d8 (d9+i40*2)),Kc (I d7.Cr),Kc (pt b1 4),Kc (.slice o b.AB.length p),Kc (I (b.AB.length:Int)),Kc (I ((b.AB.length:Int)-1)),Kc (.bool a8),Kc (.bool !a8),Kc (.bool !a8),Kc (pt b1 5),Kc (.slice s b.AE.length t),Kc (I aN)] mixed rfl rfl
                 (Aa (oD (fun K=>Ad (es ((K.out 1 rfl).trans aR)) (Ij _ _)))
                 (Aa (oD (fun K=>Ag I8 (es (K.dq 0 97)) (aM.ext K.AV) rfl))
                 (Aa (oD (fun K=>AA (es ((K.out 6 rfl).trans a6))))
                 (Aa (oD (fun K=>BC (k:=i40) Tryz.underlying64 LR (es (K.dq 1 98)) fE (es (K.dq 2 99)) fC fD))
                 (Aa (oD (fun K=>Ad (es (K.dq 3 100)) (OJ _ _ _)))
                 (Aa (oD (fun K=>BF Bq (es (K.dq 4 101)) (fF.mv (Ac K.AV)) rfl))
                 (Aa (oD (fun K=>Ad (es ((K.out 1 rfl).trans aR)) (GK _ _)))
                 (Aa (oD (fun K=>Ag HO (es (K.dq 6 103)) (aM.ext K.AV) rfl))
                 (Aa (oD (fun K=>Bn Tryz.underlying63 (es (K.dq 7 104))))
                 (Aa (oD (fun K=>Fi (es (K.dq 8 105)) (ec (v:=I 1)) fG))
                 (Aa (oE (fun K=>(Ak Fs rfl (DX (es (K.dq 5 102)) (ec (v:=I 0)) (es (K.dq 9 106))) (Jr aS d7.Cr 0 ((b.AB.length:Int)-1) ZA _ a8 fH)).mono (fun _ _ h=>⟨h.2,h.1⟩)))
                 (Aa (oD (fun K=>Ca (es (K.dq 10 107))))
                 (Aa (oD (fun K=>AA (es (K.dq 11 108))))
                 (Aa (oG q (fun K=>Ad (es ((K.out 1 rfl).trans aR)) (Ij _ _)))
                 (Aa (oG q (fun K=>Ag I8 (es (K.dq 13 110)) (aM.ext K.AV) rfl))
                 (Aa (oG q (fun K=>AA (es ((K.out 6 rfl).trans a6))))
                 (BR _))))))))))))))))) ?_
             intro iD;rintro _ rfl _ rfl _ rfl _ rfl _ rfl _ rfl _ rfl _ rfl _ rfl _ rfl _ rfl _ rfl _ rfl _ rfl _ rfl _ rfl bB;have g1:=dN.ext bB;replace a:=Bi a;obtain⟨i46,f4,g2,g3,g4,a⟩:=a;have b8:=(a7.mv (Ac bB));obtain⟨iY,iZ,_,g5,rfl,g6⟩:=Sl.elem b8 (by decide) g3;refine wG q (fun st=>BC (k:=i46) Tryz.underlying64 LR (eR st) g5 (eR st) g2 g4)<|wG q (fun st=>Ad (eR st) (RU _ _ _))<|wG q (fun st=>EG (v:=I f4.CE) Bq (eR st) g6 rfl) ?_;replace a:=bind_some a;obtain⟨cY,g7,a⟩:=a;refine wX q (fun st=>Ak Fs (eR st) (DX (eR st) (eR st) (eR st)) (Jr aS f4.CE 1 90 ZA _ cY g7)) ?_;rintro _ i0 ⟨b9,rfl⟩;have fI:=g1.ext b9;refine wG q (fun st=>Ca (eR st))<|wD (fun st=>Bg (v:=.bool !cY) (eR st) q (eR st))<|wn ?_;rcases Ae (!cY) with bC|bC
             ·replace a:=Am a bC;have hW:cY=false:=by simpa using bC
              refine Ah rfl bC<|cr<|wA (v:=I 1) rfl<|wn<|Ap<|CO<|AG ?_;obtain rfl:=oi a;refine BG (fun st=>?_);exact .inl ⟨rfl,(1:Int),rfl,qo st,sp st 2 rfl,fI⟩
             ·replace a:=An a bC;have hX:cY=true:=by simpa using bC
              refine Ao rfl bC<|Ce<|CG<|Ai<|wM (v:=I aN) a6 ?_;replace a:=AJ a;obtain⟨g8,a⟩:=a;refine wD (fun st=>BK (eR st) (eR st) g8)<|wA (v:=I (aN+1)) rfl<|Bc ?_;have fJ:=((aM.ext bB).ext b9);have ⟨dO,dP,dQ,dR⟩:=ID bN bO bP bQ (mt (Ac bB) (Ac b9));have dS:=(b8.mv (Ac b9));have dT:=((bR.mv (Ac bB)).mv (Ac b9));refine Br bT (Nat.lt_succ_self _) (fun st=>?_);exact⟨(aN+1),a,qo st,sp st 1 aR,sp st 6 rfl,fI,fJ,dO,dP,dQ,dR,dS,dT⟩
           ·replace a:=An a b7;refine Ao rfl b7<|DA ?_;obtain rfl:=oi a;refine BG (fun st=>?_);exact .inr ⟨rfl,(),rfl,qo st,sp st 1 aR,dN,aM,bN,bO,bP,bQ,a7,bR⟩
         case gW=>
          rintro bW iH iO (⟨rfl,bJ,rfl,cA,eW,cK⟩|⟨rfl,bJ,rfl,cA,eX,cK,eY,cZ,c0,c1,c2,c3,c4⟩)
          ·skip
           replace a:=CM a;refine lf cA<|CO ?_;obtain rfl:=oi a;refine Au rfl eW ?_;exact⟨cK.AZ,rfl⟩
          ·skip
           replace a:=CN a;refine lf cA<|Be<|BM<|Af<|cr<|wA (v:=I 0) rfl<|wn<|AI ?_;replace a:=bind_some a;obtain⟨z53,bK,a⟩:=a;refine BQ (fun bW z m=>(bW=.ret∧∃bL,z53=.inl bL∧Fo X0 149 z∧sl z 2=I bL∧Hp FN [] w [some b1] m)∨(bW=.exit 4∧∃bL,z53=.inr bL∧Fo X0 149 z∧Hp FN [] w [some b1] m)) ?g9 ?hA
           case g9=>
            clear a;refine BP (fun bT z m=>∃aO,CY aS b bT aO=some z53∧Fo X0 149 z∧sl z 1=pt b1 0∧sl z 7=I aO∧Hp FN [] w [some b1] m∧Bk m b1 67 (Ar aF aG aA aB aH aI o p s t u x b).toArray∧(fun aE=>Sl Ax m aE aF aG b.Aj∧Sl (Bx (Al .i64)) m aE aA aB b.Ab∧Sl AF m aE aH aI b.Aq∧Sl AT m aE o p b.AB∧Sl AW m aE s t b.AE∧Sl Bj m aE u x b.AK) (zf Z w [some b1])) aS ?hB ?hC
            case hB=>
             intro st;exact⟨(0:Int),bK,qo st,sp st 1 eX,sp st 7 rfl,cK,eY,cZ,c0,c1,c2,c3,c4⟩
            case hC=>
             rintro(_|bT) iP iQ ⟨aO,bK,f0,aT,a9,dU,aP,c5,c6,c7,c8,c9,bS⟩
             ·exact absurd (show none=some _ from bK) (by simp)
             rw[CY.eq_2] at bK;have a:=bK;clear bK;refine ro f0<|Af<|cr<|wM (v:=I aO) a9<|wD (fun st=>Ad (ee st aT) (Ii _ _))<|wD (fun st=>Ag (v:=.slice u b.AK.length x) I7 (eR st) aP rfl)<|wD (fun st=>Bn Tryz.underlying65 (eR st))<|wD (fun st=>B8 (eR st) (eR st))<|wn ?_;rcases Ae (decide (aO<(b.AK.length:Int))) with cB|cB
             ·replace a:=Am a cB;refine Ah rfl cB<|cn<|Af<|AI<|Af ?_;replace a:=Bi a;obtain⟨i56,eA,fK,hD,fL,a⟩:=a;obtain⟨eB,eC,_,fM,rfl,fN⟩:=Sl.elem bS (by decide) hD;replace a:=AJ a;obtain⟨fO,a⟩:=a;replace a:=bind_some a;obtain⟨bA,fP,a⟩:=a;rcases Ae (!bA) with r|r
              ·replace a:=Am a r;have hY:bA=false:=by simpa using r
               refine BW 17 [Kc (pt b1 6),Kc (.slice u b.AK.length x),Kc (I aO),Kc (pt eB (eC+i56*3)),Kc (pt eB (eC+i56*3)),Kc (I eA.BY),Kc (pt b1 0),Kc (pt b1 1),Kc (.slice aA b.Ab.length aB),Kc (I (b.Ab.length:Int)),Kc (I ((b.Ab.length:Int)-1)),Kc (.bool bA),Kc (.bool !bA),Kc (.bool !bA),Kc undef,Kc undef,Kc undef] mixed rfl rfl
                   (Aa (oD (fun K=>Ad (es ((K.out 1 rfl).trans aT)) (Ii _ _)))
                   (Aa (oD (fun K=>Ag I7 (es (K.dq 0 126)) (aP.ext K.AV) rfl))
                   (Aa (oD (fun K=>AA (es ((K.out 7 rfl).trans a9))))
                   (Aa (oD (fun K=>BC (k:=i56) Tryz.underlying65 LQ (es (K.dq 1 127)) fM (es (K.dq 2 128)) fK fL))
                   (Aa (oD (fun K=>Ad (es (K.dq 3 129)) (MV _ _ _)))
                   (Aa (oD (fun K=>BF Bq (es (K.dq 4 130)) (fN.mv (Ac K.AV)) rfl))
                   (Aa (oD (fun K=>Ad (es ((K.out 1 rfl).trans aT)) (GJ _ _)))
                   (Aa (oD (fun K=>Ad (es (K.dq 6 132)) (EO _ _)))
                   (Aa (oD (fun K=>Ag DK (es (K.dq 7 133)) (aP.ext K.AV) rfl))
                   (Aa (oD (fun K=>Bn Tryz.underlying23 (es (K.dq 8 134))))
                   (Aa (oD (fun K=>Fi (es (K.dq 9 135)) (ec (v:=I 1)) fO))
                   (Aa (oE (fun K=>(Ak Fs rfl (DX (es (K.dq 5 131)) (ec (v:=I 0)) (es (K.dq 10 136))) (Jr aS eA.BY 0 ((b.Ab.length:Int)-1) ZA _ bA fP)).mono (fun _ _ h=>⟨h.2,h.1⟩)))
                   (Aa (oD (fun K=>Ca (es (K.dq 11 137))))
                   (Aa (oD (fun K=>AA (es (K.dq 12 138))))
                   (Aa (oT r)
                   (Aa (oT r)
                   (Aa (oT r)
                   (BR _)))))))))))))))))) ?_
               intro iE;rintro _ rfl _ rfl _ rfl _ rfl _ rfl _ rfl _ rfl _ rfl _ rfl _ rfl _ rfl _ rfl _ rfl _ rfl _ rfl _ rfl _ rfl bM;have hE:=dU.ext bM;refine wF r<|wF r<|wF r<|wF r<|wF r<|wD (fun st=>AR (v:=.bool true) (eR st) r (eR st))<|wn<|Ah rfl rfl<|cr<|wA (v:=I 1) rfl<|wn<|Ap<|CO<|AG ?_;obtain rfl:=oi a;refine BG (fun st=>?_);exact .inl ⟨rfl,(1:Int),rfl,qo st,sp st 2 rfl,hE⟩
              ·replace a:=An a r;have hZ:bA=true:=by simpa using r
               refine BW 17 [Kc (pt b1 6),Kc (.slice u b.AK.length x),Kc (I aO),Kc (pt eB (eC+i56*3)),Kc (pt eB (eC+i56*3)),Kc (I eA.BY),Kc (pt b1 0),Kc (pt b1 1),Kc (.slice aA b.Ab.length aB),Kc (I (b.Ab.length:Int)),Kc (I ((b.Ab.length:Int)-1)),Kc (.bool bA),Kc (.bool !bA),Kc (.bool !bA),Kc (pt b1 6),Kc (.slice u b.AK.length x),Kc (I aO)] mixed rfl rfl
                   (Aa (oD (fun K=>Ad (es ((K.out 1 rfl).trans aT)) (Ii _ _)))
                   (Aa (oD (fun K=>Ag I7 (es (K.dq 0 126)) (aP.ext K.AV) rfl))
                   (Aa (oD (fun K=>AA (es ((K.out 7 rfl).trans a9))))
                   (Aa (oD (fun K=>BC (k:=i56) Tryz.underlying65 LQ (es (K.dq 1 127)) fM (es (K.dq 2 128)) fK fL))
                   (Aa (oD (fun K=>Ad (es (K.dq 3 129)) (MV _ _ _)))
                   (Aa (oD (fun K=>BF Bq (es (K.dq 4 130)) (fN.mv (Ac K.AV)) rfl))
                   (Aa (oD (fun K=>Ad (es ((K.out 1 rfl).trans aT)) (GJ _ _)))
                   (Aa (oD (fun K=>Ad (es (K.dq 6 132)) (EO _ _)))
                   (Aa (oD (fun K=>Ag DK (es (K.dq 7 133)) (aP.ext K.AV) rfl))
                   (Aa (oD (fun K=>Bn Tryz.underlying23 (es (K.dq 8 134))))
                   (Aa (oD (fun K=>Fi (es (K.dq 9 135)) (ec (v:=I 1)) fO))
                   (Aa (oE (fun K=>(Ak Fs rfl (DX (es (K.dq 5 131)) (ec (v:=I 0)) (es (K.dq 10 136))) (Jr aS eA.BY 0 ((b.Ab.length:Int)-1) ZA _ bA fP)).mono (fun _ _ h=>⟨h.2,h.1⟩)))
                   (Aa (oD (fun K=>Ca (es (K.dq 11 137))))
                   (Aa (oD (fun K=>AA (es (K.dq 12 138))))
                   (Aa (oG r (fun K=>Ad (es ((K.out 1 rfl).trans aT)) (Ii _ _)))
                   (Aa (oG r (fun K=>Ag I7 (es (K.dq 14 140)) (aP.ext K.AV) rfl))
                   (Aa (oG r (fun K=>AA (es ((K.out 7 rfl).trans a9))))
                   (BR _)))))))))))))))))) ?_
               intro iE;rintro _ rfl _ rfl _ rfl _ rfl _ rfl _ rfl _ rfl _ rfl _ rfl _ rfl _ rfl _ rfl _ rfl _ rfl _ rfl _ rfl _ rfl bM;have hF:=dU.ext bM;replace a:=Bi a;obtain⟨i62,eD,hG,hH,hI,a⟩:=a;have cC:=(bS.mv (Ac bM));obtain⟨i1,i2,_,hJ,rfl,hL⟩:=Sl.elem cC (by decide) hH;refine wG r (fun st=>BC (k:=i62) Tryz.underlying65 LQ (eR st) hJ (eR st) hG hI)<|wG r (fun st=>Ad (eR st) (OI _ _ _))<|wG r (fun st=>Ni (l:=[I eD.Ck,I eD.Cl]) FW (eR st) hL rfl rfl) ?_;replace a:=bind_some a;obtain⟨dA,hM,a⟩:=a;refine wX r (fun st=>Ak Pk (eR st) (DX (eR st) (eR st) (eR st)) (W7 aS (⟨eD.Ck,eD.Cl⟩:AL) 0 9000 ZA _ dA hM)) ?_;rintro _ i3 ⟨cL,rfl⟩;have fQ:=hF.ext cL;refine wG r (fun st=>Ca (eR st))<|wD (fun st=>Bg (v:=.bool !dA) (eR st) r (eR st))<|wn ?_;rcases Ae (!dA) with bD|bD
               ·replace a:=Am a bD;have h3:dA=false:=by simpa using bD
                refine Ah rfl bD<|cr<|wA (v:=I 1) rfl<|wn<|Ap<|CO<|AG ?_;obtain rfl:=oi a;refine BG (fun st=>?_);exact .inl ⟨rfl,(1:Int),rfl,qo st,sp st 2 rfl,fQ⟩
               ·replace a:=An a bD;have h4:dA=true:=by simpa using bD
                refine Ao rfl bD<|Ce<|CG<|Ai<|wM (v:=I aO) a9 ?_;replace a:=AJ a;obtain⟨hN,a⟩:=a;refine wD (fun st=>BK (eR st) (eR st) hN)<|wA (v:=I (aO+1)) rfl<|Bc ?_;have fR:=((aP.ext bM).ext cL);have ⟨dV,dW,dX,dY,dZ⟩:=ZN c5 c6 c7 c8 c9 (mt (Ac bM) (Ac cL));have d0:=(cC.mv (Ac cL));refine Br bT (Nat.lt_succ_self _) (fun st=>?_);exact⟨(aO+1),a,qo st,sp st 1 aT,sp st 7 rfl,fQ,fR,dV,dW,dX,dY,dZ,d0⟩
             ·replace a:=An a cB;refine Ao rfl cB<|DA ?_;obtain rfl:=oi a;refine BG (fun st=>?_);exact .inr ⟨rfl,(),rfl,qo st,dU⟩
           case hA=>
            rintro bW iI iR (⟨rfl,bL,rfl,cD,eZ,cM⟩|⟨rfl,bL,rfl,cD,cM⟩)
            ·skip
             replace a:=CM a;refine lf cD<|CO ?_;obtain rfl:=oi a;refine Au rfl eZ ?_;exact⟨cM.AZ,rfl⟩
            ·skip
             replace a:=CN a;refine lf cD<|Be<|BM<|cr<|wA (v:=I 0) rfl<|wn<|Ap ?_;obtain rfl:=oi a;refine Au rfl rfl ?_;exact⟨cM.AZ,rfl⟩
end Go.Proofs.YtbhofkcbfblijaaGreat
end
