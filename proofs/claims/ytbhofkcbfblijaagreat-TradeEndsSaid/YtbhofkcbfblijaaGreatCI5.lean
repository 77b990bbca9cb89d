import Derived.Test.YtbhofkcbfblijaaGreatCI4
import Derived.WalkKit
import Derived.KernelRfl
import Derived.WalkSpells
import Derived.WalkLawsBesides
import Derived.Maps.AppendAt
import Derived.OrdersIn
import Derived.RangeFuncIn
import Derived.RangeFuncLeaves
import Derived.RangeFuncRecord
import Derived.RangeFuncSeq
import Derived.Scope
import Derived.DeepKeys3
import Derived.Laws.CopyRow
import Derived.Laws.OwnMore
import Derived.Laws.MakeOwn
import Derived.Laws.IdiomCopy
import Derived.Sort.OwnSortedInts
import Derived.Lib.RowBridge
import Derived.Shelf.Sort.Plain
import Derived.Ground.Names2Prog
import Derived.Shelf.Slices.Clone
import Derived.Shelf.Slices.CompactI
import Derived.Shelf.Slices.In.SortNone
import Derived.Ground.SlgnProg
import Derived.Shelf.SlicesE.Clone
import Derived.Test.YtbhofkcbfblijaaGreatProg
/-
  The contracts of the functions of the program and of the reference, and the logic that they are proved in: the base that several claims of this seat share.
-/
set_option linter.all false
section
namespace Go.Proofs.YtbhofkcbfblijaaGreat
open Go.RowKit Go.WideShapes
set_option maxRecDepth 20000
open HF
attribute [local irreducible] Ce WL CC CW LV BO G2 E9 One Bc
theorem Aax dC e aL q r s t u y z aA aB aC aD aE aF aG aH aI j l bV g(Z:Nat→Prop) w(d1:BC FN [some g] w)(d2:∀b,Z b→¬FN b∧some b∉[some g])(cS:Sl AA w Z q r e.Ar)(cT:Sl (BH (Ai .i64)) w Z s t e.As)(cU:Sl AH w Z u y e.Ap)(cV:Sl AZ w Z z aA e.AJ)(cW:Sl Bb w Z aB aC e.AK)(cX:Sl Bq w Z aD aE e.AW)(cY:Sl (Ai .i64) w Z aF aG e.weights)(cZ:Sl Cu w Z aH aI e.B5)(d3:Rz w Z (some ⟨bV,0,none⟩) (CY q r s t u y z aA aB aC aD aE aF aG aH aI g e))(c0:Sl (Ai .i64) w Z j l aL)(d4:Cz (fun x:Int=>I x) w g 2 e.known) dD(d:Fj dC e aL=some dD):
 BO Tryz.prog 121 #[pt bV 0,.slice j aL.length l] w (fun v w'=>BT (FU FN [some g]) w w'∧BE.R w' (zf Z w [some g]) v dD.1∧Cz (fun x:Int=>I x) w' g 2 dD.2):=by
 unfold Fj at d;refine rq (N:=32) Tryz.func121 fun e2 ha e3=>?_;have dE:=sA 0 ha;have cJ:=sA 1 ha;clear ha;obtain⟨bE,e4,a3,cK,dF⟩:=Il d1 d2;have ⟨a4,a5,a7,a8,a9,bA,bB,bC⟩:=EU cS cT cU cV cW cX cY cZ (AR (L:=[some g]) cK w);have bQ:=d3.mv (AR (L:=[some g]) cK w);have bW:=c0.mv (AR (L:=[some g]) cK w);refine cr<|wA (v:=.bool false) rfl<|wr<|wA (v:=.slice none 0 0) rfl<|wr<|wM (v:=pt bV 0) dE ?_;replace d:=bind_some d;obtain⟨bF,d5,d⟩:=d;refine wE (fun st=>Aj Tl (eR st) (Ck (eR st)) (Aaw dC e q r s t u y z aA aB aC aD aE aF aG aH aI bV g (zb bE Z w [some g]) _ (a3.CH (F':=FN) (M:=[some g]) (C:=[]) [0] [] rfl ⟨rfl,trivial⟩ trivial eL) (a3.zz (F':=FN) (M:=[some g]) (C:=[]) [0] [] ⟨rfl,trivial⟩ trivial eL) a4 a5 a7 a8 a9 bA bB bC bQ d4 bF d5)) ?_;rintro _ w2 ⟨cL,⟨aO,aP,rfl,cM⟩,c1⟩;have d6:=a3.Co cL (AO [0] ⟨rfl,trivial⟩ eL);have bN:=cM.mv (a3.call (M:=[some g]) (Nat.le_refl _) (Cg ⟨.inl ⟨0,rfl⟩,trivial⟩) (fun _ h=>.inl h));refine wA (v:=.slice aO bF.1.length aP) rfl<|wn<|Af<|cr<|wM (v:=.slice j aL.length l) cJ<|wD (fun st=>Br Tryz.underlying31 (eR st))<|wM (v:=I 0) rfl<|wn<|AI ?_;have d7:=d6.nil;have d8:Bl (Ai .i64) 3 w.heap.size w2 (zb bE Z w [none,some g]) none 0 ([]:List Int):=Bl.nil _ _ _ _ _;replace d:=bind_some d;obtain⟨z3,bD,d⟩:=d;refine BY (fun d9 o f=>(d9=.exit 0∧∃a c,Fo X0 32 o∧sl o 1=.slice j aL.length l∧sl o 5=.slice a z3.length c∧Hp FN bE w [ob a,some g] f∧(fun i=>Bl (Ai .i64) 3 w.heap.size f i a c z3∧Sl AA f i q r e.Ar∧Sl (BH (Ai .i64)) f i s t e.As∧Sl AH f i u y e.Ap∧Sl AZ f i z aA e.AJ∧Sl Bb f i aB aC e.AK∧Sl Bq f i aD aE e.AW∧Sl (Ai .i64) f i aF aG e.weights∧Sl Cu f i aH aI e.B5∧Sl (Ai .i64) f i j l aL∧Cz (fun x:Int=>I x) f g 2 bF.2∧Rz f i (some ⟨bV,0,none⟩) (CY q r s t u y z aA aB aC aD aE aF aG aH aI g e)) (zb bE Z w [ob a,some g]))) ?eA ?eB
 case eA=>
  clear d;refine BX (fun dG o f=>∃aJ,∃p,∃m aM,Es aL bF dG aJ p=some z3∧Fo X0 32 o∧sl o 1=.slice j aL.length l∧sl o 5=.slice m aJ.length aM∧sl o 6=.slice aO bF.1.length aP∧sl o 11=.slice j aL.length l∧sl o 12=I (aL.length:Int)∧sl o 13=I p∧Hp FN bE w [ob m,some g] f∧(fun i=>Bl (Ai .i64) 3 w.heap.size f i m aM aJ∧Sl AA f i q r e.Ar∧Sl (BH (Ai .i64)) f i s t e.As∧Sl AH f i u y e.Ap∧Sl AZ f i z aA e.AJ∧Sl Bb f i aB aC e.AK∧Sl Bq f i aD aE e.AW∧Sl (Ai .i64) f i aF aG e.weights∧Sl Cu f i aH aI e.B5∧Sl (Ai .i64) f i j l aL∧Sl (BH (Ai .i64)) f i aO aP bF.1∧Cz (fun x:Int=>I x) f g 2 bF.2∧Rz f i (some ⟨bV,0,none⟩) (CY q r s t u y z aA aB aC aD aE aF aG aH aI g e)) (zb bE Z w [ob m,some g])) dC ?eC ?eD
  case eC=>
   intro st;have ⟨bX,bY,bZ,b4,b5,b6,b7,b8,b9⟩:=Nr a4 a5 a7 a8 a9 bA bB bC bW (mt (a3.D2 cL (AO [0] ⟨rfl,trivial⟩ eL)) Bt);have bO:=(bN.mv Bt);have c2:=c1;have c3:=((bQ.mv (a3.D2 cL (AO [0] ⟨rfl,trivial⟩ eL))).mv Bt);exact⟨([]:List Int),(0:Int),none,0,bD,qo st,sp st 1 cJ,sp st 5 rfl,sp st 6 rfl,sp st 11 rfl,sp st 12 rfl,sp st 13 rfl,d7,d8,bX,bY,bZ,b4,b5,b6,b7,b8,b9,bO,c2,c3⟩
  case eD=>
   rintro(_|dG) e5 e6 ⟨aJ,p,m,aM,bD,dH,bR,bS,bT,bG,bH,aQ,aR,aS,aT,aU,aV,aW,aX,aY,aZ,a0,aK,aN,bI,bJ⟩
   ·exact absurd (show none=some _ from bD) (by simp)
   rw[Es.eq_2] at bD;have d:=bD;clear bD;refine ro dH<|cr<|wD (fun st=>B9 (ee st aQ) (ee st bH))<|wn<|Af ?_;rcases Ae (decide (p<(aL.length:Int))) with bK|bK
   ·replace d:=An d bK;refine Ah rfl bK<|cn<|Af<|AI<|Af<|Al ?_;replace d:=AT d;obtain⟨i6,dI,eE,eF,eG,d⟩:=d;obtain⟨e8,e9,_,eH,rfl,eI⟩:=Sl.Cy aK rfl eF;refine wD (fun st=>Bi (k:=i6) Tryz.underlying31 CM (ee st bG) eH (ee st aQ) eE eG)<|wD (fun st=>Bp (v:=I dI) Bg (eR st) eI rfl)<|wA (v:=I dI) rfl<|wn<|Al<|wM (v:=.slice m aJ.length aM) bS<|wM (v:=.slice aO bF.1.length aP) bT<|wM (v:=I dI) rfl ?_;replace d:=AT d;obtain⟨i7,c4,eJ,eK,eM,d⟩:=d;obtain⟨fA,fB,_,eN,⟨dJ,dK,rfl,c5⟩,eO⟩:=Sl.Cy aN rfl eK;refine wD (fun st=>Bi (k:=i7) Tryz.underlying23 EO (eR st) eN (eR st) eJ eM)<|wD (fun st=>Bp (v:=.slice dJ c4.length dK) CO (eR st) eO rfl) ?_;replace d:=Cl d;obtain⟨dA,d⟩:=d;refine wE (fun st=>G6 (ys:=c4) Tryz.underlying31 HJ rfl rfl (by decide) (eR st) rfl (eR st) aS c5.n (by have:=dA;simp only[maxLen];omega) (by have:=dA;omega) aR.sz) ?_;rintro _ fC ⟨eP,eQ,rfl,bL,bU,eS⟩;have eT:=aR.row bL 0 rfl bU;have eU:=DT eS (aR.CJ bL 0 rfl (fun k hk=>(bU k hk).1));refine wA (v:=.slice eP ((aJ++c4).length) eQ) rfl<|Bj<|CU<|Al ?_;replace d:=AL d;obtain⟨dL,d⟩:=d;refine wD (fun st=>BL (ee st aQ) (eR st) dL)<|wM (v:=I (p+1)) rfl<|Bj ?_;have ⟨cA,cB,cC,cD,cE,cF,cG,cH,cI,bP⟩:=VK aT aU aV aW aX aY aZ a0 aK aN (aR.CJ bL 0 rfl (fun k hk=>(bU k hk).1));have c6:=(bI.gr bL (aR.nq 1 0));have c7:=(bJ.mv (aR.CJ bL 0 rfl (fun k hk=>(bU k hk).1)));refine Bv dG (Nat.lt_succ_self _) (fun st=>?_);exact⟨(aJ++c4),(p+1),eP,eQ,d,qo st,sp st 1 bR,sp st 5 rfl,sp st 6 bT,sp st 11 bG,sp st 12 bH,sp st 13 rfl,eT,eU,cA,cB,cC,cD,cE,cF,cG,cH,cI,bP,c6,c7⟩
   ·replace d:=Ao d bK;refine Aq rfl bK<|DG ?_;obtain rfl:=oi d;refine BF (fun st=>?_);exact⟨rfl,m,aM,qo st,sp st 1 bR,sp st 5 bS,aR,aS,aT,aU,aV,aW,aX,aY,aZ,a0,aK,bI,bJ⟩
 case eB=>
  rintro d9 eZ e7 (⟨rfl,a,c,c8,cN,bM,cO,a2,dM,dN,dO,dP,dQ,dR,dS,dT,dU,cP,eV⟩);refine lf c8<|Bd<|BM<|cr<|wM (v:=.slice a z3.length c) bM ?_;replace d:=Cl d;obtain⟨dV,d⟩:=d;refine wE (fun st=>Aj YT (eR st) (Ck (eR st)) (a159 z3 a c w.heap.size _ _ dV a2)) ?_;rintro _ eW ⟨rfl,cQ,dW⟩;have dB:=cO.gr cQ 0 rfl;have dX:Bl (Ai .i64) 3 w.heap.size eW (zb bE Z w [ob a,some g]) a c (GJ z3):=dW _;have dY:=(bM).trans (show(.slice a z3.length c:Value)=.slice a ((GJ z3).length) c by simp only[LM]);have e0:(.slice a z3.length c:Value)=.slice a ((GJ z3).length) c:=by simp only[LM]
  refine wr<|wM (v:=.slice a ((GJ z3).length) c) dY ?_;replace d:=Cl d;obtain⟨dZ,d⟩:=d;refine wE (fun st=>Aj YU (eR st) (Ck (eR st)) (a160 (GJ z3) a c w.heap.size _ _ dZ dX)) ?_;rintro _ eX ⟨rfl,cR,d0⟩;have eY:=dB.gr cR 0 rfl;have e1:Bl (Ai .i64) 3 w.heap.size eX (zb bE Z w [ob a,some g]) a c (Lib.compact (GJ z3)):=d0 _;refine wD (fun st=>Br Tryz.underlying31 (eR st))<|wM (v:=.slice j aL.length l) cN<|wD (fun st=>Br Tryz.underlying31 (eR st))<|wD (fun st=>B9 (eR st) (eR st))<|wA (v:=.bool (decide (((Lib.compact (GJ z3)).length:Int)<(aL.length:Int)))) rfl<|wn<|Am ?_;obtain rfl:=oi d;refine Av rfl rfl ?_;have c9:=((cP.gr cQ (cO.nq 1 0)).gr cR (dB.nq 1 0));exact⟨dF _ eY.fin,rfl,c9⟩
set_option maxHeartbeats 4000000 in
theorem Acj{eV:Type}{aU:Nat→Prop}{f9:Nat}{bV:IT eV}{eA:eV→(List Int)→Option (Bool×eV)} fN:∀aV aY c9 bI d4 bW (dA:eV) aS aT bY bZ s u q r (bK:Value) bF (Z Za:Nat→Prop) w (aO:Cb Tryz.prog bK aU f9 bV (v1 (FE (Ai .i64))) BE eA) (dK:f9≤w.heap.size) (eB:BC aU [some s,some u,some q,some r,bF] w) (eC:∀b,Z b→¬aU b∧some b∉[some s,some u,some q,some r,bF]) (eD:∀b,Z b→Za b) (dB:∀b,Za b→¬aU b∧some b∉[some s,some u,some q,some r,bF]) (cQ:Sl (Ai .i64) w Z aS aT aY) (cR:Sl (Ai .i64) w Z bY bZ d4) (dL:Bk w s 31 #[.slice bY d4.length bZ]) (dM:Bk w u 148 #[bK]) (dN:Bk w q 3 #[I bW]) (dO:Bk w r 199 #[.func (.func 155) #[] #[pt s 0,pt u 0,pt q 0,pt r 0]]) (a:bV dA w Z bF) dC (m:EC fN eA aV aY c9 bI d4 bW dA=some dC),
 BO Tryz.prog 155 #[.slice aS aY.length aT,I c9,I bI,pt s 0,pt u 0,pt q 0,pt r 0] w (fun v w'=>∃dP dQ o',BT (FU aU [some s,some u,some q,some r,bF]) w w'∧BE.R w' (zf Z w [some s,some u,some q,some r,o']) v dC.1∧Bk w' s 31 #[.slice dP dC.2.1.length dQ]∧Sl (Ai .i64) w' (zf Z w [some s,some u,some q,some r,o']) dP dQ dC.2.1∧Bk w' u 148 #[bK]∧Bk w' q 3 #[I bW]∧Bk w' r 199 #[.func (.func 155) #[] #[pt s 0,pt u 0,pt q 0,pt r 0]]∧(∀k,o'=some k→(bF=some k∨w.heap.size≤k)∧k<w'.heap.size)∧bV dC.2.2 w' (zf Z w [some s,some u,some q,some r,o']) o'):=by
 intro aV
 induction aV with
 |zero=>
  intro aY c9 bI d4 bW dA aS aT bY bZ s u q r bK bF Z Za w aO dK eB eC eD dB cQ cR dL dM dN dO a dC m;exact absurd (show none=some _ from m) (by simp)
 |succ aV ih=>
  intro aY c9 bI d4 bW dA aS aT bY bZ s u q r bK bF Z Za w aO dK eB eC eD dB cQ cR dL dM dN dO a dC m;rw[EC.eq_2] at m;refine rq (N:=37) Tryz.func155 fun gR ha gS=>?_;have dD:=sA 0 ha;have fO:=sA 1 ha;have eE:=sA 2 ha;have fP:=sA 3 ha;have fQ:=sA 4 ha;have fR:=sA 5 ha;have fS:=sA 6 ha;clear ha;obtain⟨a8,eF,bT,fI,gL,dE⟩:=Ky eB eC dB;have ⟨cM,d5⟩:=LO cQ cR (AR (L:=[some s,some u,some q,some r,bF]) fI w);have eG:=aO.mz a (AR (L:=[some s,some u,some q,some r,bF]) fI w);refine cr<|wA (v:=.bool false) rfl<|wn<|Af<|cr<|wM (v:=I bI) eE<|wD (fun st=>Dp (eR st) (eR st))<|wn ?_;rcases Ae (bI==0) with cX|cX
  ·replace m:=An m cX;refine Ah rfl cX<|cr<|wM (v:=.slice aS aY.length aT) dD<|BI rfl rfl (fun st=>By (n:=1) (l:=[.slice aS aY.length aT]) (CB:= #[.slice aS aY.length aT]) (ee st fP) (eR st) EO dL rfl rfl (show 0+1≤1 by decide) (Bh rfl) rfl) ?_;rintro _ w2 bU;have bL:=bT.gr bU.gr 0 rfl;refine wn<|Af<|Al ?_;have dR:=(dM.gr bU.gr (bT.nq 1 0));refine wD (fun st=>Ag (v:=bK) PH (ee st fQ) dR rfl)<|wM (v:=.slice aS aY.length aT) dD ?_;have cN:=(cM.mv (bT.BA bU.gr 0 rfl));have fT:bV dA w2 (ZZ aU a8 Z w.heap.size [some s,some u,some q,some r,bF]) bF:=(aO.mg eG bT bU.gr 0 rfl 4 rfl rfl (bT.BA bU.gr 0 rfl));replace m:=bind_some m;obtain⟨fU,gA,m⟩:=m;refine wE (fun st=>FY (aO.call dA aY fU _ (ZZ aU a8 Z w.heap.size [some s,some u,some q,some r,bF]) (ZC aU [bF]) bF #[.slice aS aY.length aT] (Nat.le_trans dK bL.sz) (bL.zz (F':=aU) (M:=[bF]) (C:=[]) [4] [] ⟨rfl,trivial⟩ trivial (fun _ h=>.inl h)) I1 fT ⟨_,rfl,⟨_,_,rfl,(cN.mv (bL.mz (F':=aU) (M:=[bF]) (C:=[]) [4] [] ⟨rfl,trivial⟩ trivial (fun _ h=>.inl h)))⟩⟩ gA) (eR st) (Ck (eR st))) ?_;rintro _ gM ⟨eH,cO,dF,rfl,gB⟩;have fJ:=bL.EH cO (AO [4] ⟨rfl,trivial⟩ (fun _ h=>h)) 4 rfl dF;have fV:bV fU.2 gM (ZZ aU a8 Z w.heap.size [some s,some u,some q,some r,eH]) eH:=aO.mz gB (bL.call (M:=[eH]) (Nat.le_refl _) (Cg ⟨.inr (hw dF 4),trivial⟩) (CT (L:=[some s,some u,some q,some r,bF]) (y:=eH) 4 (gm 0)));refine wA (v:=.bool fU.1) rfl<|wn<|Am<|AG ?_;obtain rfl:=oi m;refine Av rfl rfl ?_;have eW:=(bU.bk.Co cO (bL.CI 0 rfl [4] rfl ⟨rfl,trivial⟩ (fun _ h=>h)));have d6:=(cN.mv (bL.HS cO (AO [4] ⟨rfl,trivial⟩ (fun _ h=>h)) 4 rfl (fun k hk=>(dF k hk).1)));have eX:=(dR.Co cO (bL.CI 1 rfl [4] rfl ⟨rfl,trivial⟩ (fun _ h=>h)));have eY:=((dN.gr bU.gr (bT.nq 2 0)).Co cO (bL.CI 2 rfl [4] rfl ⟨rfl,trivial⟩ (fun _ h=>h)));have eZ:=((dO.gr bU.gr (bT.nq 3 0)).Co cO (bL.CI 3 rfl [4] rfl ⟨rfl,trivial⟩ (fun _ h=>h)));exact⟨aS,aT,eH,dE _ fJ.fin,rfl,eW,d6.mv (AU (BB [0,1,2,3,4] ⟨rfl,rfl,rfl,rfl,rfl,trivial⟩)),eX,eY,eZ,fJ.mq 4 [0,1,2,3] (M:=[some s,some u,some q,some r]) ⟨rfl,rfl,rfl,rfl,trivial⟩ eF,aO.mz fV (AU (BB [0,1,2,3,4] ⟨rfl,rfl,rfl,rfl,rfl,trivial⟩))⟩
  ·replace m:=Ao m cX;refine Aq rfl cX<|cn<|Af<|cr<|wM (v:=I c9) fO<|wA (v:=I c9) rfl<|wn<|AI ?_;replace m:=bind_some m;obtain⟨z5,cP,m⟩:=m;refine BY (fun fW bM aX=>(fW=.ret∧∃bG,z5=.inl bG∧∃a3 a4,∃bO,Fo X0 37 bM∧sl bM 10=.bool bG.1∧Hp aU a8 w [some s,some u,some q,some r,bO] aX∧(fun cS=>Sl (Ai .i64) aX cS a3 a4 bG.2.1∧bV bG.2.2 aX cS bO∧Bk aX s 31 #[.slice a3 bG.2.1.length a4]∧Bk aX u 148 #[bK]∧Bk aX q 3 #[I bW]∧Bk aX r 199 #[.func (.func 155) #[] #[pt s 0,pt u 0,pt q 0,pt r 0]]) (ZZ aU a8 Z w.heap.size [some s,some u,some q,some r,bO]))∨(fW=.exit 0∧∃bG,z5=.inr bG∧∃a5 a7,∃bP,Fo X0 37 bM∧Hp aU a8 w [some s,some u,some q,some r,bP] aX∧(fun cS=>Sl (Ai .i64) aX cS a5 a7 bG.1∧bV bG.2 aX cS bP∧Bk aX s 31 #[.slice a5 bG.1.length a7]∧Bk aX u 148 #[bK]∧Bk aX q 3 #[I bW]∧Bk aX r 199 #[.func (.func 155) #[] #[pt s 0,pt u 0,pt q 0,pt r 0]]) (ZZ aU a8 Z w.heap.size [some s,some u,some q,some r,bP]))) ?gC ?gD
   case gC=>
    clear m;refine BX (fun fX bM aX=>∃c,∃a9,∃bJ,∃bA bB,∃j,E3 (EC fN eA aV) aY bI bW fX c a9 bJ=some z5∧Fo X0 37 bM∧sl bM 0=.slice aS aY.length aT∧sl bM 2=I bI∧sl bM 5=pt q 0∧sl bM 6=pt r 0∧sl bM 11=I c∧Hp aU a8 w [some s,some u,some q,some r,j] aX∧(fun cS=>Sl (Ai .i64) aX cS bA bB a9∧bV bJ aX cS j∧Sl (Ai .i64) aX cS aS aT aY∧Bk aX s 31 #[.slice bA a9.length bB]∧Bk aX u 148 #[bK]∧Bk aX q 3 #[I bW]∧Bk aX r 199 #[.func (.func 155) #[] #[pt s 0,pt u 0,pt q 0,pt r 0]]) (ZZ aU a8 Z w.heap.size [some s,some u,some q,some r,j])) fN ?gE ?gF
    case gE=>
     intro st;exact⟨c9,d4,dA,bY,bZ,bF,cP,qo st,sp st 0 dD,sp st 2 eE,sp st 5 fR,sp st 6 fS,sp st 11 rfl,bT,d5,eG,cM,dL,dM,dN,dO⟩
    case gF=>
     rintro(_|fX) gT dS ⟨c,a9,bJ,bA,bB,j,cP,fY,dT,cT,dU,dV,bQ,fK,bR,dW,b4,cY,cZ,b5,b6⟩
     ·exact absurd (show none=some _ from cP) (by simp)
     rw[E3.eq_2] at cP;have m:=cP;clear cP;refine ro fY<|Af<|cr<|wM (v:=I c) bQ<|wD (fun st=>Ag (v:=I bW) Bg (ee st dU) b5 rfl)<|wM (v:=I bI) cT ?_;replace m:=AL m;obtain⟨gG,m⟩:=m;refine wD (fun st=>Ej (eR st) (eR st) gG)<|wD (fun st=>HN (eR st) (eR st))<|wn ?_;rcases Ae (decide (c≤(bW-bI))) with c0|c0
     ·replace m:=An m c0;refine Ah rfl c0<|cn<|Af<|AI<|Af ?_;have gH:=fK.nil;have fL:=gH.nil;have e0:=b6;replace m:=Cl m;obtain⟨fZ,m⟩:=m;have d7:=((b4.mv Bt).mv Bt);replace m:=Cl m;obtain⟨eI,m⟩:=m;replace m:=AL m;obtain⟨f0,m⟩:=m;replace m:=AL m;obtain⟨f1,m⟩:=m;obtain⟨gN,aP⟩:∃gV:(Nat→Bool)→(Nat→Value)→World→Prop,gV=(fun D V aX=>∃(aA:Option Nat) (x:Option Addr) (aB:Nat) (aJ:Option Nat) (p:Option Addr) (aN:Nat),Hp aU a8 w [aA,aJ,some s,some u,some q,some r,j] aX∧Ext dS aX∧(∀c1,Mv dS (ZZ aU a8 c1 w.heap.size [none,none,some s,some u,some q,some r,j]) aX (ZZ aU a8 c1 w.heap.size [aA,aJ,some s,some u,some q,some r,j]))∧(∀aV,aA=some aV→dS.heap.size≤aV)∧(∀aV,aJ=some aV→dS.heap.size≤aV)∧(D 2=false→aA=none)∧(D 4=false→aJ=none)∧(D 0=true→V 0=.func (.func 155) #[] #[pt s 0,pt u 0,pt q 0,pt r 0])∧(D 1=true→V 1=.slice aS aY.length aT)∧(D 2=true→D 5=false→V 2=.slice x ((aY).length) aB∧aA=ob x∧Bl (Ai .i64) 3 w.heap.size aX (ZZ aU a8 Z w.heap.size [aA,aJ,some s,some u,some q,some r,j]) x aB aY)∧(D 3=true→V 3=I c)∧(D 4=true→V 4=.slice p (([c]).length) aN∧aJ=ob p∧Bl (Ai .i64) 3 w.heap.size aX (ZZ aU a8 Z w.heap.size [aA,aJ,some s,some u,some q,some r,j]) p aN [c])∧(D 5=true→V 5=.slice x ((aY++[c]).length) aB∧aA=ob x∧Bl (Ai .i64) 3 w.heap.size aX (ZZ aU a8 Z w.heap.size [aA,aJ,some s,some u,some q,some r,j]) x aB (aY++[c]))∧(D 6=true→V 6=I c)∧(D 7=true→V 7=I (c+1))∧(D 8=true→V 8=I bI)∧(D 9=true→V 9=I (bI-1))):=⟨_,rfl⟩;refine JL 10 gN mixed rfl rfl (by rw[aP];exact⟨none,none,0,none,none,0,(fL.ext (C8 _)),C8 _,fun _=>Ac (C8 _),fun _ aK=>(by cases aK),fun _ aK=>(by cases aK),fun _=>rfl,fun _=>rfl,fun aK=>absurd (show false=true from aK) (by decide),fun aK=>absurd (show false=true from aK) (by decide),fun aK=>absurd (show false=true from aK) (by decide),fun aK=>absurd (show false=true from aK) (by decide),fun aK=>absurd (show false=true from aK) (by decide),fun aK=>absurd (show false=true from aK) (by decide),fun aK=>absurd (show false=true from aK) (by decide),fun aK=>absurd (show false=true from aK) (by decide),fun aK=>absurd (show false=true from aK) (by decide),fun aK=>absurd (show false=true from aK) (by decide)⟩)
          ⟨sj (k:=0) rfl (fun D V a' w' K a=>by
               rw[aP] at a;refine X4 a fun aA x aB aJ a=>X2 a fun p aN a=>Y8 a fun aC aQ aW d f i g _ a=>Y8 a fun aD z aE o aF aG aL aH a=>?_;have aI:=a;exact(Ag (v:=.func (.func 155) #[] #[pt s 0,pt u 0,pt q 0,pt r 0]) Tm (es ((K.out 6 rfl).trans dV)) (e0.ext aQ) rfl).mono fun v BD ⟨bC,bD⟩=>by subst bC;subst bD;rw[aP];exact⟨aA,x,aB,aJ,p,aN,aC,aQ,aW,d,f,i,g,fun _=>rfl,aD,z,aE,o,aF,aG,aL,aH,aI⟩),
           sj (k:=1) rfl (fun D V a' w' K a=>by
               rw[aP] at a;refine X4 a fun aA x aB aJ a=>X2 a fun p aN a=>Y8 a fun aC aQ aW d f i g aM a=>Y8 a fun _ z aE o aF aG aL aH a=>?_;have aI:=a;exact(Au (v:=.slice aS aY.length aT) (es ((K.out 0 rfl).trans dT))).mono fun v BD ⟨bC,bD⟩=>by subst bC;subst bD;rw[aP];exact⟨aA,x,aB,aJ,p,aN,aC,aQ,aW,d,f,i,g,aM,fun _=>rfl,z,aE,o,aF,aG,aL,aH,aI⟩),
           sj (k:=2) rfl (fun D V a' w' K a=>by
               rw[aP] at a;refine X4 a fun _ _ _ aJ a=>X2 a fun p aN a=>Y8 a fun aC aQ aW d f i g aM a=>Y8 a fun aD _ aE o _ aG aL aH a=>?_;have aI:=a;have dX:=aD (K.dn 1 rfl);have dG:=i K.me;subst dG;refine(Aj Mq rfl (Ck (es (t:=27) (v:=.slice aS aY.length aT) ((K.dq 1 27).trans dX))) (a105 aY aS aT FN _ ((d7.mv (aW _)).JM (fun _ _ _ _ _ _ h=>h)) fZ)).mono ?_;rintro v BD ⟨bE,c2,eJ,rfl,gO,eK⟩;have aZ:=Rh eK;rw[aP];exact⟨(ob c2),c2,eJ,aJ,p,aN,(aC.row bE 0 rfl aZ),(Ext.trans aQ bE),(fun c1=>(aW c1).trans (aC.CJ bE 0 rfl (fun aV aR=>(aZ aV aR).1))),(H5 d aQ.size aZ),f,fun aK=>absurd (show true=false from aK) (by decide),g,aM,aD,fun _ _=>⟨rfl,rfl,aC.OZ (fun _ _ _ _ _ _ h=>h) eK⟩,aE,fun aK=>⟨(o aK).1,(o aK).2.1,((o aK).2.2.gr bE (fun aV aR=>aC.ne 1 0 rfl (congrArg some ((o aK).2.1.trans aR)) rfl) (aC.CJ bE 0 rfl (fun aV aR=>(aZ aV aR).1)))⟩,fun aK=>(Nq K.me (K.down 5 _ rfl aK 2 rfl)).elim,aG,aL,aH,aI⟩),
           sj (k:=3) rfl (fun D V a' w' K a=>by
               rw[aP] at a;refine X4 a fun aA x aB aJ a=>X2 a fun p aN a=>Y8 a fun aC aQ aW d f i g aM a=>Y8 a fun aD z _ o aF aG aL aH a=>?_;have aI:=a;exact(Au (v:=I c) (es ((K.out 11 rfl).trans bQ))).mono fun v BD ⟨bC,bD⟩=>by subst bC;subst bD;rw[aP];exact⟨aA,x,aB,aJ,p,aN,aC,aQ,aW,d,f,i,g,aM,aD,z,fun _=>rfl,o,aF,aG,aL,aH,aI⟩),
           sj (k:=4) rfl (fun D V a' w' K a=>by
               rw[aP] at a;refine X4 a fun aA x aB _ a=>X2 a fun _ _ a=>Y8 a fun aC aQ aW d f i g aM a=>Y8 a fun aD z aE _ aF aG aL aH a=>?_;have aI:=a;have dY:=aE (K.dn 3 rfl);have dG:=g K.me;subst dG;refine(BR (e:=3) (vs:= #[(0,I c)]) (cs:= #[I c]) (Ik (es (t:=29) (v:=I c) ((K.dq 3 29).trans dY))) (by kernel_rfl)).mono ?_;rintro v BD ⟨gI,rfl,cU⟩;have aZ:=LN cU;have bE:=cU.gr;rw[aP];exact⟨aA,x,aB,(ob (some ⟨gI,0,none⟩)),(some ⟨gI,0,none⟩),1,(aC.row bE 1 rfl aZ),(Ext.trans aQ bE),(fun c1=>(aW c1).trans (aC.CJ bE 1 rfl (fun aV aR=>(aZ aV aR).1))),d,(H5 f aQ.size aZ),i,fun aK=>absurd (show true=false from aK) (by decide),aM,aD,fun aK dZ=>⟨(z aK dZ).1,(z aK dZ).2.1,((z aK dZ).2.2.gr bE (fun aV aR=>aC.ne 0 1 rfl (congrArg some ((z aK dZ).2.1.trans aR)) rfl) (aC.CJ bE 1 rfl (fun aV aR=>(aZ aV aR).1)))⟩,aE,fun _=>⟨rfl,rfl,La (BG:=[[I c]]) cU.bk (Nat.le_trans aC.sz (Nat.le_of_eq cU.Fq.symm)) ⟨rfl,trivial⟩ rfl (by simp[maxLen])⟩,fun aK=>⟨(aF aK).1,(aF aK).2.1,((aF aK).2.2.gr bE (fun aV aR=>aC.ne 0 1 rfl (congrArg some ((aF aK).2.1.trans aR)) rfl) (aC.CJ bE 1 rfl (fun aV aR=>(aZ aV aR).1)))⟩,aG,aL,aH,aI⟩),
           sj (k:=5) rfl (fun D V a' w' K a=>by
               rw[aP] at a;refine X4 a fun _ x aB _ a=>X2 a fun p aN a=>Y8 a fun aC aQ aW d f _ g aM a=>Y8 a fun aD z aE o _ aG aL aH a=>?_;have aI:=a;obtain⟨e1,eM,e2⟩:=z (K.dn 2 rfl) K.me;subst eM;obtain⟨d0,b7,e3⟩:=o (K.dn 4 rfl);subst b7;refine(G6 (ys:=[c]) Tryz.underlying31 HJ rfl rfl (by decide) (es (t:=28) (v:=.slice x ((aY).length) aB) ((K.dq 2 28).trans e1)) rfl (es (t:=30) (v:=.slice p (([c]).length) aN) ((K.dq 4 30).trans d0)) e2 (e3.JM (fun _ _ _ _ _ _ h=>h)) (by have:=eI;simp only[maxLen];omega) (by have:=eI;omega) aC.sz).mono ?_;rintro v BD ⟨c2,eJ,rfl,bE,aZ,f2⟩;rw[aP];exact⟨(ob c2),c2,eJ,(ob p),p,aN,(aC.row bE 0 rfl aZ),(On aQ bE d),(fun c1=>(aW c1).trans (aC.CJ bE 0 rfl (fun aV aR=>(aZ aV aR).1))),(H5 d aQ.size aZ),f,fun aK=>absurd (K.dn 2 rfl) (by rw[show D 2=false from aK];decide),g,aM,aD,fun _ aK=>absurd (show true=false from aK) (by decide),aE,fun aK=>⟨(o aK).1,rfl,((o aK).2.2.gr bE (fun aV aR=>aC.ne 1 0 rfl (congrArg some aR) rfl) (aC.CJ bE 0 rfl (fun aV aR=>(aZ aV aR).1)))⟩,fun _=>⟨rfl,rfl,DT f2 (aC.CJ bE 0 rfl (fun aV aR=>(aZ aV aR).1))⟩,aG,aL,aH,aI⟩),
           sj (k:=6) rfl (fun D V a' w' K a=>by
               rw[aP] at a;refine X4 a fun aA x aB aJ a=>X2 a fun p aN a=>Y8 a fun aC aQ aW d f i g aM a=>Y8 a fun aD z aE o aF _ aL aH a=>?_;have aI:=a;exact(Au (v:=I c) (es ((K.out 11 rfl).trans bQ))).mono fun v BD ⟨bC,bD⟩=>by subst bC;subst bD;rw[aP];exact⟨aA,x,aB,aJ,p,aN,aC,aQ,aW,d,f,i,g,aM,aD,z,aE,o,aF,fun _=>rfl,aL,aH,aI⟩),
           sj (k:=7) rfl (fun D V a' w' K a=>by
               rw[aP] at a;refine X4 a fun aA x aB aJ a=>X2 a fun p aN a=>Y8 a fun aC aQ aW d f i g aM a=>Y8 a fun aD z aE o aF aG _ aH a=>?_;have aI:=a;have d1:=aG (K.dn 6 rfl);exact(BL (es (t:=32) (v:=I c) ((K.dq 6 32).trans d1)) (ec (v:=I 1)) f0).mono fun v BD ⟨bC,bD⟩=>by subst bC;subst bD;rw[aP];exact⟨aA,x,aB,aJ,p,aN,aC,aQ,aW,d,f,i,g,aM,aD,z,aE,o,aF,aG,fun _=>rfl,aH,aI⟩),
           sj (k:=8) rfl (fun D V a' w' K a=>by
               rw[aP] at a;refine X4 a fun aA x aB aJ a=>X2 a fun p aN a=>Y8 a fun aC aQ aW d f i g aM a=>Y8 a fun aD z aE o aF aG aL _ a=>?_;have aI:=a;exact(Au (v:=I bI) (es ((K.out 2 rfl).trans cT))).mono fun v BD ⟨bC,bD⟩=>by subst bC;subst bD;rw[aP];exact⟨aA,x,aB,aJ,p,aN,aC,aQ,aW,d,f,i,g,aM,aD,z,aE,o,aF,aG,aL,fun _=>rfl,aI⟩),
           sj (k:=9) rfl (fun D V a' w' K a=>by
               rw[aP] at a;refine X4 a fun aA x aB aJ a=>X2 a fun p aN a=>Y8 a fun aC aQ aW d f i g aM a=>Y8 a fun aD z aE o aF aG aL aH a=>?_;have aI:=a;have d2:=aH (K.dn 8 rfl);exact(Ej (es (t:=34) (v:=I bI) ((K.dq 8 34).trans d2)) (ec (v:=I 1)) f1).mono fun v BD ⟨bC,bD⟩=>by subst bC;subst bD;rw[aP];exact⟨aA,x,aB,aJ,p,aN,aC,aQ,aW,d,f,i,g,aM,aD,z,aE,o,aF,aG,aL,aH,fun _=>rfl⟩),trivial⟩ ?_
      intro gW gX gP a0 a2;rw[aP] at a2;clear aP;refine X4 a2 fun aA x aB aJ a2=>X2 a2 fun p aN a2=>Y8 a2 fun dH b8 dI d f i g aM a2=>Y8 a2 fun aD z aE o aF aG aL aH a2=>?_;have aI:=a2;clear a2;have e4:=aM (a0 0 (by decide));have dX:=aD (a0 1 (by decide));have dY:=aE (a0 3 (by decide));obtain⟨d0,b7,gK⟩:=o (a0 4 (by decide));subst b7;obtain⟨e5,eN,e6⟩:=aF (a0 5 (by decide));subst eN;have d1:=aG (a0 6 (by decide));have e7:=aL (a0 7 (by decide));have d2:=aH (a0 8 (by decide));have e8:=aI (a0 9 (by decide));have b9:=dH.erase 0;have d8:=dH.N7 0 rfl e6;have c3:=((((bR.mv Bt).mv Bt).mv (dI _)).mv (AD 0));have e9:=(cY.ext b8);have fA:=(cZ.ext b8);have fB:=(b5.ext b8);have fC:=(b6.ext b8);replace m:=bind_some m;obtain⟨bS,f3,m⟩:=m;have f4:bV bJ gP (ZZ aU a8 Z w.heap.size [ob p,some s,some u,some q,some r,j]) j:=(aO.mz (aO.me (aO.mz (aO.mz dW Bt) Bt) fL b8 (dI _)) (AD 0));refine wE (fun st=>Jw (first:= #[]) (cap:= #[pt s 0,pt u 0,pt q 0,pt r 0]) (vs:= #[.slice x ((aY++[c]).length) aB,I (c+1),I (bI-1)]) (all:= #[.slice x ((aY++[c]).length) aB,I (c+1),I (bI-1),pt s 0,pt u 0,pt q 0,pt r 0]) Tn (ee st e4) (Ek (ee st e5) (ee st e7) (ee st e8)) (by simp) (ih (aY++[c]) (c+1) (bI-1) a9 bW bJ x aB bA bB s u q r bK j (ZZ aU a8 Z w.heap.size [ob p,some s,some u,some q,some r,j]) (ZZ aU a8 Z w.heap.size [ob p,some s,some u,some q,some r,j]) _ aO (Nat.le_trans dK dH.sz) (b9.CH (F':=aU) (M:=[some s,some u,some q,some r,j]) (C:=[]) [1,2,3,4,5] [] rfl ⟨rfl,rfl,rfl,rfl,rfl,trivial⟩ trivial (fun _ h=>.inl h)) (b9.zz (F':=aU) (M:=[some s,some u,some q,some r,j]) (C:=[]) [1,2,3,4,5] [] ⟨rfl,rfl,rfl,rfl,rfl,trivial⟩ trivial (fun _ h=>.inl h)) (fun _ h=>h) (b9.zz (F':=aU) (M:=[some s,some u,some q,some r,j]) (C:=[]) [1,2,3,4,5] [] ⟨rfl,rfl,rfl,rfl,rfl,trivial⟩ trivial (fun _ h=>.inl h)) d8 c3 e9 fA fB fC f4 bS f3)) ?_;rintro _ eO ⟨cA,cB,bH,eP,rfl,c4,c5,c6,c7,c8,bX,f5⟩;have fM:=b9.EH eP (AO [1,2,3,4,5] ⟨rfl,rfl,rfl,rfl,rfl,trivial⟩ (fun _ h=>h)) 5 rfl bX;have bN:=c5.mv (b9.call (M:=[some s,some u,some q,some r,bH]) (Nat.le_refl _) (Cg ⟨.inl ⟨1,rfl⟩,.inl ⟨2,rfl⟩,.inl ⟨3,rfl⟩,.inl ⟨4,rfl⟩,.inr (hw bX 5),trivial⟩) (CT (L:=[ob p,some s,some u,some q,some r,j]) (y:=bH) 5 (gm 4)));have d3:bV bS.2.2 eO (ZZ aU a8 Z w.heap.size [ob p,some s,some u,some q,some r,bH]) bH:=aO.mz f5 (b9.call (M:=[some s,some u,some q,some r,bH]) (Nat.le_refl _) (Cg ⟨.inl ⟨1,rfl⟩,.inl ⟨2,rfl⟩,.inl ⟨3,rfl⟩,.inl ⟨4,rfl⟩,.inr (hw bX 5),trivial⟩) (CT (L:=[ob p,some s,some u,some q,some r,j]) (y:=bH) 5 (gm 4)));refine wn ?_;rcases Ae (bS.1) with cC|cC
      ·replace m:=An m cC;refine Ah rfl cC<|cr<|wA (v:=.bool true) rfl<|wn<|Am<|CN<|AG ?_;have gJ:=fM.erase 0;obtain rfl:=oi m;have cL:=(bN.mv (AD 0));have f6:bV bS.2.2 eO (ZZ aU a8 Z w.heap.size [some s,some u,some q,some r,bH]) bH:=(aO.mz d3 (AD 0));have fD:=c4;have fE:=c6;have fF:=c7;have fG:=c8;refine BF (fun st=>?_);exact .inl ⟨rfl,(true,bS.2.1,bS.2.2),rfl,cA,cB,bH,qo st,sp st 10 rfl,gJ,cL,f6,fD,fE,fF,fG⟩
      ·replace m:=Ao m cC;refine Aq rfl cC<|Cp<|CU<|Al<|wM (v:=I c) bQ ?_;replace m:=AL m;obtain⟨f7,m⟩:=m;refine wD (fun st=>BL (eR st) (eR st) f7)<|wA (v:=I (c+1)) rfl<|Bj ?_;have f8:=fM.erase 0;have cD:=(bN.mv (AD 0));have fH:bV bS.2.2 eO (ZZ aU a8 Z w.heap.size [some s,some u,some q,some r,bH]) bH:=(aO.mz d3 (AD 0));have dJ:=((((((b4.mv Bt).mv Bt).mv (dI _)).mv (AD 0)).mv (b9.HS eP (AO [1,2,3,4,5] ⟨rfl,rfl,rfl,rfl,rfl,trivial⟩ (fun _ h=>h)) 5 rfl (fun k hk=>(bX k hk).1))).mv (AD 0));have eQ:=c4;have eS:=c6;have eT:=c7;have eU:=c8;refine Bv fX (Nat.lt_succ_self _) (fun st=>?_);exact⟨(c+1),bS.2.1,bS.2.2,cA,cB,bH,m,qo st,sp st 0 dT,sp st 2 cT,sp st 5 dU,sp st 6 dV,sp st 11 rfl,f8,cD,fH,dJ,eQ,eS,eT,eU⟩
     ·replace m:=Ao m c0;refine Aq rfl c0<|DG ?_;obtain rfl:=oi m;refine BF (fun st=>?_);exact .inr ⟨rfl,(a9,bJ),rfl,bA,bB,j,qo st,fK,bR,dW,cY,cZ,b5,b6⟩
   case gD=>
    rintro fW gQ gU (⟨rfl,bG,rfl,a3,a4,bO,cV,d9,cE,cF,cW,cG,cH,cI,cJ⟩|⟨rfl,bG,rfl,a5,a7,bP,cV,cE,cK,cW,cG,cH,cI,cJ⟩)
    ·skip
     replace m:=C4 m;refine lf cV<|CN ?_;obtain rfl:=oi m;refine Av rfl d9 ?_;exact⟨a3,a4,bO,dE _ cE.fin,rfl,cG,cF.mv (AU (BB [0,1,2,3,4] ⟨rfl,rfl,rfl,rfl,rfl,trivial⟩)),cH,cI,cJ,cE.mq 4 [0,1,2,3] (M:=[some s,some u,some q,some r]) ⟨rfl,rfl,rfl,rfl,trivial⟩ eF,aO.mz cW (AU (BB [0,1,2,3,4] ⟨rfl,rfl,rfl,rfl,rfl,trivial⟩))⟩
    ·skip
     replace m:=C5 m;refine lf cV<|Bd<|BM<|cr<|wA (v:=.bool false) rfl<|wn<|Am ?_;obtain rfl:=oi m;refine Av rfl rfl ?_;exact⟨a5,a7,bP,dE _ cE.fin,rfl,cG,cK.mv (AU (BB [0,1,2,3,4] ⟨rfl,rfl,rfl,rfl,rfl,trivial⟩)),cH,cI,cJ,cE.mq 4 [0,1,2,3] (M:=[some s,some u,some q,some r]) ⟨rfl,rfl,rfl,rfl,trivial⟩ eF,aO.mz cW (AU (BB [0,1,2,3,4] ⟨rfl,rfl,rfl,rfl,rfl,trivial⟩))⟩
theorem Aay{bO:Type}{q:Nat→Prop}{cE:Nat}{aV:IT bO}{bD:bO→(List Int)→Option (Bool×bO)} bE aJ(bP:bO)(aL:Value) aR(Z:Nat→Prop) w(i:Cb Tryz.prog aL q cE aV (v1 (FE (Ai .i64))) BE bD)(cF:cE≤w.heap.size)(cG:BC q [aR] w)(cH:∀b,Z b→¬q b∧some b∉[aR])(c0:aV bP w Z aR) bQ(f:FQ bE bD aJ bP=some bQ):
 BO Tryz.prog 113 #[I aJ,aL] w (fun v w'=>∃o',BT (FU q [aR]) w w'∧(Nh (FE (Ai .i64)) BE).R w' (zf Z w [o']) v (bQ.1,bQ.2.1)∧(∀k,o'=some k→(aR=some k∨w.heap.size≤k)∧k<w'.heap.size)∧aV bQ.2.2 w' (zf Z w [o']) o'):=by
 unfold FQ at f;refine rq (N:=21) Tryz.func113 fun c3 ha c4=>?_;have b5:=sA 0 ha;have b6:=sA 1 ha;clear ha;obtain⟨aS,cI,bF,cJ,b7⟩:=Il cG cH;have b8:=i.mz c0 (AR (L:=[aR]) cJ w);refine cr<|wE (fun st=>BN (v:=I aJ) (cs:= #[I aJ]) (ee st b5) rfl) ?_;rintro _ w1 ⟨b1,rfl,aW⟩;have bG:=bF.nb aW;have cW:=bF.BJ aW;refine wE (fun st=>BN (v:=aL) (cs:= #[aL]) (ee st b6) i.fc) ?_;rintro _ w2 ⟨b2,rfl,aM⟩;have bH:=bG.nb aM;have cX:=bG.BJ aM;refine wE (fun st=>B8 (cs:= #[.slice none 0 0]) NV rfl) ?_;rintro _ c8 ⟨b3,rfl,aC⟩;have bI:=bH.nb aC;have cY:=bH.BJ aC;refine wA (v:=.bool false) rfl<|wn<|Vz<|cr<|wE (fun st=>B8 (cs:= #[.nilFunc]) Wb rfl) ?_;rintro _ c9 ⟨g,rfl,x⟩;have aN:=bI.nb x;have cZ:=bI.BJ x;refine wr<|wD (fun st=>Dl (vs:= #[]) (us:= #[pt b3 0,pt b2 0,pt b1 0,pt g 0]) Hv (Zq (eR st) (eR st) (eR st) (eR st)))<|BI rfl rfl (fun st=>By (n:=1) (l:=[.func (.func 155) #[] #[pt b3 0,pt b2 0,pt b1 0,pt g 0]]) (CB:= #[.func (.func 155) #[] #[pt b3 0,pt b2 0,pt b1 0,pt g 0]]) (eR st) (eR st) Z8 x.bk rfl rfl (show 0+1≤1 by decide) (Bh rfl) rfl) ?_;rintro _ c1 aD;have cK:=aN.gr aD.gr 0 rfl;refine wn<|Af<|VA<|BM<|Af<|Af<|Al ?_;have a9:=((((aW.bk.ext aM.gr).ext aC.gr).ext x.gr).gr aD.gr (aN.nq 3 0));refine wD (fun st=>Ag (v:=I aJ) Bg (eR st) a9 rfl) ?_;replace f:=AL f;obtain⟨cL,f⟩:=f;refine wD (fun st=>BL (eR st) (eR st) cL)<|wM (v:=I 0) rfl<|wn<|AI ?_;replace f:=bind_some f;obtain⟨u,aO,f⟩:=f;refine BY (fun cM r aA=>(cM=.exit 0∧∃c d,∃o,Fo X0 21 r∧sl r 4=pt b3 0∧sl r 5=.bool u.1∧Hp q aS w [some g,some b3,some b2,some b1,o] aA∧(fun bJ=>Sl (Ai .i64) aA bJ c d u.2.1∧Bk aA b3 31 #[.slice c u.2.1.length d]∧aV u.2.2 aA bJ o) (ZZ q aS Z w.heap.size [some g,some b3,some b2,some b1,o]))) ?cN ?cO
 case cN=>
  clear f;refine BX (fun b9 r aA=>∃a5,∃e,∃p,∃aB,∃j m,∃a,FB bD bE aJ b9 a5 e p aB=some u∧Fo X0 21 r∧sl r 4=pt b3 0∧sl r 5=.bool a5∧sl r 6=pt g 0∧sl r 10=I (aJ+1)∧sl r 11=I e∧Hp q aS w [some g,some b3,some b2,some b1,a] aA∧(fun bJ=>Sl (Ai .i64) aA bJ j m p∧Bk aA b1 3 #[I aJ]∧Bk aA b2 148 #[aL]∧Bk aA b3 31 #[.slice j p.length m]∧Bk aA g 199 #[.func (.func 155) #[] #[pt b3 0,pt b2 0,pt b1 0,pt g 0]]∧aV aB aA bJ a) (ZZ q aS Z w.heap.size [some g,some b3,some b2,some b1,a])) bE ?cP ?cQ
  case cP=>
   intro st;have bR:=(((aM.bk.ext aC.gr).ext x.gr).gr aD.gr (aN.nq 2 0));have bS:=((aC.bk.ext x.gr).gr aD.gr (aN.nq 1 0));have cA:aV bP c1 (ZZ q aS Z w.heap.size [some g,some b3,some b2,some b1,aR]) aR:=(i.mg (i.me (i.me (i.me (i.me b8 bF aW.gr (Az aW)) bG aM.gr (Az aM)) bH aC.gr (Az aC)) bI x.gr (Az x)) aN aD.gr 0 rfl 4 rfl rfl (aN.BA aD.gr 0 rfl));exact⟨false,(0:Int),([]:List Int),bP,none,0,aR,aO,qo st,sp st 4 rfl,sp st 5 rfl,sp st 6 rfl,sp st 10 rfl,sp st 11 rfl,cK,(Sl.nil _ _ _),a9,bR,bS,aD.bk,cA⟩
  case cQ=>
   rintro(_|b9) c5 c6 ⟨a5,e,p,aB,j,m,a,aO,cB,aT,bT,bA,aX,aE,z,s,bK,bL,aY,aZ,bB⟩
   ·exact absurd (show none=some _ from aO) (by simp)
   rw[FB.eq_2] at aO;have f:=aO;clear aO;refine ro cB<|cr<|wD (fun st=>B9 (ee st aE) (ee st aX))<|wn<|Af ?_;rcases Ae (decide (e<(aJ+1))) with a0|a0
   ·replace f:=An f a0;refine Ah rfl a0<|cn<|Af<|AI<|cr<|wM (v:=I e) aE<|wA (v:=I e) rfl<|wr<|wD (fun st=>Ag (v:=.func (.func 155) #[] #[pt b3 0,pt b2 0,pt b1 0,pt g 0]) Tm (ee st bA) aZ rfl)<|wM (v:=I e) rfl ?_;replace f:=bind_some f;obtain⟨a2,cR,f⟩:=f;refine wE (fun st=>Jw (first:= #[]) (cap:= #[pt b3 0,pt b2 0,pt b1 0,pt g 0]) (vs:= #[.slice none 0 0,I 0,I e]) (all:= #[.slice none 0 0,I 0,I e,pt b3 0,pt b2 0,pt b1 0,pt g 0]) Tn (eR st) (Ek (eR st) (eR st) (eR st)) (by simp) (Acj bE bE ([]:List Int) 0 e p aJ aB none 0 j m b3 b2 b1 g aL a (ZZ q aS Z w.heap.size [some g,some b3,some b2,some b1,a]) (ZZ q aS Z w.heap.size [some g,some b3,some b2,some b1,a]) _ i (Nat.le_trans cF z.sz) (z.CH (F':=q) (M:=[some b3,some b2,some b1,some g,a]) (C:=[]) [1,2,3,0,4] [] rfl ⟨rfl,rfl,rfl,rfl,rfl,trivial⟩ trivial (fun _ h=>.inl h)) (z.zz (F':=q) (M:=[some b3,some b2,some b1,some g,a]) (C:=[]) [1,2,3,0,4] [] ⟨rfl,rfl,rfl,rfl,rfl,trivial⟩ trivial (fun _ h=>.inl h)) (fun _ h=>h) (z.zz (F':=q) (M:=[some b3,some b2,some b1,some g,a]) (C:=[]) [1,2,3,0,4] [] ⟨rfl,rfl,rfl,rfl,rfl,trivial⟩ trivial (fun _ h=>.inl h)) (Sl.nil (Ai .i64) _ _) s aY bL bK aZ bB a2 cR)) ?_;rintro _ cS ⟨aP,aQ,a3,cT,rfl,bC,a7,bU,bV,bW,a8,cU⟩;have bZ:=z.EH cT (AO [1,2,3,0,4] ⟨rfl,rfl,rfl,rfl,rfl,trivial⟩ (fun _ h=>h)) 4 rfl a8;have t:=a7.mv (z.call (M:=[some b3,some b2,some b1,some g,a3]) (Nat.le_refl _) (Cg ⟨.inl ⟨1,rfl⟩,.inl ⟨2,rfl⟩,.inl ⟨3,rfl⟩,.inl ⟨0,rfl⟩,.inr (hw a8 4),trivial⟩) (CT (L:=[some g,some b3,some b2,some b1,a]) (y:=a3) 4 (gm 4)));have bM:aV a2.2.2 cS (ZZ q aS Z w.heap.size [some g,some b3,some b2,some b1,a3]) a3:=i.mz cU (z.call (M:=[some b3,some b2,some b1,some g,a3]) (Nat.le_refl _) (Cg ⟨.inl ⟨1,rfl⟩,.inl ⟨2,rfl⟩,.inl ⟨3,rfl⟩,.inl ⟨0,rfl⟩,.inr (hw a8 4),trivial⟩) (CT (L:=[some g,some b3,some b2,some b1,a]) (y:=a3) 4 (gm 4)));refine wA (v:=.bool a2.1) rfl<|wr<|wM (v:=.bool a2.1) rfl<|wn ?_;rcases Ae (a2.1) with aF|aF
    ·replace f:=An f aF;refine Ah rfl aF<|Mg<|MW (by decide)<|Hu<|Hu ?_;obtain rfl:=oi f;refine BF (fun st=>?_);exact⟨rfl,aP,aQ,a3,qo st,sp st 4 aT,sp st 5 rfl,bZ,t,bC,bM⟩
    ·replace f:=Ao f aF;refine Aq rfl aF<|Cp<|CU<|Al ?_;replace f:=AL f;obtain⟨cC,f⟩:=f;refine wD (fun st=>BL (ee st aE) (eR st) cC)<|wM (v:=I (e+1)) rfl<|Bj ?_;refine Bv b9 (Nat.lt_succ_self _) (fun st=>?_);exact⟨a2.1,(e+1),a2.2.1,a2.2.2,aP,aQ,a3,f,qo st,sp st 4 aT,sp st 5 rfl,sp st 6 bA,sp st 10 aX,sp st 11 rfl,bZ,t,bV,bU,bC,bW,bM⟩
   ·replace f:=Ao f a0;refine Aq rfl a0<|DG ?_;obtain rfl:=oi f;refine BF (fun st=>?_);exact⟨rfl,j,m,a,qo st,sp st 4 aT,sp st 5 bT,z,s,aY,bB⟩
 case cO=>
  rintro cM c2 c7 (⟨rfl,c,d,o,bX,aG,bN,aU,aH,a4,bY⟩);refine lf bX<|Bd<|BM<|cr<|wD (fun st=>Ag (v:=.slice c u.2.1.length d) CO (ee st aG) a4 rfl)<|wM (v:=.bool u.1) bN<|BI rfl rfl (fun st=>By (n:=1) (l:=[.slice c u.2.1.length d]) (CB:= #[.slice c u.2.1.length d]) (ee st aG) (eR st) EO a4 rfl rfl (show 0+1≤1 by decide) (Bh rfl) rfl) ?_;rintro _ cV aI;have b4:=aU.gr aI.gr 1 rfl;refine wA (v:=.bool u.1) rfl<|wn<|Am<|Un ?_;obtain rfl:=oi f;refine Kg (N:=21) (v:=.slice c u.2.1.length d) (v':=.bool u.1) rfl ⟨_,aG,F9 CO ((aI.bk.cell 0).trans rfl)⟩ rfl ?_;have aK:=(aH.mv (aU.BA aI.gr 1 rfl));have cD:aV u.2.2 cV (ZZ q aS Z w.heap.size [some g,some b3,some b2,some b1,o]) o:=(i.mg bY aU aI.gr 1 rfl 4 rfl rfl (aU.BA aI.gr 1 rfl));exact⟨o,b7 _ b4.fin,⟨_,_,rfl,⟨_,_,rfl,aK.mv (AU (BB [4] ⟨rfl,trivial⟩))⟩,rfl⟩,b4.mq 4 [] (M:=[]) trivial cI,i.mz cD (AU (BB [4] ⟨rfl,trivial⟩))⟩
theorem Ack bC aK d f g h i j k l m n o p q r s t u y z q1 e aL a(Z Za:Nat→Prop) w(bD:BC FN [some q1,some e,some a] w)(bE:∀b,Z b→¬FN b∧some b∉[some q1,some e,some a])(bK:∀b,Z b→Za b)(a4:∀b,Za b→¬FN b∧some b∉[some q1,some e,some a])(aP:Sl (Ai .i64) w Za f g aK)(aQ:Sl AA w Z h i d.Ar)(aR:Sl (BH (Ai .i64)) w Z j k d.As)(aS:Sl AH w Z l m d.Ap)(aT:Sl AZ w Z n o d.AJ)(aU:Sl Bb w Z p q d.AK)(aV:Sl Bq w Z r s d.AW)(aW:Sl (Ai .i64) w Z t u d.weights)(aX:Sl Cu w Z y z d.B5)(bF:Rz w Z (some ⟨aL,0,none⟩) (CY h i j k l m n o p q r s t u y z a d))(a2:Bk w q1 174 #[.func (.func 121) #[] #[]])(bG:Cz (fun x:Int=>I x) w a 2 d.known)(aM:Bk w e 152 #[pt aL 0]) a5(aA:E7 bC aK d=some a5):
 BO Tryz.prog 122 #[.slice f aK.length g,pt q1 0,pt e 0] w (fun v w'=>BT (FU FN [some q1,some e,some a]) w w'∧BE.R w' (zf Z w [some q1,some e,some a]) v a5.1∧Bk w' q1 174 #[.func (.func 121) #[] #[]]∧Cz (fun x:Int=>I x) w' a 2 a5.2∧Bk w' e 152 #[pt aL 0]):=by
 unfold E7 at aA;refine rq (N:=10) Tryz.func122 fun bL ha bM=>?_;have a7:=sA 0 ha;have a8:=sA 1 ha;have a9:=sA 2 ha;clear ha;obtain⟨bO,bN,c,a3,bA,bB⟩:=Ky bD bE a4;have aB:=aP.mv (AR (L:=[some q1,some e,some a]) bA w);have ⟨aC,aD,aE,aF,aG,aH,aI,aJ⟩:=EU aQ aR aS aT aU aV aW aX (AR (L:=[some q1,some e,some a]) a3 w);have aY:=bF.mv (AR (L:=[some q1,some e,some a]) a3 w);refine cr<|wA (v:=.bool false) rfl<|wr<|wD (fun st=>Ad (ee st a8) (Wc _ _))<|wD (fun st=>Ag (v:=.func (.func 121) #[] #[]) YY (eR st) a2 rfl)<|wD (fun st=>Ag (v:=pt aL 0) EP (ee st a9) aM rfl)<|wM (v:=.slice f aK.length g) a7 ?_;replace aA:=bind_some aA;obtain⟨bH,bI,aA⟩:=aA;refine wE (fun st=>Aj To (eR st) (Ci (eR st) (eR st)) (Aax bC d aK h i j k l m n o p q r s t u y z f g aL a (ZC FN [some a]) _ (c.CH (F':=FN) (M:=[some a]) (C:=[]) [2] [] rfl ⟨rfl,trivial⟩ trivial eL) Ga (aC.mv (c.mz (F':=FN) (M:=[some a]) (C:=[]) [2] [] ⟨rfl,trivial⟩ trivial eL)) (aD.mv (c.mz (F':=FN) (M:=[some a]) (C:=[]) [2] [] ⟨rfl,trivial⟩ trivial eL)) (aE.mv (c.mz (F':=FN) (M:=[some a]) (C:=[]) [2] [] ⟨rfl,trivial⟩ trivial eL)) (aF.mv (c.mz (F':=FN) (M:=[some a]) (C:=[]) [2] [] ⟨rfl,trivial⟩ trivial eL)) (aG.mv (c.mz (F':=FN) (M:=[some a]) (C:=[]) [2] [] ⟨rfl,trivial⟩ trivial eL)) (aH.mv (c.mz (F':=FN) (M:=[some a]) (C:=[]) [2] [] ⟨rfl,trivial⟩ trivial eL)) (aI.mv (c.mz (F':=FN) (M:=[some a]) (C:=[]) [2] [] ⟨rfl,trivial⟩ trivial eL)) (aJ.mv (c.mz (F':=FN) (M:=[some a]) (C:=[]) [2] [] ⟨rfl,trivial⟩ trivial eL)) (aY.mv (c.mz (F':=FN) (M:=[some a]) (C:=[]) [2] [] ⟨rfl,trivial⟩ trivial eL)) (aB.mv (c.mz (F':=FN) (M:=[some a]) (C:=[]) [2] [] ⟨rfl,trivial⟩ trivial eL)) bG bH bI)) ?_;rintro _ w2 ⟨aN,rfl,aZ⟩;have bJ:=c.Co aN (AO [2] ⟨rfl,trivial⟩ eL);refine wA (v:=.bool bH.1) rfl<|wn<|Am ?_;obtain rfl:=oi aA;refine Av rfl rfl ?_;have a0:=(a2.Co aN (c.CI 0 rfl [2] rfl ⟨rfl,trivial⟩ eL));have aO:=(aM.Co aN (c.CI 1 rfl [2] rfl ⟨rfl,trivial⟩ eL));exact⟨bB _ bJ.fin,rfl,a0,aZ,aO⟩
theorem a69 cU aG aI aJ aK aL aM aN aO aP aB aC aQ aR(Z:Nat→Prop) w(dC:Sl AA w Z aI aJ aG.Ak)(dD:Sl (BH (Ai .i64)) w Z aK aL aG.Ab)(dE:Sl AH w Z aM aN aG.Aw)(dF:Sl AZ w Z aO aP aG.AB)(dG:Sl Bb w Z aB aC aG.AF)(dH:Sl Bq w Z aQ aR aG.AM) eI(c:G0 cU aG=some eI):
 BO Tryz.prog 69 #[.agg (Ay aI aJ aK aL aM aN aO aP aB aC aQ aR aG).toArray] w (fun v w'=>Ext w w'∧(Nh (FE (Ai .i64)) (Dr .i64)).R w' (zf Z w []) v eI):=by
 unfold G0 at c;refine rq (N:=29) Tryz.func69 fun e3 ha e4=>?_;have dY:=sA 0 ha;clear ha;have dM:Hp FN [] w [] w:=Hp.start (BC.none w);have ⟨cF,cG,cH,cI,cJ,cK⟩:=CA dC dD dE dF dG dH (Bz (Z:=Z) (L:=[]) w);refine cr<|wE (fun st=>BN (v:=.agg (Ay aI aJ aK aL aM aN aO aP aB aC aQ aR aG).toArray) (cs:=(Ay aI aJ aK aL aM aN aO aP aB aC aQ aR aG).toArray) (ee st dY) rfl) ?_;rintro _ w1 ⟨b1,rfl,bP⟩;have bQ:=dM.nb bP;have eV:=dM.BJ bP;refine wA (v:=.slice none 0 0) rfl<|wA (v:=I 0) rfl<|wr<|wD (fun st=>Ba (l:=(Ay aI aJ aK aL aM aN aO aP aB aC aQ aR aG)) Eh (eR st) bP.bk rfl rfl) ?_;have ⟨cL,cM,cN,cO,cP,cQ⟩:=CA cF cG cH cI cJ cK (Az bP);replace c:=bind_some c;obtain⟨aD,eJ,c⟩:=c;refine wE (fun st=>Aj KT (eR st) (Ci (eR st) (eR st)) (OG cU aG true aI aJ aK aL aM aN aO aP aB aC aQ aR (zf Z w [some b1]) _ cL cM cN cO cP cQ aD eJ)) ?_;rintro _ eZ ⟨cV,⟨e8,rfl,eK⟩⟩;rcases FG.cases eK with⟨cW,rfl⟩|⟨d,cW,b3,a,aU,aV,aW,aX,aY,aZ,a0,a2,a3,a4,a5,a7,a8,a9,bA,bB,rfl,bJ,eM,eN,cX,cY,cZ,c0,c1,c2,c3,c4⟩
 ·replace c:=Mc cW c;have dN:=bQ.ext cV;refine wM (v:=.tuple #[.pointer none,I aD.2]) rfl<|wD (fun st=>Bw (v:=.pointer none) (eR st) rfl)<|wD (fun st=>Bw (v:=I aD.2) (eR st) rfl)<|wE (fun st=>B8 (cs:= #[.pointer none]) LR rfl) ?_;rintro _ e9 ⟨fA,rfl,c5⟩;have eO:=dN.nb c5;have eW:=dN.BJ c5;refine BI rfl rfl (fun st=>By (n:=1) (l:=[.pointer none]) (CB:= #[.pointer none]) (eR st) (eR st) NF c5.bk rfl rfl (show 0+1≤1 by decide) (Bh rfl) rfl) ?_;rintro _ fB eP;have eQ:=eO.gr eP.gr 0 rfl;refine wA (v:=I aD.2) rfl<|wn<|Af<|cr<|wM (v:=I aD.2) rfl<|wD (fun st=>D1 (eR st) (eR st))<|wn ?_;rcases Ae (aD.2 !=0) with cE|cE
  ·replace c:=An c cE;refine Ah rfl cE<|cr<|wM (v:=I aD.2) rfl<|wA (v:=.slice none 0 0) rfl<|wA (v:=I aD.2) rfl<|wn<|Am<|AG ?_;obtain rfl:=oi c;refine Dq rfl rfl rfl ?_;exact⟨eQ.Bf,⟨_,_,rfl,⟨_,_,rfl,Sl.nil _ _ _⟩,rfl⟩⟩
  ·replace c:=Ao c cE;exact absurd c (by simp)
 ·replace c:=Md cW c;have dO:=bQ.IC cV bJ;have dI:w.heap.size≤b3:=Nat.le_trans bQ.sz (bJ.mem _ (by simp)).1;have eC:w.heap.size≤a:=Nat.le_trans bQ.sz (bJ.mem _ (by simp)).1;have ⟨b5,b6,b7,b8,b9,cA,cB,cC⟩:=EU cX cY cZ c0 c1 c2 c3 c4 (bQ.Kw bJ);have dP:=dO.erase 0;have dZ:Rz eZ (zf Z w [some a,some b1]) (some ⟨b3,0,none⟩) (CY aU aV aW aX aY aZ a0 a2 a3 a4 a5 a7 a8 a9 bA bB a d):=Kx eM (dO.lit 0 rfl dI) rfl;refine wM (v:=.tuple #[pt b3 0,I aD.2]) rfl<|wD (fun st=>Bw (v:=pt b3 0) (eR st) rfl)<|wD (fun st=>Bw (v:=I aD.2) (eR st) rfl)<|wE (fun st=>B8 (cs:= #[.pointer none]) LR rfl) ?_;rintro _ fC ⟨aH,rfl,bD⟩;have bR:=dP.nb bD;have eX:=dP.BJ bD;refine BI rfl rfl (fun st=>By (n:=1) (l:=[pt b3 0]) (CB:= #[pt b3 0]) (eR st) (eR st) NF bD.bk rfl rfl (show 0+1≤1 by decide) (Bh rfl) rfl) ?_;rintro _ fD bH;have c6:=bR.gr bH.gr 0 rfl;refine wA (v:=I aD.2) rfl<|wn<|Af<|cr<|wM (v:=I aD.2) rfl<|wD (fun st=>D1 (eR st) (eR st))<|wn ?_;rcases Ae (aD.2 !=0) with bE|bE
  ·replace c:=An c bE;refine Ah rfl bE<|cr<|wM (v:=I aD.2) rfl<|wA (v:=.slice none 0 0) rfl<|wA (v:=I aD.2) rfl<|wn<|Am<|AG ?_;obtain rfl:=oi c;refine Dq rfl rfl rfl ?_;exact⟨c6.Bf,⟨_,_,rfl,⟨_,_,rfl,Sl.nil _ _ _⟩,rfl⟩⟩
  ·replace c:=Ao c bE;refine Aq rfl bE<|cn<|cr<|wD (fun st=>DS (vs:= #[(0,.func (.func 121) #[] #[])]) (v:=.agg #[.func (.func 121) #[] #[]]) (Ik (eR st)) (by kernel_rfl))<|wE (fun st=>B8 (cs:= #[.nilFunc]) We rfl) ?_;rintro _ e5 ⟨e,rfl,g⟩;have bI:=c6.nb g;have eS:=c6.BJ g;refine BI rfl rfl (fun st=>By (n:=1) (l:=[.func (.func 121) #[] #[]]) (CB:= #[.func (.func 121) #[] #[]]) (eR st) (eR st) Z9 g.bk rfl rfl (show 0+1≤1 by decide) (Bh rfl) rfl) ?_;rintro _ eT aE;have cD:=bI.gr aE.gr 0 rfl;refine wr<|wD (fun st=>Ad (eR st) (JS _ _)) ?_;have c7:=(((((bP.bk.ext cV).ext bD.gr).gr bH.gr (bR.nq 2 0)).ext g.gr).gr aE.gr (bI.nq 3 0));refine wD (fun st=>Ag (v:=.slice aB aG.AF.length aC) KG (eR st) c7 rfl)<|wD (fun st=>Br Tryz.underlying50 (eR st))<|wD (fun st=>Dl (vs:= #[]) (us:= #[pt e 0,pt aH 0]) Hv (Ci (eR st) (eR st))) ?_;have d0:=cD.CH (F':=FN) (M:=[some e,some aH,some a]) (C:=[]) [0,1,2] [] rfl ⟨rfl,rfl,rfl,trivial⟩ trivial (fun k hk=>.inl (eL k hk));have dJ:Cb Tryz.prog (.func (.func 122) #[] #[pt e 0,pt aH 0]) (FU FN [some e,some aH,some a]) eT.heap.size (fun(st:(List (List Int×Int))) aS bK o=>o=none∧Bk aS e 174 #[.func (.func 121) #[] #[]]∧Cz (fun x:Int=>I x) aS a 2 st∧Bk aS aH 152 #[pt b3 0]∧Rz aS bK (some ⟨b3,0,none⟩) (CY aU aV aW aX aY aZ a0 a2 a3 a4 a5 a7 a8 a9 bA bB a d)∧Sl AA aS bK aU aV d.Ar∧Sl (BH (Ai .i64)) aS bK aW aX d.As∧Sl AH aS bK aY aZ d.Ap∧Sl AZ aS bK a0 a2 d.AJ∧Sl Bb aS bK a3 a4 d.AK∧Sl Bq aS bK a5 a7 d.AW∧Sl (Ai .i64) aS bK a8 a9 d.weights∧Sl Cu aS bK bA bB d.B5) (v1 (FE (Ai .i64))) BE (fun(st:(List (List Int×Int))) (x:(List Int))=>(E7 cU x (⟨d.Ar,d.As,d.Ap,d.BP,d.AJ,d.AK,d.AW,d.weights,d.B5,st⟩:B6)).bind fun r=>some (r.1,r.2)):=by
    refine⟨rfl,rfl,cD.Jq [0,1,2] ⟨rfl,rfl,rfl,trivial⟩ eL,?_,?_,?_⟩
    ·intro st x r w1 d1 eU o vs e0 bF i c8 aT e1;obtain⟨rfl,bL,bM,bC,bG,j,m,p,q,s,t,u,y⟩:=c8;obtain⟨_,rfl,⟨d2,d3,rfl,dK⟩⟩:=aT;obtain⟨e2,h1,h2⟩:=bind_some e1;obtain rfl:=Option.some.inj h2;refine(E0 YZ rfl (Ack cU x (⟨d.Ar,d.As,d.Ap,d.BP,d.AJ,d.AK,d.AW,d.weights,d.B5,st⟩:B6) d2 d3 aU aV aW aX aY aZ a0 a2 a3 a4 a5 a7 a8 a9 bA bB e aH b3 a d1 eU w1 (d0.grow e0) (fun b hb=>FK (i b (bF b hb)).1) bF (fun b hb=>FK (i b hb).1) dK j m p q s t u y bG bL bM bC e2 h1)).mono ?_;rintro v w2 ⟨aT,d4,d5,d6,dL⟩;exact⟨none,aT.OY,(fun _ h=>by cases h),d4,⟨rfl,d5,d6,dL,(bG.mv (CS (ET aT (fun b hb=>Dz (i b (bF b hb)))))),(j.mv (CS (ET aT (fun b hb=>Dz (i b (bF b hb)))))),(m.mv (CS (ET aT (fun b hb=>Dz (i b (bF b hb)))))),(p.mv (CS (ET aT (fun b hb=>Dz (i b (bF b hb)))))),(q.mv (CS (ET aT (fun b hb=>Dz (i b (bF b hb)))))),(s.mv (CS (ET aT (fun b hb=>Dz (i b (bF b hb)))))),(t.mv (CS (ET aT (fun b hb=>Dz (i b (bF b hb)))))),(u.mv (CS (ET aT (fun b hb=>Dz (i b (bF b hb)))))),(y.mv (CS (ET aT (fun b hb=>Dz (i b (bF b hb))))))⟩⟩
    ·intro st w1 w2 d1 fE o c8 hm hb;obtain⟨rfl,bL,bM,bC,bG,j,m,p,q,s,t,u,y⟩:=c8;exact⟨rfl,bL.H8 (hb e (.inl (.inr (gm 0)))),bM.H8 (hb a (.inl (.inr (gm 2)))),bC.H8 (hb aH (.inl (.inr (gm 1)))),bG.mv hm,j.mv hm,m.mv hm,p.mv hm,q.mv hm,s.mv hm,t.mv hm,u.mv hm,y.mv hm⟩
    ·intro st w1 d1 o c8 k hk;obtain⟨rfl,bL,bM,bC,bG,j,m,p,q,s,t,u,y⟩:=c8;cases hk
   have bN:=cD.nil;replace c:=bind_some c;obtain⟨f,d7,c⟩:=c;have cR:=aE.bk;have c9:=((((eN.ext bD.gr).gr bH.gr (bR.nq 1 0)).ext g.gr).gr aE.gr (bI.nq 2 0));have dA:=((bH.bk.ext g.gr).gr aE.gr (bI.nq 1 0));have cS:=(((((dZ.mv (Az bD)).mv (bR.BA bH.gr 0 rfl)).mv (Az g)).mv (bI.BA aE.gr 0 rfl)).mv Bt);have ⟨bS,bT,bU,bV,bW,bX,bY,bZ⟩:=EU b5 b6 b7 b8 b9 cA cB cC (mt (AD 0) (mt (Az bD) (mt (bR.BA bH.gr 0 rfl) (mt (Az g) (mt (bI.BA aE.gr 0 rfl) Bt)))));refine wE (fun st=>Aj Tp (eR st) (Ci (eR st) (eR st)) (Aay cU (aG.AF.length:Int) d.known (.func (.func 122) #[] #[pt e 0,pt aH 0]) none (zf Z w [none,some e,some aH,some a,some b1]) _ dJ (Nat.le_refl _) (bN.CH (F':=(FU FN [some e,some aH,some a])) (M:=[none]) (C:=[some e,some aH,some a]) [0] [1,2,3] rfl ⟨rfl,trivial⟩ ⟨rfl,rfl,rfl,trivial⟩ (Cr eL)) (bN.zz (F':=(FU FN [some e,some aH,some a])) (M:=[none]) (C:=[some e,some aH,some a]) [0] [1,2,3] ⟨rfl,trivial⟩ ⟨rfl,rfl,rfl,trivial⟩ (Cr eL)) ⟨rfl,cR,c9,dA,cS,bS,bT,bU,bV,bW,bX,bY,bZ⟩ f d7)) ?_;rintro _ e6 ⟨e7,d8,⟨_,_,rfl,⟨z,aA,rfl,cT⟩,rfl⟩,eY,d9⟩;obtain⟨rfl,eD,eE,eA,eF,dQ,dR,dS,dT,dU,dV,dW,dX⟩:=d9;have eB:=bN.Co (BT.cl (M1:=[some e,some aH,some a]) (M2:=[none]) d8) (AO [1,2,3,0] ⟨rfl,rfl,rfl,rfl,trivial⟩ eL);have b4:=cT.mv (bN.call (M:=[none]) (Nat.le_refl _) (Cg ⟨.inl ⟨0,rfl⟩,trivial⟩) (fun _ h=>.inl h));have dB:=eB.erase 0;refine wM (v:=.tuple #[.slice z f.1.length aA,.bool f.2.1]) rfl<|wD (fun st=>Bw (v:=.slice z f.1.length aA) (eR st) rfl)<|wD (fun st=>Bw (v:=.bool f.2.1) (eR st) rfl)<|wA (v:=.slice z f.1.length aA) rfl<|wA (v:=.bool f.2.1) rfl<|wn<|Af<|cr<|wM (v:=.bool f.2.1) rfl<|wD (fun st=>Ca (eR st))<|wn ?_;rcases Ae (!f.2.1) with aF|aF
   ·replace c:=An c aF;have eG:f.2.1=false:=by simpa using aF
    refine Ah rfl aF<|cr<|wA (v:=.slice none 0 0) rfl<|wA (v:=I 7) rfl<|wn<|Am<|AG ?_;obtain rfl:=oi c;refine Dq rfl rfl rfl ?_;exact⟨dB.Bf,⟨_,_,rfl,⟨_,_,rfl,Sl.nil _ _ _⟩,rfl⟩⟩
   ·replace c:=Ao c aF;have eH:f.2.1=true:=by simpa using aF
    refine Aq rfl aF<|cn<|cr<|wM (v:=.slice z f.1.length aA) rfl<|wA (v:=.slice z f.1.length aA) rfl<|wA (v:=I 0) rfl<|wn<|Am ?_;obtain rfl:=oi c;refine Dq rfl rfl rfl ?_;have bO:=(b4.mv (AD 0));exact⟨dB.Bf,⟨_,_,rfl,⟨_,_,rfl,bO.mv (AU (BB [] trivial))⟩,rfl⟩⟩
set_option maxHeartbeats 4000000 in
theorem a42 dG d o p q r s t u y z aA h i(Z:Nat→Prop) w(dY:Sl AA w Z o p d.Ak)(dZ:Sl (BH (Ai .i64)) w Z q r d.Ab)(d0:Sl AH w Z s t d.Aw)(d1:Sl AZ w Z u y d.AB)(d2:Sl Bb w Z z aA d.AF)(d3:Sl Bq w Z h i d.AM) eS(a:J5 dG d=some eS):
 BO Tryz.prog 42 #[.agg (Ay o p q r s t u y z aA h i d).toArray] w (fun v w'=>Ext w w'∧(Nh (Dr .i64) (Dr .i64)).R w' (zf Z w []) v eS):=by
 unfold J5 at a;refine rq (N:=35) Tryz.func42 fun e8 ha e9=>?_;have eG:=sA 0 ha;clear ha;have eC:Hp FN [] w [] w:=Hp.start (BC.none w);have ⟨cY,cZ,c0,c1,c2,c3⟩:=CA dY dZ d0 d1 d2 d3 (Bz (Z:=Z) (L:=[]) w);refine cr<|wE (fun st=>BN (v:=.agg (Ay o p q r s t u y z aA h i d).toArray) (cs:=(Ay o p q r s t u y z aA h i d).toArray) (ee st eG) rfl) ?_;rintro _ w1 ⟨b1,rfl,bO⟩;have bP:=eC.nb bO;have e6:=eC.BJ bO;refine wA (v:=I 0) rfl<|wA (v:=I 0) rfl<|wr<|wD (fun st=>Ba (l:=(Ay o p q r s t u y z aA h i d)) Eh (eR st) bO.bk rfl rfl) ?_;have ⟨bC,bD,bE,bF,bG,bH⟩:=CA cY cZ c0 c1 c2 c3 (Az bO);replace a:=bind_some a;obtain⟨aF,eT,a⟩:=a;refine wE (fun st=>Aj PR (eR st) (Ci (eR st) (eR st)) (Wp dG d true o p q r s t u y z aA h i (zf Z w [some b1]) _ bC bD bE bF bG bH aF eT)) ?_;rintro _ fD ⟨cU,⟨fE,rfl,eU⟩⟩;rcases FG.cases eU with⟨dH,rfl⟩|⟨c,dH,b3,f,aH,aI,aJ,aK,aL,aM,aN,aO,aP,aQ,d4,d5,aR,aS,aT,aU,rfl,a8,eV,eW,dI,dJ,dK,dL,dM,dN,dO,dP⟩
 ·replace a:=Mc dH a;have eX:=bP.ext cU;refine wM (v:=.tuple #[.pointer none,I aF.2]) rfl<|wD (fun st=>Bw (v:=.pointer none) (eR st) rfl)<|wD (fun st=>Bw (v:=I aF.2) (eR st) rfl)<|wA (v:=.pointer none) rfl<|wA (v:=I aF.2) rfl<|wn<|Af<|cr<|wM (v:=I aF.2) rfl<|wD (fun st=>D1 (eR st) (eR st))<|wn ?_;rcases Ae (aF.2 !=0) with cV|cV
  ·replace a:=An a cV;refine Ah rfl cV<|cr<|wM (v:=I aF.2) rfl<|wA (v:=I 0) rfl<|wA (v:=I aF.2) rfl<|wn<|Am<|AG ?_;obtain rfl:=oi a;refine Dq rfl rfl rfl ?_;exact⟨eX.Bf,⟨_,_,rfl,rfl,rfl⟩⟩
  ·replace a:=Ao a cV;exact absurd a (by simp)
 ·replace a:=Md dH a;have eD:=bP.IC cU a8;have d6:w.heap.size≤b3:=Nat.le_trans bP.sz (a8.mem _ (by simp)).1;have eO:w.heap.size≤f:=Nat.le_trans bP.sz (a8.mem _ (by simp)).1;have ⟨bY,bZ,b4,b5,b6,b7,b8,b9⟩:=EU dI dJ dK dL dM dN dO dP (bP.Kw a8);refine wM (v:=.tuple #[pt b3 0,I aF.2]) rfl<|wD (fun st=>Bw (v:=pt b3 0) (eR st) rfl)<|wD (fun st=>Bw (v:=I aF.2) (eR st) rfl)<|wA (v:=pt b3 0) rfl<|wA (v:=I aF.2) rfl<|wn<|Af<|cr<|wM (v:=I aF.2) rfl<|wD (fun st=>D1 (eR st) (eR st))<|wn ?_;rcases Ae (aF.2 !=0) with bQ|bQ
  ·replace a:=An a bQ;refine Ah rfl bQ<|cr<|wM (v:=I aF.2) rfl<|wA (v:=I 0) rfl<|wA (v:=I aF.2) rfl<|wn<|Am<|AG ?_;obtain rfl:=oi a;refine Dq rfl rfl rfl ?_;exact⟨eD.Bf,⟨_,_,rfl,rfl,rfl⟩⟩
  ·replace a:=Ao a bQ;refine Aq rfl bQ<|cn<|Af<|cr<|wD (fun st=>Ad (eR st) (JT _ _)) ?_;have cW:=(bO.bk.ext cU);refine wD (fun st=>Ag (v:=.slice h d.AM.length i) LQ (eR st) cW rfl)<|wD (fun st=>Br Tryz.underlying51 (eR st))<|wM (v:=I 0) rfl<|wn<|AI ?_;replace a:=bind_some a;obtain⟨eH,bI,a⟩:=a;refine BY (fun eI aE j=>(eI=.ret∧∃a9,eH=.inl a9∧∃(bR:Option Addr) (bS:Nat),Fo X0 35 aE∧sl aE 2=I a9.1∧sl aE 3=I a9.2.1∧Hp FN [] w [some b3,some f,some b1] j)∨(eI=.exit 0∧∃a9,eH=.inr a9∧∃(bT:Option Addr) (bU:Nat),Fo X0 35 aE∧Hp FN [] w [some b3,some f,some b1] j)) ?eY ?eZ
   case eY=>
    clear a;refine BX (fun eJ aE j=>∃b,∃aB,∃g,∃aC aD,I7 dG d c eJ b aB g=some eH∧Fo X0 35 aE∧sl aE 1=pt b1 0∧sl aE 4=pt b3 0∧sl aE 17=I (d.AM.length:Int)∧sl aE 18=I b∧Hp FN [] w [some b3,some f,some b1] j∧(fun aV=>Sl Bq j aV aC aD aB∧Bk j b1 53 (Ay o p q r s t u y z aA h i d).toArray∧Sl AA j aV o p d.Ak∧Sl (BH (Ai .i64)) j aV q r d.Ab∧Sl AH j aV s t d.Aw∧Sl AZ j aV u y d.AB∧Sl Bb j aV z aA d.AF∧Sl Bq j aV h i d.AM∧Sl AA j aV aH aI c.Ar∧Sl (BH (Ai .i64)) j aV aJ aK c.As∧Sl AH j aV aL aM c.Ap∧Sl AZ j aV aN aO c.AJ∧Sl Bb j aV aP aQ c.AK∧Sl (Ai .i64) j aV aR aS c.weights∧Sl Cu j aV aT aU c.B5∧Cz (fun x:Int=>I x) j f 2 g∧Bk j b3 162 #[.slice aH c.Ar.length aI,.slice aJ c.As.length aK,.slice aL c.Ap.length aM,I c.BP,.slice aN c.AJ.length aO,.slice aP c.AK.length aQ,.slice aC aB.length aD,.slice aR c.weights.length aS,.slice aT c.B5.length aU,.map (some f)]) (zf Z w [some b3,some f,some b1])) dG ?e0 ?e1
    case e0=>
     intro st;have ⟨c4,c5,c6,c7,c8,c9⟩:=CA bC bD bE bF bG bH (Cj (Ac cU) a8);exact⟨(0:Int),c.AW,c.known,d4,d5,bI,qo st,sp st 1 rfl,sp st 4 rfl,sp st 17 rfl,sp st 18 rfl,eD,b7,cW,c4,c5,c6,c7,c8,c9,bY,bZ,b4,b5,b6,b8,b9,eW,eV⟩
    case e1=>
     rintro(_|eJ) fA e2 ⟨b,aB,g,aC,aD,bI,eK,cX,bM,bV,bA,aX,d7,bW,cA,cB,cC,cD,cE,bB,aY,aZ,a0,a2,a3,a4,a5,dQ,dR⟩
     ·exact absurd (show none=some _ from bI) (by simp)
     rw[I7.eq_2] at bI;have a:=bI;clear bI;refine ro eK<|cr<|wD (fun st=>B9 (ee st bA) (ee st bV))<|wn<|Af ?_;rcases Ae (decide (b<(d.AM.length:Int))) with bX|bX
     ·replace a:=An a bX;refine Ah rfl bX<|cn<|Af<|AI<|cr<|wM (v:=I b) bA<|wA (v:=I b) rfl<|wr<|wM (v:=pt b3 0) bM<|wD (fun st=>Ad (ee st cX) (JT _ _))<|wD (fun st=>Ag (v:=.slice h d.AM.length i) LQ (eR st) bW rfl)<|wM (v:=I b) rfl ?_;replace a:=AL a;obtain⟨e3,a⟩:=a;refine wD (fun st=>BL (eR st) (eR st) e3) ?_;replace a:=Lc a;obtain⟨e4,a⟩:=a;refine wE (fun st=>Re (e:=Bq) (Z:=_) (xs:=d.AM) Tryz.underlying51 ND rfl (eR st) Rc (TU (eR st)) bB e4) ?_;rintro _ e2 ⟨⟨bJ,bK,rfl,dS⟩,rfl⟩;refine wD (fun st=>CE (eR st))<|wD (fun st=>Ad (eR st) (Wf _ _))<|wD (fun st=>Ad (eR st) (JT _ _))<|BI rfl rfl (fun st=>By (n:=1) (l:=[.slice bJ ((FF d.AM (0:Int) (b+1)).length) bK]) (CB:= #[.slice aH c.Ar.length aI,.slice aJ c.As.length aK,.slice aL c.Ap.length aM,I c.BP,.slice aN c.AJ.length aO,.slice aP c.AK.length aQ,.slice bJ ((FF d.AM (0:Int) (b+1)).length) bK,.slice aR c.weights.length aS,.slice aT c.B5.length aU,.map (some f)]) (eR st) (eR st) WZ dR rfl rfl (show 6+1≤10 by decide) (Bh rfl) rfl) ?_;rintro _ e5 k;have a7:=aX.gr k.gr 0 rfl;refine wr<|wM (v:=pt b3 0) bM ?_;have eE:=a7.erase 0;have d8:Rz e5 (zf Z w [some f,some b1]) (some ⟨b3,0,none⟩) [.slice aH c.Ar.length aI,.slice aJ c.As.length aK,.slice aL c.Ap.length aM,I c.BP,.slice aN c.AJ.length aO,.slice aP c.AK.length aQ,.slice bJ ((FF d.AM (0:Int) (b+1)).length) bK,.slice aR c.weights.length aS,.slice aT c.B5.length aU,.map (some f)]:=Kx k.bk (a7.lit 0 rfl d6) rfl;have ⟨cF,cG,cH,cI,cJ,dT,cK,cL⟩:=EU aY aZ a0 a2 a3 dS a4 a5 (mt (aX.BA k.gr 0 rfl) (AD 0));have d9:=(dQ.gr k.gr (aX.nq 1 0));replace a:=bind_some a;obtain⟨bL,eM,a⟩:=a;have m:=eE.mz (Z:=Z) (F':=FN) (M:=[some f]) (C:=[]) [0] [] ⟨rfl,trivial⟩ trivial eL;refine wE (fun st=>Aj PS (eR st) (Ci (eR st) (eR st)) (Wo dG (⟨c.Ar,c.As,c.Ap,c.BP,c.AJ,c.AK,FF d.AM (0:Int) (b+1),c.weights,c.B5,g⟩:B6) ([]:List Int) aH aI aJ aK aL aM aN aO aP aQ bJ bK aR aS aT aU none 0 b3 f (ZC FN [some f]) _ (eE.CH (F':=FN) (M:=[some f]) (C:=[]) [0] [] rfl ⟨rfl,trivial⟩ trivial eL) Ga (cF.mv m) (cG.mv m) (cH.mv m) (cI.mv m) (cJ.mv m) (dT.mv m) (cK.mv m) (cL.mv m) (d8.mv m) (Sl.nil (Ai .i64) _ _) d9 bL eM)) ?_;rintro _ fB ⟨aW,rfl,dU⟩;have eF:=a7.Co aW (AO [1] ⟨rfl,trivial⟩ eL);refine wD (fun st=>Ca (eR st))<|wn ?_;rcases Ae (!bL.1) with aG|aG
      ·replace a:=An a aG;have eP:bL.1=false:=by simpa using aG
       refine Ah rfl aG<|cr<|wM (v:=I b) rfl<|wA (v:=I b) rfl<|wA (v:=I 0) rfl<|wn<|Am<|CN<|AG ?_;obtain rfl:=oi a;refine BF (fun st=>?_);exact .inl ⟨rfl,(b,(0:Int),FF d.AM (0:Int) (b+1),bL.2),rfl,bJ,bK,qo st,sp st 2 rfl,sp st 3 rfl,eF⟩
      ·replace a:=Ao a aG;have eQ:bL.1=true:=by simpa using aG
       refine Aq rfl aG<|Cp<|CU<|Al ?_;replace a:=AL a;obtain⟨eN,a⟩:=a;refine wD (fun st=>BL (ee st bA) (eR st) eN)<|wM (v:=I (b+1)) rfl<|Bj ?_;have dV:=((dS.mv (aX.BA k.gr 0 rfl)).mv (a7.D2 aW (AO [1] ⟨rfl,trivial⟩ eL)));have eA:=((bW.gr k.gr (aX.nq 2 0)).Co aW (a7.CI 2 rfl [1] rfl ⟨rfl,trivial⟩ eL));have ⟨dA,dB,dC,dD,dE,dF,cM,cN,cO,cP⟩:=VK cA cB cC cD cE bB aY aZ a0 a2 (mt (aX.BA k.gr 0 rfl) (a7.D2 aW (AO [1] ⟨rfl,trivial⟩ eL)));have ⟨cQ,cR,cS⟩:=Ez a3 a4 a5 (mt (aX.BA k.gr 0 rfl) (a7.D2 aW (AO [1] ⟨rfl,trivial⟩ eL)));have eB:=(k.bk.Co aW (a7.CI 0 rfl [1] rfl ⟨rfl,trivial⟩ eL));refine Bv eJ (Nat.lt_succ_self _) (fun st=>?_);exact⟨(b+1),(FF d.AM (0:Int) (b+1)),bL.2,bJ,bK,a,qo st,sp st 1 cX,sp st 4 bM,sp st 17 bV,sp st 18 rfl,eF,dV,eA,dA,dB,dC,dD,dE,dF,cM,cN,cO,cP,cQ,cR,cS,dU,eB⟩
     ·replace a:=Ao a bX;refine Aq rfl bX<|DG ?_;obtain rfl:=oi a;refine BF (fun st=>?_);exact .inr ⟨rfl,(aB,g),rfl,aC,aD,qo st,aX⟩
   case eZ=>
    rintro eI e7 fC (⟨rfl,a9,rfl,bR,bS,bN,dW,dX,cT⟩|⟨rfl,a9,rfl,bT,bU,bN,cT⟩)
    ·skip
     replace a:=C4 a;refine lf bN<|CN ?_;obtain rfl:=oi a;refine Dq rfl dW dX ?_;exact⟨cT.Bf,⟨_,_,rfl,rfl,rfl⟩⟩
    ·skip
     replace a:=C5 a;refine lf bN<|Bd<|BM<|cr<|wA (v:=I 0) rfl<|wA (v:=I 7) rfl<|wn<|Am ?_;obtain rfl:=oi a;refine Dq rfl rfl rfl ?_;exact⟨cT.Bf,⟨_,_,rfl,rfl,rfl⟩⟩
theorem a43 cF z aC aD aE aF aG aH aI aJ aK aL t u(Z:Nat→Prop) w(cT:Sl AA w Z aC aD z.Ak)(cU:Sl (BH (Ai .i64)) w Z aE aF z.Ab)(cV:Sl AH w Z aG aH z.Aw)(cW:Sl AZ w Z aI aJ z.AB)(cX:Sl Bb w Z aK aL z.AF)(cY:Sl Bq w Z t u z.AM) dL(d:J6 cF z=some dL):
 BO Tryz.prog 43 #[.agg (Ay aC aD aE aF aG aH aI aJ aK aL t u z).toArray] w (fun v w'=>Ext w w'∧(Nh (FE (Ai .i64)) (Dr .i64)).R w' (zf Z w []) v dL):=by
 unfold J6 at d;refine rq (N:=26) Tryz.func43 fun d7 ha d8=>?_;have c5:=sA 0 ha;clear ha;have c3:Hp FN [] w [] w:=Hp.start (BC.none w);have ⟨bZ,b4,b5,b6,b7,b8⟩:=CA cT cU cV cW cX cY (Bz (Z:=Z) (L:=[]) w);refine cr<|wE (fun st=>BN (v:=.agg (Ay aC aD aE aF aG aH aI aJ aK aL t u z).toArray) (cs:=(Ay aC aD aE aF aG aH aI aJ aK aL t u z).toArray) (ee st c5) rfl) ?_;rintro _ w1 ⟨b1,rfl,bB⟩;have bC:=c3.nb bB;have d2:=c3.BJ bB;refine wA (v:=.slice none 0 0) rfl<|wA (v:=I 0) rfl<|wr<|wD (fun st=>Ba (l:=(Ay aC aD aE aF aG aH aI aJ aK aL t u z)) Eh (eR st) bB.bk rfl rfl) ?_;have ⟨b9,cA,cB,cC,cD,cE⟩:=CA bZ b4 b5 b6 b7 b8 (Az bB);replace d:=bind_some d;obtain⟨y,dM,d⟩:=d;refine wE (fun st=>Aj PR (eR st) (Ci (eR st) (eR st)) (Wp cF z true aC aD aE aF aG aH aI aJ aK aL t u (zf Z w [some b1]) _ b9 cA cB cC cD cE y dM)) ?_;rintro _ dN ⟨cG,⟨d9,rfl,dO⟩⟩;rcases FG.cases dO with⟨cH,rfl⟩|⟨c,cH,b3,a,aN,aO,aP,aQ,aR,aS,aT,aU,aV,aW,aX,aY,aZ,a0,a2,a3,rfl,a7,dP,dQ,cI,cJ,cK,cL,cM,cN,cO,cP⟩
 ·replace d:=Mc cH d;have dR:=bC.ext cG;refine wM (v:=.tuple #[.pointer none,I y.2]) rfl<|wD (fun st=>Bw (v:=.pointer none) (eR st) rfl)<|wD (fun st=>Bw (v:=I y.2) (eR st) rfl)<|wA (v:=.pointer none) rfl<|wA (v:=I y.2) rfl<|wn<|Af<|cr<|wM (v:=I y.2) rfl<|wD (fun st=>D1 (eR st) (eR st))<|wn ?_;rcases Ae (y.2 !=0) with bW|bW
  ·replace d:=An d bW;refine Ah rfl bW<|cr<|wM (v:=I y.2) rfl<|wA (v:=.slice none 0 0) rfl<|wA (v:=I y.2) rfl<|wn<|Am<|AG ?_;obtain rfl:=oi d;refine Dq rfl rfl rfl ?_;exact⟨dR.Bf,⟨_,_,rfl,⟨_,_,rfl,Sl.nil _ _ _⟩,rfl⟩⟩
  ·replace d:=Ao d bW;exact absurd d (by simp)
 ·replace d:=Md cH d;have c4:=bC.IC cG a7;have cZ:w.heap.size≤b3:=Nat.le_trans bC.sz (a7.mem _ (by simp)).1;have dK:w.heap.size≤a:=Nat.le_trans bC.sz (a7.mem _ (by simp)).1;have ⟨bE,bF,bG,bH,bI,bJ,bK,bL⟩:=EU cI cJ cK cL cM cN cO cP (bC.Kw a7);have bX:=c4.erase 0;have c6:Rz dN (zf Z w [some a,some b1]) (some ⟨b3,0,none⟩) (CY aN aO aP aQ aR aS aT aU aV aW aX aY aZ a0 a2 a3 a c):=Kx dP (c4.lit 0 rfl cZ) rfl;refine wM (v:=.tuple #[pt b3 0,I y.2]) rfl<|wD (fun st=>Bw (v:=pt b3 0) (eR st) rfl)<|wD (fun st=>Bw (v:=I y.2) (eR st) rfl)<|wA (v:=pt b3 0) rfl<|wA (v:=I y.2) rfl<|wn<|Af<|cr<|wM (v:=I y.2) rfl<|wD (fun st=>D1 (eR st) (eR st))<|wn ?_;rcases Ae (y.2 !=0) with bD|bD
  ·replace d:=An d bD;refine Ah rfl bD<|cr<|wM (v:=I y.2) rfl<|wA (v:=.slice none 0 0) rfl<|wA (v:=I y.2) rfl<|wn<|Am<|AG ?_;obtain rfl:=oi d;refine Dq rfl rfl rfl ?_;exact⟨bX.Bf,⟨_,_,rfl,⟨_,_,rfl,Sl.nil _ _ _⟩,rfl⟩⟩
  ·replace d:=Ao d bD;refine Aq rfl bD<|cn<|cr<|wD (fun st=>Ad (eR st) (JT _ _)) ?_;have c0:=(bB.bk.ext cG);refine wD (fun st=>Ag (v:=.slice t z.AM.length u) LQ (eR st) c0 rfl)<|wD (fun st=>Br Tryz.underlying51 (eR st))<|wM (v:=pt b3 0) rfl<|wD (fun st=>Dl (vs:= #[pt b3 0]) (us:= #[]) (Ck (eR st)) Hv) ?_;have dS:=bX.CH (F':=FN) (M:=[some a]) (C:=[]) [0] [] rfl ⟨rfl,trivial⟩ trivial (fun k hk=>.inl (eL k hk));have c7:Cb Tryz.prog (.func (.func 112) #[pt b3 0] #[]) (FU FN [some a]) dN.heap.size (fun(st:(List (List Int×Int))) a5 a8 o=>o=none∧Cz (fun x:Int=>I x) a5 a 2 st∧Rz a5 a8 (some ⟨b3,0,none⟩) (CY aN aO aP aQ aR aS aT aU aV aW aX aY aZ a0 a2 a3 a c)∧Sl AA a5 a8 aN aO c.Ar∧Sl (BH (Ai .i64)) a5 a8 aP aQ c.As∧Sl AH a5 a8 aR aS c.Ap∧Sl AZ a5 a8 aT aU c.AJ∧Sl Bb a5 a8 aV aW c.AK∧Sl Bq a5 a8 aX aY c.AW∧Sl (Ai .i64) a5 a8 aZ a0 c.weights∧Sl Cu a5 a8 a2 a3 c.B5) (v1 (FE (Ai .i64))) BE (fun(st:(List (List Int×Int))) (x:(List Int))=>(DA cF (⟨c.Ar,c.As,c.Ap,c.BP,c.AJ,c.AK,c.AW,c.weights,c.B5,st⟩:B6) x).bind fun r=>some (r.1,r.2)):=by
    refine⟨rfl,rfl,bX.Jq [0] ⟨rfl,trivial⟩ eL,?_,?_,?_⟩
    ·intro st x r w1 dT dU o vs d3 e s cQ aM d4;obtain⟨rfl,a9,a4,f,g,i,j,m,n,p,q⟩:=cQ;obtain⟨_,rfl,⟨c8,c9,rfl,c1⟩⟩:=aM;obtain⟨d5,h1,h2⟩:=bind_some d4;obtain rfl:=Option.some.inj h2;refine(E0 PS rfl (Wo cF (⟨c.Ar,c.As,c.Ap,c.BP,c.AJ,c.AK,c.AW,c.weights,c.B5,st⟩:B6) x aN aO aP aQ aR aS aT aU aV aW aX aY aZ a0 a2 a3 c8 c9 b3 a dU w1 (dS.grow d3) (fun b hb=>FK (s b hb).1) (f.mv (Eu e)) (g.mv (Eu e)) (i.mv (Eu e)) (j.mv (Eu e)) (m.mv (Eu e)) (n.mv (Eu e)) (p.mv (Eu e)) (q.mv (Eu e)) (a4.mv (Eu e)) c1 a9 d5 h1)).mono ?_;rintro v w2 ⟨aM,dA,dB⟩;exact⟨none,aM.OY,(fun _ h=>by cases h),dA,⟨rfl,dB,(a4.mv (CS (ET aM (fun b hb=>Dz (s b (e b hb)))))),(f.mv (CS (ET aM (fun b hb=>Dz (s b (e b hb)))))),(g.mv (CS (ET aM (fun b hb=>Dz (s b (e b hb)))))),(i.mv (CS (ET aM (fun b hb=>Dz (s b (e b hb)))))),(j.mv (CS (ET aM (fun b hb=>Dz (s b (e b hb)))))),(m.mv (CS (ET aM (fun b hb=>Dz (s b (e b hb)))))),(n.mv (CS (ET aM (fun b hb=>Dz (s b (e b hb)))))),(p.mv (CS (ET aM (fun b hb=>Dz (s b (e b hb)))))),(q.mv (CS (ET aM (fun b hb=>Dz (s b (e b hb))))))⟩⟩
    ·intro st w1 w2 dT eA o cQ hm hb;obtain⟨rfl,a9,a4,f,g,i,j,m,n,p,q⟩:=cQ;exact⟨rfl,a9.H8 (hb a (.inl (.inr (gm 0)))),a4.mv hm,f.mv hm,g.mv hm,i.mv hm,j.mv hm,m.mv hm,n.mv hm,p.mv hm,q.mv hm⟩
    ·intro st w1 dT o cQ k hk;obtain⟨rfl,a9,a4,f,g,i,j,m,n,p,q⟩:=cQ;cases hk
   have bY:=bX.nil;replace d:=bind_some d;obtain⟨bA,dV,d⟩:=d;have c2:=dQ;have cR:=(c6.mv Bt);have ⟨bM,bN,bO,bP,bQ,bR,bS,bT⟩:=EU bE bF bG bH bI bJ bK bL (mt (AD 0) Bt);refine wE (fun st=>Aj Tp (eR st) (Ci (eR st) (eR st)) (Aay cF (z.AM.length:Int) c.known (.func (.func 112) #[pt b3 0] #[]) none (zf Z w [none,some a,some b1]) _ c7 (Nat.le_refl _) (bY.CH (F':=(FU FN [some a])) (M:=[none]) (C:=[some a]) [0] [1] rfl ⟨rfl,trivial⟩ ⟨rfl,trivial⟩ (Cr eL)) (bY.zz (F':=(FU FN [some a])) (M:=[none]) (C:=[some a]) [0] [1] ⟨rfl,trivial⟩ ⟨rfl,trivial⟩ (Cr eL)) ⟨rfl,c2,cR,bM,bN,bO,bP,bQ,bR,bS,bT⟩ bA dV)) ?_;rintro _ eB ⟨eC,dW,⟨_,_,rfl,⟨aA,aB,rfl,cS⟩,rfl⟩,d6,dX⟩;obtain⟨rfl,dY,dZ,dC,dD,dE,dF,dG,dH,dI,dJ⟩:=dX;have d0:=bY.Co (BT.cl (M1:=[some a]) (M2:=[none]) dW) (AO [1,0] ⟨rfl,rfl,trivial⟩ eL);have bU:=cS.mv (bY.call (M:=[none]) (Nat.le_refl _) (Cg ⟨.inl ⟨0,rfl⟩,trivial⟩) (fun _ h=>.inl h));have d1:=d0.erase 0;refine wM (v:=.tuple #[.slice aA bA.1.length aB,.bool bA.2.1]) rfl<|wD (fun st=>Bw (v:=.slice aA bA.1.length aB) (eR st) rfl)<|wD (fun st=>Bw (v:=.bool bA.2.1) (eR st) rfl)<|wA (v:=.slice aA bA.1.length aB) rfl<|wA (v:=.bool bA.2.1) rfl<|wr<|wM (v:=.slice aA bA.1.length aB) rfl<|wA (v:=.slice aA bA.1.length aB) rfl<|wA (v:=I 0) rfl<|wn<|Am ?_;obtain rfl:=oi d;refine Dq rfl rfl rfl ?_;have bV:=(bU.mv (AD 0));exact⟨d1.Bf,⟨_,_,rfl,⟨_,_,rfl,bV.mv (AU (BB [] trivial))⟩,rfl⟩⟩
theorem Ii k b d e(Z:Nat→Prop) w j(c:Cs k b d e=some j):
 BO Tryz.prog 29 #[I b,I d,I e] w (fun v w'=>Ext w w'∧BE.R w' (zf Z w []) v j):=by
 unfold Cs at c;refine rq (N:=15) Tryz.func29 fun l ha m=>?_;have f:=sA 0 ha;have h:=sA 1 ha;have i:=sA 2 ha;clear ha;have g:Hp FN [] w [] w:=Hp.start (BC.none w);refine cr<|wA (v:=.bool false) rfl<|wr<|wM (v:=I b) f<|wM (v:=I d) h<|wD (fun st=>IZ (eR st) (eR st))<|wM (v:=.bool (decide (d≤b))) rfl ?_;rcases Ae (decide (d≤b)) with a|a
 ·replace c:=An c a;refine wN a (v:=I b) f<|wN a (v:=I e) i<|wG a (fun st=>HN (eR st) (eR st))<|wD (fun st=>AY (v:=.bool (decide (b≤e))) (eR st) a (eR st))<|wA (v:=.bool (decide (b≤e))) rfl<|wn<|Am ?_;obtain rfl:=oi c;refine Av rfl rfl ?_;exact⟨g.Bf,rfl⟩
 ·replace c:=Ao c a;refine wF a<|wF a<|wF a<|wD (fun st=>Bs (v:=.bool false) (eR st) a (eR st))<|wA (v:=.bool false) rfl<|wn<|Am ?_;obtain rfl:=oi c;refine Av rfl rfl ?_;exact⟨g.Bf,rfl⟩
theorem W1 o b f g(Z:Nat→Prop) w m(d:ED o b f g=some m):
 BO Tryz.prog 90 #[.agg #[I b.Lo,I b.Hi],I f,I g] w (fun v w'=>Ext w w'∧BE.R w' (zf Z w []) v m):=by
 unfold ED at d;refine rq (N:=24) Tryz.func90 fun p ha q=>?_;have j:=sA 0 ha;have k:=sA 1 ha;have l:=sA 2 ha;clear ha;have i:Hp FN [] w [] w:=Hp.start (BC.none w);refine cr<|wE (fun st=>BN (v:=.agg #[I b.Lo,I b.Hi]) (cs:= #[I b.Lo,I b.Hi]) (ee st j) rfl) ?_;rintro _ w1 ⟨b1,rfl,e⟩;have h:=i.nb e;have n:=i.BJ e;refine wA (v:=.bool false) rfl<|wr<|wD (fun st=>Ad (eR st) (KU _ _))<|wD (fun st=>Ag (v:=I b.Lo) Bg (eR st) e.bk rfl)<|wM (v:=I f) k<|wD (fun st=>IZ (eR st) (eR st))<|wM (v:=.bool (decide (f≤b.Lo))) rfl ?_;rcases Ae (decide (f≤b.Lo)) with a|a
 ·replace d:=An d a;refine wG a (fun st=>Ad (eR st) (KU _ _))<|wG a (fun st=>Ag (v:=I b.Lo) Bg (eR st) e.bk rfl)<|wG a (fun st=>Ad (eR st) (LF _ _))<|wG a (fun st=>Ag (v:=I b.Hi) Bg (eR st) e.bk rfl)<|wG a (fun st=>HN (eR st) (eR st))<|wD (fun st=>AY (v:=.bool (decide (b.Lo≤b.Hi))) (eR st) a (eR st))<|wM (v:=.bool (decide (b.Lo≤b.Hi))) rfl ?_;rcases Ae (decide (b.Lo≤b.Hi)) with c|c
  ·replace d:=An d c;refine wG c (fun st=>Ad (eR st) (LF _ _))<|wG c (fun st=>Ag (v:=I b.Hi) Bg (eR st) e.bk rfl)<|wN c (v:=I g) l<|wG c (fun st=>HN (eR st) (eR st))<|wD (fun st=>AY (v:=.bool (decide (b.Hi≤g))) (eR st) c (eR st))<|wA (v:=.bool (decide (b.Hi≤g))) rfl<|wn<|Am ?_;obtain rfl:=oi d;refine Av rfl rfl ?_;exact⟨h.Bf,rfl⟩
  ·replace d:=Ao d c;refine wF c<|wF c<|wF c<|wF c<|wD (fun st=>Bs (v:=.bool false) (eR st) c (eR st))<|wA (v:=.bool false) rfl<|wn<|Am ?_;obtain rfl:=oi d;refine Av rfl rfl ?_;exact⟨h.Bf,rfl⟩
 ·replace d:=Ao d a;refine wF a<|wF a<|wF a<|wF a<|wF a<|wD (fun st=>Bs (v:=.bool false) (eR st) a (eR st))<|wM (v:=.bool false) rfl<|wH<|wH<|wH<|wH<|wD (fun st=>Bs (v:=.bool false) (eR st) rfl (eR st))<|wA (v:=.bool false) rfl<|wn<|Am ?_;obtain rfl:=oi d;refine Av rfl rfl ?_;exact⟨h.Bf,rfl⟩
theorem Wq k a(Z:Nat→Prop) w f(b:FR k a=some f):
 BO Tryz.prog 118 #[.agg #[I a.Lo,I a.Hi]] w (fun v w'=>Ext w w'∧(Dr .i64).R w' (zf Z w []) v f):=by
 unfold FR at b;refine rq (N:=9) Tryz.func118 fun l ha m=>?_;have e:=sA 0 ha;clear ha;have d:Hp FN [] w [] w:=Hp.start (BC.none w);refine cr<|wE (fun st=>BN (v:=.agg #[I a.Lo,I a.Hi]) (cs:= #[I a.Lo,I a.Hi]) (ee st e) rfl) ?_;rintro _ w1 ⟨b1,rfl,c⟩;have g:=d.nb c;have j:=d.BJ c;refine wA (v:=I 0) rfl<|wr<|wD (fun st=>Ad (eR st) (LF _ _))<|wD (fun st=>Ag (v:=I a.Hi) Bg (eR st) c.bk rfl)<|wD (fun st=>Ad (eR st) (KU _ _))<|wD (fun st=>Ag (v:=I a.Lo) Bg (eR st) c.bk rfl) ?_;replace b:=AL b;obtain⟨h,b⟩:=b;refine wD (fun st=>Ej (eR st) (eR st) h) ?_;replace b:=AL b;obtain⟨i,b⟩:=b;refine wD (fun st=>BL (eR st) (eR st) i)<|wA (v:=I ((a.Hi-a.Lo)+1)) rfl<|wn<|Am ?_;obtain rfl:=oi b;refine Av rfl rfl ?_;exact⟨g.Bf,rfl⟩
theorem a35 z j d e(Z:Nat→Prop) w(p:Sl (Ai .i64) w Z d e j) aA(a:F7 z j=some aA):
 BO Tryz.prog 35 #[.slice d j.length e] w (fun v w'=>Ext w w'∧(Dr .i64).R w' (zf Z w []) v aA):=by
 unfold F7 at a;refine rq (N:=18) Tryz.func35 fun aP ha aQ=>?_;have s:=sA 0 ha;clear ha;have aB:Hp FN [] w [] w:=Hp.start (BC.none w);have n:=p.mv (Bz (Z:=Z) (L:=[]) w);refine cr<|wA (v:=I 0) rfl<|wr<|wA (v:=I 0) rfl<|wn<|Af<|cr<|wA (v:=I 0) rfl<|wn<|AI ?_;replace a:=bind_some a;obtain⟨q,g,a⟩:=a;refine BY (fun aC f t=>(aC=.exit 0∧Fo X0 18 f∧sl f 3=I q∧w=t)) ?aD ?aE
 case aD=>
  clear a;refine BX (fun u f t=>∃c,∃b,DL j u c b=some q∧Fo X0 18 f∧sl f 0=.slice d j.length e∧sl f 3=I c∧sl f 4=I b∧w=t) z ?aF ?aG
  case aF=>
   intro st;exact⟨(0:Int),(0:Int),g,qo st,sp st 0 s,sp st 3 rfl,sp st 4 rfl,rfl⟩
  case aG=>
   rintro(_|u) aR _ ⟨c,b,g,x,h,m,i,rfl⟩
   ·exact absurd (show none=some _ from g) (by simp)
   rw[DL.eq_2] at g;have a:=g;clear g;refine ro x<|Af<|cr<|wM (v:=I b) i<|wM (v:=.slice d j.length e) h<|wD (fun st=>Br Tryz.underlying31 (eR st))<|wD (fun st=>B9 (eR st) (eR st))<|wn ?_;rcases Ae (decide (b<(j.length:Int))) with l|l
   ·replace a:=An a l;refine Ah rfl l<|cn<|Af<|AI<|Al<|wM (v:=I c) m<|wM (v:=.slice d j.length e) h<|wM (v:=I b) i ?_;replace a:=AT a;obtain⟨i3,y,aH,aI,aJ,a⟩:=a;obtain⟨b3,aS,_,aK,rfl,aL⟩:=Sl.Cy n rfl aI;refine wD (fun st=>Bi (k:=i3) Tryz.underlying31 CM (eR st) aK (eR st) aH aJ)<|wD (fun st=>Bp (v:=I y) Bg (eR st) aL rfl) ?_;replace a:=AL a;obtain⟨aM,a⟩:=a;refine wD (fun st=>BL (eR st) (eR st) aM)<|wA (v:=I (c+y)) rfl<|Bj<|CU<|Al<|wM (v:=I b) i ?_;replace a:=AL a;obtain⟨aN,a⟩:=a;refine wD (fun st=>BL (eR st) (eR st) aN)<|wA (v:=I (b+1)) rfl<|Bj ?_;refine Bv u (Nat.lt_succ_self _) (fun st=>?_);exact⟨(c+y),(b+1),a,qo st,sp st 0 h,sp st 3 rfl,sp st 4 rfl,rfl⟩
   ·replace a:=Ao a l;refine Aq rfl l<|DG ?_;obtain rfl:=oi a;refine BF (fun st=>?_);exact⟨rfl,qo st,sp st 3 m,rfl⟩
 case aE=>
  rintro aC aO _ (⟨rfl,r,o,rfl⟩);refine lf r<|Bd<|BM<|cr<|wM (v:=I q) o<|wA (v:=I q) rfl<|wn<|Am ?_;obtain rfl:=oi a;refine Av rfl rfl ?_;exact⟨aB.Bf,rfl⟩
theorem a91 aY g p b c h i j l d e(Z:Nat→Prop) w(aZ:Sl AA w Z b c g.Ax)(a0:Sl (BH (Ai .i64)) w Z h i g.AX)(a2:Sl AH w Z j l g.AP)(a3:Sl (Ai .i64) w Z d e p) bK(a:Gv aY g p=some bK):
 BO Tryz.prog 91 #[.agg (AS b c h i j l g).toArray,.slice d p.length e] w (fun v w'=>Ext w w'∧BE.R w' (zf Z w []) v bK):=by
 unfold Gv at a;refine rq (N:=24) Tryz.func91 fun b5 ha b6=>?_;have bA:=sA 0 ha;have bB:=sA 1 ha;clear ha;have a7:Hp FN [] w [] w:=Hp.start (BC.none w);have ⟨aH,aI,aJ,aK⟩:=Iv aZ a0 a2 a3 (Bz (Z:=Z) (L:=[]) w);refine cr<|wE (fun st=>BN (v:=.agg (AS b c h i j l g).toArray) (cs:=(AS b c h i j l g).toArray) (ee st bA) rfl) ?_;rintro _ w1 ⟨b1,rfl,aF⟩;have bL:=a7.nb aF;have bX:=a7.BJ aF;refine wA (v:=.bool false) rfl<|wn<|Af<|cr<|wA (v:=I 0) rfl<|wn<|AI ?_;replace a:=bind_some a;obtain⟨z2,x,a⟩:=a;refine BY (fun bC m o=>(bC=.ret∧∃y,z2=.inl y∧Fo X0 24 m∧sl m 4=.bool y∧Hp FN [] w [some b1] o)∨(bC=.exit 0∧∃y,z2=.inr y∧Fo X0 24 m∧sl m 1=.slice d p.length e∧sl m 2=pt b1 0∧Hp FN [] w [some b1] o∧Bk o b1 26 (AS b c h i j l g).toArray∧(fun z=>Sl AA o z b c g.Ax∧Sl (BH (Ai .i64)) o z h i g.AX∧Sl AH o z j l g.AP∧Sl (Ai .i64) o z d e p) (zf Z w [some b1]))) ?bM ?bN
 case bM=>
  clear a;refine BX (fun bD m o=>∃f,Dc aY p bD f=some z2∧Fo X0 24 m∧sl m 1=.slice d p.length e∧sl m 2=pt b1 0∧sl m 5=I f∧Hp FN [] w [some b1] o∧Bk o b1 26 (AS b c h i j l g).toArray∧(fun z=>Sl AA o z b c g.Ax∧Sl (BH (Ai .i64)) o z h i g.AX∧Sl AH o z j l g.AP∧Sl (Ai .i64) o z d e p) (zf Z w [some b1])) aY ?bO ?bP
  case bO=>
   intro st;have ⟨aL,aM,aN,aO⟩:=Iv aH aI aJ aK (Az aF);exact⟨(0:Int),x,qo st,sp st 1 bB,sp st 2 rfl,sp st 5 rfl,bL,aF.bk,aL,aM,aN,aO⟩
  case bP=>
   rintro(_|bD) b7 b8 ⟨f,x,bE,q,aG,aA,a8,aC,r,s,t,n⟩
   ·exact absurd (show none=some _ from x) (by simp)
   rw[Dc.eq_2] at x;have a:=x;clear x;refine ro bE<|Af<|cr<|wM (v:=I f) aA<|wM (v:=.slice d p.length e) q<|wD (fun st=>Br Tryz.underlying31 (eR st))<|wD (fun st=>B9 (eR st) (eR st))<|wn ?_;rcases Ae (decide (f<(p.length:Int))) with aD|aD
   ·replace a:=An a aD;refine Ah rfl aD<|cn<|Af<|AI<|cr<|wM (v:=.slice d p.length e) q<|wM (v:=I f) aA ?_;replace a:=AT a;obtain⟨i4,bQ,bR,bS,bT,a⟩:=a;obtain⟨cA,cB,_,bU,rfl,bV⟩:=Sl.Cy n rfl bS;refine wD (fun st=>Bi (k:=i4) Tryz.underlying31 CM (eR st) bU (eR st) bR bT)<|wD (fun st=>Bp (v:=I bQ) Bg (eR st) bV rfl) ?_;replace a:=bind_some a;obtain⟨a4,bW,a⟩:=a;refine wE (fun st=>Aj Em (eR st) (Ek (eR st) (eR st) (eR st)) (Ii aY bQ 0 30 ZA _ a4 bW)) ?_;rintro _ cC ⟨aT,rfl⟩;have a9:=a8.ext aT;refine wD (fun st=>Ca (eR st))<|wn ?_;rcases Ae (!a4) with u|u
    ·replace a:=An a u;have bY:a4=false:=by simpa using u
     refine Ah rfl u<|cr<|wA (v:=.bool false) rfl<|wn<|Am<|CN<|AG ?_;obtain rfl:=oi a;refine BF (fun st=>?_);exact .inl ⟨rfl,false,rfl,qo st,sp st 4 rfl,a9⟩
    ·replace a:=Ao a u;have bZ:a4=true:=by simpa using u
     refine Aq rfl u<|Cp<|CU<|Al<|wM (v:=I f) aA ?_;replace a:=AL a;obtain⟨bF,a⟩:=a;refine wD (fun st=>BL (eR st) (eR st) bF)<|wA (v:=I (f+1)) rfl<|Bj ?_;have a5:=(aC.ext aT);have ⟨aP,aQ,aR,aS⟩:=Iv r s t n (Ac aT);refine Bv bD (Nat.lt_succ_self _) (fun st=>?_);exact⟨(f+1),a,qo st,sp st 1 q,sp st 2 aG,sp st 5 rfl,a9,a5,aP,aQ,aR,aS⟩
   ·replace a:=Ao a aD;refine Aq rfl aD<|DG ?_;obtain rfl:=oi a;refine BF (fun st=>?_);exact .inr ⟨rfl,(),rfl,qo st,sp st 1 q,sp st 2 aG,a8,aC,r,s,t,n⟩
 case bN=>
  rintro bC b4 b9 (⟨rfl,y,rfl,aB,aU,aE⟩|⟨rfl,y,rfl,aB,aV,aW,aE,aX,bG,bH,bI,bJ⟩)
  ·skip
   replace a:=C4 a;refine lf aB<|CN ?_;obtain rfl:=oi a;refine Av rfl aU ?_;exact⟨aE.Bf,rfl⟩
  ·skip
   replace a:=C5 a;refine lf aB<|Bd<|BM<|cr<|wM (v:=.slice d p.length e) aV<|wD (fun st=>Br Tryz.underlying31 (eR st))<|wD (fun st=>Ad (ee st aW) (Gk _ _))<|wD (fun st=>Ag (v:=.slice b g.Ax.length c) He (eR st) aX rfl)<|wD (fun st=>Br Tryz.underlying22 (eR st))<|wD (fun st=>Dp (eR st) (eR st))<|wA (v:=.bool ((p.length:Int)==(g.Ax.length:Int))) rfl<|wn<|Am ?_;obtain rfl:=oi a;refine Av rfl rfl ?_;exact⟨aE.Bf,rfl⟩
theorem a59 aL e c d f g h i(Z:Nat→Prop) w(aM:Sl AA w Z c d e.Ax)(aN:Sl (BH (Ai .i64)) w Z f g e.AX)(aO:Sl AH w Z h i e.AP) a0(a:EE aL e=some a0):
 BO Tryz.prog 59 #[.agg (AS c d f g h i e).toArray] w (fun v w'=>Ext w w'∧(Dr .i64).R w' (zf Z w []) v a0):=by
 unfold EE at a;refine rq (N:=22) Tryz.func59 fun bK ha bL=>?_;have aT:=sA 0 ha;clear ha;have aR:Hp FN [] w [] w:=Hp.start (BC.none w);have ⟨aA,aB,aC⟩:=Ez aM aN aO (Bz (Z:=Z) (L:=[]) w);refine cr<|wE (fun st=>BN (v:=.agg (AS c d f g h i e).toArray) (cs:=(AS c d f g h i e).toArray) (ee st aT) rfl) ?_;rintro _ w1 ⟨b1,rfl,y⟩;have a2:=aR.nb y;have bI:=aR.BJ y;refine wA (v:=I 0) rfl<|wr<|wA (v:=I 1) rfl<|wn<|Af<|cr<|wA (v:=I 0) rfl<|wn<|AI ?_;replace a:=bind_some a;obtain⟨z2,p,a⟩:=a;refine BY (fun a3 m t=>(a3=.exit 0∧Fo X0 22 m∧sl m 3=I z2∧Hp FN [] w [some b1] t)) ?a4 ?a5
 case a4=>
  clear a;refine BX (fun aU m t=>∃j,∃b,DB aL e aU j b=some z2∧Fo X0 22 m∧sl m 1=pt b1 0∧sl m 3=I j∧sl m 4=I b∧Hp FN [] w [some b1] t∧Bk t b1 26 (AS c d f g h i e).toArray∧(fun aV=>Sl AA t aV c d e.Ax∧Sl (BH (Ai .i64)) t aV f g e.AX∧Sl AH t aV h i e.AP) (zf Z w [some b1])) aL ?a7 ?a8
  case a7=>
   intro st;have ⟨aD,aE,aF⟩:=Ez aA aB aC (Az y);exact⟨(1:Int),(0:Int),p,qo st,sp st 1 rfl,sp st 3 rfl,sp st 4 rfl,a2,y.bk,aD,aE,aF⟩
  case a8=>
   rintro(_|aU) bM bN ⟨j,b,p,aW,q,z,r,aS,n,o,u,x⟩
   ·exact absurd (show none=some _ from p) (by simp)
   rw[DB.eq_2] at p;have a:=p;clear p;refine ro aW<|Af<|cr<|wM (v:=I b) r<|wD (fun st=>Ad (ee st q) (Gk _ _))<|wD (fun st=>Ag (v:=.slice c e.Ax.length d) He (eR st) n rfl)<|wD (fun st=>Br Tryz.underlying22 (eR st))<|wD (fun st=>B9 (eR st) (eR st))<|wn ?_;rcases Ae (decide (b<(e.Ax.length:Int))) with s|s
   ·replace a:=An a s;refine Ah rfl s<|cn<|Af<|AI<|Al<|wM (v:=I j) z<|wD (fun st=>Ad (ee st q) (Gk _ _))<|wD (fun st=>Ag (v:=.slice c e.Ax.length d) He (eR st) n rfl)<|wM (v:=I b) r ?_;replace a:=AT a;obtain⟨i4,aX,a9,bA,bB,a⟩:=a;obtain⟨bP,bQ,_,bC,rfl,bD⟩:=Sl.elem o (by decide) bA;refine wD (fun st=>Bu (k:=i4) Tryz.underlying22 L6 (eR st) bC (eR st) a9 bB)<|wD (fun st=>CK (l:=[I aX.Lo,I aX.Hi]) Jg (eR st) bD rfl rfl) ?_;replace a:=bind_some a;obtain⟨aY,bE,a⟩:=a;refine wE (fun st=>Aj PX (eR st) (Ck (eR st)) (Wq aL aX ZA _ aY bE)) ?_;rintro _ bR ⟨aJ,rfl⟩;have bF:=aS.ext aJ;replace a:=AL a;obtain⟨bG,a⟩:=a;refine wD (fun st=>LY (eR st) (eR st) bG)<|wD (fun st=>WH (eR st) (eR st))<|wA (v:=I (min (3000:Int) (j*aY))) rfl<|Bj<|CU<|Al<|wM (v:=I b) r ?_;replace a:=AL a;obtain⟨bH,a⟩:=a;refine wD (fun st=>BL (eR st) (eR st) bH)<|wA (v:=I (b+1)) rfl<|Bj ?_;have aP:=(n.ext aJ);have ⟨aG,aH,aI⟩:=Ez o u x (Ac aJ);refine Bv aU (Nat.lt_succ_self _) (fun st=>?_);exact⟨(min (3000:Int) (j*aY)),(b+1),a,qo st,sp st 1 q,sp st 3 rfl,sp st 4 rfl,bF,aP,aG,aH,aI⟩
   ·replace a:=Ao a s;refine Aq rfl s<|DG ?_;obtain rfl:=oi a;refine BF (fun st=>?_);exact⟨rfl,qo st,sp st 3 z,aS⟩
 case a5=>
  rintro a3 bJ bO (⟨rfl,aQ,aK,aZ⟩);refine lf aQ<|Bd<|BM<|cr<|wM (v:=I z2) aK<|wA (v:=I z2) rfl<|wn<|Am ?_;obtain rfl:=oi a;refine Av rfl rfl ?_;exact⟨aZ.Bf,rfl⟩
set_option maxHeartbeats 4000000 in
theorem a24 aN b e f c d g i(Z:Nat→Prop) w(dX:Sl AA w Z e f b.Ax)(dY:Sl (BH (Ai .i64)) w Z c d b.AX)(dZ:Sl AH w Z g i b.AP) fX(a:EW aN b=some fX):
 BO Tryz.prog 24 #[.agg (AS e f c d g i b).toArray] w (fun v w'=>Ext w w'∧(Dr .i64).R w' (zf Z w []) v fX):=by
 unfold EW at a;refine rq (N:=101) Tryz.func24 fun gM ha gN=>?_;have eD:=sA 0 ha;clear ha;have d5:Hp FN [] w [] w:=Hp.start (BC.none w);have ⟨cS,cT,cU⟩:=Ez dX dY dZ (Bz (Z:=Z) (L:=[]) w);refine cr<|wE (fun st=>BN (v:=.agg (AS e f c d g i b).toArray) (cs:=(AS e f c d g i b).toArray) (ee st eD) rfl) ?_;rintro _ w1 ⟨b1,rfl,a2⟩;have bT:=d5.nb a2;have gC:=d5.BJ a2;refine wA (v:=I 0) rfl<|wn<|Af<|cr<|wD (fun st=>Ad (eR st) (Gk _ _))<|wD (fun st=>Ag (v:=.slice e b.Ax.length f) He (eR st) a2.bk rfl)<|wD (fun st=>Br Tryz.underlying22 (eR st))<|wD (fun st=>FI (eR st) (eR st))<|wM (v:=.bool (decide ((3:Int)<(b.Ax.length:Int)))) rfl ?_;rcases Ae (decide ((3:Int)<(b.Ax.length:Int))) with aE|aE
 ·replace a:=An a aE;refine wF aE<|wF aE<|wF aE<|wF aE<|wD (fun st=>AY (v:=.bool true) (eR st) aE (eR st))<|wM (v:=.bool true) rfl<|wH<|wH<|wH<|wH<|wD (fun st=>AY (v:=.bool true) (eR st) rfl (eR st))<|wn<|Ah rfl rfl<|cr<|wA (v:=I 3) rfl<|wn<|Am<|AG ?_;obtain rfl:=oi a;refine Av rfl rfl ?_;exact⟨bT.Bf,rfl⟩
 ·replace a:=Ao a aE;refine wG aE (fun st=>Ad (eR st) (DE _ _))<|wG aE (fun st=>Ag (v:=.slice c b.AX.length d) C2 (eR st) a2.bk rfl)<|wG aE (fun st=>Br Tryz.underlying23 (eR st))<|wG aE (fun st=>FI (eR st) (eR st))<|wD (fun st=>Bs (v:=.bool (decide ((3:Int)<(b.AX.length:Int)))) (eR st) aE (eR st))<|wM (v:=.bool (decide ((3:Int)<(b.AX.length:Int)))) rfl ?_;rcases Ae (decide ((3:Int)<(b.AX.length:Int))) with aF|aF
  ·replace a:=An a aF;refine wF aF<|wF aF<|wF aF<|wF aF<|wD (fun st=>AY (v:=.bool true) (eR st) aF (eR st))<|wn<|Ah rfl rfl<|cr<|wA (v:=I 3) rfl<|wn<|Am<|AG ?_;obtain rfl:=oi a;refine Av rfl rfl ?_;exact⟨bT.Bf,rfl⟩
  ·replace a:=Ao a aF;refine wG aF (fun st=>Ad (eR st) (Ks _ _))<|wG aF (fun st=>Ag (v:=.slice g b.AP.length i) Lf (eR st) a2.bk rfl)<|wG aF (fun st=>Br Tryz.underlying24 (eR st))<|wG aF (fun st=>FI (eR st) (eR st))<|wD (fun st=>Bs (v:=.bool (decide ((5:Int)<(b.AP.length:Int)))) (eR st) aF (eR st))<|wn ?_;rcases Ae (decide ((5:Int)<(b.AP.length:Int))) with bU|bU
   ·replace a:=An a bU;refine Ah rfl bU<|cr<|wA (v:=I 3) rfl<|wn<|Am<|AG ?_;obtain rfl:=oi a;refine Av rfl rfl ?_;exact⟨bT.Bf,rfl⟩
   ·replace a:=Ao a bU;refine Aq rfl bU<|cn<|Af<|cr<|wD (fun st=>Ad (eR st) (Gk _ _))<|wD (fun st=>Ag (v:=.slice e b.Ax.length f) He (eR st) a2.bk rfl)<|wD (fun st=>Br Tryz.underlying22 (eR st))<|wD (fun st=>Dp (eR st) (eR st))<|wn ?_;rcases Ae ((b.Ax.length:Int)==0) with bV|bV
    ·replace a:=An a bV;refine Ah rfl bV<|cr<|wA (v:=I 1) rfl<|wn<|Am<|AG ?_;obtain rfl:=oi a;refine Av rfl rfl ?_;exact⟨bT.Bf,rfl⟩
    ·replace a:=Ao a bV;refine Aq rfl bV<|cn<|Af<|cr<|wA (v:=I 0) rfl<|wn<|AI ?_;replace a:=bind_some a;obtain⟨eE,bJ,a⟩:=a;refine BY (fun a8 m p=>(a8=.ret∧∃bK,eE=.inl bK∧Fo X0 101 m∧sl m 2=I bK∧Hp FN [] w [some b1] p)∨(a8=.exit 0∧∃bK,eE=.inr bK∧Fo X0 101 m∧sl m 1=pt b1 0∧Hp FN [] w [some b1] p∧Bk p b1 26 (AS e f c d g i b).toArray∧(fun z=>Sl AA p z e f b.Ax∧Sl (BH (Ai .i64)) p z c d b.AX∧Sl AH p z g i b.AP) (zf Z w [some b1]))) ?fY ?fZ
     case fY=>
      clear a;refine BX (fun a3 m p=>∃aG,Dt aN b a3 aG=some eE∧Fo X0 101 m∧sl m 1=pt b1 0∧sl m 3=I aG∧Hp FN [] w [some b1] p∧Bk p b1 26 (AS e f c d g i b).toArray∧(fun z=>Sl AA p z e f b.Ax∧Sl (BH (Ai .i64)) p z c d b.AX∧Sl AH p z g i b.AP) (zf Z w [some b1])) aN ?f0 ?f1
      case f0=>
       intro st;have ⟨cV,cW,cX⟩:=Ez cS cT cU (Az a2);exact⟨(0:Int),bJ,qo st,sp st 1 rfl,sp st 3 rfl,bT,a2.bk,cV,cW,cX⟩
      case f1=>
       rintro(_|a3) gO gP ⟨aG,bJ,eF,a4,bM,d6,aT,aO,a9,bA⟩
       ·exact absurd (show none=some _ from bJ) (by simp)
       rw[Dt.eq_2] at bJ;have a:=bJ;clear bJ;refine ro eF<|Af<|cr<|wM (v:=I aG) bM<|wD (fun st=>Ad (ee st a4) (Gk _ _))<|wD (fun st=>Ag (v:=.slice e b.Ax.length f) He (eR st) aT rfl)<|wD (fun st=>Br Tryz.underlying22 (eR st))<|wD (fun st=>B9 (eR st) (eR st))<|wn ?_;rcases Ae (decide (aG<(b.Ax.length:Int))) with bW|bW
       ·replace a:=An a bW;refine Ah rfl bW<|cn<|Af<|AI<|cr<|wD (fun st=>Ad (ee st a4) (Gk _ _))<|wD (fun st=>Ag (v:=.slice e b.Ax.length f) He (eR st) aT rfl)<|wM (v:=I aG) bM ?_;replace a:=AT a;obtain⟨i8,eG,f2,f3,f4,a⟩:=a;obtain⟨g5,g6,_,f5,rfl,f6⟩:=Sl.elem aO (by decide) f3;refine wD (fun st=>Bu (k:=i8) Tryz.underlying22 L6 (eR st) f5 (eR st) f2 f4)<|wD (fun st=>CK (l:=[I eG.Lo,I eG.Hi]) Jg (eR st) f6 rfl rfl) ?_;replace a:=bind_some a;obtain⟨d0,f7,a⟩:=a;refine wE (fun st=>Aj Pm (eR st) (Ek (eR st) (eR st) (eR st)) (W1 aN eG 0 100 ZA _ d0 f7)) ?_;rintro _ gQ ⟨dC,rfl⟩;have d7:=d6.ext dC;refine wD (fun st=>Ca (eR st))<|wn ?_;rcases Ae (!d0) with aP|aP
        ·replace a:=An a aP;have fL:d0=false:=by simpa using aP
         refine Ah rfl aP<|cr<|wA (v:=I 1) rfl<|wn<|Am<|CN<|AG ?_;obtain rfl:=oi a;refine BF (fun st=>?_);exact .inl ⟨rfl,(1:Int),rfl,qo st,sp st 2 rfl,d7⟩
        ·replace a:=Ao a aP;have fM:d0=true:=by simpa using aP
         refine Aq rfl aP<|Cp<|CU<|Al<|wM (v:=I aG) bM ?_;replace a:=AL a;obtain⟨eH,a⟩:=a;refine wD (fun st=>BL (eR st) (eR st) eH)<|wA (v:=I (aG+1)) rfl<|Bj ?_;have d1:=(aT.ext dC);have ⟨cY,cZ,c0⟩:=Ez aO a9 bA (Ac dC);refine Bv a3 (Nat.lt_succ_self _) (fun st=>?_);exact⟨(aG+1),a,qo st,sp st 1 a4,sp st 3 rfl,d7,d1,cY,cZ,c0⟩
       ·replace a:=Ao a bW;refine Aq rfl bW<|DG ?_;obtain rfl:=oi a;refine BF (fun st=>?_);exact .inr ⟨rfl,(),rfl,qo st,sp st 1 a4,d6,aT,aO,a9,bA⟩
     case fZ=>
      rintro a8 gF gR (⟨rfl,bK,rfl,bN,dD,cC⟩|⟨rfl,bK,rfl,bN,dE,cC,dF,cD,cE,cF⟩)
      ·skip
       replace a:=C4 a;refine lf bN<|CN ?_;obtain rfl:=oi a;refine Av rfl dD ?_;exact⟨cC.Bf,rfl⟩
      ·skip
       replace a:=C5 a;refine lf bN<|Bd<|BM<|Af<|cr<|wA (v:=I 0) rfl<|wn<|AI ?_;replace a:=bind_some a;obtain⟨dG,aW,a⟩:=a;refine BY (fun a8 m p=>(a8=.ret∧∃aX,dG=.inl aX∧Fo X0 101 m∧sl m 2=I aX∧Hp FN [] w [some b1] p)∨(a8=.exit 2∧∃aX,dG=.inr aX∧Fo X0 101 m∧sl m 1=pt b1 0∧Hp FN [] w [some b1] p∧Bk p b1 26 (AS e f c d g i b).toArray∧(fun z=>Sl AA p z e f b.Ax∧Sl (BH (Ai .i64)) p z c d b.AX∧Sl AH p z g i b.AP) (zf Z w [some b1]))) ?eI ?eJ
       case eI=>
        clear a;refine BX (fun a3 m p=>∃u,CZ aN b a3 u=some dG∧Fo X0 101 m∧sl m 1=pt b1 0∧sl m 4=I u∧Hp FN [] w [some b1] p∧Bk p b1 26 (AS e f c d g i b).toArray∧(fun z=>Sl AA p z e f b.Ax∧Sl (BH (Ai .i64)) p z c d b.AX∧Sl AH p z g i b.AP) (zf Z w [some b1])) aN ?eK ?eM
        case eK=>
         intro st;exact⟨(0:Int),aW,qo st,sp st 1 dE,sp st 4 rfl,cC,dF,cD,cE,cF⟩
        case eM=>
         rintro(_|a3) gG gH ⟨u,aW,d2,x,aI,dH,t,aB,y,aC⟩
         ·exact absurd (show none=some _ from aW) (by simp)
         rw[CZ.eq_2] at aW;have a:=aW;clear aW;refine ro d2<|Af<|cr<|wM (v:=I u) aI<|wD (fun st=>Ad (ee st x) (DE _ _))<|wD (fun st=>Ag (v:=.slice c b.AX.length d) C2 (eR st) t rfl)<|wD (fun st=>Br Tryz.underlying23 (eR st))<|wD (fun st=>B9 (eR st) (eR st))<|wn ?_;rcases Ae (decide (u<(b.AX.length:Int))) with bB|bB
         ·replace a:=An a bB;refine Ah rfl bB<|cn<|Af<|AI<|Af ?_;replace a:=AT a;obtain⟨i18,cP,dI,eN,dJ,a⟩:=a;obtain⟨d8,d9,_,dK,⟨a5,a7,rfl,bX⟩,dL⟩:=Sl.Cy y rfl eN;replace a:=bind_some a;obtain⟨aJ,dM,a⟩:=a;rcases Ae (!aJ) with j|j
          ·replace a:=An a j;have fN:aJ=false:=by simpa using j
           refine BU 12 [Kc (.agg (AS e f c d g i b).toArray),Kc (pt b1 1),Kc (.slice c b.AX.length d),Kc (I u),Kc (pt d8 (d9+i18)),Kc (.slice a5 cP.length a7),Kc (.bool aJ),Kc (.bool !aJ),Kc (.bool !aJ),Kc undef,Kc undef,Kc undef] mixed rfl rfl
               (Aa (oD (fun K=>Ba (l:=(AS e f c d g i b)) H2 (es ((K.out 1 rfl).trans x)) (t.ext K.AQ) rfl rfl))
               (Aa (oD (fun K=>Ad (es ((K.out 1 rfl).trans x)) (DE _ _)))
               (Aa (oD (fun K=>Ag C2 (es (K.dq 1 50)) (t.ext K.AQ) rfl))
               (Aa (oD (fun K=>Au (es ((K.out 4 rfl).trans aI))))
               (Aa (oD (fun K=>Bi (k:=i18) Tryz.underlying23 EO (es (K.dq 2 51)) dK (es (K.dq 3 52)) dI dJ))
               (Aa (oD (fun K=>Bp CO (es (K.dq 4 53)) (dL.mv (Ac K.AQ)) rfl))
               (Aa (oE (fun K=>(Aj U1 rfl (Ci (es (K.dq 0 49)) (es (K.dq 5 54))) (a91 aN b cP e f c d g i a5 a7 ZA _ (aB.mv (Ac K.AQ)).all (y.mv (Ac K.AQ)).all (aC.mv (Ac K.AQ)).all (bX.mv (Ac K.AQ)).all aJ dM)).mono (fun _ _ h=>⟨h.2,h.1⟩)))
               (Aa (oD (fun K=>Ca (es (K.dq 6 55))))
               (Aa (oD (fun K=>Au (es (K.dq 7 56))))
               (Aa (oT j)
               (Aa (oT j)
               (Aa (oT j)
               (BS _))))))))))))) ?_
           intro f8;rintro _ rfl _ rfl _ rfl _ rfl _ rfl _ rfl _ rfl _ rfl _ rfl _ rfl _ rfl _ rfl aQ;have f9:=dH.ext aQ;refine wF j<|wF j<|wF j<|wF j<|wD (fun st=>AY (v:=.bool true) (eR st) j (eR st))<|wn<|Ah rfl rfl<|cr<|wA (v:=I 1) rfl<|wn<|Am<|CN<|AG ?_;obtain rfl:=oi a;refine BF (fun st=>?_);exact .inl ⟨rfl,(1:Int),rfl,qo st,sp st 2 rfl,f9⟩
          ·replace a:=Ao a j;have fO:aJ=true:=by simpa using j
           refine BU 12 [Kc (.agg (AS e f c d g i b).toArray),Kc (pt b1 1),Kc (.slice c b.AX.length d),Kc (I u),Kc (pt d8 (d9+i18)),Kc (.slice a5 cP.length a7),Kc (.bool aJ),Kc (.bool !aJ),Kc (.bool !aJ),Kc (pt b1 1),Kc (.slice c b.AX.length d),Kc (I u)] mixed rfl rfl
               (Aa (oD (fun K=>Ba (l:=(AS e f c d g i b)) H2 (es ((K.out 1 rfl).trans x)) (t.ext K.AQ) rfl rfl))
               (Aa (oD (fun K=>Ad (es ((K.out 1 rfl).trans x)) (DE _ _)))
               (Aa (oD (fun K=>Ag C2 (es (K.dq 1 50)) (t.ext K.AQ) rfl))
               (Aa (oD (fun K=>Au (es ((K.out 4 rfl).trans aI))))
               (Aa (oD (fun K=>Bi (k:=i18) Tryz.underlying23 EO (es (K.dq 2 51)) dK (es (K.dq 3 52)) dI dJ))
               (Aa (oD (fun K=>Bp CO (es (K.dq 4 53)) (dL.mv (Ac K.AQ)) rfl))
               (Aa (oE (fun K=>(Aj U1 rfl (Ci (es (K.dq 0 49)) (es (K.dq 5 54))) (a91 aN b cP e f c d g i a5 a7 ZA _ (aB.mv (Ac K.AQ)).all (y.mv (Ac K.AQ)).all (aC.mv (Ac K.AQ)).all (bX.mv (Ac K.AQ)).all aJ dM)).mono (fun _ _ h=>⟨h.2,h.1⟩)))
               (Aa (oD (fun K=>Ca (es (K.dq 6 55))))
               (Aa (oD (fun K=>Au (es (K.dq 7 56))))
               (Aa (oG j (fun K=>Ad (es ((K.out 1 rfl).trans x)) (DE _ _)))
               (Aa (oG j (fun K=>Ag C2 (es (K.dq 9 58)) (t.ext K.AQ) rfl))
               (Aa (oG j (fun K=>Au (es ((K.out 4 rfl).trans aI))))
               (BS _))))))))))))) ?_
           intro f8;rintro _ rfl _ rfl _ rfl _ rfl _ rfl _ rfl _ rfl _ rfl _ rfl _ rfl _ rfl _ rfl aQ;have gA:=dH.ext aQ;replace a:=AT a;obtain⟨i23,eA,eO,eP,eQ,a⟩:=a;have bL:=(y.mv (Ac aQ));obtain⟨gS,gT,_,eS,⟨cQ,cR,rfl,dN⟩,eT⟩:=Sl.Cy bL rfl eP;refine wG j (fun st=>Bi (k:=i23) Tryz.underlying23 EO (eR st) eS (eR st) eO eQ)<|wG j (fun st=>Bp (v:=.slice cQ eA.length cR) CO (eR st) eT rfl) ?_;replace a:=bind_some a;obtain⟨dO,eU,a⟩:=a;refine wX j (fun st=>Aj RR (eR st) (Ck (eR st)) (a35 aN eA cQ cR ZA _ dN.all dO eU)) ?_;rintro _ gU ⟨bC,rfl⟩;have eB:=gA.ext bC;refine wG j (fun st=>Dp (eR st) (eR st))<|wD (fun st=>Bs (v:=.bool (dO==0)) (eR st) j (eR st))<|wn ?_;rcases Ae (dO==0) with bD|bD
           ·replace a:=An a bD;refine Ah rfl bD<|cr<|wA (v:=I 1) rfl<|wn<|Am<|CN<|AG ?_;obtain rfl:=oi a;refine BF (fun st=>?_);exact .inl ⟨rfl,(1:Int),rfl,qo st,sp st 2 rfl,eB⟩
           ·replace a:=Ao a bD;refine Aq rfl bD<|Cp<|CU<|Al<|wM (v:=I u) aI ?_;replace a:=AL a;obtain⟨eV,a⟩:=a;refine wD (fun st=>BL (eR st) (eR st) eV)<|wA (v:=I (u+1)) rfl<|Bj ?_;have d3:=((t.ext aQ).ext bC);have c1:=((aB.mv (Ac aQ)).mv (Ac bC));have c2:=(bL.mv (Ac bC));have c3:=((aC.mv (Ac aQ)).mv (Ac bC));refine Bv a3 (Nat.lt_succ_self _) (fun st=>?_);exact⟨(u+1),a,qo st,sp st 1 x,sp st 4 rfl,eB,d3,c1,c2,c3⟩
         ·replace a:=Ao a bB;refine Aq rfl bB<|DG ?_;obtain rfl:=oi a;refine BF (fun st=>?_);exact .inr ⟨rfl,(),rfl,qo st,sp st 1 x,dH,t,aB,y,aC⟩
       case eJ=>
        rintro a8 gD gI (⟨rfl,aX,rfl,bE,c4,bO⟩|⟨rfl,aX,rfl,bE,c5,bO,c6,bY,bZ,b4⟩)
        ·skip
         replace a:=C4 a;refine lf bE<|CN ?_;obtain rfl:=oi a;refine Av rfl c4 ?_;exact⟨bO.Bf,rfl⟩
        ·skip
         replace a:=C5 a;refine lf bE<|Bd<|BM<|Af<|cr<|wA (v:=I 0) rfl<|wn<|AI ?_;replace a:=bind_some a;obtain⟨z28,aY,a⟩:=a;refine BY (fun a8 m p=>(a8=.ret∧∃aZ,z28=.inl aZ∧Fo X0 101 m∧sl m 2=I aZ∧Hp FN [] w [some b1] p)∨(a8=.exit 4∧∃aZ,z28=.inr aZ∧Fo X0 101 m∧sl m 1=pt b1 0∧Hp FN [] w [some b1] p∧Bk p b1 26 (AS e f c d g i b).toArray∧(fun z=>Sl AA p z e f b.Ax∧Sl (BH (Ai .i64)) p z c d b.AX∧Sl AH p z g i b.AP) (zf Z w [some b1]))) ?eW ?eX
         case eW=>
          clear a;refine BX (fun a3 m p=>∃q,CL aN b a3 q=some z28∧Fo X0 101 m∧sl m 1=pt b1 0∧sl m 5=I q∧Hp FN [] w [some b1] p∧Bk p b1 26 (AS e f c d g i b).toArray∧(fun z=>Sl AA p z e f b.Ax∧Sl (BH (Ai .i64)) p z c d b.AX∧Sl AH p z g i b.AP) (zf Z w [some b1])) aN ?eY ?eZ
          case eY=>
           intro st;exact⟨(0:Int),aY,qo st,sp st 1 c5,sp st 5 rfl,bO,c6,bY,bZ,b4⟩
          case eZ=>
           rintro(_|a3) gJ gK ⟨q,aY,d4,aA,aU,cG,aM,aK,aL,aD⟩
           ·exact absurd (show none=some _ from aY) (by simp)
           rw[CL.eq_2] at aY;have a:=aY;clear aY;refine ro d4<|Af<|cr<|wM (v:=I q) aU<|wD (fun st=>Ad (ee st aA) (Ks _ _))<|wD (fun st=>Ag (v:=.slice g b.AP.length i) Lf (eR st) aM rfl)<|wD (fun st=>Br Tryz.underlying24 (eR st))<|wD (fun st=>B9 (eR st) (eR st))<|wn ?_;rcases Ae (decide (q<(b.AP.length:Int))) with bF|bF
           ·replace a:=An a bF;refine Ah rfl bF<|cn<|Af<|AI<|cr<|wD (fun st=>Ad (ee st aA) (Ks _ _))<|wD (fun st=>Ag (v:=.slice g b.AP.length i) Lf (eR st) aM rfl)<|wM (v:=I q) aU ?_;replace a:=AT a;obtain⟨i30,o,e0,e1,e2,a⟩:=a;obtain⟨gV,gW,_,e3,rfl,e4⟩:=Sl.elem aD (by decide) e1;refine wD (fun st=>Bu (k:=i30) Tryz.underlying24 Pn (eR st) e3 (eR st) e0 e2)<|wD (fun st=>CK (l:=[.bool o.BV,I o.Number,I o.Bm,I o.Bn]) RS (eR st) e4 rfl rfl)<|wE (fun st=>B8 (cs:= #[.bool false,I 0,I 0,I 0]) Tq rfl) ?_;rintro _ gX ⟨gY,rfl,a0⟩;have bP:=cG.nb a0;have gB:=cG.BJ a0;refine BI rfl rfl (fun st=>By (n:=4) (l:=[.bool o.BV,I o.Number,I o.Bm,I o.Bn]) (CB:= #[.bool o.BV,I o.Number,I o.Bm,I o.Bn]) (eR st) (eR st) Pn a0.bk rfl rfl (show 0+4≤4 by decide) (Bh rfl) rfl) ?_;rintro _ gZ aH;have dP:=bP.gr aH.gr 0 rfl;refine wr<|wD (fun st=>Ad (ee st aA) (Gk _ _)) ?_;have aV:=((aM.ext a0.gr).gr aH.gr (bP.nq 1 0));refine wD (fun st=>Ag (v:=.slice e b.Ax.length f) He (eR st) aV rfl)<|wD (fun st=>Br Tryz.underlying22 (eR st))<|wA (v:=I (b.Ax.length:Int)) rfl<|wn<|Af<|cr<|wD (fun st=>Ad (eR st) (PY _ _))<|wD (fun st=>Ag (v:=.bool o.BV) Ka (eR st) aH.bk rfl)<|wn ?_;rcases Ae (o.BV) with bG|bG
            ·replace a:=An a bG;refine Ah rfl bG<|Al<|wD (fun st=>Ad (ee st aA) (DE _ _))<|wD (fun st=>Ag (v:=.slice c b.AX.length d) C2 (eR st) aV rfl)<|wD (fun st=>Br Tryz.underlying23 (eR st))<|wA (v:=I (b.AX.length:Int)) rfl<|wr<|wD (fun st=>Ad (eR st) (NX _ _))<|wD (fun st=>Ag (v:=I o.Number) Bg (eR st) aH.bk rfl)<|wM (v:=I (b.AX.length:Int)) rfl ?_;replace a:=AL a;obtain⟨e5,a⟩:=a;refine wD (fun st=>Ej (eR st) (eR st) e5) ?_;replace a:=bind_some a;obtain⟨b5,e6,a⟩:=a;refine wE (fun st=>Aj Em (eR st) (Ek (eR st) (eR st) (eR st)) (Ii aN o.Number 0 ((b.AX.length:Int)-1) ZA _ b5 e6)) ?_;rintro _ g0 ⟨bQ,rfl⟩;have dQ:=dP.ext bQ;refine wD (fun st=>Ca (eR st))<|wM (v:=.bool !b5) rfl ?_;rcases Ae (!b5) with r|r
             ·replace a:=An a r;have fP:b5=false:=by simpa using r
              refine wF r<|wF r<|wF r<|wF r<|wD (fun st=>AY (v:=.bool true) (eR st) r (eR st))<|wn<|Ah rfl rfl<|cr<|wA (v:=I 1) rfl<|wn<|Am<|CN<|AG ?_;have e7:=dQ.erase 0;obtain rfl:=oi a;refine BF (fun st=>?_);exact .inl ⟨rfl,(1:Int),rfl,qo st,sp st 2 rfl,e7⟩
             ·replace a:=Ao a r;have fQ:b5=true:=by simpa using r
              refine wG r (fun st=>Ad (eR st) (KV _ _)) ?_;have c7:=(aH.bk.ext bQ);refine wG r (fun st=>Ba (l:=[I o.Bm,I o.Bn]) Jg (eR st) c7 rfl rfl) ?_;replace a:=bind_some a;obtain⟨b6,e8,a⟩:=a;refine wX r (fun st=>Aj Pm (eR st) (Ek (eR st) (eR st) (eR st)) (W1 aN (⟨o.Bm,o.Bn⟩:AN) 0 100 ZA _ b6 e8)) ?_;rintro _ g1 ⟨cH,rfl⟩;have dR:=dQ.ext cH;refine wG r (fun st=>Ca (eR st))<|wD (fun st=>Bs (v:=.bool !b6) (eR st) r (eR st))<|wn ?_;rcases Ae (!b6) with aR|aR
              ·replace a:=An a aR;have fR:b6=false:=by simpa using aR
               refine Ah rfl aR<|cr<|wA (v:=I 1) rfl<|wn<|Am<|CN<|AG ?_;have e9:=dR.erase 0;obtain rfl:=oi a;refine BF (fun st=>?_);exact .inl ⟨rfl,(1:Int),rfl,qo st,sp st 2 rfl,e9⟩
              ·replace a:=Ao a aR;have fS:b6=true:=by simpa using aR
               refine Aq rfl aR<|Cp<|CU<|Al<|wM (v:=I q) aU ?_;replace a:=AL a;obtain⟨fA,a⟩:=a;refine wD (fun st=>BL (eR st) (eR st) fA)<|wA (v:=I (q+1)) rfl<|Bj ?_;have fB:=dR.erase 0;have dS:=((aV.ext bQ).ext cH);have ⟨cI,cJ,cK⟩:=Ez aK aL aD (mt (Az a0) (mt (bP.BA aH.gr 0 rfl) (mt (Ac bQ) (mt (Ac cH) (AD 0)))));refine Bv a3 (Nat.lt_succ_self _) (fun st=>?_);exact⟨(q+1),a,qo st,sp st 1 aA,sp st 5 rfl,fB,dS,cI,cJ,cK⟩
            ·replace a:=Ao a bG;refine Aq rfl bG<|cn<|cr<|wD (fun st=>Ad (eR st) (NX _ _))<|wD (fun st=>Ag (v:=I o.Number) Bg (eR st) aH.bk rfl)<|wM (v:=I (b.Ax.length:Int)) rfl ?_;replace a:=AL a;obtain⟨fC,a⟩:=a;refine wD (fun st=>Ej (eR st) (eR st) fC) ?_;replace a:=bind_some a;obtain⟨b7,fD,a⟩:=a;refine wE (fun st=>Aj Em (eR st) (Ek (eR st) (eR st) (eR st)) (Ii aN o.Number 0 ((b.Ax.length:Int)-1) ZA _ b7 fD)) ?_;rintro _ g2 ⟨bR,rfl⟩;have dT:=dP.ext bR;refine wD (fun st=>Ca (eR st))<|wM (v:=.bool !b7) rfl ?_;rcases Ae (!b7) with s|s
             ·replace a:=An a s;have fT:b7=false:=by simpa using s
              refine wF s<|wF s<|wF s<|wF s<|wD (fun st=>AY (v:=.bool true) (eR st) s (eR st))<|wn<|Ah rfl rfl<|cr<|wA (v:=I 1) rfl<|wn<|Am<|CN<|AG ?_;have fE:=dT.erase 0;obtain rfl:=oi a;refine BF (fun st=>?_);exact .inl ⟨rfl,(1:Int),rfl,qo st,sp st 2 rfl,fE⟩
             ·replace a:=Ao a s;have fU:b7=true:=by simpa using s
              refine wG s (fun st=>Ad (eR st) (KV _ _)) ?_;have c8:=(aH.bk.ext bR);refine wG s (fun st=>Ba (l:=[I o.Bm,I o.Bn]) Jg (eR st) c8 rfl rfl) ?_;replace a:=bind_some a;obtain⟨b8,fF,a⟩:=a;refine wX s (fun st=>Aj Pm (eR st) (Ek (eR st) (eR st) (eR st)) (W1 aN (⟨o.Bm,o.Bn⟩:AN) 0 100 ZA _ b8 fF)) ?_;rintro _ g3 ⟨cL,rfl⟩;have dU:=dT.ext cL;refine wG s (fun st=>Ca (eR st))<|wD (fun st=>Bs (v:=.bool !b8) (eR st) s (eR st))<|wn ?_;rcases Ae (!b8) with aS|aS
              ·replace a:=An a aS;have fV:b8=false:=by simpa using aS
               refine Ah rfl aS<|cr<|wA (v:=I 1) rfl<|wn<|Am<|CN<|AG ?_;have fG:=dU.erase 0;obtain rfl:=oi a;refine BF (fun st=>?_);exact .inl ⟨rfl,(1:Int),rfl,qo st,sp st 2 rfl,fG⟩
              ·replace a:=Ao a aS;have fW:b8=true:=by simpa using aS
               refine Aq rfl aS<|Cp<|CU<|Al<|wM (v:=I q) aU ?_;replace a:=AL a;obtain⟨fH,a⟩:=a;refine wD (fun st=>BL (eR st) (eR st) fH)<|wA (v:=I (q+1)) rfl<|Bj ?_;have fI:=dU.erase 0;have dV:=((aV.ext bR).ext cL);have ⟨cM,cN,cO⟩:=Ez aK aL aD (mt (Az a0) (mt (bP.BA aH.gr 0 rfl) (mt (Ac bR) (mt (Ac cL) (AD 0)))));refine Bv a3 (Nat.lt_succ_self _) (fun st=>?_);exact⟨(q+1),a,qo st,sp st 1 aA,sp st 5 rfl,fI,dV,cM,cN,cO⟩
           ·replace a:=Ao a bF;refine Aq rfl bF<|DG ?_;obtain rfl:=oi a;refine BF (fun st=>?_);exact .inr ⟨rfl,(),rfl,qo st,sp st 1 aA,cG,aM,aK,aL,aD⟩
         case eX=>
          rintro a8 gE gL (⟨rfl,aZ,rfl,bH,c9,bS⟩|⟨rfl,aZ,rfl,bH,dA,bS,dB,b9,cA,cB⟩)
          ·skip
           replace a:=C4 a;refine lf bH<|CN ?_;obtain rfl:=oi a;refine Av rfl c9 ?_;exact⟨bS.Bf,rfl⟩
          ·skip
           replace a:=C5 a;refine lf bH<|Bd<|BM<|Af<|cr<|wD (fun st=>Ba (l:=(AS e f c d g i b)) H2 (ee st dA) dB rfl rfl) ?_;replace a:=bind_some a;obtain⟨eC,fJ,a⟩:=a;refine wE (fun st=>Aj RT (eR st) (Ck (eR st)) (a59 aN b e f c d g i ZA _ b9.all cA.all cB.all eC fJ)) ?_;rintro _ g4 ⟨fK,rfl⟩;have dW:=bS.ext fK;refine wD (fun st=>FI (eR st) (eR st))<|wn ?_;rcases Ae (decide ((2000:Int)<eC)) with bI|bI
           ·replace a:=An a bI;refine Ah rfl bI<|cr<|wA (v:=I 3) rfl<|wn<|Am<|AG ?_;obtain rfl:=oi a;refine Av rfl rfl ?_;exact⟨dW.Bf,rfl⟩
           ·replace a:=Ao a bI;refine Aq rfl bI<|cn<|cr<|wA (v:=I 0) rfl<|wn<|Am ?_;obtain rfl:=oi a;refine Av rfl rfl ?_;exact⟨dW.Bf,rfl⟩
set_option maxHeartbeats 4000000 in
theorem a58 c1 bB dM a7 a8 bD bE bF bG(Z:Nat→Prop) w(dA:Sl AA w Z a7 a8 bB.Ax)(dB:Sl (BH (Ai .i64)) w Z bD bE bB.AX)(dC:Sl AH w Z bF bG bB.AP) d1(aN:HZ c1 bB dM=some d1):
 BO Tryz.prog 58 #[.agg (AS a7 a8 bD bE bF bG bB).toArray,I dM] w (fun v w'=>Ext w w'∧(FE (Ai .i64)).R w' (zf Z w []) v d1):=by
 unfold HZ at aN;refine rq (N:=35) Tryz.func58 fun eQ ha eS=>?_;have dN:=sA 0 ha;have dO:=sA 1 ha;clear ha;have dK:Hp FN [] w [] w:=Hp.start (BC.none w);have ⟨cQ,cR,cS⟩:=Ez dA dB dC (Bz (Z:=Z) (L:=[]) w);refine cr<|wE (fun st=>BN (v:=.agg (AS a7 a8 bD bE bF bG bB).toArray) (cs:=(AS a7 a8 bD bE bF bG bB).toArray) (ee st dN) rfl) ?_;rintro _ w1 ⟨b1,rfl,cD⟩;have d2:=dK.nb cD;have eJ:=dK.BJ cD;refine wA (v:=.slice none 0 0) rfl<|wr<|wA (v:=.slice none 0 0) rfl<|wn<|Af<|cr<|wA (v:=I 0) rfl<|wn<|AI ?_;have d3:=d2.nil;have d4:Bl (Ai .i64) 3 w.heap.size w1 (zf Z w [none,some b1]) none 0 ([]:List Int):=Bl.nil _ _ _ _ _;replace aN:=bind_some aN;obtain⟨z2,bR,aN⟩:=aN;refine BY (fun bO bH bA=>(bO=.exit 0∧∃aW a3,Fo X0 35 bH∧sl bH 5=.slice aW z2.length a3∧Hp FN [] w [ob aW,some b1] bA∧Bl (Ai .i64) 3 w.heap.size bA (zf Z w [ob aW,some b1]) aW a3 z2)) ?d5 ?d6
 case d5=>
  clear aN;refine BX (fun dP bH bA=>∃aK,∃aX,∃a5,∃aQ a2,Fm c1 bB dP aK aX a5=some z2∧Fo X0 35 bH∧sl bH 1=I aK∧sl bH 2=pt b1 0∧sl bH 5=.slice aQ aX.length a2∧sl bH 6=I a5∧Hp FN [] w [ob aQ,some b1] bA∧(fun dD=>Bl (Ai .i64) 3 w.heap.size bA dD aQ a2 aX∧Bk bA b1 26 (AS a7 a8 bD bE bF bG bB).toArray∧Sl AA bA dD a7 a8 bB.Ax∧Sl (BH (Ai .i64)) bA dD bD bE bB.AX∧Sl AH bA dD bF bG bB.AP) (zf Z w [ob aQ,some b1])) c1 ?d7 ?d8
  case d7=>
   intro st;have dE:=cD.bk;have ⟨cT,cU,cV⟩:=Ez cQ cR cS (mt (Az cD) Bt);exact⟨dM,([]:List Int),(0:Int),none,0,bR,qo st,sp st 1 dO,sp st 2 rfl,sp st 5 rfl,sp st 6 rfl,d3,d4,dE,cT,cU,cV⟩
  case d8=>
   rintro(_|dP) eT eU ⟨aK,aX,a5,aQ,a2,bR,dQ,cE,bU,cF,bV,c2,bI,bJ,bK,cA,cB⟩
   ·exact absurd (show none=some _ from bR) (by simp)
   rw[Fm.eq_2] at bR;have aN:=bR;clear bR;refine ro dQ<|Af<|cr<|wM (v:=I a5) bV<|wD (fun st=>Ad (ee st bU) (Gk _ _))<|wD (fun st=>Ag (v:=.slice a7 bB.Ax.length a8) He (eR st) bJ rfl)<|wD (fun st=>Br Tryz.underlying22 (eR st))<|wD (fun st=>B9 (eR st) (eR st))<|wn ?_;rcases Ae (decide (a5<(bB.Ax.length:Int))) with bY|bY
   ·replace aN:=An aN bY;refine Ah rfl bY<|cn<|Af<|AI<|cr<|wD (fun st=>Ad (ee st bU) (Gk _ _))<|wD (fun st=>Ag (v:=.slice a7 bB.Ax.length a8) He (eR st) bJ rfl)<|wM (v:=I a5) bV ?_;replace aN:=AT aN;obtain⟨i5,aT,d9,eA,eB,aN⟩:=aN;obtain⟨eW,eX,_,eC,rfl,eD⟩:=Sl.elem bK (by decide) eA;refine wD (fun st=>Bu (k:=i5) Tryz.underlying22 L6 (eR st) eC (eR st) d9 eB)<|wD (fun st=>CK (l:=[I aT.Lo,I aT.Hi]) Jg (eR st) eD rfl rfl)<|wE (fun st=>B8 (cs:= #[I 0,I 0]) Ts rfl) ?_;rintro _ eY ⟨bZ,rfl,bL⟩;have b4:=c2.nb bL;have eK:=c2.BJ bL;refine BI rfl rfl (fun st=>By (n:=2) (l:=[I aT.Lo,I aT.Hi]) (CB:= #[I aT.Lo,I aT.Hi]) (eR st) (eR st) L6 bL.bk rfl rfl (show 0+2≤2 by decide) (Bh rfl) rfl) ?_;rintro _ dF bS;have eE:=b4.gr bS.gr 0 rfl;refine wn ?_;have b5:=eE.nil;have bW:=bS.bk;replace aN:=bind_some aN;obtain⟨aZ,dR,aN⟩:=aN;replace aN:=I0 aN;obtain⟨c3,aN⟩:=aN;replace aN:=AL aN;obtain⟨dS,aN⟩:=aN;have cW:=(((bI.ext bL.gr (Az bL)).gr bS.gr (fun k hk=>b4.ne 1 0 rfl (congrArg some hk) rfl) (b4.BA bS.gr 0 rfl)).up Bt);replace aN:=Cl aN;obtain⟨c4,aN⟩:=aN;replace aN:=bind_some aN;obtain⟨bT,dT,aN⟩:=aN;replace aN:=Ol aN;obtain⟨c5,aN⟩:=aN;replace aN:=AL aN;obtain⟨dU,aN⟩:=aN;obtain⟨eO,aO⟩:∃eZ:(Nat→Bool)→(Nat→Value)→World→Prop,eZ=(fun D V bA=>∃(aH:Option Nat) (aI:Option Addr) (aJ:Nat) (q:Option Nat) (g:Option Addr) (r:Nat),Hp FN [] w [aH,some bZ,q,some b1] bA∧BT (FU FN [ob aQ]) dF bA∧(∀bP,Mv dF (ZZ FN [] bP w.heap.size [none,some bZ,ob aQ,some b1]) bA (ZZ FN [] bP w.heap.size [aH,some bZ,q,some b1]))∧(∀a4,aH=some a4→dF.heap.size≤a4)∧(∀a4,q=some a4→ob aQ=some a4∨dF.heap.size≤a4)∧(D 8=false→aH=none)∧(D 9=false→q=ob aQ∧Bl (Ai .i64) 3 w.heap.size bA (zf Z w [aH,some bZ,q,some b1]) aQ a2 aX)∧(D 0=true→V 0=.slice aQ aX.length a2)∧(D 1=true→V 1=pt bZ 0)∧(D 2=true→V 2=I aT.Lo)∧(D 3=true→V 3=I aK)∧(D 4=true→V 4=.agg #[I aT.Lo,I aT.Hi])∧(D 5=true→V 5=I aZ)∧(D 6=true→V 6=I (aK%aZ))∧(D 7=true→V 7=I (aT.Lo+(aK%aZ)))∧(D 8=true→V 8=.slice aI (([aT.Lo+(aK%aZ)]).length) aJ∧aH=ob aI∧Bl (Ai .i64) 3 w.heap.size bA (zf Z w [aH,some bZ,q,some b1]) aI aJ [aT.Lo+(aK%aZ)])∧(D 9=true→V 9=.slice g ((aX++[aT.Lo+(aK%aZ)]).length) r∧q=ob g∧Bl (Ai .i64) 3 w.heap.size bA (zf Z w [aH,some bZ,q,some b1]) g r (aX++[aT.Lo+(aK%aZ)]))∧(D 10=true→V 10=I aK)∧(D 11=true→V 11=.agg #[I aT.Lo,I aT.Hi])∧(D 12=true→V 12=I bT)∧(D 13=true→V 13=I (aK/bT))∧(D 14=true→V 14=.slice g ((aX++[aT.Lo+(aK%aZ)]).length) r)):=⟨_,rfl⟩;refine JL 15 eO mixed rfl rfl (by rw[aO];exact⟨none,none,0,(ob aQ),none,0,(b5.ext (C8 _)),Gc (C8 _),fun _=>Ac (C8 _),fun _ y=>(by cases y),fun _ y=>.inl y,fun _=>rfl,fun _=>⟨rfl,(cW.ext (C8 _) (Ac (C8 _)))⟩,fun y=>absurd (show false=true from y) (by decide),fun y=>absurd (show false=true from y) (by decide),fun y=>absurd (show false=true from y) (by decide),fun y=>absurd (show false=true from y) (by decide),fun y=>absurd (show false=true from y) (by decide),fun y=>absurd (show false=true from y) (by decide),fun y=>absurd (show false=true from y) (by decide),fun y=>absurd (show false=true from y) (by decide),fun y=>absurd (show false=true from y) (by decide),fun y=>absurd (show false=true from y) (by decide),fun y=>absurd (show false=true from y) (by decide),fun y=>absurd (show false=true from y) (by decide),fun y=>absurd (show false=true from y) (by decide),fun y=>absurd (show false=true from y) (by decide),fun y=>absurd (show false=true from y) (by decide)⟩)
        ⟨sj (k:=0) rfl (fun D V a' w' K a=>by
             rw[aO] at a;refine X4 a fun aH aI aJ q a=>X2 a fun g r a=>Y8 a fun aL aM aP d c f b _ a=>Y8 a fun z aA aB aC aD aE aF s a=>Y4 a fun j m o p a=>a.elim fun u a=>?_;have x:=a;exact(Au (v:=.slice aQ aX.length a2) (es (t:=5) (v:=.slice aQ aX.length a2) ((K.later 14 5 _ rfl rfl rfl).trans cF))).mono fun v BD ⟨aU,aV⟩=>by subst aU;subst aV;rw[aO];exact⟨aH,aI,aJ,q,g,r,aL,aM,aP,d,c,f,b,fun _=>rfl,z,aA,aB,aC,aD,aE,aF,s,j,m,o,p,u,x⟩),
         sj (k:=1) rfl (fun D V a' w' K a=>by
             rw[aO] at a;refine X4 a fun aH aI aJ q a=>X2 a fun g r a=>Y8 a fun aL aM aP d c f b aG a=>Y8 a fun _ aA aB aC aD aE aF s a=>Y4 a fun j m o p a=>a.elim fun u a=>?_;have x:=a;exact(Ad (es ((K.out 7 rfl).trans rfl)) (KU _ _)).mono fun v BD ⟨aU,aV⟩=>by subst aU;subst aV;rw[aO];exact⟨aH,aI,aJ,q,g,r,aL,aM,aP,d,c,f,b,aG,fun _=>rfl,aA,aB,aC,aD,aE,aF,s,j,m,o,p,u,x⟩),
         sj (k:=2) rfl (fun D V a' w' K a=>by
             rw[aO] at a;refine X4 a fun aH aI aJ q a=>X2 a fun g r a=>Y8 a fun aL aM aP d c f b aG a=>Y8 a fun z _ aB aC aD aE aF s a=>Y4 a fun j m o p a=>a.elim fun u a=>?_;have x:=a;have cG:=z (K.dn 1 rfl);exact(Ag (v:=I aT.Lo) Bg (es (t:=21) (v:=pt bZ 0) ((K.dq 1 21).trans cG)) (bW.Co aM (b5.CI 1 rfl [2] rfl ⟨rfl,trivial⟩ eL)) rfl).mono fun v BD ⟨aU,aV⟩=>by subst aU;subst aV;rw[aO];exact⟨aH,aI,aJ,q,g,r,aL,aM,aP,d,c,f,b,aG,z,fun _=>rfl,aB,aC,aD,aE,aF,s,j,m,o,p,u,x⟩),
         sj (k:=3) rfl (fun D V a' w' K a=>by
             rw[aO] at a;refine X4 a fun aH aI aJ q a=>X2 a fun g r a=>Y8 a fun aL aM aP d c f b aG a=>Y8 a fun z aA _ aC aD aE aF s a=>Y4 a fun j m o p a=>a.elim fun u a=>?_;have x:=a;exact(Au (v:=I aK) (es (t:=1) (v:=I aK) ((K.later 15 1 _ rfl rfl rfl).trans cE))).mono fun v BD ⟨aU,aV⟩=>by subst aU;subst aV;rw[aO];exact⟨aH,aI,aJ,q,g,r,aL,aM,aP,d,c,f,b,aG,z,aA,fun _=>rfl,aC,aD,aE,aF,s,j,m,o,p,u,x⟩),
         sj (k:=4) rfl (fun D V a' w' K a=>by
             rw[aO] at a;refine X4 a fun aH aI aJ q a=>X2 a fun g r a=>Y8 a fun aL aM aP d c f b aG a=>Y8 a fun z aA aB _ aD aE aF s a=>Y4 a fun j m o p a=>a.elim fun u a=>?_;have x:=a;exact(Ba (l:=[I aT.Lo,I aT.Hi]) Jg (es ((K.out 7 rfl).trans rfl)) (bW.Co aM (b5.CI 1 rfl [2] rfl ⟨rfl,trivial⟩ eL)) rfl rfl).mono fun v BD ⟨aU,aV⟩=>by subst aU;subst aV;rw[aO];exact⟨aH,aI,aJ,q,g,r,aL,aM,aP,d,c,f,b,aG,z,aA,aB,fun _=>rfl,aD,aE,aF,s,j,m,o,p,u,x⟩),
         sj (k:=5) rfl (fun D V a' w' K a=>by
             rw[aO] at a;refine X4 a fun aH aI aJ q a=>X2 a fun g r a=>Y8 a fun aL aM aP d c f b aG a=>Y8 a fun z aA aB aC _ aE aF s a=>Y4 a fun j m o p a=>a.elim fun u a=>?_;have x:=a;have cH:=aC (K.dn 4 rfl);refine(Aj PX rfl (Ck (es (t:=24) (v:=.agg #[I aT.Lo,I aT.Hi]) ((K.dq 4 24).trans cH))) (Wq c1 aT ZA _ aZ dR)).mono ?_;rintro v BD ⟨aR,rfl⟩;rw[aO];exact⟨aH,aI,aJ,q,g,r,(aL.ext aR),(Jz aM aR (fun _ bO=>by cases bO)),(fun bP=>(aP bP).trans (Ac aR)),d,c,f,fun y=>⟨(b y).1,((b y).2.ext aR (Ac aR))⟩,aG,z,aA,aB,aC,fun _=>rfl,aE,aF,fun y=>⟨(s y).1,(s y).2.1,((s y).2.2.ext aR (Ac aR))⟩,fun y=>⟨(j y).1,(j y).2.1,((j y).2.2.ext aR (Ac aR))⟩,m,o,p,u,x⟩),
         sj (k:=6) rfl (fun D V a' w' K a=>by
             rw[aO] at a;refine X4 a fun aH aI aJ q a=>X2 a fun g r a=>Y8 a fun aL aM aP d c f b aG a=>Y8 a fun z aA aB aC aD _ aF s a=>Y4 a fun j m o p a=>a.elim fun u a=>?_;have x:=a;have cI:=aB (K.dn 3 rfl);have cJ:=aD (K.dn 5 rfl);exact(Ls (es (t:=23) (v:=I aK) ((K.dq 3 23).trans cI)) (es (t:=25) (v:=I aZ) ((K.dq 5 25).trans cJ)) c3.1 c3.2).mono fun v BD ⟨aU,aV⟩=>by subst aU;subst aV;rw[aO];exact⟨aH,aI,aJ,q,g,r,aL,aM,aP,d,c,f,b,aG,z,aA,aB,aC,aD,fun _=>rfl,aF,s,j,m,o,p,u,x⟩),
         sj (k:=7) rfl (fun D V a' w' K a=>by
             rw[aO] at a;refine X4 a fun aH aI aJ q a=>X2 a fun g r a=>Y8 a fun aL aM aP d c f b aG a=>Y8 a fun z aA aB aC aD aE _ s a=>Y4 a fun j m o p a=>a.elim fun u a=>?_;have x:=a;have cK:=aA (K.dn 2 rfl);have cL:=aE (K.dn 6 rfl);exact(BL (es (t:=22) (v:=I aT.Lo) ((K.dq 2 22).trans cK)) (es (t:=26) (v:=I (aK%aZ)) ((K.dq 6 26).trans cL)) dS).mono fun v BD ⟨aU,aV⟩=>by subst aU;subst aV;rw[aO];exact⟨aH,aI,aJ,q,g,r,aL,aM,aP,d,c,f,b,aG,z,aA,aB,aC,aD,aE,fun _=>rfl,s,j,m,o,p,u,x⟩),
         sj (k:=8) rfl (fun D V a' w' K a=>by
             rw[aO] at a;refine X4 a fun _ _ _ q a=>X2 a fun g r a=>Y8 a fun aL aM aP d c f b aG a=>Y8 a fun z aA aB aC aD aE aF _ a=>Y4 a fun j m o p a=>a.elim fun u a=>?_;have x:=a;have cM:=aF (K.dn 7 rfl);have dV:=f K.me;subst dV;refine(BR (e:=3) (vs:= #[(0,I (aT.Lo+(aK%aZ)))]) (cs:= #[I (aT.Lo+(aK%aZ))]) (Ik (es (t:=27) (v:=I (aT.Lo+(aK%aZ))) ((K.dq 7 27).trans cM))) (by kernel_rfl)).mono ?_;rintro v BD ⟨eF,rfl,bX⟩;have a9:=LN bX;have bC:=bX.gr;rw[aO];exact⟨(ob (some ⟨eF,0,none⟩)),(some ⟨eF,0,none⟩),1,q,g,r,(aL.row bC 0 rfl a9),(Jz aM bC (fun _ bO=>by cases bO)),(fun bP=>(aP bP).trans (aL.CJ bC 0 rfl (fun a4 a0=>(a9 a4 a0).1))),(H5 d aM.size a9),c,fun y=>absurd (show true=false from y) (by decide),fun y=>⟨(b y).1,((b y).2.gr bC (fun a4 a0=>aL.ne 2 0 rfl (congrArg some (((b y).1).trans a0)) rfl) (aL.CJ bC 0 rfl (fun a4 a0=>(a9 a4 a0).1)))⟩,aG,z,aA,aB,aC,aD,aE,aF,fun _=>⟨rfl,rfl,La (BG:=[[I (aT.Lo+(aK%aZ))]]) bX.bk (Nat.le_trans aL.sz (Nat.le_of_eq bX.Fq.symm)) ⟨rfl,trivial⟩ rfl (by simp[maxLen])⟩,fun y=>⟨(j y).1,(j y).2.1,((j y).2.2.gr bC (fun a4 a0=>aL.ne 2 0 rfl (congrArg some ((j y).2.1.trans a0)) rfl) (aL.CJ bC 0 rfl (fun a4 a0=>(a9 a4 a0).1)))⟩,m,o,p,u,x⟩),
         sj (k:=9) rfl (fun D V a' w' K a=>by
             rw[aO] at a;refine X4 a fun _ aI aJ _ a=>X2 a fun _ _ a=>Y8 a fun aL aM aP d c f b aG a=>Y8 a fun z aA aB aC aD aE aF s a=>Y4 a fun _ m o p a=>a.elim fun u a=>?_;have x:=a;have cN:=aG (K.dn 0 rfl);obtain⟨cO,bM,dG⟩:=s (K.dn 8 rfl);subst bM;obtain⟨b6,cC⟩:=b K.me;subst b6;refine(G6 (ys:=[aT.Lo+(aK%aZ)]) Tryz.underlying31 HJ rfl rfl (by decide) (es (t:=20) (v:=.slice aQ aX.length a2) ((K.dq 0 20).trans cN)) rfl (es (t:=28) (v:=.slice aI (([aT.Lo+(aK%aZ)]).length) aJ) ((K.dq 8 28).trans cO)) cC (dG.JM (fun _ _ _ _ _ _ h=>h)) (by have:=c4;simp only[maxLen];omega) (by have:=c4;omega) aL.sz).mono ?_;rintro v BD ⟨dL,eG,rfl,bC,a9,dW⟩;rw[aO];exact⟨(ob aI),aI,aJ,(ob dL),dL,eG,(aL.row bC 2 rfl a9),(Jz aM bC (fun a4 bO=>(c a4 bO).imp (fun y=>.inr (by rw[←y];exact List.mem_of_getElem? (i:=0) rfl)) id)),(fun bP=>(aP bP).trans (aL.CJ bC 2 rfl (fun a4 a0=>(a9 a4 a0).1))),d,(Oo c aM.size a9),f,fun y=>absurd (show true=false from y) (by decide),aG,z,aA,aB,aC,aD,aE,aF,fun y=>⟨(s y).1,rfl,((s y).2.2.gr bC (fun a4 a0=>aL.ne 0 2 rfl (congrArg some a0) rfl) (aL.CJ bC 2 rfl (fun a4 a0=>(a9 a4 a0).1)))⟩,fun _=>⟨rfl,rfl,DT dW (aL.CJ bC 2 rfl (fun a4 a0=>(a9 a4 a0).1))⟩,m,o,p,u,fun y=>(Nq K.me (K.down 14 _ rfl y 9 rfl)).elim⟩),
         sj (k:=10) rfl (fun D V a' w' K a=>by
             rw[aO] at a;refine X4 a fun aH aI aJ q a=>X2 a fun g r a=>Y8 a fun aL aM aP d c f b aG a=>Y8 a fun z aA aB aC aD aE aF s a=>Y4 a fun j _ o p a=>a.elim fun u a=>?_;have x:=a;exact(Au (v:=I aK) (es (t:=1) (v:=I aK) ((K.later 15 1 _ rfl rfl rfl).trans cE))).mono fun v BD ⟨aU,aV⟩=>by subst aU;subst aV;rw[aO];exact⟨aH,aI,aJ,q,g,r,aL,aM,aP,d,c,f,b,aG,z,aA,aB,aC,aD,aE,aF,s,j,fun _=>rfl,o,p,u,x⟩),
         sj (k:=11) rfl (fun D V a' w' K a=>by
             rw[aO] at a;refine X4 a fun aH aI aJ q a=>X2 a fun g r a=>Y8 a fun aL aM aP d c f b aG a=>Y8 a fun z aA aB aC aD aE aF s a=>Y4 a fun j m _ p a=>a.elim fun u a=>?_;have x:=a;exact(Ba (l:=[I aT.Lo,I aT.Hi]) Jg (es ((K.out 7 rfl).trans rfl)) (bW.Co aM (b5.CI 1 rfl [2] rfl ⟨rfl,trivial⟩ eL)) rfl rfl).mono fun v BD ⟨aU,aV⟩=>by subst aU;subst aV;rw[aO];exact⟨aH,aI,aJ,q,g,r,aL,aM,aP,d,c,f,b,aG,z,aA,aB,aC,aD,aE,aF,s,j,m,fun _=>rfl,p,u,x⟩),
         sj (k:=12) rfl (fun D V a' w' K a=>by
             rw[aO] at a;refine X4 a fun aH aI aJ q a=>X2 a fun g r a=>Y8 a fun aL aM aP d c f b aG a=>Y8 a fun z aA aB aC aD aE aF s a=>Y4 a fun j m o _ a=>a.elim fun u a=>?_;have x:=a;have b7:=o (K.dn 11 rfl);refine(Aj PX rfl (Ck (es (t:=31) (v:=.agg #[I aT.Lo,I aT.Hi]) ((K.dq 11 31).trans b7))) (Wq c1 aT ZA _ bT dT)).mono ?_;rintro v BD ⟨aR,rfl⟩;rw[aO];exact⟨aH,aI,aJ,q,g,r,(aL.ext aR),(Jz aM aR (fun _ bO=>by cases bO)),(fun bP=>(aP bP).trans (Ac aR)),d,c,f,fun y=>⟨(b y).1,((b y).2.ext aR (Ac aR))⟩,aG,z,aA,aB,aC,aD,aE,aF,fun y=>⟨(s y).1,(s y).2.1,((s y).2.2.ext aR (Ac aR))⟩,fun y=>⟨(j y).1,(j y).2.1,((j y).2.2.ext aR (Ac aR))⟩,m,o,fun _=>rfl,u,x⟩),
         sj (k:=13) rfl (fun D V a' w' K a=>by
             rw[aO] at a;refine X4 a fun aH aI aJ q a=>X2 a fun g r a=>Y8 a fun aL aM aP d c f b aG a=>Y8 a fun z aA aB aC aD aE aF s a=>Y4 a fun j m o p a=>a.elim fun _ a=>?_;have x:=a;have b8:=m (K.dn 10 rfl);have b9:=p (K.dn 12 rfl);exact(Q7 (es (t:=30) (v:=I aK) ((K.dq 10 30).trans b8)) (es (t:=32) (v:=I bT) ((K.dq 12 32).trans b9)) c5.1 c5.2 dU).mono fun v BD ⟨aU,aV⟩=>by subst aU;subst aV;rw[aO];exact⟨aH,aI,aJ,q,g,r,aL,aM,aP,d,c,f,b,aG,z,aA,aB,aC,aD,aE,aF,s,j,m,o,p,fun _=>rfl,x⟩),
         sj (k:=14) rfl (fun D V a' w' K a=>by
             rw[aO] at a;refine X4 a fun aH aI aJ _ a=>X2 a fun g r a=>Y8 a fun aL aM aP d c f _ aG a=>Y8 a fun z aA aB aC aD aE aF s a=>Y4 a fun j m o p a=>a.elim fun u a=>?_;have x:=a;obtain⟨cP,bN,eM⟩:=j (K.dn 9 rfl);subst bN;exact(KL (v:=.slice g ((aX++[aT.Lo+(aK%aZ)]).length) r) (es (t:=29) (v:=.slice g ((aX++[aT.Lo+(aK%aZ)]).length) r) ((K.dq 9 29).trans cP))).mono fun v BD ⟨aU,aV⟩=>by subst aU;subst aV;rw[aO];exact⟨aH,aI,aJ,(ob g),g,r,aL,aM,aP,d,c,f,fun y=>absurd ((K.dn 9 rfl)) (by rw[show D 9=false from y];decide),aG,z,aA,aB,aC,aD,aE,aF,s,j,m,o,p,u,fun _=>rfl⟩),trivial⟩ ?_
    intro e0 e1 e2 aS aY;rw[aO] at aY;clear aO;refine X4 aY fun aH aI aJ q aY=>X2 aY fun g r aY=>Y8 aY fun dX dY dZ d c f b aG aY=>Y8 aY fun z aA aB aC aD aE aF s aY=>Y4 aY fun j m o p aY=>aY.elim fun u aY=>?_;have x:=aY;clear aY;have cN:=aG (aS 0 (by decide));have cG:=z (aS 1 (by decide));have cK:=aA (aS 2 (by decide));have cI:=aB (aS 3 (by decide));have cH:=aC (aS 4 (by decide));have cJ:=aD (aS 5 (by decide));have cL:=aE (aS 6 (by decide));have cM:=aF (aS 7 (by decide));obtain⟨cO,bM,eN⟩:=s (aS 8 (by decide));subst bM;obtain⟨cP,bN,dH⟩:=j (aS 9 (by decide));subst bN;have b8:=m (aS 10 (by decide));have b7:=o (aS 11 (by decide));have b9:=p (aS 12 (by decide));have c6:=u (aS 13 (by decide));have c7:=x (aS 14 (by decide));refine wA (v:=I (aK/bT)) c6<|Bj<|CU<|Al<|wM (v:=I a5) bV ?_;replace aN:=AL aN;obtain⟨d0,aN⟩:=aN;refine wD (fun st=>BL (eR st) (eR st) d0)<|wA (v:=I (a5+1)) rfl<|Bj ?_;have eH:=dX.erase 0;have eI:=eH.erase 0;have cX:=((dH.up (AD 0)).up (AD 0));have dI:=(((bJ.ext bL.gr).gr bS.gr (b4.nq 2 0)).Co dY (b5.CI 3 rfl [2] rfl ⟨rfl,trivial⟩ eL));have ⟨cY,cZ,c0⟩:=Ez bK cA cB (mt (Az bL) (mt (b4.BA bS.gr 0 rfl) (mt Bt (mt (dZ _) (mt (AD 0) (AD 0))))));refine Bv dP (Nat.lt_succ_self _) (fun st=>?_);exact⟨(aK/bT),(aX++[aT.Lo+(aK%aZ)]),(a5+1),g,r,aN,qo st,sp st 1 rfl,sp st 2 bU,sp st 5 c7,sp st 6 rfl,eI,cX,dI,cY,cZ,c0⟩
   ·replace aN:=Ao aN bY;refine Aq rfl bY<|DG ?_;obtain rfl:=oi aN;refine BF (fun st=>?_);exact⟨rfl,aQ,a2,qo st,sp st 5 cF,c2,bI⟩
 case d6=>
  rintro bO eP eV (⟨rfl,aW,a3,dJ,c8,c9,bQ⟩);refine lf dJ<|Bd<|BM<|cr<|wM (v:=.slice aW z2.length a3) c8<|wA (v:=.slice aW z2.length a3) rfl<|wn<|Am ?_;obtain rfl:=oi aN;refine Av rfl rfl ?_;exact⟨c9.Bf,⟨_,_,rfl,c9.Jn (M:=[]) 0 rfl [] rfl trivial bQ⟩⟩
theorem a77 a2 e y c d m n o p i j(Z:Nat→Prop) w(a3:Sl AA w Z c d e.Ax)(a4:Sl (BH (Ai .i64)) w Z m n e.AX)(a5:Sl AH w Z o p e.AP)(a7:Sl (Ai .i64) w Z i j y) bO(a:Hq a2 e y=some bO):
 BO Tryz.prog 77 #[.agg (AS c d m n o p e).toArray,.slice i y.length j] w (fun v w'=>Ext w w'∧BE.R w' (zf Z w []) v bO):=by
 unfold Hq at a;refine rq (N:=43) Tryz.func77 fun cQ ha cR=>?_;have bC:=sA 0 ha;have bD:=sA 1 ha;clear ha;have bA:Hp FN [] w [] w:=Hp.start (BC.none w);have ⟨aI,aJ,aK,aL⟩:=Iv a3 a4 a5 a7 (Bz (Z:=Z) (L:=[]) w);refine cr<|wE (fun st=>BN (v:=.agg (AS c d m n o p e).toArray) (cs:=(AS c d m n o p e).toArray) (ee st bC) rfl) ?_;rintro _ w1 ⟨b1,rfl,aH⟩;have bP:=bA.nb aH;have cM:=bA.BJ aH;refine wA (v:=.bool false) rfl<|wn<|Af<|cr<|wA (v:=I 0) rfl<|wn<|AI ?_;replace a:=bind_some a;obtain⟨z2,aB,a⟩:=a;refine BY (fun bE s z=>(bE=.ret∧∃aC,z2=.inl aC∧Fo X0 43 s∧sl s 4=.bool aC∧Hp FN [] w [some b1] z)∨(bE=.exit 0∧∃aC,z2=.inr aC∧Fo X0 43 s∧sl s 1=.slice i y.length j∧sl s 2=pt b1 0∧Hp FN [] w [some b1] z∧Bk z b1 26 (AS c d m n o p e).toArray∧(fun aD=>Sl AA z aD c d e.Ax∧Sl (BH (Ai .i64)) z aD m n e.AX∧Sl AH z aD o p e.AP∧Sl (Ai .i64) z aD i j y) (zf Z w [some b1]))) ?bQ ?bR
 case bQ=>
  clear a;refine BX (fun bF s z=>∃b,D6 a2 e y bF b=some z2∧Fo X0 43 s∧sl s 1=.slice i y.length j∧sl s 2=pt b1 0∧sl s 5=I b∧Hp FN [] w [some b1] z∧Bk z b1 26 (AS c d m n o p e).toArray∧(fun aD=>Sl AA z aD c d e.Ax∧Sl (BH (Ai .i64)) z aD m n e.AX∧Sl AH z aD o p e.AP∧Sl (Ai .i64) z aD i j y) (zf Z w [some b1])) a2 ?bS ?bT
  case bS=>
   intro st;have ⟨aM,aN,aO,aP⟩:=Iv aI aJ aK aL (Az aH);exact⟨(0:Int),aB,qo st,sp st 1 bD,sp st 2 rfl,sp st 5 rfl,bP,aH.bk,aM,aN,aO,aP⟩
  case bT=>
   rintro(_|bF) cS cT ⟨b,aB,bG,aA,q,r,aU,h,f,t,u,l⟩
   ·exact absurd (show none=some _ from aB) (by simp)
   rw[D6.eq_2] at aB;have a:=aB;clear aB;refine ro bG<|Af<|cr<|wM (v:=I b) r<|wM (v:=.slice i y.length j) aA<|wD (fun st=>Br Tryz.underlying31 (eR st))<|wD (fun st=>B9 (eR st) (eR st))<|wM (v:=.bool (decide (b<(y.length:Int)))) rfl ?_;rcases Ae (decide (b<(y.length:Int))) with g|g
   ·replace a:=An a g;refine wN g (v:=I b) r<|wG g (fun st=>Ad (ee st q) (Gk _ _))<|wG g (fun st=>Ag (v:=.slice c e.Ax.length d) He (eR st) h rfl)<|wG g (fun st=>Br Tryz.underlying22 (eR st))<|wG g (fun st=>B9 (eR st) (eR st))<|wD (fun st=>AY (v:=.bool (decide (b<(e.Ax.length:Int)))) (eR st) g (eR st))<|wn ?_;rcases Ae (decide (b<(e.Ax.length:Int))) with aF|aF
    ·replace a:=An a aF;refine Ah rfl aF<|cn<|Af<|AI<|Af ?_;replace a:=AT a;obtain⟨i6,bU,bV,bW,bX,a⟩:=a;obtain⟨cN,cO,_,bY,rfl,bZ⟩:=Sl.Cy l rfl bW;replace a:=AT a;obtain⟨i7,b4,b5,b6,b7,a⟩:=a;obtain⟨b8,b9,_,cA,rfl,cB⟩:=Sl.elem f (by decide) b6;replace a:=AT a;obtain⟨i8,cC,cD,cE,cF,a⟩:=a;obtain⟨cG,cH,_,cI,rfl,cJ⟩:=Sl.elem f (by decide) cE;refine BU 16 [Kc (.slice i y.length j),Kc (I b),Kc (pt cN (cO+i6)),Kc (I bU),Kc (pt b1 0),Kc (.slice c e.Ax.length d),Kc (I b),Kc (pt b8 (b9+i7*2)),Kc (pt b8 (b9+i7*2)),Kc (I b4.Lo),Kc (pt b1 0),Kc (.slice c e.Ax.length d),Kc (I b),Kc (pt cG (cH+i8*2)),Kc (pt cG (cH+i8*2+1)),Kc (I cC.Hi)] mixed rfl rfl
         (Aa (oD (fun K=>Au (es ((K.out 1 rfl).trans aA))))
         (Aa (oD (fun K=>Au (es ((K.out 5 rfl).trans r))))
         (Aa (oD (fun K=>Bi (k:=i6) Tryz.underlying31 CM (es (K.dq 0 19)) bY (es (K.dq 1 20)) bV bX))
         (Aa (oD (fun K=>Bp Bg (es (K.dq 2 21)) (bZ.mv (Ac K.AQ)) rfl))
         (Aa (oD (fun K=>Ad (es ((K.out 2 rfl).trans q)) (Gk _ _)))
         (Aa (oD (fun K=>Ag He (es (K.dq 4 23)) (h.ext K.AQ) rfl))
         (Aa (oD (fun K=>Au (es ((K.out 5 rfl).trans r))))
         (Aa (oD (fun K=>Bu (k:=i7) Tryz.underlying22 L6 (es (K.dq 5 24)) cA (es (K.dq 6 25)) b5 b7))
         (Aa (oD (fun K=>Ad (es (K.dq 7 26)) (Y0 _ _ _)))
         (Aa (oD (fun K=>Bp Bg (es (K.dq 8 27)) (cB.mv (Ac K.AQ)) rfl))
         (Aa (oD (fun K=>Ad (es ((K.out 2 rfl).trans q)) (Gk _ _)))
         (Aa (oD (fun K=>Ag He (es (K.dq 10 29)) (h.ext K.AQ) rfl))
         (Aa (oD (fun K=>Au (es ((K.out 5 rfl).trans r))))
         (Aa (oD (fun K=>Bu (k:=i8) Tryz.underlying22 L6 (es (K.dq 11 30)) cI (es (K.dq 12 31)) cD cF))
         (Aa (oD (fun K=>Ad (es (K.dq 13 32)) (Y1 _ _ _)))
         (Aa (oD (fun K=>DO Bg (es (K.dq 14 33)) (cJ.mv (Ac K.AQ)) rfl))
         (BS _))))))))))))))))) ?_
     intro cW;rintro _ rfl _ rfl _ rfl _ rfl _ rfl _ rfl _ rfl _ rfl _ rfl _ rfl _ rfl _ rfl _ rfl _ rfl _ rfl _ rfl aV;have cK:=aU.ext aV;replace a:=bind_some a;obtain⟨a8,cL,a⟩:=a;refine wE (fun st=>Aj Em (eR st) (Ek (eR st) (eR st) (eR st)) (Ii a2 bU b4.Lo cC.Hi ZA _ a8 cL)) ?_;rintro _ cU ⟨aW,rfl⟩;have bB:=cK.ext aW;refine wD (fun st=>Ca (eR st))<|wn ?_;rcases Ae (!a8) with x|x
     ·replace a:=An a x;have bM:a8=false:=by simpa using x
      refine Ah rfl x<|cr<|wA (v:=.bool false) rfl<|wn<|Am<|CN<|AG ?_;obtain rfl:=oi a;refine BF (fun st=>?_);exact .inl ⟨rfl,false,rfl,qo st,sp st 4 rfl,bB⟩
     ·replace a:=Ao a x;have bN:a8=true:=by simpa using x
      refine Aq rfl x<|Cp<|CU<|Al<|wM (v:=I b) r ?_;replace a:=AL a;obtain⟨bH,a⟩:=a;refine wD (fun st=>BL (eR st) (eR st) bH)<|wA (v:=I (b+1)) rfl<|Bj ?_;have a9:=((h.ext aV).ext aW);have ⟨aQ,aR,aS,aT⟩:=Iv f t u l (mt (Ac aV) (Ac aW));refine Bv bF (Nat.lt_succ_self _) (fun st=>?_);exact⟨(b+1),a,qo st,sp st 1 aA,sp st 2 q,sp st 5 rfl,bB,a9,aQ,aR,aS,aT⟩
    ·replace a:=Ao a aF;refine Aq rfl aF<|DG ?_;obtain rfl:=oi a;refine BF (fun st=>?_);exact .inr ⟨rfl,(),rfl,qo st,sp st 1 aA,sp st 2 q,aU,h,f,t,u,l⟩
   ·replace a:=Ao a g;refine wF g<|wF g<|wF g<|wF g<|wF g<|wD (fun st=>Bs (v:=.bool false) (eR st) g (eR st))<|wn<|Aq rfl rfl<|DG ?_;obtain rfl:=oi a;refine BF (fun st=>?_);exact .inr ⟨rfl,(),rfl,qo st,sp st 1 aA,sp st 2 q,aU,h,f,t,u,l⟩
 case bR=>
  rintro bE cP cV (⟨rfl,aC,rfl,aE,aX,aG⟩|⟨rfl,aC,rfl,aE,aY,aZ,aG,a0,bI,bJ,bK,bL⟩)
  ·skip
   replace a:=C4 a;refine lf aE<|CN ?_;obtain rfl:=oi a;refine Av rfl aX ?_;exact⟨aG.Bf,rfl⟩
  ·skip
   replace a:=C5 a;refine lf aE<|Bd<|BM<|cr<|wM (v:=.slice i y.length j) aY<|wD (fun st=>Br Tryz.underlying31 (eR st))<|wD (fun st=>Ad (ee st aZ) (Gk _ _))<|wD (fun st=>Ag (v:=.slice c e.Ax.length d) He (eR st) a0 rfl)<|wD (fun st=>Br Tryz.underlying22 (eR st))<|wD (fun st=>Dp (eR st) (eR st))<|wA (v:=.bool ((y.length:Int)==(e.Ax.length:Int))) rfl<|wn<|Am ?_;obtain rfl:=oi a;refine Av rfl rfl ?_;exact⟨aG.Bf,rfl⟩
theorem a87 aN o l g h c d(Z:Nat→Prop) w(aF:Sl (Ai .i64) w Z g h o)(aG:Sl (Ai .i64) w Z c d l) aU(a:Dx aN o l=some aU):
 BO Tryz.prog 87 #[.slice g o.length h,.slice c l.length d] w (fun v w'=>Ext w w'∧(Dr .i64).R w' (zf Z w []) v aU):=by
 unfold Dx at a;refine rq (N:=28) Tryz.func87 fun bQ ha bR=>?_;have aO:=sA 0 ha;have aP:=sA 1 ha;clear ha;have aV:Hp FN [] w [] w:=Hp.start (BC.none w);have ⟨x,y⟩:=LO aF aG (Bz (Z:=Z) (L:=[]) w);refine cr<|wA (v:=I 0) rfl<|wr<|wA (v:=I 0) rfl<|wn<|Af<|cr<|wA (v:=I 0) rfl<|wn<|AI ?_;replace a:=bind_some a;obtain⟨aH,n,a⟩:=a;refine BY (fun aW f z=>(aW=.exit 0∧Fo X0 28 f∧sl f 1=.slice c l.length d∧sl f 5=I aH∧Hp FN [] w [] z∧Sl (Ai .i64) z (zf Z w []) c d l)) ?aX ?aY
 case aX=>
  clear a;refine BX (fun aQ f z=>∃i,∃b,E4 o l aQ i b=some aH∧Fo X0 28 f∧sl f 0=.slice g o.length h∧sl f 1=.slice c l.length d∧sl f 5=I i∧sl f 6=I b∧Hp FN [] w [] z∧Sl (Ai .i64) z (zf Z w []) g h o∧Sl (Ai .i64) z (zf Z w []) c d l) aN ?aZ ?a0
  case aZ=>
   intro st;exact⟨(0:Int),(0:Int),n,qo st,sp st 0 aO,sp st 1 aP,sp st 5 rfl,sp st 6 rfl,aV,x,y⟩
  case a0=>
   rintro(_|aQ) bS bT ⟨i,b,n,aR,p,q,u,j,aL,m,e⟩
   ·exact absurd (show none=some _ from n) (by simp)
   rw[E4.eq_2] at n;have a:=n;clear n;refine ro aR<|Af<|cr<|wM (v:=I b) j<|wM (v:=.slice g o.length h) p<|wD (fun st=>Br Tryz.underlying31 (eR st))<|wD (fun st=>B9 (eR st) (eR st))<|wn ?_;rcases Ae (decide (b<(o.length:Int))) with r|r
   ·replace a:=An a r;refine Ah rfl r<|cn<|Af<|AI ?_;replace a:=AT a;obtain⟨i4,aI,a2,a3,a4,a⟩:=a;obtain⟨bL,bM,_,a5,rfl,a7⟩:=Sl.Cy e rfl a3;replace a:=AT a;obtain⟨i5,aJ,a8,a9,bA,a⟩:=a;obtain⟨bN,bO,_,bB,rfl,bC⟩:=Sl.Cy m rfl a9;replace a:=AL a;obtain⟨bD,a⟩:=a;refine BU 10 [Kc (I i),Kc (.slice c l.length d),Kc (I b),Kc (pt bL (bM+i4)),Kc (I aI),Kc (.slice g o.length h),Kc (I b),Kc (pt bN (bO+i5)),Kc (I aJ),Kc (I (aI*aJ))] mixed rfl rfl
        (Aa (oD (fun K=>Au (es (t:=5) ((K.later 11 5 _ rfl rfl rfl).trans u))))
        (Aa (oD (fun K=>Au (es ((K.out 1 rfl).trans q))))
        (Aa (oD (fun K=>Au (es ((K.out 6 rfl).trans j))))
        (Aa (oD (fun K=>Bi (k:=i4) Tryz.underlying31 CM (es (K.dq 1 14)) a5 (es (K.dq 2 15)) a2 a4))
        (Aa (oD (fun K=>Bp Bg (es (K.dq 3 16)) (a7.mv (Ac K.AQ)) rfl))
        (Aa (oD (fun K=>Au (es ((K.out 0 rfl).trans p))))
        (Aa (oD (fun K=>Au (es ((K.out 6 rfl).trans j))))
        (Aa (oD (fun K=>Bi (k:=i5) Tryz.underlying31 CM (es (K.dq 5 18)) bB (es (K.dq 6 19)) a8 bA))
        (Aa (oD (fun K=>Bp Bg (es (K.dq 7 20)) (bC.mv (Ac K.AQ)) rfl))
        (Aa (oD (fun K=>LY (es (K.dq 4 17)) (es (K.dq 8 21)) bD))
        (BS _))))))))))) ?_
    intro bW;rintro _ rfl _ rfl _ rfl _ rfl _ rfl _ rfl _ rfl _ rfl _ rfl _ rfl aM;have bE:=aL.ext aM;replace a:=AL a;obtain⟨bF,a⟩:=a;refine wD (fun st=>BL (eR st) (eR st) bF)<|wA (v:=I (i+(aI*aJ))) rfl<|Bj<|CU<|Al<|wM (v:=I b) j ?_;replace a:=AL a;obtain⟨bG,a⟩:=a;refine wD (fun st=>BL (eR st) (eR st) bG)<|wA (v:=I (b+1)) rfl<|Bj ?_;have ⟨aA,aB⟩:=LO m e (Ac aM);refine Bv aQ (Nat.lt_succ_self _) (fun st=>?_);exact⟨(i+(aI*aJ)),(b+1),a,qo st,sp st 0 p,sp st 1 q,sp st 5 rfl,sp st 6 rfl,bE,aA,aB⟩
   ·replace a:=Ao a r;refine Aq rfl r<|DG ?_;obtain rfl:=oi a;refine BF (fun st=>?_);exact⟨rfl,qo st,sp st 1 q,sp st 5 u,aL,e⟩
 case aY=>
  rintro aW bP bU (⟨rfl,aK,aC,aD,aS,s⟩);refine lf aK<|Bd<|BM<|cr<|wM (v:=I aH) aD<|wM (v:=.slice c l.length d) aC ?_;replace a:=bind_some a;obtain⟨bH,bI,a⟩:=a;refine wE (fun st=>Aj RR (eR st) (Ck (eR st)) (a35 aN l c d ZA _ s.all bH bI)) ?_;rintro _ bV ⟨bJ,rfl⟩;have bK:=aS.ext bJ;replace a:=Ol a;obtain⟨aE,a⟩:=a;replace a:=AL a;obtain⟨aT,a⟩:=a;refine wD (fun st=>Q7 (eR st) (eR st) aE.1 aE.2 aT)<|wA (v:=I (aH/bH)) rfl<|wn<|Am ?_;obtain rfl:=oi a;refine Av rfl rfl ?_;exact⟨bK.Bf,rfl⟩
theorem a31 aJ p i s j l e f m n b c(Z:Nat→Prop) w(z:Sl AA w Z j l p.Ax)(aA:Sl (BH (Ai .i64)) w Z e f p.AX)(aB:Sl AH w Z m n p.AP)(aC:Sl (Ai .i64) w Z b c i) aK(a:Hm aJ p i s=some aK):
 BO Tryz.prog 31 #[.agg (AS j l e f m n p).toArray,.slice b i.length c,I s] w (fun v w'=>Ext w w'∧(Dr .i64).R w' (zf Z w []) v aK):=by
 unfold Hm at a;refine rq (N:=25) Tryz.func31 fun a4 ha a5=>?_;have aG:=sA 0 ha;have o:=sA 1 ha;have r:=sA 2 ha;clear ha;have aE:Hp FN [] w [] w:=Hp.start (BC.none w);have ⟨aH,t,aI,g⟩:=Iv z aA aB aC (Bz (Z:=Z) (L:=[]) w);refine cr<|wE (fun st=>BN (v:=.agg (AS j l e f m n p).toArray) (cs:=(AS j l e f m n p).toArray) (ee st aG) rfl) ?_;rintro _ w1 ⟨b1,rfl,h⟩;have aF:=aE.nb h;have a3:=aE.BJ h;refine wA (v:=I 0) rfl<|wn<|Af<|cr<|wM (v:=I s) r<|wM (v:=.slice b i.length c) o<|wD (fun st=>Br Tryz.underlying31 (eR st))<|wD (fun st=>B9 (eR st) (eR st))<|wn ?_;rcases Ae (decide (s<(i.length:Int))) with q|q
 ·replace a:=An a q;refine Ah rfl q<|cr<|wM (v:=.slice b i.length c) o<|wM (v:=I s) r ?_;replace a:=AT a;obtain⟨i3,aL,aM,aN,aO,a⟩:=a;have d:=(g.mv (Az h));obtain⟨b3,a7,_,aP,rfl,aQ⟩:=Sl.Cy d rfl aN;refine wD (fun st=>Bi (k:=i3) Tryz.underlying31 CM (eR st) aP (eR st) aM aO)<|wD (fun st=>Bp (v:=I aL) Bg (eR st) aQ rfl)<|wA (v:=I aL) rfl<|wn<|Am<|AG ?_;obtain rfl:=oi a;refine Av rfl rfl ?_;exact⟨aF.Bf,rfl⟩
 ·replace a:=Ao a q;refine Aq rfl q<|cn<|cr<|wM (v:=.slice b i.length c) o<|wD (fun st=>Ad (eR st) (DE _ _))<|wD (fun st=>Ag (v:=.slice e p.AX.length f) C2 (eR st) h.bk rfl)<|wM (v:=I s) r<|wM (v:=.slice b i.length c) o<|wD (fun st=>Br Tryz.underlying31 (eR st)) ?_;replace a:=AL a;obtain⟨aR,a⟩:=a;refine wD (fun st=>Ej (eR st) (eR st) aR) ?_;replace a:=AT a;obtain⟨i5,aS,aT,aU,aV,a⟩:=a;have u:=(t.mv (Az h));obtain⟨a8,a9,_,aW,⟨x,y,rfl,aD⟩,aX⟩:=Sl.Cy u rfl aU;refine wD (fun st=>Bi (k:=i5) Tryz.underlying23 EO (eR st) aW (eR st) aT aV)<|wD (fun st=>Bp (v:=.slice x aS.length y) CO (eR st) aX rfl) ?_;have d:=(g.mv (Az h));replace a:=bind_some a;obtain⟨aY,aZ,a⟩:=a;refine wE (fun st=>Aj Po (eR st) (Ci (eR st) (eR st)) (a87 aJ i aS b c x y ZA _ d.all aD.all aY aZ)) ?_;rintro _ bA ⟨a0,rfl⟩;have a2:=aF.ext a0;refine wA (v:=I aY) rfl<|wn<|Am ?_;obtain rfl:=oi a;refine Av rfl rfl ?_;exact⟨a2.Bf,rfl⟩
theorem a146 aC k aB a c d e f g i m n(Z:Nat→Prop) w(aF:Sl AA w Z c d k.Ax)(aG:Sl (BH (Ai .i64)) w Z e f k.AX)(aH:Sl AH w Z g i k.AP)(aI:Sl (Ai .i64) w Z m n aB) aT(b:Hb aC k aB a=some aT):
 BO Tryz.prog 146 #[.agg (AS c d e f g i k).toArray,.slice m aB.length n,.agg #[.bool a.BV,I a.Number,I a.Bm,I a.Bn]] w (fun v w'=>Ext w w'∧BE.R w' (zf Z w []) v aT):=by
 unfold Hb at b;refine rq (N:=28) Tryz.func146 fun a9 ha bA=>?_;have aN:=sA 0 ha;have aD:=sA 1 ha;have aO:=sA 2 ha;clear ha;have aJ:Hp FN [] w [] w:=Hp.start (BC.none w);have ⟨t,u,x,y⟩:=Iv aF aG aH aI (Bz (Z:=Z) (L:=[]) w);refine cr<|wE (fun st=>BN (v:=.agg (AS c d e f g i k).toArray) (cs:=(AS c d e f g i k).toArray) (ee st aN) rfl) ?_;rintro _ w1 ⟨b1,rfl,z⟩;have aK:=aJ.nb z;have a7:=aJ.BJ z;refine wE (fun st=>BN (v:=.agg #[.bool a.BV,I a.Number,I a.Bm,I a.Bn]) (cs:= #[.bool a.BV,I a.Number,I a.Bm,I a.Bn]) (ee st aO) rfl) ?_;rintro _ w2 ⟨b2,rfl,j⟩;have aL:=aK.nb j;have a8:=aK.BJ j;refine wA (v:=.bool false) rfl<|wr<|wD (fun st=>Ad (eR st) (NX _ _))<|wD (fun st=>Ag (v:=I a.Number) Bg (eR st) j.bk rfl)<|wA (v:=I a.Number) rfl<|wn<|Af<|cr<|wD (fun st=>Ad (eR st) (PY _ _))<|wD (fun st=>Ag (v:=.bool a.BV) Ka (eR st) j.bk rfl)<|wn ?_;rcases Ae (a.BV) with aA|aA
 ·replace b:=An b aA;refine Ah rfl aA<|Al<|wM (v:=I a.Number) rfl<|wD (fun st=>Ad (eR st) (Gk _ _)) ?_;have s:=(z.bk.ext j.gr);refine wD (fun st=>Ag (v:=.slice c k.Ax.length d) He (eR st) s rfl)<|wD (fun st=>Br Tryz.underlying22 (eR st)) ?_;replace b:=AL b;obtain⟨aU,b⟩:=b;refine wD (fun st=>BL (eR st) (eR st) aU)<|wA (v:=I (a.Number+(k.Ax.length:Int))) rfl<|wn<|Af ?_;have ⟨o,p,q,r⟩:=Iv t u x y (mt (Az z) (Az j));replace b:=bind_some b;obtain⟨aP,aV,b⟩:=b;refine BU 10 [Kc (.agg (AS c d e f g i k).toArray),Kc (.slice m aB.length n),Kc (I (a.Number+(k.Ax.length:Int))),Kc (I aP),Kc (pt b2 2),Kc (pt b2 2),Kc (I a.Bm),Kc (pt b2 2),Kc (pt b2 3),Kc (I a.Bn)] mixed rfl rfl
      (Aa (oD (fun K=>Ba (l:=(AS c d e f g i k)) H2 (K.kO 3) (s.ext K.AQ) rfl rfl))
      (Aa (oD (fun K=>Au (es ((K.out 1 rfl).trans aD))))
      (Aa (oD (fun K=>Au (K.kO 7)))
      (Aa (oE (fun K=>(Aj U2 rfl (Ek (es (K.dq 0 17)) (es (K.dq 1 18)) (es (K.dq 2 19))) (a31 aC k aB (a.Number+(k.Ax.length:Int)) c d e f g i m n ZA _ (o.mv (Ac K.AQ)).all (p.mv (Ac K.AQ)).all (q.mv (Ac K.AQ)).all (r.mv (Ac K.AQ)).all aP aV)).mono (fun _ _ h=>⟨h.2,h.1⟩)))
      (Aa (oD (fun K=>Ad (K.kO 5) (KV _ _)))
      (Aa (oD (fun K=>Ad (es (K.dq 4 21)) (Qq _ _)))
      (Aa (oD (fun K=>Ag Bg (es (K.dq 5 22)) (j.bk.ext K.AQ) rfl))
      (Aa (oD (fun K=>Ad (K.kO 5) (KV _ _)))
      (Aa (oD (fun K=>Ad (es (K.dq 7 24)) (Qr _ _)))
      (Aa (oD (fun K=>Ag Bg (es (K.dq 8 25)) (j.bk.ext K.AQ) rfl))
      (BS _))))))))))) ?_
  intro bC;rintro _ rfl _ rfl _ rfl _ rfl _ rfl _ rfl _ rfl _ rfl _ rfl _ rfl aW;have aX:=aL.ext aW;replace b:=bind_some b;obtain⟨aY,aZ,b⟩:=b;refine wE (fun st=>Aj Em (eR st) (Ek (eR st) (eR st) (eR st)) (Ii aC aP a.Bm a.Bn ZA _ aY aZ)) ?_;rintro _ bD ⟨a0,rfl⟩;have a2:=aX.ext a0;refine wA (v:=.bool aY) rfl<|wn<|Am ?_;obtain rfl:=oi b;refine Av rfl rfl ?_;exact⟨a2.Bf,rfl⟩
 ·replace b:=Ao b aA;refine Aq rfl aA<|cn<|Af ?_;have s:=(z.bk.ext j.gr);have ⟨o,p,q,r⟩:=Iv t u x y (mt (Az z) (Az j));replace b:=bind_some b;obtain⟨aE,aQ,b⟩:=b;refine BU 10 [Kc (.agg (AS c d e f g i k).toArray),Kc (.slice m aB.length n),Kc (I a.Number),Kc (I aE),Kc (pt b2 2),Kc (pt b2 2),Kc (I a.Bm),Kc (pt b2 2),Kc (pt b2 3),Kc (I a.Bn)] mixed rfl rfl
      (Aa (oD (fun K=>Ba (l:=(AS c d e f g i k)) H2 (K.kO 3) (s.ext K.AQ) rfl rfl))
      (Aa (oD (fun K=>Au (es ((K.out 1 rfl).trans aD))))
      (Aa (oD (fun K=>Au (K.kO 7)))
      (Aa (oE (fun K=>(Aj U2 rfl (Ek (es (K.dq 0 17)) (es (K.dq 1 18)) (es (K.dq 2 19))) (a31 aC k aB a.Number c d e f g i m n ZA _ (o.mv (Ac K.AQ)).all (p.mv (Ac K.AQ)).all (q.mv (Ac K.AQ)).all (r.mv (Ac K.AQ)).all aE aQ)).mono (fun _ _ h=>⟨h.2,h.1⟩)))
      (Aa (oD (fun K=>Ad (K.kO 5) (KV _ _)))
      (Aa (oD (fun K=>Ad (es (K.dq 4 21)) (Qq _ _)))
      (Aa (oD (fun K=>Ag Bg (es (K.dq 5 22)) (j.bk.ext K.AQ) rfl))
      (Aa (oD (fun K=>Ad (K.kO 5) (KV _ _)))
      (Aa (oD (fun K=>Ad (es (K.dq 7 24)) (Qr _ _)))
      (Aa (oD (fun K=>Ag Bg (es (K.dq 8 25)) (j.bk.ext K.AQ) rfl))
      (BS _))))))))))) ?_
  intro bE;rintro _ rfl _ rfl _ rfl _ rfl _ rfl _ rfl _ rfl _ rfl _ rfl _ rfl a3;have a4:=aL.ext a3;replace b:=bind_some b;obtain⟨aM,aR,b⟩:=b;refine wE (fun st=>Aj Em (eR st) (Ek (eR st) (eR st) (eR st)) (Ii aC aE a.Bm a.Bn ZA _ aM aR)) ?_;rintro _ bB ⟨aS,rfl⟩;have a5:=a4.ext aS;refine wA (v:=.bool aM) rfl<|wn<|Am ?_;obtain rfl:=oi b;refine Av rfl rfl ?_;exact⟨a5.Bf,rfl⟩
theorem Acl a7 h u d e f g b c j m(Z:Nat→Prop) w(bC:Sl AA w Z d e h.Ax)(bD:Sl (BH (Ai .i64)) w Z f g h.AX)(bE:Sl AH w Z b c h.AP)(bF:Sl (Ai .i64) w Z j m u) b6(a:Gw a7 h u=some b6):
 BO Tryz.prog 100 #[.agg (AS d e f g b c h).toArray,.slice j u.length m] w (fun v w'=>Ext w w'∧BE.R w' (zf Z w []) v b6):=by
 unfold Gw at a;refine rq (N:=26) Tryz.func100 fun cK ha cL=>?_;have bO:=sA 0 ha;have a8:=sA 1 ha;clear ha;have bK:Hp FN [] w [] w:=Hp.start (BC.none w);have ⟨aT,aU,aV,aW⟩:=Iv bC bD bE bF (Bz (Z:=Z) (L:=[]) w);refine cr<|wE (fun st=>BN (v:=.agg (AS d e f g b c h).toArray) (cs:=(AS d e f g b c h).toArray) (ee st bO) rfl) ?_;rintro _ w1 ⟨b1,rfl,aK⟩;have b7:=bK.nb aK;have cG:=bK.BJ aK;refine wA (v:=.bool false) rfl<|wn<|Af<|cr<|wD (fun st=>Ba (l:=(AS d e f g b c h)) H2 (eR st) aK.bk rfl rfl)<|wM (v:=.slice j u.length m) a8 ?_;have ⟨x,y,z,aA⟩:=Iv aT aU aV aW (Az aK);replace a:=bind_some a;obtain⟨bG,b8,a⟩:=a;refine wE (fun st=>Aj Aaa (eR st) (Ci (eR st) (eR st)) (a77 a7 h u d e f g b c j m ZA _ x.all y.all z.all aA.all bG b8)) ?_;rintro _ cQ ⟨a9,rfl⟩;have bL:=b7.ext a9;refine wD (fun st=>Ca (eR st))<|wn ?_;rcases Ae (!bG) with s|s
 ·replace a:=An a s;have cH:bG=false:=by simpa using s
  refine Ah rfl s<|cr<|wA (v:=.bool false) rfl<|wn<|Am<|AG ?_;obtain rfl:=oi a;refine Av rfl rfl ?_;exact⟨bL.Bf,rfl⟩
 ·replace a:=Ao a s;have cI:bG=true:=by simpa using s
  refine Aq rfl s<|cn<|Af<|cr<|wA (v:=I 0) rfl<|wn<|AI ?_;replace a:=bind_some a;obtain⟨bP,aB,a⟩:=a;refine BY (fun bQ q aH=>(bQ=.ret∧∃aC,bP=.inl aC∧Fo X0 26 q∧sl q 4=.bool aC∧Hp FN [] w [some b1] aH)∨(bQ=.exit 0∧∃aC,bP=.inr aC∧Fo X0 26 q∧Hp FN [] w [some b1] aH)) ?b9 ?cA
  case b9=>
   clear a;refine BX (fun bR q aH=>∃i,Dd a7 h u bR i=some bP∧Fo X0 26 q∧sl q 1=.slice j u.length m∧sl q 2=pt b1 0∧sl q 5=I i∧Hp FN [] w [some b1] aH∧Bk aH b1 26 (AS d e f g b c h).toArray∧(fun bH=>Sl AA aH bH d e h.Ax∧Sl (BH (Ai .i64)) aH bH f g h.AX∧Sl AH aH bH b c h.AP∧Sl (Ai .i64) aH bH j m u) (zf Z w [some b1])) a7 ?cB ?cC
   case cB=>
    intro st;have bI:=(aK.bk.ext a9);have ⟨aX,aY,aZ,a0⟩:=Iv x y z aA (Ac a9);exact⟨(0:Int),aB,qo st,sp st 1 a8,sp st 2 rfl,sp st 5 rfl,bL,bI,aX,aY,aZ,a0⟩
   case cC=>
    rintro(_|bR) cM cN ⟨i,aB,bS,aR,r,aI,bM,o,aM,aN,t,aO⟩
    ·exact absurd (show none=some _ from aB) (by simp)
    rw[Dd.eq_2] at aB;have a:=aB;clear aB;refine ro bS<|Af<|cr<|wM (v:=I i) aI<|wD (fun st=>Ad (ee st r) (Ks _ _))<|wD (fun st=>Ag (v:=.slice b h.AP.length c) Lf (eR st) o rfl)<|wD (fun st=>Br Tryz.underlying24 (eR st))<|wD (fun st=>B9 (eR st) (eR st))<|wn ?_;rcases Ae (decide (i<(h.AP.length:Int))) with aL|aL
    ·replace a:=An a aL;refine Ah rfl aL<|cn<|Af<|AI<|Af ?_;replace a:=AT a;obtain⟨i10,p,bT,bU,bV,a⟩:=a;obtain⟨cD,cE,_,bW,rfl,bX⟩:=Sl.elem t (by decide) bU;refine BU 7 [Kc (.agg (AS d e f g b c h).toArray),Kc (.slice j u.length m),Kc (pt b1 2),Kc (.slice b h.AP.length c),Kc (I i),Kc (pt cD (cE+i10*4)),Kc (.agg #[.bool p.BV,I p.Number,I p.Bm,I p.Bn])] mixed rfl rfl
         (Aa (oD (fun K=>Ba (l:=(AS d e f g b c h)) H2 (es ((K.out 2 rfl).trans r)) (o.ext K.AQ) rfl rfl))
         (Aa (oD (fun K=>Au (es ((K.out 1 rfl).trans aR))))
         (Aa (oD (fun K=>Ad (es ((K.out 2 rfl).trans r)) (Ks _ _)))
         (Aa (oD (fun K=>Ag Lf (es (K.dq 2 19)) (o.ext K.AQ) rfl))
         (Aa (oD (fun K=>Au (es ((K.out 5 rfl).trans aI))))
         (Aa (oD (fun K=>Bu (k:=i10) Tryz.underlying24 Pn (es (K.dq 3 20)) bW (es (K.dq 4 21)) bT bV))
         (Aa (oD (fun K=>CK (l:=[.bool p.BV,I p.Number,I p.Bm,I p.Bn]) RS (es (K.dq 5 22)) (bX.mv (Ac K.AQ)) rfl rfl))
         (BS _)))))))) ?_
     intro cR;rintro _ rfl _ rfl _ rfl _ rfl _ rfl _ rfl _ rfl bA;have cF:=bM.ext bA;have ⟨aD,aE,aF,aG⟩:=Iv aM aN t aO (Ac bA);replace a:=bind_some a;obtain⟨aS,bY,a⟩:=a;refine wE (fun st=>Aj Y3 (eR st) (Ek (eR st) (eR st) (eR st)) (a146 a7 h u p d e f g b c j m ZA _ aD.all aE.all aF.all aG.all aS bY)) ?_;rintro _ cO ⟨aP,rfl⟩;have bN:=cF.ext aP;refine wD (fun st=>Ca (eR st))<|wn ?_;rcases Ae (!aS) with n|n
     ·replace a:=An a n;have b4:aS=false:=by simpa using n
      refine Ah rfl n<|cr<|wA (v:=.bool false) rfl<|wn<|Am<|CN<|AG ?_;obtain rfl:=oi a;refine BF (fun st=>?_);exact .inl ⟨rfl,false,rfl,qo st,sp st 4 rfl,bN⟩
     ·replace a:=Ao a n;have b5:aS=true:=by simpa using n
      refine Aq rfl n<|Cp<|CU<|Al<|wM (v:=I i) aI ?_;replace a:=AL a;obtain⟨bZ,a⟩:=a;refine wD (fun st=>BL (eR st) (eR st) bZ)<|wA (v:=I (i+1)) rfl<|Bj ?_;have bJ:=((o.ext bA).ext aP);have ⟨a2,a3,a4,a5⟩:=Iv aD aE aF aG (Ac aP);refine Bv bR (Nat.lt_succ_self _) (fun st=>?_);exact⟨(i+1),a,qo st,sp st 1 aR,sp st 2 r,sp st 5 rfl,bN,bJ,a2,a3,a4,a5⟩
    ·replace a:=Ao a aL;refine Aq rfl aL<|DG ?_;obtain rfl:=oi a;refine BF (fun st=>?_);exact .inr ⟨rfl,(),rfl,qo st,bM⟩
  case cA=>
   rintro bQ cJ cP (⟨rfl,aC,rfl,aJ,bB,aQ⟩|⟨rfl,aC,rfl,aJ,aQ⟩)
   ·skip
    replace a:=C4 a;refine lf aJ<|CN ?_;obtain rfl:=oi a;refine Av rfl bB ?_;exact⟨aQ.Bf,rfl⟩
   ·skip
    replace a:=C5 a;refine lf aJ<|Bd<|BM<|cr<|wA (v:=.bool true) rfl<|wn<|Am ?_;obtain rfl:=oi a;refine Av rfl rfl ?_;exact⟨aQ.Bf,rfl⟩
theorem a28 a3 q d f g h i j(Z:Nat→Prop) w(bQ:Sl AA w Z d f q.Ax)(bR:Sl (BH (Ai .i64)) w Z g h q.AX)(bS:Sl AH w Z i j q.AP) cC(a:F4 a3 q=some cC):
 BO Tryz.prog 28 #[.agg (AS d f g h i j q).toArray] w (fun v w'=>Ext w w'∧(FE (BH (Ai .i64))).R w' (zf Z w []) v cC):=by
 unfold F4 at a;refine rq (N:=23) Tryz.func28 fun cX ha cY=>?_;have b6:=sA 0 ha;clear ha;have bZ:Hp FN [] w [] w:=Hp.start (BC.none w);have ⟨a4,a5,a7⟩:=Ez bQ bR bS (Bz (Z:=Z) (L:=[]) w);refine cr<|wE (fun st=>BN (v:=.agg (AS d f g h i j q).toArray) (cs:=(AS d f g h i j q).toArray) (ee st b6) rfl) ?_;rintro _ w1 ⟨b1,rfl,a0⟩;have cD:=bZ.nb a0;have cV:=bZ.BJ a0;refine wA (v:=.slice none 0 0) rfl<|wr<|wA (v:=.slice none 0 0) rfl<|wn<|Af<|cr<|wA (v:=I 0) rfl<|wn<|AI ?_;have cE:=cD.nil;have cF:Bl (BH (Ai .i64)) 31 w.heap.size w1 (zf Z w [none,some b1]) none 0 ([]:List (List Int)):=Bl.nil _ _ _ _ _;replace a:=bind_some a;obtain⟨z2,aN,a⟩:=a;refine BY (fun cG aF aR=>(cG=.exit 0∧∃b n,Fo X0 23 aF∧sl aF 3=.slice b z2.length n∧Hp FN [] w [ob b,some b1] aR∧Bl (BH (Ai .i64)) 31 w.heap.size aR (zf Z w [ob b,some b1]) b n z2)) ?cH ?cI
 case cH=>
  clear a;refine BX (fun bT aF aR=>∃r,∃c,∃m t,DY a3 q bT r c=some z2∧Fo X0 23 aF∧sl aF 1=pt b1 0∧sl aF 3=.slice m r.length t∧sl aF 4=I c∧Hp FN [] w [ob m,some b1] aR∧(fun bU=>Bl (BH (Ai .i64)) 31 w.heap.size aR bU m t r∧Bk aR b1 26 (AS d f g h i j q).toArray∧Sl AA aR bU d f q.Ax∧Sl (BH (Ai .i64)) aR bU g h q.AX∧Sl AH aR bU i j q.AP) (zf Z w [ob m,some b1])) a3 ?cJ ?cK
  case cJ=>
   intro st;have bV:=a0.bk;have ⟨a8,a9,bA⟩:=Ez a4 a5 a7 (mt (Az a0) Bt);exact⟨([]:List (List Int)),(0:Int),none,0,aN,qo st,sp st 1 rfl,sp st 3 rfl,sp st 4 rfl,cE,cF,bV,a8,a9,bA⟩
  case cK=>
   rintro(_|bT) cZ c0 ⟨r,c,m,t,aN,b7,y,aS,aE,cL,x,aV,aG,aH,aI⟩
   ·exact absurd (show none=some _ from aN) (by simp)
   rw[DY.eq_2] at aN;have a:=aN;clear aN;refine ro b7<|Af<|cr<|wM (v:=I c) aE<|wD (fun st=>Ba (l:=(AS d f g h i j q)) H2 (ee st y) aV rfl rfl) ?_;replace a:=bind_some a;obtain⟨cM,cN,a⟩:=a;refine wE (fun st=>Aj RT (eR st) (Ck (eR st)) (a59 a3 q d f g h i j ZA _ aG.all aH.all aI.all cM cN)) ?_;rintro _ c6 ⟨z,rfl⟩;have bK:=cL.ext z;refine wD (fun st=>B9 (eR st) (eR st))<|wn ?_;rcases Ae (decide (c<cM)) with aW|aW
   ·replace a:=An a aW;refine Ah rfl aW<|cn<|Af<|AI<|Af<|Al ?_;have a2:=(aV.ext z);refine wD (fun st=>Ba (l:=(AS d f g h i j q)) H2 (ee st y) a2 rfl rfl)<|wM (v:=I c) aE ?_;have ⟨aO,aP,aQ⟩:=Ez aG aH aI (Ac z);replace a:=bind_some a;obtain⟨aJ,cO,a⟩:=a;refine wE (fun st=>Aj Aab (eR st) (Ci (eR st) (eR st)) (a58 a3 q c d f g h i j (zf Z w [ob m,some b1]) _ aO aP aQ aJ cO)) ?_;rintro _ c7 ⟨aK,⟨o,p,rfl,aA⟩⟩;have cP:=bK.ext aK;have aA:=aA.mv (bK.DR (Nat.le_refl _));refine wA (v:=.slice o aJ.length p) rfl<|wn<|Af<|Al ?_;have aT:=(a2.ext aK);refine wD (fun st=>Ba (l:=(AS d f g h i j q)) H2 (ee st y) aT rfl rfl)<|wM (v:=.slice o aJ.length p) rfl ?_;have ⟨aB,aC,aD⟩:=Ez aO aP aQ (Ac aK);replace a:=bind_some a;obtain⟨cQ,cR,a⟩:=a;refine wE (fun st=>Aj Y5 (eR st) (Ci (eR st) (eR st)) (Acl a3 q aJ d f g h i j o p ZA _ aB.all aC.all aD.all aA.all cQ cR)) ?_;rintro _ c1 ⟨u,rfl⟩;have bL:=cP.ext u;refine wn ?_;rcases Ae (cQ) with aL|aL
    ·replace a:=An a aL;refine Ah rfl aL<|Al<|wM (v:=.slice m r.length t) aS<|wM (v:=.slice o aJ.length p) rfl<|wE (fun st=>BR (e:=31) (vs:= #[(0,.slice o aJ.length p)]) (cs:= #[.slice o aJ.length p]) (Ik (eR st)) (by kernel_rfl)) ?_;rintro _ c2 ⟨c3,rfl,s⟩;have aX:=bL.nb s;have cS:=bL.BJ s;have bB:=((((x.ext z (Ac z)).ext aK (Ac aK)).ext u (Ac u)).ext s.gr (Az s));replace a:=Cl a;obtain⟨bM,a⟩:=a;have aY:=((aA.mv (Ac u)).mv (Az s));refine wE (fun st=>IN (ys:=[aJ]) Tryz.underlying23 NW rfl rfl (by decide) (eR st) rfl (eR st) bB (IP (BG:=[[.slice o aJ.length p]]) s.bk ⟨⟨_,_,rfl,aY⟩,trivial⟩ rfl) (by have:=bM;simp only[maxLen];omega) (by have:=bM;omega) aX.sz (by simp)) ?_;rintro _ c4 ⟨b4,b5,rfl,aU,aZ,b8⟩;have cT:=aX.row aU 1 rfl aZ;have b9:=DT b8 (aX.CJ aU 1 rfl (fun k hk=>(aZ k hk).1));refine wA (v:=.slice b4 ((r++[aJ]).length) b5) rfl<|Bj<|CU<|Al<|wM (v:=I c) aE ?_;replace a:=AL a;obtain⟨cA,a⟩:=a;refine wD (fun st=>BL (eR st) (eR st) cA)<|wA (v:=I (c+1)) rfl<|Bj ?_;have cU:=cT.erase 0;have bN:=(b9.up (AD 0));have bW:=(((aT.ext u).ext s.gr).gr aU (aX.nq 2 1));have ⟨bC,bD,bE⟩:=Ez aB aC aD (mt (Ac u) (mt (Az s) (mt (aX.CJ aU 1 rfl (fun k hk=>(aZ k hk).1)) (AD 0))));refine Bv bT (Nat.lt_succ_self _) (fun st=>?_);exact⟨(r++[aJ]),(c+1),b4,b5,a,qo st,sp st 1 y,sp st 3 rfl,sp st 4 rfl,cU,bN,bW,bC,bD,bE⟩
    ·replace a:=Ao a aL;refine Aq rfl aL<|Cp<|CU<|Al<|wM (v:=I c) aE ?_;replace a:=AL a;obtain⟨cB,a⟩:=a;refine wD (fun st=>BL (eR st) (eR st) cB)<|wA (v:=I (c+1)) rfl<|Bj ?_;have bF:=(((x.ext z (Ac z)).ext aK (Ac aK)).ext u (Ac u));have bX:=(aT.ext u);have ⟨bG,bH,bI⟩:=Ez aB aC aD (Ac u);refine Bv bT (Nat.lt_succ_self _) (fun st=>?_);exact⟨r,(c+1),m,t,a,qo st,sp st 1 y,sp st 3 aS,sp st 4 rfl,bL,bF,bX,bG,bH,bI⟩
   ·replace a:=Ao a aW;refine Aq rfl aW<|DG ?_;obtain rfl:=oi a;have bJ:=(x.ext z (Ac z));refine BF (fun st=>?_);exact⟨rfl,m,t,qo st,sp st 3 aS,bK,bJ⟩
 case cI=>
  rintro cG cW c5 (⟨rfl,b,n,bY,bO,bP,aM⟩);refine lf bY<|Bd<|BM<|cr<|wM (v:=.slice b z2.length n) bO<|wA (v:=.slice b z2.length n) rfl<|wn<|Am ?_;obtain rfl:=oi a;refine Av rfl rfl ?_;exact⟨bP.Bf,⟨_,_,rfl,bP.Jn (M:=[]) 0 rfl [] rfl trivial aM⟩⟩
theorem Tu aM a aE e f b c g h i j l m n o(Z:Nat→Prop) w(u:Sl AA w Z e f a.Ak)(x:Sl (BH (Ai .i64)) w Z b c a.Ab)(y:Sl AH w Z g h a.Aw)(z:Sl AZ w Z i j a.AB)(aA:Sl Bb w Z l m a.AF)(aB:Sl Bq w Z n o a.AM) aN(d:Ea aM a aE=some aN):
 BO Tryz.prog 56 #[.agg (Ay e f b c g h i j l m n o a).toArray,I aE] w (fun v w'=>Ext w w'∧(Dr .i64).R w' (zf Z w []) v aN):=by
 unfold Ea at d;refine rq (N:=12) Tryz.func56 fun aZ ha a0=>?_;have aF:=sA 0 ha;have aG:=sA 1 ha;clear ha;have aD:Hp FN [] w [] w:=Hp.start (BC.none w);have ⟨aH,q,aI,aJ,aK,aL⟩:=CA u x y z aA aB (Bz (Z:=Z) (L:=[]) w);refine cr<|wE (fun st=>BN (v:=.agg (Ay e f b c g h i j l m n o a).toArray) (cs:=(Ay e f b c g h i j l m n o a).toArray) (ee st aF) rfl) ?_;rintro _ w1 ⟨b1,rfl,p⟩;have aO:=aD.nb p;have aY:=aD.BJ p;refine wA (v:=I 0) rfl<|wr<|wD (fun st=>Ad (eR st) (ER _ _))<|wD (fun st=>Ad (eR st) (DE _ _))<|wD (fun st=>Ag (v:=.slice b a.Ab.length c) C2 (eR st) p.bk rfl)<|wM (v:=I aE) aG ?_;replace d:=AT d;obtain⟨i2,x2,aP,aQ,aR,d⟩:=d;have r:=(q.mv (Az p));obtain⟨b2,a2,_,aS,⟨s,t,rfl,aC⟩,aT⟩:=Sl.Cy r rfl aQ;refine wD (fun st=>Bi (k:=i2) Tryz.underlying23 EO (eR st) aS (eR st) aP aR)<|wD (fun st=>Bp (v:=.slice s x2.length t) CO (eR st) aT rfl) ?_;replace d:=bind_some d;obtain⟨aU,aV,d⟩:=d;refine wE (fun st=>Aj RR (eR st) (Ck (eR st)) (a35 aM x2 s t ZA _ aC.all aU aV)) ?_;rintro _ a3 ⟨aW,rfl⟩;have aX:=aO.ext aW;refine wA (v:=I aU) rfl<|wn<|Am ?_;obtain rfl:=oi d;refine Av rfl rfl ?_;exact⟨aX.Bf,rfl⟩
theorem a54 bO b aW aX i j f g m n c d o p q r aI aJ(Z:Nat→Prop) w(bW:Sl AA w Z i j b.Ak)(bX:Sl (BH (Ai .i64)) w Z f g b.Ab)(bY:Sl AH w Z m n b.Aw)(bZ:Sl AZ w Z c d b.AB)(b4:Sl Bb w Z o p b.AF)(b5:Sl Bq w Z q r b.AM)(b6:Sl (Ai .i64) w Z aI aJ aW) cU(a:FC bO b aW aX=some cU):
 BO Tryz.prog 54 #[.agg (Ay i j f g m n c d o p q r b).toArray,.slice aI aW.length aJ,I aX] w (fun v w'=>Ext w w'∧(Dr .i64).R w' (zf Z w []) v cU):=by
 unfold FC at a;refine rq (N:=43) Tryz.func54 fun dM ha dN=>?_;have cE:=sA 0 ha;have cF:=sA 1 ha;have cG:=sA 2 ha;clear ha;have cA:Hp FN [] w [] w:=Hp.start (BC.none w);have ⟨bA,bB,bC,bD,bE,bF,bG⟩:=IF bW bX bY bZ b4 b5 b6 (Bz (Z:=Z) (L:=[]) w);refine cr<|wE (fun st=>BN (v:=.agg (Ay i j f g m n c d o p q r b).toArray) (cs:=(Ay i j f g m n c d o p q r b).toArray) (ee st cE) rfl) ?_;rintro _ w1 ⟨b1,rfl,aY⟩;have cV:=cA.nb aY;have dI:=cA.BJ aY;refine wA (v:=I 0) rfl<|wr<|wA (v:=I 0) rfl<|wn<|Af<|cr<|wD (fun st=>Ad (eR st) (Gl _ _))<|wD (fun st=>Ag (v:=.slice c b.AB.length d) Hf (eR st) aY.bk rfl)<|wD (fun st=>Br Tryz.underlying63 (eR st)) ?_;replace a:=AL a;obtain⟨cW,a⟩:=a;refine wD (fun st=>Ej (eR st) (eR st) cW)<|wA (v:=I ((b.AB.length:Int)-1)) rfl<|wn<|AI ?_;replace a:=bind_some a;obtain⟨z3,aS,a⟩:=a;refine BY (fun cX x u=>(cX=.exit 0∧Fo X0 43 x∧sl x 2=I aX∧sl x 3=pt b1 0∧sl x 7=I z3∧Hp FN [] w [some b1] u∧Bk u b1 67 (Ay i j f g m n c d o p q r b).toArray∧(fun aG=>Sl AA u aG i j b.Ak∧Sl (BH (Ai .i64)) u aG f g b.Ab∧Sl AH u aG m n b.Aw∧Sl AZ u aG c d b.AB∧Sl Bb u aG o p b.AF∧Sl Bq u aG q r b.AM) (zf Z w [some b1]))) ?cY ?cZ
 case cY=>
  clear a;refine BX (fun b7 x u=>∃aU,∃e,Ed bO b aW aX b7 aU e=some z3∧Fo X0 43 x∧sl x 1=.slice aI aW.length aJ∧sl x 2=I aX∧sl x 3=pt b1 0∧sl x 7=I aU∧sl x 8=I e∧Hp FN [] w [some b1] u∧Bk u b1 67 (Ay i j f g m n c d o p q r b).toArray∧(fun aG=>Sl AA u aG i j b.Ak∧Sl (BH (Ai .i64)) u aG f g b.Ab∧Sl AH u aG m n b.Aw∧Sl AZ u aG c d b.AB∧Sl Bb u aG o p b.AF∧Sl Bq u aG q r b.AM∧Sl (Ai .i64) u aG aI aJ aW) (zf Z w [some b1])) bO ?c0 ?c1
  case c0=>
   intro st;have ⟨bH,bI,bJ,bK,bL,bM,bN⟩:=IF bA bB bC bD bE bF bG (Az aY);exact⟨(0:Int),((b.AB.length:Int)-1),aS,qo st,sp st 1 cF,sp st 2 cG,sp st 3 rfl,sp st 7 rfl,sp st 8 rfl,cV,aY.bk,bH,bI,bJ,bK,bL,bM,bN⟩
  case c1=>
   rintro(_|b7) dO dP ⟨aU,e,aS,cH,aV,aQ,z,a9,aH,cB,y,aB,s,aC,t,aD,aE,aF⟩
   ·exact absurd (show none=some _ from aS) (by simp)
   rw[Ed.eq_2] at aS;have a:=aS;clear aS;refine ro cH<|Af<|cr<|wM (v:=I e) aH<|wD (fun st=>IZ (eR st) (eR st))<|wn ?_;rcases Ae (decide ((0:Int)≤e)) with aZ|aZ
   ·replace a:=An a aZ;refine Ah rfl aZ<|cn<|Af<|AI<|Af ?_;replace a:=AT a;obtain⟨i6,c2,c3,c4,c5,a⟩:=a;obtain⟨dJ,dK,_,c6,⟨bP,bQ,rfl,b8⟩,c7⟩:=Sl.Cy s rfl c4;replace a:=bind_some a;obtain⟨cI,c8,a⟩:=a;replace a:=AT a;obtain⟨i8,c9,dA,dB,dC,a⟩:=a;obtain⟨dD,dE,_,dF,rfl,dG⟩:=Sl.elem t (by decide) dB;refine BU 14 [Kc (.slice aI aW.length aJ),Kc (pt b1 0),Kc (pt b1 1),Kc (.slice f b.Ab.length g),Kc (I aX),Kc (pt dJ (dK+i6)),Kc (.slice bP c2.length bQ),Kc (I cI),Kc (pt b1 4),Kc (.slice c b.AB.length d),Kc (I e),Kc (pt dD (dE+i8*2)),Kc (pt dD (dE+i8*2)),Kc (I c9.AV)] mixed rfl rfl
        (Aa (oD (fun K=>Au (es ((K.out 1 rfl).trans aV))))
        (Aa (oD (fun K=>Ad (es ((K.out 3 rfl).trans z)) (ER _ _)))
        (Aa (oD (fun K=>Ad (es (K.dq 1 18)) (DE _ _)))
        (Aa (oD (fun K=>Ag C2 (es (K.dq 2 19)) (y.ext K.AQ) rfl))
        (Aa (oD (fun K=>Au (es ((K.out 2 rfl).trans aQ))))
        (Aa (oD (fun K=>Bi (k:=i6) Tryz.underlying23 EO (es (K.dq 3 20)) c6 (es (K.dq 4 21)) c3 c5))
        (Aa (oD (fun K=>Bp CO (es (K.dq 5 22)) (c7.mv (Ac K.AQ)) rfl))
        (Aa (oE (fun K=>(Aj Po rfl (Ci (es (K.dq 0 17)) (es (K.dq 6 23))) (a87 bO aW c2 aI aJ bP bQ ZA _ (aF.mv (Ac K.AQ)).all (b8.mv (Ac K.AQ)).all cI c8)).mono (fun _ _ h=>⟨h.2,h.1⟩)))
        (Aa (oD (fun K=>Ad (es ((K.out 3 rfl).trans z)) (Gl _ _)))
        (Aa (oD (fun K=>Ag Hf (es (K.dq 8 25)) (y.ext K.AQ) rfl))
        (Aa (oD (fun K=>Au (es ((K.out 8 rfl).trans aH))))
        (Aa (oD (fun K=>Bu (k:=i8) Tryz.underlying63 JG (es (K.dq 9 26)) dF (es (K.dq 10 27)) dA dC))
        (Aa (oD (fun K=>Ad (es (K.dq 11 28)) (KW _ _ _)))
        (Aa (oD (fun K=>Bp Bg (es (K.dq 12 29)) (dG.mv (Ac K.AQ)) rfl))
        (BS _))))))))))))))) ?_
    intro dU;rintro _ rfl _ rfl _ rfl _ rfl _ rfl _ rfl _ rfl _ rfl _ rfl _ rfl _ rfl _ rfl _ rfl _ rfl aT;have cC:=cB.ext aT;refine wD (fun st=>IZ (eR st) (eR st))<|wn ?_;rcases Ae (decide (c9.AV≤cI)) with a0|a0
    ·replace a:=An a a0;refine Ah rfl a0<|Al<|wD (fun st=>Ad (ee st z) (Gl _ _)) ?_;have aR:=(y.ext aT);refine wD (fun st=>Ag (v:=.slice c b.AB.length d) Hf (eR st) aR rfl)<|wM (v:=I e) aH ?_;replace a:=AT a;obtain⟨i10,bR,cJ,cK,cL,a⟩:=a;have aA:=(t.mv (Ac aT));obtain⟨dQ,dR,_,cM,rfl,cN⟩:=Sl.elem aA (by decide) cK;refine wD (fun st=>Bu (k:=i10) Tryz.underlying63 JG (eR st) cM (eR st) cJ cL)<|wD (fun st=>Ad (eR st) (OD _ _ _))<|wD (fun st=>DO (v:=I bR.B4) Bg (eR st) cN rfl)<|wA (v:=I bR.B4) rfl<|Bj<|CU<|Al<|wM (v:=I e) aH ?_;replace a:=AL a;obtain⟨cO,a⟩:=a;refine wD (fun st=>Ej (eR st) (eR st) cO)<|wA (v:=I (e-1)) rfl<|Bj ?_;have ⟨aK,aL,aM,aN,aO,aP⟩:=CA aB s aC aD aE aF (Ac aT);refine Bv b7 (Nat.lt_succ_self _) (fun st=>?_);exact⟨bR.B4,(e-1),a,qo st,sp st 1 aV,sp st 2 aQ,sp st 3 z,sp st 7 rfl,sp st 8 rfl,cC,aR,aK,aL,aM,aA,aN,aO,aP⟩
    ·replace a:=Ao a a0;refine Aq rfl a0<|Cp<|CU<|Al<|wM (v:=I e) aH ?_;replace a:=AL a;obtain⟨cP,a⟩:=a;refine wD (fun st=>Ej (eR st) (eR st) cP)<|wA (v:=I (e-1)) rfl<|Bj ?_;have aR:=(y.ext aT);have ⟨aK,aL,aM,aA,aN,aO,aP⟩:=IF aB s aC t aD aE aF (Ac aT);refine Bv b7 (Nat.lt_succ_self _) (fun st=>?_);exact⟨aU,(e-1),a,qo st,sp st 1 aV,sp st 2 aQ,sp st 3 z,sp st 7 a9,sp st 8 rfl,cC,aR,aK,aL,aM,aA,aN,aO,aP⟩
   ·replace a:=Ao a aZ;refine Aq rfl aZ<|DG ?_;obtain rfl:=oi a;refine BF (fun st=>?_);exact⟨rfl,qo st,sp st 2 aQ,sp st 3 z,sp st 7 a9,cB,y,aB,s,aC,t,aD,aE⟩
 case cZ=>
  rintro cX dL dS (⟨rfl,b9,bS,bT,bU,cQ,bV,a2,a3,a4,a5,a7,a8⟩);refine lf b9<|Bd<|BM<|cr<|wM (v:=I z3) bU<|wD (fun st=>Ba (l:=(Ay i j f g m n c d o p q r b)) E6 (ee st bT) bV rfl rfl)<|wM (v:=I aX) bS ?_;replace a:=bind_some a;obtain⟨cD,cR,a⟩:=a;refine wE (fun st=>Aj Ms (eR st) (Ci (eR st) (eR st)) (Tu bO b aX i j f g m n c d o p q r ZA _ a2.all a3.all a4.all a5.all a7.all a8.all cD cR)) ?_;rintro _ dT ⟨cS,rfl⟩;have dH:=cQ.ext cS;replace a:=AL a;obtain⟨cT,a⟩:=a;refine wD (fun st=>LY (eR st) (eR st) cT)<|wA (v:=I (z3*cD)) rfl<|wn<|Am ?_;obtain rfl:=oi a;refine Av rfl rfl ?_;exact⟨dH.Bf,rfl⟩
theorem Acm b4 c aU f g i j m o p q r s d e z aA(Z:Nat→Prop) w(b7:Sl AA w Z f g c.Ak)(b8:Sl (BH (Ai .i64)) w Z i j c.Ab)(b9:Sl AH w Z m o c.Aw)(cA:Sl AZ w Z p q c.AB)(cB:Sl Bb w Z r s c.AF)(cC:Sl Bq w Z d e c.AM)(cD:Sl (Ai .i64) w Z z aA aU) cW(a:Hc b4 c aU=some cW):
 BO Tryz.prog 114 #[.agg (Ay f g i j m o p q r s d e c).toArray,.slice z aU.length aA] w (fun v w'=>Ext w w'∧(Dr .i64).R w' (zf Z w []) v cW):=by
 unfold Hc at a;refine rq (N:=41) Tryz.func114 fun dP ha dQ=>?_;have cL:=sA 0 ha;have cM:=sA 1 ha;clear ha;have cI:Hp FN [] w [] w:=Hp.start (BC.none w);have ⟨a8,a9,bA,bB,bC,bD,bE⟩:=IF b7 b8 b9 cA cB cC cD (Bz (Z:=Z) (L:=[]) w);refine cr<|wE (fun st=>BN (v:=.agg (Ay f g i j m o p q r s d e c).toArray) (cs:=(Ay f g i j m o p q r s d e c).toArray) (ee st cL) rfl) ?_;rintro _ w1 ⟨b1,rfl,a5⟩;have cX:=cI.nb a5;have dM:=cI.BJ a5;refine wA (v:=I 0) rfl<|wr<|wA (v:=I 0) rfl<|wn<|Af<|cr<|wA (v:=I 0) rfl<|wn<|AI ?_;replace a:=bind_some a;obtain⟨z2,aP,a⟩:=a;refine BY (fun cY aH aJ=>(cY=.exit 0∧Fo X0 41 aH∧sl aH 5=I z2∧Hp FN [] w [some b1] aJ)) ?cZ ?c0
 case cZ=>
  clear a;refine BX (fun cE aH aJ=>∃y,∃b,Ee b4 c aU cE y b=some z2∧Fo X0 41 aH∧sl aH 1=.slice z aU.length aA∧sl aH 2=pt b1 0∧sl aH 5=I y∧sl aH 6=I b∧Hp FN [] w [some b1] aJ∧Bk aJ b1 67 (Ay f g i j m o p q r s d e c).toArray∧(fun aX=>Sl AA aJ aX f g c.Ak∧Sl (BH (Ai .i64)) aJ aX i j c.Ab∧Sl AH aJ aX m o c.Aw∧Sl AZ aJ aX p q c.AB∧Sl Bb aJ aX r s c.AF∧Sl Bq aJ aX d e c.AM∧Sl (Ai .i64) aJ aX z aA aU) (zf Z w [some b1])) b4 ?c1 ?c2
  case c1=>
   intro st;have ⟨bF,bG,bH,bI,bJ,bK,bL⟩:=IF a8 a9 bA bB bC bD bE (Az a5);exact⟨(0:Int),(0:Int),aP,qo st,sp st 1 cM,sp st 2 rfl,sp st 5 rfl,sp st 6 rfl,cX,a5.bk,bF,bG,bH,bI,bJ,bK,bL⟩
  case c2=>
   rintro(_|cE) dR dS ⟨y,b,aP,cN,aS,t,aT,u,b5,aK,aY,aZ,a0,a2,a3,aL,a4⟩
   ·exact absurd (show none=some _ from aP) (by simp)
   rw[Ee.eq_2] at aP;have a:=aP;clear aP;refine ro cN<|Af<|cr<|wM (v:=I b) u<|wD (fun st=>Ad (ee st t) (H7 _ _))<|wD (fun st=>Ag (v:=.slice d c.AM.length e) IV (eR st) aK rfl)<|wD (fun st=>Br Tryz.underlying65 (eR st))<|wD (fun st=>B9 (eR st) (eR st))<|wn ?_;rcases Ae (decide (b<(c.AM.length:Int))) with aV|aV
   ·replace a:=An a aV;refine Ah rfl aV<|cn<|Af<|AI<|cr<|wD (fun st=>Ad (ee st t) (H7 _ _))<|wD (fun st=>Ag (v:=.slice d c.AM.length e) IV (eR st) aK rfl)<|wM (v:=I b) u ?_;replace a:=AT a;obtain⟨i4,aO,c3,c4,c5,a⟩:=a;obtain⟨dV,dW,_,c6,rfl,c7⟩:=Sl.elem aL (by decide) c4;refine wD (fun st=>Bu (k:=i4) Tryz.underlying65 LS (eR st) c6 (eR st) c3 c5)<|wD (fun st=>Ad (eR st) (OE _ _ _))<|wD (fun st=>Nj (l:=[I aO.Cm,I aO.Cn]) Jg (eR st) c7 rfl rfl)<|wE (fun st=>B8 (cs:= #[I 0,I 0]) Ts rfl) ?_;rintro _ dX ⟨c8,rfl,aQ⟩;have a7:=b5.nb aQ;have dN:=b5.BJ aQ;refine BI rfl rfl (fun st=>By (n:=2) (l:=[I aO.Cm,I aO.Cn]) (CB:= #[I aO.Cm,I aO.Cn]) (eR st) (eR st) L6 aQ.bk rfl rfl (show 0+2≤2 by decide) (Bh rfl) rfl) ?_;rintro _ dY aR;have c9:=a7.gr aR.gr 0 rfl;refine wn<|Af ?_;have aI:=((aK.ext aQ.gr).gr aR.gr (a7.nq 1 0));replace a:=AT a;obtain⟨i8,dA,dB,dC,dD,a⟩:=a;have x:=((aL.mv (Az aQ)).mv (a7.BA aR.gr 0 rfl));obtain⟨dE,dF,_,dG,rfl,dH⟩:=Sl.elem x (by decide) dC;have ⟨aB,aC,aD,aE,aF,aG⟩:=CA aY aZ a0 a2 a3 a4 (mt (Az aQ) (a7.BA aR.gr 0 rfl));replace a:=bind_some a;obtain⟨cO,dI,a⟩:=a;refine BU 13 [Kc (.agg (Ay f g i j m o p q r s d e c).toArray),Kc (.slice z aU.length aA),Kc (pt b1 6),Kc (.slice d c.AM.length e),Kc (I b),Kc (pt dE (dF+i8*3)),Kc (pt dE (dF+i8*3)),Kc (I dA.BV),Kc (I cO),Kc (pt c8 0),Kc (I aO.Cm),Kc (pt c8 1),Kc (I aO.Cn)] mixed rfl rfl
        (Aa (oD (fun K=>Ba (l:=(Ay f g i j m o p q r s d e c)) E6 (es ((K.out 2 rfl).trans t)) (aI.ext K.AQ) rfl rfl))
        (Aa (oD (fun K=>Au (es ((K.out 1 rfl).trans aS))))
        (Aa (oD (fun K=>Ad (es ((K.out 2 rfl).trans t)) (H7 _ _)))
        (Aa (oD (fun K=>Ag IV (es (K.dq 2 23)) (aI.ext K.AQ) rfl))
        (Aa (oD (fun K=>Au (es ((K.out 6 rfl).trans u))))
        (Aa (oD (fun K=>Bu (k:=i8) Tryz.underlying65 LS (es (K.dq 3 24)) dG (es (K.dq 4 25)) dB dD))
        (Aa (oD (fun K=>Ad (es (K.dq 5 26)) (MV _ _ _)))
        (Aa (oD (fun K=>Bp Bg (es (K.dq 6 27)) (dH.mv (Ac K.AQ)) rfl))
        (Aa (oE (fun K=>(Aj RU rfl (Ek (es (K.dq 0 21)) (es (K.dq 1 22)) (es (K.dq 7 28))) (a54 b4 c aU dA.BV f g i j m o p q r s d e z aA ZA _ (aB.mv (Ac K.AQ)).all (aC.mv (Ac K.AQ)).all (aD.mv (Ac K.AQ)).all (aE.mv (Ac K.AQ)).all (aF.mv (Ac K.AQ)).all (x.mv (Ac K.AQ)).all (aG.mv (Ac K.AQ)).all cO dI)).mono (fun _ _ h=>⟨h.2,h.1⟩)))
        (Aa (oD (fun K=>Ad (K.kO 7) (KU _ _)))
        (Aa (oD (fun K=>Ag Bg (es (K.dq 9 30)) (aR.bk.ext K.AQ) rfl))
        (Aa (oD (fun K=>Ad (K.kO 7) (LF _ _)))
        (Aa (oD (fun K=>Ag Bg (es (K.dq 11 32)) (aR.bk.ext K.AQ) rfl))
        (BS _)))))))))))))) ?_
    intro dZ;rintro _ rfl _ rfl _ rfl _ rfl _ rfl _ rfl _ rfl _ rfl _ rfl _ rfl _ rfl _ rfl _ rfl aW;have dJ:=c9.ext aW;replace a:=bind_some a;obtain⟨cJ,cP,a⟩:=a;refine wE (fun st=>Aj Em (eR st) (Ek (eR st) (eR st) (eR st)) (Ii b4 cO aO.Cm aO.Cn ZA _ cJ cP)) ?_;rintro _ dT ⟨aM,rfl⟩;have cK:=dJ.ext aM;refine wn ?_;rcases Ae (cJ) with aN|aN
    ·replace a:=An a aN;refine Ah rfl aN<|Al<|wM (v:=I y) aT<|wM (v:=I b) u ?_;replace a:=GI a;obtain⟨cQ,a⟩:=a;refine wD (fun st=>It (k:=.u64) MU Tryz.underlying91 (eR st) cQ) ?_;replace a:=Kl a;obtain⟨cR,a⟩:=a;refine wD (fun st=>NR (eR st) (eR st) cR) ?_;replace a:=Lb a;obtain⟨cS,a⟩:=a;refine wD (fun st=>TQ (eR st) (eR st) cS)<|wA (v:=I (Lp y (Gr (1:Int) b))) rfl<|Bj<|CU<|Al<|wM (v:=I b) u ?_;replace a:=AL a;obtain⟨cT,a⟩:=a;refine wD (fun st=>BL (eR st) (eR st) cT)<|wA (v:=I (b+1)) rfl<|Bj ?_;have dK:=cK.erase 0;have cF:=((aI.ext aW).ext aM);have ⟨bM,bN,bO,bP,bQ,bR,bS⟩:=IF aB aC aD aE aF x aG (mt (Ac aW) (mt (Ac aM) (AD 0)));refine Bv cE (Nat.lt_succ_self _) (fun st=>?_);exact⟨(Lp y (Gr (1:Int) b)),(b+1),a,qo st,sp st 1 aS,sp st 2 t,sp st 5 rfl,sp st 6 rfl,dK,cF,bM,bN,bO,bP,bQ,bR,bS⟩
    ·replace a:=Ao a aN;refine Aq rfl aN<|Cp<|CU<|Al<|wM (v:=I b) u ?_;replace a:=AL a;obtain⟨cU,a⟩:=a;refine wD (fun st=>BL (eR st) (eR st) cU)<|wA (v:=I (b+1)) rfl<|Bj ?_;have dL:=cK.erase 0;have cG:=((aI.ext aW).ext aM);have ⟨bT,bU,bV,bW,bX,bY,bZ⟩:=IF aB aC aD aE aF x aG (mt (Ac aW) (mt (Ac aM) (AD 0)));refine Bv cE (Nat.lt_succ_self _) (fun st=>?_);exact⟨y,(b+1),a,qo st,sp st 1 aS,sp st 2 t,sp st 5 aT,sp st 6 rfl,dL,cG,bT,bU,bV,bW,bX,bY,bZ⟩
   ·replace a:=Ao a aV;refine Aq rfl aV<|DG ?_;obtain rfl:=oi a;refine BF (fun st=>?_);exact⟨rfl,qo st,sp st 5 aT,b5⟩
 case c0=>
  rintro cY dO dU (⟨rfl,cH,b6,cV⟩);refine lf cH<|Bd<|BM<|cr<|wM (v:=I z2) b6<|wA (v:=I z2) rfl<|wn<|Am ?_;obtain rfl:=oi a;refine Av rfl rfl ?_;exact⟨cV.Bf,rfl⟩
theorem a61 aM b e f g h i j l m n o c d(Z:Nat→Prop) w(q:Sl AA w Z e f b.Ak)(r:Sl (BH (Ai .i64)) w Z g h b.Ab)(s:Sl AH w Z i j b.Aw)(t:Sl AZ w Z l m b.AB)(u:Sl Bb w Z n o b.AF)(x:Sl Bq w Z c d b.AM) aG(a:HG aM b=some aG):
 BO Tryz.prog 61 #[.agg (Ay e f g h i j l m n o c d b).toArray] w (fun v w'=>Ext w w'∧(Dr .i64).R w' (zf Z w []) v aG):=by
 unfold HG at a;refine rq (N:=9) Tryz.func61 fun aN ha aO=>?_;have z:=sA 0 ha;clear ha;have y:Hp FN [] w [] w:=Hp.start (BC.none w);have ⟨aA,aB,aC,aD,aE,aF⟩:=CA q r s t u x (Bz (Z:=Z) (L:=[]) w);refine cr<|wE (fun st=>BN (v:=.agg (Ay e f g h i j l m n o c d b).toArray) (cs:=(Ay e f g h i j l m n o c d b).toArray) (ee st z) rfl) ?_;rintro _ w1 ⟨b1,rfl,p⟩;have aH:=y.nb p;have aL:=y.BJ p;refine wA (v:=I 0) rfl<|wr<|wD (fun st=>Ad (eR st) (H7 _ _))<|wD (fun st=>Ag (v:=.slice c b.AM.length d) IV (eR st) p.bk rfl)<|wD (fun st=>Br Tryz.underlying65 (eR st)) ?_;replace a:=GI a;obtain⟨aI,a⟩:=a;refine wD (fun st=>It (k:=.u64) MU Tryz.underlying91 (eR st) aI) ?_;replace a:=Kl a;obtain⟨aJ,a⟩:=a;refine wD (fun st=>NR (eR st) (eR st) aJ) ?_;replace a:=AL a;obtain⟨aK,a⟩:=a;refine wD (fun st=>Ej (eR st) (eR st) aK)<|wA (v:=I ((Gr (1:Int) (b.AM.length:Int))-1)) rfl<|wn<|Am ?_;obtain rfl:=oi a;refine Av rfl rfl ?_;exact⟨aH.Bf,rfl⟩
theorem a53 bO c d f g i j m o p q r s t(Z:Nat→Prop) w(cR:Sl AA w Z d f c.Ak)(cS:Sl (BH (Ai .i64)) w Z g i c.Ab)(cT:Sl AH w Z j m c.Aw)(cU:Sl AZ w Z o p c.AB)(cV:Sl Bb w Z q r c.AF)(cW:Sl Bq w Z s t c.AM) dM(a:F5 bO c=some dM):
 BO Tryz.prog 53 #[.agg (Ay d f g i j m o p q r s t c).toArray] w (fun v w'=>Ext w w'∧(FE (BH (Ai .i64))).R w' (zf Z w []) v dM):=by
 unfold F5 at a;refine rq (N:=32) Tryz.func53 fun eC ha eD=>?_;have c9:=sA 0 ha;clear ha;have c3:Hp FN [] w [] w:=Hp.start (BC.none w);have ⟨bP,bQ,bR,bS,bT,bU⟩:=CA cR cS cT cU cV cW (Bz (Z:=Z) (L:=[]) w);refine cr<|wE (fun st=>BN (v:=.agg (Ay d f g i j m o p q r s t c).toArray) (cs:=(Ay d f g i j m o p q r s t c).toArray) (ee st c9) rfl) ?_;rintro _ w1 ⟨b1,rfl,a9⟩;have c4:=c3.nb a9;have d7:=c3.BJ a9;refine wA (v:=.slice none 0 0) rfl<|wr<|wA (v:=.slice none 0 0) rfl<|wr<|wD (fun st=>Ad (eR st) (ER _ _))<|wD (fun st=>Ba (l:=[.slice d c.Ak.length f,.slice g c.Ab.length i,.slice j c.Aw.length m]) H2 (eR st) a9.bk rfl rfl) ?_;have ⟨bA,bB,bC⟩:=Ez bP bQ bR (Az a9);replace a:=bind_some a;obtain⟨bF,dN,a⟩:=a;refine wE (fun st=>Aj Aad (eR st) (Ck (eR st)) (a28 bO (⟨c.Ak,c.Ab,c.Aw⟩:Be) d f g i j m (zf Z w [some b1]) _ bA bB bC bF dN)) ?_;rintro _ d8 ⟨bN,⟨aD,aE,rfl,aW⟩⟩;have dO:=c4.ext bN;have aW:=aW.mv (c4.DR (Nat.le_refl _));refine wA (v:=.slice aD bF.length aE) rfl<|wn<|Af<|cr<|wA (v:=I 0) rfl<|wn<|AI ?_;have dP:=dO.nil;have dQ:Bl (BH (Ai .i64)) 31 w.heap.size d8 (zf Z w [none,some b1]) none 0 ([]:List (List Int)):=Bl.nil _ _ _ _ _;replace a:=bind_some a;obtain⟨z4,bD,a⟩:=a;refine BY (fun dR aS aL=>(dR=.exit 0∧∃b u,Fo X0 32 aS∧sl aS 3=.slice b z4.length u∧Hp FN [] w [ob b,some b1] aL∧Bl (BH (Ai .i64)) 31 w.heap.size aL (zf Z w [ob b,some b1]) b u z4)) ?dS ?dT
 case dS=>
  clear a;refine BX (fun cX aS aL=>∃aB,∃n,∃y aF,DZ bO c bF cX aB n=some z4∧Fo X0 32 aS∧sl aS 1=pt b1 0∧sl aS 3=.slice y aB.length aF∧sl aS 4=.slice aD bF.length aE∧sl aS 5=I n∧Hp FN [] w [ob y,some b1] aL∧(fun bI=>Bl (BH (Ai .i64)) 31 w.heap.size aL bI y aF aB∧Bk aL b1 67 (Ay d f g i j m o p q r s t c).toArray∧Sl AA aL bI d f c.Ak∧Sl (BH (Ai .i64)) aL bI g i c.Ab∧Sl AH aL bI j m c.Aw∧Sl AZ aL bI o p c.AB∧Sl Bb aL bI q r c.AF∧Sl Bq aL bI s t c.AM∧Sl (BH (Ai .i64)) aL bI aD aE bF) (zf Z w [ob y,some b1])) bO ?dU ?dV
  case dU=>
   intro st;have cY:=(a9.bk.ext bN);have ⟨bV,bW,bX⟩:=Ez bA bB bC (mt (Ac bN) Bt);have ⟨bY,bZ,b4⟩:=Ez bS bT bU (mt (Az a9) (mt (Ac bN) Bt));have bK:=(aW.mv Bt);exact⟨([]:List (List Int)),(0:Int),none,0,bD,qo st,sp st 1 rfl,sp st 3 rfl,sp st 4 rfl,sp st 5 rfl,dP,dQ,cY,bV,bW,bX,bY,bZ,b4,bK⟩
  case dV=>
   rintro(_|cX) eE eF ⟨aB,n,y,aF,bD,dA,aT,bG,aI,aJ,c5,aH,aK,aX,aY,aZ,a0,a2,a3,aC⟩
   ·exact absurd (show none=some _ from bD) (by simp)
   rw[DZ.eq_2] at bD;have a:=bD;clear bD;refine ro dA<|Af<|cr<|wM (v:=I n) aJ<|wM (v:=.slice aD bF.length aE) aI<|wD (fun st=>Br Tryz.underlying23 (eR st))<|wD (fun st=>B9 (eR st) (eR st))<|wn ?_;rcases Ae (decide (n<(bF.length:Int))) with bJ|bJ
   ·replace a:=An a bJ;refine Ah rfl bJ<|cn<|Af<|AI<|Af ?_;replace a:=AT a;obtain⟨i8,dW,dX,dY,dZ,a⟩:=a;obtain⟨d9,eA,_,d0,⟨cJ,cK,rfl,cZ⟩,d1⟩:=Sl.Cy aC rfl dY;replace a:=bind_some a;obtain⟨dB,d2,a⟩:=a;refine BU 7 [Kc (.agg (Ay d f g i j m o p q r s t c).toArray),Kc (.slice aD bF.length aE),Kc (I n),Kc (pt d9 (eA+i8)),Kc (.slice cJ dW.length cK),Kc (I dB),Kc (.agg (Ay d f g i j m o p q r s t c).toArray)] mixed rfl rfl
        (Aa (oD (fun K=>Ba (l:=(Ay d f g i j m o p q r s t c)) E6 (es ((K.out 1 rfl).trans aT)) (aK.ext K.AQ) rfl rfl))
        (Aa (oD (fun K=>Au (es ((K.out 4 rfl).trans aI))))
        (Aa (oD (fun K=>Au (es ((K.out 5 rfl).trans aJ))))
        (Aa (oD (fun K=>Bi (k:=i8) Tryz.underlying23 EO (es (K.dq 1 16)) d0 (es (K.dq 2 17)) dX dZ))
        (Aa (oD (fun K=>Bp CO (es (K.dq 3 18)) (d1.mv (Ac K.AQ)) rfl))
        (Aa (oE (fun K=>(Aj Y6 rfl (Ci (es (K.dq 0 15)) (es (K.dq 4 19))) (Acm bO c dW d f g i j m o p q r s t cJ cK ZA _ (aX.mv (Ac K.AQ)).all (aY.mv (Ac K.AQ)).all (aZ.mv (Ac K.AQ)).all (a0.mv (Ac K.AQ)).all (a2.mv (Ac K.AQ)).all (a3.mv (Ac K.AQ)).all (cZ.mv (Ac K.AQ)).all dB d2)).mono (fun _ _ h=>⟨h.2,h.1⟩)))
        (Aa (oD (fun K=>Ba (l:=(Ay d f g i j m o p q r s t c)) E6 (es ((K.out 1 rfl).trans aT)) (aK.ext K.AQ) rfl rfl))
        (BS _)))))))) ?_
    intro eO;rintro _ rfl _ rfl _ rfl _ rfl _ rfl _ rfl _ rfl aG;have d3:=c5.ext aG;have ⟨aM,aN,aO,aP,aQ,aR⟩:=CA aX aY aZ a0 a2 a3 (Ac aG);replace a:=bind_some a;obtain⟨c6,dC,a⟩:=a;refine wE (fun st=>Aj Aac (eR st) (Ck (eR st)) (a61 bO c d f g i j m o p q r s t ZA _ aM.all aN.all aO.all aP.all aQ.all aR.all c6 dC)) ?_;rintro _ eG ⟨x,rfl⟩;have cL:=d3.ext x;refine wD (fun st=>Dp (eR st) (eR st))<|wn ?_;rcases Ae (dB==c6) with a4|a4
    ·replace a:=An a a4;refine Ah rfl a4<|Al<|wM (v:=.slice y aB.length aF) bG<|wM (v:=.slice aD bF.length aE) aI<|wM (v:=I n) aJ ?_;replace a:=AT a;obtain⟨i13,a5,dD,dE,dF,a⟩:=a;have z:=((aC.mv (Ac aG)).mv (Ac x));obtain⟨eH,eI,_,dG,⟨aU,aV,rfl,cM⟩,dH⟩:=Sl.Cy z rfl dE;refine wD (fun st=>Bi (k:=i13) Tryz.underlying23 EO (eR st) dG (eR st) dD dF)<|wD (fun st=>Bp (v:=.slice aU a5.length aV) CO (eR st) dH rfl)<|wE (fun st=>BR (e:=31) (vs:= #[(0,.slice aU a5.length aV)]) (cs:= #[.slice aU a5.length aV]) (Ik (eR st)) (by kernel_rfl)) ?_;rintro _ eJ ⟨eK,rfl,aA⟩;have bE:=cL.nb aA;have d4:=cL.BJ aA;have b5:=(((aH.ext aG (Ac aG)).ext x (Ac x)).ext aA.gr (Az aA));replace a:=Cl a;obtain⟨cN,a⟩:=a;have bL:=(cM.mv (Az aA));refine wE (fun st=>IN (ys:=[a5]) Tryz.underlying23 NW rfl rfl (by decide) (eR st) rfl (eR st) b5 (IP (BG:=[[.slice aU a5.length aV]]) aA.bk ⟨⟨_,_,rfl,bL⟩,trivial⟩ rfl) (by have:=cN;simp only[maxLen];omega) (by have:=cN;omega) bE.sz (by simp)) ?_;rintro _ eM ⟨c7,c8,rfl,a7,bH,dI⟩;have d5:=bE.row a7 1 rfl bH;have dJ:=DT dI (bE.CJ a7 1 rfl (fun k hk=>(bH k hk).1));refine wA (v:=.slice c7 ((aB++[a5]).length) c8) rfl<|Bj<|CU<|Al<|wM (v:=I n) aJ ?_;replace a:=AL a;obtain⟨dK,a⟩:=a;refine wD (fun st=>BL (eR st) (eR st) dK)<|wA (v:=I (n+1)) rfl<|Bj ?_;have d6:=d5.erase 0;have cO:=(dJ.up (AD 0));have c0:=((((aK.ext aG).ext x).ext aA.gr).gr a7 (bE.nq 2 1));have ⟨b6,b7,b8,b9,cA,cB⟩:=CA aM aN aO aP aQ aR (mt (Ac x) (mt (Az aA) (mt (bE.CJ a7 1 rfl (fun k hk=>(bH k hk).1)) (AD 0))));have bM:=(((z.mv (Az aA)).mv (bE.CJ a7 1 rfl (fun k hk=>(bH k hk).1))).mv (AD 0));refine Bv cX (Nat.lt_succ_self _) (fun st=>?_);exact⟨(aB++[a5]),(n+1),c7,c8,a,qo st,sp st 1 aT,sp st 3 rfl,sp st 4 aI,sp st 5 rfl,d6,cO,c0,b6,b7,b8,b9,cA,cB,bM⟩
    ·replace a:=Ao a a4;refine Aq rfl a4<|Cp<|CU<|Al<|wM (v:=I n) aJ ?_;replace a:=AL a;obtain⟨dL,a⟩:=a;refine wD (fun st=>BL (eR st) (eR st) dL)<|wA (v:=I (n+1)) rfl<|Bj ?_;have cC:=((aH.ext aG (Ac aG)).ext x (Ac x));have c1:=((aK.ext aG).ext x);have ⟨cD,cE,cF,cG,cH,cI⟩:=CA aM aN aO aP aQ aR (Ac x);have z:=((aC.mv (Ac aG)).mv (Ac x));refine Bv cX (Nat.lt_succ_self _) (fun st=>?_);exact⟨aB,(n+1),y,aF,a,qo st,sp st 1 aT,sp st 3 bG,sp st 4 aI,sp st 5 rfl,cL,cC,c1,cD,cE,cF,cG,cH,cI,z⟩
   ·replace a:=Ao a bJ;refine Aq rfl bJ<|DG ?_;obtain rfl:=oi a;refine BF (fun st=>?_);exact⟨rfl,y,aF,qo st,sp st 3 bG,c5,aH⟩
 case dT=>
  rintro dR eB eN (⟨rfl,b,u,c2,cP,cQ,a8⟩);refine lf c2<|Bd<|BM<|cr<|wM (v:=.slice b z4.length u) cP<|wA (v:=.slice b z4.length u) rfl<|wn<|Am ?_;obtain rfl:=oi a;refine Av rfl rfl ?_;exact⟨cQ.Bf,⟨_,_,rfl,cQ.Jn (M:=[]) 0 rfl [] rfl trivial a8⟩⟩
set_option maxHeartbeats 4000000 in
theorem a116 aS b aF aG aA aB aH aI o p s t u x(Z:Nat→Prop) w(fT:Sl AA w Z aF aG b.Ak)(fU:Sl (BH (Ai .i64)) w Z aA aB b.Ab)(fV:Sl AH w Z aH aI b.Aw)(fW:Sl AZ w Z o p b.AB)(fX:Sl Bb w Z s t b.AF)(fY:Sl Bq w Z u x b.AM) h6(a:Hd aS b=some h6):
 BO Tryz.prog 116 #[.agg (Ay aF aG aA aB aH aI o p s t u x b).toArray] w (fun v w'=>Ext w w'∧(Dr .i64).R w' (zf Z w []) v h6):=by
 unfold Hd at a;refine rq (N:=149) Tryz.func116 fun iT ha iU=>?_;have f6:=sA 0 ha;clear ha;have f2:Hp FN [] w [] w:=Hp.start (BC.none w);have ⟨eF,eG,eH,eI,eJ,eK⟩:=CA fT fU fV fW fX fY (Bz (Z:=Z) (L:=[]) w);refine cr<|wE (fun st=>BN (v:=.agg (Ay aF aG aA aB aH aI o p s t u x b).toArray) (cs:=(Ay aF aG aA aB aH aI o p s t u x b).toArray) (ee st f6) rfl) ?_;rintro _ w1 ⟨b1,rfl,cF⟩;have h7:=f2.nb cF;have iG:=f2.BJ cF;refine wA (v:=I 0) rfl<|wn<|Af<|cr<|wD (fun st=>Ad (eR st) (ER _ _))<|wD (fun st=>Ba (l:=[.slice aF b.Ak.length aG,.slice aA b.Ab.length aB,.slice aH b.Aw.length aI]) H2 (eR st) cF.bk rfl rfl) ?_;have ⟨cG,cH,cI⟩:=Ez eF eG eH (Az cF);replace a:=bind_some a;obtain⟨eM,h8,a⟩:=a;refine wE (fun st=>Aj U3 (eR st) (Ck (eR st)) (a24 aS (⟨b.Ak,b.Ab,b.Aw⟩:Be) aF aG aA aB aH aI ZA _ cG.all cH.all cI.all eM h8)) ?_;rintro _ i5 ⟨d2,rfl⟩;have cO:=h7.ext d2;refine wA (v:=I eM) rfl<|wr<|wM (v:=I eM) rfl<|wD (fun st=>D1 (eR st) (eR st))<|wn ?_;rcases Ae (eM !=0) with cP|cP
 ·replace a:=An a cP;refine Ah rfl cP<|cr<|wM (v:=I eM) rfl<|wA (v:=I eM) rfl<|wn<|Am<|AG ?_;obtain rfl:=oi a;refine Av rfl rfl ?_;exact⟨cO.Bf,rfl⟩
 ·replace a:=Ao a cP;refine Aq rfl cP<|cn<|Af<|cr<|wD (fun st=>Ad (eR st) (Gl _ _)) ?_;have bF:=(cF.bk.ext d2);refine wD (fun st=>Ag (v:=.slice o b.AB.length p) Hf (eR st) bF rfl)<|wD (fun st=>Br Tryz.underlying63 (eR st))<|wD (fun st=>FI (eR st) (eR st))<|wM (v:=.bool (decide ((3:Int)<(b.AB.length:Int)))) rfl ?_;rcases Ae (decide ((3:Int)<(b.AB.length:Int))) with aV|aV
  ·replace a:=An a aV;refine wF aV<|wF aV<|wF aV<|wF aV<|wD (fun st=>AY (v:=.bool true) (eR st) aV (eR st))<|wM (v:=.bool true) rfl<|wH<|wH<|wH<|wH<|wD (fun st=>AY (v:=.bool true) (eR st) rfl (eR st))<|wn<|Ah rfl rfl<|cr<|wA (v:=I 3) rfl<|wn<|Am<|AG ?_;obtain rfl:=oi a;refine Av rfl rfl ?_;exact⟨cO.Bf,rfl⟩
  ·replace a:=Ao a aV;refine wG aV (fun st=>Ad (eR st) (Gm _ _))<|wG aV (fun st=>Ag (v:=.slice s b.AF.length t) Hg (eR st) bF rfl)<|wG aV (fun st=>Br Tryz.underlying64 (eR st))<|wG aV (fun st=>FI (eR st) (eR st))<|wD (fun st=>Bs (v:=.bool (decide ((3:Int)<(b.AF.length:Int)))) (eR st) aV (eR st))<|wM (v:=.bool (decide ((3:Int)<(b.AF.length:Int)))) rfl ?_;rcases Ae (decide ((3:Int)<(b.AF.length:Int))) with aW|aW
   ·replace a:=An a aW;refine wF aW<|wF aW<|wF aW<|wF aW<|wD (fun st=>AY (v:=.bool true) (eR st) aW (eR st))<|wn<|Ah rfl rfl<|cr<|wA (v:=I 3) rfl<|wn<|Am<|AG ?_;obtain rfl:=oi a;refine Av rfl rfl ?_;exact⟨cO.Bf,rfl⟩
   ·replace a:=Ao a aW;refine wG aW (fun st=>Ad (eR st) (H7 _ _))<|wG aW (fun st=>Ag (v:=.slice u b.AM.length x) IV (eR st) bF rfl)<|wG aW (fun st=>Br Tryz.underlying65 (eR st))<|wG aW (fun st=>FI (eR st) (eR st))<|wD (fun st=>Bs (v:=.bool (decide ((5:Int)<(b.AM.length:Int)))) (eR st) aW (eR st))<|wn ?_;rcases Ae (decide ((5:Int)<(b.AM.length:Int))) with cQ|cQ
    ·replace a:=An a cQ;refine Ah rfl cQ<|cr<|wA (v:=I 3) rfl<|wn<|Am<|AG ?_;obtain rfl:=oi a;refine Av rfl rfl ?_;exact⟨cO.Bf,rfl⟩
    ·replace a:=Ao a cQ;refine Aq rfl cQ<|cn<|Af<|cr<|wD (fun st=>Ad (eR st) (PZ _ _))<|wD (fun st=>Ag (v:=I b.Flat) Bg (eR st) bF rfl) ?_;replace a:=bind_some a;obtain⟨e1,h9,a⟩:=a;refine wE (fun st=>Aj Em (eR st) (Ek (eR st) (eR st) (eR st)) (Ii aS b.Flat 0 100 ZA _ e1 h9)) ?_;rintro _ i6 ⟨d3,rfl⟩;have e2:=cO.ext d3;refine wD (fun st=>Ca (eR st))<|wM (v:=.bool !e1) rfl ?_;rcases Ae (!e1) with aK|aK
     ·replace a:=An a aK;have hP:e1=false:=by simpa using aK
      refine wF aK<|wF aK<|wF aK<|wF aK<|wD (fun st=>AY (v:=.bool true) (eR st) aK (eR st))<|wn<|Ah rfl rfl<|cr<|wA (v:=I 1) rfl<|wn<|Am<|AG ?_;obtain rfl:=oi a;refine Av rfl rfl ?_;exact⟨e2.Bf,rfl⟩
     ·replace a:=Ao a aK;have hQ:e1=true:=by simpa using aK
      refine wG aK (fun st=>Ad (eR st) (Gl _ _)) ?_;have d4:=(bF.ext d3);refine wG aK (fun st=>Ag (v:=.slice o b.AB.length p) Hf (eR st) d4 rfl)<|wG aK (fun st=>Br Tryz.underlying63 (eR st))<|wG aK (fun st=>Dp (eR st) (eR st))<|wD (fun st=>Bs (v:=.bool ((b.AB.length:Int)==0)) (eR st) aK (eR st))<|wn ?_;rcases Ae ((b.AB.length:Int)==0) with bW|bW
      ·replace a:=An a bW;refine Ah rfl bW<|cr<|wA (v:=I 1) rfl<|wn<|Am<|AG ?_;obtain rfl:=oi a;refine Av rfl rfl ?_;exact⟨e2.Bf,rfl⟩
      ·replace a:=Ao a bW;refine Aq rfl bW<|cn<|Af<|cr<|wA (v:=I 0) rfl<|wn<|AI ?_;replace a:=bind_some a;obtain⟨e3,bG,a⟩:=a;refine BY (fun bX z m=>(bX=.ret∧∃bH,e3=.inl bH∧Fo X0 149 z∧sl z 2=I bH∧Hp FN [] w [some b1] m)∨(bX=.exit 0∧∃bH,e3=.inr bH∧Fo X0 149 z∧sl z 1=pt b1 0∧Hp FN [] w [some b1] m∧Bk m b1 67 (Ay aF aG aA aB aH aI o p s t u x b).toArray∧(fun aE=>Sl AA m aE aF aG b.Ak∧Sl (BH (Ai .i64)) m aE aA aB b.Ab∧Sl AH m aE aH aI b.Aw∧Sl AZ m aE o p b.AB∧Sl Bb m aE s t b.AF∧Sl Bq m aE u x b.AM) (zf Z w [some b1]))) ?f7 ?f8
       case f7=>
        clear a;refine BX (fun bU z m=>∃e,D0 aS b bU e=some e3∧Fo X0 149 z∧sl z 1=pt b1 0∧sl z 4=I e∧Hp FN [] w [some b1] m∧Bk m b1 67 (Ay aF aG aA aB aH aI o p s t u x b).toArray∧(fun aE=>Sl AA m aE aF aG b.Ak∧Sl (BH (Ai .i64)) m aE aA aB b.Ab∧Sl AH m aE aH aI b.Aw∧Sl AZ m aE o p b.AB∧Sl Bb m aE s t b.AF∧Sl Bq m aE u x b.AM) (zf Z w [some b1])) aS ?f9 ?gA
        case f9=>
         intro st;have ⟨eN,eO,eP⟩:=Ez cG cH cI (mt (Ac d2) (Ac d3));have ⟨eQ,eS,eT⟩:=Ez eI eJ eK (mt (Az cF) (mt (Ac d2) (Ac d3)));exact⟨(0:Int),bG,qo st,sp st 1 rfl,sp st 4 rfl,e2,d4,eN,eO,eP,eQ,eS,eT⟩
        case gA=>
         rintro(_|bU) iK iL ⟨e,bG,fZ,aQ,aJ,e4,aX,a0,a2,a3,aU,a4,a5⟩
         ·exact absurd (show none=some _ from bG) (by simp)
         rw[D0.eq_2] at bG;have a:=bG;clear bG;refine ro fZ<|Af<|cr<|wM (v:=I e) aJ<|wD (fun st=>Ad (ee st aQ) (Gl _ _))<|wD (fun st=>Ag (v:=.slice o b.AB.length p) Hf (eR st) aX rfl)<|wD (fun st=>Br Tryz.underlying63 (eR st))<|wD (fun st=>B9 (eR st) (eR st))<|wn ?_;rcases Ae (decide (e<(b.AB.length:Int))) with bY|bY
         ·replace a:=An a bY;refine Ah rfl bY<|cn<|Af<|AI<|cr<|wD (fun st=>Ad (ee st aQ) (Gl _ _))<|wD (fun st=>Ag (v:=.slice o b.AB.length p) Hf (eR st) aX rfl)<|wM (v:=I e) aJ ?_;replace a:=AT a;obtain⟨i16,g,gB,gC,gD,a⟩:=a;obtain⟨iV,iW,_,gE,rfl,gF⟩:=Sl.elem aU (by decide) gC;refine wD (fun st=>Bu (k:=i16) Tryz.underlying63 JG (eR st) gE (eR st) gB gD)<|wD (fun st=>CK (l:=[I g.AV,I g.B4]) Y7 (eR st) gF rfl rfl)<|wE (fun st=>B8 (cs:= #[I 0,I 0]) Wg rfl) ?_;rintro _ iX ⟨aZ,rfl,aY⟩;have bZ:=e4.nb aY;have iA:=e4.BJ aY;refine BI rfl rfl (fun st=>By (n:=2) (l:=[I g.AV,I g.B4]) (CB:= #[I g.AV,I g.B4]) (eR st) (eR st) JG aY.bk rfl rfl (show 0+2≤2 by decide) (Bh rfl) rfl) ?_;rintro _ iY y;have cR:=bZ.gr y.gr 0 rfl;refine wn<|Af ?_;replace a:=bind_some a;obtain⟨aC,b4,a⟩:=a;rcases Ae (!aC) with f|f
          ·replace a:=An a f;have hR:aC=false:=by simpa using f
           refine BU 34 [Kc (pt aZ 0),Kc (I g.AV),Kc (.bool aC),Kc (.bool !aC),Kc (.bool !aC),Kc undef,Kc undef,Kc undef,Kc undef,Kc (.bool true),Kc (.bool true),Kc undef,Kc undef,Kc undef,Kc undef,Kc undef,Kc undef,Kc undef,Kc undef,Kc undef,Kc undef,Kc undef,Kc undef,Kc undef,Kc undef,Kc undef,Kc undef,Kc undef,Kc undef,Kc undef,Kc undef,Kc undef,Kc undef,Kc undef] mixed rfl rfl
               (Aa (oD (fun K=>Ad (K.kO 5) (Kj _ _)))
               (Aa (oD (fun K=>Ag Bg (es (K.dq 0 52)) (y.bk.ext K.AQ) rfl))
               (Aa (oE (fun K=>(Aj Em rfl (Ek (es (K.dq 1 53)) (ec (v:=I 0)) (ec (v:=I 100))) (Ii aS g.AV 0 100 ZA _ aC b4)).mono (fun _ _ h=>⟨h.2,h.1⟩)))
               (Aa (oD (fun K=>Ca (es (K.dq 2 54))))
               (Aa (oD (fun K=>Au (es (K.dq 3 55))))
               (Aa (oT f)
               (Aa (oT f)
               (Aa (oT f)
               (Aa (oT f)
               (Aa (oD (fun K=>AY (es (K.dq 4 56)) f (ec (v:=.bool true))))
               (Aa (oD (fun K=>Au (es (K.dq 9 61))))
               (Aa (oS (c:=true) (fun a' w' ph K=>(show sl a' 62=.bool true from K.dq 10 62)))
               (Aa (oS (c:=true) (fun a' w' ph K=>(show sl a' 62=.bool true from K.dq 10 62)))
               (Aa (oS (c:=true) (fun a' w' ph K=>(show sl a' 62=.bool true from K.dq 10 62)))
               (Aa (oU)
               (Aa (oU)
               (Aa (oU)
               (Aa (oU)
               (Aa (oU)
               (Aa (oU)
               (Aa (oU)
               (Aa (oU)
               (Aa (oU)
               (Aa (oU)
               (Aa (oU)
               (Aa (oU)
               (Aa (oU)
               (Aa (oU)
               (Aa (oU)
               (Aa (oU)
               (Aa (oU)
               (Aa (oU)
               (Aa (oU)
               (Aa (oU)
               (BS _))))))))))))))))))))))))))))))))))) ?_
           intro d5;rintro _ rfl _ rfl _ rfl _ rfl _ rfl _ rfl _ rfl _ rfl _ rfl _ rfl _ rfl _ rfl _ rfl _ rfl _ rfl _ rfl _ rfl _ rfl _ rfl _ rfl _ rfl _ rfl _ rfl _ rfl _ rfl _ rfl _ rfl _ rfl _ rfl _ rfl _ rfl _ rfl _ rfl _ rfl aL;have iB:=cR.ext aL;refine Kk rfl rfl rfl rfl (by decide)<|Kk rfl rfl rfl rfl (by decide)<|wH<|wD (fun st=>AY (v:=.bool true) (eR st) rfl (eR st))<|wn<|Ah rfl rfl<|cr<|wA (v:=I 1) rfl<|wn<|Am<|CN<|AG ?_;have iC:=iB.erase 0;obtain rfl:=oi a;refine BF (fun st=>?_);exact .inl ⟨rfl,(1:Int),rfl,qo st,sp st 2 rfl,iC⟩
          ·replace a:=Ao a f;have hS:aC=true:=by simpa using f
           replace a:=bind_some a;obtain⟨aD,cJ,a⟩:=a;rcases Ae (!aD) with i|i
           ·replace a:=An a i;have hT:aD=false:=by simpa using i
            refine BU 34 [Kc (pt aZ 0),Kc (I g.AV),Kc (.bool aC),Kc (.bool !aC),Kc (.bool !aC),Kc (pt aZ 1),Kc (I g.B4),Kc (.bool aD),Kc (.bool !aD),Kc (.bool !aD),Kc (.bool !aD),Kc undef,Kc undef,Kc undef,Kc undef,Kc undef,Kc undef,Kc undef,Kc undef,Kc undef,Kc undef,Kc undef,Kc undef,Kc undef,Kc undef,Kc undef,Kc undef,Kc undef,Kc undef,Kc undef,Kc undef,Kc undef,Kc undef,Kc undef] mixed rfl rfl
                (Aa (oD (fun K=>Ad (K.kO 5) (Kj _ _)))
                (Aa (oD (fun K=>Ag Bg (es (K.dq 0 52)) (y.bk.ext K.AQ) rfl))
                (Aa (oE (fun K=>(Aj Em rfl (Ek (es (K.dq 1 53)) (ec (v:=I 0)) (ec (v:=I 100))) (Ii aS g.AV 0 100 ZA _ aC b4)).mono (fun _ _ h=>⟨h.2,h.1⟩)))
                (Aa (oD (fun K=>Ca (es (K.dq 2 54))))
                (Aa (oD (fun K=>Au (es (K.dq 3 55))))
                (Aa (oG f (fun K=>Ad (K.kO 5) (LU _ _)))
                (Aa (oG f (fun K=>Ag Bg (es (K.dq 5 57)) (y.bk.ext K.AQ) rfl))
                (Aa (oX f (fun K=>(Aj Em rfl (Ek (es (K.dq 6 58)) (ec (v:=I 0)) (ec (v:=I 100))) (Ii aS g.B4 0 100 ZA _ aD cJ)).mono (fun _ _ h=>⟨h.2,h.1⟩)))
                (Aa (oG f (fun K=>Ca (es (K.dq 7 59))))
                (Aa (oD (fun K=>Bs (es (K.dq 4 56)) f (es (K.dq 8 60))))
                (Aa (oD (fun K=>Au (es (K.dq 9 61))))
                (Aa (oT i)
                (Aa (oT i)
                (Aa (oT i)
                (Aa (oU)
                (Aa (oU)
                (Aa (oU)
                (Aa (oU)
                (Aa (oU)
                (Aa (oU)
                (Aa (oU)
                (Aa (oU)
                (Aa (oU)
                (Aa (oU)
                (Aa (oU)
                (Aa (oU)
                (Aa (oU)
                (Aa (oU)
                (Aa (oU)
                (Aa (oU)
                (Aa (oU)
                (Aa (oU)
                (Aa (oU)
                (Aa (oU)
                (BS _))))))))))))))))))))))))))))))))))) ?_
            intro d5;rintro _ rfl _ rfl _ rfl _ rfl _ rfl _ rfl _ rfl _ rfl _ rfl _ rfl _ rfl _ rfl _ rfl _ rfl _ rfl _ rfl _ rfl _ rfl _ rfl _ rfl _ rfl _ rfl _ rfl _ rfl _ rfl _ rfl _ rfl _ rfl _ rfl _ rfl _ rfl _ rfl _ rfl _ rfl aL;have iD:=cR.ext aL;refine Kk rfl rfl rfl rfl (by decide)<|Kk rfl rfl rfl rfl (by decide)<|wF i<|wD (fun st=>AY (v:=.bool true) (eR st) i (eR st))<|wn<|Ah rfl rfl<|cr<|wA (v:=I 1) rfl<|wn<|Am<|CN<|AG ?_;have gG:=iD.erase 0;obtain rfl:=oi a;refine BF (fun st=>?_);exact .inl ⟨rfl,(1:Int),rfl,qo st,sp st 2 rfl,gG⟩
           ·replace a:=Ao a i;have hU:aD=true:=by simpa using i
            rcases Ae (decide ((0:Int)<e)) with d|d
            ·replace a:=An a d;have bV:=((aX.ext aY.gr).gr y.gr (bZ.nq 1 0));replace a:=AL a;obtain⟨e5,a⟩:=a;replace a:=AT a;obtain⟨i30,b5,e6,gH,e7,a⟩:=a;have bI:=((aU.mv (Az aY)).mv (bZ.BA y.gr 0 rfl));obtain⟨d6,d7,_,e8,rfl,e9⟩:=Sl.elem bI (by decide) gH;rcases Ae (decide (b5.AV≤g.AV)) with j|j
             ·replace a:=An a j;refine BU 34 [Kc (pt aZ 0),Kc (I g.AV),Kc (.bool aC),Kc (.bool !aC),Kc (.bool !aC),Kc (pt aZ 1),Kc (I g.B4),Kc (.bool aD),Kc (.bool !aD),Kc (.bool !aD),Kc (.bool !aD),Kc (I e),Kc (.bool (decide ((0:Int)<e))),Kc (.bool (decide ((0:Int)<e))),Kc (pt aZ 0),Kc (I g.AV),Kc (pt b1 4),Kc (.slice o b.AB.length p),Kc (I e),Kc (I (e-1)),Kc (pt d6 (d7+i30*2)),Kc (pt d6 (d7+i30*2)),Kc (I b5.AV),Kc (.bool (decide (b5.AV≤g.AV))),Kc (.bool (decide (b5.AV≤g.AV))),Kc undef,Kc undef,Kc undef,Kc undef,Kc undef,Kc undef,Kc undef,Kc undef,Kc undef] mixed rfl rfl
                  (Aa (oD (fun K=>Ad (K.kO 5) (Kj _ _)))
                  (Aa (oD (fun K=>Ag Bg (es (K.dq 0 52)) (y.bk.ext K.AQ) rfl))
                  (Aa (oE (fun K=>(Aj Em rfl (Ek (es (K.dq 1 53)) (ec (v:=I 0)) (ec (v:=I 100))) (Ii aS g.AV 0 100 ZA _ aC b4)).mono (fun _ _ h=>⟨h.2,h.1⟩)))
                  (Aa (oD (fun K=>Ca (es (K.dq 2 54))))
                  (Aa (oD (fun K=>Au (es (K.dq 3 55))))
                  (Aa (oG f (fun K=>Ad (K.kO 5) (LU _ _)))
                  (Aa (oG f (fun K=>Ag Bg (es (K.dq 5 57)) (y.bk.ext K.AQ) rfl))
                  (Aa (oX f (fun K=>(Aj Em rfl (Ek (es (K.dq 6 58)) (ec (v:=I 0)) (ec (v:=I 100))) (Ii aS g.B4 0 100 ZA _ aD cJ)).mono (fun _ _ h=>⟨h.2,h.1⟩)))
                  (Aa (oG f (fun K=>Ca (es (K.dq 7 59))))
                  (Aa (oD (fun K=>Bs (es (K.dq 4 56)) f (es (K.dq 8 60))))
                  (Aa (oD (fun K=>Au (es (K.dq 9 61))))
                  (Aa (oG i (fun K=>Au (es ((K.out 4 rfl).trans aJ))))
                  (Aa (oG i (fun K=>FI (es (K.dq 11 63)) (ec (v:=I 0))))
                  (Aa (oG i (fun K=>Au (es (K.dq 12 64))))
                  (Aa (oG d (fun K=>Ad (K.kO 5) (Kj _ _)))
                  (Aa (oG d (fun K=>Ag Bg (es (K.dq 14 66)) (y.bk.ext K.AQ) rfl))
                  (Aa (oG d (fun K=>Ad (es ((K.out 1 rfl).trans aQ)) (Gl _ _)))
                  (Aa (oG d (fun K=>Ag Hf (es (K.dq 16 68)) (bV.ext K.AQ) rfl))
                  (Aa (oG d (fun K=>Au (es ((K.out 4 rfl).trans aJ))))
                  (Aa (oG d (fun K=>Ej (es (K.dq 18 70)) (ec (v:=I 1)) e5))
                  (Aa (oG d (fun K=>Bu (k:=i30) Tryz.underlying63 JG (es (K.dq 17 69)) e8 (es (K.dq 19 71)) e6 e7))
                  (Aa (oG d (fun K=>Ad (es (K.dq 20 72)) (KW _ _ _)))
                  (Aa (oG d (fun K=>Bp Bg (es (K.dq 21 73)) (e9.mv (Ac K.AQ)) rfl))
                  (Aa (oG d (fun K=>IZ (es (K.dq 15 67)) (es (K.dq 22 74))))
                  (Aa (oG d (fun K=>Au (es (K.dq 23 75))))
                  (Aa (oT j)
                  (Aa (oT j)
                  (Aa (oT j)
                  (Aa (oT j)
                  (Aa (oT j)
                  (Aa (oT j)
                  (Aa (oT j)
                  (Aa (oT j)
                  (Aa (oT j)
                  (BS _))))))))))))))))))))))))))))))))))) ?_
              intro d5;rintro _ rfl _ rfl _ rfl _ rfl _ rfl _ rfl _ rfl _ rfl _ rfl _ rfl _ rfl _ rfl _ rfl _ rfl _ rfl _ rfl _ rfl _ rfl _ rfl _ rfl _ rfl _ rfl _ rfl _ rfl _ rfl _ rfl _ rfl _ rfl _ rfl _ rfl _ rfl _ rfl _ rfl _ rfl aL;have gI:=cR.ext aL;refine wF j<|wG d (fun st=>AY (v:=.bool true) (eR st) j (eR st))<|wG i (fun st=>AY (v:=.bool true) (eR st) d (eR st))<|wD (fun st=>Bs (v:=.bool true) (eR st) i (eR st))<|wn<|Ah rfl rfl<|cr<|wA (v:=I 1) rfl<|wn<|Am<|CN<|AG ?_;have gJ:=gI.erase 0;obtain rfl:=oi a;refine BF (fun st=>?_);exact .inl ⟨rfl,(1:Int),rfl,qo st,sp st 2 rfl,gJ⟩
             ·replace a:=Ao a j;replace a:=AL a;obtain⟨gK,a⟩:=a;replace a:=AT a;obtain⟨i33,cS,gL,gM,gN,a⟩:=a;obtain⟨f3,f4,_,gO,rfl,gP⟩:=Sl.elem bI (by decide) gM;refine BU 34 [Kc (pt aZ 0),Kc (I g.AV),Kc (.bool aC),Kc (.bool !aC),Kc (.bool !aC),Kc (pt aZ 1),Kc (I g.B4),Kc (.bool aD),Kc (.bool !aD),Kc (.bool !aD),Kc (.bool !aD),Kc (I e),Kc (.bool (decide ((0:Int)<e))),Kc (.bool (decide ((0:Int)<e))),Kc (pt aZ 0),Kc (I g.AV),Kc (pt b1 4),Kc (.slice o b.AB.length p),Kc (I e),Kc (I (e-1)),Kc (pt d6 (d7+i30*2)),Kc (pt d6 (d7+i30*2)),Kc (I b5.AV),Kc (.bool (decide (b5.AV≤g.AV))),Kc (.bool (decide (b5.AV≤g.AV))),Kc (pt aZ 1),Kc (I g.B4),Kc (pt b1 4),Kc (.slice o b.AB.length p),Kc (I e),Kc (I (e-1)),Kc (pt f3 (f4+i33*2)),Kc (pt f3 (f4+i33*2+1)),Kc (I cS.B4)] mixed rfl rfl
                  (Aa (oD (fun K=>Ad (K.kO 5) (Kj _ _)))
                  (Aa (oD (fun K=>Ag Bg (es (K.dq 0 52)) (y.bk.ext K.AQ) rfl))
                  (Aa (oE (fun K=>(Aj Em rfl (Ek (es (K.dq 1 53)) (ec (v:=I 0)) (ec (v:=I 100))) (Ii aS g.AV 0 100 ZA _ aC b4)).mono (fun _ _ h=>⟨h.2,h.1⟩)))
                  (Aa (oD (fun K=>Ca (es (K.dq 2 54))))
                  (Aa (oD (fun K=>Au (es (K.dq 3 55))))
                  (Aa (oG f (fun K=>Ad (K.kO 5) (LU _ _)))
                  (Aa (oG f (fun K=>Ag Bg (es (K.dq 5 57)) (y.bk.ext K.AQ) rfl))
                  (Aa (oX f (fun K=>(Aj Em rfl (Ek (es (K.dq 6 58)) (ec (v:=I 0)) (ec (v:=I 100))) (Ii aS g.B4 0 100 ZA _ aD cJ)).mono (fun _ _ h=>⟨h.2,h.1⟩)))
                  (Aa (oG f (fun K=>Ca (es (K.dq 7 59))))
                  (Aa (oD (fun K=>Bs (es (K.dq 4 56)) f (es (K.dq 8 60))))
                  (Aa (oD (fun K=>Au (es (K.dq 9 61))))
                  (Aa (oG i (fun K=>Au (es ((K.out 4 rfl).trans aJ))))
                  (Aa (oG i (fun K=>FI (es (K.dq 11 63)) (ec (v:=I 0))))
                  (Aa (oG i (fun K=>Au (es (K.dq 12 64))))
                  (Aa (oG d (fun K=>Ad (K.kO 5) (Kj _ _)))
                  (Aa (oG d (fun K=>Ag Bg (es (K.dq 14 66)) (y.bk.ext K.AQ) rfl))
                  (Aa (oG d (fun K=>Ad (es ((K.out 1 rfl).trans aQ)) (Gl _ _)))
                  (Aa (oG d (fun K=>Ag Hf (es (K.dq 16 68)) (bV.ext K.AQ) rfl))
                  (Aa (oG d (fun K=>Au (es ((K.out 4 rfl).trans aJ))))
                  (Aa (oG d (fun K=>Ej (es (K.dq 18 70)) (ec (v:=I 1)) e5))
                  (Aa (oG d (fun K=>Bu (k:=i30) Tryz.underlying63 JG (es (K.dq 17 69)) e8 (es (K.dq 19 71)) e6 e7))
                  (Aa (oG d (fun K=>Ad (es (K.dq 20 72)) (KW _ _ _)))
                  (Aa (oG d (fun K=>Bp Bg (es (K.dq 21 73)) (e9.mv (Ac K.AQ)) rfl))
                  (Aa (oG d (fun K=>IZ (es (K.dq 15 67)) (es (K.dq 22 74))))
                  (Aa (oG d (fun K=>Au (es (K.dq 23 75))))
                  (Aa (oG j (fun K=>Ad (K.kO 5) (LU _ _)))
                  (Aa (oG j (fun K=>Ag Bg (es (K.dq 25 77)) (y.bk.ext K.AQ) rfl))
                  (Aa (oG j (fun K=>Ad (es ((K.out 1 rfl).trans aQ)) (Gl _ _)))
                  (Aa (oG j (fun K=>Ag Hf (es (K.dq 27 79)) (bV.ext K.AQ) rfl))
                  (Aa (oG j (fun K=>Au (es ((K.out 4 rfl).trans aJ))))
                  (Aa (oG j (fun K=>Ej (es (K.dq 29 81)) (ec (v:=I 1)) gK))
                  (Aa (oG j (fun K=>Bu (k:=i33) Tryz.underlying63 JG (es (K.dq 28 80)) gO (es (K.dq 30 82)) gL gN))
                  (Aa (oG j (fun K=>Ad (es (K.dq 31 83)) (OD _ _ _)))
                  (Aa (oG j (fun K=>DO Bg (es (K.dq 32 84)) (gP.mv (Ac K.AQ)) rfl))
                  (BS _))))))))))))))))))))))))))))))))))) ?_
              intro d5;rintro _ rfl _ rfl _ rfl _ rfl _ rfl _ rfl _ rfl _ rfl _ rfl _ rfl _ rfl _ rfl _ rfl _ rfl _ rfl _ rfl _ rfl _ rfl _ rfl _ rfl _ rfl _ rfl _ rfl _ rfl _ rfl _ rfl _ rfl _ rfl _ rfl _ rfl _ rfl _ rfl _ rfl _ rfl aL;have fA:=cR.ext aL;refine wG j (fun st=>FI (eR st) (eR st))<|wG d (fun st=>Bs (v:=.bool (decide (cS.B4<g.B4))) (eR st) j (eR st))<|wG i (fun st=>AY (v:=.bool (decide (cS.B4<g.B4))) (eR st) d (eR st))<|wD (fun st=>Bs (v:=.bool (decide (cS.B4<g.B4))) (eR st) i (eR st))<|wn ?_;rcases Ae (decide (cS.B4<g.B4)) with b6|b6
              ·replace a:=An a b6;refine Ah rfl b6<|cr<|wA (v:=I 1) rfl<|wn<|Am<|CN<|AG ?_;have gQ:=fA.erase 0;obtain rfl:=oi a;refine BF (fun st=>?_);exact .inl ⟨rfl,(1:Int),rfl,qo st,sp st 2 rfl,gQ⟩
              ·replace a:=Ao a b6;refine Aq rfl b6<|Cp<|CU<|Al<|wM (v:=I e) aJ ?_;replace a:=AL a;obtain⟨gR,a⟩:=a;refine wD (fun st=>BL (eR st) (eR st) gR)<|wA (v:=I (e+1)) rfl<|Bj ?_;have gS:=fA.erase 0;have fB:=(bV.ext aL);have ⟨dC,dD,dE⟩:=Ez a0 a2 a3 (mt (Az aY) (mt (bZ.BA y.gr 0 rfl) (mt (Ac aL) (AD 0))));have dF:=((bI.mv (Ac aL)).mv (AD 0));have ⟨dG,dH⟩:=LO a4 a5 (mt (Az aY) (mt (bZ.BA y.gr 0 rfl) (mt (Ac aL) (AD 0))));refine Bv bU (Nat.lt_succ_self _) (fun st=>?_);exact⟨(e+1),a,qo st,sp st 1 aQ,sp st 4 rfl,gS,fB,dC,dD,dE,dF,dG,dH⟩
            ·replace a:=Ao a d;refine BU 34 [Kc (pt aZ 0),Kc (I g.AV),Kc (.bool aC),Kc (.bool !aC),Kc (.bool !aC),Kc (pt aZ 1),Kc (I g.B4),Kc (.bool aD),Kc (.bool !aD),Kc (.bool !aD),Kc (.bool !aD),Kc (I e),Kc (.bool (decide ((0:Int)<e))),Kc (.bool (decide ((0:Int)<e))),Kc undef,Kc undef,Kc undef,Kc undef,Kc undef,Kc undef,Kc undef,Kc undef,Kc undef,Kc undef,Kc undef,Kc undef,Kc undef,Kc undef,Kc undef,Kc undef,Kc undef,Kc undef,Kc undef,Kc undef] mixed rfl rfl
                 (Aa (oD (fun K=>Ad (K.kO 5) (Kj _ _)))
                 (Aa (oD (fun K=>Ag Bg (es (K.dq 0 52)) (y.bk.ext K.AQ) rfl))
                 (Aa (oE (fun K=>(Aj Em rfl (Ek (es (K.dq 1 53)) (ec (v:=I 0)) (ec (v:=I 100))) (Ii aS g.AV 0 100 ZA _ aC b4)).mono (fun _ _ h=>⟨h.2,h.1⟩)))
                 (Aa (oD (fun K=>Ca (es (K.dq 2 54))))
                 (Aa (oD (fun K=>Au (es (K.dq 3 55))))
                 (Aa (oG f (fun K=>Ad (K.kO 5) (LU _ _)))
                 (Aa (oG f (fun K=>Ag Bg (es (K.dq 5 57)) (y.bk.ext K.AQ) rfl))
                 (Aa (oX f (fun K=>(Aj Em rfl (Ek (es (K.dq 6 58)) (ec (v:=I 0)) (ec (v:=I 100))) (Ii aS g.B4 0 100 ZA _ aD cJ)).mono (fun _ _ h=>⟨h.2,h.1⟩)))
                 (Aa (oG f (fun K=>Ca (es (K.dq 7 59))))
                 (Aa (oD (fun K=>Bs (es (K.dq 4 56)) f (es (K.dq 8 60))))
                 (Aa (oD (fun K=>Au (es (K.dq 9 61))))
                 (Aa (oG i (fun K=>Au (es ((K.out 4 rfl).trans aJ))))
                 (Aa (oG i (fun K=>FI (es (K.dq 11 63)) (ec (v:=I 0))))
                 (Aa (oG i (fun K=>Au (es (K.dq 12 64))))
                 (Aa (oT d)
                 (Aa (oT d)
                 (Aa (oT d)
                 (Aa (oT d)
                 (Aa (oT d)
                 (Aa (oT d)
                 (Aa (oT d)
                 (Aa (oT d)
                 (Aa (oT d)
                 (Aa (oT d)
                 (Aa (oT d)
                 (Aa (oU)
                 (Aa (oU)
                 (Aa (oU)
                 (Aa (oU)
                 (Aa (oU)
                 (Aa (oU)
                 (Aa (oU)
                 (Aa (oU)
                 (Aa (oU)
                 (BS _))))))))))))))))))))))))))))))))))) ?_
             intro d5;rintro _ rfl _ rfl _ rfl _ rfl _ rfl _ rfl _ rfl _ rfl _ rfl _ rfl _ rfl _ rfl _ rfl _ rfl _ rfl _ rfl _ rfl _ rfl _ rfl _ rfl _ rfl _ rfl _ rfl _ rfl _ rfl _ rfl _ rfl _ rfl _ rfl _ rfl _ rfl _ rfl _ rfl _ rfl aL;have gT:=cR.ext aL;refine Kk rfl rfl rfl rfl (by decide)<|wF d<|wG i (fun st=>Bs (v:=.bool false) (eR st) d (eR st))<|wD (fun st=>Bs (v:=.bool false) (eR st) i (eR st))<|wn<|Aq rfl rfl<|Cp<|CU<|Al<|wM (v:=I e) aJ ?_;replace a:=AL a;obtain⟨gU,a⟩:=a;refine wD (fun st=>BL (eR st) (eR st) gU)<|wA (v:=I (e+1)) rfl<|Bj ?_;have gV:=gT.erase 0;have fC:=(((aX.ext aY.gr).gr y.gr (bZ.nq 1 0)).ext aL);have ⟨dI,dJ,dK,dL,dM,dN⟩:=CA a0 a2 a3 aU a4 a5 (mt (Az aY) (mt (bZ.BA y.gr 0 rfl) (mt (Ac aL) (AD 0))));refine Bv bU (Nat.lt_succ_self _) (fun st=>?_);exact⟨(e+1),a,qo st,sp st 1 aQ,sp st 4 rfl,gV,fC,dI,dJ,dK,dL,dM,dN⟩
         ·replace a:=Ao a bY;refine Aq rfl bY<|DG ?_;obtain rfl:=oi a;refine BF (fun st=>?_);exact .inr ⟨rfl,(),rfl,qo st,sp st 1 aQ,e4,aX,a0,a2,a3,aU,a4,a5⟩
       case f8=>
        rintro bX iH iM (⟨rfl,bH,rfl,b7,eU,cK⟩|⟨rfl,bH,rfl,b7,eV,cK,eW,cT,cU,cV,cW,cX,cY⟩)
        ·skip
         replace a:=C4 a;refine lf b7<|CN ?_;obtain rfl:=oi a;refine Av rfl eU ?_;exact⟨cK.Bf,rfl⟩
        ·skip
         replace a:=C5 a;refine lf b7<|Bd<|BM<|Af<|cr<|wA (v:=I 0) rfl<|wn<|AI ?_;replace a:=bind_some a;obtain⟨z37,bJ,a⟩:=a;refine BY (fun bX z m=>(bX=.ret∧∃bK,z37=.inl bK∧Fo X0 149 z∧sl z 2=I bK∧Hp FN [] w [some b1] m)∨(bX=.exit 2∧∃bK,z37=.inr bK∧Fo X0 149 z∧sl z 1=pt b1 0∧Hp FN [] w [some b1] m∧Bk m b1 67 (Ay aF aG aA aB aH aI o p s t u x b).toArray∧(fun aE=>Sl AA m aE aF aG b.Ak∧Sl (BH (Ai .i64)) m aE aA aB b.Ab∧Sl AH m aE aH aI b.Aw∧Sl AZ m aE o p b.AB∧Sl Bb m aE s t b.AF∧Sl Bq m aE u x b.AM) (zf Z w [some b1]))) ?gW ?gX
         case gW=>
          clear a;refine BX (fun bU z m=>∃aN,C0 aS b bU aN=some z37∧Fo X0 149 z∧sl z 1=pt b1 0∧sl z 6=I aN∧Hp FN [] w [some b1] m∧Bk m b1 67 (Ay aF aG aA aB aH aI o p s t u x b).toArray∧(fun aE=>Sl AA m aE aF aG b.Ak∧Sl (BH (Ai .i64)) m aE aA aB b.Ab∧Sl AH m aE aH aI b.Aw∧Sl AZ m aE o p b.AB∧Sl Bb m aE s t b.AF∧Sl Bq m aE u x b.AM) (zf Z w [some b1])) aS ?gY ?gZ
          case gY=>
           intro st;exact⟨(0:Int),bJ,qo st,sp st 1 eV,sp st 6 rfl,cK,eW,cT,cU,cV,cW,cX,cY⟩
          case gZ=>
           rintro(_|bU) iN iO ⟨aN,bJ,f0,aR,a7,dO,aM,bO,bP,bQ,bR,a8,bS⟩
           ·exact absurd (show none=some _ from bJ) (by simp)
           rw[C0.eq_2] at bJ;have a:=bJ;clear bJ;refine ro f0<|Af<|cr<|wM (v:=I aN) a7<|wD (fun st=>Ad (ee st aR) (Gm _ _))<|wD (fun st=>Ag (v:=.slice s b.AF.length t) Hg (eR st) aM rfl)<|wD (fun st=>Br Tryz.underlying64 (eR st))<|wD (fun st=>B9 (eR st) (eR st))<|wn ?_;rcases Ae (decide (aN<(b.AF.length:Int))) with b8|b8
           ·replace a:=An a b8;refine Ah rfl b8<|cn<|Af<|AI<|Af ?_;replace a:=AT a;obtain⟨i40,d8,fD,g0,fE,a⟩:=a;obtain⟨d9,eA,_,fF,rfl,fG⟩:=Sl.elem a8 (by decide) g0;replace a:=AL a;obtain⟨fH,a⟩:=a;replace a:=bind_some a;obtain⟨a9,fI,a⟩:=a;rcases Ae (!a9) with q|q
            ·replace a:=An a q;have hV:a9=false:=by simpa using q
             refine BU 16 [Kc (pt b1 5),Kc (.slice s b.AF.length t),Kc (I aN),Kc (pt d9 (eA+i40*2)),Kc (pt d9 (eA+i40*2)),Kc (I d8.Cw),Kc (pt b1 4),Kc (.slice o b.AB.length p),Kc (I (b.AB.length:Int)),Kc (I ((b.AB.length:Int)-1)),Kc (.bool a9),Kc (.bool !a9),Kc (.bool !a9),Kc undef,Kc undef,Kc undef] mixed rfl rfl
                 (Aa (oD (fun K=>Ad (es ((K.out 1 rfl).trans aR)) (Gm _ _)))
                 (Aa (oD (fun K=>Ag Hg (es (K.dq 0 97)) (aM.ext K.AQ) rfl))
                 (Aa (oD (fun K=>Au (es ((K.out 6 rfl).trans a7))))
                 (Aa (oD (fun K=>Bu (k:=i40) Tryz.underlying64 JH (es (K.dq 1 98)) fF (es (K.dq 2 99)) fD fE))
                 (Aa (oD (fun K=>Ad (es (K.dq 3 100)) (LW _ _ _)))
                 (Aa (oD (fun K=>Bp Bg (es (K.dq 4 101)) (fG.mv (Ac K.AQ)) rfl))
                 (Aa (oD (fun K=>Ad (es ((K.out 1 rfl).trans aR)) (Gl _ _)))
                 (Aa (oD (fun K=>Ag Hf (es (K.dq 6 103)) (aM.ext K.AQ) rfl))
                 (Aa (oD (fun K=>Br Tryz.underlying63 (es (K.dq 7 104))))
                 (Aa (oD (fun K=>Ej (es (K.dq 8 105)) (ec (v:=I 1)) fH))
                 (Aa (oE (fun K=>(Aj Em rfl (Ek (es (K.dq 5 102)) (ec (v:=I 0)) (es (K.dq 9 106))) (Ii aS d8.Cw 0 ((b.AB.length:Int)-1) ZA _ a9 fI)).mono (fun _ _ h=>⟨h.2,h.1⟩)))
                 (Aa (oD (fun K=>Ca (es (K.dq 10 107))))
                 (Aa (oD (fun K=>Au (es (K.dq 11 108))))
                 (Aa (oT q)
                 (Aa (oT q)
                 (Aa (oT q)
                 (BS _))))))))))))))))) ?_
             intro iE;rintro _ rfl _ rfl _ rfl _ rfl _ rfl _ rfl _ rfl _ rfl _ rfl _ rfl _ rfl _ rfl _ rfl _ rfl _ rfl _ rfl bC;have g1:=dO.ext bC;refine wF q<|wF q<|wF q<|wF q<|wF q<|wD (fun st=>AY (v:=.bool true) (eR st) q (eR st))<|wn<|Ah rfl rfl<|cr<|wA (v:=I 1) rfl<|wn<|Am<|CN<|AG ?_;obtain rfl:=oi a;refine BF (fun st=>?_);exact .inl ⟨rfl,(1:Int),rfl,qo st,sp st 2 rfl,g1⟩
            ·replace a:=Ao a q;have hW:a9=true:=by simpa using q
             refine BU 16 [Kc (pt b1 5),Kc (.slice s b.AF.length t),Kc (I aN),Kc (pt d9 (eA+i40*2)),Kc (pt d9 (eA+i40*2)),Kc (I d8.Cw),Kc (pt b1 4),Kc (.slice o b.AB.length p),Kc (I (b.AB.length:Int)),Kc (I ((b.AB.length:Int)-1)),Kc (.bool a9),Kc (.bool !a9),Kc (.bool !a9),Kc (pt b1 5),Kc (.slice s b.AF.length t),Kc (I aN)] mixed rfl rfl
                 (Aa (oD (fun K=>Ad (es ((K.out 1 rfl).trans aR)) (Gm _ _)))
                 (Aa (oD (fun K=>Ag Hg (es (K.dq 0 97)) (aM.ext K.AQ) rfl))
                 (Aa (oD (fun K=>Au (es ((K.out 6 rfl).trans a7))))
                 (Aa (oD (fun K=>Bu (k:=i40) Tryz.underlying64 JH (es (K.dq 1 98)) fF (es (K.dq 2 99)) fD fE))
                 (Aa (oD (fun K=>Ad (es (K.dq 3 100)) (LW _ _ _)))
                 (Aa (oD (fun K=>Bp Bg (es (K.dq 4 101)) (fG.mv (Ac K.AQ)) rfl))
                 (Aa (oD (fun K=>Ad (es ((K.out 1 rfl).trans aR)) (Gl _ _)))
                 (Aa (oD (fun K=>Ag Hf (es (K.dq 6 103)) (aM.ext K.AQ) rfl))
                 (Aa (oD (fun K=>Br Tryz.underlying63 (es (K.dq 7 104))))
                 (Aa (oD (fun K=>Ej (es (K.dq 8 105)) (ec (v:=I 1)) fH))
                 (Aa (oE (fun K=>(Aj Em rfl (Ek (es (K.dq 5 102)) (ec (v:=I 0)) (es (K.dq 9 106))) (Ii aS d8.Cw 0 ((b.AB.length:Int)-1) ZA _ a9 fI)).mono (fun _ _ h=>⟨h.2,h.1⟩)))
                 (Aa (oD (fun K=>Ca (es (K.dq 10 107))))
                 (Aa (oD (fun K=>Au (es (K.dq 11 108))))
                 (Aa (oG q (fun K=>Ad (es ((K.out 1 rfl).trans aR)) (Gm _ _)))
                 (Aa (oG q (fun K=>Ag Hg (es (K.dq 13 110)) (aM.ext K.AQ) rfl))
                 (Aa (oG q (fun K=>Au (es ((K.out 6 rfl).trans a7))))
                 (BS _))))))))))))))))) ?_
             intro iE;rintro _ rfl _ rfl _ rfl _ rfl _ rfl _ rfl _ rfl _ rfl _ rfl _ rfl _ rfl _ rfl _ rfl _ rfl _ rfl _ rfl bC;have g2:=dO.ext bC;replace a:=AT a;obtain⟨i46,f5,g3,g4,g5,a⟩:=a;have b9:=(a8.mv (Ac bC));obtain⟨iZ,i0,_,g6,rfl,g7⟩:=Sl.elem b9 (by decide) g4;refine wG q (fun st=>Bu (k:=i46) Tryz.underlying64 JH (eR st) g6 (eR st) g3 g5)<|wG q (fun st=>Ad (eR st) (KX _ _ _))<|wG q (fun st=>DO (v:=I f5.Ch) Bg (eR st) g7 rfl) ?_;replace a:=bind_some a;obtain⟨cZ,g8,a⟩:=a;refine wX q (fun st=>Aj Em (eR st) (Ek (eR st) (eR st) (eR st)) (Ii aS f5.Ch 1 90 ZA _ cZ g8)) ?_;rintro _ i1 ⟨cA,rfl⟩;have fJ:=g2.ext cA;refine wG q (fun st=>Ca (eR st))<|wD (fun st=>Bs (v:=.bool !cZ) (eR st) q (eR st))<|wn ?_;rcases Ae (!cZ) with bD|bD
             ·replace a:=An a bD;have hX:cZ=false:=by simpa using bD
              refine Ah rfl bD<|cr<|wA (v:=I 1) rfl<|wn<|Am<|CN<|AG ?_;obtain rfl:=oi a;refine BF (fun st=>?_);exact .inl ⟨rfl,(1:Int),rfl,qo st,sp st 2 rfl,fJ⟩
             ·replace a:=Ao a bD;have hY:cZ=true:=by simpa using bD
              refine Aq rfl bD<|Cp<|CU<|Al<|wM (v:=I aN) a7 ?_;replace a:=AL a;obtain⟨g9,a⟩:=a;refine wD (fun st=>BL (eR st) (eR st) g9)<|wA (v:=I (aN+1)) rfl<|Bj ?_;have fK:=((aM.ext bC).ext cA);have ⟨dP,dQ,dR,dS⟩:=Iv bO bP bQ bR (mt (Ac bC) (Ac cA));have dT:=(b9.mv (Ac cA));have dU:=((bS.mv (Ac bC)).mv (Ac cA));refine Bv bU (Nat.lt_succ_self _) (fun st=>?_);exact⟨(aN+1),a,qo st,sp st 1 aR,sp st 6 rfl,fJ,fK,dP,dQ,dR,dS,dT,dU⟩
           ·replace a:=Ao a b8;refine Aq rfl b8<|DG ?_;obtain rfl:=oi a;refine BF (fun st=>?_);exact .inr ⟨rfl,(),rfl,qo st,sp st 1 aR,dO,aM,bO,bP,bQ,bR,a8,bS⟩
         case gX=>
          rintro bX iI iP (⟨rfl,bK,rfl,cB,eX,cL⟩|⟨rfl,bK,rfl,cB,eY,cL,eZ,c0,c1,c2,c3,c4,c5⟩)
          ·skip
           replace a:=C4 a;refine lf cB<|CN ?_;obtain rfl:=oi a;refine Av rfl eX ?_;exact⟨cL.Bf,rfl⟩
          ·skip
           replace a:=C5 a;refine lf cB<|Bd<|BM<|Af<|cr<|wA (v:=I 0) rfl<|wn<|AI ?_;replace a:=bind_some a;obtain⟨z53,bL,a⟩:=a;refine BY (fun bX z m=>(bX=.ret∧∃bM,z53=.inl bM∧Fo X0 149 z∧sl z 2=I bM∧Hp FN [] w [some b1] m)∨(bX=.exit 4∧∃bM,z53=.inr bM∧Fo X0 149 z∧Hp FN [] w [some b1] m)) ?hA ?hB
           case hA=>
            clear a;refine BX (fun bU z m=>∃aO,C1 aS b bU aO=some z53∧Fo X0 149 z∧sl z 1=pt b1 0∧sl z 7=I aO∧Hp FN [] w [some b1] m∧Bk m b1 67 (Ay aF aG aA aB aH aI o p s t u x b).toArray∧(fun aE=>Sl AA m aE aF aG b.Ak∧Sl (BH (Ai .i64)) m aE aA aB b.Ab∧Sl AH m aE aH aI b.Aw∧Sl AZ m aE o p b.AB∧Sl Bb m aE s t b.AF∧Sl Bq m aE u x b.AM) (zf Z w [some b1])) aS ?hC ?hD
            case hC=>
             intro st;exact⟨(0:Int),bL,qo st,sp st 1 eY,sp st 7 rfl,cL,eZ,c0,c1,c2,c3,c4,c5⟩
            case hD=>
             rintro(_|bU) iQ iR ⟨aO,bL,f1,aT,bA,dV,aP,c6,c7,c8,c9,dA,bT⟩
             ·exact absurd (show none=some _ from bL) (by simp)
             rw[C1.eq_2] at bL;have a:=bL;clear bL;refine ro f1<|Af<|cr<|wM (v:=I aO) bA<|wD (fun st=>Ad (ee st aT) (H7 _ _))<|wD (fun st=>Ag (v:=.slice u b.AM.length x) IV (eR st) aP rfl)<|wD (fun st=>Br Tryz.underlying65 (eR st))<|wD (fun st=>B9 (eR st) (eR st))<|wn ?_;rcases Ae (decide (aO<(b.AM.length:Int))) with cC|cC
             ·replace a:=An a cC;refine Ah rfl cC<|cn<|Af<|AI<|Af ?_;replace a:=AT a;obtain⟨i56,eB,fL,hE,fM,a⟩:=a;obtain⟨eC,eD,_,fN,rfl,fO⟩:=Sl.elem bT (by decide) hE;replace a:=AL a;obtain⟨fP,a⟩:=a;replace a:=bind_some a;obtain⟨bB,fQ,a⟩:=a;rcases Ae (!bB) with r|r
              ·replace a:=An a r;have hZ:bB=false:=by simpa using r
               refine BU 17 [Kc (pt b1 6),Kc (.slice u b.AM.length x),Kc (I aO),Kc (pt eC (eD+i56*3)),Kc (pt eC (eD+i56*3)),Kc (I eB.BV),Kc (pt b1 0),Kc (pt b1 1),Kc (.slice aA b.Ab.length aB),Kc (I (b.Ab.length:Int)),Kc (I ((b.Ab.length:Int)-1)),Kc (.bool bB),Kc (.bool !bB),Kc (.bool !bB),Kc undef,Kc undef,Kc undef] mixed rfl rfl
                   (Aa (oD (fun K=>Ad (es ((K.out 1 rfl).trans aT)) (H7 _ _)))
                   (Aa (oD (fun K=>Ag IV (es (K.dq 0 126)) (aP.ext K.AQ) rfl))
                   (Aa (oD (fun K=>Au (es ((K.out 7 rfl).trans bA))))
                   (Aa (oD (fun K=>Bu (k:=i56) Tryz.underlying65 LS (es (K.dq 1 127)) fN (es (K.dq 2 128)) fL fM))
                   (Aa (oD (fun K=>Ad (es (K.dq 3 129)) (MV _ _ _)))
                   (Aa (oD (fun K=>Bp Bg (es (K.dq 4 130)) (fO.mv (Ac K.AQ)) rfl))
                   (Aa (oD (fun K=>Ad (es ((K.out 1 rfl).trans aT)) (ER _ _)))
                   (Aa (oD (fun K=>Ad (es (K.dq 6 132)) (DE _ _)))
                   (Aa (oD (fun K=>Ag C2 (es (K.dq 7 133)) (aP.ext K.AQ) rfl))
                   (Aa (oD (fun K=>Br Tryz.underlying23 (es (K.dq 8 134))))
                   (Aa (oD (fun K=>Ej (es (K.dq 9 135)) (ec (v:=I 1)) fP))
                   (Aa (oE (fun K=>(Aj Em rfl (Ek (es (K.dq 5 131)) (ec (v:=I 0)) (es (K.dq 10 136))) (Ii aS eB.BV 0 ((b.Ab.length:Int)-1) ZA _ bB fQ)).mono (fun _ _ h=>⟨h.2,h.1⟩)))
                   (Aa (oD (fun K=>Ca (es (K.dq 11 137))))
                   (Aa (oD (fun K=>Au (es (K.dq 12 138))))
                   (Aa (oT r)
                   (Aa (oT r)
                   (Aa (oT r)
                   (BS _)))))))))))))))))) ?_
               intro iF;rintro _ rfl _ rfl _ rfl _ rfl _ rfl _ rfl _ rfl _ rfl _ rfl _ rfl _ rfl _ rfl _ rfl _ rfl _ rfl _ rfl _ rfl bN;have hF:=dV.ext bN;refine wF r<|wF r<|wF r<|wF r<|wF r<|wD (fun st=>AY (v:=.bool true) (eR st) r (eR st))<|wn<|Ah rfl rfl<|cr<|wA (v:=I 1) rfl<|wn<|Am<|CN<|AG ?_;obtain rfl:=oi a;refine BF (fun st=>?_);exact .inl ⟨rfl,(1:Int),rfl,qo st,sp st 2 rfl,hF⟩
              ·replace a:=Ao a r;have h3:bB=true:=by simpa using r
               refine BU 17 [Kc (pt b1 6),Kc (.slice u b.AM.length x),Kc (I aO),Kc (pt eC (eD+i56*3)),Kc (pt eC (eD+i56*3)),Kc (I eB.BV),Kc (pt b1 0),Kc (pt b1 1),Kc (.slice aA b.Ab.length aB),Kc (I (b.Ab.length:Int)),Kc (I ((b.Ab.length:Int)-1)),Kc (.bool bB),Kc (.bool !bB),Kc (.bool !bB),Kc (pt b1 6),Kc (.slice u b.AM.length x),Kc (I aO)] mixed rfl rfl
                   (Aa (oD (fun K=>Ad (es ((K.out 1 rfl).trans aT)) (H7 _ _)))
                   (Aa (oD (fun K=>Ag IV (es (K.dq 0 126)) (aP.ext K.AQ) rfl))
                   (Aa (oD (fun K=>Au (es ((K.out 7 rfl).trans bA))))
                   (Aa (oD (fun K=>Bu (k:=i56) Tryz.underlying65 LS (es (K.dq 1 127)) fN (es (K.dq 2 128)) fL fM))
                   (Aa (oD (fun K=>Ad (es (K.dq 3 129)) (MV _ _ _)))
                   (Aa (oD (fun K=>Bp Bg (es (K.dq 4 130)) (fO.mv (Ac K.AQ)) rfl))
                   (Aa (oD (fun K=>Ad (es ((K.out 1 rfl).trans aT)) (ER _ _)))
                   (Aa (oD (fun K=>Ad (es (K.dq 6 132)) (DE _ _)))
                   (Aa (oD (fun K=>Ag C2 (es (K.dq 7 133)) (aP.ext K.AQ) rfl))
                   (Aa (oD (fun K=>Br Tryz.underlying23 (es (K.dq 8 134))))
                   (Aa (oD (fun K=>Ej (es (K.dq 9 135)) (ec (v:=I 1)) fP))
                   (Aa (oE (fun K=>(Aj Em rfl (Ek (es (K.dq 5 131)) (ec (v:=I 0)) (es (K.dq 10 136))) (Ii aS eB.BV 0 ((b.Ab.length:Int)-1) ZA _ bB fQ)).mono (fun _ _ h=>⟨h.2,h.1⟩)))
                   (Aa (oD (fun K=>Ca (es (K.dq 11 137))))
                   (Aa (oD (fun K=>Au (es (K.dq 12 138))))
                   (Aa (oG r (fun K=>Ad (es ((K.out 1 rfl).trans aT)) (H7 _ _)))
                   (Aa (oG r (fun K=>Ag IV (es (K.dq 14 140)) (aP.ext K.AQ) rfl))
                   (Aa (oG r (fun K=>Au (es ((K.out 7 rfl).trans bA))))
                   (BS _)))))))))))))))))) ?_
               intro iF;rintro _ rfl _ rfl _ rfl _ rfl _ rfl _ rfl _ rfl _ rfl _ rfl _ rfl _ rfl _ rfl _ rfl _ rfl _ rfl _ rfl _ rfl bN;have hG:=dV.ext bN;replace a:=AT a;obtain⟨i62,eE,hH,hI,hJ,a⟩:=a;have cD:=(bT.mv (Ac bN));obtain⟨i2,i3,_,hL,rfl,hM⟩:=Sl.elem cD (by decide) hI;refine wG r (fun st=>Bu (k:=i62) Tryz.underlying65 LS (eR st) hL (eR st) hH hJ)<|wG r (fun st=>Ad (eR st) (OE _ _ _))<|wG r (fun st=>Nj (l:=[I eE.Cm,I eE.Cn]) Jg (eR st) hM rfl rfl) ?_;replace a:=bind_some a;obtain⟨dB,hN,a⟩:=a;refine wX r (fun st=>Aj Pm (eR st) (Ek (eR st) (eR st) (eR st)) (W1 aS (⟨eE.Cm,eE.Cn⟩:AN) 0 9000 ZA _ dB hN)) ?_;rintro _ i4 ⟨cM,rfl⟩;have fR:=hG.ext cM;refine wG r (fun st=>Ca (eR st))<|wD (fun st=>Bs (v:=.bool !dB) (eR st) r (eR st))<|wn ?_;rcases Ae (!dB) with bE|bE
               ·replace a:=An a bE;have h4:dB=false:=by simpa using bE
                refine Ah rfl bE<|cr<|wA (v:=I 1) rfl<|wn<|Am<|CN<|AG ?_;obtain rfl:=oi a;refine BF (fun st=>?_);exact .inl ⟨rfl,(1:Int),rfl,qo st,sp st 2 rfl,fR⟩
               ·replace a:=Ao a bE;have h5:dB=true:=by simpa using bE
                refine Aq rfl bE<|Cp<|CU<|Al<|wM (v:=I aO) bA ?_;replace a:=AL a;obtain⟨hO,a⟩:=a;refine wD (fun st=>BL (eR st) (eR st) hO)<|wA (v:=I (aO+1)) rfl<|Bj ?_;have fS:=((aP.ext bN).ext cM);have ⟨dW,dX,dY,dZ,d0⟩:=ZI c6 c7 c8 c9 dA (mt (Ac bN) (Ac cM));have d1:=(cD.mv (Ac cM));refine Bv bU (Nat.lt_succ_self _) (fun st=>?_);exact⟨(aO+1),a,qo st,sp st 1 aT,sp st 7 rfl,fR,fS,dW,dX,dY,dZ,d0,d1⟩
             ·replace a:=Ao a cC;refine Aq rfl cC<|DG ?_;obtain rfl:=oi a;refine BF (fun st=>?_);exact .inr ⟨rfl,(),rfl,qo st,dV⟩
           case hB=>
            rintro bX iJ iS (⟨rfl,bM,rfl,cE,e0,cN⟩|⟨rfl,bM,rfl,cE,cN⟩)
            ·skip
             replace a:=C4 a;refine lf cE<|CN ?_;obtain rfl:=oi a;refine Av rfl e0 ?_;exact⟨cN.Bf,rfl⟩
            ·skip
             replace a:=C5 a;refine lf cE<|Bd<|BM<|cr<|wA (v:=I 0) rfl<|wn<|Am ?_;obtain rfl:=oi a;refine Av rfl rfl ?_;exact⟨cN.Bf,rfl⟩
end Go.Proofs.YtbhofkcbfblijaaGreat
end
