import Derived.Test.YtbhofkcbfblijaaGreatCJ5
import Derived.WalkKit
import Derived.KernelRfl
import Derived.WalkSpells
import Derived.WalkLawsBesides
import Derived.Maps.AppendAt
import Derived.OrdersIn
import Derived.RangeFuncIn
import Derived.RangeFuncLeaves
import Derived.RangeFuncRecord
import Derived.RangeFuncSeq
import Derived.Scope
import Derived.DeepKeys3
import Derived.Laws.CopyRow
import Derived.Laws.OwnMore
import Derived.Laws.MakeOwn
import Derived.Laws.IdiomCopy
import Derived.Sort.OwnSortedInts
import Derived.Lib.RowBridge
import Derived.Shelf.Sort.Plain
import Derived.Ground.Names2Prog
import Derived.Shelf.Slices.Clone
import Derived.Shelf.Slices.CompactI
import Derived.Shelf.Slices.In.SortNone
import Derived.Ground.SlgnProg
import Derived.Shelf.SlicesE.Clone
import Derived.ProofKit
import Derived.ChangeSame
import Derived.SizedLaws
import Derived.Deep.Slices
import Derived.JoinedOf
import Derived.Test.YtbhofkcbfblijaaGreatProg
import Derived.Test.YtbhofkcbfblijaaGreatRows
/-
  The contracts of the functions of the program and of the reference, and the logic that they are proved in: the base that several claims of this seat share.
-/
set_option linter.all false
section
namespace Go.Proofs.YtbhofkcbfblijaaGreat
open Go.RowKit Go.WideShapes
set_option maxRecDepth 20000
open HF
attribute [local irreducible] Cg WL CC CW LV BN Hb EX One Ba
theorem a98 q a(Z:Nat→Prop) w i(j:Hu q a=some i):
 BN Tryz.prog 98 #[.agg #[I a.Lo,I a.Hi]] w (fun v w'=>Ext w w'∧(DB Ax).R w' (zf Z w []) v i):=by
 unfold Hu at j;refine rq (N:=8) Tryz.func98 fun r ha s=>?_;have h:=sA 0 ha;clear ha;have e:Hp FN [] w [] w:=Hp.start (Bw.none w);refine cr<|wE (fun st=>BL (v:=.agg #[I a.Lo,I a.Hi]) (cs:= #[I a.Lo,I a.Hi]) (ee st h) rfl) ?_;rintro _ w1 ⟨b1,rfl,d⟩;have f:=e.nb d;have o:=e.BH d;refine wE (fun st=>BZ (cs:= #[I 0,I 0]) MP rfl) ?_;rintro _ w2 ⟨b2,rfl,b⟩;have k:=f.nb b;have p:=f.BH b;refine wr<|wD (fun st=>Ad (eR st) (I5 _ _)) ?_;have c:=(d.bk.ext b.gr);refine wD (fun st=>Ag (v:=I a.Lo) Bq (eR st) c rfl)<|wD (fun st=>Ad (eR st) (KO _ _))<|wD (fun st=>Ag (v:=I a.Hi) Bq (eR st) c rfl)<|wD (fun st=>Dz (vs:= #[(0,I a.Lo),(1,I a.Hi)]) (v:=.agg #[I a.Lo,I a.Hi]) (Hv (eR st) (eR st)) (by kernel_rfl))<|BD rfl rfl (fun st=>Bt (n:=2) (l:=[I a.Lo,I a.Hi]) (Cm:= #[I a.Lo,I a.Hi]) (eR st) (eR st) K7 b.bk rfl rfl (show 0+2≤2 by decide) (AY rfl) rfl) ?_;rintro _ t g;have m:=k.gr g.gr 0 rfl;refine wn<|Ap ?_;obtain rfl:=oi j;refine FD (v:=.agg #[I a.Lo,I a.Hi]) rfl rfl (C4 Iz g.bk rfl rfl) ?_;exact⟨m.AZ,⟨_,rfl,rfl⟩⟩
theorem a99 z d a b(Z:Nat→Prop) w(j:Sl (Al .i64) w Z a b d) t(f:HM z d=some t):
 BN Tryz.prog 99 #[.slice a d.length b] w (fun v w'=>Ext w w'∧(FE (Al .i64)).R w' (zf Z w []) v t):=by
 unfold HM at f;refine rq (N:=6) Tryz.func99 fun aC ha aD=>?_;have s:=sA 0 ha;clear ha;have m:Hp FN [] w [] w:=Hp.start (Bw.none w);have g:=j.mv (Bu (Z:=Z) (L:=[]) w);refine cr<|wA (v:=.slice none 0 0) rfl<|wr<|wE (fun st=>B1 (e:=3) (vs:= #[]) (cs:= #[]) QN (by kernel_rfl)) ?_;rintro _ w1 ⟨b1,rfl,c⟩;have i:=m.nb c;have l:=m.BH c;refine wM (v:=.slice a d.length b) s ?_;have u:Bp (Al .i64) 3 w.heap.size w1 (zf Z w [some b1]) (some ⟨b1,0,none⟩) 0 ([]:List Int):=K3 (BJ:=[]) c.bk l trivial rfl (by simp[maxLen]);replace f:=B9 f;obtain⟨o,f⟩:=f;have h:=(g.mv (Ay c));refine wE (fun st=>H4 (ys:=d) Tryz.underlying31 It rfl rfl (by decide) (eR st) rfl (eR st) u h.n (by have:=o;simp only[maxLen];omega) (by have:=o;omega) i.sz) ?_;rintro _ aE ⟨aA,aB,rfl,p,q,x⟩;have r:=i.row p 0 rfl q;have y:=Ed x (i.CL p 0 rfl (fun k hk=>(q k hk).1));refine wA (v:=.slice aA ((([]:List Int)++d).length) aB) rfl<|wn<|Ap ?_;obtain rfl:=oi f;refine Au rfl rfl ?_;exact⟨r.AZ,⟨_,_,rfl,r.Jz (M:=[]) 0 rfl [] rfl trivial y⟩⟩
set_option maxHeartbeats 4000000 in
theorem a27 cT q y z aA aB aC aD(Z:Nat→Prop) w(fV:Sl Ax w Z y z q.Az)(fW:Sl (Bx (Al .i64)) w Z aA aB q.Bb)(fX:Sl AF w Z aC aD q.AP) hJ(c:F5 cT q=some hJ):
 BN Tryz.prog 27 #[.agg (AU y z aA aB aC aD q).toArray] w (fun v w'=>Ext w w'∧(DB Re).R w' (zf Z w []) v hJ):=by
 unfold F5 at c;refine rq (N:=70) Tryz.func27 fun iP ha iQ=>?_;have gD:=sA 0 ha;clear ha;have f9:Hp FN [] w [] w:=Hp.start (Bw.none w);have ⟨d8,d9,eA⟩:=Er fV fW fX (Bu (Z:=Z) (L:=[]) w);refine cr<|wE (fun st=>BL (v:=.agg (AU y z aA aB aC aD q).toArray) (cs:=(AU y z aA aB aC aD q).toArray) (ee st gD) rfl) ?_;rintro _ w1 ⟨b1,rfl,d4⟩;have gA:=f9.nb d4;have h9:=f9.BH d4;refine wE (fun st=>BZ (cs:= #[.slice none 0 0,.slice none 0 0,.slice none 0 0]) P0 rfl) ?_;rintro _ w2 ⟨b2,rfl,c8⟩;have gB:=gA.nb c8;have iA:=gA.BH c8;refine wr<|wE (fun st=>BZ (cs:= #[.slice none 0 0,.slice none 0 0,.slice none 0 0]) P0 rfl) ?_;rintro _ iG ⟨b3,rfl,cW⟩;have hL:=gB.nb cW;have iB:=gB.BH cW;refine wn<|Af<|cr<|wA (v:=I 0) rfl<|wn<|AI ?_;have hM:=hL.nil;have hN:Bp Ax 131 w.heap.size iG (zf Z w [none,some b3,some b2,some b1]) none 0 ([]:List AL):=Bp.nil _ _ _ _ _;replace c:=bind_some c;obtain⟨z4,cX,c⟩:=c;refine BQ (fun c9 m i=>(c9=.exit 0∧∃a d,Fo X0 70 m∧sl m 1=pt b1 0∧sl m 2=pt b2 0∧sl m 3=pt b3 0∧Hp FN [] w [ob a,some b3,some b2,some b1] i∧(fun aE=>Bp Ax 131 w.heap.size i aE a d z4∧Bk i b1 26 (AU y z aA aB aC aD q).toArray∧Bk i b2 38 #[.slice none 0 0,.slice none 0 0,.slice none 0 0]∧Bk i b3 38 #[.slice a z4.length d,.slice none 0 0,.slice none 0 0]∧Sl Ax i aE y z q.Az∧Sl (Bx (Al .i64)) i aE aA aB q.Bb∧Sl AF i aE aC aD q.AP) (zf Z w [ob a,some b3,some b2,some b1]))) ?hO ?hP
 case hO=>
  clear c;refine BP (fun cB m i=>∃aZ,∃aJ,∃x aV,Dg cT q cB aZ aJ=some z4∧Fo X0 70 m∧sl m 1=pt b1 0∧sl m 2=pt b2 0∧sl m 3=pt b3 0∧sl m 4=I aZ∧Hp FN [] w [ob x,some b3,some b2,some b1] i∧(fun aE=>Bp Ax 131 w.heap.size i aE x aV aJ∧Bk i b1 26 (AU y z aA aB aC aD q).toArray∧Bk i b2 38 #[.slice none 0 0,.slice none 0 0,.slice none 0 0]∧Bk i b3 38 #[.slice x aJ.length aV,.slice none 0 0,.slice none 0 0]∧Sl Ax i aE y z q.Az∧Sl (Bx (Al .i64)) i aE aA aB q.Bb∧Sl AF i aE aC aD q.AP) (zf Z w [ob x,some b3,some b2,some b1])) cT ?hQ ?hR
  case hQ=>
   intro st;have fY:=((d4.bk.ext c8.gr).ext cW.gr);have fZ:=(c8.bk.ext cW.gr);have f0:=cW.bk;have ⟨eB,eC,eD⟩:=Er d8 d9 eA (mt (Ay d4) (mt (Ay c8) (mt (Ay cW) Bv)));exact⟨(0:Int),([]:List AL),none,0,cX,qo st,sp st 1 rfl,sp st 2 rfl,sp st 3 rfl,sp st 4 rfl,hM,hN,fY,fZ,f0,eB,eC,eD⟩
  case hR=>
   rintro(_|cB) iR iS ⟨aZ,aJ,x,aV,cX,gE,b9,d5,cA,c4,eV,bI,bJ,dA,cC,bG,cD,cE⟩
   ·exact absurd (show none=some _ from cX) (by simp)
   rw[Dg.eq_2] at cX;have c:=cX;clear cX;refine ro gE<|Af<|cr<|wM (v:=I aZ) c4<|wD (fun st=>Ad (ee st b9) (Gm _ _))<|wD (fun st=>Ag (v:=.slice y q.Az.length z) Hm (eR st) bJ rfl)<|wD (fun st=>Bn Tryz.underlying22 (eR st))<|wD (fun st=>B8 (eR st) (eR st))<|wn ?_;rcases Ae (decide (aZ<(q.Az.length:Int))) with dB|dB
   ·replace c:=Am c dB;refine Ah rfl dB<|cn<|Af<|AI ?_;replace c:=Bi c;obtain⟨i8,eW,hS,hT,hU,c⟩:=c;obtain⟨iH,iI,_,hV,rfl,hW⟩:=Sl.elem bG (by decide) hT;replace c:=bind_some c;obtain⟨a8,hX,c⟩:=c;refine BW 9 [Kc (pt b3 0),Kc (.slice x aJ.length aV),Kc (pt b1 0),Kc (.slice y q.Az.length z),Kc (I aZ),Kc (pt iH (iI+i8*2)),Kc (.agg #[I eW.Lo,I eW.Hi]),Kc (.agg #[I a8.Lo,I a8.Hi]),Kv (FE Ax) (zf Z w [ob x,some b3,some b2,some b1]) [a8]] mixed rfl rfl
        (Aa (oD (fun K=>Ad (es ((K.out 3 rfl).trans cA)) (HV _ _)))
        (Aa (oD (fun K=>Ag I4 (es (K.dq 0 15)) (cC.ext K.AV) rfl))
        (Aa (oD (fun K=>Ad (es ((K.out 1 rfl).trans b9)) (Gm _ _)))
        (Aa (oD (fun K=>Ag Hm (es (K.dq 2 17)) (bJ.ext K.AV) rfl))
        (Aa (oD (fun K=>AA (es ((K.out 4 rfl).trans c4))))
        (Aa (oD (fun K=>BC (k:=i8) Tryz.underlying22 Ie (es (K.dq 3 18)) hV (es (K.dq 4 19)) hS hU))
        (Aa (oD (fun K=>Cv (l:=[I eW.Lo,I eW.Hi]) FW (es (K.dq 5 20)) (hW.mv (Ac K.AV)) rfl rfl))
        (Aa (oE (fun K=>(Ak UZ rfl (Cd (es (K.dq 6 21))) (a98 cT eW ZA _ a8 hX)).mono (fun _ _ h=>⟨(by obtain⟨_,rfl,rfl⟩:=h.2;rfl),h.1⟩)))
        (Aa (JK rfl rfl (fun a' w' ph K=>(B1 (e:=131) (vs:= #[(0,.agg #[I a8.Lo,I a8.Hi])]) (cs:= #[I a8.Lo,I a8.Hi]) (IP (es (K.dq 7 22))) (by kernel_rfl)).mono (fun u BI ⟨hY,hu,bK⟩=>⟨⟨_,_,hu,GS (xs:=[a8]) (BJ:=[[I a8.Lo,I a8.Hi]]) bK.bk ((eV.ext K.AV).kn (Nat.le_of_eq bK.FI.symm)) (R2.mv (Ac bK.gr) (show R2 Ax w' (zf Z w [ob x,some b3,some b2,some b1]) [[I a8.Lo,I a8.Hi]] [a8] from⟨rfl,trivial⟩)) rfl (Nat.le_refl _)⟩,bK.gr⟩)))
        (BR _)))))))))) ?_
    intro i6;rintro _ rfl _ rfl _ rfl _ rfl _ rfl _ rfl _ rfl _ rfl _ ⟨iC,iD,rfl,eX⟩ cF;have cG:=eV.ext cF;have dC:=(bI.ext cF (Ac cF));replace c:=B9 c;obtain⟨eY,c⟩:=c;refine wE (fun st=>H4 (ys:=[a8]) Tryz.underlying35 Wk rfl rfl (by decide) (eR st) rfl (eR st) dC eX.n (by have:=eY;simp only[maxLen];omega) (by have:=eY;omega) cG.sz) ?_;rintro _ iT ⟨eZ,e0,rfl,bO,dM,gF⟩;have cY:=cG.row bO 0 rfl dM;have gG:=Ed gF (cG.CL bO 0 rfl (fun k hk=>(dM k hk).1));refine wD (fun st=>Ad (ee st cA) (HV _ _)) ?_;have f1:=((cC.ext cF).gr bO (cG.nq 1 0));refine BD rfl rfl (fun st=>Bt (n:=1) (l:=[.slice eZ ((aJ++[a8]).length) e0]) (Cm:= #[.slice eZ ((aJ++[a8]).length) e0,.slice none 0 0,.slice none 0 0]) (eR st) (eR st) Aa7 f1 rfl rfl (show 0+1≤3 by decide) (AY rfl) rfl) ?_;rintro _ iU bH;have hZ:=cY.gr bH.gr 1 rfl;refine Bc<|CG<|Ai<|wM (v:=I aZ) c4 ?_;replace c:=AJ c;obtain⟨gH,c⟩:=c;refine wD (fun st=>BK (eR st) (eR st) gH)<|wA (v:=I (aZ+1)) rfl<|Bc ?_;have e1:=(gG.gr bH.gr (fun k hk=>cY.ne 0 1 rfl (congrArg some hk) rfl) (cY.By bH.gr 1 rfl));have f2:=(((bJ.ext cF).gr bO (cG.nq 3 0)).gr bH.gr (cY.nq 3 1));have f3:=(((dA.ext cF).gr bO (cG.nq 2 0)).gr bH.gr (cY.nq 2 1));have ⟨eE,eF,eG⟩:=Er bG cD cE (mt (Ac cF) (mt (cG.CL bO 0 rfl (fun k hk=>(dM k hk).1)) (cY.By bH.gr 1 rfl)));refine Br cB (Nat.lt_succ_self _) (fun st=>?_);exact⟨(aZ+1),(aJ++[a8]),eZ,e0,c,qo st,sp st 1 b9,sp st 2 d5,sp st 3 cA,sp st 4 rfl,hZ,e1,f2,f3,bH.bk,eE,eF,eG⟩
   ·replace c:=An c dB;refine Ao rfl dB<|DA ?_;obtain rfl:=oi c;refine BG (fun st=>?_);exact⟨rfl,x,aV,qo st,sp st 1 b9,sp st 2 d5,sp st 3 cA,eV,bI,bJ,dA,cC,bG,cD,cE⟩
 case hP=>
  rintro c9 iJ h3 (⟨rfl,a,d,f4,e2,e3,e4,gI,cH,e5,e6,e7,dN,dO,dP⟩);refine lf f4<|Be<|BM<|Af<|cr<|wA (v:=I 0) rfl<|wn<|AI ?_;have gJ:=gI.nil;have gK:Bp (Bx (Al .i64)) 31 w.heap.size h3 (zf Z w [none,ob a,some b3,some b2,some b1]) none 0 ([]:List (List Int)):=Bp.nil _ _ _ _ _;replace c:=bind_some c;obtain⟨a5,bP,c⟩:=c;refine BQ (fun c9 m i=>(c9=.exit 2∧∃b g,Fo X0 70 m∧sl m 1=pt b1 0∧sl m 2=pt b2 0∧sl m 3=pt b3 0∧Hp FN [] w [ob b,ob a,some b3,some b2,some b1] i∧(fun aE=>Bp (Bx (Al .i64)) 31 w.heap.size i aE b g a5∧Bp Ax 131 w.heap.size i aE a d z4∧Bk i b1 26 (AU y z aA aB aC aD q).toArray∧Bk i b2 38 #[.slice none 0 0,.slice none 0 0,.slice none 0 0]∧Bk i b3 38 #[.slice a z4.length d,.slice b a5.length g,.slice none 0 0]∧Sl Ax i aE y z q.Az∧Sl (Bx (Al .i64)) i aE aA aB q.Bb∧Sl AF i aE aC aD q.AP) (zf Z w [ob b,ob a,some b3,some b2,some b1]))) ?gL ?gM
  case gL=>
   clear c;refine BP (fun cB m i=>∃aK,∃aF,∃o aM,Dc cT q cB aK aF=some a5∧Fo X0 70 m∧sl m 1=pt b1 0∧sl m 2=pt b2 0∧sl m 3=pt b3 0∧sl m 5=I aK∧Hp FN [] w [ob o,ob a,some b3,some b2,some b1] i∧(fun aE=>Bp Ax 131 w.heap.size i aE a d z4∧Bp (Bx (Al .i64)) 31 w.heap.size i aE o aM aF∧Bk i b1 26 (AU y z aA aB aC aD q).toArray∧Bk i b2 38 #[.slice none 0 0,.slice none 0 0,.slice none 0 0]∧Bk i b3 38 #[.slice a z4.length d,.slice o aF.length aM,.slice none 0 0]∧Sl Ax i aE y z q.Az∧Sl (Bx (Al .i64)) i aE aA aB q.Bb∧Sl AF i aE aC aD q.AP) (zf Z w [ob o,ob a,some b3,some b2,some b1])) cT ?gN ?gO
   case gN=>
    intro st;have cI:=(cH.up Bv);have e8:=e5;have e9:=e6;have fA:=e7;have ⟨dQ,dR,dS⟩:=Er dN dO dP Bv;exact⟨(0:Int),([]:List (List Int)),none,0,bP,qo st,sp st 1 e2,sp st 2 e3,sp st 3 e4,sp st 5 rfl,gJ,cI,gK,e8,e9,fA,dQ,dR,dS⟩
   case gO=>
    rintro(_|cB) iK iL ⟨aK,aF,o,aM,bP,f5,bL,dD,bM,cJ,c5,a6,a9,bF,cZ,bQ,bW,bA,bX⟩
    ·exact absurd (show none=some _ from bP) (by simp)
    rw[Dc.eq_2] at bP;have c:=bP;clear bP;refine ro f5<|Af<|cr<|wM (v:=I aK) cJ<|wD (fun st=>Ad (ee st bL) (EO _ _))<|wD (fun st=>Ag (v:=.slice aA q.Bb.length aB) DK (eR st) bF rfl)<|wD (fun st=>Bn Tryz.underlying23 (eR st))<|wD (fun st=>B8 (eR st) (eR st))<|wn ?_;rcases Ae (decide (aK<(q.Bb.length:Int))) with cK|cK
    ·replace c:=Am c cK;refine Ah rfl cK<|cn<|Af<|AI ?_;replace c:=Bi c;obtain⟨i18,gC,gP,gQ,gR,c⟩:=c;obtain⟨h4,h5,_,gS,⟨d6,d7,rfl,fB⟩,gT⟩:=Sl.CR bA rfl gQ;replace c:=bind_some c;obtain⟨aS,gU,c⟩:=c;refine BW 9 [Kc (pt b3 1),Kc (.slice o aF.length aM),Kc (pt b1 1),Kc (.slice aA q.Bb.length aB),Kc (I aK),Kc (pt h4 (h5+i18)),Kc (.slice d6 gC.length d7),Kv (FE (Al .i64)) (zf Z w [ob o,ob a,some b3,some b2,some b1]) aS,Kv (FE (Bx (Al .i64))) (zf Z w [ob o,ob a,some b3,some b2,some b1]) [aS]] mixed rfl rfl
         (Aa (oD (fun K=>Ad (es ((K.out 3 rfl).trans bM)) (IA _ _)))
         (Aa (oD (fun K=>Ag DK (es (K.dq 0 33)) (bQ.ext K.AV) rfl))
         (Aa (oD (fun K=>Ad (es ((K.out 1 rfl).trans bL)) (EO _ _)))
         (Aa (oD (fun K=>Ag DK (es (K.dq 2 35)) (bF.ext K.AV) rfl))
         (Aa (oD (fun K=>AA (es ((K.out 5 rfl).trans cJ))))
         (Aa (oD (fun K=>BA (k:=i18) Tryz.underlying23 E8 (es (K.dq 3 36)) gS (es (K.dq 4 37)) gP gR))
         (Aa (oD (fun K=>BF CU (es (K.dq 5 38)) (gT.mv (Ac K.AV)) rfl))
         (Aa (oE (fun K=>(Ak Aah rfl (Cd (es (K.dq 6 39))) (a99 cT gC d6 d7 (zf Z w [ob o,ob a,some b3,some b2,some b1]) _ (fB.mv (Ac K.AV)) aS gU)).mono (fun _ _ h=>⟨(FE (Al .i64)).mv h.2 ((c5.ext K.AV).DQ (Nat.le_refl _)),h.1⟩)))
         (Aa (JK rfl rfl (fun a' w' ph K=>match K.dq 7 40 with|⟨aW,aX,f6,c0⟩=>(B1 (e:=31) (vs:= #[(0,.slice aW aS.length aX)]) (cs:= #[.slice aW aS.length aX]) (IP (es (t:=40) (v:=.slice aW aS.length aX) f6)) (by kernel_rfl)).mono (fun u BI ⟨hY,hu,bK⟩=>⟨⟨_,_,hu,GS (xs:=[aS]) (BJ:=[[.slice aW aS.length aX]]) bK.bk ((c5.ext K.AV).kn (Nat.le_of_eq bK.FI.symm)) (R2.mv (Ac bK.gr) (show R2 (Bx (Al .i64)) w' (zf Z w [ob o,ob a,some b3,some b2,some b1]) [[.slice aW aS.length aX]] [aS] from⟨⟨_,_,rfl,c0⟩,trivial⟩)) rfl (Nat.le_refl _)⟩,bK.gr⟩)))
         (BR _)))))))))) ?_
     intro iV;rintro _ rfl _ rfl _ rfl _ rfl _ rfl _ rfl _ rfl _ ⟨aW,aX,rfl,c0⟩ _ ⟨h6,h7,rfl,eH⟩ a0;have a2:=c5.ext a0;have cU:=(a9.ext a0 (Ac a0));replace c:=B9 c;obtain⟨fC,c⟩:=c;refine wE (fun st=>H4 (ys:=[aS]) Tryz.underlying23 NW rfl rfl (by decide) (eR st) rfl (eR st) cU eH.n (by have:=fC;simp only[maxLen];omega) (by have:=fC;omega) a2.sz) ?_;rintro _ iW ⟨fD,fE,rfl,bB,c6,gV⟩;have bC:=a2.row bB 0 rfl c6;have gW:=Ed gV (a2.CL bB 0 rfl (fun k hk=>(c6 k hk).1));refine wD (fun st=>Ad (ee st bM) (IA _ _)) ?_;have fF:=((bQ.ext a0).gr bB (a2.nq 2 0));refine BD rfl rfl (fun st=>Bt (n:=1) (l:=[.slice fD ((aF++[aS]).length) fE]) (Cm:= #[.slice a z4.length d,.slice fD ((aF++[aS]).length) fE,.slice none 0 0]) (eR st) (eR st) W4 fF rfl rfl (show 1+1≤3 by decide) (AY rfl) rfl) ?_;rintro _ iX a3;have gX:=bC.gr a3.gr 2 rfl;refine Bc<|CG<|Ai<|wM (v:=I aK) cJ ?_;replace c:=AJ c;obtain⟨gY,c⟩:=c;refine wD (fun st=>BK (eR st) (eR st) gY)<|wA (v:=I (aK+1)) rfl<|Bc ?_;have cL:=(((a6.ext a0 (Ac a0)).gr bB (fun k hk=>a2.ne 1 0 rfl (congrArg some hk) rfl) (a2.CL bB 0 rfl (fun k hk=>(c6 k hk).1))).gr a3.gr (fun k hk=>bC.ne 1 2 rfl (congrArg some hk) rfl) (bC.By a3.gr 2 rfl));have eI:=(gW.gr a3.gr (fun k hk=>bC.ne 0 2 rfl (congrArg some hk) rfl) (bC.By a3.gr 2 rfl));have fG:=(((bF.ext a0).gr bB (a2.nq 4 0)).gr a3.gr (bC.nq 4 2));have fH:=(((cZ.ext a0).gr bB (a2.nq 3 0)).gr a3.gr (bC.nq 3 2));have ⟨dT,dU,dV⟩:=Er bW bA bX (mt (Ac a0) (mt (a2.CL bB 0 rfl (fun k hk=>(c6 k hk).1)) (bC.By a3.gr 2 rfl)));refine Br cB (Nat.lt_succ_self _) (fun st=>?_);exact⟨(aK+1),(aF++[aS]),fD,fE,c,qo st,sp st 1 bL,sp st 2 dD,sp st 3 bM,sp st 5 rfl,gX,cL,eI,fG,fH,a3.bk,dT,dU,dV⟩
    ·replace c:=An c cK;refine Ao rfl cK<|DA ?_;obtain rfl:=oi c;refine BG (fun st=>?_);exact⟨rfl,o,aM,qo st,sp st 1 bL,sp st 2 dD,sp st 3 bM,c5,a9,a6,bF,cZ,bQ,bW,bA,bX⟩
  case gM=>
   rintro c9 iE gZ (⟨rfl,b,g,fI,eJ,eK,eM,f7,bR,bZ,eN,eO,eP,dE,dF,dG⟩);refine lf fI<|Be<|BM<|Af<|cr<|wA (v:=I 0) rfl<|wn<|AI ?_;have g0:=f7.nil;have g1:Bp AF 133 w.heap.size gZ (zf Z w [none,ob b,ob a,some b3,some b2,some b1]) none 0 ([]:List Cw):=Bp.nil _ _ _ _ _;replace c:=bind_some c;obtain⟨z24,bS,c⟩:=c;refine BQ (fun c9 m i=>(c9=.exit 4∧∃j r,Fo X0 70 m∧sl m 2=pt b2 0∧sl m 3=pt b3 0∧Hp FN [] w [ob j,ob b,ob a,some b3,some b2,some b1] i∧(fun aE=>Bp (Bx (Al .i64)) 31 w.heap.size i aE b g a5∧Bp AF 133 w.heap.size i aE j r z24∧Bp Ax 131 w.heap.size i aE a d z4∧Bk i b2 38 #[.slice none 0 0,.slice none 0 0,.slice none 0 0]∧Bk i b3 38 #[.slice a z4.length d,.slice b a5.length g,.slice j z24.length r]) (zf Z w [ob j,ob b,ob a,some b3,some b2,some b1]))) ?g2 ?g3
   case g2=>
    clear c;refine BP (fun cB m i=>∃aL,∃aG,∃s aN,Dd cT q cB aL aG=some z24∧Fo X0 70 m∧sl m 1=pt b1 0∧sl m 2=pt b2 0∧sl m 3=pt b3 0∧sl m 6=I aL∧Hp FN [] w [ob s,ob b,ob a,some b3,some b2,some b1] i∧(fun aE=>Bp (Bx (Al .i64)) 31 w.heap.size i aE b g a5∧Bp Ax 131 w.heap.size i aE a d z4∧Bp AF 133 w.heap.size i aE s aN aG∧Bk i b1 26 (AU y z aA aB aC aD q).toArray∧Bk i b2 38 #[.slice none 0 0,.slice none 0 0,.slice none 0 0]∧Bk i b3 38 #[.slice a z4.length d,.slice b a5.length g,.slice s aG.length aN]∧Sl Ax i aE y z q.Az∧Sl (Bx (Al .i64)) i aE aA aB q.Bb∧Sl AF i aE aC aD q.AP) (zf Z w [ob s,ob b,ob a,some b3,some b2,some b1])) cT ?g4 ?g5
    case g4=>
     intro st;have b4:=(bR.up Bv);have cM:=(bZ.up Bv);have fJ:=eN;have fK:=eO;have fL:=eP;have ⟨dW,dX,dY⟩:=Er dE dF dG Bv;exact⟨(0:Int),([]:List Cw),none,0,bS,qo st,sp st 1 eJ,sp st 2 eK,sp st 3 eM,sp st 6 rfl,g0,b4,cM,g1,fJ,fK,fL,dW,dX,dY⟩
    case g5=>
     rintro(_|cB) iM iN ⟨aL,aG,s,aN,bS,f8,cN,dH,bN,cO,dZ,aY,a7,bD,bT,c1,c2,dI,dJ,bY⟩
     ·exact absurd (show none=some _ from bS) (by simp)
     rw[Dd.eq_2] at bS;have c:=bS;clear bS;refine ro f8<|Af<|cr<|wM (v:=I aL) cO<|wD (fun st=>Ad (ee st cN) (Ko _ _))<|wD (fun st=>Ag (v:=.slice aC q.AP.length aD) K8 (eR st) bT rfl)<|wD (fun st=>Bn Tryz.underlying24 (eR st))<|wD (fun st=>B8 (eR st) (eR st))<|wn ?_;rcases Ae (decide (aL<(q.AP.length:Int))) with cP|cP
     ·replace c:=Am c cP;refine Ah rfl cP<|cn<|Af<|AI<|cr<|wD (fun st=>Ad (ee st cN) (Ko _ _))<|wD (fun st=>Ag (v:=.slice aC q.AP.length aD) K8 (eR st) bT rfl)<|wM (v:=I aL) cO ?_;replace c:=Bi c;obtain⟨i27,f,g6,g7,g8,c⟩:=c;obtain⟨iY,iZ,_,g9,rfl,hA⟩:=Sl.elem bY (by decide) g7;refine wD (fun st=>BC (k:=i27) Tryz.underlying24 Pm (eR st) g9 (eR st) g6 g8)<|wD (fun st=>Cv (l:=[.bool f.BY,I f.Number,I f.Bl,I f.Bm]) RP (eR st) hA rfl rfl)<|wE (fun st=>BZ (cs:= #[.bool false,I 0,I 0,I 0]) To rfl) ?_;rintro _ i0 ⟨dK,rfl,aI⟩;have aO:=dZ.nb aI;have h8:=dZ.BH aI;refine BD rfl rfl (fun st=>Bt (n:=4) (l:=[.bool f.BY,I f.Number,I f.Bl,I f.Bm]) (Cm:= #[.bool f.BY,I f.Number,I f.Bl,I f.Bm]) (eR st) (eR st) Pm aI.bk rfl rfl (show 0+4≤4 by decide) (AY rfl) rfl) ?_;rintro _ i1 aH;have fM:=aO.gr aH.gr 0 rfl;refine wn ?_;have dL:=((c2.ext aI.gr).gr aH.gr (aO.nq 4 0));replace c:=bind_some c;obtain⟨p,hB,c⟩:=c;refine BW 11 [Kc (pt b3 2),Kc (.slice s aG.length aN),Kc (pt dK 0),Kc (.bool f.BY),Kc (pt dK 1),Kc (I f.Number),Kc (pt dK 2),Kc (.agg #[I f.Bl,I f.Bm]),Kc (.agg #[I p.Lo,I p.Hi]),Kc (.agg #[.bool f.BY,I f.Number,I p.Lo,I p.Hi]),Kv (FE AF) (zf Z w [some dK,ob s,ob b,ob a,some b3,some b2,some b1]) [(⟨f.BY,f.Number,p.Lo,p.Hi⟩:Cw)]] mixed rfl rfl
          (Aa (oD (fun K=>Ad (es ((K.out 3 rfl).trans bN)) (Ml _ _)))
          (Aa (oD (fun K=>Ag Pg (es (K.dq 0 56)) (dL.ext K.AV) rfl))
          (Aa (oD (fun K=>Ad (K.kO 7) (PY _ _)))
          (Aa (oD (fun K=>Ag KB (es (K.dq 2 58)) (aH.bk.ext K.AV) rfl))
          (Aa (oD (fun K=>Ad (K.kO 7) (NX _ _)))
          (Aa (oD (fun K=>Ag Bq (es (K.dq 4 60)) (aH.bk.ext K.AV) rfl))
          (Aa (oD (fun K=>Ad (K.kO 7) (KP _ _)))
          (Aa (oD (fun K=>AO (l:=[I f.Bl,I f.Bm]) FW (es (K.dq 6 62)) (aH.bk.ext K.AV) rfl rfl))
          (Aa (oE (fun K=>(Ak UZ rfl (Cd (es (K.dq 7 63))) (a98 cT (⟨f.Bl,f.Bm⟩:AL) ZA _ p hB)).mono (fun _ _ h=>⟨(by obtain⟨_,rfl,rfl⟩:=h.2;rfl),h.1⟩)))
          (Aa (oD (fun K=>Dz (vs:= #[(0,.bool f.BY),(1,I f.Number),(2,.agg #[I p.Lo,I p.Hi])]) (v:=.agg #[.bool f.BY,I f.Number,I p.Lo,I p.Hi]) (pm3 (es (K.dq 3 59)) (es (K.dq 5 61)) (es (K.dq 8 64))) (by kernel_rfl)))
          (Aa (JK rfl rfl (fun a' w' ph K=>(B1 (e:=133) (vs:= #[(0,.agg #[.bool f.BY,I f.Number,I p.Lo,I p.Hi])]) (cs:= #[.bool f.BY,I f.Number,I p.Lo,I p.Hi]) (IP (es (K.dq 9 65))) (by kernel_rfl)).mono (fun u BI ⟨hY,hu,bK⟩=>⟨⟨_,_,hu,GS (xs:=[(⟨f.BY,f.Number,p.Lo,p.Hi⟩:Cw)]) (BJ:=[[.bool f.BY,I f.Number,I p.Lo,I p.Hi]]) bK.bk ((fM.ext K.AV).kn (Nat.le_of_eq bK.FI.symm)) (R2.mv (Ac bK.gr) (show R2 AF w' (zf Z w [some dK,ob s,ob b,ob a,some b3,some b2,some b1]) [[.bool f.BY,I f.Number,I p.Lo,I p.Hi]] [(⟨f.BY,f.Number,p.Lo,p.Hi⟩:Cw)] from⟨rfl,trivial⟩)) rfl (Nat.le_refl _)⟩,bK.gr⟩)))
          (BR _)))))))))))) ?_
      intro i2;rintro _ rfl _ rfl _ rfl _ rfl _ rfl _ rfl _ rfl _ rfl _ rfl _ rfl _ ⟨hH,hI,rfl,d0⟩ aP;have aQ:=fM.ext aP;have cV:=(((bD.ext aI.gr (Ay aI)).gr aH.gr (fun k hk=>aO.ne 1 0 rfl (congrArg some hk) rfl) (aO.By aH.gr 0 rfl)).ext aP (Ac aP));replace c:=B9 c;obtain⟨fN,c⟩:=c;refine wE (fun st=>H4 (ys:=[(⟨f.BY,f.Number,p.Lo,p.Hi⟩:Cw)]) Tryz.underlying36 Wl rfl rfl (by decide) (eR st) rfl (eR st) cV d0.n (by have:=fN;simp only[maxLen];omega) (by have:=fN;omega) aQ.sz) ?_;rintro _ i3 ⟨fO,fP,rfl,aT,cQ,hC⟩;have aU:=aQ.row aT 1 rfl cQ;have hD:=Ed hC (aQ.CL aT 1 rfl (fun k hk=>(cQ k hk).1));refine wD (fun st=>Ad (ee st bN) (Ml _ _)) ?_;have fQ:=((dL.ext aP).gr aT (aQ.nq 4 1));refine BD rfl rfl (fun st=>Bt (n:=1) (l:=[.slice fO ((aG++[(⟨f.BY,f.Number,p.Lo,p.Hi⟩:Cw)]).length) fP]) (Cm:= #[.slice a z4.length d,.slice b a5.length g,.slice fO ((aG++[(⟨f.BY,f.Number,p.Lo,p.Hi⟩:Cw)]).length) fP]) (eR st) (eR st) Aa8 fQ rfl rfl (show 2+1≤3 by decide) (AY rfl) rfl) ?_;rintro _ i4 aR;have hE:=aU.gr aR.gr 4 rfl;refine Bc<|CG<|Ai<|wM (v:=I aL) cO ?_;replace c:=AJ c;obtain⟨hF,c⟩:=c;refine wD (fun st=>BK (eR st) (eR st) hF)<|wA (v:=I (aL+1)) rfl<|Bc ?_;have hG:=hE.erase 0;have b5:=((((((aY.ext aI.gr (Ay aI)).gr aH.gr (fun k hk=>aO.ne 2 0 rfl (congrArg some hk) rfl) (aO.By aH.gr 0 rfl)).ext aP (Ac aP)).gr aT (fun k hk=>aQ.ne 2 1 rfl (congrArg some hk) rfl) (aQ.CL aT 1 rfl (fun k hk=>(cQ k hk).1))).gr aR.gr (fun k hk=>aU.ne 2 4 rfl (congrArg some hk) rfl) (aU.By aR.gr 4 rfl)).up (AH 0));have cR:=((((((a7.ext aI.gr (Ay aI)).gr aH.gr (fun k hk=>aO.ne 3 0 rfl (congrArg some hk) rfl) (aO.By aH.gr 0 rfl)).ext aP (Ac aP)).gr aT (fun k hk=>aQ.ne 3 1 rfl (congrArg some hk) rfl) (aQ.CL aT 1 rfl (fun k hk=>(cQ k hk).1))).gr aR.gr (fun k hk=>aU.ne 3 4 rfl (congrArg some hk) rfl) (aU.By aR.gr 4 rfl)).up (AH 0));have eQ:=((hD.gr aR.gr (fun k hk=>aU.ne 1 4 rfl (congrArg some hk) rfl) (aU.By aR.gr 4 rfl)).up (AH 0));have fR:=(((((bT.ext aI.gr).gr aH.gr (aO.nq 6 0)).ext aP).gr aT (aQ.nq 6 1)).gr aR.gr (aU.nq 6 4));have fS:=(((((c1.ext aI.gr).gr aH.gr (aO.nq 5 0)).ext aP).gr aT (aQ.nq 5 1)).gr aR.gr (aU.nq 5 4));have fT:=aR.bk;have ⟨d1,d2,d3⟩:=Er dI dJ bY (mt (Ay aI) (mt (aO.By aH.gr 0 rfl) (mt (Ac aP) (mt (aQ.CL aT 1 rfl (fun k hk=>(cQ k hk).1)) (mt (aU.By aR.gr 4 rfl) (AH 0))))));refine Br cB (Nat.lt_succ_self _) (fun st=>?_);exact⟨(aL+1),(aG++[(⟨f.BY,f.Number,p.Lo,p.Hi⟩:Cw)]),fO,fP,c,qo st,sp st 1 cN,sp st 2 dH,sp st 3 bN,sp st 6 rfl,hG,b5,cR,eQ,fR,fS,fT,d1,d2,d3⟩
     ·replace c:=An c cP;refine Ao rfl cP<|DA ?_;obtain rfl:=oi c;refine BG (fun st=>?_);exact⟨rfl,s,aN,qo st,sp st 2 dH,sp st 3 bN,dZ,aY,bD,a7,c1,c2⟩
   case g3=>
    rintro c9 iF iO (⟨rfl,j,r,fU,c3,eS,a4,bU,bV,b6,eT,eU⟩);refine lf fU<|Be<|BM<|cr<|wD (fun st=>AO (l:=[.slice a z4.length d,.slice b a5.length g,.slice j z24.length r]) H9 (ee st eS) eU rfl rfl)<|BD rfl rfl (fun st=>Bt (n:=3) (l:=[.slice a z4.length d,.slice b a5.length g,.slice j z24.length r]) (Cm:= #[.slice a z4.length d,.slice b a5.length g,.slice j z24.length r]) (ee st c3) (eR st) W6 eT rfl rfl (show 0+3≤3 by decide) (AY rfl) rfl) ?_;rintro _ i5 bE;have c7:=a4.gr bE.gr 4 rfl;refine wn<|Ap ?_;obtain rfl:=oi c;refine FD (v:=.agg #[.slice a z4.length d,.slice b a5.length g,.slice j z24.length r]) rfl c3 (C4 H9 bE.bk rfl rfl) ?_;have cS:=(b6.gr bE.gr (fun k hk=>a4.ne 2 4 rfl (congrArg some hk) rfl) (a4.By bE.gr 4 rfl));have b7:=(bU.gr bE.gr (fun k hk=>a4.ne 1 4 rfl (congrArg some hk) rfl) (a4.By bE.gr 4 rfl));have b8:=(bV.gr bE.gr (fun k hk=>a4.ne 0 4 rfl (congrArg some hk) rfl) (a4.By bE.gr 4 rfl));exact⟨c7.AZ,⟨_,rfl,_,_,_,_,_,_,rfl,c7.Jz (M:=[]) 2 rfl [] rfl trivial cS,c7.Jz (M:=[]) 1 rfl [] rfl trivial b7,c7.Jz (M:=[]) 0 rfl [] rfl trivial b8⟩⟩
theorem a23 aP b h i c d j m(Z:Nat→Prop) w(aQ:Sl Ax w Z h i b.Az)(aR:Sl (Bx (Al .i64)) w Z c d b.Bb)(aS:Sl AF w Z j m b.AP) a7(a:GC aP b=some a7):
 BN Tryz.prog 23 #[.agg (AU h i c d j m b).toArray] w (fun v w'=>Ext w w'∧BE.R w' (zf Z w []) v a7):=by
 unfold GC at a;refine rq (N:=42) Tryz.func23 fun bN ha bO=>?_;have aX:=sA 0 ha;clear ha;have aV:Hp FN [] w [] w:=Hp.start (Bw.none w);have ⟨aH,s,aI⟩:=Er aQ aR aS (Bu (Z:=Z) (L:=[]) w);refine cr<|wE (fun st=>BL (v:=.agg (AU h i c d j m b).toArray) (cs:=(AU h i c d j m b).toArray) (ee st aX) rfl) ?_;rintro _ w1 ⟨b1,rfl,o⟩;have aB:=aV.nb o;have bK:=aV.BH o;refine wA (v:=.bool false) rfl<|wn<|Af<|cr<|wD (fun st=>Ad (eR st) (Gm _ _))<|wD (fun st=>Ag (v:=.slice h b.Az.length i) Hm (eR st) o.bk rfl)<|wD (fun st=>Bn Tryz.underlying22 (eR st))<|wD (fun st=>Fj (eR st) (eR st))<|wM (v:=.bool (decide ((5:Int)<(b.Az.length:Int)))) rfl ?_;rcases Ae (decide ((5:Int)<(b.Az.length:Int))) with f|f
 ·replace a:=Am a f;refine wF f<|wF f<|wF f<|wF f<|wD (fun st=>AR (v:=.bool true) (eR st) f (eR st))<|wM (v:=.bool true) rfl<|wH<|wH<|wH<|wH<|wD (fun st=>AR (v:=.bool true) (eR st) rfl (eR st))<|wn<|Ah rfl rfl<|cr<|wA (v:=.bool false) rfl<|wn<|Ap<|AG ?_;obtain rfl:=oi a;refine Au rfl rfl ?_;exact⟨aB.AZ,rfl⟩
 ·replace a:=An a f;refine wG f (fun st=>Ad (eR st) (EO _ _))<|wG f (fun st=>Ag (v:=.slice c b.Bb.length d) DK (eR st) o.bk rfl)<|wG f (fun st=>Bn Tryz.underlying23 (eR st))<|wG f (fun st=>Fj (eR st) (eR st))<|wD (fun st=>Bg (v:=.bool (decide ((5:Int)<(b.Bb.length:Int)))) (eR st) f (eR st))<|wM (v:=.bool (decide ((5:Int)<(b.Bb.length:Int)))) rfl ?_;rcases Ae (decide ((5:Int)<(b.Bb.length:Int))) with g|g
  ·replace a:=Am a g;refine wF g<|wF g<|wF g<|wF g<|wD (fun st=>AR (v:=.bool true) (eR st) g (eR st))<|wn<|Ah rfl rfl<|cr<|wA (v:=.bool false) rfl<|wn<|Ap<|AG ?_;obtain rfl:=oi a;refine Au rfl rfl ?_;exact⟨aB.AZ,rfl⟩
  ·replace a:=An a g;refine wG g (fun st=>Ad (eR st) (Ko _ _))<|wG g (fun st=>Ag (v:=.slice j b.AP.length m) K8 (eR st) o.bk rfl)<|wG g (fun st=>Bn Tryz.underlying24 (eR st))<|wG g (fun st=>Fj (eR st) (eR st))<|wD (fun st=>Bg (v:=.bool (decide ((7:Int)<(b.AP.length:Int)))) (eR st) g (eR st))<|wn ?_;rcases Ae (decide ((7:Int)<(b.AP.length:Int))) with aC|aC
   ·replace a:=Am a aC;refine Ah rfl aC<|cr<|wA (v:=.bool false) rfl<|wn<|Ap<|AG ?_;obtain rfl:=oi a;refine Au rfl rfl ?_;exact⟨aB.AZ,rfl⟩
   ·replace a:=An a aC;refine Ao rfl aC<|cn<|Af<|cr<|wA (v:=I 0) rfl<|wn<|AI ?_;replace a:=bind_some a;obtain⟨z5,t,a⟩:=a;refine BQ (fun aY q aT=>(aY=.ret∧∃u,z5=.inl u∧Fo X0 42 q∧sl q 2=.bool u∧w1=aT)∨(aY=.exit 0∧∃u,z5=.inr u∧Fo X0 42 q∧sl q 1=pt b1 0∧w1=aT)) ?a8 ?a9
    case a8=>
     clear a;refine BP (fun aZ q aT=>∃n,DG b aZ n=some z5∧Fo X0 42 q∧sl q 1=pt b1 0∧sl q 3=I n∧w1=aT) aP ?bA ?bB
     case bA=>
      intro st;exact⟨(0:Int),t,qo st,sp st 1 rfl,sp st 3 rfl,rfl⟩
     case bB=>
      rintro(_|aZ) bP _ ⟨n,t,a0,r,z,rfl⟩
      ·exact absurd (show none=some _ from t) (by simp)
      rw[DG.eq_2] at t;have a:=t;clear t;refine ro a0<|Af<|cr<|wM (v:=I n) z<|wD (fun st=>Ad (ee st r) (EO _ _))<|wD (fun st=>Ag (v:=.slice c b.Bb.length d) DK (eR st) o.bk rfl)<|wD (fun st=>Bn Tryz.underlying23 (eR st))<|wD (fun st=>B8 (eR st) (eR st))<|wn ?_;rcases Ae (decide (n<(b.Bb.length:Int))) with aD|aD
      ·replace a:=Am a aD;refine Ah rfl aD<|cn<|Af<|AI<|cr<|wD (fun st=>Ad (ee st r) (EO _ _))<|wD (fun st=>Ag (v:=.slice c b.Bb.length d) DK (eR st) o.bk rfl)<|wM (v:=I n) z ?_;replace a:=Bi a;obtain⟨i7,bC,bD,bE,bF,a⟩:=a;have p:=(s.mv (Ay o));obtain⟨bS,bT,_,bG,⟨a2,a3,rfl,bL⟩,bH⟩:=Sl.CR p rfl bE;refine wD (fun st=>BA (k:=i7) Tryz.underlying23 E8 (eR st) bG (eR st) bD bF)<|wD (fun st=>BF (v:=.slice a2 bC.length a3) CU (eR st) bH rfl)<|wD (fun st=>Bn Tryz.underlying31 (eR st))<|wD (fun st=>Fj (eR st) (eR st))<|wn ?_;rcases Ae (decide ((6:Int)<(bC.length:Int))) with aE|aE
       ·replace a:=Am a aE;refine Ah rfl aE<|cr<|wA (v:=.bool false) rfl<|wn<|Ap<|CO<|AG ?_;obtain rfl:=oi a;refine BG (fun st=>?_);exact .inl ⟨rfl,false,rfl,qo st,sp st 2 rfl,rfl⟩
       ·replace a:=An a aE;refine Ao rfl aE<|Ce<|CG<|Ai<|wM (v:=I n) z ?_;replace a:=AJ a;obtain⟨bI,a⟩:=a;refine wD (fun st=>BK (eR st) (eR st) bI)<|wA (v:=I (n+1)) rfl<|Bc ?_;refine Br aZ (Nat.lt_succ_self _) (fun st=>?_);exact⟨(n+1),a,qo st,sp st 1 r,sp st 3 rfl,rfl⟩
      ·replace a:=An a aD;refine Ao rfl aD<|DA ?_;obtain rfl:=oi a;refine BG (fun st=>?_);exact .inr ⟨rfl,(),rfl,qo st,sp st 1 r,rfl⟩
    case a9=>
     rintro aY bM _ (⟨rfl,u,rfl,aA,aM,rfl⟩|⟨rfl,u,rfl,aA,aF,rfl⟩)
     ·skip
      replace a:=CM a;refine lf aA<|CO ?_;obtain rfl:=oi a;refine Au rfl aM ?_;exact⟨aB.AZ,rfl⟩
     ·skip
      replace a:=CN a;refine lf aA<|Be<|BM<|cr<|wD (fun st=>AO (l:=(AU h i c d j m b)) HN (ee st aF) o.bk rfl rfl) ?_;have ⟨x,p,y⟩:=Er aH s aI (Ay o);replace a:=bind_some a;obtain⟨aN,a4,a⟩:=a;refine wE (fun st=>Ak UY (eR st) (Cd (eR st)) (a24 aP b h i c d j m ZA _ x.all p.all y.all aN a4)) ?_;rintro _ bQ ⟨aG,rfl⟩;have aW:=aB.ext aG;refine wD (fun st=>Cx (eR st) (eR st))<|wM (v:=.bool (aN !=0)) rfl ?_;rcases Ae (aN !=0) with e|e
      ·replace a:=Am a e;refine wF e<|wF e<|wF e<|wD (fun st=>AR (v:=.bool true) (eR st) e (eR st))<|wA (v:=.bool true) rfl<|wn<|Ap ?_;obtain rfl:=oi a;refine Au rfl rfl ?_;exact⟨aW.AZ,rfl⟩
      ·replace a:=An a e;have aU:=(o.bk.ext aG);refine wG e (fun st=>AO (l:=(AU h i c d j m b)) HN (ee st aF) aU rfl rfl) ?_;have ⟨aJ,aK,aL⟩:=Er x p y (Ac aG);replace a:=bind_some a;obtain⟨aO,a5,a⟩:=a;refine wX e (fun st=>Ak RQ (eR st) (Cd (eR st)) (a59 aP b h i c d j m ZA _ aJ.all aK.all aL.all aO a5)) ?_;rintro _ bR ⟨a6,rfl⟩;have bJ:=aW.ext a6;refine wG e (fun st=>HS (eR st) (eR st))<|wD (fun st=>Bg (v:=.bool (decide (aO≤150))) (eR st) e (eR st))<|wA (v:=.bool (decide (aO≤150))) rfl<|wn<|Ap ?_;obtain rfl:=oi a;refine Au rfl rfl ?_;exact⟨bJ.AZ,rfl⟩
theorem a51 u c a b(Z:Nat→Prop) w(h:Sl (Al .i64) w Z a b c) p(d:GD u c=some p):
 BN Tryz.prog 51 #[.slice a c.length b] w (fun v w'=>Ext w w'∧(FE (Al .i64)).R w' (zf Z w []) v p):=by
 unfold GD at d;refine rq (N:=5) Tryz.func51 fun z ha aA=>?_;have o:=sA 0 ha;clear ha;have q:Hp FN [] w [] w:=Hp.start (Bw.none w);have e:=h.mv (Bu (Z:=Z) (L:=[]) w);refine cr<|wA (v:=.slice none 0 0) rfl<|wr<|wM (v:=.slice a c.length b) o ?_;have g:=q.nil;have r:Bp (Al .i64) 3 w.heap.size w (zf Z w [none]) none 0 ([]:List Int):=Bp.nil _ _ _ _ _;replace d:=B9 d;obtain⟨i,d⟩:=d;have f:=(e.mv Bv);refine wE (fun st=>H4 (ys:=c) Tryz.underlying31 It rfl rfl (by decide) (eR st) rfl (eR st) r f.n (by have:=i;simp only[maxLen];omega) (by have:=i;omega) g.sz) ?_;rintro _ aB ⟨x,y,rfl,j,l,s⟩;have m:=g.row j 0 rfl l;have t:=Ed s (g.CL j 0 rfl (fun k hk=>(l k hk).1));refine wA (v:=.slice x ((([]:List Int)++c).length) y) rfl<|wn<|Ap ?_;obtain rfl:=oi d;refine Au rfl rfl ?_;exact⟨m.AZ,⟨_,_,rfl,m.Jz (M:=[]) 0 rfl [] rfl trivial t⟩⟩
theorem Qn q a(Z:Nat→Prop) w i(j:Dv q a=some i):
 BN Tryz.prog 66 #[.agg #[I a.Lo,I a.Hi]] w (fun v w'=>Ext w w'∧(DB Ax).R w' (zf Z w []) v i):=by
 unfold Dv at j;refine rq (N:=8) Tryz.func66 fun r ha s=>?_;have h:=sA 0 ha;clear ha;have e:Hp FN [] w [] w:=Hp.start (Bw.none w);refine cr<|wE (fun st=>BL (v:=.agg #[I a.Lo,I a.Hi]) (cs:= #[I a.Lo,I a.Hi]) (ee st h) rfl) ?_;rintro _ w1 ⟨b1,rfl,d⟩;have f:=e.nb d;have o:=e.BH d;refine wE (fun st=>BZ (cs:= #[I 0,I 0]) Jx rfl) ?_;rintro _ w2 ⟨b2,rfl,b⟩;have k:=f.nb b;have p:=f.BH b;refine wr<|wD (fun st=>Ad (eR st) (I5 _ _)) ?_;have c:=(d.bk.ext b.gr);refine wD (fun st=>Ag (v:=I a.Lo) Bq (eR st) c rfl)<|wD (fun st=>Ad (eR st) (KO _ _))<|wD (fun st=>Ag (v:=I a.Hi) Bq (eR st) c rfl)<|wD (fun st=>Dz (vs:= #[(0,I a.Lo),(1,I a.Hi)]) (v:=.agg #[I a.Lo,I a.Hi]) (Hv (eR st) (eR st)) (by kernel_rfl))<|BD rfl rfl (fun st=>Bt (n:=2) (l:=[I a.Lo,I a.Hi]) (Cm:= #[I a.Lo,I a.Hi]) (eR st) (eR st) GO b.bk rfl rfl (show 0+2≤2 by decide) (AY rfl) rfl) ?_;rintro _ t g;have m:=k.gr g.gr 0 rfl;refine wn<|Ap ?_;obtain rfl:=oi j;refine FD (v:=.agg #[I a.Lo,I a.Hi]) rfl rfl (C4 EC g.bk rfl rfl) ?_;exact⟨m.AZ,⟨_,rfl,rfl⟩⟩
set_option maxHeartbeats 4000000 in
theorem U6 gB r aO aP aQ aR aS aT aZ a0 a2 a3 a4 a5(Z:Nat→Prop) w(jK:Sl Ax w Z aO aP r.Aj)(jL:Sl (Bx (Al .i64)) w Z aQ aR r.Ab)(jM:Sl AF w Z aS aT r.Aq)(jN:Sl AT w Z aZ a0 r.AB)(jO:Sl AW w Z a2 a3 r.AE)(jP:Sl Bj w Z a4 a5 r.AK) l6(q:Eh gB r=some l6):
 BN Tryz.prog 38 #[.agg (Ar aO aP aQ aR aS aT aZ a0 a2 a3 a4 a5 r).toArray] w (fun v w'=>Ext w w'∧(DB PA).R w' (zf Z w []) v l6):=by
 unfold Eh at q;refine rq (N:=90) Tryz.func38 fun mW ha mX=>?_;have kB:=sA 0 ha;clear ha;have jX:Hp FN [] w [] w:=Hp.start (Bw.none w);have ⟨eO,eP,eQ,hV,hW,hX⟩:=CA jK jL jM jN jO jP (Bu (Z:=Z) (L:=[]) w);refine cr<|wE (fun st=>BL (v:=.agg (Ar aO aP aQ aR aS aT aZ a0 a2 a3 a4 a5 r).toArray) (cs:=(Ar aO aP aQ aR aS aT aZ a0 a2 a3 a4 a5 r).toArray) (ee st kB) rfl) ?_;rintro _ w1 ⟨b1,rfl,eS⟩;have jY:=jX.nb eS;have mK:=jX.BH eS;refine wE (fun st=>BZ (cs:= #[.slice none 0 0,.slice none 0 0,.slice none 0 0,I 0,.slice none 0 0,.slice none 0 0,.slice none 0 0]) P1 rfl) ?_;rintro _ w2 ⟨b2,rfl,d1⟩;have l7:=jY.nb d1;have mL:=jY.BH d1;refine wn<|Af ?_;have l8:=l7.nil;have hN:=(eS.bk.ext d1.gr);have ⟨hY,hZ,h3⟩:=Er eO eP eQ (mt (Ay eS) (mt (Ay d1) Bv));replace q:=bind_some q;obtain⟨x,l9,q⟩:=q;obtain⟨mO,bE⟩:∃m9:(Nat→Bool)→(Nat→Value)→World→Prop,m9=(fun D V p=>∃(aK:Option Nat) (m:Nat) (b:Option Addr) (c:Nat) (d:Option Addr) (f:Nat) (g:Option Addr) (i:Nat),Hp FN [] w [aK,some b2,some b1] p∧Ext w2 p∧(∀h4,Mv w2 (ZZ FN [] h4 w.heap.size [none,some b2,some b1]) p (ZZ FN [] h4 w.heap.size [aK,some b2,some b1]))∧(∀eF,aK=some eF→w2.heap.size≤eF)∧(D 6=false→aK=none)∧(D 0=true→V 0=pt b1 0)∧(D 1=true→V 1=.agg #[.slice aO r.Aj.length aP,.slice aQ r.Ab.length aR,.slice aS r.Aq.length aT])∧(D 2=true→V 2=.agg (AU b c d f g i x).toArray∧Sl Ax p (zf Z w [aK,some b2,some b1]) b c x.Az∧Sl (Bx (Al .i64)) p (zf Z w [aK,some b2,some b1]) d f x.Bb∧Sl AF p (zf Z w [aK,some b2,some b1]) g i x.AP)∧(D 3=true→V 3=pt b1 3)∧(D 4=true→V 4=I r.Flat)∧(D 5=true→V 5=.agg #[.slice b x.Az.length c,.slice d x.Bb.length f,.slice g x.AP.length i,I r.Flat,.slice none 0 0,.slice none 0 0,.slice none 0 0])∧(D 6=true→Bk p m 53 #[.slice none 0 0,.slice none 0 0,.slice none 0 0,I 0,.slice none 0 0,.slice none 0 0,.slice none 0 0])∧(D 6=true→V 6=pt m 0∧aK=some m∧w.heap.size≤m)):=⟨_,rfl⟩;refine JT 7 mO mixed rfl rfl (by rw[bE];exact⟨none,0,none,0,none,0,none,0,(l8.ext (C5 _)),C5 _,fun _=>Ac (C5 _),fun _ bB=>(by cases bB),fun _=>rfl,fun bB=>absurd (show false=true from bB) (by decide),fun bB=>absurd (show false=true from bB) (by decide),fun bB=>absurd (show false=true from bB) (by decide),fun bB=>absurd (show false=true from bB) (by decide),fun bB=>absurd (show false=true from bB) (by decide),fun bB=>absurd (show false=true from bB) (by decide),fun bB=>absurd (show false=true from bB) (by decide),fun bB=>absurd (show false=true from bB) (by decide)⟩)
     ⟨sj (k:=0) rfl (fun D V a' w' K y=>by
          rw[bE] at y;refine X4 y fun aK m b c y=>X4 y fun d f g i y=>Y8 y fun a7 bG bH aB aC _ aU aI y=>Y4 y fun aV aW a8 aL y=>?_;have aX:=y;exact(Ad (es ((K.out 1 rfl).trans rfl)) (GJ _ _)).mono fun v BI ⟨c1,c2⟩=>by subst c1;subst c2;rw[bE];exact⟨aK,m,b,c,d,f,g,i,a7,bG,bH,aB,aC,fun _=>rfl,aU,aI,aV,aW,a8,aL,aX⟩),
      sj (k:=1) rfl (fun D V a' w' K y=>by
          rw[bE] at y;refine X4 y fun aK m b c y=>X4 y fun d f g i y=>Y8 y fun a7 bG bH aB aC aY _ aI y=>Y4 y fun aV aW a8 aL y=>?_;have aX:=y;have hO:=aY (K.dn 0 rfl);exact(AO (l:=[.slice aO r.Aj.length aP,.slice aQ r.Ab.length aR,.slice aS r.Aq.length aT]) HN (es (t:=7) (v:=pt b1 0) ((K.dq 0 7).trans hO)) (hN.ext bG) rfl rfl).mono fun v BI ⟨c1,c2⟩=>by subst c1;subst c2;rw[bE];exact⟨aK,m,b,c,d,f,g,i,a7,bG,bH,aB,aC,aY,fun _=>rfl,aI,aV,aW,a8,aL,aX⟩),
      sj (k:=2) rfl (fun D V a' w' K y=>by
          rw[bE] at y;refine X4 y fun aK m b c y=>X4 y fun d f g i y=>Y8 y fun a7 bG bH aB aC aY aU _ y=>Y4 y fun aV aW _ aL y=>?_;have aX:=y;have hP:=aU (K.dn 1 rfl);refine(Ak Aai rfl (Cd (es (t:=8) (v:=.agg #[.slice aO r.Aj.length aP,.slice aQ r.Ab.length aR,.slice aS r.Aq.length aT]) ((K.dq 1 8).trans hP))) (a27 gB (⟨r.Aj,r.Ab,r.Aq⟩:Bh) aO aP aQ aR aS aT _ _ (hY.mv (bH _)) (hZ.mv (bH _)) (h3.mv (bH _)) x l9)).mono ?_;rintro v BI ⟨e1,⟨_,rfl,⟨b,c,d,f,g,i,rfl,cM,cN,cO⟩⟩⟩;rw[bE];exact⟨aK,m,b,c,d,f,g,i,(a7.ext e1),(Ext.trans bG e1),(fun h4=>(bH h4).trans (Ac e1)),aB,aC,aY,aU,fun _=>⟨rfl,cM.mv (a7.DQ (Nat.le_refl _)),cN.mv (a7.DQ (Nat.le_refl _)),cO.mv (a7.DQ (Nat.le_refl _))⟩,aV,aW,fun bB=>(Np K.me (K.down 5 _ rfl bB 2 rfl)).elim,fun bB=>((aL bB).ext e1),aX⟩),
      sj (k:=3) rfl (fun D V a' w' K y=>by
          rw[bE] at y;refine X4 y fun aK m b c y=>X4 y fun d f g i y=>Y8 y fun a7 bG bH aB aC aY aU aI y=>Y4 y fun _ aW a8 aL y=>?_;have aX:=y;exact(Ad (es ((K.out 1 rfl).trans rfl)) (PZ _ _)).mono fun v BI ⟨c1,c2⟩=>by subst c1;subst c2;rw[bE];exact⟨aK,m,b,c,d,f,g,i,a7,bG,bH,aB,aC,aY,aU,aI,fun _=>rfl,aW,a8,aL,aX⟩),
      sj (k:=4) rfl (fun D V a' w' K y=>by
          rw[bE] at y;refine X4 y fun aK m b c y=>X4 y fun d f g i y=>Y8 y fun a7 bG bH aB aC aY aU aI y=>Y4 y fun aV _ a8 aL y=>?_;have aX:=y;have hQ:=aV (K.dn 3 rfl);exact(Ag (v:=I r.Flat) Bq (es (t:=10) (v:=pt b1 3) ((K.dq 3 10).trans hQ)) (hN.ext bG) rfl).mono fun v BI ⟨c1,c2⟩=>by subst c1;subst c2;rw[bE];exact⟨aK,m,b,c,d,f,g,i,a7,bG,bH,aB,aC,aY,aU,aI,aV,fun _=>rfl,a8,aL,aX⟩),
      sj (k:=5) rfl (fun D V a' w' K y=>by
          rw[bE] at y;refine X4 y fun aK m b c y=>X4 y fun d f g i y=>Y8 y fun a7 bG bH aB aC aY aU aI y=>Y4 y fun aV aW _ aL y=>?_;have aX:=y;obtain⟨hR,cM,cN,cO⟩:=aI (K.dn 2 rfl);have hS:=aW (K.dn 4 rfl);exact(Dz (vs:= #[(0,.agg (AU b c d f g i x).toArray),(1,I r.Flat)]) (v:=.agg #[.slice b x.Az.length c,.slice d x.Bb.length f,.slice g x.AP.length i,I r.Flat,.slice none 0 0,.slice none 0 0,.slice none 0 0]) (Hv (es (t:=9) (v:=.agg (AU b c d f g i x).toArray) ((K.dq 2 9).trans hR)) (es (t:=11) (v:=I r.Flat) ((K.dq 4 11).trans hS))) (by kernel_rfl)).mono fun v BI ⟨c1,c2⟩=>by subst c1;subst c2;rw[bE];exact⟨aK,m,b,c,d,f,g,i,a7,bG,bH,aB,aC,aY,aU,aI,aV,aW,fun _=>rfl,aL,aX⟩),
      sj (k:=6) rfl (fun D V a' w' K y=>by
          rw[bE] at y;refine X4 y fun _ _ b c y=>X4 y fun d f g i y=>Y8 y fun a7 bG bH aB aC aY aU aI y=>Y4 y fun aV aW a8 _ y=>?_;have aX:=y;have kC:=aC K.me;subst kC;refine(BZ (cs:= #[.slice none 0 0,.slice none 0 0,.slice none 0 0,I 0,.slice none 0 0,.slice none 0 0,.slice none 0 0]) P1 rfl).mono ?_;rintro v BI ⟨iP,rfl,e2⟩;have eT:=LH e2;have h5:=e2.gr;rw[bE];exact⟨(some iP),iP,b,c,d,f,g,i,(a7.row h5 0 rfl eT),(Ext.trans bG h5),(fun h4=>(bH h4).trans (a7.CL h5 0 rfl (fun eF d2=>(eT eF d2).1))),(Ig aB bG.size eT),fun bB=>absurd (show true=false from bB) (by decide),aY,aU,fun bB=>⟨(aI bB).1,((aI bB).2.1.mv (a7.CL h5 0 rfl (fun eF d2=>(eT eF d2).1))),((aI bB).2.2.1.mv (a7.CL h5 0 rfl (fun eF d2=>(eT eF d2).1))),((aI bB).2.2.2.mv (a7.CL h5 0 rfl (fun eF d2=>(eT eF d2).1)))⟩,aV,aW,a8,fun _=>e2.bk,fun _=>⟨rfl,rfl,Nat.le_trans a7.sz (Nat.le_of_eq e2.FI.symm)⟩⟩),trivial⟩ ?_
 intro nA nB nC bS bI;rw[bE] at bI;clear bE;refine X4 bI fun aK m b c bI=>X4 bI fun d f g i bI=>Y8 bI fun d3 iQ kD aB aC aY aU aI bI=>Y4 bI fun aV aW a8 aL bI=>?_;have aX:=bI;clear bI;have hO:=aY (bS 0 (by decide));have hP:=aU (bS 1 (by decide));obtain⟨hR,cM,cN,cO⟩:=aI (bS 2 (by decide));have hQ:=aV (bS 3 (by decide));have hS:=aW (bS 4 (by decide));have jQ:=a8 (bS 5 (by decide));obtain⟨hT,iR,l1⟩:=aX (bS 6 (by decide));subst iR;have iS:=aL (bS 6 (by decide));refine BD rfl rfl (fun st=>Bt (n:=7) (l:=[.slice b x.Az.length c,.slice d x.Bb.length f,.slice g x.AP.length i,I r.Flat,.slice none 0 0,.slice none 0 0,.slice none 0 0]) (Cm:= #[.slice b x.Az.length c,.slice d x.Bb.length f,.slice g x.AP.length i,I r.Flat,.slice none 0 0,.slice none 0 0,.slice none 0 0]) (ee st hT) (ee st jQ) T4 iS rfl rfl (show 0+7≤7 by decide) (AY rfl) rfl) ?_;rintro _ mP eU;have mA:=d3.gr eU.gr 0 rfl;refine wn<|Af<|cr<|wA (v:=I 0) rfl<|wn<|AI ?_;have mB:=mA.nil;have mC:Bp AT 48 w.heap.size mP (zf Z w [none,some m,some b2,some b1]) none 0 ([]:List BO):=Bp.nil _ _ _ _ _;replace q:=bind_some q;obtain⟨cD,eV,q⟩:=q;refine BQ (fun fQ aF p=>(fQ=.exit 0∧∃a o,Fo X0 90 aF∧sl aF 1=pt b1 0∧sl aF 2=pt b2 0∧sl aF 3=pt m 0∧Hp FN [] w [ob a,some m,some b2,some b1] p∧(fun z=>Bp AT 48 w.heap.size p z a o cD∧Bk p b1 67 (Ar aO aP aQ aR aS aT aZ a0 a2 a3 a4 a5 r).toArray∧Bk p b2 53 #[.slice none 0 0,.slice none 0 0,.slice none 0 0,I 0,.slice none 0 0,.slice none 0 0,.slice none 0 0]∧Bk p m 53 #[.slice b x.Az.length c,.slice d x.Bb.length f,.slice g x.AP.length i,I r.Flat,.slice a cD.length o,.slice none 0 0,.slice none 0 0]∧Sl Ax p z aO aP r.Aj∧Sl (Bx (Al .i64)) p z aQ aR r.Ab∧Sl AF p z aS aT r.Aq∧Sl AT p z aZ a0 r.AB∧Sl AW p z a2 a3 r.AE∧Sl Bj p z a4 a5 r.AK∧Sl Ax p z b c x.Az∧Sl (Bx (Al .i64)) p z d f x.Bb∧Sl AF p z g i x.AP) (zf Z w [ob a,some m,some b2,some b1]))) ?mD ?mE
 case mD=>
  clear q;refine BP (fun d4 aF p=>∃bX,∃a6,∃aJ bF,Dq r d4 bX a6=some cD∧Fo X0 90 aF∧sl aF 1=pt b1 0∧sl aF 2=pt b2 0∧sl aF 3=pt m 0∧sl aF 4=I bX∧Hp FN [] w [ob aJ,some m,some b2,some b1] p∧(fun z=>Bp AT 48 w.heap.size p z aJ bF a6∧Bk p b1 67 (Ar aO aP aQ aR aS aT aZ a0 a2 a3 a4 a5 r).toArray∧Bk p b2 53 #[.slice none 0 0,.slice none 0 0,.slice none 0 0,I 0,.slice none 0 0,.slice none 0 0,.slice none 0 0]∧Bk p m 53 #[.slice b x.Az.length c,.slice d x.Bb.length f,.slice g x.AP.length i,I r.Flat,.slice aJ a6.length bF,.slice none 0 0,.slice none 0 0]∧Sl Ax p z aO aP r.Aj∧Sl (Bx (Al .i64)) p z aQ aR r.Ab∧Sl AF p z aS aT r.Aq∧Sl AT p z aZ a0 r.AB∧Sl AW p z a2 a3 r.AE∧Sl Bj p z a4 a5 r.AK∧Sl Ax p z b c x.Az∧Sl (Bx (Al .i64)) p z d f x.Bb∧Sl AF p z g i x.AP) (zf Z w [ob aJ,some m,some b2,some b1])) gB ?mF ?mG
  case mF=>
   intro st;have jR:=(((eS.bk.ext d1.gr).ext iQ).gr eU.gr (d3.nq 2 0));have jS:=((d1.bk.ext iQ).gr eU.gr (d3.nq 1 0));have h6:=eU.bk;have ⟨h7,h8,h9,iA,iB,iC⟩:=CA eO eP eQ hV hW hX (mt (Ay eS) (mt (Ay d1) (mt Bv (mt (kD _) (mt (d3.By eU.gr 0 rfl) Bv)))));have ⟨fR,fS,fT⟩:=Er cM cN cO (mt (d3.By eU.gr 0 rfl) Bv);exact⟨(0:Int),([]:List BO),none,0,eV,qo st,sp st 1 rfl,sp st 2 rfl,sp st 3 hT,sp st 4 rfl,mB,mC,jR,jS,h6,h7,h8,h9,iA,iB,iC,fR,fS,fT⟩
  case mG=>
   rintro(_|d4) mY mZ ⟨bX,a6,aJ,bF,eV,kE,c3,hU,dZ,d0,iT,cE,cF,fU,cW,d5,d6,d7,b7,d8,d9,c4,c5,c6⟩
   ·exact absurd (show none=some _ from eV) (by simp)
   rw[Dq.eq_2] at eV;have q:=eV;clear eV;refine ro kE<|Af<|cr<|wM (v:=I bX) d0<|wD (fun st=>Ad (ee st c3) (GK _ _))<|wD (fun st=>Ag (v:=.slice aZ r.AB.length a0) HO (eR st) cF rfl)<|wD (fun st=>Bn Tryz.underlying63 (eR st))<|wD (fun st=>B8 (eR st) (eR st))<|wn ?_;rcases Ae (decide (bX<(r.AB.length:Int))) with fV|fV
   ·replace q:=Am q fV;refine Ah rfl fV<|cn<|Af<|AI ?_;replace q:=Bi q;obtain⟨i10,bJ,kF,kG,kH,q⟩:=q;obtain⟨jZ,j0,_,kI,rfl,kJ⟩:=Sl.elem b7 (by decide) kG;replace q:=Bi q;obtain⟨i11,bK,kK,kL,kM,q⟩:=q;obtain⟨j1,j2,_,kN,rfl,kP⟩:=Sl.elem b7 (by decide) kL;refine BW 16 [Kc (pt m 4),Kc (.slice aJ a6.length bF),Kc (pt b1 4),Kc (.slice aZ r.AB.length a0),Kc (I bX),Kc (pt jZ (j0+i10*2)),Kc (pt jZ (j0+i10*2)),Kc (I bJ.Bd),Kc (pt b1 4),Kc (.slice aZ r.AB.length a0),Kc (I bX),Kc (pt j1 (j2+i11*2)),Kc (pt j1 (j2+i11*2+1)),Kc (I bK.B3),Kc (.agg #[I bJ.Bd,I bK.B3]),Kv (FE AT) (zf Z w [ob aJ,some m,some b2,some b1]) [(⟨bJ.Bd,bK.B3⟩:BO)]] mixed rfl rfl
        (Aa (oD (fun K=>Ad (es ((K.out 3 rfl).trans dZ)) (Lt _ _)))
        (Aa (oD (fun K=>Ag LL (es (K.dq 0 20)) (cW.ext K.AV) rfl))
        (Aa (oD (fun K=>Ad (es ((K.out 1 rfl).trans c3)) (GK _ _)))
        (Aa (oD (fun K=>Ag HO (es (K.dq 2 22)) (cF.ext K.AV) rfl))
        (Aa (oD (fun K=>AA (es ((K.out 4 rfl).trans d0))))
        (Aa (oD (fun K=>BC (k:=i10) Tryz.underlying63 J7 (es (K.dq 3 23)) kI (es (K.dq 4 24)) kF kH))
        (Aa (oD (fun K=>Ad (es (K.dq 5 25)) (LP _ _ _)))
        (Aa (oD (fun K=>BF Bq (es (K.dq 6 26)) (kJ.mv (Ac K.AV)) rfl))
        (Aa (oD (fun K=>Ad (es ((K.out 1 rfl).trans c3)) (GK _ _)))
        (Aa (oD (fun K=>Ag HO (es (K.dq 8 28)) (cF.ext K.AV) rfl))
        (Aa (oD (fun K=>AA (es ((K.out 4 rfl).trans d0))))
        (Aa (oD (fun K=>BC (k:=i11) Tryz.underlying63 J7 (es (K.dq 9 29)) kN (es (K.dq 10 30)) kK kM))
        (Aa (oD (fun K=>Ad (es (K.dq 11 31)) (OH _ _ _)))
        (Aa (oD (fun K=>EG Bq (es (K.dq 12 32)) (kP.mv (Ac K.AV)) rfl))
        (Aa (oD (fun K=>Dz (vs:= #[(0,I bJ.Bd),(1,I bK.B3)]) (v:=.agg #[I bJ.Bd,I bK.B3]) (Hv (es (K.dq 7 27)) (es (K.dq 13 33))) (by kernel_rfl)))
        (Aa (JK rfl rfl (fun a' w' ph K=>(B1 (e:=48) (vs:= #[(0,.agg #[I bJ.Bd,I bK.B3])]) (cs:= #[I bJ.Bd,I bK.B3]) (IP (es (K.dq 14 34))) (by kernel_rfl)).mono (fun u BI ⟨iP,hu,c7⟩=>⟨⟨_,_,hu,GS (xs:=[(⟨bJ.Bd,bK.B3⟩:BO)]) (BJ:=[[I bJ.Bd,I bK.B3]]) c7.bk ((iT.ext K.AV).kn (Nat.le_of_eq c7.FI.symm)) (R2.mv (Ac c7.gr) (show R2 AT w' (zf Z w [ob aJ,some m,some b2,some b1]) [[I bJ.Bd,I bK.B3]] [(⟨bJ.Bd,bK.B3⟩:BO)] from⟨rfl,trivial⟩)) rfl (Nat.le_refl _)⟩,c7.gr⟩)))
        (BR _))))))))))))))))) ?_
    intro nD;rintro _ rfl _ rfl _ rfl _ rfl _ rfl _ rfl _ rfl _ rfl _ rfl _ rfl _ rfl _ rfl _ rfl _ rfl _ rfl _ ⟨mH,mI,rfl,iD⟩ eA;have eB:=iT.ext eA;have eG:=(cE.ext eA (Ac eA));replace q:=B9 q;obtain⟨iU,q⟩:=q;refine wE (fun st=>H4 (ys:=[(⟨bJ.Bd,bK.B3⟩:BO)]) Tryz.underlying49 Zi rfl rfl (by decide) (eR st) rfl (eR st) eG iD.n (by have:=iU;simp only[maxLen];omega) (by have:=iU;omega) eB.sz) ?_;rintro _ m0 ⟨iV,iW,rfl,dJ,gC,kQ⟩;have eW:=eB.row dJ 0 rfl gC;have kR:=Ed kQ (eB.CL dJ 0 rfl (fun k hk=>(gC k hk).1));refine wD (fun st=>Ad (ee st dZ) (Lt _ _)) ?_;have iE:=((cW.ext eA).gr dJ (eB.nq 1 0));refine BD rfl rfl (fun st=>Bt (n:=1) (l:=[.slice iV ((a6++[(⟨bJ.Bd,bK.B3⟩:BO)]).length) iW]) (Cm:= #[.slice b x.Az.length c,.slice d x.Bb.length f,.slice g x.AP.length i,I r.Flat,.slice iV ((a6++[(⟨bJ.Bd,bK.B3⟩:BO)]).length) iW,.slice none 0 0,.slice none 0 0]) (eR st) (eR st) Aa9 iE rfl rfl (show 4+1≤7 by decide) (AY rfl) rfl) ?_;rintro _ m1 cX;have kS:=eW.gr cX.gr 1 rfl;refine Bc<|CG<|Ai<|wM (v:=I bX) d0 ?_;replace q:=AJ q;obtain⟨kT,q⟩:=q;refine wD (fun st=>BK (eR st) (eR st) kT)<|wA (v:=I (bX+1)) rfl<|Bc ?_;have iF:=(kR.gr cX.gr (fun k hk=>eW.ne 0 1 rfl (congrArg some hk) rfl) (eW.By cX.gr 1 rfl));have iX:=(((cF.ext eA).gr dJ (eB.nq 3 0)).gr cX.gr (eW.nq 3 1));have iY:=(((fU.ext eA).gr dJ (eB.nq 2 0)).gr cX.gr (eW.nq 2 1));have ⟨gD,gE,gF,gG,gH,gI,e3,e4,e5⟩:=O2 d5 d6 d7 b7 d8 d9 c4 c5 c6 (mt (Ac eA) (mt (eB.CL dJ 0 rfl (fun k hk=>(gC k hk).1)) (eW.By cX.gr 1 rfl)));refine Br d4 (Nat.lt_succ_self _) (fun st=>?_);exact⟨(bX+1),(a6++[(⟨bJ.Bd,bK.B3⟩:BO)]),iV,iW,q,qo st,sp st 1 c3,sp st 2 hU,sp st 3 dZ,sp st 4 rfl,kS,iF,iX,iY,cX.bk,gD,gE,gF,gG,gH,gI,e3,e4,e5⟩
   ·replace q:=An q fV;refine Ao rfl fV<|DA ?_;obtain rfl:=oi q;refine BG (fun st=>?_);exact⟨rfl,aJ,bF,qo st,sp st 1 c3,sp st 2 hU,sp st 3 dZ,iT,cE,cF,fU,cW,d5,d6,d7,b7,d8,d9,c4,c5,c6⟩
 case mE=>
  rintro fQ mQ mJ (⟨rfl,a,o,jT,iZ,i0,i1,kU,dK,i2,i3,gJ,gK,gL,gM,gN,gO,gP,e6,e7,e8⟩);refine lf jT<|Be<|BM<|Af<|cr<|wA (v:=I 0) rfl<|wn<|AI ?_;have kV:=kU.nil;have kW:Bp AW 134 w.heap.size mJ (zf Z w [none,ob a,some m,some b2,some b1]) none 0 ([]:List B2):=Bp.nil _ _ _ _ _;replace q:=bind_some q;obtain⟨cC,dL,q⟩:=q;refine BQ (fun fQ aF p=>(fQ=.exit 2∧∃j s,Fo X0 90 aF∧sl aF 1=pt b1 0∧sl aF 2=pt b2 0∧sl aF 3=pt m 0∧Hp FN [] w [ob j,ob a,some m,some b2,some b1] p∧(fun z=>Bp AW 134 w.heap.size p z j s cC∧Bp AT 48 w.heap.size p z a o cD∧Bk p b1 67 (Ar aO aP aQ aR aS aT aZ a0 a2 a3 a4 a5 r).toArray∧Bk p b2 53 #[.slice none 0 0,.slice none 0 0,.slice none 0 0,I 0,.slice none 0 0,.slice none 0 0,.slice none 0 0]∧Bk p m 53 #[.slice b x.Az.length c,.slice d x.Bb.length f,.slice g x.AP.length i,I r.Flat,.slice a cD.length o,.slice j cC.length s,.slice none 0 0]∧Sl Ax p z aO aP r.Aj∧Sl (Bx (Al .i64)) p z aQ aR r.Ab∧Sl AF p z aS aT r.Aq∧Sl AT p z aZ a0 r.AB∧Sl AW p z a2 a3 r.AE∧Sl Bj p z a4 a5 r.AK∧Sl Ax p z b c x.Az∧Sl (Bx (Al .i64)) p z d f x.Bb∧Sl AF p z g i x.AP) (zf Z w [ob j,ob a,some m,some b2,some b1]))) ?kX ?kY
  case kX=>
   clear q;refine BP (fun d4 aF p=>∃bC,∃aM,∃aD a9,Dh r d4 bC aM=some cC∧Fo X0 90 aF∧sl aF 1=pt b1 0∧sl aF 2=pt b2 0∧sl aF 3=pt m 0∧sl aF 5=I bC∧Hp FN [] w [ob aD,ob a,some m,some b2,some b1] p∧(fun z=>Bp AT 48 w.heap.size p z a o cD∧Bp AW 134 w.heap.size p z aD a9 aM∧Bk p b1 67 (Ar aO aP aQ aR aS aT aZ a0 a2 a3 a4 a5 r).toArray∧Bk p b2 53 #[.slice none 0 0,.slice none 0 0,.slice none 0 0,I 0,.slice none 0 0,.slice none 0 0,.slice none 0 0]∧Bk p m 53 #[.slice b x.Az.length c,.slice d x.Bb.length f,.slice g x.AP.length i,I r.Flat,.slice a cD.length o,.slice aD aM.length a9,.slice none 0 0]∧Sl Ax p z aO aP r.Aj∧Sl (Bx (Al .i64)) p z aQ aR r.Ab∧Sl AF p z aS aT r.Aq∧Sl AT p z aZ a0 r.AB∧Sl AW p z a2 a3 r.AE∧Sl Bj p z a4 a5 r.AK∧Sl Ax p z b c x.Az∧Sl (Bx (Al .i64)) p z d f x.Bb∧Sl AF p z g i x.AP) (zf Z w [ob aD,ob a,some m,some b2,some b1])) gB ?kZ ?k0
   case kZ=>
    intro st;have dM:=(dK.up Bv);have i4:=i2;have i5:=i3;have gQ:=gJ;have ⟨gR,gS,gT,gU,gV,gW,e9,fA,fB⟩:=O2 gK gL gM gN gO gP e6 e7 e8 Bv;exact⟨(0:Int),([]:List B2),none,0,dL,qo st,sp st 1 iZ,sp st 2 i0,sp st 3 i1,sp st 5 rfl,kV,dM,kW,i4,i5,gQ,gR,gS,gT,gU,gV,gW,e9,fA,fB⟩
   case k0=>
    rintro(_|d4) mR mS ⟨bC,aM,aD,a9,dL,jU,cG,fW,c8,c9,gX,bT,b4,b5,eX,cH,dS,dT,dU,dV,bU,dW,cQ,cR,cS⟩
    ·exact absurd (show none=some _ from dL) (by simp)
    rw[Dh.eq_2] at dL;have q:=dL;clear dL;refine ro jU<|Af<|cr<|wM (v:=I bC) c9<|wD (fun st=>Ad (ee st cG) (Ij _ _))<|wD (fun st=>Ag (v:=.slice a2 r.AE.length a3) I8 (eR st) b5 rfl)<|wD (fun st=>Bn Tryz.underlying64 (eR st))<|wD (fun st=>B8 (eR st) (eR st))<|wn ?_;rcases Ae (decide (bC<(r.AE.length:Int))) with eC|eC
    ·replace q:=Am q eC;refine Ah rfl eC<|cn<|Af<|AI ?_;replace q:=Bi q;obtain⟨i20,bL,k1,k2,k3,q⟩:=q;obtain⟨j3,j4,_,k4,rfl,k5⟩:=Sl.elem bU (by decide) k2;replace q:=Bi q;obtain⟨i21,bM,k6,k7,k8,q⟩:=q;obtain⟨j5,j6,_,k9,rfl,lA⟩:=Sl.elem bU (by decide) k7;refine BW 16 [Kc (pt m 5),Kc (.slice aD aM.length a9),Kc (pt b1 5),Kc (.slice a2 r.AE.length a3),Kc (I bC),Kc (pt j3 (j4+i20*2)),Kc (pt j3 (j4+i20*2)),Kc (I bL.Cr),Kc (pt b1 5),Kc (.slice a2 r.AE.length a3),Kc (I bC),Kc (pt j5 (j6+i21*2)),Kc (pt j5 (j6+i21*2+1)),Kc (I bM.CE),Kc (.agg #[I bL.Cr,I bM.CE]),Kv (FE AW) (zf Z w [ob aD,ob a,some m,some b2,some b1]) [(⟨bL.Cr,bM.CE⟩:B2)]] mixed rfl rfl
         (Aa (oD (fun K=>Ad (es ((K.out 3 rfl).trans c8)) (KM _ _)))
         (Aa (oD (fun K=>Ag LM (es (K.dq 0 45)) (cH.ext K.AV) rfl))
         (Aa (oD (fun K=>Ad (es ((K.out 1 rfl).trans cG)) (Ij _ _)))
         (Aa (oD (fun K=>Ag I8 (es (K.dq 2 47)) (b5.ext K.AV) rfl))
         (Aa (oD (fun K=>AA (es ((K.out 5 rfl).trans c9))))
         (Aa (oD (fun K=>BC (k:=i20) Tryz.underlying64 LR (es (K.dq 3 48)) k4 (es (K.dq 4 49)) k1 k3))
         (Aa (oD (fun K=>Ad (es (K.dq 5 50)) (OJ _ _ _)))
         (Aa (oD (fun K=>BF Bq (es (K.dq 6 51)) (k5.mv (Ac K.AV)) rfl))
         (Aa (oD (fun K=>Ad (es ((K.out 1 rfl).trans cG)) (Ij _ _)))
         (Aa (oD (fun K=>Ag I8 (es (K.dq 8 53)) (b5.ext K.AV) rfl))
         (Aa (oD (fun K=>AA (es ((K.out 5 rfl).trans c9))))
         (Aa (oD (fun K=>BC (k:=i21) Tryz.underlying64 LR (es (K.dq 9 54)) k9 (es (K.dq 10 55)) k6 k8))
         (Aa (oD (fun K=>Ad (es (K.dq 11 56)) (RU _ _ _)))
         (Aa (oD (fun K=>EG Bq (es (K.dq 12 57)) (lA.mv (Ac K.AV)) rfl))
         (Aa (oD (fun K=>Dz (vs:= #[(0,I bL.Cr),(1,I bM.CE)]) (v:=.agg #[I bL.Cr,I bM.CE]) (Hv (es (K.dq 7 52)) (es (K.dq 13 58))) (by kernel_rfl)))
         (Aa (JK rfl rfl (fun a' w' ph K=>(B1 (e:=134) (vs:= #[(0,.agg #[I bL.Cr,I bM.CE])]) (cs:= #[I bL.Cr,I bM.CE]) (IP (es (K.dq 14 59))) (by kernel_rfl)).mono (fun u BI ⟨iP,hu,c7⟩=>⟨⟨_,_,hu,GS (xs:=[(⟨bL.Cr,bM.CE⟩:B2)]) (BJ:=[[I bL.Cr,I bM.CE]]) c7.bk ((gX.ext K.AV).kn (Nat.le_of_eq c7.FI.symm)) (R2.mv (Ac c7.gr) (show R2 AW w' (zf Z w [ob aD,ob a,some m,some b2,some b1]) [[I bL.Cr,I bM.CE]] [(⟨bL.Cr,bM.CE⟩:B2)] from⟨rfl,trivial⟩)) rfl (Nat.le_refl _)⟩,c7.gr⟩)))
         (BR _))))))))))))))))) ?_
     intro m2;rintro _ rfl _ rfl _ rfl _ rfl _ rfl _ rfl _ rfl _ rfl _ rfl _ rfl _ rfl _ rfl _ rfl _ rfl _ rfl _ ⟨l2,l3,rfl,gY⟩ b8;have b9:=gX.ext b8;have dX:=(b4.ext b8 (Ac b8));replace q:=B9 q;obtain⟨i6,q⟩:=q;refine wE (fun st=>H4 (ys:=[(⟨bL.Cr,bM.CE⟩:B2)]) Tryz.underlying50 Wm rfl rfl (by decide) (eR st) rfl (eR st) dX gY.n (by have:=i6;simp only[maxLen];omega) (by have:=i6;omega) b9.sz) ?_;rintro _ m3 ⟨i7,i8,rfl,cI,fC,lB⟩;have cJ:=b9.row cI 0 rfl fC;have lC:=Ed lB (b9.CL cI 0 rfl (fun k hk=>(fC k hk).1));refine wD (fun st=>Ad (ee st c8) (KM _ _)) ?_;have gZ:=((cH.ext b8).gr cI (b9.nq 2 0));refine BD rfl rfl (fun st=>Bt (n:=1) (l:=[.slice i7 ((aM++[(⟨bL.Cr,bM.CE⟩:B2)]).length) i8]) (Cm:= #[.slice b x.Az.length c,.slice d x.Bb.length f,.slice g x.AP.length i,I r.Flat,.slice a cD.length o,.slice i7 ((aM++[(⟨bL.Cr,bM.CE⟩:B2)]).length) i8,.slice none 0 0]) (eR st) (eR st) Aba gZ rfl rfl (show 5+1≤7 by decide) (AY rfl) rfl) ?_;rintro _ m4 cA;have lD:=cJ.gr cA.gr 2 rfl;refine Bc<|CG<|Ai<|wM (v:=I bC) c9 ?_;replace q:=AJ q;obtain⟨lE,q⟩:=q;refine wD (fun st=>BK (eR st) (eR st) lE)<|wA (v:=I (bC+1)) rfl<|Bc ?_;have dN:=(((bT.ext b8 (Ac b8)).gr cI (fun k hk=>b9.ne 1 0 rfl (congrArg some hk) rfl) (b9.CL cI 0 rfl (fun k hk=>(fC k hk).1))).gr cA.gr (fun k hk=>cJ.ne 1 2 rfl (congrArg some hk) rfl) (cJ.By cA.gr 2 rfl));have iG:=(lC.gr cA.gr (fun k hk=>cJ.ne 0 2 rfl (congrArg some hk) rfl) (cJ.By cA.gr 2 rfl));have i9:=(((b5.ext b8).gr cI (b9.nq 4 0)).gr cA.gr (cJ.nq 4 2));have jA:=(((eX.ext b8).gr cI (b9.nq 3 0)).gr cA.gr (cJ.nq 3 2));have ⟨g0,g1,g2,g3,g4,g5,fD,fE,fF⟩:=O2 dS dT dU dV bU dW cQ cR cS (mt (Ac b8) (mt (b9.CL cI 0 rfl (fun k hk=>(fC k hk).1)) (cJ.By cA.gr 2 rfl)));refine Br d4 (Nat.lt_succ_self _) (fun st=>?_);exact⟨(bC+1),(aM++[(⟨bL.Cr,bM.CE⟩:B2)]),i7,i8,q,qo st,sp st 1 cG,sp st 2 fW,sp st 3 c8,sp st 5 rfl,lD,dN,iG,i9,jA,cA.bk,g0,g1,g2,g3,g4,g5,fD,fE,fF⟩
    ·replace q:=An q eC;refine Ao rfl eC<|DA ?_;obtain rfl:=oi q;refine BG (fun st=>?_);exact⟨rfl,aD,a9,qo st,sp st 1 cG,sp st 2 fW,sp st 3 c8,gX,b4,bT,b5,eX,cH,dS,dT,dU,dV,bU,dW,cQ,cR,cS⟩
  case kY=>
   rintro fQ mM lF (⟨rfl,j,s,jB,iH,iI,iJ,jV,cY,dA,iK,iL,fX,fY,fZ,f0,f1,f2,f3,eH,eI,eJ⟩);refine lf jB<|Be<|BM<|Af<|cr<|wA (v:=I 0) rfl<|wn<|AI ?_;have lG:=jV.nil;have lH:Bp Bj 136 w.heap.size lF (zf Z w [none,ob j,ob a,some m,some b2,some b1]) none 0 ([]:List B6):=Bp.nil _ _ _ _ _;replace q:=bind_some q;obtain⟨z26,dO,q⟩:=q;refine BQ (fun fQ aF p=>(fQ=.exit 4∧∃aA aG,Fo X0 90 aF∧sl aF 2=pt b2 0∧sl aF 3=pt m 0∧Hp FN [] w [ob aA,ob j,ob a,some m,some b2,some b1] p∧(fun z=>Bp AW 134 w.heap.size p z j s cC∧Bp Bj 136 w.heap.size p z aA aG z26∧Bp AT 48 w.heap.size p z a o cD∧Bk p b2 53 #[.slice none 0 0,.slice none 0 0,.slice none 0 0,I 0,.slice none 0 0,.slice none 0 0,.slice none 0 0]∧Bk p m 53 #[.slice b x.Az.length c,.slice d x.Bb.length f,.slice g x.AP.length i,I r.Flat,.slice a cD.length o,.slice j cC.length s,.slice aA z26.length aG]∧Sl Ax p z b c x.Az∧Sl (Bx (Al .i64)) p z d f x.Bb∧Sl AF p z g i x.AP) (zf Z w [ob aA,ob j,ob a,some m,some b2,some b1]))) ?lI ?lJ
   case lI=>
    clear q;refine BP (fun d4 aF p=>∃bD,∃aN,∃aE bA,Di gB r d4 bD aN=some z26∧Fo X0 90 aF∧sl aF 1=pt b1 0∧sl aF 2=pt b2 0∧sl aF 3=pt m 0∧sl aF 6=I bD∧Hp FN [] w [ob aE,ob j,ob a,some m,some b2,some b1] p∧(fun z=>Bp AW 134 w.heap.size p z j s cC∧Bp AT 48 w.heap.size p z a o cD∧Bp Bj 136 w.heap.size p z aE bA aN∧Bk p b1 67 (Ar aO aP aQ aR aS aT aZ a0 a2 a3 a4 a5 r).toArray∧Bk p b2 53 #[.slice none 0 0,.slice none 0 0,.slice none 0 0,I 0,.slice none 0 0,.slice none 0 0,.slice none 0 0]∧Bk p m 53 #[.slice b x.Az.length c,.slice d x.Bb.length f,.slice g x.AP.length i,I r.Flat,.slice a cD.length o,.slice j cC.length s,.slice aE aN.length bA]∧Sl Ax p z aO aP r.Aj∧Sl (Bx (Al .i64)) p z aQ aR r.Ab∧Sl AF p z aS aT r.Aq∧Sl AT p z aZ a0 r.AB∧Sl AW p z a2 a3 r.AE∧Sl Bj p z a4 a5 r.AK∧Sl Ax p z b c x.Az∧Sl (Bx (Al .i64)) p z d f x.Bb∧Sl AF p z g i x.AP) (zf Z w [ob aE,ob j,ob a,some m,some b2,some b1])) gB ?lK ?lL
    case lK=>
     intro st;have dB:=(cY.up Bv);have dP:=(dA.up Bv);have jC:=iK;have jD:=iL;have g6:=fX;have ⟨g7,g8,g9,hA,hB,hC,fG,fH,fI⟩:=O2 fY fZ f0 f1 f2 f3 eH eI eJ Bv;exact⟨(0:Int),([]:List B6),none,0,dO,qo st,sp st 1 iH,sp st 2 iI,sp st 3 iJ,sp st 6 rfl,lG,dB,dP,lH,jC,jD,g6,g7,g8,g9,hA,hB,hC,fG,fH,fI⟩
    case lL=>
     rintro(_|d4) mT mU ⟨bD,aN,aE,bA,dO,jW,dC,f4,dD,dE,hD,bN,bV,b6,cP,eY,cK,f5,f6,f7,f8,f9,cL,cT,cU,cV⟩
     ·exact absurd (show none=some _ from dO) (by simp)
     rw[Di.eq_2] at dO;have q:=dO;clear dO;refine ro jW<|Af<|cr<|wM (v:=I bD) dE<|wD (fun st=>Ad (ee st dC) (Ii _ _))<|wD (fun st=>Ag (v:=.slice a4 r.AK.length a5) I7 (eR st) cP rfl)<|wD (fun st=>Bn Tryz.underlying65 (eR st))<|wD (fun st=>B8 (eR st) (eR st))<|wn ?_;rcases Ae (decide (bD<(r.AK.length:Int))) with eD|eD
     ·replace q:=Am q eD;refine Ah rfl eD<|cn<|Af<|AI ?_;replace q:=Bi q;obtain⟨i30,bO,lM,lN,lO,q⟩:=q;obtain⟨j7,j8,_,lP,rfl,lQ⟩:=Sl.elem cL (by decide) lN;replace q:=Bi q;obtain⟨i31,eZ,lR,lS,lT,q⟩:=q;obtain⟨j9,kA,_,lU,rfl,lV⟩:=Sl.elem cL (by decide) lS;replace q:=bind_some q;obtain⟨aH,lW,q⟩:=q;refine BW 17 [Kc (pt m 6),Kc (.slice aE aN.length bA),Kc (pt b1 6),Kc (.slice a4 r.AK.length a5),Kc (I bD),Kc (pt j7 (j8+i30*3)),Kc (pt j7 (j8+i30*3)),Kc (I bO.BY),Kc (pt b1 6),Kc (.slice a4 r.AK.length a5),Kc (I bD),Kc (pt j9 (kA+i31*3)),Kc (pt j9 (kA+i31*3+1)),Kc (.agg #[I eZ.Ck,I eZ.Cl]),Kc (.agg #[I aH.Lo,I aH.Hi]),Kc (.agg #[I bO.BY,I aH.Lo,I aH.Hi]),Kv (FE Bj) (zf Z w [ob aE,ob j,ob a,some m,some b2,some b1]) [(⟨bO.BY,aH.Lo,aH.Hi⟩:B6)]] mixed rfl rfl
          (Aa (oD (fun K=>Ad (es ((K.out 3 rfl).trans dD)) (JY _ _)))
          (Aa (oD (fun K=>Ag LN (es (K.dq 0 70)) (cK.ext K.AV) rfl))
          (Aa (oD (fun K=>Ad (es ((K.out 1 rfl).trans dC)) (Ii _ _)))
          (Aa (oD (fun K=>Ag I7 (es (K.dq 2 72)) (cP.ext K.AV) rfl))
          (Aa (oD (fun K=>AA (es ((K.out 6 rfl).trans dE))))
          (Aa (oD (fun K=>BC (k:=i30) Tryz.underlying65 LQ (es (K.dq 3 73)) lP (es (K.dq 4 74)) lM lO))
          (Aa (oD (fun K=>Ad (es (K.dq 5 75)) (MV _ _ _)))
          (Aa (oD (fun K=>BF Bq (es (K.dq 6 76)) (lQ.mv (Ac K.AV)) rfl))
          (Aa (oD (fun K=>Ad (es ((K.out 1 rfl).trans dC)) (Ii _ _)))
          (Aa (oD (fun K=>Ag I7 (es (K.dq 8 78)) (cP.ext K.AV) rfl))
          (Aa (oD (fun K=>AA (es ((K.out 6 rfl).trans dE))))
          (Aa (oD (fun K=>BC (k:=i31) Tryz.underlying65 LQ (es (K.dq 9 79)) lU (es (K.dq 10 80)) lR lT))
          (Aa (oD (fun K=>Ad (es (K.dq 11 81)) (OI _ _ _)))
          (Aa (oD (fun K=>Ni (l:=[I eZ.Ck,I eZ.Cl]) FW (es (K.dq 12 82)) (lV.mv (Ac K.AV)) rfl rfl))
          (Aa (oE (fun K=>(Ak K9 rfl (Cd (es (K.dq 13 83))) (Qn gB (⟨eZ.Ck,eZ.Cl⟩:AL) ZA _ aH lW)).mono (fun _ _ h=>⟨(by obtain⟨_,rfl,rfl⟩:=h.2;rfl),h.1⟩)))
          (Aa (oD (fun K=>Dz (vs:= #[(0,I bO.BY),(1,.agg #[I aH.Lo,I aH.Hi])]) (v:=.agg #[I bO.BY,I aH.Lo,I aH.Hi]) (Hv (es (K.dq 7 77)) (es (K.dq 14 84))) (by kernel_rfl)))
          (Aa (JK rfl rfl (fun a' w' ph K=>(B1 (e:=136) (vs:= #[(0,.agg #[I bO.BY,I aH.Lo,I aH.Hi])]) (cs:= #[I bO.BY,I aH.Lo,I aH.Hi]) (IP (es (K.dq 15 85))) (by kernel_rfl)).mono (fun u BI ⟨iP,hu,c7⟩=>⟨⟨_,_,hu,GS (xs:=[(⟨bO.BY,aH.Lo,aH.Hi⟩:B6)]) (BJ:=[[I bO.BY,I aH.Lo,I aH.Hi]]) c7.bk ((hD.ext K.AV).kn (Nat.le_of_eq c7.FI.symm)) (R2.mv (Ac c7.gr) (show R2 Bj w' (zf Z w [ob aE,ob j,ob a,some m,some b2,some b1]) [[I bO.BY,I aH.Lo,I aH.Hi]] [(⟨bO.BY,aH.Lo,aH.Hi⟩:B6)] from⟨rfl,trivial⟩)) rfl (Nat.le_refl _)⟩,c7.gr⟩)))
          (BR _)))))))))))))))))) ?_
      intro m5;rintro _ rfl _ rfl _ rfl _ rfl _ rfl _ rfl _ rfl _ rfl _ rfl _ rfl _ rfl _ rfl _ rfl _ rfl _ rfl _ rfl _ ⟨l4,l5,rfl,hE⟩ bP;have bQ:=hD.ext bP;have dY:=(b6.ext bP (Ac bP));replace q:=B9 q;obtain⟨jE,q⟩:=q;refine wE (fun st=>H4 (ys:=[(⟨bO.BY,aH.Lo,aH.Hi⟩:B6)]) Tryz.underlying51 Wn rfl rfl (by decide) (eR st) rfl (eR st) dY hE.n (by have:=jE;simp only[maxLen];omega) (by have:=jE;omega) bQ.sz) ?_;rintro _ m6 ⟨jF,jG,rfl,bY,eE,lX⟩;have bZ:=bQ.row bY 0 rfl eE;have lY:=Ed lX (bQ.CL bY 0 rfl (fun k hk=>(eE k hk).1));refine wD (fun st=>Ad (ee st dD) (JY _ _)) ?_;have hF:=((cK.ext bP).gr bY (bQ.nq 3 0));refine BD rfl rfl (fun st=>Bt (n:=1) (l:=[.slice jF ((aN++[(⟨bO.BY,aH.Lo,aH.Hi⟩:B6)]).length) jG]) (Cm:= #[.slice b x.Az.length c,.slice d x.Bb.length f,.slice g x.AP.length i,I r.Flat,.slice a cD.length o,.slice j cC.length s,.slice jF ((aN++[(⟨bO.BY,aH.Lo,aH.Hi⟩:B6)]).length) jG]) (eR st) (eR st) W5 hF rfl rfl (show 6+1≤7 by decide) (AY rfl) rfl) ?_;rintro _ m7 bR;have lZ:=bZ.gr bR.gr 3 rfl;refine Bc<|CG<|Ai<|wM (v:=I bD) dE ?_;replace q:=AJ q;obtain⟨l0,q⟩:=q;refine wD (fun st=>BK (eR st) (eR st) l0)<|wA (v:=I (bD+1)) rfl<|Bc ?_;have dF:=(((bN.ext bP (Ac bP)).gr bY (fun k hk=>bQ.ne 1 0 rfl (congrArg some hk) rfl) (bQ.CL bY 0 rfl (fun k hk=>(eE k hk).1))).gr bR.gr (fun k hk=>bZ.ne 1 3 rfl (congrArg some hk) rfl) (bZ.By bR.gr 3 rfl));have dQ:=(((bV.ext bP (Ac bP)).gr bY (fun k hk=>bQ.ne 2 0 rfl (congrArg some hk) rfl) (bQ.CL bY 0 rfl (fun k hk=>(eE k hk).1))).gr bR.gr (fun k hk=>bZ.ne 2 3 rfl (congrArg some hk) rfl) (bZ.By bR.gr 3 rfl));have iM:=(lY.gr bR.gr (fun k hk=>bZ.ne 0 3 rfl (congrArg some hk) rfl) (bZ.By bR.gr 3 rfl));have jH:=(((cP.ext bP).gr bY (bQ.nq 5 0)).gr bR.gr (bZ.nq 5 3));have jI:=(((eY.ext bP).gr bY (bQ.nq 4 0)).gr bR.gr (bZ.nq 4 3));have ⟨hG,hH,hI,hJ,hL,hM,fJ,fK,fL⟩:=O2 f5 f6 f7 f8 f9 cL cT cU cV (mt (Ac bP) (mt (bQ.CL bY 0 rfl (fun k hk=>(eE k hk).1)) (bZ.By bR.gr 3 rfl)));refine Br d4 (Nat.lt_succ_self _) (fun st=>?_);exact⟨(bD+1),(aN++[(⟨bO.BY,aH.Lo,aH.Hi⟩:B6)]),jF,jG,q,qo st,sp st 1 dC,sp st 2 f4,sp st 3 dD,sp st 6 rfl,lZ,dF,dQ,iM,jH,jI,bR.bk,hG,hH,hI,hJ,hL,hM,fJ,fK,fL⟩
     ·replace q:=An q eD;refine Ao rfl eD<|DA ?_;obtain rfl:=oi q;refine BG (fun st=>?_);exact⟨rfl,aE,bA,qo st,sp st 2 f4,sp st 3 dD,hD,bN,b6,bV,eY,cK,cT,cU,cV⟩
   case lJ=>
    rintro fQ mN mV (⟨rfl,aA,aG,jJ,e0,iN,bW,cZ,c0,dG,iO,gA,eK,eM,eN⟩);refine lf jJ<|Be<|BM<|cr<|wD (fun st=>AO (l:=[.slice b x.Az.length c,.slice d x.Bb.length f,.slice g x.AP.length i,I r.Flat,.slice a cD.length o,.slice j cC.length s,.slice aA z26.length aG]) Eg (ee st iN) gA rfl rfl)<|BD rfl rfl (fun st=>Bt (n:=7) (l:=[.slice b x.Az.length c,.slice d x.Bb.length f,.slice g x.AP.length i,I r.Flat,.slice a cD.length o,.slice j cC.length s,.slice aA z26.length aG]) (Cm:= #[.slice b x.Az.length c,.slice d x.Bb.length f,.slice g x.AP.length i,I r.Flat,.slice a cD.length o,.slice j cC.length s,.slice aA z26.length aG]) (ee st e0) (eR st) T4 iO rfl rfl (show 0+7≤7 by decide) (AY rfl) rfl) ?_;rintro _ m8 cB;have fM:=bW.gr cB.gr 4 rfl;refine wn<|Ap ?_;obtain rfl:=oi q;refine FD (v:=.agg #[.slice b x.Az.length c,.slice d x.Bb.length f,.slice g x.AP.length i,I r.Flat,.slice a cD.length o,.slice j cC.length s,.slice aA z26.length aG]) rfl e0 (C4 Eg cB.bk rfl rfl) ?_;have ⟨fN,fO,fP⟩:=Er eK eM eN (bW.By cB.gr 4 rfl);have dR:=(dG.gr cB.gr (fun k hk=>bW.ne 2 4 rfl (congrArg some hk) rfl) (bW.By cB.gr 4 rfl));have dH:=(cZ.gr cB.gr (fun k hk=>bW.ne 1 4 rfl (congrArg some hk) rfl) (bW.By cB.gr 4 rfl));have dI:=(c0.gr cB.gr (fun k hk=>bW.ne 0 4 rfl (congrArg some hk) rfl) (bW.By cB.gr 4 rfl));exact⟨fM.AZ,⟨_,rfl,_,_,_,_,_,_,_,_,_,_,_,_,rfl,fN.mv (AX (BB [] trivial)),fO.mv (AX (BB [] trivial)),fP.mv (AX (BB [] trivial)),fM.Jz (M:=[]) 2 rfl [] rfl trivial dR,fM.Jz (M:=[]) 1 rfl [] rfl trivial dH,fM.Jz (M:=[]) 0 rfl [] rfl trivial dI⟩⟩
theorem Qo aP i o c d e f(Z:Nat→Prop) w(aG:Sl (Al .i64) w Z c d i)(aH:Sl (Al .i64) w Z e f o) aQ(a:Ct aP i o=some aQ):
 BN Tryz.prog 41 #[.slice c i.length d,.slice e o.length f] w (fun v w'=>Ext w w'∧BE.R w' (zf Z w []) v aQ):=by
 unfold Ct at a;refine rq (N:=26) Tryz.func41 fun bE ha bF=>?_;have aD:=sA 0 ha;have aE:=sA 1 ha;clear ha;have aI:Hp FN [] w [] w:=Hp.start (Bw.none w);have ⟨y,z⟩:=K5 aG aH (Bu (Z:=Z) (L:=[]) w);refine cr<|wA (v:=.bool false) rfl<|wn<|Af<|cr<|wM (v:=.slice c i.length d) aD<|wD (fun st=>Bn Tryz.underlying31 (eR st))<|wM (v:=.slice e o.length f) aE<|wD (fun st=>Bn Tryz.underlying31 (eR st))<|wD (fun st=>Cx (eR st) (eR st))<|wn ?_;rcases Ae ((i.length:Int) !=(o.length:Int)) with r|r
 ·replace a:=Am a r;refine Ah rfl r<|cr<|wA (v:=.bool false) rfl<|wn<|Ap<|AG ?_;obtain rfl:=oi a;refine Au rfl rfl ?_;exact⟨aI.AZ,rfl⟩
 ·replace a:=An a r;refine Ao rfl r<|cn<|Af<|cr<|wA (v:=I 0) rfl<|wn<|AI ?_;replace a:=bind_some a;obtain⟨z2,m,a⟩:=a;refine BQ (fun aM g aA=>(aM=.ret∧∃n,z2=.inl n∧Fo X0 26 g∧sl g 4=.bool n∧Hp FN [] w [] aA)∨(aM=.exit 0∧∃n,z2=.inr n∧Fo X0 26 g∧Hp FN [] w [] aA)) ?aR ?aS
  case aR=>
   clear a;refine BP (fun aN g aA=>∃b,DH i o aN b=some z2∧Fo X0 26 g∧sl g 0=.slice c i.length d∧sl g 1=.slice e o.length f∧sl g 5=I b∧Hp FN [] w [] aA∧Sl (Al .i64) aA (zf Z w []) c d i∧Sl (Al .i64) aA (zf Z w []) e f o) aP ?aT ?aU
   case aT=>
    intro st;exact⟨(0:Int),m,qo st,sp st 0 aD,sp st 1 aE,sp st 5 rfl,aI,y,z⟩
   case aU=>
    rintro(_|aN) bG bH ⟨b,m,aO,p,x,h,aJ,j,l⟩
    ·exact absurd (show none=some _ from m) (by simp)
    rw[DH.eq_2] at m;have a:=m;clear m;refine ro aO<|Af<|cr<|wM (v:=I b) h<|wM (v:=.slice c i.length d) p<|wD (fun st=>Bn Tryz.underlying31 (eR st))<|wD (fun st=>B8 (eR st) (eR st))<|wn ?_;rcases Ae (decide (b<(i.length:Int))) with s|s
    ·replace a:=Am a s;refine Ah rfl s<|cn<|Af<|AI<|Af ?_;replace a:=Bi a;obtain⟨i5,aV,aW,aX,aY,a⟩:=a;obtain⟨a9,bA,_,aZ,rfl,a0⟩:=Sl.CR j rfl aX;replace a:=Bi a;obtain⟨i6,a2,a3,a4,a5,a⟩:=a;obtain⟨bB,bC,_,a6,rfl,a7⟩:=Sl.CR l rfl a4;refine BW 8 [Kc (.slice c i.length d),Kc (I b),Kc (pt a9 (bA+i5)),Kc (I aV),Kc (.slice e o.length f),Kc (I b),Kc (pt bB (bC+i6)),Kc (I a2)] mixed rfl rfl
         (Aa (oD (fun K=>AA (es ((K.out 0 rfl).trans p))))
         (Aa (oD (fun K=>AA (es ((K.out 5 rfl).trans h))))
         (Aa (oD (fun K=>BA (k:=i5) Tryz.underlying31 Dy (es (K.dq 0 17)) aZ (es (K.dq 1 18)) aW aY))
         (Aa (oD (fun K=>BF Bq (es (K.dq 2 19)) (a0.mv (Ac K.AV)) rfl))
         (Aa (oD (fun K=>AA (es ((K.out 1 rfl).trans x))))
         (Aa (oD (fun K=>AA (es ((K.out 5 rfl).trans h))))
         (Aa (oD (fun K=>BA (k:=i6) Tryz.underlying31 Dy (es (K.dq 4 21)) a6 (es (K.dq 5 22)) a3 a5))
         (Aa (oD (fun K=>BF Bq (es (K.dq 6 23)) (a7.mv (Ac K.AV)) rfl))
         (BR _))))))))) ?_
     intro bJ;rintro _ rfl _ rfl _ rfl _ rfl _ rfl _ rfl _ rfl _ rfl aK;have aL:=aJ.ext aK;refine wD (fun st=>Cx (eR st) (eR st))<|wn ?_;rcases Ae (aV !=a2) with t|t
     ·replace a:=Am a t;refine Ah rfl t<|cr<|wA (v:=.bool false) rfl<|wn<|Ap<|CO<|AG ?_;obtain rfl:=oi a;refine BG (fun st=>?_);exact .inl ⟨rfl,false,rfl,qo st,sp st 4 rfl,aL⟩
     ·replace a:=An a t;refine Ao rfl t<|Ce<|CG<|Ai<|wM (v:=I b) h ?_;replace a:=AJ a;obtain⟨a8,a⟩:=a;refine wD (fun st=>BK (eR st) (eR st) a8)<|wA (v:=I (b+1)) rfl<|Bc ?_;have ⟨aB,aC⟩:=K5 j l (Ac aK);refine Br aN (Nat.lt_succ_self _) (fun st=>?_);exact⟨(b+1),a,qo st,sp st 0 p,sp st 1 x,sp st 5 rfl,aL,aB,aC⟩
    ·replace a:=An a s;refine Ao rfl s<|DA ?_;obtain rfl:=oi a;refine BG (fun st=>?_);exact .inr ⟨rfl,(),rfl,qo st,aJ⟩
  case aS=>
   rintro aM bD bI (⟨rfl,n,rfl,q,aF,u⟩|⟨rfl,n,rfl,q,u⟩)
   ·skip
    replace a:=CM a;refine lf q<|CO ?_;obtain rfl:=oi a;refine Au rfl aF ?_;exact⟨u.AZ,rfl⟩
   ·skip
    replace a:=CN a;refine lf q<|Be<|BM<|cr<|wA (v:=.bool true) rfl<|wn<|Ap ?_;obtain rfl:=oi a;refine Au rfl rfl ?_;exact⟨u.AZ,rfl⟩
theorem a36 aQ a f g h i j k m n o p q r(Z:Nat→Prop) w(aD:Sl Ax w Z f g a.Aj)(aE:Sl (Bx (Al .i64)) w Z h i a.Ab)(aF:Sl AF w Z j k a.Aq)(aG:Sl AT w Z m n a.AB)(aH:Sl AW w Z o p a.AE)(aI:Sl Bj w Z q r a.AK) aR(b:GF aQ a=some aR):
 BN Tryz.prog 36 #[.agg (Ar f g h i j k m n o p q r a).toArray] w (fun v w'=>Ext w w'∧BE.R w' (zf Z w []) v aR):=by
 unfold GF at b;refine rq (N:=24) Tryz.func36 fun aV ha aW=>?_;have aL:=sA 0 ha;clear ha;have aJ:Hp FN [] w [] w:=Hp.start (Bw.none w);have ⟨x,y,z,aN,aO,aP⟩:=CA aD aE aF aG aH aI (Bu (Z:=Z) (L:=[]) w);refine cr<|wE (fun st=>BL (v:=.agg (Ar f g h i j k m n o p q r a).toArray) (cs:=(Ar f g h i j k m n o p q r a).toArray) (ee st aL) rfl) ?_;rintro _ w1 ⟨b1,rfl,t⟩;have aS:=aJ.nb t;have aU:=aJ.BH t;refine wA (v:=.bool false) rfl<|wr<|wD (fun st=>Ad (eR st) (GJ _ _))<|wD (fun st=>AO (l:=[.slice f a.Aj.length g,.slice h a.Ab.length i,.slice j a.Aq.length k]) HN (eR st) t.bk rfl rfl) ?_;have ⟨aA,aB,aC⟩:=Er x y z (Ay t);replace b:=bind_some b;obtain⟨aM,aT,b⟩:=b;refine wE (fun st=>Ak Aaj (eR st) (Cd (eR st)) (a23 aQ (⟨a.Aj,a.Ab,a.Aq⟩:Bh) f g h i j k ZA _ aA.all aB.all aC.all aM aT)) ?_;rintro _ aX ⟨aK,rfl⟩;have u:=aS.ext aK;refine wM (v:=.bool aM) rfl ?_;rcases Ae (aM) with c|c
 ·replace b:=Am b c;refine wG c (fun st=>Ad (eR st) (GK _ _)) ?_;have s:=(t.bk.ext aK);refine wG c (fun st=>Ag (v:=.slice m a.AB.length n) HO (eR st) s rfl)<|wG c (fun st=>Bn Tryz.underlying63 (eR st))<|wG c (fun st=>HS (eR st) (eR st))<|wD (fun st=>AR (v:=.bool (decide ((a.AB.length:Int)≤5))) (eR st) c (eR st))<|wM (v:=.bool (decide ((a.AB.length:Int)≤5))) rfl ?_;rcases Ae (decide ((a.AB.length:Int)≤5)) with d|d
  ·replace b:=Am b d;refine wG d (fun st=>Ad (eR st) (Ij _ _))<|wG d (fun st=>Ag (v:=.slice o a.AE.length p) I8 (eR st) s rfl)<|wG d (fun st=>Bn Tryz.underlying64 (eR st))<|wG d (fun st=>HS (eR st) (eR st))<|wD (fun st=>AR (v:=.bool (decide ((a.AE.length:Int)≤5))) (eR st) d (eR st))<|wM (v:=.bool (decide ((a.AE.length:Int)≤5))) rfl ?_;rcases Ae (decide ((a.AE.length:Int)≤5)) with e|e
   ·replace b:=Am b e;refine wG e (fun st=>Ad (eR st) (Ii _ _))<|wG e (fun st=>Ag (v:=.slice q a.AK.length r) I7 (eR st) s rfl)<|wG e (fun st=>Bn Tryz.underlying65 (eR st))<|wG e (fun st=>HS (eR st) (eR st))<|wD (fun st=>AR (v:=.bool (decide ((a.AK.length:Int)≤7))) (eR st) e (eR st))<|wA (v:=.bool (decide ((a.AK.length:Int)≤7))) rfl<|wn<|Ap ?_;obtain rfl:=oi b;refine Au rfl rfl ?_;exact⟨u.AZ,rfl⟩
   ·replace b:=An b e;refine wF e<|wF e<|wF e<|wF e<|wD (fun st=>Bg (v:=.bool false) (eR st) e (eR st))<|wA (v:=.bool false) rfl<|wn<|Ap ?_;obtain rfl:=oi b;refine Au rfl rfl ?_;exact⟨u.AZ,rfl⟩
  ·replace b:=An b d;refine wF d<|wF d<|wF d<|wF d<|wD (fun st=>Bg (v:=.bool false) (eR st) d (eR st))<|wM (v:=.bool false) rfl<|wH<|wH<|wH<|wH<|wD (fun st=>Bg (v:=.bool false) (eR st) rfl (eR st))<|wA (v:=.bool false) rfl<|wn<|Ap ?_;obtain rfl:=oi b;refine Au rfl rfl ?_;exact⟨u.AZ,rfl⟩
 ·replace b:=An b c;refine wF c<|wF c<|wF c<|wF c<|wD (fun st=>Bg (v:=.bool false) (eR st) c (eR st))<|wM (v:=.bool false) rfl<|wH<|wH<|wH<|wH<|wD (fun st=>Bg (v:=.bool false) (eR st) rfl (eR st))<|wM (v:=.bool false) rfl<|wH<|wH<|wH<|wH<|wD (fun st=>Bg (v:=.bool false) (eR st) rfl (eR st))<|wA (v:=.bool false) rfl<|wn<|Ap ?_;obtain rfl:=oi b;refine Au rfl rfl ?_;exact⟨u.AZ,rfl⟩
theorem a65 aM n a b c d e f g h i j k m(Z:Nat→Prop) w(aE:Sl Ax w Z a b n.Aj)(aF:Sl (Bx (Al .i64)) w Z c d n.Ab)(aG:Sl AF w Z e f n.Aq)(aH:Sl AT w Z g h n.AB)(aI:Sl AW w Z i j n.AE)(aJ:Sl Bj w Z k m n.AK) aN(p:Gl aM n=some aN):
 BN Tryz.prog 65 #[.agg (Ar a b c d e f g h i j k m n).toArray] w (fun v w'=>Ext w w'∧(Dk .i64).R w' (zf Z w []) v aN):=by
 unfold Gl at p;refine rq (N:=5) Tryz.func65 fun aU ha aV=>?_;have aL:=sA 0 ha;clear ha;have aK:Hp FN [] w [] w:=Hp.start (Bw.none w);have ⟨q,r,s,t,u,x⟩:=CA aE aF aG aH aI aJ (Bu (Z:=Z) (L:=[]) w);refine cr<|wE (fun st=>BL (v:=.agg (Ar a b c d e f g h i j k m n).toArray) (cs:=(Ar a b c d e f g h i j k m n).toArray) (ee st aL) rfl) ?_;rintro _ w1 ⟨b1,rfl,o⟩;have aO:=aK.nb o;have aT:=aK.BH o;refine wA (v:=I 0) rfl<|wr<|wD (fun st=>AO (l:=(Ar a b c d e f g h i j k m n)) DL (eR st) o.bk rfl rfl) ?_;have ⟨y,z,aA,aB,aC,aD⟩:=CA q r s t u x (Ay o);replace p:=bind_some p;obtain⟨aP,aQ,p⟩:=p;refine wE (fun st=>Ak Zj (eR st) (Cd (eR st)) (a116 aM n a b c d e f g h i j k m ZA _ y.all z.all aA.all aB.all aC.all aD.all aP aQ)) ?_;rintro _ aW ⟨aR,rfl⟩;have aS:=aO.ext aR;refine wA (v:=I aP) rfl<|wn<|Ap ?_;obtain rfl:=oi p;refine Au rfl rfl ?_;exact⟨aS.AZ,rfl⟩
theorem a44 aW b c d e f g h i j k m n o(Z:Nat→Prop) w(aN:Sl Ax w Z c d b.Aj)(aO:Sl (Bx (Al .i64)) w Z e f b.Ab)(aP:Sl AF w Z g h b.Aq)(aQ:Sl AT w Z i j b.AB)(aR:Sl AW w Z k m b.AE)(aS:Sl Bj w Z n o b.AK) aY(a:GG aW b=some aY):
 BN Tryz.prog 44 #[.agg (Ar c d e f g h i j k m n o b).toArray] w (fun v w'=>Ext w w'∧(Dk .i64).R w' (zf Z w []) v aY):=by
 unfold GG at a;refine rq (N:=14) Tryz.func44 fun a8 ha a9=>?_;have aX:=sA 0 ha;clear ha;have aU:Hp FN [] w [] w:=Hp.start (Bw.none w);have ⟨y,z,aA,aB,aC,aD⟩:=CA aN aO aP aQ aR aS (Bu (Z:=Z) (L:=[]) w);refine cr<|wE (fun st=>BL (v:=.agg (Ar c d e f g h i j k m n o b).toArray) (cs:=(Ar c d e f g h i j k m n o b).toArray) (ee st aX) rfl) ?_;rintro _ w1 ⟨b1,rfl,s⟩;have aZ:=aU.nb s;have a5:=aU.BH s;refine wA (v:=I 0) rfl<|wn<|Af<|cr<|wD (fun st=>AO (l:=(Ar c d e f g h i j k m n o b)) DL (eR st) s.bk rfl rfl) ?_;have ⟨p,q,r,aE,aF,aG⟩:=CA y z aA aB aC aD (Ay s);replace a:=bind_some a;obtain⟨aH,a0,a⟩:=a;refine wE (fun st=>Ak U0 (eR st) (Cd (eR st)) (a65 aW b c d e f g h i j k m n o ZA _ p.all q.all r.all aE.all aF.all aG.all aH a0)) ?_;rintro _ bA ⟨aL,rfl⟩;have aM:=aZ.ext aL;refine wA (v:=I aH) rfl<|wr<|wM (v:=I aH) rfl<|wD (fun st=>Cx (eR st) (eR st))<|wn ?_;rcases Ae (aH !=0) with t|t
 ·replace a:=Am a t;refine Ah rfl t<|cr<|wM (v:=I aH) rfl<|wA (v:=I aH) rfl<|wn<|Ap<|AG ?_;obtain rfl:=oi a;refine Au rfl rfl ?_;exact⟨aM.AZ,rfl⟩
 ·replace a:=An a t;refine Ao rfl t<|cn<|Af<|cr<|wD (fun st=>Ad (eR st) (GJ _ _)) ?_;have aT:=(s.bk.ext aL);refine wD (fun st=>AO (l:=[.slice c b.Aj.length d,.slice e b.Ab.length f,.slice g b.Aq.length h]) HN (eR st) aT rfl rfl) ?_;have ⟨aI,aJ,aK⟩:=Er p q r (Ac aL);replace a:=bind_some a;obtain⟨a2,a3,a⟩:=a;refine wE (fun st=>Ak UX (eR st) (Cd (eR st)) (a28 aW (⟨b.Aj,b.Ab,b.Aq⟩:Bh) c d e f g h (zf Z w [some b1]) _ aI aJ aK a2 a3)) ?_;rintro _ bB ⟨a4,⟨a6,a7,rfl,u⟩⟩;have aV:=aM.ext a4;have u:=u.mv (aM.DQ (Nat.le_refl _));refine wD (fun st=>Bn Tryz.underlying23 (eR st))<|wD (fun st=>Dt (eR st) (eR st))<|wn ?_;rcases Ae ((a2.length:Int)==0) with x|x
  ·replace a:=Am a x;refine Ah rfl x<|cr<|wA (v:=I 11) rfl<|wn<|Ap<|AG ?_;obtain rfl:=oi a;refine Au rfl rfl ?_;exact⟨aV.AZ,rfl⟩
  ·replace a:=An a x;refine Ao rfl x<|cn<|cr<|wA (v:=I 0) rfl<|wn<|Ap ?_;obtain rfl:=oi a;refine Au rfl rfl ?_;exact⟨aV.AZ,rfl⟩
theorem a39 a3 o b c d e f g h i j k m n(Z:Nat→Prop) w(aT:Sl Ax w Z b c o.Aj)(aU:Sl (Bx (Al .i64)) w Z d e o.Ab)(aV:Sl AF w Z f g o.Aq)(aW:Sl AT w Z h i o.AB)(aX:Sl AW w Z j k o.AE)(aY:Sl Bj w Z m n o.AK) a5(a:GH a3 o=some a5):
 BN Tryz.prog 39 #[.agg (Ar b c d e f g h i j k m n o).toArray] w (fun v w'=>Ext w w'∧(Md (FE (Bx (Al .i64))) (Dk .i64)).R w' (zf Z w []) v a5):=by
 unfold GH at a;refine rq (N:=17) Tryz.func39 fun bB ha bC=>?_;have a4:=sA 0 ha;clear ha;have a0:Hp FN [] w [] w:=Hp.start (Bw.none w);have ⟨aD,aE,aF,aG,aH,aI⟩:=CA aT aU aV aW aX aY (Bu (Z:=Z) (L:=[]) w);refine cr<|wE (fun st=>BL (v:=.agg (Ar b c d e f g h i j k m n o).toArray) (cs:=(Ar b c d e f g h i j k m n o).toArray) (ee st a4) rfl) ?_;rintro _ w1 ⟨b1,rfl,aA⟩;have a6:=a0.nb aA;have bA:=a0.BH aA;refine wA (v:=.slice none 0 0) rfl<|wA (v:=I 0) rfl<|wn<|Af<|cr<|wD (fun st=>AO (l:=(Ar b c d e f g h i j k m n o)) DL (eR st) aA.bk rfl rfl) ?_;have ⟨s,t,u,x,y,z⟩:=CA aD aE aF aG aH aI (Ay aA);replace a:=bind_some a;obtain⟨aJ,a7,a⟩:=a;refine wE (fun st=>Ak Aak (eR st) (Cd (eR st)) (a44 a3 o b c d e f g h i j k m n ZA _ s.all t.all u.all x.all y.all z.all aJ a7)) ?_;rintro _ bD ⟨aR,rfl⟩;have aS:=a6.ext aR;refine wA (v:=I aJ) rfl<|wr<|wM (v:=I aJ) rfl<|wD (fun st=>Cx (eR st) (eR st))<|wn ?_;rcases Ae (aJ !=0) with aB|aB
 ·replace a:=Am a aB;refine Ah rfl aB<|cr<|wM (v:=I aJ) rfl<|wA (v:=.slice none 0 0) rfl<|wA (v:=I aJ) rfl<|wn<|Ap<|AG ?_;obtain rfl:=oi a;refine C0 rfl rfl rfl ?_;exact⟨aS.AZ,⟨_,_,rfl,⟨_,_,rfl,Sl.nil _ _ _⟩,rfl⟩⟩
 ·replace a:=An a aB;refine Ao rfl aB<|cn<|Af<|Ai ?_;have aZ:=(aA.bk.ext aR);refine wD (fun st=>AO (l:=(Ar b c d e f g h i j k m n o)) DL (eR st) aZ rfl rfl) ?_;have ⟨aK,aL,aM,aN,aO,aP⟩:=CA s t u x y z (Ac aR);replace a:=bind_some a;obtain⟨aQ,a8,a⟩:=a;refine wE (fun st=>Ak Aal (eR st) (Cd (eR st)) (a53 a3 o b c d e f g h i j k m n (zf Z w [some b1]) _ aK aL aM aN aO aP aQ a8)) ?_;rintro _ bE ⟨a9,⟨p,q,rfl,r⟩⟩;have a2:=aS.ext a9;have r:=r.mv (aS.DQ (Nat.le_refl _));refine wA (v:=.slice p aQ.length q) rfl<|wn<|Af<|cr<|wM (v:=.slice p aQ.length q) rfl<|wD (fun st=>Bn Tryz.underlying23 (eR st))<|wD (fun st=>Dt (eR st) (eR st))<|wn ?_;rcases Ae ((aQ.length:Int)==0) with aC|aC
  ·replace a:=Am a aC;refine Ah rfl aC<|cr<|wA (v:=.slice none 0 0) rfl<|wA (v:=I 9) rfl<|wn<|Ap<|AG ?_;obtain rfl:=oi a;refine C0 rfl rfl rfl ?_;exact⟨a2.AZ,⟨_,_,rfl,⟨_,_,rfl,Sl.nil _ _ _⟩,rfl⟩⟩
  ·replace a:=An a aC;refine Ao rfl aC<|cn<|cr<|wM (v:=.slice p aQ.length q) rfl<|wA (v:=.slice p aQ.length q) rfl<|wA (v:=I 0) rfl<|wn<|Ap ?_;obtain rfl:=oi a;refine C0 rfl rfl rfl ?_;exact⟨a2.AZ,⟨_,_,rfl,⟨_,_,rfl,r.mv (AX (BB [] trivial))⟩,rfl⟩⟩
theorem U7 o a b(Z:Nat→Prop) w h(i:DI o a b=some h):
 BN Tryz.prog 57 #[I a,I b] w (fun v w'=>Ext w w'∧(DB Ax).R w' (zf Z w []) v h):=by
 unfold DI at i;refine rq (N:=8) Tryz.func57 fun p ha q=>?_;have f:=sA 0 ha;have g:=sA 1 ha;clear ha;have d:Hp FN [] w [] w:=Hp.start (Bw.none w);refine cr<|wE (fun st=>BZ (cs:= #[I 0,I 0]) Jx rfl) ?_;rintro _ w1 ⟨b1,rfl,c⟩;have j:=d.nb c;have m:=d.BH c;refine wr<|wM (v:=I a) f<|wM (v:=I b) g<|wD (fun st=>Dz (vs:= #[(0,I a),(1,I b)]) (v:=.agg #[I a,I b]) (Hv (eR st) (eR st)) (by kernel_rfl))<|BD rfl rfl (fun st=>Bt (n:=2) (l:=[I a,I b]) (Cm:= #[I a,I b]) (eR st) (eR st) GO c.bk rfl rfl (show 0+2≤2 by decide) (AY rfl) rfl) ?_;rintro _ w2 e;have k:=j.gr e.gr 0 rfl;refine wn<|Ap ?_;obtain rfl:=oi i;refine FD (v:=.agg #[I a,I b]) rfl rfl (C4 EC e.bk rfl rfl) ?_;exact⟨k.AZ,⟨_,rfl,rfl⟩⟩
theorem Qp bK aD(Z:Nat→Prop) w bO(p:Cu bK aD=some bO):
 BN Tryz.prog 88 #[I aD] w (fun v w'=>Ext w w'∧(DB PA).R w' (zf Z w []) v bO):=by
 unfold Cu at p;refine rq (N:=29) Tryz.func88 fun bW ha bX=>?_;have bL:=sA 0 ha;clear ha;have bC:Hp FN [] w [] w:=Hp.start (Bw.none w);refine cr<|wE (fun st=>BZ (cs:= #[.slice none 0 0,.slice none 0 0,.slice none 0 0,I 0,.slice none 0 0,.slice none 0 0,.slice none 0 0]) P1 rfl) ?_;rintro _ w1 ⟨b1,rfl,aQ⟩;have bD:=bC.nb aQ;have bT:=bC.BH aQ;refine wr<|wD (fun st=>Dz (vs:= #[(0,I 40),(1,I 42)]) (v:=.agg #[I 40,I 42]) (Hv (eR st) (eR st)) (by kernel_rfl))<|wD (fun st=>Dz (vs:= #[(0,I 60),(1,I 63)]) (v:=.agg #[I 60,I 63]) (Hv (eR st) (eR st)) (by kernel_rfl))<|wE (fun st=>B1 (e:=131) (vs:= #[(0,.agg #[I 40,I 42]),(1,.agg #[I 60,I 63])]) (cs:= #[I 40,I 42,I 60,I 63]) (Hv (eR st) (eR st)) (by kernel_rfl)) ?_;rintro _ w2 ⟨b2,rfl,aM⟩;have bE:=bD.nb aM;have a6:=bD.BH aM;refine wE (fun st=>B1 (e:=3) (vs:= #[(0,I 10),(1,I 10)]) (cs:= #[I 10,I 10]) (Hv (eR st) (eR st)) (by kernel_rfl)) ?_;rintro _ b4 ⟨b3,rfl,aH⟩;have bF:=bE.nb aH;have a7:=bE.BH aH;refine wE (fun st=>B1 (e:=3) (vs:= #[(0,I 5),(1,I 15)]) (cs:= #[I 5,I 15]) (Hv (eR st) (eR st)) (by kernel_rfl)) ?_;rintro _ b5 ⟨t,rfl,aB⟩;have bG:=bF.nb aB;have a8:=bF.BH aB;refine wE (fun st=>B1 (e:=31) (vs:= #[(0,.slice (some ⟨b3,0,none⟩) 2 2),(1,.slice (some ⟨t,0,none⟩) 2 2)]) (cs:= #[.slice (some ⟨b3,0,none⟩) 2 2,.slice (some ⟨t,0,none⟩) 2 2]) (Hv (eR st) (eR st)) (by kernel_rfl)) ?_;rintro _ b6 ⟨f,rfl,x⟩;have bH:=bG.nb x;have a9:=bG.BH x;refine wD (fun st=>Dz (vs:= #[(0,.slice (some ⟨b2,0,none⟩) 2 2),(1,.slice (some ⟨f,0,none⟩) 2 2)]) (v:=.agg #[.slice (some ⟨b2,0,none⟩) 2 2,.slice (some ⟨f,0,none⟩) 2 2,.slice none 0 0]) (Hv (eR st) (eR st)) (by kernel_rfl))<|wE (fun st=>BZ (cs:= #[.slice none 0 0,.slice none 0 0,.slice none 0 0]) P0 rfl) ?_;rintro _ b7 ⟨aI,rfl,s⟩;have aC:=bH.nb s;have bU:=bH.BH s;refine BD rfl rfl (fun st=>Bt (n:=3) (l:=[.slice (some ⟨b2,0,none⟩) 2 2,.slice (some ⟨f,0,none⟩) 2 2,.slice none 0 0]) (Cm:= #[.slice (some ⟨b2,0,none⟩) 2 2,.slice (some ⟨f,0,none⟩) 2 2,.slice none 0 0]) (eR st) (eR st) W6 s.bk rfl rfl (show 0+3≤3 by decide) (AY rfl) rfl) ?_;rintro _ b8 y;have bP:=aC.gr y.gr 0 rfl;refine wn<|Af<|Ai ?_;replace p:=bind_some p;obtain⟨b,bQ,p⟩:=p;refine wE (fun st=>Ak NC (eR st) (Ci (eR st) (eR st)) (U7 bK 80 80 ZA _ b bQ)) ?_;rintro _ b9 ⟨z,⟨_,rfl,rfl⟩⟩;have bR:=bP.ext z;refine wD (fun st=>Dz (vs:= #[(1,.agg #[I b.Lo,I b.Hi])]) (v:=.agg #[I 0,I b.Lo,I b.Hi]) (IP (eR st)) (by kernel_rfl)) ?_;replace p:=bind_some p;obtain⟨a,bM,p⟩:=p;refine wE (fun st=>Ak NC (eR st) (Ci (eR st) (eR st)) (U7 bK 40 40 ZA _ a bM)) ?_;rintro _ bY ⟨m,⟨_,rfl,rfl⟩⟩;have bI:=bR.ext m;refine wD (fun st=>Dz (vs:= #[(1,.agg #[I a.Lo,I a.Hi])]) (v:=.agg #[I 0,I a.Lo,I a.Hi]) (IP (eR st)) (by kernel_rfl))<|wE (fun st=>B1 (e:=136) (vs:= #[(0,.agg #[I 0,I b.Lo,I b.Hi]),(1,.agg #[I 0,I a.Lo,I a.Hi])]) (cs:= #[I 0,I b.Lo,I b.Hi,I 0,I a.Lo,I a.Hi]) (Hv (eR st) (eR st)) (by kernel_rfl)) ?_;rintro _ bS ⟨aR,rfl,g⟩;have aS:=bI.nb g;have aT:=bI.BH g;refine wA (v:=.slice (some ⟨aR,0,none⟩) 2 2) rfl<|wn<|Af ?_;have aJ:=aS.erase 0;have aN:=g.bk;have aU:Sl Bj bS (zf Z w [some aI,some f,some t,some b3,some b2,some b1]) (some ⟨aR,0,none⟩) 2 [(⟨0,b.Lo,b.Hi⟩:B6),(⟨0,a.Lo,a.Hi⟩:B6)]:=GS (e:=Bj) (xs:=[(⟨0,b.Lo,b.Hi⟩:B6),(⟨0,a.Lo,a.Hi⟩:B6)]) (BJ:=[[I 0,I b.Lo,I b.Hi],[I 0,I a.Lo,I a.Hi]]) aN (aS.lit 0 rfl aT) ⟨rfl,rfl,trivial⟩ rfl (Nat.le_refl _);have aV:=(((y.bk.ext z).ext m).ext g.gr);replace p:=L2 p;obtain⟨bN,p⟩:=p;refine BW 11 [Kc (.agg #[.slice (some ⟨b2,0,none⟩) 2 2,.slice (some ⟨f,0,none⟩) 2 2,.slice none 0 0]),Kc (.agg #[I 55,I 6]),Kc (.agg #[I 51,I 4]),Kc (.agg #[I 40,I 2]),Kv (FE AT) (zf Z w [some aI,some f,some t,some b3,some b2,some b1]) [(⟨55,6⟩:BO),(⟨51,4⟩:BO),(⟨40,2⟩:BO)],Kc (.agg #[I 0,I 20]),Kc (.agg #[I 1,I 10]),Kv (FE AW) (zf Z w [some aI,some f,some t,some b3,some b2,some b1]) [(⟨0,20⟩:B2),(⟨1,10⟩:B2)],Kc (.slice (some ⟨aR,0,none⟩) 2 2),Kc (I aD),Kv (FE Bj) (zf Z w [some aI,some f,some t,some b3,some b2,some b1]) (Gb [(⟨0,b.Lo,b.Hi⟩:B6),(⟨0,a.Lo,a.Hi⟩:B6)] (0:Int) aD)] mixed rfl rfl
     (Aa (oD (fun K=>AO (l:=[.slice (some ⟨b2,0,none⟩) 2 2,.slice (some ⟨f,0,none⟩) 2 2,.slice none 0 0]) H9 (K.kO 3) (aV.ext K.AV) rfl rfl))
     (Aa (oD (fun K=>Dz (vs:= #[(0,I 55),(1,I 6)]) (v:=.agg #[I 55,I 6]) (Hv (ec (v:=I 55)) (ec (v:=I 6))) (by kernel_rfl)))
     (Aa (oD (fun K=>Dz (vs:= #[(0,I 51),(1,I 4)]) (v:=.agg #[I 51,I 4]) (Hv (ec (v:=I 51)) (ec (v:=I 4))) (by kernel_rfl)))
     (Aa (oD (fun K=>Dz (vs:= #[(0,I 40),(1,I 2)]) (v:=.agg #[I 40,I 2]) (Hv (ec (v:=I 40)) (ec (v:=I 2))) (by kernel_rfl)))
     (Aa (JK rfl rfl (fun a' w' ph K=>(B1 (e:=48) (vs:= #[(0,.agg #[I 55,I 6]),(1,.agg #[I 51,I 4]),(2,.agg #[I 40,I 2])]) (cs:= #[I 55,I 6,I 51,I 4,I 40,I 2]) (pm3 (es (K.dq 1 18)) (es (K.dq 2 19)) (es (K.dq 3 20))) (by kernel_rfl)).mono (fun u BI ⟨bV,hu,aE⟩=>⟨⟨_,_,hu,GS (xs:=[(⟨55,6⟩:BO),(⟨51,4⟩:BO),(⟨40,2⟩:BO)]) (BJ:=[[I 55,I 6],[I 51,I 4],[I 40,I 2]]) aE.bk ((aJ.ext K.AV).kn (Nat.le_of_eq aE.FI.symm)) (R2.mv (Ac aE.gr) (show R2 AT w' (zf Z w [some aI,some f,some t,some b3,some b2,some b1]) [[I 55,I 6],[I 51,I 4],[I 40,I 2]] [(⟨55,6⟩:BO),(⟨51,4⟩:BO),(⟨40,2⟩:BO)] from⟨rfl,rfl,rfl,trivial⟩)) rfl (Nat.le_refl _)⟩,aE.gr⟩)))
     (Aa (oD (fun K=>Dz (vs:= #[(0,I 0),(1,I 20)]) (v:=.agg #[I 0,I 20]) (Hv (ec (v:=I 0)) (ec (v:=I 20))) (by kernel_rfl)))
     (Aa (oD (fun K=>Dz (vs:= #[(0,I 1),(1,I 10)]) (v:=.agg #[I 1,I 10]) (Hv (ec (v:=I 1)) (ec (v:=I 10))) (by kernel_rfl)))
     (Aa (JK rfl rfl (fun a' w' ph K=>(B1 (e:=134) (vs:= #[(0,.agg #[I 0,I 20]),(1,.agg #[I 1,I 10])]) (cs:= #[I 0,I 20,I 1,I 10]) (Hv (es (K.dq 5 22)) (es (K.dq 6 23))) (by kernel_rfl)).mono (fun u BI ⟨bV,hu,aE⟩=>⟨⟨_,_,hu,GS (xs:=[(⟨0,20⟩:B2),(⟨1,10⟩:B2)]) (BJ:=[[I 0,I 20],[I 1,I 10]]) aE.bk ((aJ.ext K.AV).kn (Nat.le_of_eq aE.FI.symm)) (R2.mv (Ac aE.gr) (show R2 AW w' (zf Z w [some aI,some f,some t,some b3,some b2,some b1]) [[I 0,I 20],[I 1,I 10]] [(⟨0,20⟩:B2),(⟨1,10⟩:B2)] from⟨rfl,rfl,trivial⟩)) rfl (Nat.le_refl _)⟩,aE.gr⟩)))
     (Aa (oD (fun K=>AA (K.kO 4)))
     (Aa (oD (fun K=>AA (es ((K.out 0 rfl).trans bL))))
     (Aa (oE (fun K=>(Un (e:=Bj) (Z:=_) (xs:=[(⟨0,b.Lo,b.Hi⟩:B6),(⟨0,a.Lo,a.Hi⟩:B6)]) Tryz.underlying51 NA rfl (es (K.dq 8 25)) TM (VH (es (K.dq 9 26))) (aU.mv (Ac K.AV)) bN).mono (fun u BI ⟨h1,h2⟩=>by subst h2;exact⟨h1,Ext.refl _⟩)))
     (BR _)))))))))))) ?_
 intro bZ;rintro _ rfl _ rfl _ rfl _ rfl _ ⟨h,i,rfl,aO⟩ _ rfl _ rfl _ ⟨j,k,rfl,aP⟩ _ rfl _ rfl _ ⟨c,d,rfl,aK⟩ q;have r:=aJ.ext q;refine wD (fun st=>Dz (vs:= #[(0,.agg #[.slice (some ⟨b2,0,none⟩) 2 2,.slice (some ⟨f,0,none⟩) 2 2,.slice none 0 0]),(1,I 3),(2,.slice h ([(⟨55,6⟩:BO),(⟨51,4⟩:BO),(⟨40,2⟩:BO)].length) i),(3,.slice j ([(⟨0,20⟩:B2),(⟨1,10⟩:B2)].length) k),(4,.slice c ((Gb [(⟨0,b.Lo,b.Hi⟩:B6),(⟨0,a.Lo,a.Hi⟩:B6)] (0:Int) aD).length) d)]) (v:=.agg #[.slice (some ⟨b2,0,none⟩) 2 2,.slice (some ⟨f,0,none⟩) 2 2,.slice none 0 0,I 3,.slice h ([(⟨55,6⟩:BO),(⟨51,4⟩:BO),(⟨40,2⟩:BO)].length) i,.slice j ([(⟨0,20⟩:B2),(⟨1,10⟩:B2)].length) k,.slice c ((Gb [(⟨0,b.Lo,b.Hi⟩:B6),(⟨0,a.Lo,a.Hi⟩:B6)] (0:Int) aD).length) d]) (pm5 (eR st) (eR st) (eR st) (eR st) (eR st)) (by kernel_rfl)) ?_;have aW:=((((((((((aQ.bk.ext aM.gr).ext aH.gr).ext aB.gr).ext x.gr).ext s.gr).gr y.gr (aC.nq 5 0)).ext z).ext m).ext g.gr).ext q);refine BD rfl rfl (fun st=>Bt (n:=7) (l:=[.slice (some ⟨b2,0,none⟩) 2 2,.slice (some ⟨f,0,none⟩) 2 2,.slice none 0 0,I 3,.slice h ([(⟨55,6⟩:BO),(⟨51,4⟩:BO),(⟨40,2⟩:BO)].length) i,.slice j ([(⟨0,20⟩:B2),(⟨1,10⟩:B2)].length) k,.slice c ((Gb [(⟨0,b.Lo,b.Hi⟩:B6),(⟨0,a.Lo,a.Hi⟩:B6)] (0:Int) aD).length) d]) (Cm:= #[.slice (some ⟨b2,0,none⟩) 2 2,.slice (some ⟨f,0,none⟩) 2 2,.slice none 0 0,I 3,.slice h ([(⟨55,6⟩:BO),(⟨51,4⟩:BO),(⟨40,2⟩:BO)].length) i,.slice j ([(⟨0,20⟩:B2),(⟨1,10⟩:B2)].length) k,.slice c ((Gb [(⟨0,b.Lo,b.Hi⟩:B6),(⟨0,a.Lo,a.Hi⟩:B6)] (0:Int) aD).length) d]) (eR st) (eR st) T4 aW rfl rfl (show 0+7≤7 by decide) (AY rfl) rfl) ?_;rintro _ bJ o;have aX:=r.gr o.gr 5 rfl;refine wn<|Ap ?_;have aY:=aX.erase 3;have aZ:=(((((((((aH.bk.ext aB.gr).ext x.gr).ext s.gr).gr y.gr (aC.nq 3 0)).ext z).ext m).ext g.gr).ext q).gr o.gr (r.nq 3 5));have bA:Sl (Al .i64) bJ (zf Z w [some aI,some f,some t,some b2,some b1]) (some ⟨b3,0,none⟩) 2 [10,10]:=GS (e:=(Al .i64)) (xs:=[10,10]) (BJ:=[[I 10],[I 10]]) aZ (aX.lit 3 rfl a7) ⟨rfl,rfl,trivial⟩ rfl (Nat.le_refl _);have aL:=aY.erase 2;have a0:=((((((((aB.bk.ext x.gr).ext s.gr).gr y.gr (aC.nq 2 0)).ext z).ext m).ext g.gr).ext q).gr o.gr (r.nq 2 5));have bB:Sl (Al .i64) bJ (zf Z w [some aI,some f,some b2,some b1]) (some ⟨t,0,none⟩) 2 [5,15]:=GS (e:=(Al .i64)) (xs:=[5,15]) (BJ:=[[I 5],[I 15]]) a0 (aY.lit 2 rfl a8) ⟨rfl,rfl,trivial⟩ rfl (Nat.le_refl _);obtain rfl:=oi p;have a2:=o.bk;refine FD (v:=.agg #[.slice (some ⟨b2,0,none⟩) 2 2,.slice (some ⟨f,0,none⟩) 2 2,.slice none 0 0,I 3,.slice h ([(⟨55,6⟩:BO),(⟨51,4⟩:BO),(⟨40,2⟩:BO)].length) i,.slice j ([(⟨0,20⟩:B2),(⟨1,10⟩:B2)].length) k,.slice c ((Gb [(⟨0,b.Lo,b.Hi⟩:B6),(⟨0,a.Lo,a.Hi⟩:B6)] (0:Int) aD).length) d]) rfl rfl (C4 Eg a2 rfl rfl) ?_;have a3:=((((((((((aM.bk.ext aH.gr).ext aB.gr).ext x.gr).ext s.gr).gr y.gr (aC.nq 4 0)).ext z).ext m).ext g.gr).ext q).gr o.gr (r.nq 4 5));have a4:=(((((((x.bk.ext s.gr).gr y.gr (aC.nq 1 0)).ext z).ext m).ext g.gr).ext q).gr o.gr (r.nq 1 5));have a5:=(bA.mv (AH 2));have ⟨aF,aG,aA⟩:=Er aO aP aK (mt (r.By o.gr 5 rfl) (mt (AH 3) (AH 2)));exact⟨aL.AZ,⟨_,rfl,_,_,_,_,_,_,_,_,_,_,_,_,rfl,GS (e:=Ax) (Z:=zf Z w []) (xs:=[(⟨40,42⟩:AL),(⟨60,63⟩:AL)]) (BJ:=[[I 40,I 42],[I 60,I 63]]) a3 (.inr ⟨a6,fun hm=>aL.CI (F':=FN) (M:=[]) 2 rfl [] rfl trivial eL (.inr hm)⟩) ⟨rfl,rfl,trivial⟩ rfl (Nat.le_refl _),GS (e:=(Bx (Al .i64))) (Z:=zf Z w []) (xs:=[[10,10],[5,15]]) (BJ:=[[.slice (some ⟨b3,0,none⟩) 2 2],[.slice (some ⟨t,0,none⟩) 2 2]]) a4 (.inr ⟨a9,fun hm=>aL.CI (F':=FN) (M:=[]) 1 rfl [] rfl trivial eL (.inr hm)⟩) ⟨⟨_,_,rfl,(a5.mv (AX (BB [] trivial)))⟩,⟨_,_,rfl,(bB.mv (AX (BB [] trivial)))⟩,trivial⟩ rfl (Nat.le_refl _),Sl.nil _ _ _,aF.mv (AX (BB [] trivial)),aG.mv (AX (BB [] trivial)),aA.mv (AX (BB [] trivial))⟩⟩
set_option maxHeartbeats 4000000 in
theorem a37 i(Z:Nat→Prop) w(a:BU i=some true):
 BN Tryz.prog 37 #[] w (fun v w'=>Ext w w'∧v=.bool true):=by
 unfold BU at a;refine rq (N:=148) Tryz.func37 fun jL ha jM=>?_;clear ha;have hM:Hp FN [] w [] w:=Hp.start (Bw.none w);refine cr<|wA (v:=.bool false) rfl<|wn<|Af<|Ai ?_;replace a:=bind_some a;obtain⟨i4,i5,a⟩:=a;refine wE (fun st=>Ak La (eR st) (Cd (eR st)) (Qp i 0 (zf Z w []) _ i4 i5)) ?_;rintro _ w2 ⟨i6,⟨_,rfl,⟨gE,gF,gG,gH,gI,gJ,gK,gL,gM,gN,gO,gP,rfl,b4,b5,b6,b7,b8,b9⟩⟩⟩;have hN:=hM.ext i6;have ⟨b4,b5,b6,b7,b8,b9⟩:=CA b4 b5 b6 b7 b8 b9 (hM.DQ (Nat.le_refl _));refine wE (fun st=>B1 (e:=3) (vs:= #[(0,I 41),(1,I 62)]) (cs:= #[I 41,I 62]) (Hv (eR st) (eR st)) (by kernel_rfl)) ?_;rintro _ jK ⟨b3,rfl,d8⟩;have hO:=hN.nb d8;have hG:=hN.BH d8;have hP:=hO.erase 0;have hH:=d8.bk;have hI:Sl (Al .i64) jK (zf Z w []) (some ⟨b3,0,none⟩) 2 [41,62]:=GS (e:=(Al .i64)) (xs:=[41,62]) (BJ:=[[I 41],[I 62]]) hH (hO.lit 0 rfl hG) ⟨rfl,rfl,trivial⟩ rfl (Nat.le_refl _);have ⟨dT,dU,dV,dW,dX,dY⟩:=CA b4 b5 b6 b7 b8 b9 (mt (Ay d8) (AH 0));replace a:=bind_some a;obtain⟨cA,i7,a⟩:=a;refine wE (fun st=>Ak Aam (eR st) (Ci (eR st) (eR st)) (a32 i i4 [41,62] gE gF gG gH gI gJ gK gL gM gN gO gP (some ⟨b3,0,none⟩) 2 (zf Z w []) _ dT dU dV dW dX dY hI cA i7)) ?_;rintro _ j4 ⟨i8,⟨_,_,rfl,⟨bY,bZ,rfl,c5⟩,rfl⟩⟩;have hQ:=hP.ext i8;have c5:=c5.mv (hP.DQ (Nat.le_refl _));refine wM (v:=.tuple #[.slice bY cA.1.length bZ,I cA.2]) rfl<|wD (fun st=>Bs (v:=.slice bY cA.1.length bZ) (eR st) rfl)<|wD (fun st=>Bs (v:=I cA.2) (eR st) rfl)<|wA (v:=.slice bY cA.1.length bZ) rfl<|wA (v:=I cA.2) rfl<|wn<|Af<|Ai ?_;replace a:=bind_some a;obtain⟨i9,jA,a⟩:=a;refine wE (fun st=>Ak La (eR st) (Cd (eR st)) (Qp i 0 (zf Z w []) _ i9 jA)) ?_;rintro _ j5 ⟨hR,⟨_,rfl,⟨gQ,gR,gS,gT,gU,gV,gW,gX,gY,gZ,g0,g1,rfl,cB,cC,cD,cE,cF,cG⟩⟩⟩;have hS:=hQ.ext hR;have ⟨cB,cC,cD,cE,cF,cG⟩:=CA cB cC cD cE cF cG (hQ.DQ (Nat.le_refl _));replace a:=bind_some a;obtain⟨s,jB,a⟩:=a;refine wE (fun st=>Ak U2 (eR st) (Cd (eR st)) (a33 i i9 gQ gR gS gT gU gV gW gX gY gZ g0 g1 (zf Z w []) _ cB cC cD cE cF cG s jB)) ?_;rintro _ j6 ⟨hT,⟨_,_,rfl,⟨aK,aL,rfl,c6⟩,rfl⟩⟩;have hU:=hS.ext hT;have c6:=c6.mv (hS.DQ (Nat.le_refl _));refine wM (v:=.tuple #[.slice aK s.1.length aL,I s.2]) rfl<|wD (fun st=>Bs (v:=.slice aK s.1.length aL) (eR st) rfl)<|wD (fun st=>Bs (v:=I s.2) (eR st) rfl)<|wA (v:=.slice aK s.1.length aL) rfl<|wA (v:=I s.2) rfl<|wn<|Af<|Ai ?_;replace a:=bind_some a;obtain⟨hV,h6,a⟩:=a;refine wE (fun st=>Ak La (eR st) (Cd (eR st)) (Qp i 0 (zf Z w []) _ hV h6)) ?_;rintro _ jN ⟨d4,⟨_,rfl,⟨d9,eA,eB,eC,eD,eE,eF,eG,eH,eI,eJ,eK,rfl,aM,aN,aO,aP,aQ,aR⟩⟩⟩;have hW:=hU.ext d4;have ⟨aM,aN,aO,aP,aQ,aR⟩:=CA aM aN aO aP aQ aR (hU.DQ (Nat.le_refl _));refine wE (fun st=>B1 (e:=3) (vs:= #[(0,I 0),(1,I 1)]) (cs:= #[I 0,I 1]) (Hv (eR st) (eR st)) (by kernel_rfl)) ?_;rintro _ jO ⟨d,rfl,cH⟩;have jC:=hW.nb cH;have jD:=hW.BH cH;have ⟨dG,dH,dI,dJ,dK,dL⟩:=CA aM aN aO aP aQ aR (Ay cH);replace a:=bind_some a;obtain⟨b,h7,a⟩:=a;refine wE (fun st=>Ak RN (eR st) (Ci (eR st) (eR st)) (a50 i hV [0,1] d9 eA eB eC eD eE eF eG eH eI eJ eK (some ⟨d,0,none⟩) 2 ZA _ dG.all dH.all dI.all dJ.all dK.all dL.all (GS (e:=(Al .i64)) (xs:=[0,1]) (BJ:=[[I 0],[I 1]]) cH.bk trivial ⟨rfl,rfl,trivial⟩ rfl (Nat.le_refl _)) b h7)) ?_;rintro _ jP ⟨d5,⟨_,_,rfl,⟨_,rfl,rfl⟩,rfl⟩⟩;have hX:=jC.ext d5;refine wM (v:=.tuple #[.agg #[I b.1.Lo,I b.1.Hi],I b.2]) rfl<|wD (fun st=>Bs (v:=.agg #[I b.1.Lo,I b.1.Hi]) (eR st) rfl)<|wD (fun st=>Bs (v:=I b.2) (eR st) rfl)<|wE (fun st=>BZ (cs:= #[I 0,I 0]) Jx rfl) ?_;rintro _ jQ ⟨f,rfl,c7⟩;have d6:=hX.nb c7;have jE:=hX.BH c7;refine BD rfl rfl (fun st=>Bt (n:=2) (l:=[I b.1.Lo,I b.1.Hi]) (Cm:= #[I b.1.Lo,I b.1.Hi]) (eR st) (eR st) GO c7.bk rfl rfl (show 0+2≤2 by decide) (AY rfl) rfl) ?_;rintro _ jR dM;have g2:=d6.gr dM.gr 0 rfl;refine wA (v:=I b.2) rfl<|wn<|Af<|Ai ?_;replace a:=bind_some a;obtain⟨hY,h8,a⟩:=a;refine wE (fun st=>Ak La (eR st) (Cd (eR st)) (Qp i 0 (zf Z w [some f,some d]) _ hY h8)) ?_;rintro _ jS ⟨dN,⟨_,rfl,⟨eM,eN,eO,eP,eQ,eS,eT,eU,eV,eW,eX,eY,rfl,aS,aT,aU,aV,aW,aX⟩⟩⟩;have g3:=g2.ext dN;have ⟨aS,aT,aU,aV,aW,aX⟩:=CA aS aT aU aV aW aX (g2.DQ (Nat.le_refl _));replace a:=bind_some a;obtain⟨c,h9,a⟩:=a;refine wE (fun st=>Ak Aan (eR st) (Cd (eR st)) (a34 i hY eM eN eO eP eQ eS eT eU eV eW eX eY (zf Z w [some f,some d]) _ aS aT aU aV aW aX c h9)) ?_;rintro _ jT ⟨dO,⟨_,_,_,rfl,⟨aC,aD,rfl,cI⟩,rfl,rfl⟩⟩;have g4:=g3.ext dO;have cI:=cI.mv (g3.DQ (Nat.le_refl _));refine wM (v:=.tuple #[.slice aC c.1.length aD,I c.2.1,I c.2.2]) rfl<|wD (fun st=>Bs (v:=.slice aC c.1.length aD) (eR st) rfl)<|wD (fun st=>Bs (v:=I c.2.1) (eR st) rfl)<|wD (fun st=>Bs (v:=I c.2.2) (eR st) rfl)<|wA (v:=.slice aC c.1.length aD) rfl<|wA (v:=I c.2.1) rfl<|wA (v:=I c.2.2) rfl<|wn<|Af<|Ai ?_;replace a:=bind_some a;obtain⟨hZ,iA,a⟩:=a;refine wE (fun st=>Ak La (eR st) (Cd (eR st)) (Qp i 1 (zf Z w [some f,some d]) _ hZ iA)) ?_;rintro _ jU ⟨c8,⟨_,rfl,⟨eZ,e0,e1,e2,e3,e4,e5,e6,e7,e8,e9,fA,rfl,aY,aZ,a0,a2,a3,a4⟩⟩⟩;have g5:=g4.ext c8;have ⟨aY,aZ,a0,a2,a3,a4⟩:=CA aY aZ a0 a2 a3 a4 (g4.DQ (Nat.le_refl _));replace a:=bind_some a;obtain⟨m,iB,a⟩:=a;refine wE (fun st=>Ak Aao (eR st) (Cd (eR st)) (a81 i hZ eZ e0 e1 e2 e3 e4 e5 e6 e7 e8 e9 fA (zf Z w [some f,some d]) _ aY aZ a0 a2 a3 a4 m iB)) ?_;rintro _ jV ⟨c9,⟨_,_,rfl,⟨aE,aF,rfl,cJ⟩,rfl⟩⟩;have g6:=g5.ext c9;have cJ:=cJ.mv (g5.DQ (Nat.le_refl _));refine wM (v:=.tuple #[.slice aE m.1.length aF,I m.2]) rfl<|wD (fun st=>Bs (v:=.slice aE m.1.length aF) (eR st) rfl)<|wD (fun st=>Bs (v:=I m.2) (eR st) rfl)<|wA (v:=.slice aE m.1.length aF) rfl<|wA (v:=I m.2) rfl<|wn<|Af<|Ai ?_;replace a:=bind_some a;obtain⟨h3,iC,a⟩:=a;refine wE (fun st=>Ak La (eR st) (Cd (eR st)) (Qp i 0 (zf Z w [some f,some d]) _ h3 iC)) ?_;rintro _ jW ⟨cK,⟨_,rfl,⟨fB,fC,fD,fE,fF,fG,fH,fI,fJ,fK,fL,fM,rfl,a5,a6,a7,a8,a9,bA⟩⟩⟩;have g7:=g6.ext cK;have ⟨a5,a6,a7,a8,a9,bA⟩:=CA a5 a6 a7 a8 a9 bA (g6.DQ (Nat.le_refl _));replace a:=bind_some a;obtain⟨o,iD,a⟩:=a;refine wE (fun st=>Ak U3 (eR st) (Cd (eR st)) (a69 i h3 fB fC fD fE fF fG fH fI fJ fK fL fM (zf Z w [some f,some d]) _ a5 a6 a7 a8 a9 bA o iD)) ?_;rintro _ jX ⟨cL,⟨_,_,rfl,⟨aG,aH,rfl,cM⟩,rfl⟩⟩;have g8:=g7.ext cL;have cM:=cM.mv (g7.DQ (Nat.le_refl _));refine wM (v:=.tuple #[.slice aG o.1.length aH,I o.2]) rfl<|wD (fun st=>Bs (v:=.slice aG o.1.length aH) (eR st) rfl)<|wD (fun st=>Bs (v:=I o.2) (eR st) rfl)<|wA (v:=.slice aG o.1.length aH) rfl<|wA (v:=I o.2) rfl<|wn<|Af<|Ai ?_;replace a:=bind_some a;obtain⟨h4,iE,a⟩:=a;refine wE (fun st=>Ak La (eR st) (Cd (eR st)) (Qp i 2 (zf Z w [some f,some d]) _ h4 iE)) ?_;rintro _ jY ⟨bB,⟨_,rfl,⟨fN,fO,fP,fQ,fR,fS,fT,fU,fV,fW,fX,fY,rfl,bC,bD,bE,bF,bG,bH⟩⟩⟩;have iF:=g8.ext bB;have ⟨bC,bD,bE,bF,bG,bH⟩:=CA bC bD bE bF bG bH (g8.DQ (Nat.le_refl _));replace a:=bind_some a;obtain⟨g,iG,a⟩:=a;refine wE (fun st=>Ak Aap (eR st) (Cd (eR st)) (a42 i h4 fN fO fP fQ fR fS fT fU fV fW fX fY ZA _ bC.all bD.all bE.all bF.all bG.all bH.all g iG)) ?_;rintro _ jZ ⟨bI,⟨_,_,rfl,rfl,rfl⟩⟩;have g9:=iF.ext bI;refine wM (v:=.tuple #[I g.1,I g.2]) rfl<|wD (fun st=>Bs (v:=I g.1) (eR st) rfl)<|wD (fun st=>Bs (v:=I g.2) (eR st) rfl)<|wA (v:=I g.1) rfl<|wA (v:=I g.2) rfl<|wn<|Af<|Ai ?_;replace a:=bind_some a;obtain⟨h5,iH,a⟩:=a;refine wE (fun st=>Ak La (eR st) (Cd (eR st)) (Qp i 2 (zf Z w [some f,some d]) _ h5 iH)) ?_;rintro _ j0 ⟨bJ,⟨_,rfl,⟨fZ,f0,f1,f2,f3,f4,f5,f6,f7,f8,f9,gA,rfl,bK,bL,bM,bN,bO,bP⟩⟩⟩;have hA:=g9.ext bJ;have ⟨bK,bL,bM,bN,bO,bP⟩:=CA bK bL bM bN bO bP (g9.DQ (Nat.le_refl _));replace a:=bind_some a;obtain⟨p,iI,a⟩:=a;refine wE (fun st=>Ak Aaq (eR st) (Cd (eR st)) (a43 i h5 fZ f0 f1 f2 f3 f4 f5 f6 f7 f8 f9 gA (zf Z w [some f,some d]) _ bK bL bM bN bO bP p iI)) ?_;rintro _ j1 ⟨bQ,⟨_,_,rfl,⟨aI,aJ,rfl,cN⟩,rfl⟩⟩;have cO:=hA.ext bQ;have cN:=cN.mv (hA.DQ (Nat.le_refl _));refine wM (v:=.tuple #[.slice aI p.1.length aJ,I p.2]) rfl<|wD (fun st=>Bs (v:=.slice aI p.1.length aJ) (eR st) rfl)<|wD (fun st=>Bs (v:=I p.2) (eR st) rfl)<|wA (v:=.slice aI p.1.length aJ) rfl<|wA (v:=I p.2) rfl<|wn<|Af ?_;rcases Ae (cA.2==0) with bR|bR
 ·replace a:=Am a bR;have dZ:=(((((((((((((((((c5.mv (Ac hR)).mv (Ac hT)).mv (Ac d4)).mv (Ay cH)).mv (Ac d5)).mv (Ay c7)).mv (d6.By dM.gr 0 rfl)).mv (Ac dN)).mv (Ac dO)).mv (Ac c8)).mv (Ac c9)).mv (Ac cK)).mv (Ac cL)).mv (Ac bB)).mv (Ac bI)).mv (Ac bJ)).mv (Ac bQ));replace a:=bind_some a;obtain⟨d0,iJ,a⟩:=a;rcases Ae (d0) with cP|cP
  ·replace a:=Am a cP;rcases Ae (s.2==0) with bS|bS
   ·replace a:=Am a bS;rcases Ae ((s.1.length:Int)==2) with aA|aA
    ·replace a:=Am a aA;replace a:=Bi a;obtain⟨i43,q,iK,iL,iM,a⟩:=a;have c4:=(((((((((((((((c6.mv (Ac d4)).mv (Ay cH)).mv (Ac d5)).mv (Ay c7)).mv (d6.By dM.gr 0 rfl)).mv (Ac dN)).mv (Ac dO)).mv (Ac c8)).mv (Ac c9)).mv (Ac cK)).mv (Ac cL)).mv (Ac bB)).mv (Ac bI)).mv (Ac bJ)).mv (Ac bQ));obtain⟨jF,jG,_,iN,rfl,iO⟩:=Sl.elem c4 (by decide) iL;replace a:=bind_some a;obtain⟨x,iP,a⟩:=a;rcases Ae ([q.Lo,q.Hi]==[x.Lo,x.Hi]) with aB|aB
     ·replace a:=Am a aB;replace a:=Bi a;obtain⟨i46,r,iQ,iR,iS,a⟩:=a;obtain⟨jH,jI,_,iT,rfl,iU⟩:=Sl.elem c4 (by decide) iR;replace a:=bind_some a;obtain⟨y,iV,a⟩:=a;rcases Ae ([r.Lo,r.Hi]==[y.Lo,y.Hi]) with cQ|cQ
      ·replace a:=Am a cQ;rcases Ae (b.2==0) with bT|bT
       ·replace a:=Am a bT;have gB:=((((((((((dM.bk.ext dN).ext dO).ext c8).ext c9).ext cK).ext cL).ext bB).ext bI).ext bJ).ext bQ);replace a:=bind_some a;obtain⟨z,iW,a⟩:=a;rcases Ae ([b.1.Lo,b.1.Hi]==[z.Lo,z.Hi]) with cR|cR
        ·replace a:=Am a cR;rcases Ae (c.2.2==0) with bU|bU
         ·replace a:=Am a bU;have dP:=((((((((cI.mv (Ac c8)).mv (Ac c9)).mv (Ac cK)).mv (Ac cL)).mv (Ac bB)).mv (Ac bI)).mv (Ac bJ)).mv (Ac bQ));replace a:=bind_some a;obtain⟨d1,iX,a⟩:=a;rcases Ae (d1) with cS|cS
          ·replace a:=Am a cS;rcases Ae (c.2.1==180) with cT|cT
           ·replace a:=Am a cT;rcases Ae (m.2==0) with bV|bV
            ·replace a:=Am a bV;have dQ:=((((((cJ.mv (Ac cK)).mv (Ac cL)).mv (Ac bB)).mv (Ac bI)).mv (Ac bJ)).mv (Ac bQ));replace a:=bind_some a;obtain⟨d2,iY,a⟩:=a;rcases Ae (d2) with cU|cU
             ·replace a:=Am a cU;rcases Ae (o.2==0) with bW|bW
              ·replace a:=Am a bW;have dR:=((((cM.mv (Ac bB)).mv (Ac bI)).mv (Ac bJ)).mv (Ac bQ));replace a:=bind_some a;obtain⟨d3,iZ,a⟩:=a;rcases Ae (d3) with cV|cV
               ·replace a:=Am a cV;rcases Ae (g.2==0) with cW|cW
                ·replace a:=Am a cW;rcases Ae (g.1==1) with cX|cX
                 ·replace a:=Am a cX;rcases Ae (p.2==0) with bX|bX
                  ·replace a:=Am a bX;refine BW 85 [Kc (I cA.2),Kc (.bool (cA.2==0)),Kc (.bool (cA.2==0)),Kc (.slice bY cA.1.length bZ),Kv (FE (Al .i64)) (zf Z w [some f,some d]) [80,120],Kc (.bool d0),Kc (.bool d0),Kc (.bool d0),Kc (I s.2),Kc (.bool (s.2==0)),Kc (.bool (s.2==0)),Kc (.bool (s.2==0)),Kc (.slice aK s.1.length aL),Kc (I (s.1.length:Int)),Kc (.bool ((s.1.length:Int)==2)),Kc (.bool ((s.1.length:Int)==2)),Kc (.bool ((s.1.length:Int)==2)),Kc (.slice aK s.1.length aL),Kc (pt jF (jG+i43*2)),Kc (.agg #[I q.Lo,I q.Hi]),Kc (.agg #[I x.Lo,I x.Hi]),Kc (.bool ([q.Lo,q.Hi]==[x.Lo,x.Hi])),Kc (.bool ([q.Lo,q.Hi]==[x.Lo,x.Hi])),Kc (.bool ([q.Lo,q.Hi]==[x.Lo,x.Hi])),Kc (.slice aK s.1.length aL),Kc (pt jH (jI+i46*2)),Kc (.agg #[I r.Lo,I r.Hi]),Kc (.agg #[I y.Lo,I y.Hi]),Kc (.bool ([r.Lo,r.Hi]==[y.Lo,y.Hi])),Kc (.bool ([r.Lo,r.Hi]==[y.Lo,y.Hi])),Kc (.bool ([r.Lo,r.Hi]==[y.Lo,y.Hi])),Kc (I b.2),Kc (.bool (b.2==0)),Kc (.bool (b.2==0)),Kc (.bool (b.2==0)),Kc (.agg #[I b.1.Lo,I b.1.Hi]),Kc (.agg #[I z.Lo,I z.Hi]),Kc (.bool ([b.1.Lo,b.1.Hi]==[z.Lo,z.Hi])),Kc (.bool ([b.1.Lo,b.1.Hi]==[z.Lo,z.Hi])),Kc (.bool ([b.1.Lo,b.1.Hi]==[z.Lo,z.Hi])),Kc (I c.2.2),Kc (.bool (c.2.2==0)),Kc (.bool (c.2.2==0)),Kc (.bool (c.2.2==0)),Kc (.slice aC c.1.length aD),Kv (FE (Al .i64)) (zf Z w [some f,some d]) [1],Kc (.bool d1),Kc (.bool d1),Kc (.bool d1),Kc (I c.2.1),Kc (.bool (c.2.1==180)),Kc (.bool (c.2.1==180)),Kc (.bool (c.2.1==180)),Kc (I m.2),Kc (.bool (m.2==0)),Kc (.bool (m.2==0)),Kc (.bool (m.2==0)),Kc (.slice aE m.1.length aF),Kv (FE (Al .i64)) (zf Z w [some f,some d]) [1,0],Kc (.bool d2),Kc (.bool d2),Kc (.bool d2),Kc (I o.2),Kc (.bool (o.2==0)),Kc (.bool (o.2==0)),Kc (.bool (o.2==0)),Kc (.slice aG o.1.length aH),Kv (FE (Al .i64)) (zf Z w [some f,some d]) [0,1],Kc (.bool d3),Kc (.bool d3),Kc (.bool d3),Kc (I g.2),Kc (.bool (g.2==0)),Kc (.bool (g.2==0)),Kc (.bool (g.2==0)),Kc (I g.1),Kc (.bool (g.1==1)),Kc (.bool (g.1==1)),Kc (.bool (g.1==1)),Kc (I p.2),Kc (.bool (p.2==0)),Kc (.bool (p.2==0)),Kc (.bool (p.2==0)),Kc (.slice aI p.1.length aJ),Kv (FE (Al .i64)) (zf Z w [some f,some d]) [0]] mixed rfl rfl
                       (Aa (oD (fun K=>AA (K.kO 2)))
                       (Aa (oD (fun K=>Dt (es (K.dq 0 61)) (ec (v:=I 0))))
                       (Aa (oD (fun K=>AA (es (K.dq 1 62))))
                       (Aa (oG bR (fun K=>AA (K.kO 1)))
                       (Aa (KH rfl rfl rfl (fun a' w' ph K=>JJ (K.dq 2 63) bR) (fun a' w' ph K=>(B1 (e:=3) (vs:= #[(0,I 80),(1,I 120)]) (cs:= #[I 80,I 120]) (Hv (ec (v:=I 80)) (ec (v:=I 120))) (by kernel_rfl)).mono (fun u BI ⟨hJ,hu,j⟩=>⟨⟨_,_,hu,GS (xs:=[80,120]) (BJ:=[[I 80],[I 120]]) j.bk ((cO.ext K.AV).kn (Nat.le_of_eq j.FI.symm)) (R2.mv (Ac j.gr) (show R2 (Al .i64) w' (zf Z w [some f,some d]) [[I 80],[I 120]] [80,120] from⟨rfl,rfl,trivial⟩)) rfl (Nat.le_refl _)⟩,j.gr⟩)))
                       (Aa (oX bR (fun K=>match K.dq 4 65 with|⟨dA,dB,hL,dF⟩=>(Ak Lb rfl (Ci (es (K.dq 3 64)) (es (t:=65) (v:=.slice dA ([80,120].length) dB) hL)) (Qo i cA.1 [80,120] bY bZ dA dB ZA _ (dZ.mv (Ac K.AV)).all dF.all d0 iJ)).mono (fun _ _ h=>⟨h.2,h.1⟩)))
                       (Aa (oD (fun K=>AR (es (K.dq 2 63)) bR (es (K.dq 5 66))))
                       (Aa (oD (fun K=>AA (es (K.dq 6 67))))
                       (Aa (oG cP (fun K=>AA (K.kO 4)))
                       (Aa (oG cP (fun K=>Dt (es (K.dq 8 69)) (ec (v:=I 0))))
                       (Aa (oD (fun K=>AR (es (K.dq 7 68)) cP (es (K.dq 9 70))))
                       (Aa (oD (fun K=>AA (es (K.dq 10 71))))
                       (Aa (oG bS (fun K=>AA (K.kO 3)))
                       (Aa (oG bS (fun K=>Bn Tryz.underlying55 (es (K.dq 12 73))))
                       (Aa (oG bS (fun K=>Dt (es (K.dq 13 74)) (ec (v:=I 2))))
                       (Aa (oD (fun K=>AR (es (K.dq 11 72)) bS (es (K.dq 14 75))))
                       (Aa (oD (fun K=>AA (es (K.dq 15 76))))
                       (Aa (oG aA (fun K=>AA (K.kO 3)))
                       (Aa (oG aA (fun K=>BC (k:=i43) Tryz.underlying55 GO (es (K.dq 17 78)) iN (ec (v:=I 0)) iK iM))
                       (Aa (oG aA (fun K=>Cv (l:=[I q.Lo,I q.Hi]) EC (es (K.dq 18 79)) (iO.mv (Ac K.AV)) rfl rfl))
                       (Aa (oX aA (fun K=>(Ak NC rfl (Ci (ec (v:=I 40)) (ec (v:=I 80))) (U7 i 40 80 ZA _ x iP)).mono (fun _ _ h=>⟨(by obtain⟨_,rfl,rfl⟩:=h.2;rfl),h.1⟩)))
                       (Aa (oG aA (fun K=>NO (x1:=[q.Lo,q.Hi]) (x2:=[x.Lo,x.Hi]) Ja I9 (es (K.dq 19 80)) (es (K.dq 20 81)) rfl rfl rfl rfl))
                       (Aa (oD (fun K=>AR (es (K.dq 16 77)) aA (es (K.dq 21 82))))
                       (Aa (oD (fun K=>AA (es (K.dq 22 83))))
                       (Aa (oG aB (fun K=>AA (K.kO 3)))
                       (Aa (oG aB (fun K=>BC (k:=i46) Tryz.underlying55 GO (es (K.dq 24 85)) iT (ec (v:=I 1)) iQ iS))
                       (Aa (oG aB (fun K=>Cv (l:=[I r.Lo,I r.Hi]) EC (es (K.dq 25 86)) (iU.mv (Ac K.AV)) rfl rfl))
                       (Aa (oX aB (fun K=>(Ak NC rfl (Ci (ec (v:=I 120)) (ec (v:=I 120))) (U7 i 120 120 ZA _ y iV)).mono (fun _ _ h=>⟨(by obtain⟨_,rfl,rfl⟩:=h.2;rfl),h.1⟩)))
                       (Aa (oG aB (fun K=>NO (x1:=[r.Lo,r.Hi]) (x2:=[y.Lo,y.Hi]) Ja I9 (es (K.dq 26 87)) (es (K.dq 27 88)) rfl rfl rfl rfl))
                       (Aa (oD (fun K=>AR (es (K.dq 23 84)) aB (es (K.dq 28 89))))
                       (Aa (oD (fun K=>AA (es (K.dq 29 90))))
                       (Aa (oG cQ (fun K=>AA (K.kO 6)))
                       (Aa (oG cQ (fun K=>Dt (es (K.dq 31 92)) (ec (v:=I 0))))
                       (Aa (oD (fun K=>AR (es (K.dq 30 91)) cQ (es (K.dq 32 93))))
                       (Aa (oD (fun K=>AA (es (K.dq 33 94))))
                       (Aa (oG bT (fun K=>AO (l:=[I b.1.Lo,I b.1.Hi]) EC (K.kO 5) (gB.ext K.AV) rfl rfl))
                       (Aa (oX bT (fun K=>(Ak NC rfl (Ci (ec (v:=I 160)) (ec (v:=I 200))) (U7 i 160 200 ZA _ z iW)).mono (fun _ _ h=>⟨(by obtain⟨_,rfl,rfl⟩:=h.2;rfl),h.1⟩)))
                       (Aa (oG bT (fun K=>NO (x1:=[b.1.Lo,b.1.Hi]) (x2:=[z.Lo,z.Hi]) Ja I9 (es (K.dq 35 96)) (es (K.dq 36 97)) rfl rfl rfl rfl))
                       (Aa (oD (fun K=>AR (es (K.dq 34 95)) bT (es (K.dq 37 98))))
                       (Aa (oD (fun K=>AA (es (K.dq 38 99))))
                       (Aa (oG cR (fun K=>AA (K.kO 9)))
                       (Aa (oG cR (fun K=>Dt (es (K.dq 40 101)) (ec (v:=I 0))))
                       (Aa (oD (fun K=>AR (es (K.dq 39 100)) cR (es (K.dq 41 102))))
                       (Aa (oD (fun K=>AA (es (K.dq 42 103))))
                       (Aa (oG bU (fun K=>AA (K.kO 7)))
                       (Aa (KH rfl rfl rfl (fun a' w' ph K=>JJ (K.dq 43 104) bU) (fun a' w' ph K=>(B1 (e:=3) (vs:= #[(0,I 1)]) (cs:= #[I 1]) (IP (ec (v:=I 1))) (by kernel_rfl)).mono (fun u BI ⟨hJ,hu,j⟩=>⟨⟨_,_,hu,GS (xs:=[1]) (BJ:=[[I 1]]) j.bk ((cO.ext K.AV).kn (Nat.le_of_eq j.FI.symm)) (R2.mv (Ac j.gr) (show R2 (Al .i64) w' (zf Z w [some f,some d]) [[I 1]] [1] from⟨rfl,trivial⟩)) rfl (Nat.le_refl _)⟩,j.gr⟩)))
                       (Aa (oX bU (fun K=>match K.dq 45 106 with|⟨cY,cZ,hB,dC⟩=>(Ak Lb rfl (Ci (es (K.dq 44 105)) (es (t:=106) (v:=.slice cY ([1].length) cZ) hB)) (Qo i c.1 [1] aC aD cY cZ ZA _ (dP.mv (Ac K.AV)).all dC.all d1 iX)).mono (fun _ _ h=>⟨h.2,h.1⟩)))
                       (Aa (oD (fun K=>AR (es (K.dq 43 104)) bU (es (K.dq 46 107))))
                       (Aa (oD (fun K=>AA (es (K.dq 47 108))))
                       (Aa (oG cS (fun K=>AA (K.kO 8)))
                       (Aa (oG cS (fun K=>Dt (es (K.dq 49 110)) (ec (v:=I 180))))
                       (Aa (oD (fun K=>AR (es (K.dq 48 109)) cS (es (K.dq 50 111))))
                       (Aa (oD (fun K=>AA (es (K.dq 51 112))))
                       (Aa (oG cT (fun K=>AA (K.kO 11)))
                       (Aa (oG cT (fun K=>Dt (es (K.dq 53 114)) (ec (v:=I 0))))
                       (Aa (oD (fun K=>AR (es (K.dq 52 113)) cT (es (K.dq 54 115))))
                       (Aa (oD (fun K=>AA (es (K.dq 55 116))))
                       (Aa (oG bV (fun K=>AA (K.kO 10)))
                       (Aa (KH rfl rfl rfl (fun a' w' ph K=>JJ (K.dq 56 117) bV) (fun a' w' ph K=>(B1 (e:=3) (vs:= #[(0,I 1),(1,I 0)]) (cs:= #[I 1,I 0]) (Hv (ec (v:=I 1)) (ec (v:=I 0))) (by kernel_rfl)).mono (fun u BI ⟨hJ,hu,j⟩=>⟨⟨_,_,hu,GS (xs:=[1,0]) (BJ:=[[I 1],[I 0]]) j.bk ((cO.ext K.AV).kn (Nat.le_of_eq j.FI.symm)) (R2.mv (Ac j.gr) (show R2 (Al .i64) w' (zf Z w [some f,some d]) [[I 1],[I 0]] [1,0] from⟨rfl,rfl,trivial⟩)) rfl (Nat.le_refl _)⟩,j.gr⟩)))
                       (Aa (oX bV (fun K=>match K.dq 58 119 with|⟨c0,c1,hC,dD⟩=>(Ak Lb rfl (Ci (es (K.dq 57 118)) (es (t:=119) (v:=.slice c0 ([1,0].length) c1) hC)) (Qo i m.1 [1,0] aE aF c0 c1 ZA _ (dQ.mv (Ac K.AV)).all dD.all d2 iY)).mono (fun _ _ h=>⟨h.2,h.1⟩)))
                       (Aa (oD (fun K=>AR (es (K.dq 56 117)) bV (es (K.dq 59 120))))
                       (Aa (oD (fun K=>AA (es (K.dq 60 121))))
                       (Aa (oG cU (fun K=>AA (K.kO 13)))
                       (Aa (oG cU (fun K=>Dt (es (K.dq 62 123)) (ec (v:=I 0))))
                       (Aa (oD (fun K=>AR (es (K.dq 61 122)) cU (es (K.dq 63 124))))
                       (Aa (oD (fun K=>AA (es (K.dq 64 125))))
                       (Aa (oG bW (fun K=>AA (K.kO 12)))
                       (Aa (KH rfl rfl rfl (fun a' w' ph K=>JJ (K.dq 65 126) bW) (fun a' w' ph K=>(B1 (e:=3) (vs:= #[(0,I 0),(1,I 1)]) (cs:= #[I 0,I 1]) (Hv (ec (v:=I 0)) (ec (v:=I 1))) (by kernel_rfl)).mono (fun u BI ⟨hJ,hu,j⟩=>⟨⟨_,_,hu,GS (xs:=[0,1]) (BJ:=[[I 0],[I 1]]) j.bk ((cO.ext K.AV).kn (Nat.le_of_eq j.FI.symm)) (R2.mv (Ac j.gr) (show R2 (Al .i64) w' (zf Z w [some f,some d]) [[I 0],[I 1]] [0,1] from⟨rfl,rfl,trivial⟩)) rfl (Nat.le_refl _)⟩,j.gr⟩)))
                       (Aa (oX bW (fun K=>match K.dq 67 128 with|⟨c2,c3,hD,dE⟩=>(Ak Lb rfl (Ci (es (K.dq 66 127)) (es (t:=128) (v:=.slice c2 ([0,1].length) c3) hD)) (Qo i o.1 [0,1] aG aH c2 c3 ZA _ (dR.mv (Ac K.AV)).all dE.all d3 iZ)).mono (fun _ _ h=>⟨h.2,h.1⟩)))
                       (Aa (oD (fun K=>AR (es (K.dq 65 126)) bW (es (K.dq 68 129))))
                       (Aa (oD (fun K=>AA (es (K.dq 69 130))))
                       (Aa (oG cV (fun K=>AA (K.kO 15)))
                       (Aa (oG cV (fun K=>Dt (es (K.dq 71 132)) (ec (v:=I 0))))
                       (Aa (oD (fun K=>AR (es (K.dq 70 131)) cV (es (K.dq 72 133))))
                       (Aa (oD (fun K=>AA (es (K.dq 73 134))))
                       (Aa (oG cW (fun K=>AA (K.kO 14)))
                       (Aa (oG cW (fun K=>Dt (es (K.dq 75 136)) (ec (v:=I 1))))
                       (Aa (oD (fun K=>AR (es (K.dq 74 135)) cW (es (K.dq 76 137))))
                       (Aa (oD (fun K=>AA (es (K.dq 77 138))))
                       (Aa (oG cX (fun K=>AA (K.kO 17)))
                       (Aa (oG cX (fun K=>Dt (es (K.dq 79 140)) (ec (v:=I 0))))
                       (Aa (oD (fun K=>AR (es (K.dq 78 139)) cX (es (K.dq 80 141))))
                       (Aa (oD (fun K=>AA (es (K.dq 81 142))))
                       (Aa (oG bX (fun K=>AA (K.kO 16)))
                       (Aa (KH rfl rfl rfl (fun a' w' ph K=>JJ (K.dq 82 143) bX) (fun a' w' ph K=>(B1 (e:=3) (vs:= #[(0,I 0)]) (cs:= #[I 0]) (IP (ec (v:=I 0))) (by kernel_rfl)).mono (fun u BI ⟨hJ,hu,j⟩=>⟨⟨_,_,hu,GS (xs:=[0]) (BJ:=[[I 0]]) j.bk ((cO.ext K.AV).kn (Nat.le_of_eq j.FI.symm)) (R2.mv (Ac j.gr) (show R2 (Al .i64) w' (zf Z w [some f,some d]) [[I 0]] [0] from⟨rfl,trivial⟩)) rfl (Nat.le_refl _)⟩,j.gr⟩)))
                       (BR _)))))))))))))))))))))))))))))))))))))))))))))))))))))))))))))))))))))))))))))))))))))) ?_
                   intro j2;rintro _ rfl _ rfl _ rfl _ rfl _ ⟨dA,dB,rfl,dF⟩ _ rfl _ rfl _ rfl _ rfl _ rfl _ rfl _ rfl _ rfl _ rfl _ rfl _ rfl _ rfl _ rfl _ rfl _ rfl _ rfl _ rfl _ rfl _ rfl _ rfl _ rfl _ rfl _ rfl _ rfl _ rfl _ rfl _ rfl _ rfl _ rfl _ rfl _ rfl _ rfl _ rfl _ rfl _ rfl _ rfl _ rfl _ rfl _ rfl _ rfl _ ⟨cY,cZ,rfl,dC⟩ _ rfl _ rfl _ rfl _ rfl _ rfl _ rfl _ rfl _ rfl _ rfl _ rfl _ rfl _ rfl _ ⟨c0,c1,rfl,dD⟩ _ rfl _ rfl _ rfl _ rfl _ rfl _ rfl _ rfl _ rfl _ ⟨c2,c3,rfl,dE⟩ _ rfl _ rfl _ rfl _ rfl _ rfl _ rfl _ rfl _ rfl _ rfl _ rfl _ rfl _ rfl _ rfl _ rfl _ rfl _ rfl _ ⟨gC,gD,rfl,d7⟩ hE;have i0:=cO.ext hE;have dS:=(cN.mv (Ac hE));replace a:=bind_some a;obtain⟨hF,i1,a⟩:=a;refine wX bX (fun st=>Ak Lb (eR st) (Ci (eR st) (eR st)) (Qo i p.1 [0] aI aJ gC gD ZA _ dS.all d7.all hF i1)) ?_;rintro _ j3 ⟨i2,rfl⟩;have i3:=i0.ext i2;refine wD (fun st=>AR (v:=.bool hF) (eR st) bX (eR st))<|wA (v:=.bool hF) rfl<|wn<|Ap ?_;have jJ:=oi a;refine Au rfl rfl ?_;exact⟨i3.AZ,congrArg Value.bool jJ⟩
                  ·replace a:=An a bX;exact absurd (oi a) (by decide)
                 ·replace a:=An a cX;exact absurd (oi a) (by decide)
                ·replace a:=An a cW;exact absurd (oi a) (by decide)
               ·replace a:=An a cV;exact absurd (oi a) (by decide)
              ·replace a:=An a bW;exact absurd (oi a) (by decide)
             ·replace a:=An a cU;exact absurd (oi a) (by decide)
            ·replace a:=An a bV;exact absurd (oi a) (by decide)
           ·replace a:=An a cT;exact absurd (oi a) (by decide)
          ·replace a:=An a cS;exact absurd (oi a) (by decide)
         ·replace a:=An a bU;exact absurd (oi a) (by decide)
        ·replace a:=An a cR;exact absurd (oi a) (by decide)
       ·replace a:=An a bT;exact absurd (oi a) (by decide)
      ·replace a:=An a cQ;exact absurd (oi a) (by decide)
     ·replace a:=An a aB;exact absurd (oi a) (by decide)
    ·replace a:=An a aA;exact absurd (oi a) (by decide)
   ·replace a:=An a bS;exact absurd (oi a) (by decide)
  ·replace a:=An a cP;exact absurd (oi a) (by decide)
 ·replace a:=An a bR;exact absurd (oi a) (by decide)
end Go.Proofs.YtbhofkcbfblijaaGreat
end
section
namespace Go.Proofs.YtbhofkcbfblijaaGreat
open Go.RowKit Go.ChangeShapes Go.WideShapes
theorem RW{α β:Type}{g:α→Option β}:∀{l:List α} {r:List β},l.mapM g=some r→∀(i:Nat) (x:α),l[i]?=some x→∃y,r[i]?=some y∧g x=some y
 |[],_,_,i,x,b=>by simp at b
 |a::l,r,h,i,x,b=>by
  rw[List.mapM_cons] at h;obtain⟨y,d,h2⟩:=Option.bind_eq_some_iff.1 h;obtain⟨ys,c,e⟩:=Option.bind_eq_some_iff.1 h2;obtain rfl:y::ys=r:=by simpa using e
  cases i with
  |zero=>
   obtain rfl:a=x:=by simpa using b
   exact⟨y,rfl,d⟩
  |succ i=>exact RW c i x (by simpa using b)
theorem Mp{H:Type}{P:Program}{e:TypeId}{d:DataW H}{n:Nat}(b:n∈d.weights P e):∀{l:List (DataW H)},d∈l→n∈DataW.weightsAll P e l
 |[],h=>by cases h
 |a::l,h=>by
  rw[DataW.weightsAll,List.mem_append];rcases List.mem_cons.1 h with rfl|h
  ·exact .inl b
  ·exact .inr (Mp b h)
def OK {H:Type} (P:Program) (t:TypeId) (d:DataW H):Prop:=∀n∈d.weights P t,n≤reachBytes
theorem NZ{H:Type}{P:Program}{a:List TypeId}{ds:List (DataW H)}(h:(DataW.weightsEach P a ds).all (· ≤reachBytes)=true){j:Nat}{t:TypeId}{d:DataW H}(b:a[j]?=some t)(c:ds[j]?=some d):OK P t d:=fun n e=>by
 have:=List.all_eq_true.1 h _ (DataW.weights_mem_each b c n e);simpa using this
def Mq {α:Type} (P:Program) (t:TypeId) (e:CD α) (wf:α→Prop):Prop:=
 ∀(H:Type) (enc:TypeId×Value→H) (w:World) (sp:Nat→Bool) (fuel:Nat) (cs:List Value) (x:DataW H×List MemPlace),DataW.trod enc P w 0 sp true fuel t cs=some x→OK P t x.1→∃a,e.R w ZA cs a∧wf a
def HW(k:IntKind)(n:Int):Prop:=(Lit.int k n).wf=true
section
variable{P:Program}{t:TypeId}
theorem IB{k:IntKind}(a:P.underlying t=some (.int k)):Mq P t (Al k) (HW k):=by
 intro H enc w sp fuel cs x h _;obtain⟨n,h1,_,b⟩:=DataW.trod_int a h;exact⟨n,h1,b⟩
theorem Wu(a:P.underlying t=some .bool):Mq P t AaY (fun _=>True):=by
 intro H enc w sp fuel cs x h _;obtain⟨b,h1,_⟩:=DataW.trod_bool a h;exact⟨b,h1,trivial⟩
theorem IN {e:Array Field} (g:P.underlying t=some (.struct e)) {H:Type} {enc:TypeId×Value→H} {w:World} {sp:Nat→Bool} {fuel:Nat} {cs:List Value} {x:DataW H×List MemPlace} (h:DataW.trod enc P w 0 sp true fuel t cs=some x):
  cs.length=P.cellsOf t∧∃c,∀(i a off:Nat),(e[i]?).map (fun f=>(f.type,f.offset))=some (a,off)→∃y,DataW.trod enc P w 0 sp true c a ((cs.drop off).take (P.cellsOf a))=some y∧(OK P t x.1→OK P a y.1):=by
 cases fuel with
 |zero=>simp[DataW.trod] at h
 |succ fuel=>
  unfold DataW.trod at h;simp only[g] at h;split at h
  ·rename_i hl
   obtain⟨xs,m,rfl⟩:=Option.map_eq_some_iff.1 h;refine⟨hl,fuel,fun i a off o=>?_⟩;obtain⟨f,b,he⟩:=Option.map_eq_some_iff.1 o;obtain⟨k,p⟩:f.type=a∧f.offset=off:=by simpa using he
   rw[←Array.getElem?_toList] at b;obtain⟨y,q,l⟩:=RW m i f b;rw[k,p] at l;refine⟨y,l,fun hs n r=>hs n ?_⟩;simp only[DataW.weights,g];exact DataW.weights_mem_each (j:=i) (t:=a) (d:=y.1) (by rw[List.getElem?_map,b];simp[k]) (by rw[List.getElem?_map,q];rfl) n r
  ·cases h
theorem T6{w:World}{a:Addr}{n:Nat}{cs:List Value}(h:w.cells? 0 a n=some cs):cs.length=n∧∀j u,cs[j]?=some u→w.cell? (a.add j)=some u:=by
 unfold World.cells? at h;rw[if_pos (Nat.zero_le _)] at h;have hl:=mapM_some_length h;refine⟨by simpa using hl,?_⟩;have key:∀(l:List Nat) (r:List Value),l.mapM (fun i=>w.cell? (a.add i))=some r→∀(j i:Nat) (u:Value),l[j]?=some i→r[j]?=some u→w.cell? (a.add i)=some u:=by
  intro l
  induction l with
  |nil=>intro r _ j i u hj;simp at hj
  |cons b l ih=>
   intro r h j i u hj hr;rw[List.mapM_cons] at h;obtain⟨y,e,h2⟩:=Option.bind_eq_some_iff.1 h;obtain⟨ys,c,f⟩:=Option.bind_eq_some_iff.1 h2;obtain rfl:y::ys=r:=by simpa using f
   cases j with
   |zero=>
    obtain rfl:b=i:=by simpa using hj
    obtain rfl:y=u:=by simpa using hr
    exact e
   |succ j=>exact ih ys c j i u (by simpa using hj) (by simpa using hr)
 intro j u hj;have d:j<n:=by
  have:=(List.getElem?_eq_some_iff.1 hj).1;have h2:cs.length=n:=by simpa using hl
  omega
 exact key _ _ h j j u (by simp[d]) hj
theorem U8{w:World}{a:Addr}{u:Value}(h:w.cell? a=some u):∃b o,a=⟨b,o,none⟩∧b<w.heap.size:=by
 obtain⟨b,o,pt⟩:=a;cases pt with
 |none=>
  refine⟨b,o,rfl,?_⟩;unfold World.cell? at h;cases c:w.heap[b]? with
  |none=>simp[c] at h
  |some o=>exact(Array.getElem?_eq_some_iff.1 c).1
 |some q=>
  unfold World.cell? at h;cases c:w.heap[b]? with
  |none=>simp[c] at h
  |some ob=>cases ob<;>simp[c] at h
theorem add_add{a:Addr}{k j:Nat}(h:k≤j):(a.add k).add (j-k)=a.add j:=by
 obtain⟨b,o,pt⟩:=a;cases pt with
 |none=>rw[GQ,GQ,GQ];congr 1;omega
 |some q=>
  unfold Addr.add
  by_cases hj:j=0
  ·have:k=0:=by omega
   subst this;subst hj;simp
  ·by_cases hk:k=0
   ·subst hk;simp[hj]
   ·by_cases c:j-k=0
    ·have:j=k:=by omega
     subst this;simp[hk]
    ·simp[hj,hk,c];omega
theorem IK {α:Type} {e:TypeId} {ee:CD α} {wf:α→Prop} (v:P.underlying t=some (.slice e)) (aJ:P.cellsOf e=ee.sz) (h0:0<ee.sz) (aK:Mq P e ee wf) {b:Nat} (aB:P.bytesOf e=b):Mq P t (Bx ee) (fun xs=>xs.length*b≤140737488351232∧∀x∈xs,wf x):=by
 intro H enc w sp fuel cs x h r;rcases Go.Deep.open_slice v h with⟨rfl,_⟩|⟨a,len,cap,m,n0,D,aP,rfl,_,aC,aN,hm,aD,y⟩
 ·exact⟨[],⟨none,0,rfl,Sl.nil _ _ _⟩,by simp,by simp⟩
 ·have aO:len≤m:=by rw[hm];split<;>omega
  subst aD;have g:len*b≤140737488351232:=by
   have:=r ((((List.range len).map D).length+((List.range (m-len)).map fun j=>D (len+j)).length)*P.bytesOf e) (by simp[DataW.weights,v]);rw[aB] at this;have h2:len*b≤(((List.range len).map D).length+((List.range (m-len)).map fun j=>D (len+j)).length)*b:=Nat.mul_le_mul_right _ (by simp);exact Nat.le_trans h2 this
  have k:∀i,i<len→OK P e (D i):=fun i hi n aE=>r n (by
   simp only[DataW.weights,v];rw[List.mem_cons,List.mem_append];exact .inr (.inl (Mp aE (List.mem_map.2 ⟨i,by simpa using hi,rfl⟩))))
  have key:∀n,n≤len→∃BJ xs,R2 ee w ZA BJ xs∧xs.length=n∧(∀x∈xs,wf x)∧∀j u,BJ.flatten[j]?=some u→w.cell? (a.add j)=some u:=by
   intro n
   induction n with
   |zero=>exact fun _=>⟨[],[],trivial,rfl,by simp,by simp⟩
   |succ n ih=>
    intro aE;obtain⟨BJ,xs,h1,h2,aA,l⟩:=ih (by omega);obtain⟨ds,aL,aF⟩:=y n (by omega);obtain⟨z,aM,aG⟩:=aK _ _ _ _ _ _ _ aF (k n (by omega));obtain⟨hl,p⟩:=T6 aL;refine⟨BJ++[ds],xs++[z],h1.append ⟨aM,trivial⟩,by simp[h2],?_,?_⟩
    ·intro x c;rcases List.mem_append.1 c with c|c
     ·exact aA x c
     ·rw[List.mem_singleton.1 c];exact aG
    ·intro j u hj;rw[List.flatten_append] at hj;rcases Nat.lt_or_ge j BJ.flatten.length with d|f
     ·rw[List.getElem?_append_left d] at hj;exact l j u hj
     ·rw[List.getElem?_append_right f] at hj;have q:=p (j-BJ.flatten.length) u (by simpa using hj);have aH:BJ.flatten.length=n*ee.sz:=by rw[h1.L7,h2]
      rw[aH] at q f;rw[aJ] at q;rw[add_add f] at q;exact q
  obtain⟨BJ,xs,h1,h2,aA,l⟩:=key len (Nat.le_refl _);refine⟨xs,⟨some a,cap,by rw[h2],by rw[h2];exact aC,(fun e=>by cases e),BJ,h1,?_⟩,by rw[h2];exact g,aA⟩;cases aI:BJ.flatten with
  |nil=>exact .inl rfl
  |cons u us=>
   have hu:=l 0 u (by rw[aI];rfl);obtain⟨b,o,s,d⟩:=U8 hu;have ha:a=⟨b,o,none⟩:=by
    obtain⟨b',o',pt⟩:=a;cases pt<;>simp[Addr.add] at s⊢;exact s
   subst ha;refine .inr ⟨b,o,rfl,trivial,d,fun j u hj=>?_⟩;have:=l j u (by rw[aI];exact hj);rw[GQ] at this;exact this
end
section
variable{H:Type}{enc:TypeId×Value→H}{P:Program}{W W':World}
theorem M3{sp:Nat→Bool}:∀{e:List TypeId} {vs:List Value} {ds:List (DataW H)} {ps:List MemPlace},DataW.TrodAll enc P W 0 sp true e vs ds ps→(∀p∈ps,W.sameAt W' p)→DataW.TrodAll enc P W' 0 sp true e vs ds ps
 |[],_,_,_,h,_=>by
  obtain⟨rfl,rfl,rfl⟩:=trodAll_nil h;exact rfl
 |_::_,_,_,_,h,hs=>by
  obtain⟨v,g,d,i,a,b,rfl,rfl,rfl,⟨n,f⟩,h2⟩:=trodAll_cons h;exact⟨a,b,⟨n,DataW.trod_carry n _ _ _ f fun p c=>hs p (List.mem_append_left _ c)⟩,M3 h2 fun p c=>hs p (List.mem_append_right _ c),rfl⟩
theorem Qq(K:Kids P (· <P.types.size))(c:∀t e,t<P.types.size→P.underlying t=some (.slice e)→0<P.cellsOf e){a:List TypeId}{vs:List Value}{ds:List (DataW H)}{ps:List MemPlace}(d:∀t∈a,t<P.types.size)
  (f:DataW.TrodAll enc P W 0 (fun _=>true) true a vs ds ps)(hb:Ext W W')(b:∀p∈ps,p.block<W.heap.size)(sp:Nat→Bool)(hs:∀p∈ps,sp p.block=true):DataW.TrodAll enc P W' 0 sp true a vs ds ps:=
 M3 (DataW.TrodAll.respare K c d f hs) fun p g=>(M4 hb).same (b p g)
variable{α:Type}{e:CD α}{wf:α→Prop}{t:TypeId}{b0:Nat}{v:Value}{d:DataW H}{p:List MemPlace}{sp:Nat→Bool}
theorem Tq{c:Array Field}(f:P.underlying t=some (.struct c))(g:Mq P t e wf)(b:Value.okWide P W .any b0 t v)(h:DataW.Trod enc P W 0 sp true t v d p)(hs:OK P t d):∃a cs,v=.agg cs.toArray∧e.R W ZA cs a∧wf a:=by
 unfold Value.okWide at b;rw[f] at b;obtain⟨cs,rfl,_⟩:=b;obtain⟨n,i⟩:=h;obtain⟨a,h1,h2⟩:=g _ _ _ _ _ _ _ i hs;exact⟨a,cs.toList,by simp,h1,h2⟩
theorem U9{ee:TypeId}(f:P.underlying t=some (.slice ee)){wf:List α→Prop}(g:Mq P t (Bx e) wf)(i:Value.okWide P W .any b0 t v)(h:DataW.Trod enc P W 0 sp true t v d p)(hs:OK P t d):∃xs A c,v=.slice A xs.length c∧Sl e W ZA A c xs∧wf xs:=by
 obtain⟨A,n,c,rfl⟩:=okWide_slice f i;obtain⟨m,hm⟩:=h;obtain⟨xs,⟨a,b,h1,h2⟩,j⟩:=g _ _ _ _ _ _ _ hm hs;have:Value.slice A n c=Value.slice a xs.length b:=by simpa[Value.cells] using h1
 exact⟨xs,a,b,this,h2,j⟩
theorem Oh {f:Func} {s:ChangeSpec} {apart fresh handsOn again:Bool} {args:Array Value} {v:Value} {ds gs:List (DataW H)} {before pa pv:List MemPlace}
  (k:DataW.Whole enc P f.params.toList s.vars apart W args.toList ds gs before)
  (g:∀(b:Nat) (sp:Nat→Bool) (m:Bool),DataW.TrodAll enc P W' b sp m f.resultTypes.toList (v.resultList f.resultTypes.size) (s.fn H (ds++gs)).results [])
  (c:∀sp:Nat→Bool,(∀p∈before,sp p.block=true)→DataW.TrodAll enc P W' 0 sp true f.params.toList args.toList (s.fn H (ds++gs)).args pa)
  (d:∀sp:Nat→Bool,(∀p∈before,sp p.block=true)→DataW.TrodVars enc P W' sp s.vars (s.fn H (ds++gs)).vars pv)
  (e:before=pa++pv) (n:Ext W W')
  (l:∀(j:Nat) (t:TypeId) (r:Value),f.resultTypes[j]?=some t→(v.resultList f.resultTypes.size)[j]?=some r→Value.okWide P W' .any 0 t r):
  s.post enc P f apart fresh handsOn again W args v W':=by
 have hb:=M4 n;have h:∀p∈before,p.block<W.heap.size:=fun p a=>k.lt p a;have hold:∀p∈before,(fun b=>decide (b<W.heap.size)) p.block=true:=fun p a=>by simpa using h p a
 refine⟨ds,gs,before,[],pa,pv,k,g _ _ _,c _ hold,d _ hold,World.keptBut_mono (fun p a=>⟨a,?_⟩) (hb.frame (· ∈before)),fun _=>?_⟩
 ·rw[e,List.mem_append] at a;exact Or.inr a
 ·obtain⟨_,_,_,_,_,o,q⟩:=k;refine⟨l,_,_,([]++pa)++pv,⟨[]++pa,pv,trodAll_append (c _ (fun _ _=>rfl)) (g _ _ _),d _ (fun _ _=>rfl),rfl,?_,?_⟩,?_⟩
  ·intro b off a;have i:MemPlace.cell b off∈before:=by rw[e];simpa using a
   rw[hb.frozen (h _ i)];exact o b off i
  ·intro ha;have:=q ha;rw[e] at this;simpa using this
  ·intro p a _;rw[e];simpa using a
theorem Qr{f:FuncId}{args:Array Value}{w:World}{R:Value→World→Prop}(h:BN P f args w R):Calls P f args w (fun e w'=>∃v,e=.returned v∧R v w'):=h
end
theorem T7:∀{cs:List Value},cs.length=2→∃a0 a1,cs=[a0,a1]
 |[a0,a1],_=>⟨a0,a1,rfl⟩
theorem W8:∀{cs:List Value},cs.length=3→∃a0 a1 a2,cs=[a0,a1,a2]
 |[a0,a1,a2],_=>⟨a0,a1,a2,rfl⟩
theorem Abc:∀{cs:List Value},cs.length=4→∃a0 a1 a2 a3,cs=[a0,a1,a2,a3]
 |[a0,a1,a2,a3],_=>⟨a0,a1,a2,a3,rfl⟩
theorem Abd:∀{cs:List Value},cs.length=7→∃a0 a1 a2 a3 a4 a5 a,cs=[a0,a1,a2,a3,a4,a5,a]
 |[a0,a1,a2,a3,a4,a5,a],_=>⟨a0,a1,a2,a3,a4,a5,a,rfl⟩
theorem RX:Mq Tryz.prog 44 Ax (fun x=>(HW .i64 x.Lo∧HW .i64 x.Hi)):=by
 intro H enc w sp fuel cs x h c;obtain⟨hl,i,d⟩:=IN Tryz.underlying44 h;have j:Tryz.prog.cellsOf 44=2:=by kernel_rfl
 rw[j] at hl;have e:Tryz.prog.cellsOf 3=1:=by kernel_rfl
 obtain⟨a0,a1,rfl⟩:=T7 hl;obtain⟨k,a,f⟩:=d 0 3 0 rfl;simp only[e,List.drop_zero,List.drop_succ_cons,List.take_succ_cons,List.take_zero] at a;obtain⟨n0,h0,w0⟩:=(IB Tryz.underlying3) _ _ _ _ _ _ _ a (f c);cases h0;obtain⟨l,b,g⟩:=d 1 3 1 rfl;simp only[e,List.drop_zero,List.drop_succ_cons,List.take_succ_cons,List.take_zero] at b;obtain⟨n1,h1,w1⟩:=(IB Tryz.underlying3) _ _ _ _ _ _ _ b (g c);cases h1;exact⟨⟨n0,n1⟩,rfl,w0,w1⟩
theorem AaG:Mq Tryz.prog 46 AF (fun x=>(True∧HW .i64 x.Number∧(HW .i64 ((⟨x.Bl,x.Bm⟩:AL).Lo)∧HW .i64 ((⟨x.Bl,x.Bm⟩:AL).Hi)))):=by
 intro H enc w sp fuel cs x h d;obtain⟨hl,l,e⟩:=IN Tryz.underlying46 h;have m:Tryz.prog.cellsOf 46=4:=by kernel_rfl
 rw[m] at hl;have n:Tryz.prog.cellsOf 3=1:=by kernel_rfl
 have o:Tryz.prog.cellsOf 4=1:=by kernel_rfl
 have f:Tryz.prog.cellsOf 44=2:=by kernel_rfl
 obtain⟨a0,a1,a2,a3,rfl⟩:=Abc hl;obtain⟨p,a,g⟩:=e 0 4 0 rfl;simp only[o,List.drop_zero,List.drop_succ_cons,List.take_succ_cons,List.take_zero] at a;obtain⟨n0,h0,w0⟩:=(Wu Tryz.underlying4) _ _ _ _ _ _ _ a (g d);cases h0;obtain⟨q,b,i⟩:=e 1 3 1 rfl;simp only[n,List.drop_zero,List.drop_succ_cons,List.take_succ_cons,List.take_zero] at b;obtain⟨n1,h1,w1⟩:=(IB Tryz.underlying3) _ _ _ _ _ _ _ b (i d);cases h1;obtain⟨r,c,j⟩:=e 2 44 2 rfl;simp only[f,List.drop_zero,List.drop_succ_cons,List.take_succ_cons,List.take_zero] at c;obtain⟨k,h2,w2⟩:=RX _ _ _ _ _ _ _ c (j d);cases h2;exact⟨⟨n0,n1,k.Lo,k.Hi⟩,rfl,w0,w1,w2⟩
theorem AaH:Mq Tryz.prog 26 Re (fun x=>((x.Az.length*16≤140737488351232∧∀y∈x.Az,(HW .i64 y.Lo∧HW .i64 y.Hi))∧(x.Bb.length*24≤140737488351232∧∀y∈x.Bb,(y.length*8≤140737488351232∧∀g∈y,HW .i64 g))∧(x.AP.length*32≤140737488351232∧∀y∈x.AP,(True∧HW .i64 y.Number∧(HW .i64 ((⟨y.Bl,y.Bm⟩:AL).Lo)∧HW .i64 ((⟨y.Bl,y.Bm⟩:AL).Hi)))))):=by
 intro H enc w sp fuel cs x h e;obtain⟨hl,o,f⟩:=IN Tryz.underlying26 h;have p:Tryz.prog.cellsOf 26=3:=by kernel_rfl
 rw[p] at hl;have i:Tryz.prog.cellsOf 22=1:=by kernel_rfl
 have j:Tryz.prog.cellsOf 23=1:=by kernel_rfl
 have k:Tryz.prog.cellsOf 24=1:=by kernel_rfl
 obtain⟨a0,a1,a2,rfl⟩:=W8 hl;obtain⟨aA,a,l⟩:=f 0 22 0 rfl;simp only[i,List.drop_zero,List.drop_succ_cons,List.take_succ_cons,List.take_zero] at a;obtain⟨n0,⟨q,r,h0,s0⟩,w0⟩:=(IK (b:=16) Tryz.underlying22 (by kernel_rfl) (by decide) RX (by kernel_rfl)) _ _ _ _ _ _ _ a (l e);cases h0;obtain⟨aB,c,m⟩:=f 1 23 1 rfl;simp only[j,List.drop_zero,List.drop_succ_cons,List.take_succ_cons,List.take_zero] at c;obtain⟨n1,⟨s,t,h1,s1⟩,w1⟩:=(IK (b:=24) Tryz.underlying23 (by kernel_rfl) (by decide) (IK (b:=8) Tryz.underlying31 (by kernel_rfl) (by decide) (IB Tryz.underlying3) (by kernel_rfl)) (by kernel_rfl)) _ _ _ _ _ _ _ c (m e);cases h1;obtain⟨aC,d,n⟩:=f 2 24 2 rfl;simp only[k,List.drop_zero,List.drop_succ_cons,List.take_succ_cons,List.take_zero] at d;obtain⟨u,⟨v,z,h2,s2⟩,w2⟩:=(IK (b:=32) Tryz.underlying24 (by kernel_rfl) (by decide) AaG (by kernel_rfl)) _ _ _ _ _ _ _ d (n e);cases h2;exact⟨⟨n0,n1,u⟩,⟨q,r,s,t,v,z,rfl,s0,s1,s2⟩,w0,w1,w2⟩
theorem Zk:Mq Tryz.prog 128 AT (fun x=>(HW .i64 x.Bd∧HW .i64 x.B3)):=by
 intro H enc w sp fuel cs x h c;obtain⟨hl,i,d⟩:=IN Tryz.underlying128 h;have j:Tryz.prog.cellsOf 128=2:=by kernel_rfl
 rw[j] at hl;have e:Tryz.prog.cellsOf 3=1:=by kernel_rfl
 obtain⟨a0,a1,rfl⟩:=T7 hl;obtain⟨k,a,f⟩:=d 0 3 0 rfl;simp only[e,List.drop_zero,List.drop_succ_cons,List.take_succ_cons,List.take_zero] at a;obtain⟨n0,h0,w0⟩:=(IB Tryz.underlying3) _ _ _ _ _ _ _ a (f c);cases h0;obtain⟨l,b,g⟩:=d 1 3 1 rfl;simp only[e,List.drop_zero,List.drop_succ_cons,List.take_succ_cons,List.take_zero] at b;obtain⟨n1,h1,w1⟩:=(IB Tryz.underlying3) _ _ _ _ _ _ _ b (g c);cases h1;exact⟨⟨n0,n1⟩,rfl,w0,w1⟩
theorem Zl:Mq Tryz.prog 126 AW (fun x=>(HW .i64 x.Cr∧HW .i64 x.CE)):=by
 intro H enc w sp fuel cs x h c;obtain⟨hl,i,d⟩:=IN Tryz.underlying126 h;have j:Tryz.prog.cellsOf 126=2:=by kernel_rfl
 rw[j] at hl;have e:Tryz.prog.cellsOf 3=1:=by kernel_rfl
 obtain⟨a0,a1,rfl⟩:=T7 hl;obtain⟨k,a,f⟩:=d 0 3 0 rfl;simp only[e,List.drop_zero,List.drop_succ_cons,List.take_succ_cons,List.take_zero] at a;obtain⟨n0,h0,w0⟩:=(IB Tryz.underlying3) _ _ _ _ _ _ _ a (f c);cases h0;obtain⟨l,b,g⟩:=d 1 3 1 rfl;simp only[e,List.drop_zero,List.drop_succ_cons,List.take_succ_cons,List.take_zero] at b;obtain⟨n1,h1,w1⟩:=(IB Tryz.underlying3) _ _ _ _ _ _ _ b (g c);cases h1;exact⟨⟨n0,n1⟩,rfl,w0,w1⟩
theorem Zm:Mq Tryz.prog 121 Bj (fun x=>(HW .i64 x.BY∧(HW .i64 ((⟨x.Ck,x.Cl⟩:AL).Lo)∧HW .i64 ((⟨x.Ck,x.Cl⟩:AL).Hi)))):=by
 intro H enc w sp fuel cs x h c;obtain⟨hl,i,d⟩:=IN Tryz.underlying121 h;have j:Tryz.prog.cellsOf 121=3:=by kernel_rfl
 rw[j] at hl;have k:Tryz.prog.cellsOf 3=1:=by kernel_rfl
 have e:Tryz.prog.cellsOf 44=2:=by kernel_rfl
 obtain⟨a0,a1,a2,rfl⟩:=W8 hl;obtain⟨l,a,f⟩:=d 0 3 0 rfl;simp only[k,List.drop_zero,List.drop_succ_cons,List.take_succ_cons,List.take_zero] at a;obtain⟨n0,h0,w0⟩:=(IB Tryz.underlying3) _ _ _ _ _ _ _ a (f c);cases h0;obtain⟨m,b,g⟩:=d 1 44 1 rfl;simp only[e,List.drop_zero,List.drop_succ_cons,List.take_succ_cons,List.take_zero] at b;obtain⟨n1,h1,w1⟩:=RX _ _ _ _ _ _ _ b (g c);cases h1;exact⟨⟨n0,n1.Lo,n1.Hi⟩,rfl,w0,w1⟩
theorem Va:Mq Tryz.prog 67 PA (fun x=>(((((⟨x.Aj,x.Ab,x.Aq⟩:Bh).Az).length*16≤140737488351232∧∀y∈((⟨x.Aj,x.Ab,x.Aq⟩:Bh).Az),(HW .i64 y.Lo∧HW .i64 y.Hi))∧(((⟨x.Aj,x.Ab,x.Aq⟩:Bh).Bb).length*24≤140737488351232∧∀y∈((⟨x.Aj,x.Ab,x.Aq⟩:Bh).Bb),(y.length*8≤140737488351232∧∀s∈y,HW .i64 s))∧(((⟨x.Aj,x.Ab,x.Aq⟩:Bh).AP).length*32≤140737488351232∧∀y∈((⟨x.Aj,x.Ab,x.Aq⟩:Bh).AP),(True∧HW .i64 y.Number∧(HW .i64 ((⟨y.Bl,y.Bm⟩:AL).Lo)∧HW .i64 ((⟨y.Bl,y.Bm⟩:AL).Hi)))))∧HW .i64 x.Flat∧(x.AB.length*16≤140737488351232∧∀y∈x.AB,(HW .i64 y.Bd∧HW .i64 y.B3))∧(x.AE.length*16≤140737488351232∧∀y∈x.AE,(HW .i64 y.Cr∧HW .i64 y.CE))∧(x.AK.length*24≤140737488351232∧∀y∈x.AK,(HW .i64 y.BY∧(HW .i64 ((⟨y.Ck,y.Cl⟩:AL).Lo)∧HW .i64 ((⟨y.Ck,y.Cl⟩:AL).Hi)))))):=by
 intro H enc w sp fuel cs x h a;obtain⟨hl,aF,c⟩:=IN Tryz.underlying67 h;have aG:Tryz.prog.cellsOf 67=7:=by kernel_rfl
 rw[aG] at hl;have aH:Tryz.prog.cellsOf 3=1:=by kernel_rfl
 have t:Tryz.prog.cellsOf 26=3:=by kernel_rfl
 have u:Tryz.prog.cellsOf 63=1:=by kernel_rfl
 have v:Tryz.prog.cellsOf 64=1:=by kernel_rfl
 have z:Tryz.prog.cellsOf 65=1:=by kernel_rfl
 obtain⟨a0,a1,a2,a3,a4,a5,aX,rfl⟩:=Abd hl;obtain⟨aY,d,aA⟩:=c 0 26 0 rfl;simp only[t,List.drop_zero,List.drop_succ_cons,List.take_succ_cons,List.take_zero] at d;obtain⟨n0,⟨j,k,l,m,n,o,h0,p,q,r⟩,w0⟩:=AaH _ _ _ _ _ _ _ d (aA a);cases h0;obtain⟨aZ,e,aB⟩:=c 1 3 3 rfl;simp only[aH,List.drop_zero,List.drop_succ_cons,List.take_succ_cons,List.take_zero] at e;obtain⟨n1,h1,w1⟩:=(IB Tryz.underlying3) _ _ _ _ _ _ _ e (aB a);cases h1;obtain⟨a6,f,aC⟩:=c 2 63 4 rfl;simp only[u,List.drop_zero,List.drop_succ_cons,List.take_succ_cons,List.take_zero] at f;obtain⟨aI,⟨aJ,aK,h2,s2⟩,w2⟩:=(IK (b:=16) Tryz.underlying63 (by kernel_rfl) (by decide) Zk (by kernel_rfl)) _ _ _ _ _ _ _ f (aC a);cases h2;obtain⟨a7,g,aD⟩:=c 3 64 5 rfl;simp only[v,List.drop_zero,List.drop_succ_cons,List.take_succ_cons,List.take_zero] at g;obtain⟨aL,⟨aM,aN,aO,aP⟩,aQ⟩:=(IK (b:=16) Tryz.underlying64 (by kernel_rfl) (by decide) Zl (by kernel_rfl)) _ _ _ _ _ _ _ g (aD a);cases aO;obtain⟨a8,i,aE⟩:=c 4 65 6 rfl;simp only[z,List.drop_zero,List.drop_succ_cons,List.take_succ_cons,List.take_zero] at i;obtain⟨aR,⟨aS,aT,aU,aV⟩,aW⟩:=(IK (b:=24) Tryz.underlying65 (by kernel_rfl) (by decide) Zm (by kernel_rfl)) _ _ _ _ _ _ _ i (aE a);cases aU;exact⟨⟨n0.Az,n0.Bb,n0.AP,n1,aI,aL,aR⟩,⟨j,k,l,m,n,o,aJ,aK,aM,aN,aS,aT,rfl,p,q,r,s2,aP,aV⟩,w0,w1,w2,aQ,aW⟩
theorem AaI:ownKnob Tryz.prog.godebug=none:=by kernel_rfl
theorem W9:Kids Tryz.prog (· <Tryz.prog.types.size):=kids_rows (by kernel_rfl) (by kernel_rfl)
theorem Xa:∀t e,t<Tryz.prog.types.size→Tryz.prog.underlying t=some (.slice e)→0<Tryz.prog.cellsOf e:=slices_full_of Tryz.prog (by kernel_rfl)
end Go.Proofs.YtbhofkcbfblijaaGreat
end
section
namespace Go.Proofs.YtbhofkcbfblijaaGreat
open Go
theorem CF{a b:Bool}(h:a=true)(g:b=true):(a&&b)=true:=by rw[h,g];rfl
theorem KE{a b:Bool}(h:(a&&b)=true):a=true:=(Bool.and_eq_true _ _▸h:a=true∧b=true).1
theorem Oi{a b:Bool}(h:(a&&b)=true):b=true:=(Bool.and_eq_true _ _▸h:a=true∧b=true).2
theorem Vb:laidOutB Tryz.checked.prog=true:=by kernel_rfl
theorem Vc:mapsRowed Tryz.checked.prog=true:=by kernel_rfl
theorem Ts:(Tryz.checked.prog.stops==[])=true:=by kernel_rfl
theorem Tt:(Tryz.checked.prog.stopKnobs==[])=true:=by kernel_rfl
theorem Tu:Tryz.checked.prog.stopsHeard=true:=by kernel_rfl
theorem Vd:(Rows.tradePlaysRow.plainKeys==Tryz.checked.prog.plainKeys)=true:=by kernel_rfl
theorem Mr:(Tryz.checked.prog.mayEnter&&(Rows.tradePlaysRow.lifted==Tryz.checked.prog.liftsFinal)&&(Tryz.checked.prog.make==some Rows.tradePlaysRow.make))=true:=by kernel_rfl
end Go.Proofs.YtbhofkcbfblijaaGreat
end
