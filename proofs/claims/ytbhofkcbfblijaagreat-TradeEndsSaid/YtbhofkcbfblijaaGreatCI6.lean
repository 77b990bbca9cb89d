import Derived.Test.YtbhofkcbfblijaaGreatCI5
import Derived.WalkKit
import Derived.KernelRfl
import Derived.WalkSpells
import Derived.WalkLawsBesides
import Derived.Maps.AppendAt
import Derived.OrdersIn
import Derived.RangeFuncIn
import Derived.RangeFuncLeaves
import Derived.RangeFuncRecord
import Derived.RangeFuncSeq
import Derived.Scope
import Derived.DeepKeys3
import Derived.Laws.CopyRow
import Derived.Laws.OwnMore
import Derived.Laws.MakeOwn
import Derived.Laws.IdiomCopy
import Derived.Sort.OwnSortedInts
import Derived.Lib.RowBridge
import Derived.Shelf.Sort.Plain
import Derived.Ground.Names2Prog
import Derived.Shelf.Slices.Clone
import Derived.Shelf.Slices.CompactI
import Derived.Shelf.Slices.In.SortNone
import Derived.Ground.SlgnProg
import Derived.Shelf.SlicesE.Clone
import Derived.ProofKit
import Derived.ChangeSame
import Derived.SizedLaws
import Derived.Deep.Slices
import Derived.JoinedOf
import Derived.Test.YtbhofkcbfblijaaGreatProg
import Derived.Test.YtbhofkcbfblijaaGreatRows
/-
  The contracts of the functions of the program and of the reference, and the logic that they are proved in: the base that several claims of this seat share.
-/
set_option linter.all false
section
namespace Go.Proofs.YtbhofkcbfblijaaGreat
open Go.RowKit Go.WideShapes
set_option maxRecDepth 20000
open HF
attribute [local irreducible] Ce WL CC CW LV BO G2 E9 One Bc
theorem a98 q a(Z:Nat→Prop) w i(j:Hn q a=some i):
 BO Tryz.prog 98 #[.agg #[I a.Lo,I a.Hi]] w (fun v w'=>Ext w w'∧(DJ AA).R w' (zf Z w []) v i):=by
 unfold Hn at j;refine rq (N:=8) Tryz.func98 fun r ha s=>?_;have h:=sA 0 ha;clear ha;have e:Hp FN [] w [] w:=Hp.start (BC.none w);refine cr<|wE (fun st=>BN (v:=.agg #[I a.Lo,I a.Hi]) (cs:= #[I a.Lo,I a.Hi]) (ee st h) rfl) ?_;rintro _ w1 ⟨b1,rfl,d⟩;have f:=e.nb d;have o:=e.BJ d;refine wE (fun st=>B8 (cs:= #[I 0,I 0]) MP rfl) ?_;rintro _ w2 ⟨b2,rfl,b⟩;have k:=f.nb b;have p:=f.BJ b;refine wr<|wD (fun st=>Ad (eR st) (KU _ _)) ?_;have c:=(d.bk.ext b.gr);refine wD (fun st=>Ag (v:=I a.Lo) Bg (eR st) c rfl)<|wD (fun st=>Ad (eR st) (LF _ _))<|wD (fun st=>Ag (v:=I a.Hi) Bg (eR st) c rfl)<|wD (fun st=>DS (vs:= #[(0,I a.Lo),(1,I a.Hi)]) (v:=.agg #[I a.Lo,I a.Hi]) (HO (eR st) (eR st)) (by kernel_rfl))<|BI rfl rfl (fun st=>By (n:=2) (l:=[I a.Lo,I a.Hi]) (CB:= #[I a.Lo,I a.Hi]) (eR st) (eR st) Le b.bk rfl rfl (show 0+2≤2 by decide) (Bh rfl) rfl) ?_;rintro _ t g;have m:=k.gr g.gr 0 rfl;refine wn<|Am ?_;obtain rfl:=oi j;refine GW (v:=.agg #[I a.Lo,I a.Hi]) rfl rfl (DN Ir g.bk rfl rfl) ?_;exact⟨m.Bf,⟨_,rfl,rfl⟩⟩
theorem a99 z d a b(Z:Nat→Prop) w(j:Sl (Ai .i64) w Z a b d) t(f:HH z d=some t):
 BO Tryz.prog 99 #[.slice a d.length b] w (fun v w'=>Ext w w'∧(FE (Ai .i64)).R w' (zf Z w []) v t):=by
 unfold HH at f;refine rq (N:=6) Tryz.func99 fun aC ha aD=>?_;have s:=sA 0 ha;clear ha;have m:Hp FN [] w [] w:=Hp.start (BC.none w);have g:=j.mv (Bz (Z:=Z) (L:=[]) w);refine cr<|wA (v:=.slice none 0 0) rfl<|wr<|wE (fun st=>BR (e:=3) (vs:= #[]) (cs:= #[]) WI (by kernel_rfl)) ?_;rintro _ w1 ⟨b1,rfl,c⟩;have i:=m.nb c;have l:=m.BJ c;refine wM (v:=.slice a d.length b) s ?_;have u:Bl (Ai .i64) 3 w.heap.size w1 (zf Z w [some b1]) (some ⟨b1,0,none⟩) 0 ([]:List Int):=La (BG:=[]) c.bk l trivial rfl (by simp[maxLen]);replace f:=Cl f;obtain⟨o,f⟩:=f;have h:=(g.mv (Az c));refine wE (fun st=>G6 (ys:=d) Tryz.underlying31 HJ rfl rfl (by decide) (eR st) rfl (eR st) u h.n (by have:=o;simp only[maxLen];omega) (by have:=o;omega) i.sz) ?_;rintro _ aE ⟨aA,aB,rfl,p,q,x⟩;have r:=i.row p 0 rfl q;have y:=DT x (i.CJ p 0 rfl (fun k hk=>(q k hk).1));refine wA (v:=.slice aA ((([]:List Int)++d).length) aB) rfl<|wn<|Am ?_;obtain rfl:=oi f;refine Av rfl rfl ?_;exact⟨r.Bf,⟨_,_,rfl,r.Jn (M:=[]) 0 rfl [] rfl trivial y⟩⟩
set_option maxHeartbeats 4000000 in
theorem a27 cU q y z aA aB aC aD(Z:Nat→Prop) w(fW:Sl AA w Z y z q.Ax)(fX:Sl (BH (Ai .i64)) w Z aA aB q.AX)(fY:Sl AH w Z aC aD q.AP) hL(c:F6 cU q=some hL):
 BO Tryz.prog 27 #[.agg (AS y z aA aB aC aD q).toArray] w (fun v w'=>Ext w w'∧(DJ Rj).R w' (zf Z w []) v hL):=by
 unfold F6 at c;refine rq (N:=70) Tryz.func27 fun iQ ha iR=>?_;have gE:=sA 0 ha;clear ha;have gA:Hp FN [] w [] w:=Hp.start (BC.none w);have ⟨d9,eA,eB⟩:=Ez fW fX fY (Bz (Z:=Z) (L:=[]) w);refine cr<|wE (fun st=>BN (v:=.agg (AS y z aA aB aC aD q).toArray) (cs:=(AS y z aA aB aC aD q).toArray) (ee st gE) rfl) ?_;rintro _ w1 ⟨b1,rfl,d5⟩;have gB:=gA.nb d5;have iA:=gA.BJ d5;refine wE (fun st=>B8 (cs:= #[.slice none 0 0,.slice none 0 0,.slice none 0 0]) P0 rfl) ?_;rintro _ w2 ⟨b2,rfl,c9⟩;have gC:=gB.nb c9;have iB:=gB.BJ c9;refine wr<|wE (fun st=>B8 (cs:= #[.slice none 0 0,.slice none 0 0,.slice none 0 0]) P0 rfl) ?_;rintro _ iH ⟨b3,rfl,cX⟩;have hM:=gC.nb cX;have iC:=gC.BJ cX;refine wn<|Af<|cr<|wA (v:=I 0) rfl<|wn<|AI ?_;have hN:=hM.nil;have hO:Bl AA 131 w.heap.size iH (zf Z w [none,some b3,some b2,some b1]) none 0 ([]:List AN):=Bl.nil _ _ _ _ _;replace c:=bind_some c;obtain⟨z4,cY,c⟩:=c;refine BY (fun dA m i=>(dA=.exit 0∧∃a d,Fo X0 70 m∧sl m 1=pt b1 0∧sl m 2=pt b2 0∧sl m 3=pt b3 0∧Hp FN [] w [ob a,some b3,some b2,some b1] i∧(fun aE=>Bl AA 131 w.heap.size i aE a d z4∧Bk i b1 26 (AS y z aA aB aC aD q).toArray∧Bk i b2 38 #[.slice none 0 0,.slice none 0 0,.slice none 0 0]∧Bk i b3 38 #[.slice a z4.length d,.slice none 0 0,.slice none 0 0]∧Sl AA i aE y z q.Ax∧Sl (BH (Ai .i64)) i aE aA aB q.AX∧Sl AH i aE aC aD q.AP) (zf Z w [ob a,some b3,some b2,some b1]))) ?hP ?hQ
 case hP=>
  clear c;refine BX (fun cC m i=>∃aZ,∃aJ,∃x aV,Dh cU q cC aZ aJ=some z4∧Fo X0 70 m∧sl m 1=pt b1 0∧sl m 2=pt b2 0∧sl m 3=pt b3 0∧sl m 4=I aZ∧Hp FN [] w [ob x,some b3,some b2,some b1] i∧(fun aE=>Bl AA 131 w.heap.size i aE x aV aJ∧Bk i b1 26 (AS y z aA aB aC aD q).toArray∧Bk i b2 38 #[.slice none 0 0,.slice none 0 0,.slice none 0 0]∧Bk i b3 38 #[.slice x aJ.length aV,.slice none 0 0,.slice none 0 0]∧Sl AA i aE y z q.Ax∧Sl (BH (Ai .i64)) i aE aA aB q.AX∧Sl AH i aE aC aD q.AP) (zf Z w [ob x,some b3,some b2,some b1])) cU ?hR ?hS
  case hR=>
   intro st;have fZ:=((d5.bk.ext c9.gr).ext cX.gr);have f0:=(c9.bk.ext cX.gr);have f1:=cX.bk;have ⟨eC,eD,eE⟩:=Ez d9 eA eB (mt (Az d5) (mt (Az c9) (mt (Az cX) Bt)));exact⟨(0:Int),([]:List AN),none,0,cY,qo st,sp st 1 rfl,sp st 2 rfl,sp st 3 rfl,sp st 4 rfl,hN,hO,fZ,f0,f1,eC,eD,eE⟩
  case hS=>
   rintro(_|cC) iS iT ⟨aZ,aJ,x,aV,cY,gF,cA,d6,cB,c5,eW,bJ,bK,dB,cD,bH,cE,cF⟩
   ·exact absurd (show none=some _ from cY) (by simp)
   rw[Dh.eq_2] at cY;have c:=cY;clear cY;refine ro gF<|Af<|cr<|wM (v:=I aZ) c5<|wD (fun st=>Ad (ee st cA) (Gk _ _))<|wD (fun st=>Ag (v:=.slice y q.Ax.length z) He (eR st) bK rfl)<|wD (fun st=>Br Tryz.underlying22 (eR st))<|wD (fun st=>B9 (eR st) (eR st))<|wn ?_;rcases Ae (decide (aZ<(q.Ax.length:Int))) with dC|dC
   ·replace c:=An c dC;refine Ah rfl dC<|cn<|Af<|AI ?_;replace c:=AT c;obtain⟨i8,eX,hT,hU,hV,c⟩:=c;obtain⟨iI,iJ,_,hW,rfl,hX⟩:=Sl.elem bH (by decide) hU;replace c:=bind_some c;obtain⟨a9,hY,c⟩:=c;refine BU 9 [Kc (pt b3 0),Kc (.slice x aJ.length aV),Kc (pt b1 0),Kc (.slice y q.Ax.length z),Kc (I aZ),Kc (pt iI (iJ+i8*2)),Kc (.agg #[I eX.Lo,I eX.Hi]),Kc (.agg #[I a9.Lo,I a9.Hi]),Kv (FE AA) (zf Z w [ob x,some b3,some b2,some b1]) [a9]] mixed rfl rfl
        (Aa (oD (fun K=>Ad (es ((K.out 3 rfl).trans cB)) (HQ _ _)))
        (Aa (oD (fun K=>Ag IU (es (K.dq 0 15)) (cD.ext K.AQ) rfl))
        (Aa (oD (fun K=>Ad (es ((K.out 1 rfl).trans cA)) (Gk _ _)))
        (Aa (oD (fun K=>Ag He (es (K.dq 2 17)) (bK.ext K.AQ) rfl))
        (Aa (oD (fun K=>Au (es ((K.out 4 rfl).trans c5))))
        (Aa (oD (fun K=>Bu (k:=i8) Tryz.underlying22 L6 (es (K.dq 3 18)) hW (es (K.dq 4 19)) hT hV))
        (Aa (oD (fun K=>CK (l:=[I eX.Lo,I eX.Hi]) Jg (es (K.dq 5 20)) (hX.mv (Ac K.AQ)) rfl rfl))
        (Aa (oE (fun K=>(Aj U4 rfl (Ck (es (K.dq 6 21))) (a98 cU eX ZA _ a9 hY)).mono (fun _ _ h=>⟨(by obtain⟨_,rfl,rfl⟩:=h.2;rfl),h.1⟩)))
        (Aa (IM rfl rfl (fun a' w' ph K=>(BR (e:=131) (vs:= #[(0,.agg #[I a9.Lo,I a9.Hi])]) (cs:= #[I a9.Lo,I a9.Hi]) (Ik (es (K.dq 7 22))) (by kernel_rfl)).mono (fun u BD ⟨hZ,hu,bL⟩=>⟨⟨_,_,hu,Gp (xs:=[a9]) (BG:=[[I a9.Lo,I a9.Hi]]) bL.bk ((eW.ext K.AQ).kn (Nat.le_of_eq bL.Fq.symm)) (R2.mv (Ac bL.gr) (show R2 AA w' (zf Z w [ob x,some b3,some b2,some b1]) [[I a9.Lo,I a9.Hi]] [a9] from⟨rfl,trivial⟩)) rfl (Nat.le_refl _)⟩,bL.gr⟩)))
        (BS _)))))))))) ?_
    intro i7;rintro _ rfl _ rfl _ rfl _ rfl _ rfl _ rfl _ rfl _ rfl _ ⟨iD,iE,rfl,eY⟩ cG;have cH:=eW.ext cG;have dD:=(bJ.ext cG (Ac cG));replace c:=Cl c;obtain⟨eZ,c⟩:=c;refine wE (fun st=>G6 (ys:=[a9]) Tryz.underlying35 Wh rfl rfl (by decide) (eR st) rfl (eR st) dD eY.n (by have:=eZ;simp only[maxLen];omega) (by have:=eZ;omega) cH.sz) ?_;rintro _ iU ⟨e0,e1,rfl,bP,dN,gG⟩;have cZ:=cH.row bP 0 rfl dN;have gH:=DT gG (cH.CJ bP 0 rfl (fun k hk=>(dN k hk).1));refine wD (fun st=>Ad (ee st cB) (HQ _ _)) ?_;have f2:=((cD.ext cG).gr bP (cH.nq 1 0));refine BI rfl rfl (fun st=>By (n:=1) (l:=[.slice e0 ((aJ++[a9]).length) e1]) (CB:= #[.slice e0 ((aJ++[a9]).length) e1,.slice none 0 0,.slice none 0 0]) (eR st) (eR st) Aa7 f2 rfl rfl (show 0+1≤3 by decide) (Bh rfl) rfl) ?_;rintro _ iV bI;have h3:=cZ.gr bI.gr 1 rfl;refine Bj<|CU<|Al<|wM (v:=I aZ) c5 ?_;replace c:=AL c;obtain⟨gI,c⟩:=c;refine wD (fun st=>BL (eR st) (eR st) gI)<|wA (v:=I (aZ+1)) rfl<|Bj ?_;have e2:=(gH.gr bI.gr (fun k hk=>cZ.ne 0 1 rfl (congrArg some hk) rfl) (cZ.BA bI.gr 1 rfl));have f3:=(((bK.ext cG).gr bP (cH.nq 3 0)).gr bI.gr (cZ.nq 3 1));have f4:=(((dB.ext cG).gr bP (cH.nq 2 0)).gr bI.gr (cZ.nq 2 1));have ⟨eF,eG,eH⟩:=Ez bH cE cF (mt (Ac cG) (mt (cH.CJ bP 0 rfl (fun k hk=>(dN k hk).1)) (cZ.BA bI.gr 1 rfl)));refine Bv cC (Nat.lt_succ_self _) (fun st=>?_);exact⟨(aZ+1),(aJ++[a9]),e0,e1,c,qo st,sp st 1 cA,sp st 2 d6,sp st 3 cB,sp st 4 rfl,h3,e2,f3,f4,bI.bk,eF,eG,eH⟩
   ·replace c:=Ao c dC;refine Aq rfl dC<|DG ?_;obtain rfl:=oi c;refine BF (fun st=>?_);exact⟨rfl,x,aV,qo st,sp st 1 cA,sp st 2 d6,sp st 3 cB,eW,bJ,bK,dB,cD,bH,cE,cF⟩
 case hQ=>
  rintro dA iK h4 (⟨rfl,a,d,f5,e3,e4,e5,gJ,cI,e6,e7,e8,dO,dP,dQ⟩);refine lf f5<|Bd<|BM<|Af<|cr<|wA (v:=I 0) rfl<|wn<|AI ?_;have gK:=gJ.nil;have gL:Bl (BH (Ai .i64)) 31 w.heap.size h4 (zf Z w [none,ob a,some b3,some b2,some b1]) none 0 ([]:List (List Int)):=Bl.nil _ _ _ _ _;replace c:=bind_some c;obtain⟨a5,bQ,c⟩:=c;refine BY (fun dA m i=>(dA=.exit 2∧∃b g,Fo X0 70 m∧sl m 1=pt b1 0∧sl m 2=pt b2 0∧sl m 3=pt b3 0∧Hp FN [] w [ob b,ob a,some b3,some b2,some b1] i∧(fun aE=>Bl (BH (Ai .i64)) 31 w.heap.size i aE b g a5∧Bl AA 131 w.heap.size i aE a d z4∧Bk i b1 26 (AS y z aA aB aC aD q).toArray∧Bk i b2 38 #[.slice none 0 0,.slice none 0 0,.slice none 0 0]∧Bk i b3 38 #[.slice a z4.length d,.slice b a5.length g,.slice none 0 0]∧Sl AA i aE y z q.Ax∧Sl (BH (Ai .i64)) i aE aA aB q.AX∧Sl AH i aE aC aD q.AP) (zf Z w [ob b,ob a,some b3,some b2,some b1]))) ?gM ?gN
  case gM=>
   clear c;refine BX (fun cC m i=>∃aK,∃aF,∃o aM,De cU q cC aK aF=some a5∧Fo X0 70 m∧sl m 1=pt b1 0∧sl m 2=pt b2 0∧sl m 3=pt b3 0∧sl m 5=I aK∧Hp FN [] w [ob o,ob a,some b3,some b2,some b1] i∧(fun aE=>Bl AA 131 w.heap.size i aE a d z4∧Bl (BH (Ai .i64)) 31 w.heap.size i aE o aM aF∧Bk i b1 26 (AS y z aA aB aC aD q).toArray∧Bk i b2 38 #[.slice none 0 0,.slice none 0 0,.slice none 0 0]∧Bk i b3 38 #[.slice a z4.length d,.slice o aF.length aM,.slice none 0 0]∧Sl AA i aE y z q.Ax∧Sl (BH (Ai .i64)) i aE aA aB q.AX∧Sl AH i aE aC aD q.AP) (zf Z w [ob o,ob a,some b3,some b2,some b1])) cU ?gO ?gP
   case gO=>
    intro st;have cJ:=(cI.up Bt);have e9:=e6;have fA:=e7;have fB:=e8;have ⟨dR,dS,dT⟩:=Ez dO dP dQ Bt;exact⟨(0:Int),([]:List (List Int)),none,0,bQ,qo st,sp st 1 e3,sp st 2 e4,sp st 3 e5,sp st 5 rfl,gK,cJ,gL,e9,fA,fB,dR,dS,dT⟩
   case gP=>
    rintro(_|cC) iL iM ⟨aK,aF,o,aM,bQ,f6,bM,dE,bN,cK,c6,a7,bA,bG,c0,bR,bX,bB,bY⟩
    ·exact absurd (show none=some _ from bQ) (by simp)
    rw[De.eq_2] at bQ;have c:=bQ;clear bQ;refine ro f6<|Af<|cr<|wM (v:=I aK) cK<|wD (fun st=>Ad (ee st bM) (DE _ _))<|wD (fun st=>Ag (v:=.slice aA q.AX.length aB) C2 (eR st) bG rfl)<|wD (fun st=>Br Tryz.underlying23 (eR st))<|wD (fun st=>B9 (eR st) (eR st))<|wn ?_;rcases Ae (decide (aK<(q.AX.length:Int))) with cL|cL
    ·replace c:=An c cL;refine Ah rfl cL<|cn<|Af<|AI ?_;replace c:=AT c;obtain⟨i18,gD,gQ,gR,gS,c⟩:=c;obtain⟨h5,h6,_,gT,⟨d7,d8,rfl,fC⟩,gU⟩:=Sl.Cy bB rfl gR;replace c:=bind_some c;obtain⟨aS,gV,c⟩:=c;refine BU 9 [Kc (pt b3 1),Kc (.slice o aF.length aM),Kc (pt b1 1),Kc (.slice aA q.AX.length aB),Kc (I aK),Kc (pt h5 (h6+i18)),Kc (.slice d7 gD.length d8),Kv (FE (Ai .i64)) (zf Z w [ob o,ob a,some b3,some b2,some b1]) aS,Kv (FE (BH (Ai .i64))) (zf Z w [ob o,ob a,some b3,some b2,some b1]) [aS]] mixed rfl rfl
         (Aa (oD (fun K=>Ad (es ((K.out 3 rfl).trans bN)) (Is _ _)))
         (Aa (oD (fun K=>Ag C2 (es (K.dq 0 33)) (bR.ext K.AQ) rfl))
         (Aa (oD (fun K=>Ad (es ((K.out 1 rfl).trans bM)) (DE _ _)))
         (Aa (oD (fun K=>Ag C2 (es (K.dq 2 35)) (bG.ext K.AQ) rfl))
         (Aa (oD (fun K=>Au (es ((K.out 5 rfl).trans cK))))
         (Aa (oD (fun K=>Bi (k:=i18) Tryz.underlying23 EO (es (K.dq 3 36)) gT (es (K.dq 4 37)) gQ gS))
         (Aa (oD (fun K=>Bp CO (es (K.dq 5 38)) (gU.mv (Ac K.AQ)) rfl))
         (Aa (oE (fun K=>(Aj Aae rfl (Ck (es (K.dq 6 39))) (a99 cU gD d7 d8 (zf Z w [ob o,ob a,some b3,some b2,some b1]) _ (fC.mv (Ac K.AQ)) aS gV)).mono (fun _ _ h=>⟨(FE (Ai .i64)).mv h.2 ((c6.ext K.AQ).DR (Nat.le_refl _)),h.1⟩)))
         (Aa (IM rfl rfl (fun a' w' ph K=>match K.dq 7 40 with|⟨aW,aX,f7,c1⟩=>(BR (e:=31) (vs:= #[(0,.slice aW aS.length aX)]) (cs:= #[.slice aW aS.length aX]) (Ik (es (t:=40) (v:=.slice aW aS.length aX) f7)) (by kernel_rfl)).mono (fun u BD ⟨hZ,hu,bL⟩=>⟨⟨_,_,hu,Gp (xs:=[aS]) (BG:=[[.slice aW aS.length aX]]) bL.bk ((c6.ext K.AQ).kn (Nat.le_of_eq bL.Fq.symm)) (R2.mv (Ac bL.gr) (show R2 (BH (Ai .i64)) w' (zf Z w [ob o,ob a,some b3,some b2,some b1]) [[.slice aW aS.length aX]] [aS] from⟨⟨_,_,rfl,c1⟩,trivial⟩)) rfl (Nat.le_refl _)⟩,bL.gr⟩)))
         (BS _)))))))))) ?_
     intro iW;rintro _ rfl _ rfl _ rfl _ rfl _ rfl _ rfl _ rfl _ ⟨aW,aX,rfl,c1⟩ _ ⟨h7,h8,rfl,eI⟩ a0;have a2:=c6.ext a0;have cV:=(bA.ext a0 (Ac a0));replace c:=Cl c;obtain⟨fD,c⟩:=c;refine wE (fun st=>G6 (ys:=[aS]) Tryz.underlying23 NW rfl rfl (by decide) (eR st) rfl (eR st) cV eI.n (by have:=fD;simp only[maxLen];omega) (by have:=fD;omega) a2.sz) ?_;rintro _ iX ⟨fE,fF,rfl,bC,c7,gW⟩;have bD:=a2.row bC 0 rfl c7;have gX:=DT gW (a2.CJ bC 0 rfl (fun k hk=>(c7 k hk).1));refine wD (fun st=>Ad (ee st bN) (Is _ _)) ?_;have fG:=((bR.ext a0).gr bC (a2.nq 2 0));refine BI rfl rfl (fun st=>By (n:=1) (l:=[.slice fE ((aF++[aS]).length) fF]) (CB:= #[.slice a z4.length d,.slice fE ((aF++[aS]).length) fF,.slice none 0 0]) (eR st) (eR st) WY fG rfl rfl (show 1+1≤3 by decide) (Bh rfl) rfl) ?_;rintro _ iY a3;have gY:=bD.gr a3.gr 2 rfl;refine Bj<|CU<|Al<|wM (v:=I aK) cK ?_;replace c:=AL c;obtain⟨gZ,c⟩:=c;refine wD (fun st=>BL (eR st) (eR st) gZ)<|wA (v:=I (aK+1)) rfl<|Bj ?_;have cM:=(((a7.ext a0 (Ac a0)).gr bC (fun k hk=>a2.ne 1 0 rfl (congrArg some hk) rfl) (a2.CJ bC 0 rfl (fun k hk=>(c7 k hk).1))).gr a3.gr (fun k hk=>bD.ne 1 2 rfl (congrArg some hk) rfl) (bD.BA a3.gr 2 rfl));have eJ:=(gX.gr a3.gr (fun k hk=>bD.ne 0 2 rfl (congrArg some hk) rfl) (bD.BA a3.gr 2 rfl));have fH:=(((bG.ext a0).gr bC (a2.nq 4 0)).gr a3.gr (bD.nq 4 2));have fI:=(((c0.ext a0).gr bC (a2.nq 3 0)).gr a3.gr (bD.nq 3 2));have ⟨dU,dV,dW⟩:=Ez bX bB bY (mt (Ac a0) (mt (a2.CJ bC 0 rfl (fun k hk=>(c7 k hk).1)) (bD.BA a3.gr 2 rfl)));refine Bv cC (Nat.lt_succ_self _) (fun st=>?_);exact⟨(aK+1),(aF++[aS]),fE,fF,c,qo st,sp st 1 bM,sp st 2 dE,sp st 3 bN,sp st 5 rfl,gY,cM,eJ,fH,fI,a3.bk,dU,dV,dW⟩
    ·replace c:=Ao c cL;refine Aq rfl cL<|DG ?_;obtain rfl:=oi c;refine BF (fun st=>?_);exact⟨rfl,o,aM,qo st,sp st 1 bM,sp st 2 dE,sp st 3 bN,c6,bA,a7,bG,c0,bR,bX,bB,bY⟩
  case gN=>
   rintro dA iF g0 (⟨rfl,b,g,fJ,eK,eM,eN,f8,bS,b4,eO,eP,eQ,dF,dG,dH⟩);refine lf fJ<|Bd<|BM<|Af<|cr<|wA (v:=I 0) rfl<|wn<|AI ?_;have g1:=f8.nil;have g2:Bl AH 133 w.heap.size g0 (zf Z w [none,ob b,ob a,some b3,some b2,some b1]) none 0 ([]:List Cx):=Bl.nil _ _ _ _ _;replace c:=bind_some c;obtain⟨z24,bT,c⟩:=c;refine BY (fun dA m i=>(dA=.exit 4∧∃j r,Fo X0 70 m∧sl m 2=pt b2 0∧sl m 3=pt b3 0∧Hp FN [] w [ob j,ob b,ob a,some b3,some b2,some b1] i∧(fun aE=>Bl (BH (Ai .i64)) 31 w.heap.size i aE b g a5∧Bl AH 133 w.heap.size i aE j r z24∧Bl AA 131 w.heap.size i aE a d z4∧Bk i b2 38 #[.slice none 0 0,.slice none 0 0,.slice none 0 0]∧Bk i b3 38 #[.slice a z4.length d,.slice b a5.length g,.slice j z24.length r]) (zf Z w [ob j,ob b,ob a,some b3,some b2,some b1]))) ?g3 ?g4
   case g3=>
    clear c;refine BX (fun cC m i=>∃aL,∃aG,∃s aN,Df cU q cC aL aG=some z24∧Fo X0 70 m∧sl m 1=pt b1 0∧sl m 2=pt b2 0∧sl m 3=pt b3 0∧sl m 6=I aL∧Hp FN [] w [ob s,ob b,ob a,some b3,some b2,some b1] i∧(fun aE=>Bl (BH (Ai .i64)) 31 w.heap.size i aE b g a5∧Bl AA 131 w.heap.size i aE a d z4∧Bl AH 133 w.heap.size i aE s aN aG∧Bk i b1 26 (AS y z aA aB aC aD q).toArray∧Bk i b2 38 #[.slice none 0 0,.slice none 0 0,.slice none 0 0]∧Bk i b3 38 #[.slice a z4.length d,.slice b a5.length g,.slice s aG.length aN]∧Sl AA i aE y z q.Ax∧Sl (BH (Ai .i64)) i aE aA aB q.AX∧Sl AH i aE aC aD q.AP) (zf Z w [ob s,ob b,ob a,some b3,some b2,some b1])) cU ?g5 ?g6
    case g5=>
     intro st;have b5:=(bS.up Bt);have cN:=(b4.up Bt);have fK:=eO;have fL:=eP;have fM:=eQ;have ⟨dX,dY,dZ⟩:=Ez dF dG dH Bt;exact⟨(0:Int),([]:List Cx),none,0,bT,qo st,sp st 1 eK,sp st 2 eM,sp st 3 eN,sp st 6 rfl,g1,b5,cN,g2,fK,fL,fM,dX,dY,dZ⟩
    case g6=>
     rintro(_|cC) iN iO ⟨aL,aG,s,aN,bT,f9,cO,dI,bO,cP,d0,aY,a8,bE,bU,c2,c3,dJ,dK,bZ⟩
     ·exact absurd (show none=some _ from bT) (by simp)
     rw[Df.eq_2] at bT;have c:=bT;clear bT;refine ro f9<|Af<|cr<|wM (v:=I aL) cP<|wD (fun st=>Ad (ee st cO) (Ks _ _))<|wD (fun st=>Ag (v:=.slice aC q.AP.length aD) Lf (eR st) bU rfl)<|wD (fun st=>Br Tryz.underlying24 (eR st))<|wD (fun st=>B9 (eR st) (eR st))<|wn ?_;rcases Ae (decide (aL<(q.AP.length:Int))) with cQ|cQ
     ·replace c:=An c cQ;refine Ah rfl cQ<|cn<|Af<|AI<|cr<|wD (fun st=>Ad (ee st cO) (Ks _ _))<|wD (fun st=>Ag (v:=.slice aC q.AP.length aD) Lf (eR st) bU rfl)<|wM (v:=I aL) cP ?_;replace c:=AT c;obtain⟨i27,f,g7,g8,g9,c⟩:=c;obtain⟨iZ,i0,_,hA,rfl,hB⟩:=Sl.elem bZ (by decide) g8;refine wD (fun st=>Bu (k:=i27) Tryz.underlying24 Pn (eR st) hA (eR st) g7 g9)<|wD (fun st=>CK (l:=[.bool f.BV,I f.Number,I f.Bm,I f.Bn]) RS (eR st) hB rfl rfl)<|wE (fun st=>B8 (cs:= #[.bool false,I 0,I 0,I 0]) Tq rfl) ?_;rintro _ i1 ⟨dL,rfl,aI⟩;have aO:=d0.nb aI;have h9:=d0.BJ aI;refine BI rfl rfl (fun st=>By (n:=4) (l:=[.bool f.BV,I f.Number,I f.Bm,I f.Bn]) (CB:= #[.bool f.BV,I f.Number,I f.Bm,I f.Bn]) (eR st) (eR st) Pn aI.bk rfl rfl (show 0+4≤4 by decide) (Bh rfl) rfl) ?_;rintro _ i2 aH;have fN:=aO.gr aH.gr 0 rfl;refine wn ?_;have dM:=((c3.ext aI.gr).gr aH.gr (aO.nq 4 0));replace c:=bind_some c;obtain⟨p,hC,c⟩:=c;refine BU 11 [Kc (pt b3 2),Kc (.slice s aG.length aN),Kc (pt dL 0),Kc (.bool f.BV),Kc (pt dL 1),Kc (I f.Number),Kc (pt dL 2),Kc (.agg #[I f.Bm,I f.Bn]),Kc (.agg #[I p.Lo,I p.Hi]),Kc (.agg #[.bool f.BV,I f.Number,I p.Lo,I p.Hi]),Kv (FE AH) (zf Z w [some dL,ob s,ob b,ob a,some b3,some b2,some b1]) [(⟨f.BV,f.Number,p.Lo,p.Hi⟩:Cx)]] mixed rfl rfl
          (Aa (oD (fun K=>Ad (es ((K.out 3 rfl).trans bO)) (Mo _ _)))
          (Aa (oD (fun K=>Ag Pg (es (K.dq 0 56)) (dM.ext K.AQ) rfl))
          (Aa (oD (fun K=>Ad (K.kO 7) (PY _ _)))
          (Aa (oD (fun K=>Ag Ka (es (K.dq 2 58)) (aH.bk.ext K.AQ) rfl))
          (Aa (oD (fun K=>Ad (K.kO 7) (NX _ _)))
          (Aa (oD (fun K=>Ag Bg (es (K.dq 4 60)) (aH.bk.ext K.AQ) rfl))
          (Aa (oD (fun K=>Ad (K.kO 7) (KV _ _)))
          (Aa (oD (fun K=>Ba (l:=[I f.Bm,I f.Bn]) Jg (es (K.dq 6 62)) (aH.bk.ext K.AQ) rfl rfl))
          (Aa (oE (fun K=>(Aj U4 rfl (Ck (es (K.dq 7 63))) (a98 cU (⟨f.Bm,f.Bn⟩:AN) ZA _ p hC)).mono (fun _ _ h=>⟨(by obtain⟨_,rfl,rfl⟩:=h.2;rfl),h.1⟩)))
          (Aa (oD (fun K=>DS (vs:= #[(0,.bool f.BV),(1,I f.Number),(2,.agg #[I p.Lo,I p.Hi])]) (v:=.agg #[.bool f.BV,I f.Number,I p.Lo,I p.Hi]) (pm3 (es (K.dq 3 59)) (es (K.dq 5 61)) (es (K.dq 8 64))) (by kernel_rfl)))
          (Aa (IM rfl rfl (fun a' w' ph K=>(BR (e:=133) (vs:= #[(0,.agg #[.bool f.BV,I f.Number,I p.Lo,I p.Hi])]) (cs:= #[.bool f.BV,I f.Number,I p.Lo,I p.Hi]) (Ik (es (K.dq 9 65))) (by kernel_rfl)).mono (fun u BD ⟨hZ,hu,bL⟩=>⟨⟨_,_,hu,Gp (xs:=[(⟨f.BV,f.Number,p.Lo,p.Hi⟩:Cx)]) (BG:=[[.bool f.BV,I f.Number,I p.Lo,I p.Hi]]) bL.bk ((fN.ext K.AQ).kn (Nat.le_of_eq bL.Fq.symm)) (R2.mv (Ac bL.gr) (show R2 AH w' (zf Z w [some dL,ob s,ob b,ob a,some b3,some b2,some b1]) [[.bool f.BV,I f.Number,I p.Lo,I p.Hi]] [(⟨f.BV,f.Number,p.Lo,p.Hi⟩:Cx)] from⟨rfl,trivial⟩)) rfl (Nat.le_refl _)⟩,bL.gr⟩)))
          (BS _)))))))))))) ?_
      intro i3;rintro _ rfl _ rfl _ rfl _ rfl _ rfl _ rfl _ rfl _ rfl _ rfl _ rfl _ ⟨hI,hJ,rfl,d1⟩ aP;have aQ:=fN.ext aP;have cW:=(((bE.ext aI.gr (Az aI)).gr aH.gr (fun k hk=>aO.ne 1 0 rfl (congrArg some hk) rfl) (aO.BA aH.gr 0 rfl)).ext aP (Ac aP));replace c:=Cl c;obtain⟨fO,c⟩:=c;refine wE (fun st=>G6 (ys:=[(⟨f.BV,f.Number,p.Lo,p.Hi⟩:Cx)]) Tryz.underlying36 Wi rfl rfl (by decide) (eR st) rfl (eR st) cW d1.n (by have:=fO;simp only[maxLen];omega) (by have:=fO;omega) aQ.sz) ?_;rintro _ i4 ⟨fP,fQ,rfl,aT,cR,hD⟩;have aU:=aQ.row aT 1 rfl cR;have hE:=DT hD (aQ.CJ aT 1 rfl (fun k hk=>(cR k hk).1));refine wD (fun st=>Ad (ee st bO) (Mo _ _)) ?_;have fR:=((dM.ext aP).gr aT (aQ.nq 4 1));refine BI rfl rfl (fun st=>By (n:=1) (l:=[.slice fP ((aG++[(⟨f.BV,f.Number,p.Lo,p.Hi⟩:Cx)]).length) fQ]) (CB:= #[.slice a z4.length d,.slice b a5.length g,.slice fP ((aG++[(⟨f.BV,f.Number,p.Lo,p.Hi⟩:Cx)]).length) fQ]) (eR st) (eR st) Aa8 fR rfl rfl (show 2+1≤3 by decide) (Bh rfl) rfl) ?_;rintro _ i5 aR;have hF:=aU.gr aR.gr 4 rfl;refine Bj<|CU<|Al<|wM (v:=I aL) cP ?_;replace c:=AL c;obtain⟨hG,c⟩:=c;refine wD (fun st=>BL (eR st) (eR st) hG)<|wA (v:=I (aL+1)) rfl<|Bj ?_;have hH:=hF.erase 0;have b6:=((((((aY.ext aI.gr (Az aI)).gr aH.gr (fun k hk=>aO.ne 2 0 rfl (congrArg some hk) rfl) (aO.BA aH.gr 0 rfl)).ext aP (Ac aP)).gr aT (fun k hk=>aQ.ne 2 1 rfl (congrArg some hk) rfl) (aQ.CJ aT 1 rfl (fun k hk=>(cR k hk).1))).gr aR.gr (fun k hk=>aU.ne 2 4 rfl (congrArg some hk) rfl) (aU.BA aR.gr 4 rfl)).up (AD 0));have cS:=((((((a8.ext aI.gr (Az aI)).gr aH.gr (fun k hk=>aO.ne 3 0 rfl (congrArg some hk) rfl) (aO.BA aH.gr 0 rfl)).ext aP (Ac aP)).gr aT (fun k hk=>aQ.ne 3 1 rfl (congrArg some hk) rfl) (aQ.CJ aT 1 rfl (fun k hk=>(cR k hk).1))).gr aR.gr (fun k hk=>aU.ne 3 4 rfl (congrArg some hk) rfl) (aU.BA aR.gr 4 rfl)).up (AD 0));have eS:=((hE.gr aR.gr (fun k hk=>aU.ne 1 4 rfl (congrArg some hk) rfl) (aU.BA aR.gr 4 rfl)).up (AD 0));have fS:=(((((bU.ext aI.gr).gr aH.gr (aO.nq 6 0)).ext aP).gr aT (aQ.nq 6 1)).gr aR.gr (aU.nq 6 4));have fT:=(((((c2.ext aI.gr).gr aH.gr (aO.nq 5 0)).ext aP).gr aT (aQ.nq 5 1)).gr aR.gr (aU.nq 5 4));have fU:=aR.bk;have ⟨d2,d3,d4⟩:=Ez dJ dK bZ (mt (Az aI) (mt (aO.BA aH.gr 0 rfl) (mt (Ac aP) (mt (aQ.CJ aT 1 rfl (fun k hk=>(cR k hk).1)) (mt (aU.BA aR.gr 4 rfl) (AD 0))))));refine Bv cC (Nat.lt_succ_self _) (fun st=>?_);exact⟨(aL+1),(aG++[(⟨f.BV,f.Number,p.Lo,p.Hi⟩:Cx)]),fP,fQ,c,qo st,sp st 1 cO,sp st 2 dI,sp st 3 bO,sp st 6 rfl,hH,b6,cS,eS,fS,fT,fU,d2,d3,d4⟩
     ·replace c:=Ao c cQ;refine Aq rfl cQ<|DG ?_;obtain rfl:=oi c;refine BF (fun st=>?_);exact⟨rfl,s,aN,qo st,sp st 2 dI,sp st 3 bO,d0,aY,bE,a8,c2,c3⟩
   case g4=>
    rintro dA iG iP (⟨rfl,j,r,fV,c4,eT,a4,bV,bW,b7,eU,eV⟩);refine lf fV<|Bd<|BM<|cr<|wD (fun st=>Ba (l:=[.slice a z4.length d,.slice b a5.length g,.slice j z24.length r]) H0 (ee st eT) eV rfl rfl)<|BI rfl rfl (fun st=>By (n:=3) (l:=[.slice a z4.length d,.slice b a5.length g,.slice j z24.length r]) (CB:= #[.slice a z4.length d,.slice b a5.length g,.slice j z24.length r]) (ee st c4) (eR st) W0 eU rfl rfl (show 0+3≤3 by decide) (Bh rfl) rfl) ?_;rintro _ i6 bF;have c8:=a4.gr bF.gr 4 rfl;refine wn<|Am ?_;obtain rfl:=oi c;refine GW (v:=.agg #[.slice a z4.length d,.slice b a5.length g,.slice j z24.length r]) rfl c4 (DN H0 bF.bk rfl rfl) ?_;have cT:=(b7.gr bF.gr (fun k hk=>a4.ne 2 4 rfl (congrArg some hk) rfl) (a4.BA bF.gr 4 rfl));have b8:=(bV.gr bF.gr (fun k hk=>a4.ne 1 4 rfl (congrArg some hk) rfl) (a4.BA bF.gr 4 rfl));have b9:=(bW.gr bF.gr (fun k hk=>a4.ne 0 4 rfl (congrArg some hk) rfl) (a4.BA bF.gr 4 rfl));exact⟨c8.Bf,⟨_,rfl,_,_,_,_,_,_,rfl,c8.Jn (M:=[]) 2 rfl [] rfl trivial cT,c8.Jn (M:=[]) 1 rfl [] rfl trivial b8,c8.Jn (M:=[]) 0 rfl [] rfl trivial b9⟩⟩
theorem a23 aP b h i c d j m(Z:Nat→Prop) w(aQ:Sl AA w Z h i b.Ax)(aR:Sl (BH (Ai .i64)) w Z c d b.AX)(aS:Sl AH w Z j m b.AP) a8(a:Gx aP b=some a8):
 BO Tryz.prog 23 #[.agg (AS h i c d j m b).toArray] w (fun v w'=>Ext w w'∧BE.R w' (zf Z w []) v a8):=by
 unfold Gx at a;refine rq (N:=42) Tryz.func23 fun bO ha bP=>?_;have aX:=sA 0 ha;clear ha;have aV:Hp FN [] w [] w:=Hp.start (BC.none w);have ⟨aH,s,aI⟩:=Ez aQ aR aS (Bz (Z:=Z) (L:=[]) w);refine cr<|wE (fun st=>BN (v:=.agg (AS h i c d j m b).toArray) (cs:=(AS h i c d j m b).toArray) (ee st aX) rfl) ?_;rintro _ w1 ⟨b1,rfl,o⟩;have aB:=aV.nb o;have bL:=aV.BJ o;refine wA (v:=.bool false) rfl<|wn<|Af<|cr<|wD (fun st=>Ad (eR st) (Gk _ _))<|wD (fun st=>Ag (v:=.slice h b.Ax.length i) He (eR st) o.bk rfl)<|wD (fun st=>Br Tryz.underlying22 (eR st))<|wD (fun st=>FI (eR st) (eR st))<|wM (v:=.bool (decide ((5:Int)<(b.Ax.length:Int)))) rfl ?_;rcases Ae (decide ((5:Int)<(b.Ax.length:Int))) with f|f
 ·replace a:=An a f;refine wF f<|wF f<|wF f<|wF f<|wD (fun st=>AY (v:=.bool true) (eR st) f (eR st))<|wM (v:=.bool true) rfl<|wH<|wH<|wH<|wH<|wD (fun st=>AY (v:=.bool true) (eR st) rfl (eR st))<|wn<|Ah rfl rfl<|cr<|wA (v:=.bool false) rfl<|wn<|Am<|AG ?_;obtain rfl:=oi a;refine Av rfl rfl ?_;exact⟨aB.Bf,rfl⟩
 ·replace a:=Ao a f;refine wG f (fun st=>Ad (eR st) (DE _ _))<|wG f (fun st=>Ag (v:=.slice c b.AX.length d) C2 (eR st) o.bk rfl)<|wG f (fun st=>Br Tryz.underlying23 (eR st))<|wG f (fun st=>FI (eR st) (eR st))<|wD (fun st=>Bs (v:=.bool (decide ((5:Int)<(b.AX.length:Int)))) (eR st) f (eR st))<|wM (v:=.bool (decide ((5:Int)<(b.AX.length:Int)))) rfl ?_;rcases Ae (decide ((5:Int)<(b.AX.length:Int))) with g|g
  ·replace a:=An a g;refine wF g<|wF g<|wF g<|wF g<|wD (fun st=>AY (v:=.bool true) (eR st) g (eR st))<|wn<|Ah rfl rfl<|cr<|wA (v:=.bool false) rfl<|wn<|Am<|AG ?_;obtain rfl:=oi a;refine Av rfl rfl ?_;exact⟨aB.Bf,rfl⟩
  ·replace a:=Ao a g;refine wG g (fun st=>Ad (eR st) (Ks _ _))<|wG g (fun st=>Ag (v:=.slice j b.AP.length m) Lf (eR st) o.bk rfl)<|wG g (fun st=>Br Tryz.underlying24 (eR st))<|wG g (fun st=>FI (eR st) (eR st))<|wD (fun st=>Bs (v:=.bool (decide ((7:Int)<(b.AP.length:Int)))) (eR st) g (eR st))<|wn ?_;rcases Ae (decide ((7:Int)<(b.AP.length:Int))) with aC|aC
   ·replace a:=An a aC;refine Ah rfl aC<|cr<|wA (v:=.bool false) rfl<|wn<|Am<|AG ?_;obtain rfl:=oi a;refine Av rfl rfl ?_;exact⟨aB.Bf,rfl⟩
   ·replace a:=Ao a aC;refine Aq rfl aC<|cn<|Af<|cr<|wA (v:=I 0) rfl<|wn<|AI ?_;replace a:=bind_some a;obtain⟨z5,t,a⟩:=a;refine BY (fun aY q aT=>(aY=.ret∧∃u,z5=.inl u∧Fo X0 42 q∧sl q 2=.bool u∧w1=aT)∨(aY=.exit 0∧∃u,z5=.inr u∧Fo X0 42 q∧sl q 1=pt b1 0∧w1=aT)) ?a9 ?bA
    case a9=>
     clear a;refine BX (fun aZ q aT=>∃n,DC b aZ n=some z5∧Fo X0 42 q∧sl q 1=pt b1 0∧sl q 3=I n∧w1=aT) aP ?bB ?bC
     case bB=>
      intro st;exact⟨(0:Int),t,qo st,sp st 1 rfl,sp st 3 rfl,rfl⟩
     case bC=>
      rintro(_|aZ) bQ _ ⟨n,t,a0,r,z,rfl⟩
      ·exact absurd (show none=some _ from t) (by simp)
      rw[DC.eq_2] at t;have a:=t;clear t;refine ro a0<|Af<|cr<|wM (v:=I n) z<|wD (fun st=>Ad (ee st r) (DE _ _))<|wD (fun st=>Ag (v:=.slice c b.AX.length d) C2 (eR st) o.bk rfl)<|wD (fun st=>Br Tryz.underlying23 (eR st))<|wD (fun st=>B9 (eR st) (eR st))<|wn ?_;rcases Ae (decide (n<(b.AX.length:Int))) with aD|aD
      ·replace a:=An a aD;refine Ah rfl aD<|cn<|Af<|AI<|cr<|wD (fun st=>Ad (ee st r) (DE _ _))<|wD (fun st=>Ag (v:=.slice c b.AX.length d) C2 (eR st) o.bk rfl)<|wM (v:=I n) z ?_;replace a:=AT a;obtain⟨i7,bD,bE,bF,bG,a⟩:=a;have p:=(s.mv (Az o));obtain⟨bT,bU,_,bH,⟨a2,a3,rfl,bM⟩,bI⟩:=Sl.Cy p rfl bF;refine wD (fun st=>Bi (k:=i7) Tryz.underlying23 EO (eR st) bH (eR st) bE bG)<|wD (fun st=>Bp (v:=.slice a2 bD.length a3) CO (eR st) bI rfl)<|wD (fun st=>Br Tryz.underlying31 (eR st))<|wD (fun st=>FI (eR st) (eR st))<|wn ?_;rcases Ae (decide ((6:Int)<(bD.length:Int))) with aE|aE
       ·replace a:=An a aE;refine Ah rfl aE<|cr<|wA (v:=.bool false) rfl<|wn<|Am<|CN<|AG ?_;obtain rfl:=oi a;refine BF (fun st=>?_);exact .inl ⟨rfl,false,rfl,qo st,sp st 2 rfl,rfl⟩
       ·replace a:=Ao a aE;refine Aq rfl aE<|Cp<|CU<|Al<|wM (v:=I n) z ?_;replace a:=AL a;obtain⟨bJ,a⟩:=a;refine wD (fun st=>BL (eR st) (eR st) bJ)<|wA (v:=I (n+1)) rfl<|Bj ?_;refine Bv aZ (Nat.lt_succ_self _) (fun st=>?_);exact⟨(n+1),a,qo st,sp st 1 r,sp st 3 rfl,rfl⟩
      ·replace a:=Ao a aD;refine Aq rfl aD<|DG ?_;obtain rfl:=oi a;refine BF (fun st=>?_);exact .inr ⟨rfl,(),rfl,qo st,sp st 1 r,rfl⟩
    case bA=>
     rintro aY bN _ (⟨rfl,u,rfl,aA,aM,rfl⟩|⟨rfl,u,rfl,aA,aF,rfl⟩)
     ·skip
      replace a:=C4 a;refine lf aA<|CN ?_;obtain rfl:=oi a;refine Av rfl aM ?_;exact⟨aB.Bf,rfl⟩
     ·skip
      replace a:=C5 a;refine lf aA<|Bd<|BM<|cr<|wD (fun st=>Ba (l:=(AS h i c d j m b)) H2 (ee st aF) o.bk rfl rfl) ?_;have ⟨x,p,y⟩:=Ez aH s aI (Az o);replace a:=bind_some a;obtain⟨aN,a4,a⟩:=a;refine wE (fun st=>Aj U3 (eR st) (Ck (eR st)) (a24 aP b h i c d j m ZA _ x.all p.all y.all aN a4)) ?_;rintro _ bR ⟨aG,rfl⟩;have aW:=aB.ext aG;refine wD (fun st=>D1 (eR st) (eR st))<|wM (v:=.bool (aN !=0)) rfl ?_;rcases Ae (aN !=0) with e|e
      ·replace a:=An a e;refine wF e<|wF e<|wF e<|wD (fun st=>AY (v:=.bool true) (eR st) e (eR st))<|wA (v:=.bool true) rfl<|wn<|Am ?_;obtain rfl:=oi a;refine Av rfl rfl ?_;exact⟨aW.Bf,rfl⟩
      ·replace a:=Ao a e;have aU:=(o.bk.ext aG);refine wG e (fun st=>Ba (l:=(AS h i c d j m b)) H2 (ee st aF) aU rfl rfl) ?_;have ⟨aJ,aK,aL⟩:=Ez x p y (Ac aG);replace a:=bind_some a;obtain⟨aO,a5,a⟩:=a;refine wX e (fun st=>Aj RT (eR st) (Ck (eR st)) (a59 aP b h i c d j m ZA _ aJ.all aK.all aL.all aO a5)) ?_;rintro _ bS ⟨a7,rfl⟩;have bK:=aW.ext a7;refine wG e (fun st=>HN (eR st) (eR st))<|wD (fun st=>Bs (v:=.bool (decide (aO≤150))) (eR st) e (eR st))<|wA (v:=.bool (decide (aO≤150))) rfl<|wn<|Am ?_;obtain rfl:=oi a;refine Av rfl rfl ?_;exact⟨bK.Bf,rfl⟩
theorem a51 u c a b(Z:Nat→Prop) w(h:Sl (Ai .i64) w Z a b c) p(d:FT u c=some p):
 BO Tryz.prog 51 #[.slice a c.length b] w (fun v w'=>Ext w w'∧(FE (Ai .i64)).R w' (zf Z w []) v p):=by
 unfold FT at d;refine rq (N:=5) Tryz.func51 fun z ha aA=>?_;have o:=sA 0 ha;clear ha;have q:Hp FN [] w [] w:=Hp.start (BC.none w);have e:=h.mv (Bz (Z:=Z) (L:=[]) w);refine cr<|wA (v:=.slice none 0 0) rfl<|wr<|wM (v:=.slice a c.length b) o ?_;have g:=q.nil;have r:Bl (Ai .i64) 3 w.heap.size w (zf Z w [none]) none 0 ([]:List Int):=Bl.nil _ _ _ _ _;replace d:=Cl d;obtain⟨i,d⟩:=d;have f:=(e.mv Bt);refine wE (fun st=>G6 (ys:=c) Tryz.underlying31 HJ rfl rfl (by decide) (eR st) rfl (eR st) r f.n (by have:=i;simp only[maxLen];omega) (by have:=i;omega) g.sz) ?_;rintro _ aB ⟨x,y,rfl,j,l,s⟩;have m:=g.row j 0 rfl l;have t:=DT s (g.CJ j 0 rfl (fun k hk=>(l k hk).1));refine wA (v:=.slice x ((([]:List Int)++c).length) y) rfl<|wn<|Am ?_;obtain rfl:=oi d;refine Av rfl rfl ?_;exact⟨m.Bf,⟨_,_,rfl,m.Jn (M:=[]) 0 rfl [] rfl trivial t⟩⟩
theorem a66 q a(Z:Nat→Prop) w i(j:I8 q a=some i):
 BO Tryz.prog 66 #[.agg #[I a.Lo,I a.Hi]] w (fun v w'=>Ext w w'∧(DJ AA).R w' (zf Z w []) v i):=by
 unfold I8 at j;refine rq (N:=8) Tryz.func66 fun r ha s=>?_;have h:=sA 0 ha;clear ha;have e:Hp FN [] w [] w:=Hp.start (BC.none w);refine cr<|wE (fun st=>BN (v:=.agg #[I a.Lo,I a.Hi]) (cs:= #[I a.Lo,I a.Hi]) (ee st h) rfl) ?_;rintro _ w1 ⟨b1,rfl,d⟩;have f:=e.nb d;have o:=e.BJ d;refine wE (fun st=>B8 (cs:= #[I 0,I 0]) JR rfl) ?_;rintro _ w2 ⟨b2,rfl,b⟩;have k:=f.nb b;have p:=f.BJ b;refine wr<|wD (fun st=>Ad (eR st) (KU _ _)) ?_;have c:=(d.bk.ext b.gr);refine wD (fun st=>Ag (v:=I a.Lo) Bg (eR st) c rfl)<|wD (fun st=>Ad (eR st) (LF _ _))<|wD (fun st=>Ag (v:=I a.Hi) Bg (eR st) c rfl)<|wD (fun st=>DS (vs:= #[(0,I a.Lo),(1,I a.Hi)]) (v:=.agg #[I a.Lo,I a.Hi]) (HO (eR st) (eR st)) (by kernel_rfl))<|BI rfl rfl (fun st=>By (n:=2) (l:=[I a.Lo,I a.Hi]) (CB:= #[I a.Lo,I a.Hi]) (eR st) (eR st) Hs b.bk rfl rfl (show 0+2≤2 by decide) (Bh rfl) rfl) ?_;rintro _ t g;have m:=k.gr g.gr 0 rfl;refine wn<|Am ?_;obtain rfl:=oi j;refine GW (v:=.agg #[I a.Lo,I a.Hi]) rfl rfl (DN GS g.bk rfl rfl) ?_;exact⟨m.Bf,⟨_,rfl,rfl⟩⟩
set_option maxHeartbeats 4000000 in
theorem Qt gB r aO aP aQ aR aS aT aZ a0 a2 a3 a4 a5(Z:Nat→Prop) w(jK:Sl AA w Z aO aP r.Ak)(jL:Sl (BH (Ai .i64)) w Z aQ aR r.Ab)(jM:Sl AH w Z aS aT r.Aw)(jN:Sl AZ w Z aZ a0 r.AB)(jO:Sl Bb w Z a2 a3 r.AF)(jP:Sl Bq w Z a4 a5 r.AM) l6(q:Dn gB r=some l6):
 BO Tryz.prog 38 #[.agg (Ay aO aP aQ aR aS aT aZ a0 a2 a3 a4 a5 r).toArray] w (fun v w'=>Ext w w'∧(DJ PB).R w' (zf Z w []) v l6):=by
 unfold Dn at q;refine rq (N:=90) Tryz.func38 fun mW ha mX=>?_;have kB:=sA 0 ha;clear ha;have jX:Hp FN [] w [] w:=Hp.start (BC.none w);have ⟨eO,eP,eQ,hV,hW,hX⟩:=CA jK jL jM jN jO jP (Bz (Z:=Z) (L:=[]) w);refine cr<|wE (fun st=>BN (v:=.agg (Ay aO aP aQ aR aS aT aZ a0 a2 a3 a4 a5 r).toArray) (cs:=(Ay aO aP aQ aR aS aT aZ a0 a2 a3 a4 a5 r).toArray) (ee st kB) rfl) ?_;rintro _ w1 ⟨b1,rfl,eS⟩;have jY:=jX.nb eS;have mK:=jX.BJ eS;refine wE (fun st=>B8 (cs:= #[.slice none 0 0,.slice none 0 0,.slice none 0 0,I 0,.slice none 0 0,.slice none 0 0,.slice none 0 0]) P1 rfl) ?_;rintro _ w2 ⟨b2,rfl,d1⟩;have l7:=jY.nb d1;have mL:=jY.BJ d1;refine wn<|Af ?_;have l8:=l7.nil;have hN:=(eS.bk.ext d1.gr);have ⟨hY,hZ,h3⟩:=Ez eO eP eQ (mt (Az eS) (mt (Az d1) Bt));replace q:=bind_some q;obtain⟨x,l9,q⟩:=q;obtain⟨mO,bF⟩:∃m9:(Nat→Bool)→(Nat→Value)→World→Prop,m9=(fun D V p=>∃(aK:Option Nat) (m:Nat) (b:Option Addr) (c:Nat) (d:Option Addr) (f:Nat) (g:Option Addr) (i:Nat),Hp FN [] w [aK,some b2,some b1] p∧Ext w2 p∧(∀h4,Mv w2 (ZZ FN [] h4 w.heap.size [none,some b2,some b1]) p (ZZ FN [] h4 w.heap.size [aK,some b2,some b1]))∧(∀eF,aK=some eF→w2.heap.size≤eF)∧(D 6=false→aK=none)∧(D 0=true→V 0=pt b1 0)∧(D 1=true→V 1=.agg #[.slice aO r.Ak.length aP,.slice aQ r.Ab.length aR,.slice aS r.Aw.length aT])∧(D 2=true→V 2=.agg (AS b c d f g i x).toArray∧Sl AA p (zf Z w [aK,some b2,some b1]) b c x.Ax∧Sl (BH (Ai .i64)) p (zf Z w [aK,some b2,some b1]) d f x.AX∧Sl AH p (zf Z w [aK,some b2,some b1]) g i x.AP)∧(D 3=true→V 3=pt b1 3)∧(D 4=true→V 4=I r.Flat)∧(D 5=true→V 5=.agg #[.slice b x.Ax.length c,.slice d x.AX.length f,.slice g x.AP.length i,I r.Flat,.slice none 0 0,.slice none 0 0,.slice none 0 0])∧(D 6=true→Bk p m 53 #[.slice none 0 0,.slice none 0 0,.slice none 0 0,I 0,.slice none 0 0,.slice none 0 0,.slice none 0 0])∧(D 6=true→V 6=pt m 0∧aK=some m∧w.heap.size≤m)):=⟨_,rfl⟩;refine JL 7 mO mixed rfl rfl (by rw[bF];exact⟨none,0,none,0,none,0,none,0,(l8.ext (C8 _)),C8 _,fun _=>Ac (C8 _),fun _ bC=>(by cases bC),fun _=>rfl,fun bC=>absurd (show false=true from bC) (by decide),fun bC=>absurd (show false=true from bC) (by decide),fun bC=>absurd (show false=true from bC) (by decide),fun bC=>absurd (show false=true from bC) (by decide),fun bC=>absurd (show false=true from bC) (by decide),fun bC=>absurd (show false=true from bC) (by decide),fun bC=>absurd (show false=true from bC) (by decide),fun bC=>absurd (show false=true from bC) (by decide)⟩)
     ⟨sj (k:=0) rfl (fun D V a' w' K y=>by
          rw[bF] at y;refine X4 y fun aK m b c y=>X4 y fun d f g i y=>Y8 y fun a8 bH bI aB aC _ aU aI y=>Y4 y fun aV aW a9 aL y=>?_;have aX:=y;exact(Ad (es ((K.out 1 rfl).trans rfl)) (ER _ _)).mono fun v BD ⟨c1,c2⟩=>by subst c1;subst c2;rw[bF];exact⟨aK,m,b,c,d,f,g,i,a8,bH,bI,aB,aC,fun _=>rfl,aU,aI,aV,aW,a9,aL,aX⟩),
      sj (k:=1) rfl (fun D V a' w' K y=>by
          rw[bF] at y;refine X4 y fun aK m b c y=>X4 y fun d f g i y=>Y8 y fun a8 bH bI aB aC aY _ aI y=>Y4 y fun aV aW a9 aL y=>?_;have aX:=y;have hO:=aY (K.dn 0 rfl);exact(Ba (l:=[.slice aO r.Ak.length aP,.slice aQ r.Ab.length aR,.slice aS r.Aw.length aT]) H2 (es (t:=7) (v:=pt b1 0) ((K.dq 0 7).trans hO)) (hN.ext bH) rfl rfl).mono fun v BD ⟨c1,c2⟩=>by subst c1;subst c2;rw[bF];exact⟨aK,m,b,c,d,f,g,i,a8,bH,bI,aB,aC,aY,fun _=>rfl,aI,aV,aW,a9,aL,aX⟩),
      sj (k:=2) rfl (fun D V a' w' K y=>by
          rw[bF] at y;refine X4 y fun aK m b c y=>X4 y fun d f g i y=>Y8 y fun a8 bH bI aB aC aY aU _ y=>Y4 y fun aV aW _ aL y=>?_;have aX:=y;have hP:=aU (K.dn 1 rfl);refine(Aj Aaf rfl (Ck (es (t:=8) (v:=.agg #[.slice aO r.Ak.length aP,.slice aQ r.Ab.length aR,.slice aS r.Aw.length aT]) ((K.dq 1 8).trans hP))) (a27 gB (⟨r.Ak,r.Ab,r.Aw⟩:Be) aO aP aQ aR aS aT _ _ (hY.mv (bI _)) (hZ.mv (bI _)) (h3.mv (bI _)) x l9)).mono ?_;rintro v BD ⟨e1,⟨_,rfl,⟨b,c,d,f,g,i,rfl,cM,cN,cO⟩⟩⟩;rw[bF];exact⟨aK,m,b,c,d,f,g,i,(a8.ext e1),(Ext.trans bH e1),(fun h4=>(bI h4).trans (Ac e1)),aB,aC,aY,aU,fun _=>⟨rfl,cM.mv (a8.DR (Nat.le_refl _)),cN.mv (a8.DR (Nat.le_refl _)),cO.mv (a8.DR (Nat.le_refl _))⟩,aV,aW,fun bC=>(Nq K.me (K.down 5 _ rfl bC 2 rfl)).elim,fun bC=>((aL bC).ext e1),aX⟩),
      sj (k:=3) rfl (fun D V a' w' K y=>by
          rw[bF] at y;refine X4 y fun aK m b c y=>X4 y fun d f g i y=>Y8 y fun a8 bH bI aB aC aY aU aI y=>Y4 y fun _ aW a9 aL y=>?_;have aX:=y;exact(Ad (es ((K.out 1 rfl).trans rfl)) (PZ _ _)).mono fun v BD ⟨c1,c2⟩=>by subst c1;subst c2;rw[bF];exact⟨aK,m,b,c,d,f,g,i,a8,bH,bI,aB,aC,aY,aU,aI,fun _=>rfl,aW,a9,aL,aX⟩),
      sj (k:=4) rfl (fun D V a' w' K y=>by
          rw[bF] at y;refine X4 y fun aK m b c y=>X4 y fun d f g i y=>Y8 y fun a8 bH bI aB aC aY aU aI y=>Y4 y fun aV _ a9 aL y=>?_;have aX:=y;have hQ:=aV (K.dn 3 rfl);exact(Ag (v:=I r.Flat) Bg (es (t:=10) (v:=pt b1 3) ((K.dq 3 10).trans hQ)) (hN.ext bH) rfl).mono fun v BD ⟨c1,c2⟩=>by subst c1;subst c2;rw[bF];exact⟨aK,m,b,c,d,f,g,i,a8,bH,bI,aB,aC,aY,aU,aI,aV,fun _=>rfl,a9,aL,aX⟩),
      sj (k:=5) rfl (fun D V a' w' K y=>by
          rw[bF] at y;refine X4 y fun aK m b c y=>X4 y fun d f g i y=>Y8 y fun a8 bH bI aB aC aY aU aI y=>Y4 y fun aV aW _ aL y=>?_;have aX:=y;obtain⟨hR,cM,cN,cO⟩:=aI (K.dn 2 rfl);have hS:=aW (K.dn 4 rfl);exact(DS (vs:= #[(0,.agg (AS b c d f g i x).toArray),(1,I r.Flat)]) (v:=.agg #[.slice b x.Ax.length c,.slice d x.AX.length f,.slice g x.AP.length i,I r.Flat,.slice none 0 0,.slice none 0 0,.slice none 0 0]) (HO (es (t:=9) (v:=.agg (AS b c d f g i x).toArray) ((K.dq 2 9).trans hR)) (es (t:=11) (v:=I r.Flat) ((K.dq 4 11).trans hS))) (by kernel_rfl)).mono fun v BD ⟨c1,c2⟩=>by subst c1;subst c2;rw[bF];exact⟨aK,m,b,c,d,f,g,i,a8,bH,bI,aB,aC,aY,aU,aI,aV,aW,fun _=>rfl,aL,aX⟩),
      sj (k:=6) rfl (fun D V a' w' K y=>by
          rw[bF] at y;refine X4 y fun _ _ b c y=>X4 y fun d f g i y=>Y8 y fun a8 bH bI aB aC aY aU aI y=>Y4 y fun aV aW a9 _ y=>?_;have aX:=y;have kC:=aC K.me;subst kC;refine(B8 (cs:= #[.slice none 0 0,.slice none 0 0,.slice none 0 0,I 0,.slice none 0 0,.slice none 0 0,.slice none 0 0]) P1 rfl).mono ?_;rintro v BD ⟨iP,rfl,e2⟩;have eT:=LN e2;have h5:=e2.gr;rw[bF];exact⟨(some iP),iP,b,c,d,f,g,i,(a8.row h5 0 rfl eT),(Ext.trans bH h5),(fun h4=>(bI h4).trans (a8.CJ h5 0 rfl (fun eF d2=>(eT eF d2).1))),(H5 aB bH.size eT),fun bC=>absurd (show true=false from bC) (by decide),aY,aU,fun bC=>⟨(aI bC).1,((aI bC).2.1.mv (a8.CJ h5 0 rfl (fun eF d2=>(eT eF d2).1))),((aI bC).2.2.1.mv (a8.CJ h5 0 rfl (fun eF d2=>(eT eF d2).1))),((aI bC).2.2.2.mv (a8.CJ h5 0 rfl (fun eF d2=>(eT eF d2).1)))⟩,aV,aW,a9,fun _=>e2.bk,fun _=>⟨rfl,rfl,Nat.le_trans a8.sz (Nat.le_of_eq e2.Fq.symm)⟩⟩),trivial⟩ ?_
 intro nA nB nC GV bJ;rw[bF] at bJ;clear bF;refine X4 bJ fun aK m b c bJ=>X4 bJ fun d f g i bJ=>Y8 bJ fun d3 iQ kD aB aC aY aU aI bJ=>Y4 bJ fun aV aW a9 aL bJ=>?_;have aX:=bJ;clear bJ;have hO:=aY (GV 0 (by decide));have hP:=aU (GV 1 (by decide));obtain⟨hR,cM,cN,cO⟩:=aI (GV 2 (by decide));have hQ:=aV (GV 3 (by decide));have hS:=aW (GV 4 (by decide));have jQ:=a9 (GV 5 (by decide));obtain⟨hT,iR,l1⟩:=aX (GV 6 (by decide));subst iR;have iS:=aL (GV 6 (by decide));refine BI rfl rfl (fun st=>By (n:=7) (l:=[.slice b x.Ax.length c,.slice d x.AX.length f,.slice g x.AP.length i,I r.Flat,.slice none 0 0,.slice none 0 0,.slice none 0 0]) (CB:= #[.slice b x.Ax.length c,.slice d x.AX.length f,.slice g x.AP.length i,I r.Flat,.slice none 0 0,.slice none 0 0,.slice none 0 0]) (ee st hT) (ee st jQ) T7 iS rfl rfl (show 0+7≤7 by decide) (Bh rfl) rfl) ?_;rintro _ mP eU;have mA:=d3.gr eU.gr 0 rfl;refine wn<|Af<|cr<|wA (v:=I 0) rfl<|wn<|AI ?_;have mB:=mA.nil;have mC:Bl AZ 48 w.heap.size mP (zf Z w [none,some m,some b2,some b1]) none 0 ([]:List BK):=Bl.nil _ _ _ _ _;replace q:=bind_some q;obtain⟨cD,eV,q⟩:=q;refine BY (fun fQ aF p=>(fQ=.exit 0∧∃a o,Fo X0 90 aF∧sl aF 1=pt b1 0∧sl aF 2=pt b2 0∧sl aF 3=pt m 0∧Hp FN [] w [ob a,some m,some b2,some b1] p∧(fun z=>Bl AZ 48 w.heap.size p z a o cD∧Bk p b1 67 (Ay aO aP aQ aR aS aT aZ a0 a2 a3 a4 a5 r).toArray∧Bk p b2 53 #[.slice none 0 0,.slice none 0 0,.slice none 0 0,I 0,.slice none 0 0,.slice none 0 0,.slice none 0 0]∧Bk p m 53 #[.slice b x.Ax.length c,.slice d x.AX.length f,.slice g x.AP.length i,I r.Flat,.slice a cD.length o,.slice none 0 0,.slice none 0 0]∧Sl AA p z aO aP r.Ak∧Sl (BH (Ai .i64)) p z aQ aR r.Ab∧Sl AH p z aS aT r.Aw∧Sl AZ p z aZ a0 r.AB∧Sl Bb p z a2 a3 r.AF∧Sl Bq p z a4 a5 r.AM∧Sl AA p z b c x.Ax∧Sl (BH (Ai .i64)) p z d f x.AX∧Sl AH p z g i x.AP) (zf Z w [ob a,some m,some b2,some b1]))) ?mD ?mE
 case mD=>
  clear q;refine BX (fun d4 aF p=>∃bX,∃a7,∃aJ bG,Du r d4 bX a7=some cD∧Fo X0 90 aF∧sl aF 1=pt b1 0∧sl aF 2=pt b2 0∧sl aF 3=pt m 0∧sl aF 4=I bX∧Hp FN [] w [ob aJ,some m,some b2,some b1] p∧(fun z=>Bl AZ 48 w.heap.size p z aJ bG a7∧Bk p b1 67 (Ay aO aP aQ aR aS aT aZ a0 a2 a3 a4 a5 r).toArray∧Bk p b2 53 #[.slice none 0 0,.slice none 0 0,.slice none 0 0,I 0,.slice none 0 0,.slice none 0 0,.slice none 0 0]∧Bk p m 53 #[.slice b x.Ax.length c,.slice d x.AX.length f,.slice g x.AP.length i,I r.Flat,.slice aJ a7.length bG,.slice none 0 0,.slice none 0 0]∧Sl AA p z aO aP r.Ak∧Sl (BH (Ai .i64)) p z aQ aR r.Ab∧Sl AH p z aS aT r.Aw∧Sl AZ p z aZ a0 r.AB∧Sl Bb p z a2 a3 r.AF∧Sl Bq p z a4 a5 r.AM∧Sl AA p z b c x.Ax∧Sl (BH (Ai .i64)) p z d f x.AX∧Sl AH p z g i x.AP) (zf Z w [ob aJ,some m,some b2,some b1])) gB ?mF ?mG
  case mF=>
   intro st;have jR:=(((eS.bk.ext d1.gr).ext iQ).gr eU.gr (d3.nq 2 0));have jS:=((d1.bk.ext iQ).gr eU.gr (d3.nq 1 0));have h6:=eU.bk;have ⟨h7,h8,h9,iA,iB,iC⟩:=CA eO eP eQ hV hW hX (mt (Az eS) (mt (Az d1) (mt Bt (mt (kD _) (mt (d3.BA eU.gr 0 rfl) Bt)))));have ⟨fR,fS,fT⟩:=Ez cM cN cO (mt (d3.BA eU.gr 0 rfl) Bt);exact⟨(0:Int),([]:List BK),none,0,eV,qo st,sp st 1 rfl,sp st 2 rfl,sp st 3 hT,sp st 4 rfl,mB,mC,jR,jS,h6,h7,h8,h9,iA,iB,iC,fR,fS,fT⟩
  case mG=>
   rintro(_|d4) mY mZ ⟨bX,a7,aJ,bG,eV,kE,c3,hU,dZ,d0,iT,cE,cF,fU,cW,d5,d6,d7,b7,d8,d9,c4,c5,c6⟩
   ·exact absurd (show none=some _ from eV) (by simp)
   rw[Du.eq_2] at eV;have q:=eV;clear eV;refine ro kE<|Af<|cr<|wM (v:=I bX) d0<|wD (fun st=>Ad (ee st c3) (Gl _ _))<|wD (fun st=>Ag (v:=.slice aZ r.AB.length a0) Hf (eR st) cF rfl)<|wD (fun st=>Br Tryz.underlying63 (eR st))<|wD (fun st=>B9 (eR st) (eR st))<|wn ?_;rcases Ae (decide (bX<(r.AB.length:Int))) with fV|fV
   ·replace q:=An q fV;refine Ah rfl fV<|cn<|Af<|AI ?_;replace q:=AT q;obtain⟨i10,bK,kF,kG,kH,q⟩:=q;obtain⟨jZ,j0,_,kI,rfl,kJ⟩:=Sl.elem b7 (by decide) kG;replace q:=AT q;obtain⟨i11,bL,kK,kL,kM,q⟩:=q;obtain⟨j1,j2,_,kN,rfl,kP⟩:=Sl.elem b7 (by decide) kL;refine BU 16 [Kc (pt m 4),Kc (.slice aJ a7.length bG),Kc (pt b1 4),Kc (.slice aZ r.AB.length a0),Kc (I bX),Kc (pt jZ (j0+i10*2)),Kc (pt jZ (j0+i10*2)),Kc (I bK.AV),Kc (pt b1 4),Kc (.slice aZ r.AB.length a0),Kc (I bX),Kc (pt j1 (j2+i11*2)),Kc (pt j1 (j2+i11*2+1)),Kc (I bL.B4),Kc (.agg #[I bK.AV,I bL.B4]),Kv (FE AZ) (zf Z w [ob aJ,some m,some b2,some b1]) [(⟨bK.AV,bL.B4⟩:BK)]] mixed rfl rfl
        (Aa (oD (fun K=>Ad (es ((K.out 3 rfl).trans dZ)) (LC _ _)))
        (Aa (oD (fun K=>Ag LP (es (K.dq 0 20)) (cW.ext K.AQ) rfl))
        (Aa (oD (fun K=>Ad (es ((K.out 1 rfl).trans c3)) (Gl _ _)))
        (Aa (oD (fun K=>Ag Hf (es (K.dq 2 22)) (cF.ext K.AQ) rfl))
        (Aa (oD (fun K=>Au (es ((K.out 4 rfl).trans d0))))
        (Aa (oD (fun K=>Bu (k:=i10) Tryz.underlying63 JG (es (K.dq 3 23)) kI (es (K.dq 4 24)) kF kH))
        (Aa (oD (fun K=>Ad (es (K.dq 5 25)) (KW _ _ _)))
        (Aa (oD (fun K=>Bp Bg (es (K.dq 6 26)) (kJ.mv (Ac K.AQ)) rfl))
        (Aa (oD (fun K=>Ad (es ((K.out 1 rfl).trans c3)) (Gl _ _)))
        (Aa (oD (fun K=>Ag Hf (es (K.dq 8 28)) (cF.ext K.AQ) rfl))
        (Aa (oD (fun K=>Au (es ((K.out 4 rfl).trans d0))))
        (Aa (oD (fun K=>Bu (k:=i11) Tryz.underlying63 JG (es (K.dq 9 29)) kN (es (K.dq 10 30)) kK kM))
        (Aa (oD (fun K=>Ad (es (K.dq 11 31)) (OD _ _ _)))
        (Aa (oD (fun K=>DO Bg (es (K.dq 12 32)) (kP.mv (Ac K.AQ)) rfl))
        (Aa (oD (fun K=>DS (vs:= #[(0,I bK.AV),(1,I bL.B4)]) (v:=.agg #[I bK.AV,I bL.B4]) (HO (es (K.dq 7 27)) (es (K.dq 13 33))) (by kernel_rfl)))
        (Aa (IM rfl rfl (fun a' w' ph K=>(BR (e:=48) (vs:= #[(0,.agg #[I bK.AV,I bL.B4])]) (cs:= #[I bK.AV,I bL.B4]) (Ik (es (K.dq 14 34))) (by kernel_rfl)).mono (fun u BD ⟨iP,hu,c7⟩=>⟨⟨_,_,hu,Gp (xs:=[(⟨bK.AV,bL.B4⟩:BK)]) (BG:=[[I bK.AV,I bL.B4]]) c7.bk ((iT.ext K.AQ).kn (Nat.le_of_eq c7.Fq.symm)) (R2.mv (Ac c7.gr) (show R2 AZ w' (zf Z w [ob aJ,some m,some b2,some b1]) [[I bK.AV,I bL.B4]] [(⟨bK.AV,bL.B4⟩:BK)] from⟨rfl,trivial⟩)) rfl (Nat.le_refl _)⟩,c7.gr⟩)))
        (BS _))))))))))))))))) ?_
    intro nD;rintro _ rfl _ rfl _ rfl _ rfl _ rfl _ rfl _ rfl _ rfl _ rfl _ rfl _ rfl _ rfl _ rfl _ rfl _ rfl _ ⟨mH,mI,rfl,iD⟩ eA;have eB:=iT.ext eA;have eG:=(cE.ext eA (Ac eA));replace q:=Cl q;obtain⟨iU,q⟩:=q;refine wE (fun st=>G6 (ys:=[(⟨bK.AV,bL.B4⟩:BK)]) Tryz.underlying49 Y9 rfl rfl (by decide) (eR st) rfl (eR st) eG iD.n (by have:=iU;simp only[maxLen];omega) (by have:=iU;omega) eB.sz) ?_;rintro _ m0 ⟨iV,iW,rfl,dJ,gC,kQ⟩;have eW:=eB.row dJ 0 rfl gC;have kR:=DT kQ (eB.CJ dJ 0 rfl (fun k hk=>(gC k hk).1));refine wD (fun st=>Ad (ee st dZ) (LC _ _)) ?_;have iE:=((cW.ext eA).gr dJ (eB.nq 1 0));refine BI rfl rfl (fun st=>By (n:=1) (l:=[.slice iV ((a7++[(⟨bK.AV,bL.B4⟩:BK)]).length) iW]) (CB:= #[.slice b x.Ax.length c,.slice d x.AX.length f,.slice g x.AP.length i,I r.Flat,.slice iV ((a7++[(⟨bK.AV,bL.B4⟩:BK)]).length) iW,.slice none 0 0,.slice none 0 0]) (eR st) (eR st) Aa9 iE rfl rfl (show 4+1≤7 by decide) (Bh rfl) rfl) ?_;rintro _ m1 cX;have kS:=eW.gr cX.gr 1 rfl;refine Bj<|CU<|Al<|wM (v:=I bX) d0 ?_;replace q:=AL q;obtain⟨kT,q⟩:=q;refine wD (fun st=>BL (eR st) (eR st) kT)<|wA (v:=I (bX+1)) rfl<|Bj ?_;have iF:=(kR.gr cX.gr (fun k hk=>eW.ne 0 1 rfl (congrArg some hk) rfl) (eW.BA cX.gr 1 rfl));have iX:=(((cF.ext eA).gr dJ (eB.nq 3 0)).gr cX.gr (eW.nq 3 1));have iY:=(((fU.ext eA).gr dJ (eB.nq 2 0)).gr cX.gr (eW.nq 2 1));have ⟨gD,gE,gF,gG,gH,gI,e3,e4,e5⟩:=Nr d5 d6 d7 b7 d8 d9 c4 c5 c6 (mt (Ac eA) (mt (eB.CJ dJ 0 rfl (fun k hk=>(gC k hk).1)) (eW.BA cX.gr 1 rfl)));refine Bv d4 (Nat.lt_succ_self _) (fun st=>?_);exact⟨(bX+1),(a7++[(⟨bK.AV,bL.B4⟩:BK)]),iV,iW,q,qo st,sp st 1 c3,sp st 2 hU,sp st 3 dZ,sp st 4 rfl,kS,iF,iX,iY,cX.bk,gD,gE,gF,gG,gH,gI,e3,e4,e5⟩
   ·replace q:=Ao q fV;refine Aq rfl fV<|DG ?_;obtain rfl:=oi q;refine BF (fun st=>?_);exact⟨rfl,aJ,bG,qo st,sp st 1 c3,sp st 2 hU,sp st 3 dZ,iT,cE,cF,fU,cW,d5,d6,d7,b7,d8,d9,c4,c5,c6⟩
 case mE=>
  rintro fQ mQ mJ (⟨rfl,a,o,jT,iZ,i0,i1,kU,dK,i2,i3,gJ,gK,gL,gM,gN,gO,gP,e6,e7,e8⟩);refine lf jT<|Bd<|BM<|Af<|cr<|wA (v:=I 0) rfl<|wn<|AI ?_;have kV:=kU.nil;have kW:Bl Bb 134 w.heap.size mJ (zf Z w [none,ob a,some m,some b2,some b1]) none 0 ([]:List BZ):=Bl.nil _ _ _ _ _;replace q:=bind_some q;obtain⟨cC,dL,q⟩:=q;refine BY (fun fQ aF p=>(fQ=.exit 2∧∃j s,Fo X0 90 aF∧sl aF 1=pt b1 0∧sl aF 2=pt b2 0∧sl aF 3=pt m 0∧Hp FN [] w [ob j,ob a,some m,some b2,some b1] p∧(fun z=>Bl Bb 134 w.heap.size p z j s cC∧Bl AZ 48 w.heap.size p z a o cD∧Bk p b1 67 (Ay aO aP aQ aR aS aT aZ a0 a2 a3 a4 a5 r).toArray∧Bk p b2 53 #[.slice none 0 0,.slice none 0 0,.slice none 0 0,I 0,.slice none 0 0,.slice none 0 0,.slice none 0 0]∧Bk p m 53 #[.slice b x.Ax.length c,.slice d x.AX.length f,.slice g x.AP.length i,I r.Flat,.slice a cD.length o,.slice j cC.length s,.slice none 0 0]∧Sl AA p z aO aP r.Ak∧Sl (BH (Ai .i64)) p z aQ aR r.Ab∧Sl AH p z aS aT r.Aw∧Sl AZ p z aZ a0 r.AB∧Sl Bb p z a2 a3 r.AF∧Sl Bq p z a4 a5 r.AM∧Sl AA p z b c x.Ax∧Sl (BH (Ai .i64)) p z d f x.AX∧Sl AH p z g i x.AP) (zf Z w [ob j,ob a,some m,some b2,some b1]))) ?kX ?kY
  case kX=>
   clear q;refine BX (fun d4 aF p=>∃bD,∃aM,∃aD bA,Di r d4 bD aM=some cC∧Fo X0 90 aF∧sl aF 1=pt b1 0∧sl aF 2=pt b2 0∧sl aF 3=pt m 0∧sl aF 5=I bD∧Hp FN [] w [ob aD,ob a,some m,some b2,some b1] p∧(fun z=>Bl AZ 48 w.heap.size p z a o cD∧Bl Bb 134 w.heap.size p z aD bA aM∧Bk p b1 67 (Ay aO aP aQ aR aS aT aZ a0 a2 a3 a4 a5 r).toArray∧Bk p b2 53 #[.slice none 0 0,.slice none 0 0,.slice none 0 0,I 0,.slice none 0 0,.slice none 0 0,.slice none 0 0]∧Bk p m 53 #[.slice b x.Ax.length c,.slice d x.AX.length f,.slice g x.AP.length i,I r.Flat,.slice a cD.length o,.slice aD aM.length bA,.slice none 0 0]∧Sl AA p z aO aP r.Ak∧Sl (BH (Ai .i64)) p z aQ aR r.Ab∧Sl AH p z aS aT r.Aw∧Sl AZ p z aZ a0 r.AB∧Sl Bb p z a2 a3 r.AF∧Sl Bq p z a4 a5 r.AM∧Sl AA p z b c x.Ax∧Sl (BH (Ai .i64)) p z d f x.AX∧Sl AH p z g i x.AP) (zf Z w [ob aD,ob a,some m,some b2,some b1])) gB ?kZ ?k0
   case kZ=>
    intro st;have dM:=(dK.up Bt);have i4:=i2;have i5:=i3;have gQ:=gJ;have ⟨gR,gS,gT,gU,gV,gW,e9,fA,fB⟩:=Nr gK gL gM gN gO gP e6 e7 e8 Bt;exact⟨(0:Int),([]:List BZ),none,0,dL,qo st,sp st 1 iZ,sp st 2 i0,sp st 3 i1,sp st 5 rfl,kV,dM,kW,i4,i5,gQ,gR,gS,gT,gU,gV,gW,e9,fA,fB⟩
   case k0=>
    rintro(_|d4) mR mS ⟨bD,aM,aD,bA,dL,jU,cG,fW,c8,c9,gX,bT,b4,b5,eX,cH,dS,dT,dU,dV,bU,dW,cQ,cR,cS⟩
    ·exact absurd (show none=some _ from dL) (by simp)
    rw[Di.eq_2] at dL;have q:=dL;clear dL;refine ro jU<|Af<|cr<|wM (v:=I bD) c9<|wD (fun st=>Ad (ee st cG) (Gm _ _))<|wD (fun st=>Ag (v:=.slice a2 r.AF.length a3) Hg (eR st) b5 rfl)<|wD (fun st=>Br Tryz.underlying64 (eR st))<|wD (fun st=>B9 (eR st) (eR st))<|wn ?_;rcases Ae (decide (bD<(r.AF.length:Int))) with eC|eC
    ·replace q:=An q eC;refine Ah rfl eC<|cn<|Af<|AI ?_;replace q:=AT q;obtain⟨i20,bM,k1,k2,k3,q⟩:=q;obtain⟨j3,j4,_,k4,rfl,k5⟩:=Sl.elem bU (by decide) k2;replace q:=AT q;obtain⟨i21,bN,k6,k7,k8,q⟩:=q;obtain⟨j5,j6,_,k9,rfl,lA⟩:=Sl.elem bU (by decide) k7;refine BU 16 [Kc (pt m 5),Kc (.slice aD aM.length bA),Kc (pt b1 5),Kc (.slice a2 r.AF.length a3),Kc (I bD),Kc (pt j3 (j4+i20*2)),Kc (pt j3 (j4+i20*2)),Kc (I bM.Cw),Kc (pt b1 5),Kc (.slice a2 r.AF.length a3),Kc (I bD),Kc (pt j5 (j6+i21*2)),Kc (pt j5 (j6+i21*2+1)),Kc (I bN.Ch),Kc (.agg #[I bM.Cw,I bN.Ch]),Kv (FE Bb) (zf Z w [ob aD,ob a,some m,some b2,some b1]) [(⟨bM.Cw,bN.Ch⟩:BZ)]] mixed rfl rfl
         (Aa (oD (fun K=>Ad (es ((K.out 3 rfl).trans c8)) (JS _ _)))
         (Aa (oD (fun K=>Ag KG (es (K.dq 0 45)) (cH.ext K.AQ) rfl))
         (Aa (oD (fun K=>Ad (es ((K.out 1 rfl).trans cG)) (Gm _ _)))
         (Aa (oD (fun K=>Ag Hg (es (K.dq 2 47)) (b5.ext K.AQ) rfl))
         (Aa (oD (fun K=>Au (es ((K.out 5 rfl).trans c9))))
         (Aa (oD (fun K=>Bu (k:=i20) Tryz.underlying64 JH (es (K.dq 3 48)) k4 (es (K.dq 4 49)) k1 k3))
         (Aa (oD (fun K=>Ad (es (K.dq 5 50)) (LW _ _ _)))
         (Aa (oD (fun K=>Bp Bg (es (K.dq 6 51)) (k5.mv (Ac K.AQ)) rfl))
         (Aa (oD (fun K=>Ad (es ((K.out 1 rfl).trans cG)) (Gm _ _)))
         (Aa (oD (fun K=>Ag Hg (es (K.dq 8 53)) (b5.ext K.AQ) rfl))
         (Aa (oD (fun K=>Au (es ((K.out 5 rfl).trans c9))))
         (Aa (oD (fun K=>Bu (k:=i21) Tryz.underlying64 JH (es (K.dq 9 54)) k9 (es (K.dq 10 55)) k6 k8))
         (Aa (oD (fun K=>Ad (es (K.dq 11 56)) (KX _ _ _)))
         (Aa (oD (fun K=>DO Bg (es (K.dq 12 57)) (lA.mv (Ac K.AQ)) rfl))
         (Aa (oD (fun K=>DS (vs:= #[(0,I bM.Cw),(1,I bN.Ch)]) (v:=.agg #[I bM.Cw,I bN.Ch]) (HO (es (K.dq 7 52)) (es (K.dq 13 58))) (by kernel_rfl)))
         (Aa (IM rfl rfl (fun a' w' ph K=>(BR (e:=134) (vs:= #[(0,.agg #[I bM.Cw,I bN.Ch])]) (cs:= #[I bM.Cw,I bN.Ch]) (Ik (es (K.dq 14 59))) (by kernel_rfl)).mono (fun u BD ⟨iP,hu,c7⟩=>⟨⟨_,_,hu,Gp (xs:=[(⟨bM.Cw,bN.Ch⟩:BZ)]) (BG:=[[I bM.Cw,I bN.Ch]]) c7.bk ((gX.ext K.AQ).kn (Nat.le_of_eq c7.Fq.symm)) (R2.mv (Ac c7.gr) (show R2 Bb w' (zf Z w [ob aD,ob a,some m,some b2,some b1]) [[I bM.Cw,I bN.Ch]] [(⟨bM.Cw,bN.Ch⟩:BZ)] from⟨rfl,trivial⟩)) rfl (Nat.le_refl _)⟩,c7.gr⟩)))
         (BS _))))))))))))))))) ?_
     intro m2;rintro _ rfl _ rfl _ rfl _ rfl _ rfl _ rfl _ rfl _ rfl _ rfl _ rfl _ rfl _ rfl _ rfl _ rfl _ rfl _ ⟨l2,l3,rfl,gY⟩ b8;have b9:=gX.ext b8;have dX:=(b4.ext b8 (Ac b8));replace q:=Cl q;obtain⟨i6,q⟩:=q;refine wE (fun st=>G6 (ys:=[(⟨bM.Cw,bN.Ch⟩:BZ)]) Tryz.underlying50 Wj rfl rfl (by decide) (eR st) rfl (eR st) dX gY.n (by have:=i6;simp only[maxLen];omega) (by have:=i6;omega) b9.sz) ?_;rintro _ m3 ⟨i7,i8,rfl,cI,fC,lB⟩;have cJ:=b9.row cI 0 rfl fC;have lC:=DT lB (b9.CJ cI 0 rfl (fun k hk=>(fC k hk).1));refine wD (fun st=>Ad (ee st c8) (JS _ _)) ?_;have gZ:=((cH.ext b8).gr cI (b9.nq 2 0));refine BI rfl rfl (fun st=>By (n:=1) (l:=[.slice i7 ((aM++[(⟨bM.Cw,bN.Ch⟩:BZ)]).length) i8]) (CB:= #[.slice b x.Ax.length c,.slice d x.AX.length f,.slice g x.AP.length i,I r.Flat,.slice a cD.length o,.slice i7 ((aM++[(⟨bM.Cw,bN.Ch⟩:BZ)]).length) i8,.slice none 0 0]) (eR st) (eR st) Aba gZ rfl rfl (show 5+1≤7 by decide) (Bh rfl) rfl) ?_;rintro _ m4 cA;have lD:=cJ.gr cA.gr 2 rfl;refine Bj<|CU<|Al<|wM (v:=I bD) c9 ?_;replace q:=AL q;obtain⟨lE,q⟩:=q;refine wD (fun st=>BL (eR st) (eR st) lE)<|wA (v:=I (bD+1)) rfl<|Bj ?_;have dN:=(((bT.ext b8 (Ac b8)).gr cI (fun k hk=>b9.ne 1 0 rfl (congrArg some hk) rfl) (b9.CJ cI 0 rfl (fun k hk=>(fC k hk).1))).gr cA.gr (fun k hk=>cJ.ne 1 2 rfl (congrArg some hk) rfl) (cJ.BA cA.gr 2 rfl));have iG:=(lC.gr cA.gr (fun k hk=>cJ.ne 0 2 rfl (congrArg some hk) rfl) (cJ.BA cA.gr 2 rfl));have i9:=(((b5.ext b8).gr cI (b9.nq 4 0)).gr cA.gr (cJ.nq 4 2));have jA:=(((eX.ext b8).gr cI (b9.nq 3 0)).gr cA.gr (cJ.nq 3 2));have ⟨g0,g1,g2,g3,g4,g5,fD,fE,fF⟩:=Nr dS dT dU dV bU dW cQ cR cS (mt (Ac b8) (mt (b9.CJ cI 0 rfl (fun k hk=>(fC k hk).1)) (cJ.BA cA.gr 2 rfl)));refine Bv d4 (Nat.lt_succ_self _) (fun st=>?_);exact⟨(bD+1),(aM++[(⟨bM.Cw,bN.Ch⟩:BZ)]),i7,i8,q,qo st,sp st 1 cG,sp st 2 fW,sp st 3 c8,sp st 5 rfl,lD,dN,iG,i9,jA,cA.bk,g0,g1,g2,g3,g4,g5,fD,fE,fF⟩
    ·replace q:=Ao q eC;refine Aq rfl eC<|DG ?_;obtain rfl:=oi q;refine BF (fun st=>?_);exact⟨rfl,aD,bA,qo st,sp st 1 cG,sp st 2 fW,sp st 3 c8,gX,b4,bT,b5,eX,cH,dS,dT,dU,dV,bU,dW,cQ,cR,cS⟩
  case kY=>
   rintro fQ mM lF (⟨rfl,j,s,jB,iH,iI,iJ,jV,cY,dA,iK,iL,fX,fY,fZ,f0,f1,f2,f3,eH,eI,eJ⟩);refine lf jB<|Bd<|BM<|Af<|cr<|wA (v:=I 0) rfl<|wn<|AI ?_;have lG:=jV.nil;have lH:Bl Bq 136 w.heap.size lF (zf Z w [none,ob j,ob a,some m,some b2,some b1]) none 0 ([]:List B7):=Bl.nil _ _ _ _ _;replace q:=bind_some q;obtain⟨z26,dO,q⟩:=q;refine BY (fun fQ aF p=>(fQ=.exit 4∧∃aA aG,Fo X0 90 aF∧sl aF 2=pt b2 0∧sl aF 3=pt m 0∧Hp FN [] w [ob aA,ob j,ob a,some m,some b2,some b1] p∧(fun z=>Bl Bb 134 w.heap.size p z j s cC∧Bl Bq 136 w.heap.size p z aA aG z26∧Bl AZ 48 w.heap.size p z a o cD∧Bk p b2 53 #[.slice none 0 0,.slice none 0 0,.slice none 0 0,I 0,.slice none 0 0,.slice none 0 0,.slice none 0 0]∧Bk p m 53 #[.slice b x.Ax.length c,.slice d x.AX.length f,.slice g x.AP.length i,I r.Flat,.slice a cD.length o,.slice j cC.length s,.slice aA z26.length aG]∧Sl AA p z b c x.Ax∧Sl (BH (Ai .i64)) p z d f x.AX∧Sl AH p z g i x.AP) (zf Z w [ob aA,ob j,ob a,some m,some b2,some b1]))) ?lI ?lJ
   case lI=>
    clear q;refine BX (fun d4 aF p=>∃bE,∃aN,∃aE bB,Dj gB r d4 bE aN=some z26∧Fo X0 90 aF∧sl aF 1=pt b1 0∧sl aF 2=pt b2 0∧sl aF 3=pt m 0∧sl aF 6=I bE∧Hp FN [] w [ob aE,ob j,ob a,some m,some b2,some b1] p∧(fun z=>Bl Bb 134 w.heap.size p z j s cC∧Bl AZ 48 w.heap.size p z a o cD∧Bl Bq 136 w.heap.size p z aE bB aN∧Bk p b1 67 (Ay aO aP aQ aR aS aT aZ a0 a2 a3 a4 a5 r).toArray∧Bk p b2 53 #[.slice none 0 0,.slice none 0 0,.slice none 0 0,I 0,.slice none 0 0,.slice none 0 0,.slice none 0 0]∧Bk p m 53 #[.slice b x.Ax.length c,.slice d x.AX.length f,.slice g x.AP.length i,I r.Flat,.slice a cD.length o,.slice j cC.length s,.slice aE aN.length bB]∧Sl AA p z aO aP r.Ak∧Sl (BH (Ai .i64)) p z aQ aR r.Ab∧Sl AH p z aS aT r.Aw∧Sl AZ p z aZ a0 r.AB∧Sl Bb p z a2 a3 r.AF∧Sl Bq p z a4 a5 r.AM∧Sl AA p z b c x.Ax∧Sl (BH (Ai .i64)) p z d f x.AX∧Sl AH p z g i x.AP) (zf Z w [ob aE,ob j,ob a,some m,some b2,some b1])) gB ?lK ?lL
    case lK=>
     intro st;have dB:=(cY.up Bt);have dP:=(dA.up Bt);have jC:=iK;have jD:=iL;have g6:=fX;have ⟨g7,g8,g9,hA,hB,hC,fG,fH,fI⟩:=Nr fY fZ f0 f1 f2 f3 eH eI eJ Bt;exact⟨(0:Int),([]:List B7),none,0,dO,qo st,sp st 1 iH,sp st 2 iI,sp st 3 iJ,sp st 6 rfl,lG,dB,dP,lH,jC,jD,g6,g7,g8,g9,hA,hB,hC,fG,fH,fI⟩
    case lL=>
     rintro(_|d4) mT mU ⟨bE,aN,aE,bB,dO,jW,dC,f4,dD,dE,hD,bO,bV,b6,cP,eY,cK,f5,f6,f7,f8,f9,cL,cT,cU,cV⟩
     ·exact absurd (show none=some _ from dO) (by simp)
     rw[Dj.eq_2] at dO;have q:=dO;clear dO;refine ro jW<|Af<|cr<|wM (v:=I bE) dE<|wD (fun st=>Ad (ee st dC) (H7 _ _))<|wD (fun st=>Ag (v:=.slice a4 r.AM.length a5) IV (eR st) cP rfl)<|wD (fun st=>Br Tryz.underlying65 (eR st))<|wD (fun st=>B9 (eR st) (eR st))<|wn ?_;rcases Ae (decide (bE<(r.AM.length:Int))) with eD|eD
     ·replace q:=An q eD;refine Ah rfl eD<|cn<|Af<|AI ?_;replace q:=AT q;obtain⟨i30,bP,lM,lN,lO,q⟩:=q;obtain⟨j7,j8,_,lP,rfl,lQ⟩:=Sl.elem cL (by decide) lN;replace q:=AT q;obtain⟨i31,eZ,lR,lS,lT,q⟩:=q;obtain⟨j9,kA,_,lU,rfl,lV⟩:=Sl.elem cL (by decide) lS;replace q:=bind_some q;obtain⟨aH,lW,q⟩:=q;refine BU 17 [Kc (pt m 6),Kc (.slice aE aN.length bB),Kc (pt b1 6),Kc (.slice a4 r.AM.length a5),Kc (I bE),Kc (pt j7 (j8+i30*3)),Kc (pt j7 (j8+i30*3)),Kc (I bP.BV),Kc (pt b1 6),Kc (.slice a4 r.AM.length a5),Kc (I bE),Kc (pt j9 (kA+i31*3)),Kc (pt j9 (kA+i31*3+1)),Kc (.agg #[I eZ.Cm,I eZ.Cn]),Kc (.agg #[I aH.Lo,I aH.Hi]),Kc (.agg #[I bP.BV,I aH.Lo,I aH.Hi]),Kv (FE Bq) (zf Z w [ob aE,ob j,ob a,some m,some b2,some b1]) [(⟨bP.BV,aH.Lo,aH.Hi⟩:B7)]] mixed rfl rfl
          (Aa (oD (fun K=>Ad (es ((K.out 3 rfl).trans dD)) (JT _ _)))
          (Aa (oD (fun K=>Ag LQ (es (K.dq 0 70)) (cK.ext K.AQ) rfl))
          (Aa (oD (fun K=>Ad (es ((K.out 1 rfl).trans dC)) (H7 _ _)))
          (Aa (oD (fun K=>Ag IV (es (K.dq 2 72)) (cP.ext K.AQ) rfl))
          (Aa (oD (fun K=>Au (es ((K.out 6 rfl).trans dE))))
          (Aa (oD (fun K=>Bu (k:=i30) Tryz.underlying65 LS (es (K.dq 3 73)) lP (es (K.dq 4 74)) lM lO))
          (Aa (oD (fun K=>Ad (es (K.dq 5 75)) (MV _ _ _)))
          (Aa (oD (fun K=>Bp Bg (es (K.dq 6 76)) (lQ.mv (Ac K.AQ)) rfl))
          (Aa (oD (fun K=>Ad (es ((K.out 1 rfl).trans dC)) (H7 _ _)))
          (Aa (oD (fun K=>Ag IV (es (K.dq 8 78)) (cP.ext K.AQ) rfl))
          (Aa (oD (fun K=>Au (es ((K.out 6 rfl).trans dE))))
          (Aa (oD (fun K=>Bu (k:=i31) Tryz.underlying65 LS (es (K.dq 9 79)) lU (es (K.dq 10 80)) lR lT))
          (Aa (oD (fun K=>Ad (es (K.dq 11 81)) (OE _ _ _)))
          (Aa (oD (fun K=>Nj (l:=[I eZ.Cm,I eZ.Cn]) Jg (es (K.dq 12 82)) (lV.mv (Ac K.AQ)) rfl rfl))
          (Aa (oE (fun K=>(Aj Aag rfl (Ck (es (K.dq 13 83))) (a66 gB (⟨eZ.Cm,eZ.Cn⟩:AN) ZA _ aH lW)).mono (fun _ _ h=>⟨(by obtain⟨_,rfl,rfl⟩:=h.2;rfl),h.1⟩)))
          (Aa (oD (fun K=>DS (vs:= #[(0,I bP.BV),(1,.agg #[I aH.Lo,I aH.Hi])]) (v:=.agg #[I bP.BV,I aH.Lo,I aH.Hi]) (HO (es (K.dq 7 77)) (es (K.dq 14 84))) (by kernel_rfl)))
          (Aa (IM rfl rfl (fun a' w' ph K=>(BR (e:=136) (vs:= #[(0,.agg #[I bP.BV,I aH.Lo,I aH.Hi])]) (cs:= #[I bP.BV,I aH.Lo,I aH.Hi]) (Ik (es (K.dq 15 85))) (by kernel_rfl)).mono (fun u BD ⟨iP,hu,c7⟩=>⟨⟨_,_,hu,Gp (xs:=[(⟨bP.BV,aH.Lo,aH.Hi⟩:B7)]) (BG:=[[I bP.BV,I aH.Lo,I aH.Hi]]) c7.bk ((hD.ext K.AQ).kn (Nat.le_of_eq c7.Fq.symm)) (R2.mv (Ac c7.gr) (show R2 Bq w' (zf Z w [ob aE,ob j,ob a,some m,some b2,some b1]) [[I bP.BV,I aH.Lo,I aH.Hi]] [(⟨bP.BV,aH.Lo,aH.Hi⟩:B7)] from⟨rfl,trivial⟩)) rfl (Nat.le_refl _)⟩,c7.gr⟩)))
          (BS _)))))))))))))))))) ?_
      intro m5;rintro _ rfl _ rfl _ rfl _ rfl _ rfl _ rfl _ rfl _ rfl _ rfl _ rfl _ rfl _ rfl _ rfl _ rfl _ rfl _ rfl _ ⟨l4,l5,rfl,hE⟩ bQ;have bR:=hD.ext bQ;have dY:=(b6.ext bQ (Ac bQ));replace q:=Cl q;obtain⟨jE,q⟩:=q;refine wE (fun st=>G6 (ys:=[(⟨bP.BV,aH.Lo,aH.Hi⟩:B7)]) Tryz.underlying51 Wk rfl rfl (by decide) (eR st) rfl (eR st) dY hE.n (by have:=jE;simp only[maxLen];omega) (by have:=jE;omega) bR.sz) ?_;rintro _ m6 ⟨jF,jG,rfl,bY,eE,lX⟩;have bZ:=bR.row bY 0 rfl eE;have lY:=DT lX (bR.CJ bY 0 rfl (fun k hk=>(eE k hk).1));refine wD (fun st=>Ad (ee st dD) (JT _ _)) ?_;have hF:=((cK.ext bQ).gr bY (bR.nq 3 0));refine BI rfl rfl (fun st=>By (n:=1) (l:=[.slice jF ((aN++[(⟨bP.BV,aH.Lo,aH.Hi⟩:B7)]).length) jG]) (CB:= #[.slice b x.Ax.length c,.slice d x.AX.length f,.slice g x.AP.length i,I r.Flat,.slice a cD.length o,.slice j cC.length s,.slice jF ((aN++[(⟨bP.BV,aH.Lo,aH.Hi⟩:B7)]).length) jG]) (eR st) (eR st) WZ hF rfl rfl (show 6+1≤7 by decide) (Bh rfl) rfl) ?_;rintro _ m7 bS;have lZ:=bZ.gr bS.gr 3 rfl;refine Bj<|CU<|Al<|wM (v:=I bE) dE ?_;replace q:=AL q;obtain⟨l0,q⟩:=q;refine wD (fun st=>BL (eR st) (eR st) l0)<|wA (v:=I (bE+1)) rfl<|Bj ?_;have dF:=(((bO.ext bQ (Ac bQ)).gr bY (fun k hk=>bR.ne 1 0 rfl (congrArg some hk) rfl) (bR.CJ bY 0 rfl (fun k hk=>(eE k hk).1))).gr bS.gr (fun k hk=>bZ.ne 1 3 rfl (congrArg some hk) rfl) (bZ.BA bS.gr 3 rfl));have dQ:=(((bV.ext bQ (Ac bQ)).gr bY (fun k hk=>bR.ne 2 0 rfl (congrArg some hk) rfl) (bR.CJ bY 0 rfl (fun k hk=>(eE k hk).1))).gr bS.gr (fun k hk=>bZ.ne 2 3 rfl (congrArg some hk) rfl) (bZ.BA bS.gr 3 rfl));have iM:=(lY.gr bS.gr (fun k hk=>bZ.ne 0 3 rfl (congrArg some hk) rfl) (bZ.BA bS.gr 3 rfl));have jH:=(((cP.ext bQ).gr bY (bR.nq 5 0)).gr bS.gr (bZ.nq 5 3));have jI:=(((eY.ext bQ).gr bY (bR.nq 4 0)).gr bS.gr (bZ.nq 4 3));have ⟨hG,hH,hI,hJ,hL,hM,fJ,fK,fL⟩:=Nr f5 f6 f7 f8 f9 cL cT cU cV (mt (Ac bQ) (mt (bR.CJ bY 0 rfl (fun k hk=>(eE k hk).1)) (bZ.BA bS.gr 3 rfl)));refine Bv d4 (Nat.lt_succ_self _) (fun st=>?_);exact⟨(bE+1),(aN++[(⟨bP.BV,aH.Lo,aH.Hi⟩:B7)]),jF,jG,q,qo st,sp st 1 dC,sp st 2 f4,sp st 3 dD,sp st 6 rfl,lZ,dF,dQ,iM,jH,jI,bS.bk,hG,hH,hI,hJ,hL,hM,fJ,fK,fL⟩
     ·replace q:=Ao q eD;refine Aq rfl eD<|DG ?_;obtain rfl:=oi q;refine BF (fun st=>?_);exact⟨rfl,aE,bB,qo st,sp st 2 f4,sp st 3 dD,hD,bO,b6,bV,eY,cK,cT,cU,cV⟩
   case lJ=>
    rintro fQ mN mV (⟨rfl,aA,aG,jJ,e0,iN,bW,cZ,c0,dG,iO,gA,eK,eM,eN⟩);refine lf jJ<|Bd<|BM<|cr<|wD (fun st=>Ba (l:=[.slice b x.Ax.length c,.slice d x.AX.length f,.slice g x.AP.length i,I r.Flat,.slice a cD.length o,.slice j cC.length s,.slice aA z26.length aG]) Eh (ee st iN) gA rfl rfl)<|BI rfl rfl (fun st=>By (n:=7) (l:=[.slice b x.Ax.length c,.slice d x.AX.length f,.slice g x.AP.length i,I r.Flat,.slice a cD.length o,.slice j cC.length s,.slice aA z26.length aG]) (CB:= #[.slice b x.Ax.length c,.slice d x.AX.length f,.slice g x.AP.length i,I r.Flat,.slice a cD.length o,.slice j cC.length s,.slice aA z26.length aG]) (ee st e0) (eR st) T7 iO rfl rfl (show 0+7≤7 by decide) (Bh rfl) rfl) ?_;rintro _ m8 cB;have fM:=bW.gr cB.gr 4 rfl;refine wn<|Am ?_;obtain rfl:=oi q;refine GW (v:=.agg #[.slice b x.Ax.length c,.slice d x.AX.length f,.slice g x.AP.length i,I r.Flat,.slice a cD.length o,.slice j cC.length s,.slice aA z26.length aG]) rfl e0 (DN Eh cB.bk rfl rfl) ?_;have ⟨fN,fO,fP⟩:=Ez eK eM eN (bW.BA cB.gr 4 rfl);have dR:=(dG.gr cB.gr (fun k hk=>bW.ne 2 4 rfl (congrArg some hk) rfl) (bW.BA cB.gr 4 rfl));have dH:=(cZ.gr cB.gr (fun k hk=>bW.ne 1 4 rfl (congrArg some hk) rfl) (bW.BA cB.gr 4 rfl));have dI:=(c0.gr cB.gr (fun k hk=>bW.ne 0 4 rfl (congrArg some hk) rfl) (bW.BA cB.gr 4 rfl));exact⟨fM.Bf,⟨_,rfl,_,_,_,_,_,_,_,_,_,_,_,_,rfl,fN.mv (AU (BB [] trivial)),fO.mv (AU (BB [] trivial)),fP.mv (AU (BB [] trivial)),fM.Jn (M:=[]) 2 rfl [] rfl trivial dR,fM.Jn (M:=[]) 1 rfl [] rfl trivial dH,fM.Jn (M:=[]) 0 rfl [] rfl trivial dI⟩⟩
theorem Va aP i o c d e f(Z:Nat→Prop) w(aG:Sl (Ai .i64) w Z c d i)(aH:Sl (Ai .i64) w Z e f o) aQ(a:Dy aP i o=some aQ):
 BO Tryz.prog 41 #[.slice c i.length d,.slice e o.length f] w (fun v w'=>Ext w w'∧BE.R w' (zf Z w []) v aQ):=by
 unfold Dy at a;refine rq (N:=26) Tryz.func41 fun bF ha bG=>?_;have aD:=sA 0 ha;have aE:=sA 1 ha;clear ha;have aI:Hp FN [] w [] w:=Hp.start (BC.none w);have ⟨y,z⟩:=LO aG aH (Bz (Z:=Z) (L:=[]) w);refine cr<|wA (v:=.bool false) rfl<|wn<|Af<|cr<|wM (v:=.slice c i.length d) aD<|wD (fun st=>Br Tryz.underlying31 (eR st))<|wM (v:=.slice e o.length f) aE<|wD (fun st=>Br Tryz.underlying31 (eR st))<|wD (fun st=>D1 (eR st) (eR st))<|wn ?_;rcases Ae ((i.length:Int) !=(o.length:Int)) with r|r
 ·replace a:=An a r;refine Ah rfl r<|cr<|wA (v:=.bool false) rfl<|wn<|Am<|AG ?_;obtain rfl:=oi a;refine Av rfl rfl ?_;exact⟨aI.Bf,rfl⟩
 ·replace a:=Ao a r;refine Aq rfl r<|cn<|Af<|cr<|wA (v:=I 0) rfl<|wn<|AI ?_;replace a:=bind_some a;obtain⟨z2,m,a⟩:=a;refine BY (fun aM g aA=>(aM=.ret∧∃n,z2=.inl n∧Fo X0 26 g∧sl g 4=.bool n∧Hp FN [] w [] aA)∨(aM=.exit 0∧∃n,z2=.inr n∧Fo X0 26 g∧Hp FN [] w [] aA)) ?aR ?aS
  case aR=>
   clear a;refine BX (fun aN g aA=>∃b,HP i o aN b=some z2∧Fo X0 26 g∧sl g 0=.slice c i.length d∧sl g 1=.slice e o.length f∧sl g 5=I b∧Hp FN [] w [] aA∧Sl (Ai .i64) aA (zf Z w []) c d i∧Sl (Ai .i64) aA (zf Z w []) e f o) aP ?aT ?aU
   case aT=>
    intro st;exact⟨(0:Int),m,qo st,sp st 0 aD,sp st 1 aE,sp st 5 rfl,aI,y,z⟩
   case aU=>
    rintro(_|aN) bH bI ⟨b,m,aO,p,x,h,aJ,j,l⟩
    ·exact absurd (show none=some _ from m) (by simp)
    rw[HP.eq_2] at m;have a:=m;clear m;refine ro aO<|Af<|cr<|wM (v:=I b) h<|wM (v:=.slice c i.length d) p<|wD (fun st=>Br Tryz.underlying31 (eR st))<|wD (fun st=>B9 (eR st) (eR st))<|wn ?_;rcases Ae (decide (b<(i.length:Int))) with s|s
    ·replace a:=An a s;refine Ah rfl s<|cn<|Af<|AI<|Af ?_;replace a:=AT a;obtain⟨i5,aV,aW,aX,aY,a⟩:=a;obtain⟨bA,bB,_,aZ,rfl,a0⟩:=Sl.Cy j rfl aX;replace a:=AT a;obtain⟨i6,a2,a3,a4,a5,a⟩:=a;obtain⟨bC,bD,_,a7,rfl,a8⟩:=Sl.Cy l rfl a4;refine BU 8 [Kc (.slice c i.length d),Kc (I b),Kc (pt bA (bB+i5)),Kc (I aV),Kc (.slice e o.length f),Kc (I b),Kc (pt bC (bD+i6)),Kc (I a2)] mixed rfl rfl
         (Aa (oD (fun K=>Au (es ((K.out 0 rfl).trans p))))
         (Aa (oD (fun K=>Au (es ((K.out 5 rfl).trans h))))
         (Aa (oD (fun K=>Bi (k:=i5) Tryz.underlying31 CM (es (K.dq 0 17)) aZ (es (K.dq 1 18)) aW aY))
         (Aa (oD (fun K=>Bp Bg (es (K.dq 2 19)) (a0.mv (Ac K.AQ)) rfl))
         (Aa (oD (fun K=>Au (es ((K.out 1 rfl).trans x))))
         (Aa (oD (fun K=>Au (es ((K.out 5 rfl).trans h))))
         (Aa (oD (fun K=>Bi (k:=i6) Tryz.underlying31 CM (es (K.dq 4 21)) a7 (es (K.dq 5 22)) a3 a5))
         (Aa (oD (fun K=>Bp Bg (es (K.dq 6 23)) (a8.mv (Ac K.AQ)) rfl))
         (BS _))))))))) ?_
     intro bK;rintro _ rfl _ rfl _ rfl _ rfl _ rfl _ rfl _ rfl _ rfl aK;have aL:=aJ.ext aK;refine wD (fun st=>D1 (eR st) (eR st))<|wn ?_;rcases Ae (aV !=a2) with t|t
     ·replace a:=An a t;refine Ah rfl t<|cr<|wA (v:=.bool false) rfl<|wn<|Am<|CN<|AG ?_;obtain rfl:=oi a;refine BF (fun st=>?_);exact .inl ⟨rfl,false,rfl,qo st,sp st 4 rfl,aL⟩
     ·replace a:=Ao a t;refine Aq rfl t<|Cp<|CU<|Al<|wM (v:=I b) h ?_;replace a:=AL a;obtain⟨a9,a⟩:=a;refine wD (fun st=>BL (eR st) (eR st) a9)<|wA (v:=I (b+1)) rfl<|Bj ?_;have ⟨aB,aC⟩:=LO j l (Ac aK);refine Bv aN (Nat.lt_succ_self _) (fun st=>?_);exact⟨(b+1),a,qo st,sp st 0 p,sp st 1 x,sp st 5 rfl,aL,aB,aC⟩
    ·replace a:=Ao a s;refine Aq rfl s<|DG ?_;obtain rfl:=oi a;refine BF (fun st=>?_);exact .inr ⟨rfl,(),rfl,qo st,aJ⟩
  case aS=>
   rintro aM bE bJ (⟨rfl,n,rfl,q,aF,u⟩|⟨rfl,n,rfl,q,u⟩)
   ·skip
    replace a:=C4 a;refine lf q<|CN ?_;obtain rfl:=oi a;refine Av rfl aF ?_;exact⟨u.Bf,rfl⟩
   ·skip
    replace a:=C5 a;refine lf q<|Bd<|BM<|cr<|wA (v:=.bool true) rfl<|wn<|Am ?_;obtain rfl:=oi a;refine Av rfl rfl ?_;exact⟨u.Bf,rfl⟩
theorem a36 aQ a f g h i j k m n o p q r(Z:Nat→Prop) w(aD:Sl AA w Z f g a.Ak)(aE:Sl (BH (Ai .i64)) w Z h i a.Ab)(aF:Sl AH w Z j k a.Aw)(aG:Sl AZ w Z m n a.AB)(aH:Sl Bb w Z o p a.AF)(aI:Sl Bq w Z q r a.AM) aR(b:HI aQ a=some aR):
 BO Tryz.prog 36 #[.agg (Ay f g h i j k m n o p q r a).toArray] w (fun v w'=>Ext w w'∧BE.R w' (zf Z w []) v aR):=by
 unfold HI at b;refine rq (N:=24) Tryz.func36 fun aV ha aW=>?_;have aL:=sA 0 ha;clear ha;have aJ:Hp FN [] w [] w:=Hp.start (BC.none w);have ⟨x,y,z,aN,aO,aP⟩:=CA aD aE aF aG aH aI (Bz (Z:=Z) (L:=[]) w);refine cr<|wE (fun st=>BN (v:=.agg (Ay f g h i j k m n o p q r a).toArray) (cs:=(Ay f g h i j k m n o p q r a).toArray) (ee st aL) rfl) ?_;rintro _ w1 ⟨b1,rfl,t⟩;have aS:=aJ.nb t;have aU:=aJ.BJ t;refine wA (v:=.bool false) rfl<|wr<|wD (fun st=>Ad (eR st) (ER _ _))<|wD (fun st=>Ba (l:=[.slice f a.Ak.length g,.slice h a.Ab.length i,.slice j a.Aw.length k]) H2 (eR st) t.bk rfl rfl) ?_;have ⟨aA,aB,aC⟩:=Ez x y z (Az t);replace b:=bind_some b;obtain⟨aM,aT,b⟩:=b;refine wE (fun st=>Aj Aah (eR st) (Ck (eR st)) (a23 aQ (⟨a.Ak,a.Ab,a.Aw⟩:Be) f g h i j k ZA _ aA.all aB.all aC.all aM aT)) ?_;rintro _ aX ⟨aK,rfl⟩;have u:=aS.ext aK;refine wM (v:=.bool aM) rfl ?_;rcases Ae (aM) with c|c
 ·replace b:=An b c;refine wG c (fun st=>Ad (eR st) (Gl _ _)) ?_;have s:=(t.bk.ext aK);refine wG c (fun st=>Ag (v:=.slice m a.AB.length n) Hf (eR st) s rfl)<|wG c (fun st=>Br Tryz.underlying63 (eR st))<|wG c (fun st=>HN (eR st) (eR st))<|wD (fun st=>AY (v:=.bool (decide ((a.AB.length:Int)≤5))) (eR st) c (eR st))<|wM (v:=.bool (decide ((a.AB.length:Int)≤5))) rfl ?_;rcases Ae (decide ((a.AB.length:Int)≤5)) with d|d
  ·replace b:=An b d;refine wG d (fun st=>Ad (eR st) (Gm _ _))<|wG d (fun st=>Ag (v:=.slice o a.AF.length p) Hg (eR st) s rfl)<|wG d (fun st=>Br Tryz.underlying64 (eR st))<|wG d (fun st=>HN (eR st) (eR st))<|wD (fun st=>AY (v:=.bool (decide ((a.AF.length:Int)≤5))) (eR st) d (eR st))<|wM (v:=.bool (decide ((a.AF.length:Int)≤5))) rfl ?_;rcases Ae (decide ((a.AF.length:Int)≤5)) with e|e
   ·replace b:=An b e;refine wG e (fun st=>Ad (eR st) (H7 _ _))<|wG e (fun st=>Ag (v:=.slice q a.AM.length r) IV (eR st) s rfl)<|wG e (fun st=>Br Tryz.underlying65 (eR st))<|wG e (fun st=>HN (eR st) (eR st))<|wD (fun st=>AY (v:=.bool (decide ((a.AM.length:Int)≤7))) (eR st) e (eR st))<|wA (v:=.bool (decide ((a.AM.length:Int)≤7))) rfl<|wn<|Am ?_;obtain rfl:=oi b;refine Av rfl rfl ?_;exact⟨u.Bf,rfl⟩
   ·replace b:=Ao b e;refine wF e<|wF e<|wF e<|wF e<|wD (fun st=>Bs (v:=.bool false) (eR st) e (eR st))<|wA (v:=.bool false) rfl<|wn<|Am ?_;obtain rfl:=oi b;refine Av rfl rfl ?_;exact⟨u.Bf,rfl⟩
  ·replace b:=Ao b d;refine wF d<|wF d<|wF d<|wF d<|wD (fun st=>Bs (v:=.bool false) (eR st) d (eR st))<|wM (v:=.bool false) rfl<|wH<|wH<|wH<|wH<|wD (fun st=>Bs (v:=.bool false) (eR st) rfl (eR st))<|wA (v:=.bool false) rfl<|wn<|Am ?_;obtain rfl:=oi b;refine Av rfl rfl ?_;exact⟨u.Bf,rfl⟩
 ·replace b:=Ao b c;refine wF c<|wF c<|wF c<|wF c<|wD (fun st=>Bs (v:=.bool false) (eR st) c (eR st))<|wM (v:=.bool false) rfl<|wH<|wH<|wH<|wH<|wD (fun st=>Bs (v:=.bool false) (eR st) rfl (eR st))<|wM (v:=.bool false) rfl<|wH<|wH<|wH<|wH<|wD (fun st=>Bs (v:=.bool false) (eR st) rfl (eR st))<|wA (v:=.bool false) rfl<|wn<|Am ?_;obtain rfl:=oi b;refine Av rfl rfl ?_;exact⟨u.Bf,rfl⟩
theorem Vb o a b(Z:Nat→Prop) w h(i:DD o a b=some h):
 BO Tryz.prog 57 #[I a,I b] w (fun v w'=>Ext w w'∧(DJ AA).R w' (zf Z w []) v h):=by
 unfold DD at i;refine rq (N:=8) Tryz.func57 fun p ha q=>?_;have f:=sA 0 ha;have g:=sA 1 ha;clear ha;have d:Hp FN [] w [] w:=Hp.start (BC.none w);refine cr<|wE (fun st=>B8 (cs:= #[I 0,I 0]) JR rfl) ?_;rintro _ w1 ⟨b1,rfl,c⟩;have j:=d.nb c;have m:=d.BJ c;refine wr<|wM (v:=I a) f<|wM (v:=I b) g<|wD (fun st=>DS (vs:= #[(0,I a),(1,I b)]) (v:=.agg #[I a,I b]) (HO (eR st) (eR st)) (by kernel_rfl))<|BI rfl rfl (fun st=>By (n:=2) (l:=[I a,I b]) (CB:= #[I a,I b]) (eR st) (eR st) Hs c.bk rfl rfl (show 0+2≤2 by decide) (Bh rfl) rfl) ?_;rintro _ w2 e;have k:=j.gr e.gr 0 rfl;refine wn<|Am ?_;obtain rfl:=oi i;refine GW (v:=.agg #[I a,I b]) rfl rfl (DN GS e.bk rfl rfl) ?_;exact⟨k.Bf,⟨_,rfl,rfl⟩⟩
theorem Qu bL aD(Z:Nat→Prop) w bP(p:Cv bL aD=some bP):
 BO Tryz.prog 88 #[I aD] w (fun v w'=>Ext w w'∧(DJ PB).R w' (zf Z w []) v bP):=by
 unfold Cv at p;refine rq (N:=29) Tryz.func88 fun bX ha bY=>?_;have bM:=sA 0 ha;clear ha;have bD:Hp FN [] w [] w:=Hp.start (BC.none w);refine cr<|wE (fun st=>B8 (cs:= #[.slice none 0 0,.slice none 0 0,.slice none 0 0,I 0,.slice none 0 0,.slice none 0 0,.slice none 0 0]) P1 rfl) ?_;rintro _ w1 ⟨b1,rfl,aQ⟩;have bE:=bD.nb aQ;have bU:=bD.BJ aQ;refine wr<|wD (fun st=>DS (vs:= #[(0,I 40),(1,I 42)]) (v:=.agg #[I 40,I 42]) (HO (eR st) (eR st)) (by kernel_rfl))<|wD (fun st=>DS (vs:= #[(0,I 60),(1,I 63)]) (v:=.agg #[I 60,I 63]) (HO (eR st) (eR st)) (by kernel_rfl))<|wE (fun st=>BR (e:=131) (vs:= #[(0,.agg #[I 40,I 42]),(1,.agg #[I 60,I 63])]) (cs:= #[I 40,I 42,I 60,I 63]) (HO (eR st) (eR st)) (by kernel_rfl)) ?_;rintro _ w2 ⟨b2,rfl,aM⟩;have bF:=bE.nb aM;have a7:=bE.BJ aM;refine wE (fun st=>BR (e:=3) (vs:= #[(0,I 10),(1,I 10)]) (cs:= #[I 10,I 10]) (HO (eR st) (eR st)) (by kernel_rfl)) ?_;rintro _ b5 ⟨b3,rfl,aH⟩;have bG:=bF.nb aH;have a8:=bF.BJ aH;refine wE (fun st=>BR (e:=3) (vs:= #[(0,I 5),(1,I 15)]) (cs:= #[I 5,I 15]) (HO (eR st) (eR st)) (by kernel_rfl)) ?_;rintro _ b6 ⟨t,rfl,aB⟩;have bH:=bG.nb aB;have a9:=bG.BJ aB;refine wE (fun st=>BR (e:=31) (vs:= #[(0,.slice (some ⟨b3,0,none⟩) 2 2),(1,.slice (some ⟨t,0,none⟩) 2 2)]) (cs:= #[.slice (some ⟨b3,0,none⟩) 2 2,.slice (some ⟨t,0,none⟩) 2 2]) (HO (eR st) (eR st)) (by kernel_rfl)) ?_;rintro _ b7 ⟨f,rfl,x⟩;have bI:=bH.nb x;have bA:=bH.BJ x;refine wD (fun st=>DS (vs:= #[(0,.slice (some ⟨b2,0,none⟩) 2 2),(1,.slice (some ⟨f,0,none⟩) 2 2)]) (v:=.agg #[.slice (some ⟨b2,0,none⟩) 2 2,.slice (some ⟨f,0,none⟩) 2 2,.slice none 0 0]) (HO (eR st) (eR st)) (by kernel_rfl))<|wE (fun st=>B8 (cs:= #[.slice none 0 0,.slice none 0 0,.slice none 0 0]) P0 rfl) ?_;rintro _ b8 ⟨aI,rfl,s⟩;have aC:=bI.nb s;have bV:=bI.BJ s;refine BI rfl rfl (fun st=>By (n:=3) (l:=[.slice (some ⟨b2,0,none⟩) 2 2,.slice (some ⟨f,0,none⟩) 2 2,.slice none 0 0]) (CB:= #[.slice (some ⟨b2,0,none⟩) 2 2,.slice (some ⟨f,0,none⟩) 2 2,.slice none 0 0]) (eR st) (eR st) W0 s.bk rfl rfl (show 0+3≤3 by decide) (Bh rfl) rfl) ?_;rintro _ b9 y;have bQ:=aC.gr y.gr 0 rfl;refine wn<|Af<|Al ?_;replace p:=bind_some p;obtain⟨b,bR,p⟩:=p;refine wE (fun st=>Aj NH (eR st) (Ci (eR st) (eR st)) (Vb bL 80 80 ZA _ b bR)) ?_;rintro _ cA ⟨z,⟨_,rfl,rfl⟩⟩;have bS:=bQ.ext z;refine wD (fun st=>DS (vs:= #[(1,.agg #[I b.Lo,I b.Hi])]) (v:=.agg #[I 0,I b.Lo,I b.Hi]) (Ik (eR st)) (by kernel_rfl)) ?_;replace p:=bind_some p;obtain⟨a,bN,p⟩:=p;refine wE (fun st=>Aj NH (eR st) (Ci (eR st) (eR st)) (Vb bL 40 40 ZA _ a bN)) ?_;rintro _ bZ ⟨m,⟨_,rfl,rfl⟩⟩;have bJ:=bS.ext m;refine wD (fun st=>DS (vs:= #[(1,.agg #[I a.Lo,I a.Hi])]) (v:=.agg #[I 0,I a.Lo,I a.Hi]) (Ik (eR st)) (by kernel_rfl))<|wE (fun st=>BR (e:=136) (vs:= #[(0,.agg #[I 0,I b.Lo,I b.Hi]),(1,.agg #[I 0,I a.Lo,I a.Hi])]) (cs:= #[I 0,I b.Lo,I b.Hi,I 0,I a.Lo,I a.Hi]) (HO (eR st) (eR st)) (by kernel_rfl)) ?_;rintro _ bT ⟨aR,rfl,g⟩;have aS:=bJ.nb g;have aT:=bJ.BJ g;refine wA (v:=.slice (some ⟨aR,0,none⟩) 2 2) rfl<|wn<|Af ?_;have aJ:=aS.erase 0;have aN:=g.bk;have aU:Sl Bq bT (zf Z w [some aI,some f,some t,some b3,some b2,some b1]) (some ⟨aR,0,none⟩) 2 [(⟨0,b.Lo,b.Hi⟩:B7),(⟨0,a.Lo,a.Hi⟩:B7)]:=Gp (e:=Bq) (xs:=[(⟨0,b.Lo,b.Hi⟩:B7),(⟨0,a.Lo,a.Hi⟩:B7)]) (BG:=[[I 0,I b.Lo,I b.Hi],[I 0,I a.Lo,I a.Hi]]) aN (aS.lit 0 rfl aT) ⟨rfl,rfl,trivial⟩ rfl (Nat.le_refl _);have aV:=(((y.bk.ext z).ext m).ext g.gr);replace p:=Lc p;obtain⟨bO,p⟩:=p;refine BU 11 [Kc (.agg #[.slice (some ⟨b2,0,none⟩) 2 2,.slice (some ⟨f,0,none⟩) 2 2,.slice none 0 0]),Kc (.agg #[I 55,I 6]),Kc (.agg #[I 51,I 4]),Kc (.agg #[I 40,I 2]),Kv (FE AZ) (zf Z w [some aI,some f,some t,some b3,some b2,some b1]) [(⟨55,6⟩:BK),(⟨51,4⟩:BK),(⟨40,2⟩:BK)],Kc (.agg #[I 0,I 20]),Kc (.agg #[I 1,I 10]),Kv (FE Bb) (zf Z w [some aI,some f,some t,some b3,some b2,some b1]) [(⟨0,20⟩:BZ),(⟨1,10⟩:BZ)],Kc (.slice (some ⟨aR,0,none⟩) 2 2),Kc (I aD),Kv (FE Bq) (zf Z w [some aI,some f,some t,some b3,some b2,some b1]) (FF [(⟨0,b.Lo,b.Hi⟩:B7),(⟨0,a.Lo,a.Hi⟩:B7)] (0:Int) aD)] mixed rfl rfl
     (Aa (oD (fun K=>Ba (l:=[.slice (some ⟨b2,0,none⟩) 2 2,.slice (some ⟨f,0,none⟩) 2 2,.slice none 0 0]) H0 (K.kO 3) (aV.ext K.AQ) rfl rfl))
     (Aa (oD (fun K=>DS (vs:= #[(0,I 55),(1,I 6)]) (v:=.agg #[I 55,I 6]) (HO (ec (v:=I 55)) (ec (v:=I 6))) (by kernel_rfl)))
     (Aa (oD (fun K=>DS (vs:= #[(0,I 51),(1,I 4)]) (v:=.agg #[I 51,I 4]) (HO (ec (v:=I 51)) (ec (v:=I 4))) (by kernel_rfl)))
     (Aa (oD (fun K=>DS (vs:= #[(0,I 40),(1,I 2)]) (v:=.agg #[I 40,I 2]) (HO (ec (v:=I 40)) (ec (v:=I 2))) (by kernel_rfl)))
     (Aa (IM rfl rfl (fun a' w' ph K=>(BR (e:=48) (vs:= #[(0,.agg #[I 55,I 6]),(1,.agg #[I 51,I 4]),(2,.agg #[I 40,I 2])]) (cs:= #[I 55,I 6,I 51,I 4,I 40,I 2]) (pm3 (es (K.dq 1 18)) (es (K.dq 2 19)) (es (K.dq 3 20))) (by kernel_rfl)).mono (fun u BD ⟨bW,hu,aE⟩=>⟨⟨_,_,hu,Gp (xs:=[(⟨55,6⟩:BK),(⟨51,4⟩:BK),(⟨40,2⟩:BK)]) (BG:=[[I 55,I 6],[I 51,I 4],[I 40,I 2]]) aE.bk ((aJ.ext K.AQ).kn (Nat.le_of_eq aE.Fq.symm)) (R2.mv (Ac aE.gr) (show R2 AZ w' (zf Z w [some aI,some f,some t,some b3,some b2,some b1]) [[I 55,I 6],[I 51,I 4],[I 40,I 2]] [(⟨55,6⟩:BK),(⟨51,4⟩:BK),(⟨40,2⟩:BK)] from⟨rfl,rfl,rfl,trivial⟩)) rfl (Nat.le_refl _)⟩,aE.gr⟩)))
     (Aa (oD (fun K=>DS (vs:= #[(0,I 0),(1,I 20)]) (v:=.agg #[I 0,I 20]) (HO (ec (v:=I 0)) (ec (v:=I 20))) (by kernel_rfl)))
     (Aa (oD (fun K=>DS (vs:= #[(0,I 1),(1,I 10)]) (v:=.agg #[I 1,I 10]) (HO (ec (v:=I 1)) (ec (v:=I 10))) (by kernel_rfl)))
     (Aa (IM rfl rfl (fun a' w' ph K=>(BR (e:=134) (vs:= #[(0,.agg #[I 0,I 20]),(1,.agg #[I 1,I 10])]) (cs:= #[I 0,I 20,I 1,I 10]) (HO (es (K.dq 5 22)) (es (K.dq 6 23))) (by kernel_rfl)).mono (fun u BD ⟨bW,hu,aE⟩=>⟨⟨_,_,hu,Gp (xs:=[(⟨0,20⟩:BZ),(⟨1,10⟩:BZ)]) (BG:=[[I 0,I 20],[I 1,I 10]]) aE.bk ((aJ.ext K.AQ).kn (Nat.le_of_eq aE.Fq.symm)) (R2.mv (Ac aE.gr) (show R2 Bb w' (zf Z w [some aI,some f,some t,some b3,some b2,some b1]) [[I 0,I 20],[I 1,I 10]] [(⟨0,20⟩:BZ),(⟨1,10⟩:BZ)] from⟨rfl,rfl,trivial⟩)) rfl (Nat.le_refl _)⟩,aE.gr⟩)))
     (Aa (oD (fun K=>Au (K.kO 4)))
     (Aa (oD (fun K=>Au (es ((K.out 0 rfl).trans bM))))
     (Aa (oE (fun K=>(Re (e:=Bq) (Z:=_) (xs:=[(⟨0,b.Lo,b.Hi⟩:B7),(⟨0,a.Lo,a.Hi⟩:B7)]) Tryz.underlying51 ND rfl (es (K.dq 8 25)) Rc (TU (es (K.dq 9 26))) (aU.mv (Ac K.AQ)) bO).mono (fun u BD ⟨h1,h2⟩=>by subst h2;exact⟨h1,Ext.refl _⟩)))
     (BS _)))))))))))) ?_
 intro b4;rintro _ rfl _ rfl _ rfl _ rfl _ ⟨h,i,rfl,aO⟩ _ rfl _ rfl _ ⟨j,k,rfl,aP⟩ _ rfl _ rfl _ ⟨c,d,rfl,aK⟩ q;have r:=aJ.ext q;refine wD (fun st=>DS (vs:= #[(0,.agg #[.slice (some ⟨b2,0,none⟩) 2 2,.slice (some ⟨f,0,none⟩) 2 2,.slice none 0 0]),(1,I 3),(2,.slice h ([(⟨55,6⟩:BK),(⟨51,4⟩:BK),(⟨40,2⟩:BK)].length) i),(3,.slice j ([(⟨0,20⟩:BZ),(⟨1,10⟩:BZ)].length) k),(4,.slice c ((FF [(⟨0,b.Lo,b.Hi⟩:B7),(⟨0,a.Lo,a.Hi⟩:B7)] (0:Int) aD).length) d)]) (v:=.agg #[.slice (some ⟨b2,0,none⟩) 2 2,.slice (some ⟨f,0,none⟩) 2 2,.slice none 0 0,I 3,.slice h ([(⟨55,6⟩:BK),(⟨51,4⟩:BK),(⟨40,2⟩:BK)].length) i,.slice j ([(⟨0,20⟩:BZ),(⟨1,10⟩:BZ)].length) k,.slice c ((FF [(⟨0,b.Lo,b.Hi⟩:B7),(⟨0,a.Lo,a.Hi⟩:B7)] (0:Int) aD).length) d]) (pm5 (eR st) (eR st) (eR st) (eR st) (eR st)) (by kernel_rfl)) ?_;have aW:=((((((((((aQ.bk.ext aM.gr).ext aH.gr).ext aB.gr).ext x.gr).ext s.gr).gr y.gr (aC.nq 5 0)).ext z).ext m).ext g.gr).ext q);refine BI rfl rfl (fun st=>By (n:=7) (l:=[.slice (some ⟨b2,0,none⟩) 2 2,.slice (some ⟨f,0,none⟩) 2 2,.slice none 0 0,I 3,.slice h ([(⟨55,6⟩:BK),(⟨51,4⟩:BK),(⟨40,2⟩:BK)].length) i,.slice j ([(⟨0,20⟩:BZ),(⟨1,10⟩:BZ)].length) k,.slice c ((FF [(⟨0,b.Lo,b.Hi⟩:B7),(⟨0,a.Lo,a.Hi⟩:B7)] (0:Int) aD).length) d]) (CB:= #[.slice (some ⟨b2,0,none⟩) 2 2,.slice (some ⟨f,0,none⟩) 2 2,.slice none 0 0,I 3,.slice h ([(⟨55,6⟩:BK),(⟨51,4⟩:BK),(⟨40,2⟩:BK)].length) i,.slice j ([(⟨0,20⟩:BZ),(⟨1,10⟩:BZ)].length) k,.slice c ((FF [(⟨0,b.Lo,b.Hi⟩:B7),(⟨0,a.Lo,a.Hi⟩:B7)] (0:Int) aD).length) d]) (eR st) (eR st) T7 aW rfl rfl (show 0+7≤7 by decide) (Bh rfl) rfl) ?_;rintro _ bK o;have aX:=r.gr o.gr 5 rfl;refine wn<|Am ?_;have aY:=aX.erase 3;have aZ:=(((((((((aH.bk.ext aB.gr).ext x.gr).ext s.gr).gr y.gr (aC.nq 3 0)).ext z).ext m).ext g.gr).ext q).gr o.gr (r.nq 3 5));have bB:Sl (Ai .i64) bK (zf Z w [some aI,some f,some t,some b2,some b1]) (some ⟨b3,0,none⟩) 2 [10,10]:=Gp (e:=(Ai .i64)) (xs:=[10,10]) (BG:=[[I 10],[I 10]]) aZ (aX.lit 3 rfl a8) ⟨rfl,rfl,trivial⟩ rfl (Nat.le_refl _);have aL:=aY.erase 2;have a0:=((((((((aB.bk.ext x.gr).ext s.gr).gr y.gr (aC.nq 2 0)).ext z).ext m).ext g.gr).ext q).gr o.gr (r.nq 2 5));have bC:Sl (Ai .i64) bK (zf Z w [some aI,some f,some b2,some b1]) (some ⟨t,0,none⟩) 2 [5,15]:=Gp (e:=(Ai .i64)) (xs:=[5,15]) (BG:=[[I 5],[I 15]]) a0 (aY.lit 2 rfl a9) ⟨rfl,rfl,trivial⟩ rfl (Nat.le_refl _);obtain rfl:=oi p;have a2:=o.bk;refine GW (v:=.agg #[.slice (some ⟨b2,0,none⟩) 2 2,.slice (some ⟨f,0,none⟩) 2 2,.slice none 0 0,I 3,.slice h ([(⟨55,6⟩:BK),(⟨51,4⟩:BK),(⟨40,2⟩:BK)].length) i,.slice j ([(⟨0,20⟩:BZ),(⟨1,10⟩:BZ)].length) k,.slice c ((FF [(⟨0,b.Lo,b.Hi⟩:B7),(⟨0,a.Lo,a.Hi⟩:B7)] (0:Int) aD).length) d]) rfl rfl (DN Eh a2 rfl rfl) ?_;have a3:=((((((((((aM.bk.ext aH.gr).ext aB.gr).ext x.gr).ext s.gr).gr y.gr (aC.nq 4 0)).ext z).ext m).ext g.gr).ext q).gr o.gr (r.nq 4 5));have a4:=(((((((x.bk.ext s.gr).gr y.gr (aC.nq 1 0)).ext z).ext m).ext g.gr).ext q).gr o.gr (r.nq 1 5));have a5:=(bB.mv (AD 2));have ⟨aF,aG,aA⟩:=Ez aO aP aK (mt (r.BA o.gr 5 rfl) (mt (AD 3) (AD 2)));exact⟨aL.Bf,⟨_,rfl,_,_,_,_,_,_,_,_,_,_,_,_,rfl,Gp (e:=AA) (Z:=zf Z w []) (xs:=[(⟨40,42⟩:AN),(⟨60,63⟩:AN)]) (BG:=[[I 40,I 42],[I 60,I 63]]) a3 (.inr ⟨a7,fun hm=>aL.CI (F':=FN) (M:=[]) 2 rfl [] rfl trivial eL (.inr hm)⟩) ⟨rfl,rfl,trivial⟩ rfl (Nat.le_refl _),Gp (e:=(BH (Ai .i64))) (Z:=zf Z w []) (xs:=[[10,10],[5,15]]) (BG:=[[.slice (some ⟨b3,0,none⟩) 2 2],[.slice (some ⟨t,0,none⟩) 2 2]]) a4 (.inr ⟨bA,fun hm=>aL.CI (F':=FN) (M:=[]) 1 rfl [] rfl trivial eL (.inr hm)⟩) ⟨⟨_,_,rfl,(a5.mv (AU (BB [] trivial)))⟩,⟨_,_,rfl,(bC.mv (AU (BB [] trivial)))⟩,trivial⟩ rfl (Nat.le_refl _),Sl.nil _ _ _,aF.mv (AU (BB [] trivial)),aG.mv (AU (BB [] trivial)),aA.mv (AU (BB [] trivial))⟩⟩
theorem a48 aV p a b c d e f g h i j k m(Z:Nat→Prop) w(aM:Sl AA w Z a b p.Ak)(aN:Sl (BH (Ai .i64)) w Z c d p.Ab)(aO:Sl AH w Z e f p.Aw)(aP:Sl AZ w Z g h p.AB)(aQ:Sl Bb w Z i j p.AF)(aR:Sl Bq w Z k m p.AM) aZ(o:EX aV p=some aZ):
 BO Tryz.prog 48 #[.agg (Ay a b c d e f g h i j k m p).toArray] w (fun v w'=>Ext w w'∧BE.R w' (zf Z w []) v aZ):=by
 unfold EX at o;refine rq (N:=10) Tryz.func48 fun a8 ha a9=>?_;have aW:=sA 0 ha;clear ha;have aT:Hp FN [] w [] w:=Hp.start (BC.none w);have ⟨z,aA,aB,aC,aD,aE⟩:=CA aM aN aO aP aQ aR (Bz (Z:=Z) (L:=[]) w);refine cr<|wE (fun st=>BN (v:=.agg (Ay a b c d e f g h i j k m p).toArray) (cs:=(Ay a b c d e f g h i j k m p).toArray) (ee st aW) rfl) ?_;rintro _ w1 ⟨b1,rfl,y⟩;have a0:=aT.nb y;have a7:=aT.BJ y;refine wA (v:=.bool false) rfl<|wr<|wD (fun st=>Ba (l:=(Ay a b c d e f g h i j k m p)) E6 (eR st) y.bk rfl rfl) ?_;have ⟨q,r,s,t,u,x⟩:=CA z aA aB aC aD aE (Az y);replace o:=bind_some o;obtain⟨aX,a2,o⟩:=o;refine wE (fun st=>Aj Aai (eR st) (Ck (eR st)) (a36 aV p a b c d e f g h i j k m ZA _ q.all r.all s.all t.all u.all x.all aX a2)) ?_;rintro _ bA ⟨aL,rfl⟩;have aU:=a0.ext aL;refine wM (v:=.bool aX) rfl ?_;rcases Ae (aX) with n|n
 ·replace o:=An o n;have aS:=(y.bk.ext aL);refine wG n (fun st=>Ba (l:=(Ay a b c d e f g h i j k m p)) E6 (eR st) aS rfl rfl) ?_;have ⟨aF,aG,aH,aI,aJ,aK⟩:=CA q r s t u x (Ac aL);replace o:=bind_some o;obtain⟨aY,a3,o⟩:=o;refine wX n (fun st=>Aj Zb (eR st) (Ck (eR st)) (a116 aV p a b c d e f g h i j k m ZA _ aF.all aG.all aH.all aI.all aJ.all aK.all aY a3)) ?_;rintro _ bB ⟨a4,rfl⟩;have a5:=aU.ext a4;refine wG n (fun st=>Dp (eR st) (eR st))<|wD (fun st=>AY (v:=.bool (aY==0)) (eR st) n (eR st))<|wA (v:=.bool (aY==0)) rfl<|wn<|Am ?_;obtain rfl:=oi o;refine Av rfl rfl ?_;exact⟨a5.Bf,rfl⟩
 ·replace o:=Ao o n;refine wF n<|wF n<|wF n<|wD (fun st=>Bs (v:=.bool false) (eR st) n (eR st))<|wA (v:=.bool false) rfl<|wn<|Am ?_;obtain rfl:=oi o;refine Av rfl rfl ?_;exact⟨aU.Bf,rfl⟩
set_option maxHeartbeats 4000000 in
theorem a37 i(Z:Nat→Prop) w(a:Cq i=some true):
 BO Tryz.prog 37 #[] w (fun v w'=>Ext w w'∧v=.bool true):=by
 unfold Cq at a;refine rq (N:=148) Tryz.func37 fun jM ha jN=>?_;clear ha;have hN:Hp FN [] w [] w:=Hp.start (BC.none w);refine cr<|wA (v:=.bool false) rfl<|wn<|Af<|Al ?_;replace a:=bind_some a;obtain⟨i5,i6,a⟩:=a;refine wE (fun st=>Aj Lg (eR st) (Ck (eR st)) (Qu i 0 (zf Z w []) _ i5 i6)) ?_;rintro _ w2 ⟨i7,⟨_,rfl,⟨gF,gG,gH,gI,gJ,gK,gL,gM,gN,gO,gP,gQ,rfl,b5,b6,b7,b8,b9,cA⟩⟩⟩;have hO:=hN.ext i7;have ⟨b5,b6,b7,b8,b9,cA⟩:=CA b5 b6 b7 b8 b9 cA (hN.DR (Nat.le_refl _));refine wE (fun st=>BR (e:=3) (vs:= #[(0,I 41),(1,I 62)]) (cs:= #[I 41,I 62]) (HO (eR st) (eR st)) (by kernel_rfl)) ?_;rintro _ jL ⟨b3,rfl,d9⟩;have hP:=hO.nb d9;have hH:=hO.BJ d9;have hQ:=hP.erase 0;have hI:=d9.bk;have hJ:Sl (Ai .i64) jL (zf Z w []) (some ⟨b3,0,none⟩) 2 [41,62]:=Gp (e:=(Ai .i64)) (xs:=[41,62]) (BG:=[[I 41],[I 62]]) hI (hP.lit 0 rfl hH) ⟨rfl,rfl,trivial⟩ rfl (Nat.le_refl _);have ⟨dU,dV,dW,dX,dY,dZ⟩:=CA b5 b6 b7 b8 b9 cA (mt (Az d9) (AD 0));replace a:=bind_some a;obtain⟨cB,i8,a⟩:=a;refine wE (fun st=>Aj Aaj (eR st) (Ci (eR st) (eR st)) (a32 i i5 [41,62] gF gG gH gI gJ gK gL gM gN gO gP gQ (some ⟨b3,0,none⟩) 2 (zf Z w []) _ dU dV dW dX dY dZ hJ cB i8)) ?_;rintro _ j5 ⟨i9,⟨_,_,rfl,⟨bZ,b4,rfl,c6⟩,rfl⟩⟩;have hR:=hQ.ext i9;have c6:=c6.mv (hQ.DR (Nat.le_refl _));refine wM (v:=.tuple #[.slice bZ cB.1.length b4,I cB.2]) rfl<|wD (fun st=>Bw (v:=.slice bZ cB.1.length b4) (eR st) rfl)<|wD (fun st=>Bw (v:=I cB.2) (eR st) rfl)<|wA (v:=.slice bZ cB.1.length b4) rfl<|wA (v:=I cB.2) rfl<|wn<|Af<|Al ?_;replace a:=bind_some a;obtain⟨jA,jB,a⟩:=a;refine wE (fun st=>Aj Lg (eR st) (Ck (eR st)) (Qu i 0 (zf Z w []) _ jA jB)) ?_;rintro _ j6 ⟨hS,⟨_,rfl,⟨gR,gS,gT,gU,gV,gW,gX,gY,gZ,g0,g1,g2,rfl,cC,cD,cE,cF,cG,cH⟩⟩⟩;have hT:=hR.ext hS;have ⟨cC,cD,cE,cF,cG,cH⟩:=CA cC cD cE cF cG cH (hR.DR (Nat.le_refl _));replace a:=bind_some a;obtain⟨s,jC,a⟩:=a;refine wE (fun st=>Aj U6 (eR st) (Ck (eR st)) (a33 i jA gR gS gT gU gV gW gX gY gZ g0 g1 g2 (zf Z w []) _ cC cD cE cF cG cH s jC)) ?_;rintro _ j7 ⟨hU,⟨_,_,rfl,⟨aK,aL,rfl,c7⟩,rfl⟩⟩;have hV:=hT.ext hU;have c7:=c7.mv (hT.DR (Nat.le_refl _));refine wM (v:=.tuple #[.slice aK s.1.length aL,I s.2]) rfl<|wD (fun st=>Bw (v:=.slice aK s.1.length aL) (eR st) rfl)<|wD (fun st=>Bw (v:=I s.2) (eR st) rfl)<|wA (v:=.slice aK s.1.length aL) rfl<|wA (v:=I s.2) rfl<|wn<|Af<|Al ?_;replace a:=bind_some a;obtain⟨hW,h7,a⟩:=a;refine wE (fun st=>Aj Lg (eR st) (Ck (eR st)) (Qu i 0 (zf Z w []) _ hW h7)) ?_;rintro _ jO ⟨d5,⟨_,rfl,⟨eA,eB,eC,eD,eE,eF,eG,eH,eI,eJ,eK,eM,rfl,aM,aN,aO,aP,aQ,aR⟩⟩⟩;have hX:=hV.ext d5;have ⟨aM,aN,aO,aP,aQ,aR⟩:=CA aM aN aO aP aQ aR (hV.DR (Nat.le_refl _));refine wE (fun st=>BR (e:=3) (vs:= #[(0,I 0),(1,I 1)]) (cs:= #[I 0,I 1]) (HO (eR st) (eR st)) (by kernel_rfl)) ?_;rintro _ jP ⟨d,rfl,cI⟩;have jD:=hX.nb cI;have jE:=hX.BJ cI;have ⟨dH,dI,dJ,dK,dL,dM⟩:=CA aM aN aO aP aQ aR (Az cI);replace a:=bind_some a;obtain⟨b,h8,a⟩:=a;refine wE (fun st=>Aj U0 (eR st) (Ci (eR st) (eR st)) (a50 i hW [0,1] eA eB eC eD eE eF eG eH eI eJ eK eM (some ⟨d,0,none⟩) 2 ZA _ dH.all dI.all dJ.all dK.all dL.all dM.all (Gp (e:=(Ai .i64)) (xs:=[0,1]) (BG:=[[I 0],[I 1]]) cI.bk trivial ⟨rfl,rfl,trivial⟩ rfl (Nat.le_refl _)) b h8)) ?_;rintro _ jQ ⟨d6,⟨_,_,rfl,⟨_,rfl,rfl⟩,rfl⟩⟩;have hY:=jD.ext d6;refine wM (v:=.tuple #[.agg #[I b.1.Lo,I b.1.Hi],I b.2]) rfl<|wD (fun st=>Bw (v:=.agg #[I b.1.Lo,I b.1.Hi]) (eR st) rfl)<|wD (fun st=>Bw (v:=I b.2) (eR st) rfl)<|wE (fun st=>B8 (cs:= #[I 0,I 0]) JR rfl) ?_;rintro _ jR ⟨f,rfl,c8⟩;have d7:=hY.nb c8;have jF:=hY.BJ c8;refine BI rfl rfl (fun st=>By (n:=2) (l:=[I b.1.Lo,I b.1.Hi]) (CB:= #[I b.1.Lo,I b.1.Hi]) (eR st) (eR st) Hs c8.bk rfl rfl (show 0+2≤2 by decide) (Bh rfl) rfl) ?_;rintro _ jS dN;have g3:=d7.gr dN.gr 0 rfl;refine wA (v:=I b.2) rfl<|wn<|Af<|Al ?_;replace a:=bind_some a;obtain⟨hZ,h9,a⟩:=a;refine wE (fun st=>Aj Lg (eR st) (Ck (eR st)) (Qu i 0 (zf Z w [some f,some d]) _ hZ h9)) ?_;rintro _ jT ⟨dO,⟨_,rfl,⟨eN,eO,eP,eQ,eS,eT,eU,eV,eW,eX,eY,eZ,rfl,aS,aT,aU,aV,aW,aX⟩⟩⟩;have g4:=g3.ext dO;have ⟨aS,aT,aU,aV,aW,aX⟩:=CA aS aT aU aV aW aX (g3.DR (Nat.le_refl _));replace a:=bind_some a;obtain⟨c,iA,a⟩:=a;refine wE (fun st=>Aj Aak (eR st) (Ck (eR st)) (a34 i hZ eN eO eP eQ eS eT eU eV eW eX eY eZ (zf Z w [some f,some d]) _ aS aT aU aV aW aX c iA)) ?_;rintro _ jU ⟨dP,⟨_,_,_,rfl,⟨aC,aD,rfl,cJ⟩,rfl,rfl⟩⟩;have g5:=g4.ext dP;have cJ:=cJ.mv (g4.DR (Nat.le_refl _));refine wM (v:=.tuple #[.slice aC c.1.length aD,I c.2.1,I c.2.2]) rfl<|wD (fun st=>Bw (v:=.slice aC c.1.length aD) (eR st) rfl)<|wD (fun st=>Bw (v:=I c.2.1) (eR st) rfl)<|wD (fun st=>Bw (v:=I c.2.2) (eR st) rfl)<|wA (v:=.slice aC c.1.length aD) rfl<|wA (v:=I c.2.1) rfl<|wA (v:=I c.2.2) rfl<|wn<|Af<|Al ?_;replace a:=bind_some a;obtain⟨h3,iB,a⟩:=a;refine wE (fun st=>Aj Lg (eR st) (Ck (eR st)) (Qu i 1 (zf Z w [some f,some d]) _ h3 iB)) ?_;rintro _ jV ⟨c9,⟨_,rfl,⟨e0,e1,e2,e3,e4,e5,e6,e7,e8,e9,fA,fB,rfl,aY,aZ,a0,a2,a3,a4⟩⟩⟩;have g6:=g5.ext c9;have ⟨aY,aZ,a0,a2,a3,a4⟩:=CA aY aZ a0 a2 a3 a4 (g5.DR (Nat.le_refl _));replace a:=bind_some a;obtain⟨m,iC,a⟩:=a;refine wE (fun st=>Aj U7 (eR st) (Ck (eR st)) (a81 i h3 e0 e1 e2 e3 e4 e5 e6 e7 e8 e9 fA fB (zf Z w [some f,some d]) _ aY aZ a0 a2 a3 a4 m iC)) ?_;rintro _ jW ⟨dA,⟨_,_,rfl,⟨aE,aF,rfl,cK⟩,rfl⟩⟩;have g7:=g6.ext dA;have cK:=cK.mv (g6.DR (Nat.le_refl _));refine wM (v:=.tuple #[.slice aE m.1.length aF,I m.2]) rfl<|wD (fun st=>Bw (v:=.slice aE m.1.length aF) (eR st) rfl)<|wD (fun st=>Bw (v:=I m.2) (eR st) rfl)<|wA (v:=.slice aE m.1.length aF) rfl<|wA (v:=I m.2) rfl<|wn<|Af<|Al ?_;replace a:=bind_some a;obtain⟨h4,iD,a⟩:=a;refine wE (fun st=>Aj Lg (eR st) (Ck (eR st)) (Qu i 0 (zf Z w [some f,some d]) _ h4 iD)) ?_;rintro _ jX ⟨cL,⟨_,rfl,⟨fC,fD,fE,fF,fG,fH,fI,fJ,fK,fL,fM,fN,rfl,a5,a7,a8,a9,bA,bB⟩⟩⟩;have g8:=g7.ext cL;have ⟨a5,a7,a8,a9,bA,bB⟩:=CA a5 a7 a8 a9 bA bB (g7.DR (Nat.le_refl _));replace a:=bind_some a;obtain⟨o,iE,a⟩:=a;refine wE (fun st=>Aj U8 (eR st) (Ck (eR st)) (a69 i h4 fC fD fE fF fG fH fI fJ fK fL fM fN (zf Z w [some f,some d]) _ a5 a7 a8 a9 bA bB o iE)) ?_;rintro _ jY ⟨cM,⟨_,_,rfl,⟨aG,aH,rfl,cN⟩,rfl⟩⟩;have g9:=g8.ext cM;have cN:=cN.mv (g8.DR (Nat.le_refl _));refine wM (v:=.tuple #[.slice aG o.1.length aH,I o.2]) rfl<|wD (fun st=>Bw (v:=.slice aG o.1.length aH) (eR st) rfl)<|wD (fun st=>Bw (v:=I o.2) (eR st) rfl)<|wA (v:=.slice aG o.1.length aH) rfl<|wA (v:=I o.2) rfl<|wn<|Af<|Al ?_;replace a:=bind_some a;obtain⟨h5,iF,a⟩:=a;refine wE (fun st=>Aj Lg (eR st) (Ck (eR st)) (Qu i 2 (zf Z w [some f,some d]) _ h5 iF)) ?_;rintro _ jZ ⟨bC,⟨_,rfl,⟨fO,fP,fQ,fR,fS,fT,fU,fV,fW,fX,fY,fZ,rfl,bD,bE,bF,bG,bH,bI⟩⟩⟩;have iG:=g9.ext bC;have ⟨bD,bE,bF,bG,bH,bI⟩:=CA bD bE bF bG bH bI (g9.DR (Nat.le_refl _));replace a:=bind_some a;obtain⟨g,iH,a⟩:=a;refine wE (fun st=>Aj Aal (eR st) (Ck (eR st)) (a42 i h5 fO fP fQ fR fS fT fU fV fW fX fY fZ ZA _ bD.all bE.all bF.all bG.all bH.all bI.all g iH)) ?_;rintro _ j0 ⟨bJ,⟨_,_,rfl,rfl,rfl⟩⟩;have hA:=iG.ext bJ;refine wM (v:=.tuple #[I g.1,I g.2]) rfl<|wD (fun st=>Bw (v:=I g.1) (eR st) rfl)<|wD (fun st=>Bw (v:=I g.2) (eR st) rfl)<|wA (v:=I g.1) rfl<|wA (v:=I g.2) rfl<|wn<|Af<|Al ?_;replace a:=bind_some a;obtain⟨h6,iI,a⟩:=a;refine wE (fun st=>Aj Lg (eR st) (Ck (eR st)) (Qu i 2 (zf Z w [some f,some d]) _ h6 iI)) ?_;rintro _ j1 ⟨bK,⟨_,rfl,⟨f0,f1,f2,f3,f4,f5,f6,f7,f8,f9,gA,gB,rfl,bL,bM,bN,bO,bP,bQ⟩⟩⟩;have hB:=hA.ext bK;have ⟨bL,bM,bN,bO,bP,bQ⟩:=CA bL bM bN bO bP bQ (hA.DR (Nat.le_refl _));replace a:=bind_some a;obtain⟨p,iJ,a⟩:=a;refine wE (fun st=>Aj Aam (eR st) (Ck (eR st)) (a43 i h6 f0 f1 f2 f3 f4 f5 f6 f7 f8 f9 gA gB (zf Z w [some f,some d]) _ bL bM bN bO bP bQ p iJ)) ?_;rintro _ j2 ⟨bR,⟨_,_,rfl,⟨aI,aJ,rfl,cO⟩,rfl⟩⟩;have cP:=hB.ext bR;have cO:=cO.mv (hB.DR (Nat.le_refl _));refine wM (v:=.tuple #[.slice aI p.1.length aJ,I p.2]) rfl<|wD (fun st=>Bw (v:=.slice aI p.1.length aJ) (eR st) rfl)<|wD (fun st=>Bw (v:=I p.2) (eR st) rfl)<|wA (v:=.slice aI p.1.length aJ) rfl<|wA (v:=I p.2) rfl<|wn<|Af ?_;rcases Ae (cB.2==0) with bS|bS
 ·replace a:=An a bS;have d0:=(((((((((((((((((c6.mv (Ac hS)).mv (Ac hU)).mv (Ac d5)).mv (Az cI)).mv (Ac d6)).mv (Az c8)).mv (d7.BA dN.gr 0 rfl)).mv (Ac dO)).mv (Ac dP)).mv (Ac c9)).mv (Ac dA)).mv (Ac cL)).mv (Ac cM)).mv (Ac bC)).mv (Ac bJ)).mv (Ac bK)).mv (Ac bR));replace a:=bind_some a;obtain⟨d1,iK,a⟩:=a;rcases Ae (d1) with cQ|cQ
  ·replace a:=An a cQ;rcases Ae (s.2==0) with bT|bT
   ·replace a:=An a bT;rcases Ae ((s.1.length:Int)==2) with aA|aA
    ·replace a:=An a aA;replace a:=AT a;obtain⟨i43,q,iL,iM,iN,a⟩:=a;have c5:=(((((((((((((((c7.mv (Ac d5)).mv (Az cI)).mv (Ac d6)).mv (Az c8)).mv (d7.BA dN.gr 0 rfl)).mv (Ac dO)).mv (Ac dP)).mv (Ac c9)).mv (Ac dA)).mv (Ac cL)).mv (Ac cM)).mv (Ac bC)).mv (Ac bJ)).mv (Ac bK)).mv (Ac bR));obtain⟨jG,jH,_,iO,rfl,iP⟩:=Sl.elem c5 (by decide) iM;replace a:=bind_some a;obtain⟨x,iQ,a⟩:=a;rcases Ae ([q.Lo,q.Hi]==[x.Lo,x.Hi]) with aB|aB
     ·replace a:=An a aB;replace a:=AT a;obtain⟨i46,r,iR,iS,iT,a⟩:=a;obtain⟨jI,jJ,_,iU,rfl,iV⟩:=Sl.elem c5 (by decide) iS;replace a:=bind_some a;obtain⟨y,iW,a⟩:=a;rcases Ae ([r.Lo,r.Hi]==[y.Lo,y.Hi]) with cR|cR
      ·replace a:=An a cR;rcases Ae (b.2==0) with bU|bU
       ·replace a:=An a bU;have gC:=((((((((((dN.bk.ext dO).ext dP).ext c9).ext dA).ext cL).ext cM).ext bC).ext bJ).ext bK).ext bR);replace a:=bind_some a;obtain⟨z,iX,a⟩:=a;rcases Ae ([b.1.Lo,b.1.Hi]==[z.Lo,z.Hi]) with cS|cS
        ·replace a:=An a cS;rcases Ae (c.2.2==0) with bV|bV
         ·replace a:=An a bV;have dQ:=((((((((cJ.mv (Ac c9)).mv (Ac dA)).mv (Ac cL)).mv (Ac cM)).mv (Ac bC)).mv (Ac bJ)).mv (Ac bK)).mv (Ac bR));replace a:=bind_some a;obtain⟨d2,iY,a⟩:=a;rcases Ae (d2) with cT|cT
          ·replace a:=An a cT;rcases Ae (c.2.1==180) with cU|cU
           ·replace a:=An a cU;rcases Ae (m.2==0) with bW|bW
            ·replace a:=An a bW;have dR:=((((((cK.mv (Ac cL)).mv (Ac cM)).mv (Ac bC)).mv (Ac bJ)).mv (Ac bK)).mv (Ac bR));replace a:=bind_some a;obtain⟨d3,iZ,a⟩:=a;rcases Ae (d3) with cV|cV
             ·replace a:=An a cV;rcases Ae (o.2==0) with bX|bX
              ·replace a:=An a bX;have dS:=((((cN.mv (Ac bC)).mv (Ac bJ)).mv (Ac bK)).mv (Ac bR));replace a:=bind_some a;obtain⟨d4,i0,a⟩:=a;rcases Ae (d4) with cW|cW
               ·replace a:=An a cW;rcases Ae (g.2==0) with cX|cX
                ·replace a:=An a cX;rcases Ae (g.1==1) with cY|cY
                 ·replace a:=An a cY;rcases Ae (p.2==0) with bY|bY
                  ·replace a:=An a bY;refine BU 85 [Kc (I cB.2),Kc (.bool (cB.2==0)),Kc (.bool (cB.2==0)),Kc (.slice bZ cB.1.length b4),Kv (FE (Ai .i64)) (zf Z w [some f,some d]) [80,120],Kc (.bool d1),Kc (.bool d1),Kc (.bool d1),Kc (I s.2),Kc (.bool (s.2==0)),Kc (.bool (s.2==0)),Kc (.bool (s.2==0)),Kc (.slice aK s.1.length aL),Kc (I (s.1.length:Int)),Kc (.bool ((s.1.length:Int)==2)),Kc (.bool ((s.1.length:Int)==2)),Kc (.bool ((s.1.length:Int)==2)),Kc (.slice aK s.1.length aL),Kc (pt jG (jH+i43*2)),Kc (.agg #[I q.Lo,I q.Hi]),Kc (.agg #[I x.Lo,I x.Hi]),Kc (.bool ([q.Lo,q.Hi]==[x.Lo,x.Hi])),Kc (.bool ([q.Lo,q.Hi]==[x.Lo,x.Hi])),Kc (.bool ([q.Lo,q.Hi]==[x.Lo,x.Hi])),Kc (.slice aK s.1.length aL),Kc (pt jI (jJ+i46*2)),Kc (.agg #[I r.Lo,I r.Hi]),Kc (.agg #[I y.Lo,I y.Hi]),Kc (.bool ([r.Lo,r.Hi]==[y.Lo,y.Hi])),Kc (.bool ([r.Lo,r.Hi]==[y.Lo,y.Hi])),Kc (.bool ([r.Lo,r.Hi]==[y.Lo,y.Hi])),Kc (I b.2),Kc (.bool (b.2==0)),Kc (.bool (b.2==0)),Kc (.bool (b.2==0)),Kc (.agg #[I b.1.Lo,I b.1.Hi]),Kc (.agg #[I z.Lo,I z.Hi]),Kc (.bool ([b.1.Lo,b.1.Hi]==[z.Lo,z.Hi])),Kc (.bool ([b.1.Lo,b.1.Hi]==[z.Lo,z.Hi])),Kc (.bool ([b.1.Lo,b.1.Hi]==[z.Lo,z.Hi])),Kc (I c.2.2),Kc (.bool (c.2.2==0)),Kc (.bool (c.2.2==0)),Kc (.bool (c.2.2==0)),Kc (.slice aC c.1.length aD),Kv (FE (Ai .i64)) (zf Z w [some f,some d]) [1],Kc (.bool d2),Kc (.bool d2),Kc (.bool d2),Kc (I c.2.1),Kc (.bool (c.2.1==180)),Kc (.bool (c.2.1==180)),Kc (.bool (c.2.1==180)),Kc (I m.2),Kc (.bool (m.2==0)),Kc (.bool (m.2==0)),Kc (.bool (m.2==0)),Kc (.slice aE m.1.length aF),Kv (FE (Ai .i64)) (zf Z w [some f,some d]) [1,0],Kc (.bool d3),Kc (.bool d3),Kc (.bool d3),Kc (I o.2),Kc (.bool (o.2==0)),Kc (.bool (o.2==0)),Kc (.bool (o.2==0)),Kc (.slice aG o.1.length aH),Kv (FE (Ai .i64)) (zf Z w [some f,some d]) [0,1],Kc (.bool d4),Kc (.bool d4),Kc (.bool d4),Kc (I g.2),Kc (.bool (g.2==0)),Kc (.bool (g.2==0)),Kc (.bool (g.2==0)),Kc (I g.1),Kc (.bool (g.1==1)),Kc (.bool (g.1==1)),Kc (.bool (g.1==1)),Kc (I p.2),Kc (.bool (p.2==0)),Kc (.bool (p.2==0)),Kc (.bool (p.2==0)),Kc (.slice aI p.1.length aJ),Kv (FE (Ai .i64)) (zf Z w [some f,some d]) [0]] mixed rfl rfl
                       (Aa (oD (fun K=>Au (K.kO 2)))
                       (Aa (oD (fun K=>Dp (es (K.dq 0 61)) (ec (v:=I 0))))
                       (Aa (oD (fun K=>Au (es (K.dq 1 62))))
                       (Aa (oG bS (fun K=>Au (K.kO 1)))
                       (Aa (KM rfl rfl rfl (fun a' w' ph K=>Jx (K.dq 2 63) bS) (fun a' w' ph K=>(BR (e:=3) (vs:= #[(0,I 80),(1,I 120)]) (cs:= #[I 80,I 120]) (HO (ec (v:=I 80)) (ec (v:=I 120))) (by kernel_rfl)).mono (fun u BD ⟨hL,hu,j⟩=>⟨⟨_,_,hu,Gp (xs:=[80,120]) (BG:=[[I 80],[I 120]]) j.bk ((cP.ext K.AQ).kn (Nat.le_of_eq j.Fq.symm)) (R2.mv (Ac j.gr) (show R2 (Ai .i64) w' (zf Z w [some f,some d]) [[I 80],[I 120]] [80,120] from⟨rfl,rfl,trivial⟩)) rfl (Nat.le_refl _)⟩,j.gr⟩)))
                       (Aa (oX bS (fun K=>match K.dq 4 65 with|⟨dB,dC,hM,dG⟩=>(Aj NI rfl (Ci (es (K.dq 3 64)) (es (t:=65) (v:=.slice dB ([80,120].length) dC) hM)) (Va i cB.1 [80,120] bZ b4 dB dC ZA _ (d0.mv (Ac K.AQ)).all dG.all d1 iK)).mono (fun _ _ h=>⟨h.2,h.1⟩)))
                       (Aa (oD (fun K=>AY (es (K.dq 2 63)) bS (es (K.dq 5 66))))
                       (Aa (oD (fun K=>Au (es (K.dq 6 67))))
                       (Aa (oG cQ (fun K=>Au (K.kO 4)))
                       (Aa (oG cQ (fun K=>Dp (es (K.dq 8 69)) (ec (v:=I 0))))
                       (Aa (oD (fun K=>AY (es (K.dq 7 68)) cQ (es (K.dq 9 70))))
                       (Aa (oD (fun K=>Au (es (K.dq 10 71))))
                       (Aa (oG bT (fun K=>Au (K.kO 3)))
                       (Aa (oG bT (fun K=>Br Tryz.underlying55 (es (K.dq 12 73))))
                       (Aa (oG bT (fun K=>Dp (es (K.dq 13 74)) (ec (v:=I 2))))
                       (Aa (oD (fun K=>AY (es (K.dq 11 72)) bT (es (K.dq 14 75))))
                       (Aa (oD (fun K=>Au (es (K.dq 15 76))))
                       (Aa (oG aA (fun K=>Au (K.kO 3)))
                       (Aa (oG aA (fun K=>Bu (k:=i43) Tryz.underlying55 Hs (es (K.dq 17 78)) iO (ec (v:=I 0)) iL iN))
                       (Aa (oG aA (fun K=>CK (l:=[I q.Lo,I q.Hi]) GS (es (K.dq 18 79)) (iP.mv (Ac K.AQ)) rfl rfl))
                       (Aa (oX aA (fun K=>(Aj NH rfl (Ci (ec (v:=I 40)) (ec (v:=I 80))) (Vb i 40 80 ZA _ x iQ)).mono (fun _ _ h=>⟨(by obtain⟨_,rfl,rfl⟩:=h.2;rfl),h.1⟩)))
                       (Aa (oG aA (fun K=>TR (x1:=[q.Lo,q.Hi]) (x2:=[x.Lo,x.Hi]) RW RV (es (K.dq 19 80)) (es (K.dq 20 81)) rfl rfl rfl rfl))
                       (Aa (oD (fun K=>AY (es (K.dq 16 77)) aA (es (K.dq 21 82))))
                       (Aa (oD (fun K=>Au (es (K.dq 22 83))))
                       (Aa (oG aB (fun K=>Au (K.kO 3)))
                       (Aa (oG aB (fun K=>Bu (k:=i46) Tryz.underlying55 Hs (es (K.dq 24 85)) iU (ec (v:=I 1)) iR iT))
                       (Aa (oG aB (fun K=>CK (l:=[I r.Lo,I r.Hi]) GS (es (K.dq 25 86)) (iV.mv (Ac K.AQ)) rfl rfl))
                       (Aa (oX aB (fun K=>(Aj NH rfl (Ci (ec (v:=I 120)) (ec (v:=I 120))) (Vb i 120 120 ZA _ y iW)).mono (fun _ _ h=>⟨(by obtain⟨_,rfl,rfl⟩:=h.2;rfl),h.1⟩)))
                       (Aa (oG aB (fun K=>TR (x1:=[r.Lo,r.Hi]) (x2:=[y.Lo,y.Hi]) RW RV (es (K.dq 26 87)) (es (K.dq 27 88)) rfl rfl rfl rfl))
                       (Aa (oD (fun K=>AY (es (K.dq 23 84)) aB (es (K.dq 28 89))))
                       (Aa (oD (fun K=>Au (es (K.dq 29 90))))
                       (Aa (oG cR (fun K=>Au (K.kO 6)))
                       (Aa (oG cR (fun K=>Dp (es (K.dq 31 92)) (ec (v:=I 0))))
                       (Aa (oD (fun K=>AY (es (K.dq 30 91)) cR (es (K.dq 32 93))))
                       (Aa (oD (fun K=>Au (es (K.dq 33 94))))
                       (Aa (oG bU (fun K=>Ba (l:=[I b.1.Lo,I b.1.Hi]) GS (K.kO 5) (gC.ext K.AQ) rfl rfl))
                       (Aa (oX bU (fun K=>(Aj NH rfl (Ci (ec (v:=I 160)) (ec (v:=I 200))) (Vb i 160 200 ZA _ z iX)).mono (fun _ _ h=>⟨(by obtain⟨_,rfl,rfl⟩:=h.2;rfl),h.1⟩)))
                       (Aa (oG bU (fun K=>TR (x1:=[b.1.Lo,b.1.Hi]) (x2:=[z.Lo,z.Hi]) RW RV (es (K.dq 35 96)) (es (K.dq 36 97)) rfl rfl rfl rfl))
                       (Aa (oD (fun K=>AY (es (K.dq 34 95)) bU (es (K.dq 37 98))))
                       (Aa (oD (fun K=>Au (es (K.dq 38 99))))
                       (Aa (oG cS (fun K=>Au (K.kO 9)))
                       (Aa (oG cS (fun K=>Dp (es (K.dq 40 101)) (ec (v:=I 0))))
                       (Aa (oD (fun K=>AY (es (K.dq 39 100)) cS (es (K.dq 41 102))))
                       (Aa (oD (fun K=>Au (es (K.dq 42 103))))
                       (Aa (oG bV (fun K=>Au (K.kO 7)))
                       (Aa (KM rfl rfl rfl (fun a' w' ph K=>Jx (K.dq 43 104) bV) (fun a' w' ph K=>(BR (e:=3) (vs:= #[(0,I 1)]) (cs:= #[I 1]) (Ik (ec (v:=I 1))) (by kernel_rfl)).mono (fun u BD ⟨hL,hu,j⟩=>⟨⟨_,_,hu,Gp (xs:=[1]) (BG:=[[I 1]]) j.bk ((cP.ext K.AQ).kn (Nat.le_of_eq j.Fq.symm)) (R2.mv (Ac j.gr) (show R2 (Ai .i64) w' (zf Z w [some f,some d]) [[I 1]] [1] from⟨rfl,trivial⟩)) rfl (Nat.le_refl _)⟩,j.gr⟩)))
                       (Aa (oX bV (fun K=>match K.dq 45 106 with|⟨cZ,c0,hC,dD⟩=>(Aj NI rfl (Ci (es (K.dq 44 105)) (es (t:=106) (v:=.slice cZ ([1].length) c0) hC)) (Va i c.1 [1] aC aD cZ c0 ZA _ (dQ.mv (Ac K.AQ)).all dD.all d2 iY)).mono (fun _ _ h=>⟨h.2,h.1⟩)))
                       (Aa (oD (fun K=>AY (es (K.dq 43 104)) bV (es (K.dq 46 107))))
                       (Aa (oD (fun K=>Au (es (K.dq 47 108))))
                       (Aa (oG cT (fun K=>Au (K.kO 8)))
                       (Aa (oG cT (fun K=>Dp (es (K.dq 49 110)) (ec (v:=I 180))))
                       (Aa (oD (fun K=>AY (es (K.dq 48 109)) cT (es (K.dq 50 111))))
                       (Aa (oD (fun K=>Au (es (K.dq 51 112))))
                       (Aa (oG cU (fun K=>Au (K.kO 11)))
                       (Aa (oG cU (fun K=>Dp (es (K.dq 53 114)) (ec (v:=I 0))))
                       (Aa (oD (fun K=>AY (es (K.dq 52 113)) cU (es (K.dq 54 115))))
                       (Aa (oD (fun K=>Au (es (K.dq 55 116))))
                       (Aa (oG bW (fun K=>Au (K.kO 10)))
                       (Aa (KM rfl rfl rfl (fun a' w' ph K=>Jx (K.dq 56 117) bW) (fun a' w' ph K=>(BR (e:=3) (vs:= #[(0,I 1),(1,I 0)]) (cs:= #[I 1,I 0]) (HO (ec (v:=I 1)) (ec (v:=I 0))) (by kernel_rfl)).mono (fun u BD ⟨hL,hu,j⟩=>⟨⟨_,_,hu,Gp (xs:=[1,0]) (BG:=[[I 1],[I 0]]) j.bk ((cP.ext K.AQ).kn (Nat.le_of_eq j.Fq.symm)) (R2.mv (Ac j.gr) (show R2 (Ai .i64) w' (zf Z w [some f,some d]) [[I 1],[I 0]] [1,0] from⟨rfl,rfl,trivial⟩)) rfl (Nat.le_refl _)⟩,j.gr⟩)))
                       (Aa (oX bW (fun K=>match K.dq 58 119 with|⟨c1,c2,hD,dE⟩=>(Aj NI rfl (Ci (es (K.dq 57 118)) (es (t:=119) (v:=.slice c1 ([1,0].length) c2) hD)) (Va i m.1 [1,0] aE aF c1 c2 ZA _ (dR.mv (Ac K.AQ)).all dE.all d3 iZ)).mono (fun _ _ h=>⟨h.2,h.1⟩)))
                       (Aa (oD (fun K=>AY (es (K.dq 56 117)) bW (es (K.dq 59 120))))
                       (Aa (oD (fun K=>Au (es (K.dq 60 121))))
                       (Aa (oG cV (fun K=>Au (K.kO 13)))
                       (Aa (oG cV (fun K=>Dp (es (K.dq 62 123)) (ec (v:=I 0))))
                       (Aa (oD (fun K=>AY (es (K.dq 61 122)) cV (es (K.dq 63 124))))
                       (Aa (oD (fun K=>Au (es (K.dq 64 125))))
                       (Aa (oG bX (fun K=>Au (K.kO 12)))
                       (Aa (KM rfl rfl rfl (fun a' w' ph K=>Jx (K.dq 65 126) bX) (fun a' w' ph K=>(BR (e:=3) (vs:= #[(0,I 0),(1,I 1)]) (cs:= #[I 0,I 1]) (HO (ec (v:=I 0)) (ec (v:=I 1))) (by kernel_rfl)).mono (fun u BD ⟨hL,hu,j⟩=>⟨⟨_,_,hu,Gp (xs:=[0,1]) (BG:=[[I 0],[I 1]]) j.bk ((cP.ext K.AQ).kn (Nat.le_of_eq j.Fq.symm)) (R2.mv (Ac j.gr) (show R2 (Ai .i64) w' (zf Z w [some f,some d]) [[I 0],[I 1]] [0,1] from⟨rfl,rfl,trivial⟩)) rfl (Nat.le_refl _)⟩,j.gr⟩)))
                       (Aa (oX bX (fun K=>match K.dq 67 128 with|⟨c3,c4,hE,dF⟩=>(Aj NI rfl (Ci (es (K.dq 66 127)) (es (t:=128) (v:=.slice c3 ([0,1].length) c4) hE)) (Va i o.1 [0,1] aG aH c3 c4 ZA _ (dS.mv (Ac K.AQ)).all dF.all d4 i0)).mono (fun _ _ h=>⟨h.2,h.1⟩)))
                       (Aa (oD (fun K=>AY (es (K.dq 65 126)) bX (es (K.dq 68 129))))
                       (Aa (oD (fun K=>Au (es (K.dq 69 130))))
                       (Aa (oG cW (fun K=>Au (K.kO 15)))
                       (Aa (oG cW (fun K=>Dp (es (K.dq 71 132)) (ec (v:=I 0))))
                       (Aa (oD (fun K=>AY (es (K.dq 70 131)) cW (es (K.dq 72 133))))
                       (Aa (oD (fun K=>Au (es (K.dq 73 134))))
                       (Aa (oG cX (fun K=>Au (K.kO 14)))
                       (Aa (oG cX (fun K=>Dp (es (K.dq 75 136)) (ec (v:=I 1))))
                       (Aa (oD (fun K=>AY (es (K.dq 74 135)) cX (es (K.dq 76 137))))
                       (Aa (oD (fun K=>Au (es (K.dq 77 138))))
                       (Aa (oG cY (fun K=>Au (K.kO 17)))
                       (Aa (oG cY (fun K=>Dp (es (K.dq 79 140)) (ec (v:=I 0))))
                       (Aa (oD (fun K=>AY (es (K.dq 78 139)) cY (es (K.dq 80 141))))
                       (Aa (oD (fun K=>Au (es (K.dq 81 142))))
                       (Aa (oG bY (fun K=>Au (K.kO 16)))
                       (Aa (KM rfl rfl rfl (fun a' w' ph K=>Jx (K.dq 82 143) bY) (fun a' w' ph K=>(BR (e:=3) (vs:= #[(0,I 0)]) (cs:= #[I 0]) (Ik (ec (v:=I 0))) (by kernel_rfl)).mono (fun u BD ⟨hL,hu,j⟩=>⟨⟨_,_,hu,Gp (xs:=[0]) (BG:=[[I 0]]) j.bk ((cP.ext K.AQ).kn (Nat.le_of_eq j.Fq.symm)) (R2.mv (Ac j.gr) (show R2 (Ai .i64) w' (zf Z w [some f,some d]) [[I 0]] [0] from⟨rfl,trivial⟩)) rfl (Nat.le_refl _)⟩,j.gr⟩)))
                       (BS _)))))))))))))))))))))))))))))))))))))))))))))))))))))))))))))))))))))))))))))))))))))) ?_
                   intro j3;rintro _ rfl _ rfl _ rfl _ rfl _ ⟨dB,dC,rfl,dG⟩ _ rfl _ rfl _ rfl _ rfl _ rfl _ rfl _ rfl _ rfl _ rfl _ rfl _ rfl _ rfl _ rfl _ rfl _ rfl _ rfl _ rfl _ rfl _ rfl _ rfl _ rfl _ rfl _ rfl _ rfl _ rfl _ rfl _ rfl _ rfl _ rfl _ rfl _ rfl _ rfl _ rfl _ rfl _ rfl _ rfl _ rfl _ rfl _ rfl _ rfl _ ⟨cZ,c0,rfl,dD⟩ _ rfl _ rfl _ rfl _ rfl _ rfl _ rfl _ rfl _ rfl _ rfl _ rfl _ rfl _ rfl _ ⟨c1,c2,rfl,dE⟩ _ rfl _ rfl _ rfl _ rfl _ rfl _ rfl _ rfl _ rfl _ ⟨c3,c4,rfl,dF⟩ _ rfl _ rfl _ rfl _ rfl _ rfl _ rfl _ rfl _ rfl _ rfl _ rfl _ rfl _ rfl _ rfl _ rfl _ rfl _ rfl _ ⟨gD,gE,rfl,d8⟩ hF;have i1:=cP.ext hF;have dT:=(cO.mv (Ac hF));replace a:=bind_some a;obtain⟨hG,i2,a⟩:=a;refine wX bY (fun st=>Aj NI (eR st) (Ci (eR st) (eR st)) (Va i p.1 [0] aI aJ gD gE ZA _ dT.all d8.all hG i2)) ?_;rintro _ j4 ⟨i3,rfl⟩;have i4:=i1.ext i3;refine wD (fun st=>AY (v:=.bool hG) (eR st) bY (eR st))<|wA (v:=.bool hG) rfl<|wn<|Am ?_;have jK:=oi a;refine Av rfl rfl ?_;exact⟨i4.Bf,congrArg Value.bool jK⟩
                  ·replace a:=Ao a bY;exact absurd (oi a) (by decide)
                 ·replace a:=Ao a cY;exact absurd (oi a) (by decide)
                ·replace a:=Ao a cX;exact absurd (oi a) (by decide)
               ·replace a:=Ao a cW;exact absurd (oi a) (by decide)
              ·replace a:=Ao a bX;exact absurd (oi a) (by decide)
             ·replace a:=Ao a cV;exact absurd (oi a) (by decide)
            ·replace a:=Ao a bW;exact absurd (oi a) (by decide)
           ·replace a:=Ao a cU;exact absurd (oi a) (by decide)
          ·replace a:=Ao a cT;exact absurd (oi a) (by decide)
         ·replace a:=Ao a bV;exact absurd (oi a) (by decide)
        ·replace a:=Ao a cS;exact absurd (oi a) (by decide)
       ·replace a:=Ao a bU;exact absurd (oi a) (by decide)
      ·replace a:=Ao a cR;exact absurd (oi a) (by decide)
     ·replace a:=Ao a aB;exact absurd (oi a) (by decide)
    ·replace a:=Ao a aA;exact absurd (oi a) (by decide)
   ·replace a:=Ao a bT;exact absurd (oi a) (by decide)
  ·replace a:=Ao a cQ;exact absurd (oi a) (by decide)
 ·replace a:=Ao a bS;exact absurd (oi a) (by decide)
end Go.Proofs.YtbhofkcbfblijaaGreat
end
section
namespace Go.Proofs.YtbhofkcbfblijaaGreat
open Go.RowKit Go.ChangeShapes Go.WideShapes
theorem RX{α β:Type}{g:α→Option β}:∀{l:List α} {r:List β},l.mapM g=some r→∀(i:Nat) (x:α),l[i]?=some x→∃y,r[i]?=some y∧g x=some y
 |[],_,_,i,x,b=>by simp at b
 |a::l,r,h,i,x,b=>by
  rw[List.mapM_cons] at h;obtain⟨y,d,h2⟩:=Option.bind_eq_some_iff.1 h;obtain⟨ys,c,e⟩:=Option.bind_eq_some_iff.1 h2;obtain rfl:y::ys=r:=by simpa using e
  cases i with
  |zero=>
   obtain rfl:a=x:=by simpa using b
   exact⟨y,rfl,d⟩
  |succ i=>exact RX c i x (by simpa using b)
theorem Mt{H:Type}{P:Program}{e:TypeId}{d:DataW H}{n:Nat}(b:n∈d.weights P e):∀{l:List (DataW H)},d∈l→n∈DataW.weightsAll P e l
 |[],h=>by cases h
 |a::l,h=>by
  rw[DataW.weightsAll,List.mem_append];rcases List.mem_cons.1 h with rfl|h
  ·exact .inl b
  ·exact .inr (Mt b h)
def OH {H:Type} (P:Program) (t:TypeId) (d:DataW H):Prop:=∀n∈d.weights P t,n≤reachBytes
theorem P2{H:Type}{P:Program}{a:List TypeId}{ds:List (DataW H)}(h:(DataW.weightsEach P a ds).all (· ≤reachBytes)=true){j:Nat}{t:TypeId}{d:DataW H}(b:a[j]?=some t)(c:ds[j]?=some d):OH P t d:=fun n e=>by
 have:=List.all_eq_true.1 h _ (DataW.weights_mem_each b c n e);simpa using this
def Mu {α:Type} (P:Program) (t:TypeId) (e:CF α) (wf:α→Prop):Prop:=
 ∀(H:Type) (enc:TypeId×Value→H) (w:World) (sp:Nat→Bool) (fuel:Nat) (cs:List Value) (x:DataW H×List MemPlace),DataW.trod enc P w 0 sp true fuel t cs=some x→OH P t x.1→∃a,e.R w ZA cs a∧wf a
def GD(k:IntKind)(n:Int):Prop:=(Lit.int k n).wf=true
section
variable{P:Program}{t:TypeId}
theorem IW{k:IntKind}(a:P.underlying t=some (.int k)):Mu P t (Ai k) (GD k):=by
 intro H enc w sp fuel cs x h _;obtain⟨n,h1,_,b⟩:=DataW.trod_int a h;exact⟨n,h1,b⟩
theorem Wr(a:P.underlying t=some .bool):Mu P t AaX (fun _=>True):=by
 intro H enc w sp fuel cs x h _;obtain⟨b,h1,_⟩:=DataW.trod_bool a h;exact⟨b,h1,trivial⟩
theorem IE {e:Array Field} (g:P.underlying t=some (.struct e)) {H:Type} {enc:TypeId×Value→H} {w:World} {sp:Nat→Bool} {fuel:Nat} {cs:List Value} {x:DataW H×List MemPlace} (h:DataW.trod enc P w 0 sp true fuel t cs=some x):
  cs.length=P.cellsOf t∧∃c,∀(i a off:Nat),(e[i]?).map (fun f=>(f.type,f.offset))=some (a,off)→∃y,DataW.trod enc P w 0 sp true c a ((cs.drop off).take (P.cellsOf a))=some y∧(OH P t x.1→OH P a y.1):=by
 cases fuel with
 |zero=>simp[DataW.trod] at h
 |succ fuel=>
  unfold DataW.trod at h;simp only[g] at h;split at h
  ·rename_i hl
   obtain⟨xs,m,rfl⟩:=Option.map_eq_some_iff.1 h;refine⟨hl,fuel,fun i a off o=>?_⟩;obtain⟨f,b,he⟩:=Option.map_eq_some_iff.1 o;obtain⟨k,p⟩:f.type=a∧f.offset=off:=by simpa using he
   rw[←Array.getElem?_toList] at b;obtain⟨y,q,l⟩:=RX m i f b;rw[k,p] at l;refine⟨y,l,fun hs n r=>hs n ?_⟩;simp only[DataW.weights,g];exact DataW.weights_mem_each (j:=i) (t:=a) (d:=y.1) (by rw[List.getElem?_map,b];simp[k]) (by rw[List.getElem?_map,q];rfl) n r
  ·cases h
theorem T9{w:World}{a:Addr}{n:Nat}{cs:List Value}(h:w.cells? 0 a n=some cs):cs.length=n∧∀j u,cs[j]?=some u→w.cell? (a.add j)=some u:=by
 unfold World.cells? at h;rw[if_pos (Nat.zero_le _)] at h;have hl:=mapM_some_length h;refine⟨by simpa using hl,?_⟩;have key:∀(l:List Nat) (r:List Value),l.mapM (fun i=>w.cell? (a.add i))=some r→∀(j i:Nat) (u:Value),l[j]?=some i→r[j]?=some u→w.cell? (a.add i)=some u:=by
  intro l
  induction l with
  |nil=>intro r _ j i u hj;simp at hj
  |cons b l ih=>
   intro r h j i u hj hr;rw[List.mapM_cons] at h;obtain⟨y,e,h2⟩:=Option.bind_eq_some_iff.1 h;obtain⟨ys,c,f⟩:=Option.bind_eq_some_iff.1 h2;obtain rfl:y::ys=r:=by simpa using f
   cases j with
   |zero=>
    obtain rfl:b=i:=by simpa using hj
    obtain rfl:y=u:=by simpa using hr
    exact e
   |succ j=>exact ih ys c j i u (by simpa using hj) (by simpa using hr)
 intro j u hj;have d:j<n:=by
  have:=(List.getElem?_eq_some_iff.1 hj).1;have h2:cs.length=n:=by simpa using hl
  omega
 exact key _ _ h j j u (by simp[d]) hj
theorem Vc{w:World}{a:Addr}{u:Value}(h:w.cell? a=some u):∃b o,a=⟨b,o,none⟩∧b<w.heap.size:=by
 obtain⟨b,o,pt⟩:=a;cases pt with
 |none=>
  refine⟨b,o,rfl,?_⟩;unfold World.cell? at h;cases c:w.heap[b]? with
  |none=>simp[c] at h
  |some o=>exact(Array.getElem?_eq_some_iff.1 c).1
 |some q=>
  unfold World.cell? at h;cases c:w.heap[b]? with
  |none=>simp[c] at h
  |some ob=>cases ob<;>simp[c] at h
theorem add_add{a:Addr}{k j:Nat}(h:k≤j):(a.add k).add (j-k)=a.add j:=by
 obtain⟨b,o,pt⟩:=a;cases pt with
 |none=>rw[GG,GG,GG];congr 1;omega
 |some q=>
  unfold Addr.add
  by_cases hj:j=0
  ·have:k=0:=by omega
   subst this;subst hj;simp
  ·by_cases hk:k=0
   ·subst hk;simp[hj]
   ·by_cases c:j-k=0
    ·have:j=k:=by omega
     subst this;simp[hk]
    ·simp[hj,hk,c];omega
theorem IY {α:Type} {e:TypeId} {ee:CF α} {wf:α→Prop} (v:P.underlying t=some (.slice e)) (aI:P.cellsOf e=ee.sz) (h0:0<ee.sz) (aJ:Mu P e ee wf) {b:Nat} (aA:P.bytesOf e=b):Mu P t (BH ee) (fun xs=>xs.length*b≤140737488351232∧∀x∈xs,wf x):=by
 intro H enc w sp fuel cs x h r;rcases Go.Deep.open_slice v h with⟨rfl,_⟩|⟨a,len,cap,m,n0,D,aO,rfl,_,aB,aM,hm,aC,LX⟩
 ·exact⟨[],⟨none,0,rfl,Sl.nil _ _ _⟩,by simp,by simp⟩
 ·have aN:len≤m:=by rw[hm];split<;>omega
  subst aC;have g:len*b≤140737488351232:=by
   have:=r ((((List.range len).map D).length+((List.range (m-len)).map fun j=>D (len+j)).length)*P.bytesOf e) (by simp[DataW.weights,v]);rw[aA] at this;have h2:len*b≤(((List.range len).map D).length+((List.range (m-len)).map fun j=>D (len+j)).length)*b:=Nat.mul_le_mul_right _ (by simp);exact Nat.le_trans h2 this
  have k:∀i,i<len→OH P e (D i):=fun i hi n aD=>r n (by
   simp only[DataW.weights,v];rw[List.mem_cons,List.mem_append];exact .inr (.inl (Mt aD (List.mem_map.2 ⟨i,by simpa using hi,rfl⟩))))
  have key:∀n,n≤len→∃BG xs,R2 ee w ZA BG xs∧xs.length=n∧(∀x∈xs,wf x)∧∀j u,BG.flatten[j]?=some u→w.cell? (a.add j)=some u:=by
   intro n
   induction n with
   |zero=>exact fun _=>⟨[],[],trivial,rfl,by simp,by simp⟩
   |succ n ih=>
    intro aD;obtain⟨BG,xs,h1,h2,y,l⟩:=ih (by omega);obtain⟨ds,aK,aE⟩:=LX n (by omega);obtain⟨z,aL,aF⟩:=aJ _ _ _ _ _ _ _ aE (k n (by omega));obtain⟨hl,p⟩:=T9 aK;refine⟨BG++[ds],xs++[z],h1.append ⟨aL,trivial⟩,by simp[h2],?_,?_⟩
    ·intro x c;rcases List.mem_append.1 c with c|c
     ·exact y x c
     ·rw[List.mem_singleton.1 c];exact aF
    ·intro j u hj;rw[List.flatten_append] at hj;rcases Nat.lt_or_ge j BG.flatten.length with d|f
     ·rw[List.getElem?_append_left d] at hj;exact l j u hj
     ·rw[List.getElem?_append_right f] at hj;have q:=p (j-BG.flatten.length) u (by simpa using hj);have aG:BG.flatten.length=n*ee.sz:=by rw[h1.Mb,h2]
      rw[aG] at q f;rw[aI] at q;rw[add_add f] at q;exact q
  obtain⟨BG,xs,h1,h2,y,l⟩:=key len (Nat.le_refl _);refine⟨xs,⟨some a,cap,by rw[h2],by rw[h2];exact aB,(fun e=>by cases e),BG,h1,?_⟩,by rw[h2];exact g,y⟩;cases aH:BG.flatten with
  |nil=>exact .inl rfl
  |cons u us=>
   have hu:=l 0 u (by rw[aH];rfl);obtain⟨b,o,s,d⟩:=Vc hu;have ha:a=⟨b,o,none⟩:=by
    obtain⟨b',o',pt⟩:=a;cases pt<;>simp[Addr.add] at s⊢;exact s
   subst ha;refine .inr ⟨b,o,rfl,trivial,d,fun j u hj=>?_⟩;have:=l j u (by rw[aH];exact hj);rw[GG] at this;exact this
end
section
variable{H:Type}{enc:TypeId×Value→H}{P:Program}{W W':World}
theorem M0{sp:Nat→Bool}:∀{e:List TypeId} {vs:List Value} {ds:List (DataW H)} {ps:List MemPlace},DataW.TrodAll enc P W 0 sp true e vs ds ps→(∀p∈ps,W.sameAt W' p)→DataW.TrodAll enc P W' 0 sp true e vs ds ps
 |[],_,_,_,h,_=>by
  obtain⟨rfl,rfl,rfl⟩:=trodAll_nil h;exact rfl
 |_::_,_,_,_,h,hs=>by
  obtain⟨v,g,d,i,a,b,rfl,rfl,rfl,⟨n,f⟩,h2⟩:=trodAll_cons h;exact⟨a,b,⟨n,DataW.trod_carry n _ _ _ f fun p c=>hs p (List.mem_append_left _ c)⟩,M0 h2 fun p c=>hs p (List.mem_append_right _ c),rfl⟩
theorem Qv(K:Kids P (· <P.types.size))(c:∀t e,t<P.types.size→P.underlying t=some (.slice e)→0<P.cellsOf e){a:List TypeId}{vs:List Value}{ds:List (DataW H)}{ps:List MemPlace}(d:∀t∈a,t<P.types.size)
  (f:DataW.TrodAll enc P W 0 (fun _=>true) true a vs ds ps)(hb:Ext W W')(b:∀p∈ps,p.block<W.heap.size)(sp:Nat→Bool)(hs:∀p∈ps,sp p.block=true):DataW.TrodAll enc P W' 0 sp true a vs ds ps:=
 M0 (DataW.TrodAll.respare K c d f hs) fun p g=>(M3 hb).same (b p g)
variable{α:Type}{e:CF α}{wf:α→Prop}{t:TypeId}{b0:Nat}{v:Value}{d:DataW H}{p:List MemPlace}{sp:Nat→Bool}
theorem Tv{c:Array Field}(f:P.underlying t=some (.struct c))(g:Mu P t e wf)(b:Value.okWide P W .any b0 t v)(h:DataW.Trod enc P W 0 sp true t v d p)(hs:OH P t d):∃a cs,v=.agg cs.toArray∧e.R W ZA cs a∧wf a:=by
 unfold Value.okWide at b;rw[f] at b;obtain⟨cs,rfl,_⟩:=b;obtain⟨n,i⟩:=h;obtain⟨a,h1,h2⟩:=g _ _ _ _ _ _ _ i hs;exact⟨a,cs.toList,by simp,h1,h2⟩
theorem P3{k:IntKind}(a:P.underlying t=some (.int k))(b:Value.okWide P W .any b0 t v)(h:DataW.Trod enc P W 0 sp true t v d p):∃n,v=.int k n∧GD k n:=by
 obtain⟨n,h1,_,_,c⟩:=open_int a b h;exact⟨n,h1,c⟩
theorem Oe {f:Func} {s:ChangeSpec} {apart fresh handsOn again:Bool} {args:Array Value} {v:Value} {ds gs:List (DataW H)} {before pa pv:List MemPlace}
  (k:DataW.Whole enc P f.params.toList s.vars apart W args.toList ds gs before)
  (g:∀(b:Nat) (sp:Nat→Bool) (m:Bool),DataW.TrodAll enc P W' b sp m f.resultTypes.toList (v.resultList f.resultTypes.size) (s.fn H (ds++gs)).results [])
  (c:∀sp:Nat→Bool,(∀p∈before,sp p.block=true)→DataW.TrodAll enc P W' 0 sp true f.params.toList args.toList (s.fn H (ds++gs)).args pa)
  (d:∀sp:Nat→Bool,(∀p∈before,sp p.block=true)→DataW.TrodVars enc P W' sp s.vars (s.fn H (ds++gs)).vars pv)
  (e:before=pa++pv) (n:Ext W W')
  (l:∀(j:Nat) (t:TypeId) (r:Value),f.resultTypes[j]?=some t→(v.resultList f.resultTypes.size)[j]?=some r→Value.okWide P W' .any 0 t r):
  s.post enc P f apart fresh handsOn again W args v W':=by
 have hb:=M3 n;have h:∀p∈before,p.block<W.heap.size:=fun p a=>k.lt p a;have hold:∀p∈before,(fun b=>decide (b<W.heap.size)) p.block=true:=fun p a=>by simpa using h p a
 refine⟨ds,gs,before,[],pa,pv,k,g _ _ _,c _ hold,d _ hold,World.keptBut_mono (fun p a=>⟨a,?_⟩) (hb.frame (· ∈before)),fun _=>?_⟩
 ·rw[e,List.mem_append] at a;exact Or.inr a
 ·obtain⟨_,_,_,_,_,o,q⟩:=k;refine⟨l,_,_,([]++pa)++pv,⟨[]++pa,pv,trodAll_append (c _ (fun _ _=>rfl)) (g _ _ _),d _ (fun _ _=>rfl),rfl,?_,?_⟩,?_⟩
  ·intro b off a;have i:MemPlace.cell b off∈before:=by rw[e];simpa using a
   rw[hb.frozen (h _ i)];exact o b off i
  ·intro ha;have:=q ha;rw[e] at this;simpa using this
  ·intro p a _;rw[e];simpa using a
theorem Qw{f:FuncId}{args:Array Value}{w:World}{R:Value→World→Prop}(h:BO P f args w R):Calls P f args w (fun e w'=>∃v,e=.returned v∧R v w'):=h
end
theorem Ua:∀{cs:List Value},cs.length=2→∃a0 a1,cs=[a0,a1]
 |[a0,a1],_=>⟨a0,a1,rfl⟩
theorem W2:∀{cs:List Value},cs.length=3→∃a0 a1 a2,cs=[a0,a1,a2]
 |[a0,a1,a2],_=>⟨a0,a1,a2,rfl⟩
theorem Abc:∀{cs:List Value},cs.length=4→∃a0 a1 a2 a3,cs=[a0,a1,a2,a3]
 |[a0,a1,a2,a3],_=>⟨a0,a1,a2,a3,rfl⟩
theorem Abd:∀{cs:List Value},cs.length=7→∃a0 a1 a2 a3 a4 a5 a6,cs=[a0,a1,a2,a3,a4,a5,a6]
 |[a0,a1,a2,a3,a4,a5,a6],_=>⟨a0,a1,a2,a3,a4,a5,a6,rfl⟩
theorem RY:Mu Tryz.prog 44 AA (fun x=>(GD .i64 x.Lo∧GD .i64 x.Hi)):=by
 intro H enc w sp fuel cs x h c;obtain⟨hl,i,d⟩:=IE Tryz.underlying44 h;have j:Tryz.prog.cellsOf 44=2:=by kernel_rfl
 rw[j] at hl;have e:Tryz.prog.cellsOf 3=1:=by kernel_rfl
 obtain⟨a0,a1,rfl⟩:=Ua hl;obtain⟨k,a,f⟩:=d 0 3 0 rfl;simp only[e,List.drop_zero,List.drop_succ_cons,List.take_succ_cons,List.take_zero] at a;obtain⟨n0,h0,w0⟩:=(IW Tryz.underlying3) _ _ _ _ _ _ _ a (f c);cases h0;obtain⟨l,b,g⟩:=d 1 3 1 rfl;simp only[e,List.drop_zero,List.drop_succ_cons,List.take_succ_cons,List.take_zero] at b;obtain⟨n1,h1,w1⟩:=(IW Tryz.underlying3) _ _ _ _ _ _ _ b (g c);cases h1;exact⟨⟨n0,n1⟩,rfl,w0,w1⟩
theorem AaB:Mu Tryz.prog 46 AH (fun x=>(True∧GD .i64 x.Number∧(GD .i64 ((⟨x.Bm,x.Bn⟩:AN).Lo)∧GD .i64 ((⟨x.Bm,x.Bn⟩:AN).Hi)))):=by
 intro H enc w sp fuel cs x h d;obtain⟨hl,l,e⟩:=IE Tryz.underlying46 h;have m:Tryz.prog.cellsOf 46=4:=by kernel_rfl
 rw[m] at hl;have n:Tryz.prog.cellsOf 3=1:=by kernel_rfl
 have o:Tryz.prog.cellsOf 4=1:=by kernel_rfl
 have f:Tryz.prog.cellsOf 44=2:=by kernel_rfl
 obtain⟨a0,a1,a2,a3,rfl⟩:=Abc hl;obtain⟨p,a,g⟩:=e 0 4 0 rfl;simp only[o,List.drop_zero,List.drop_succ_cons,List.take_succ_cons,List.take_zero] at a;obtain⟨n0,h0,w0⟩:=(Wr Tryz.underlying4) _ _ _ _ _ _ _ a (g d);cases h0;obtain⟨q,b,i⟩:=e 1 3 1 rfl;simp only[n,List.drop_zero,List.drop_succ_cons,List.take_succ_cons,List.take_zero] at b;obtain⟨n1,h1,w1⟩:=(IW Tryz.underlying3) _ _ _ _ _ _ _ b (i d);cases h1;obtain⟨r,c,j⟩:=e 2 44 2 rfl;simp only[f,List.drop_zero,List.drop_succ_cons,List.take_succ_cons,List.take_zero] at c;obtain⟨k,h2,w2⟩:=RY _ _ _ _ _ _ _ c (j d);cases h2;exact⟨⟨n0,n1,k.Lo,k.Hi⟩,rfl,w0,w1,w2⟩
theorem AaC:Mu Tryz.prog 26 Rj (fun x=>((x.Ax.length*16≤140737488351232∧∀y∈x.Ax,(GD .i64 y.Lo∧GD .i64 y.Hi))∧(x.AX.length*24≤140737488351232∧∀y∈x.AX,(y.length*8≤140737488351232∧∀g∈y,GD .i64 g))∧(x.AP.length*32≤140737488351232∧∀y∈x.AP,(True∧GD .i64 y.Number∧(GD .i64 ((⟨y.Bm,y.Bn⟩:AN).Lo)∧GD .i64 ((⟨y.Bm,y.Bn⟩:AN).Hi)))))):=by
 intro H enc w sp fuel cs x h e;obtain⟨hl,o,f⟩:=IE Tryz.underlying26 h;have p:Tryz.prog.cellsOf 26=3:=by kernel_rfl
 rw[p] at hl;have i:Tryz.prog.cellsOf 22=1:=by kernel_rfl
 have j:Tryz.prog.cellsOf 23=1:=by kernel_rfl
 have k:Tryz.prog.cellsOf 24=1:=by kernel_rfl
 obtain⟨a0,a1,a2,rfl⟩:=W2 hl;obtain⟨aA,a,l⟩:=f 0 22 0 rfl;simp only[i,List.drop_zero,List.drop_succ_cons,List.take_succ_cons,List.take_zero] at a;obtain⟨n0,⟨q,r,h0,s0⟩,w0⟩:=(IY (b:=16) Tryz.underlying22 (by kernel_rfl) (by decide) RY (by kernel_rfl)) _ _ _ _ _ _ _ a (l e);cases h0;obtain⟨aB,c,m⟩:=f 1 23 1 rfl;simp only[j,List.drop_zero,List.drop_succ_cons,List.take_succ_cons,List.take_zero] at c;obtain⟨n1,⟨s,t,h1,s1⟩,w1⟩:=(IY (b:=24) Tryz.underlying23 (by kernel_rfl) (by decide) (IY (b:=8) Tryz.underlying31 (by kernel_rfl) (by decide) (IW Tryz.underlying3) (by kernel_rfl)) (by kernel_rfl)) _ _ _ _ _ _ _ c (m e);cases h1;obtain⟨aC,d,n⟩:=f 2 24 2 rfl;simp only[k,List.drop_zero,List.drop_succ_cons,List.take_succ_cons,List.take_zero] at d;obtain⟨u,⟨v,z,h2,s2⟩,w2⟩:=(IY (b:=32) Tryz.underlying24 (by kernel_rfl) (by decide) AaB (by kernel_rfl)) _ _ _ _ _ _ _ d (n e);cases h2;exact⟨⟨n0,n1,u⟩,⟨q,r,s,t,v,z,rfl,s0,s1,s2⟩,w0,w1,w2⟩
theorem Zc:Mu Tryz.prog 128 AZ (fun x=>(GD .i64 x.AV∧GD .i64 x.B4)):=by
 intro H enc w sp fuel cs x h c;obtain⟨hl,i,d⟩:=IE Tryz.underlying128 h;have j:Tryz.prog.cellsOf 128=2:=by kernel_rfl
 rw[j] at hl;have e:Tryz.prog.cellsOf 3=1:=by kernel_rfl
 obtain⟨a0,a1,rfl⟩:=Ua hl;obtain⟨k,a,f⟩:=d 0 3 0 rfl;simp only[e,List.drop_zero,List.drop_succ_cons,List.take_succ_cons,List.take_zero] at a;obtain⟨n0,h0,w0⟩:=(IW Tryz.underlying3) _ _ _ _ _ _ _ a (f c);cases h0;obtain⟨l,b,g⟩:=d 1 3 1 rfl;simp only[e,List.drop_zero,List.drop_succ_cons,List.take_succ_cons,List.take_zero] at b;obtain⟨n1,h1,w1⟩:=(IW Tryz.underlying3) _ _ _ _ _ _ _ b (g c);cases h1;exact⟨⟨n0,n1⟩,rfl,w0,w1⟩
theorem Zd:Mu Tryz.prog 126 Bb (fun x=>(GD .i64 x.Cw∧GD .i64 x.Ch)):=by
 intro H enc w sp fuel cs x h c;obtain⟨hl,i,d⟩:=IE Tryz.underlying126 h;have j:Tryz.prog.cellsOf 126=2:=by kernel_rfl
 rw[j] at hl;have e:Tryz.prog.cellsOf 3=1:=by kernel_rfl
 obtain⟨a0,a1,rfl⟩:=Ua hl;obtain⟨k,a,f⟩:=d 0 3 0 rfl;simp only[e,List.drop_zero,List.drop_succ_cons,List.take_succ_cons,List.take_zero] at a;obtain⟨n0,h0,w0⟩:=(IW Tryz.underlying3) _ _ _ _ _ _ _ a (f c);cases h0;obtain⟨l,b,g⟩:=d 1 3 1 rfl;simp only[e,List.drop_zero,List.drop_succ_cons,List.take_succ_cons,List.take_zero] at b;obtain⟨n1,h1,w1⟩:=(IW Tryz.underlying3) _ _ _ _ _ _ _ b (g c);cases h1;exact⟨⟨n0,n1⟩,rfl,w0,w1⟩
theorem Ze:Mu Tryz.prog 121 Bq (fun x=>(GD .i64 x.BV∧(GD .i64 ((⟨x.Cm,x.Cn⟩:AN).Lo)∧GD .i64 ((⟨x.Cm,x.Cn⟩:AN).Hi)))):=by
 intro H enc w sp fuel cs x h c;obtain⟨hl,i,d⟩:=IE Tryz.underlying121 h;have j:Tryz.prog.cellsOf 121=3:=by kernel_rfl
 rw[j] at hl;have k:Tryz.prog.cellsOf 3=1:=by kernel_rfl
 have e:Tryz.prog.cellsOf 44=2:=by kernel_rfl
 obtain⟨a0,a1,a2,rfl⟩:=W2 hl;obtain⟨l,a,f⟩:=d 0 3 0 rfl;simp only[k,List.drop_zero,List.drop_succ_cons,List.take_succ_cons,List.take_zero] at a;obtain⟨n0,h0,w0⟩:=(IW Tryz.underlying3) _ _ _ _ _ _ _ a (f c);cases h0;obtain⟨m,b,g⟩:=d 1 44 1 rfl;simp only[e,List.drop_zero,List.drop_succ_cons,List.take_succ_cons,List.take_zero] at b;obtain⟨n1,h1,w1⟩:=RY _ _ _ _ _ _ _ b (g c);cases h1;exact⟨⟨n0,n1.Lo,n1.Hi⟩,rfl,w0,w1⟩
theorem Vd:Mu Tryz.prog 67 PB (fun x=>(((((⟨x.Ak,x.Ab,x.Aw⟩:Be).Ax).length*16≤140737488351232∧∀y∈((⟨x.Ak,x.Ab,x.Aw⟩:Be).Ax),(GD .i64 y.Lo∧GD .i64 y.Hi))∧(((⟨x.Ak,x.Ab,x.Aw⟩:Be).AX).length*24≤140737488351232∧∀y∈((⟨x.Ak,x.Ab,x.Aw⟩:Be).AX),(y.length*8≤140737488351232∧∀s∈y,GD .i64 s))∧(((⟨x.Ak,x.Ab,x.Aw⟩:Be).AP).length*32≤140737488351232∧∀y∈((⟨x.Ak,x.Ab,x.Aw⟩:Be).AP),(True∧GD .i64 y.Number∧(GD .i64 ((⟨y.Bm,y.Bn⟩:AN).Lo)∧GD .i64 ((⟨y.Bm,y.Bn⟩:AN).Hi)))))∧GD .i64 x.Flat∧(x.AB.length*16≤140737488351232∧∀y∈x.AB,(GD .i64 y.AV∧GD .i64 y.B4))∧(x.AF.length*16≤140737488351232∧∀y∈x.AF,(GD .i64 y.Cw∧GD .i64 y.Ch))∧(x.AM.length*24≤140737488351232∧∀y∈x.AM,(GD .i64 y.BV∧(GD .i64 ((⟨y.Cm,y.Cn⟩:AN).Lo)∧GD .i64 ((⟨y.Cm,y.Cn⟩:AN).Hi)))))):=by
 intro H enc w sp fuel cs x h a;obtain⟨hl,aF,c⟩:=IE Tryz.underlying67 h;have aG:Tryz.prog.cellsOf 67=7:=by kernel_rfl
 rw[aG] at hl;have aH:Tryz.prog.cellsOf 3=1:=by kernel_rfl
 have t:Tryz.prog.cellsOf 26=3:=by kernel_rfl
 have u:Tryz.prog.cellsOf 63=1:=by kernel_rfl
 have v:Tryz.prog.cellsOf 64=1:=by kernel_rfl
 have z:Tryz.prog.cellsOf 65=1:=by kernel_rfl
 obtain⟨a0,a1,a2,a3,a4,a5,a6,rfl⟩:=Abd hl;obtain⟨aX,d,aA⟩:=c 0 26 0 rfl;simp only[t,List.drop_zero,List.drop_succ_cons,List.take_succ_cons,List.take_zero] at d;obtain⟨n0,⟨j,k,l,m,n,o,h0,p,q,r⟩,w0⟩:=AaC _ _ _ _ _ _ _ d (aA a);cases h0;obtain⟨aY,e,aB⟩:=c 1 3 3 rfl;simp only[aH,List.drop_zero,List.drop_succ_cons,List.take_succ_cons,List.take_zero] at e;obtain⟨n1,h1,w1⟩:=(IW Tryz.underlying3) _ _ _ _ _ _ _ e (aB a);cases h1;obtain⟨aZ,f,aC⟩:=c 2 63 4 rfl;simp only[u,List.drop_zero,List.drop_succ_cons,List.take_succ_cons,List.take_zero] at f;obtain⟨aI,⟨aJ,aK,h2,s2⟩,w2⟩:=(IY (b:=16) Tryz.underlying63 (by kernel_rfl) (by decide) Zc (by kernel_rfl)) _ _ _ _ _ _ _ f (aC a);cases h2;obtain⟨a7,g,aD⟩:=c 3 64 5 rfl;simp only[v,List.drop_zero,List.drop_succ_cons,List.take_succ_cons,List.take_zero] at g;obtain⟨aL,⟨aM,aN,aO,aP⟩,aQ⟩:=(IY (b:=16) Tryz.underlying64 (by kernel_rfl) (by decide) Zd (by kernel_rfl)) _ _ _ _ _ _ _ g (aD a);cases aO;obtain⟨a8,i,aE⟩:=c 4 65 6 rfl;simp only[z,List.drop_zero,List.drop_succ_cons,List.take_succ_cons,List.take_zero] at i;obtain⟨aR,⟨aS,aT,aU,aV⟩,aW⟩:=(IY (b:=24) Tryz.underlying65 (by kernel_rfl) (by decide) Ze (by kernel_rfl)) _ _ _ _ _ _ _ i (aE a);cases aU;exact⟨⟨n0.Ax,n0.AX,n0.AP,n1,aI,aL,aR⟩,⟨j,k,l,m,n,o,aJ,aK,aM,aN,aS,aT,rfl,p,q,r,s2,aP,aV⟩,w0,w1,w2,aQ,aW⟩
theorem AaD:ownKnob Tryz.prog.godebug=none:=by kernel_rfl
theorem W3:Kids Tryz.prog (· <Tryz.prog.types.size):=kids_rows (by kernel_rfl) (by kernel_rfl)
theorem W4:∀t e,t<Tryz.prog.types.size→Tryz.prog.underlying t=some (.slice e)→0<Tryz.prog.cellsOf e:=slices_full_of Tryz.prog (by kernel_rfl)
end Go.Proofs.YtbhofkcbfblijaaGreat
end
section
namespace Go.Proofs.YtbhofkcbfblijaaGreat
open Go
theorem CG{a b:Bool}(h:a=true)(g:b=true):(a&&b)=true:=by rw[h,g];rfl
theorem KJ{a b:Bool}(h:(a&&b)=true):a=true:=(Bool.and_eq_true _ _▸h:a=true∧b=true).1
theorem Of{a b:Bool}(h:(a&&b)=true):b=true:=(Bool.and_eq_true _ _▸h:a=true∧b=true).2
theorem Ve:laidOutB Tryz.checked.prog=true:=by kernel_rfl
theorem Vf:mapsRowed Tryz.checked.prog=true:=by kernel_rfl
theorem Tw:(Tryz.checked.prog.stops==[])=true:=by kernel_rfl
theorem Tx:(Tryz.checked.prog.stopKnobs==[])=true:=by kernel_rfl
theorem Ty:Tryz.checked.prog.stopsHeard=true:=by kernel_rfl
theorem Vg:(Rows.tradePlaysRow.plainKeys==Tryz.checked.prog.plainKeys)=true:=by kernel_rfl
theorem Mw:(Tryz.checked.prog.mayEnter&&(Rows.tradePlaysRow.lifted==Tryz.checked.prog.liftsFinal)&&(Tryz.checked.prog.make==some Rows.tradePlaysRow.make))=true:=by kernel_rfl
end Go.Proofs.YtbhofkcbfblijaaGreat
end
