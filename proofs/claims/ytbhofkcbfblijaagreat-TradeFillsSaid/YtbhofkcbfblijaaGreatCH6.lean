import Derived.Test.YtbhofkcbfblijaaGreatCH5
import Derived.WalkKit
import Derived.KernelRfl
import Derived.WalkSpells
import Derived.WalkLawsBesides
import Derived.Maps.AppendAt
import Derived.OrdersIn
import Derived.RangeFuncIn
import Derived.RangeFuncLeaves
import Derived.RangeFuncRecord
import Derived.RangeFuncSeq
import Derived.Scope
import Derived.DeepKeys3
import Derived.Laws.CopyRow
import Derived.Laws.OwnMore
import Derived.Laws.MakeOwn
import Derived.Laws.IdiomCopy
import Derived.Sort.OwnSortedInts
import Derived.Lib.RowBridge
import Derived.Shelf.Sort.Plain
import Derived.Ground.Names2Prog
import Derived.Shelf.Slices.Clone
import Derived.Shelf.Slices.CompactI
import Derived.Shelf.Slices.In.SortNone
import Derived.Ground.SlgnProg
import Derived.Shelf.SlicesE.Clone
import Derived.ProofKit
import Derived.ChangeSame
import Derived.SizedLaws
import Derived.Deep.Slices
import Derived.JoinedOf
import Derived.Test.YtbhofkcbfblijaaGreatProg
import Derived.Test.YtbhofkcbfblijaaGreatRows
/-
  The contracts of the functions of the program and of the reference, and the logic that they are proved in: the base that several claims of this seat share.
-/
set_option linter.all false
section
namespace Go.Proofs.YtbhofkcbfblijaaGreat
open Go.RowKit Go.WideShapes
set_option maxRecDepth 20000
open HF
attribute [local irreducible] Dm WL CC CW LV B7 Ih GL One Bg
theorem a98 q a(Z:Nat→Prop) w i(j:Lb q a=some i):
 B7 Tryz.prog 98 #[.agg #[I a.Lo,I a.Hi]] w (fun v w'=>Ext w w'∧(Fx Az).R w' (zf Z w []) v i):=by
 unfold Lb at j;refine rq (N:=8) Tryz.func98 fun r ha s=>?_;have h:=sA 0 ha;clear ha;have e:Hp FN [] w [] w:=Hp.start (BL.none w);refine cr<|wE (fun st=>BP (v:=.agg #[I a.Lo,I a.Hi]) (cs:= #[I a.Lo,I a.Hi]) (ee st h) rfl) ?_;rintro _ w1 ⟨b1,rfl,d⟩;have f:=e.nb d;have o:=e.BU d;refine wE (fun st=>CR (cs:= #[I 0,I 0]) R1 rfl) ?_;rintro _ w2 ⟨b2,rfl,b⟩;have k:=f.nb b;have p:=f.BU b;refine wr<|wD (fun st=>Ad (eR st) (JG _ _)) ?_;have c:=(d.bk.ext b.gr);refine wD (fun st=>As (v:=I a.Lo) Bh (eR st) c rfl)<|wD (fun st=>Ad (eR st) (Le _ _))<|wD (fun st=>As (v:=I a.Hi) Bh (eR st) c rfl)<|wD (fun st=>Fp (vs:= #[(0,I a.Lo),(1,I a.Hi)]) (v:=.agg #[I a.Lo,I a.Hi]) (Kz (eR st) (eR st)) (by kernel_rfl))<|Cs rfl rfl (fun st=>Ca (n:=2) (l:=[I a.Lo,I a.Hi]) (DO:= #[I a.Lo,I a.Hi]) (eR st) (eR st) P9 b.bk rfl rfl (show 0+2≤2 by decide) (BJ rfl) rfl) ?_;rintro _ t g;have m:=k.gr g.gr 0 rfl;refine wn<|Av ?_;obtain rfl:=oi j;refine Io (v:=.agg #[I a.Lo,I a.Hi]) rfl rfl (ET MD g.bk rfl rfl) ?_;exact⟨m.AS,⟨_,rfl,rfl⟩⟩
theorem a99 z d a b(Z:Nat→Prop) w(j:Sl (Ao .i64) w Z a b d) t(f:LD z d=some t):
 B7 Tryz.prog 99 #[.slice a d.length b] w (fun v w'=>Ext w w'∧(Fq (Ao .i64)).R w' (zf Z w []) v t):=by
 unfold LD at f;refine rq (N:=6) Tryz.func99 fun aC ha aD=>?_;have s:=sA 0 ha;clear ha;have m:Hp FN [] w [] w:=Hp.start (BL.none w);have g:=j.mv (Bd (Z:=Z) (L:=[]) w);refine cr<|wA (v:=.slice none 0 0) rfl<|wr<|wE (fun st=>Cx (e:=3) (vs:= #[]) (cs:= #[]) WT (by kernel_rfl)) ?_;rintro _ w1 ⟨b1,rfl,c⟩;have i:=m.nb c;have l:=m.BU c;refine wM (v:=.slice a d.length b) s ?_;have u:BH (Ao .i64) 3 w.heap.size w1 (zf Z w [some b1]) (some ⟨b1,0,none⟩) 0 ([]:List Int):=P6 (CM:=[]) c.bk l trivial rfl (by simp[maxLen]);replace f:=Ci f;obtain⟨o,f⟩:=f;have h:=(g.mv (AA c));refine wE (fun st=>I0 (ys:=d) Tryz.underlying31 HG rfl rfl (by decide) (eR st) rfl (eR st) u h.n (by have:=o;simp only[maxLen];omega) (by have:=o;omega) i.sz) ?_;rintro _ aE ⟨aA,aB,rfl,p,q,x⟩;have r:=i.row p 0 rfl q;have y:=Eb x (i.DE p 0 rfl (fun k hk=>(q k hk).1));refine wA (v:=.slice aA ((([]:List Int)++d).length) aB) rfl<|wn<|Av ?_;obtain rfl:=oi f;refine Ay rfl rfl ?_;exact⟨r.AS,⟨_,_,rfl,r.HP (M:=[]) 0 rfl [] rfl trivial y⟩⟩
set_option maxHeartbeats 4000000 in
theorem a27 cS s y z aA aB aC aD(Z:Nat→Prop) w(fU:Sl Az w Z y z s.Ax)(fV:Sl (Bs (Ao .i64)) w Z aA aB s.Bv)(fW:Sl AH w Z aC aD s.AQ) hI(c:HT cS s=some hI):
 B7 Tryz.prog 27 #[.agg (AE y z aA aB aC aD s).toArray] w (fun v w'=>Ext w w'∧(Fx Xm).R w' (zf Z w []) v hI):=by
 unfold HT at c;refine rq (N:=70) Tryz.func27 fun iP ha iQ=>?_;have gC:=sA 0 ha;clear ha;have f8:Hp FN [] w [] w:=Hp.start (BL.none w);have ⟨d7,d8,d9⟩:=DU fU fV fW (Bd (Z:=Z) (L:=[]) w);refine cr<|wE (fun st=>BP (v:=.agg (AE y z aA aB aC aD s).toArray) (cs:=(AE y z aA aB aC aD s).toArray) (ee st gC) rfl) ?_;rintro _ w1 ⟨b1,rfl,d3⟩;have f9:=f8.nb d3;have h9:=f8.BU d3;refine wE (fun st=>CR (cs:= #[.slice none 0 0,.slice none 0 0,.slice none 0 0]) VZ rfl) ?_;rintro _ w2 ⟨b2,rfl,c7⟩;have gA:=f9.nb c7;have iA:=f9.BU c7;refine wr<|wE (fun st=>CR (cs:= #[.slice none 0 0,.slice none 0 0,.slice none 0 0]) VZ rfl) ?_;rintro _ iG ⟨b3,rfl,cV⟩;have hJ:=gA.nb cV;have iB:=gA.BU cV;refine wn<|Af<|cr<|wA (v:=I 0) rfl<|wn<|AI ?_;have hL:=hJ.nil;have hM:BH Az 131 w.heap.size iG (zf Z w [none,some b3,some b2,some b1]) none 0 ([]:List Bl):=BH.nil _ _ _ _ _;replace c:=bind_some c;obtain⟨z4,cW,c⟩:=c;refine BX (fun c8 p o=>(c8=.exit 0∧∃a d,Fo X0 70 p∧sl p 1=pt b1 0∧sl p 2=pt b2 0∧sl p 3=pt b3 0∧Hp FN [] w [ob a,some b3,some b2,some b1] o∧BH Az 131 w.heap.size o (zf Z w [ob a,some b3,some b2,some b1]) a d z4∧Bk o b1 26 (AE y z aA aB aC aD s).toArray∧Bk o b2 38 #[.slice none 0 0,.slice none 0 0,.slice none 0 0]∧Bk o b3 38 #[.slice a z4.length d,.slice none 0 0,.slice none 0 0]∧Sl Az o (zf Z w [ob a,some b3,some b2,some b1]) y z s.Ax∧Sl (Bs (Ao .i64)) o (zf Z w [ob a,some b3,some b2,some b1]) aA aB s.Bv∧Sl AH o (zf Z w [ob a,some b3,some b2,some b1]) aC aD s.AQ)) ?hN ?hO
 case hN=>
  clear c;refine BW (fun cA p o=>∃aY,∃aI,∃r aU,FO cS s cA aY aI=some z4∧Fo X0 70 p∧sl p 1=pt b1 0∧sl p 2=pt b2 0∧sl p 3=pt b3 0∧sl p 4=I aY∧Hp FN [] w [ob r,some b3,some b2,some b1] o∧BH Az 131 w.heap.size o (zf Z w [ob r,some b3,some b2,some b1]) r aU aI∧Bk o b1 26 (AE y z aA aB aC aD s).toArray∧Bk o b2 38 #[.slice none 0 0,.slice none 0 0,.slice none 0 0]∧Bk o b3 38 #[.slice r aI.length aU,.slice none 0 0,.slice none 0 0]∧Sl Az o (zf Z w [ob r,some b3,some b2,some b1]) y z s.Ax∧Sl (Bs (Ao .i64)) o (zf Z w [ob r,some b3,some b2,some b1]) aA aB s.Bv∧Sl AH o (zf Z w [ob r,some b3,some b2,some b1]) aC aD s.AQ) cS ?hP ?hQ
  case hP=>
   intro st;have fX:=((d3.bk.ext c7.gr).ext cV.gr);have fY:=(c7.bk.ext cV.gr);have fZ:=cV.bk;have ⟨eA,eB,eC⟩:=DU d7 d8 d9 (mt (AA d3) (mt (AA c7) (mt (AA cV) B8)));exact⟨(0:Int),([]:List Bl),none,0,cW,qo st,sp st 1 rfl,sp st 2 rfl,sp st 3 rfl,sp st 4 rfl,hL,hM,fX,fY,fZ,eA,eB,eC⟩
  case hQ=>
   rintro(_|cA) iR iS ⟨aY,aI,r,aU,cW,gD,b8,d4,b9,c3,eU,bI,bJ,c9,cB,bG,cC,cD⟩
   ·exact absurd (show none=some _ from cW) (by simp)
   rw[FO.eq_2] at cW;have c:=cW;clear cW;refine ro gD<|Af<|cr<|wM (v:=I aY) c3<|wD (fun st=>Ad (ee st b8) (Ej _ _))<|wD (fun st=>As (v:=.slice y s.Ax.length z) EJ (eR st) bJ rfl)<|wD (fun st=>Be Tryz.underlying22 (eR st))<|wD (fun st=>B9 (eR st) (eR st))<|wn ?_;rcases Ae (decide (aY<(s.Ax.length:Int))) with dA|dA
   ·replace c:=Ap c dA;refine Am rfl dA<|cn<|Af<|AI ?_;replace c:=AP c;obtain⟨i8,eV,hR,hS,hT,c⟩:=c;obtain⟨iH,iI,_,hU,rfl,hV⟩:=Sl.elem bG (by decide) hS;replace c:=bind_some c;obtain⟨a8,hW,c⟩:=c;refine BK 9 [Kc (pt b3 0),Kc (.slice r aI.length aU),Kc (pt b1 0),Kc (.slice y s.Ax.length z),Kc (I aY),Kc (pt iH (iI+i8*2)),Kc (.agg #[I eV.Lo,I eV.Hi]),Kc (.agg #[I a8.Lo,I a8.Hi]),Kv (Fq Az) (zf Z w [ob r,some b3,some b2,some b1]) [a8]] mixed rfl rfl
        (Aa (oD (fun K=>Ad (es ((K.out 3 rfl).trans b9)) (LO _ _)))
        (Aa (oD (fun K=>As Nf (es (K.dq 0 15)) (cB.ext K.AD) rfl))
        (Aa (oD (fun K=>Ad (es ((K.out 1 rfl).trans b8)) (Ej _ _)))
        (Aa (oD (fun K=>As EJ (es (K.dq 2 17)) (bJ.ext K.AD) rfl))
        (Aa (oD (fun K=>Au (es ((K.out 4 rfl).trans c3))))
        (Aa (oD (fun K=>BD (k:=i8) Tryz.underlying22 Gu (es (K.dq 3 18)) hU (es (K.dq 4 19)) hR hT))
        (Aa (oD (fun K=>DF (l:=[I eV.Lo,I eV.Hi]) GR (es (K.dq 5 20)) (hV.mv (Ac K.AD)) rfl rfl))
        (Aa (oE (fun K=>(Aj Aaw rfl (Cy (es (K.dq 6 21))) (a98 cS eV ZA _ a8 hW)).mono (fun _ _ h=>⟨(by obtain⟨_,rfl,rfl⟩:=h.2;rfl),h.1⟩)))
        (Aa (MH rfl rfl (fun a' w' ph K=>(Cx (e:=131) (vs:= #[(0,.agg #[I a8.Lo,I a8.Hi])]) (cs:= #[I a8.Lo,I a8.Hi]) (I5 (es (K.dq 7 22))) (by kernel_rfl)).mono (fun u CO ⟨hX,hu,hn⟩=>⟨⟨_,_,hu,JQ (xs:=[a8]) (CM:=[[I a8.Lo,I a8.Hi]]) hn.bk ((eU.ext K.AD).kn (Nat.le_of_eq hn.IL.symm)) (R2.mv (Ac hn.gr) (show R2 Az w' (zf Z w [ob r,some b3,some b2,some b1]) [[I a8.Lo,I a8.Hi]] [a8] from⟨rfl,trivial⟩)) rfl (Nat.le_refl _)⟩,hn.gr⟩)))
        (BI _)))))))))) ?_
    intro i6;rintro _ rfl _ rfl _ rfl _ rfl _ rfl _ rfl _ rfl _ rfl _ ⟨iC,iD,rfl,eW⟩ cE;have cF:=eU.ext cE;have dB:=(bI.ext cE (Ac cE));replace c:=Ci c;obtain⟨eX,c⟩:=c;refine wE (fun st=>I0 (ys:=[a8]) Tryz.underlying35 Abv rfl rfl (by decide) (eR st) rfl (eR st) dB eW.n (by have:=eX;simp only[maxLen];omega) (by have:=eX;omega) cF.sz) ?_;rintro _ iT ⟨eY,eZ,rfl,bN,dL,gE⟩;have cX:=cF.row bN 0 rfl dL;have gF:=Eb gE (cF.DE bN 0 rfl (fun k hk=>(dL k hk).1));refine wD (fun st=>Ad (ee st b9) (LO _ _)) ?_;have f0:=((cB.ext cE).gr bN (cF.nq 1 0));refine Cs rfl rfl (fun st=>Ca (n:=1) (l:=[.slice eY ((aI++[a8]).length) eZ]) (DO:= #[.slice eY ((aI++[a8]).length) eZ,.slice none 0 0,.slice none 0 0]) (eR st) (eR st) Afr f0 rfl rfl (show 0+1≤3 by decide) (BJ rfl) rfl) ?_;rintro _ iU bH;have hY:=cX.gr bH.gr 1 rfl;refine AU<|CS<|Al<|wM (v:=I aY) c3 ?_;replace c:=AF c;obtain⟨gG,c⟩:=c;refine wD (fun st=>BG (eR st) (eR st) gG)<|wA (v:=I (aY+1)) rfl<|AU ?_;have e0:=(gF.gr bH.gr (fun k hk=>cX.ne 0 1 rfl (congrArg some hk) rfl) (cX.Co bH.gr 1 rfl));have f1:=(((bJ.ext cE).gr bN (cF.nq 3 0)).gr bH.gr (cX.nq 3 1));have f2:=(((c9.ext cE).gr bN (cF.nq 2 0)).gr bH.gr (cX.nq 2 1));have ⟨eD,eE,eF⟩:=DU bG cC cD (mt (Ac cE) (mt (cF.DE bN 0 rfl (fun k hk=>(dL k hk).1)) (cX.Co bH.gr 1 rfl)));refine Bi cA (Nat.lt_succ_self _) (fun st=>?_);exact⟨(aY+1),(aI++[a8]),eY,eZ,c,qo st,sp st 1 b8,sp st 2 d4,sp st 3 b9,sp st 4 rfl,hY,e0,f1,f2,bH.bk,eD,eE,eF⟩
   ·replace c:=Aq c dA;refine An rfl dA<|Dq ?_;obtain rfl:=oi c;refine BC (fun st=>?_);exact⟨rfl,r,aU,qo st,sp st 1 b8,sp st 2 d4,sp st 3 b9,eU,bI,bJ,c9,cB,bG,cC,cD⟩
 case hO=>
  rintro c8 iJ hZ (⟨rfl,a,d,f3,e1,e2,e3,gH,cG,e4,e5,e6,dM,dN,dO⟩);refine lf f3<|AZ<|BS<|Af<|cr<|wA (v:=I 0) rfl<|wn<|AI ?_;have gI:=gH.nil;have gJ:BH (Bs (Ao .i64)) 31 w.heap.size hZ (zf Z w [none,ob a,some b3,some b2,some b1]) none 0 ([]:List (List Int)):=BH.nil _ _ _ _ _;replace c:=bind_some c;obtain⟨a4,bO,c⟩:=c;refine BX (fun c8 p o=>(c8=.exit 2∧∃b g,Fo X0 70 p∧sl p 1=pt b1 0∧sl p 2=pt b2 0∧sl p 3=pt b3 0∧Hp FN [] w [ob b,ob a,some b3,some b2,some b1] o∧BH (Bs (Ao .i64)) 31 w.heap.size o (zf Z w [ob b,ob a,some b3,some b2,some b1]) b g a4∧BH Az 131 w.heap.size o (zf Z w [ob b,ob a,some b3,some b2,some b1]) a d z4∧Bk o b1 26 (AE y z aA aB aC aD s).toArray∧Bk o b2 38 #[.slice none 0 0,.slice none 0 0,.slice none 0 0]∧Bk o b3 38 #[.slice a z4.length d,.slice b a4.length g,.slice none 0 0]∧Sl Az o (zf Z w [ob b,ob a,some b3,some b2,some b1]) y z s.Ax∧Sl (Bs (Ao .i64)) o (zf Z w [ob b,ob a,some b3,some b2,some b1]) aA aB s.Bv∧Sl AH o (zf Z w [ob b,ob a,some b3,some b2,some b1]) aC aD s.AQ)) ?gK ?gL
  case gK=>
   clear c;refine BW (fun cA p o=>∃aJ,∃aE,∃i aL,FC cS s cA aJ aE=some a4∧Fo X0 70 p∧sl p 1=pt b1 0∧sl p 2=pt b2 0∧sl p 3=pt b3 0∧sl p 5=I aJ∧Hp FN [] w [ob i,ob a,some b3,some b2,some b1] o∧BH Az 131 w.heap.size o (zf Z w [ob i,ob a,some b3,some b2,some b1]) a d z4∧BH (Bs (Ao .i64)) 31 w.heap.size o (zf Z w [ob i,ob a,some b3,some b2,some b1]) i aL aE∧Bk o b1 26 (AE y z aA aB aC aD s).toArray∧Bk o b2 38 #[.slice none 0 0,.slice none 0 0,.slice none 0 0]∧Bk o b3 38 #[.slice a z4.length d,.slice i aE.length aL,.slice none 0 0]∧Sl Az o (zf Z w [ob i,ob a,some b3,some b2,some b1]) y z s.Ax∧Sl (Bs (Ao .i64)) o (zf Z w [ob i,ob a,some b3,some b2,some b1]) aA aB s.Bv∧Sl AH o (zf Z w [ob i,ob a,some b3,some b2,some b1]) aC aD s.AQ) cS ?gM ?gN
   case gM=>
    intro st;have cH:=(cG.up B8);have e7:=e4;have e8:=e5;have e9:=e6;have ⟨dP,dQ,dR⟩:=DU dM dN dO B8;exact⟨(0:Int),([]:List (List Int)),none,0,bO,qo st,sp st 1 e1,sp st 2 e2,sp st 3 e3,sp st 5 rfl,gI,cH,gJ,e7,e8,e9,dP,dQ,dR⟩
   case gN=>
    rintro(_|cA) iK iL ⟨aJ,aE,i,aL,bO,f4,bK,dC,bL,cI,c4,a5,a9,bF,cY,bP,bV,bA,bW⟩
    ·exact absurd (show none=some _ from bO) (by simp)
    rw[FC.eq_2] at bO;have c:=bO;clear bO;refine ro f4<|Af<|cr<|wM (v:=I aJ) cI<|wD (fun st=>Ad (ee st bK) (DP _ _))<|wD (fun st=>As (v:=.slice aA s.Bv.length aB) DH (eR st) bF rfl)<|wD (fun st=>Be Tryz.underlying23 (eR st))<|wD (fun st=>B9 (eR st) (eR st))<|wn ?_;rcases Ae (decide (aJ<(s.Bv.length:Int))) with cJ|cJ
    ·replace c:=Ap c cJ;refine Am rfl cJ<|cn<|Af<|AI ?_;replace c:=AP c;obtain⟨i18,gB,gO,gP,gQ,c⟩:=c;obtain⟨h3,h4,_,gR,⟨d5,d6,rfl,fA⟩,gS⟩:=Sl.Cz bA rfl gP;replace c:=bind_some c;obtain⟨aR,gT,c⟩:=c;refine BK 9 [Kc (pt b3 1),Kc (.slice i aE.length aL),Kc (pt b1 1),Kc (.slice aA s.Bv.length aB),Kc (I aJ),Kc (pt h3 (h4+i18)),Kc (.slice d5 gB.length d6),Kv (Fq (Ao .i64)) (zf Z w [ob i,ob a,some b3,some b2,some b1]) aR,Kv (Fq (Bs (Ao .i64))) (zf Z w [ob i,ob a,some b3,some b2,some b1]) [aR]] mixed rfl rfl
         (Aa (oD (fun K=>Ad (es ((K.out 3 rfl).trans bL)) (ME _ _)))
         (Aa (oD (fun K=>As DH (es (K.dq 0 33)) (bP.ext K.AD) rfl))
         (Aa (oD (fun K=>Ad (es ((K.out 1 rfl).trans bK)) (DP _ _)))
         (Aa (oD (fun K=>As DH (es (K.dq 2 35)) (bF.ext K.AD) rfl))
         (Aa (oD (fun K=>Au (es ((K.out 5 rfl).trans cI))))
         (Aa (oD (fun K=>AR (k:=i18) Tryz.underlying23 ES (es (K.dq 3 36)) gR (es (K.dq 4 37)) gO gQ))
         (Aa (oD (fun K=>Bb DB (es (K.dq 5 38)) (gS.mv (Ac K.AD)) rfl))
         (Aa (oE (fun K=>(Aj AeL rfl (Cy (es (K.dq 6 39))) (a99 cS gB d5 d6 (zf Z w [ob i,ob a,some b3,some b2,some b1]) _ (fA.mv (Ac K.AD)) aR gT)).mono (fun _ _ h=>⟨(Fq (Ao .i64)).mv h.2 ((c4.ext K.AD).CQ (Nat.le_refl _)),h.1⟩)))
         (Aa (MH rfl rfl (fun a' w' ph K=>match K.dq 7 40 with|⟨aV,aW,f5,cZ⟩=>(Cx (e:=31) (vs:= #[(0,.slice aV aR.length aW)]) (cs:= #[.slice aV aR.length aW]) (I5 (es (t:=40) (v:=.slice aV aR.length aW) f5)) (by kernel_rfl)).mono (fun u CO ⟨hX,hu,hn⟩=>⟨⟨_,_,hu,JQ (xs:=[aR]) (CM:=[[.slice aV aR.length aW]]) hn.bk ((c4.ext K.AD).kn (Nat.le_of_eq hn.IL.symm)) (R2.mv (Ac hn.gr) (show R2 (Bs (Ao .i64)) w' (zf Z w [ob i,ob a,some b3,some b2,some b1]) [[.slice aV aR.length aW]] [aR] from⟨⟨_,_,rfl,cZ⟩,trivial⟩)) rfl (Nat.le_refl _)⟩,hn.gr⟩)))
         (BI _)))))))))) ?_
     intro iV;rintro _ rfl _ rfl _ rfl _ rfl _ rfl _ rfl _ rfl _ ⟨aV,aW,rfl,cZ⟩ _ ⟨h6,h7,rfl,eG⟩ aZ;have a0:=c4.ext aZ;have cT:=(a9.ext aZ (Ac aZ));replace c:=Ci c;obtain⟨fB,c⟩:=c;refine wE (fun st=>I0 (ys:=[aR]) Tryz.underlying23 Kr rfl rfl (by decide) (eR st) rfl (eR st) cT eG.n (by have:=fB;simp only[maxLen];omega) (by have:=fB;omega) a0.sz) ?_;rintro _ iW ⟨fC,fD,rfl,bB,c5,gU⟩;have bC:=a0.row bB 0 rfl c5;have gV:=Eb gU (a0.DE bB 0 rfl (fun k hk=>(c5 k hk).1));refine wD (fun st=>Ad (ee st bL) (ME _ _)) ?_;have fE:=((bP.ext aZ).gr bB (a0.nq 2 0));refine Cs rfl rfl (fun st=>Ca (n:=1) (l:=[.slice fC ((aE++[aR]).length) fD]) (DO:= #[.slice a z4.length d,.slice fC ((aE++[aR]).length) fD,.slice none 0 0]) (eR st) (eR st) Acg fE rfl rfl (show 1+1≤3 by decide) (BJ rfl) rfl) ?_;rintro _ iX a2;have gW:=bC.gr a2.gr 2 rfl;refine AU<|CS<|Al<|wM (v:=I aJ) cI ?_;replace c:=AF c;obtain⟨gX,c⟩:=c;refine wD (fun st=>BG (eR st) (eR st) gX)<|wA (v:=I (aJ+1)) rfl<|AU ?_;have cK:=(((a5.ext aZ (Ac aZ)).gr bB (fun k hk=>a0.ne 1 0 rfl (congrArg some hk) rfl) (a0.DE bB 0 rfl (fun k hk=>(c5 k hk).1))).gr a2.gr (fun k hk=>bC.ne 1 2 rfl (congrArg some hk) rfl) (bC.Co a2.gr 2 rfl));have eH:=(gV.gr a2.gr (fun k hk=>bC.ne 0 2 rfl (congrArg some hk) rfl) (bC.Co a2.gr 2 rfl));have fF:=(((bF.ext aZ).gr bB (a0.nq 4 0)).gr a2.gr (bC.nq 4 2));have fG:=(((cY.ext aZ).gr bB (a0.nq 3 0)).gr a2.gr (bC.nq 3 2));have ⟨dS,dT,dU⟩:=DU bV bA bW (mt (Ac aZ) (mt (a0.DE bB 0 rfl (fun k hk=>(c5 k hk).1)) (bC.Co a2.gr 2 rfl)));refine Bi cA (Nat.lt_succ_self _) (fun st=>?_);exact⟨(aJ+1),(aE++[aR]),fC,fD,c,qo st,sp st 1 bK,sp st 2 dC,sp st 3 bL,sp st 5 rfl,gW,cK,eH,fF,fG,a2.bk,dS,dT,dU⟩
    ·replace c:=Aq c cJ;refine An rfl cJ<|Dq ?_;obtain rfl:=oi c;refine BC (fun st=>?_);exact⟨rfl,i,aL,qo st,sp st 1 bK,sp st 2 dC,sp st 3 bL,c4,a9,a5,bF,cY,bP,bV,bA,bW⟩
  case gL=>
   rintro c8 iE gY (⟨rfl,b,g,fH,eI,eJ,eK,f6,bQ,bY,eM,eN,eO,dD,dE,dF⟩);refine lf fH<|AZ<|BS<|Af<|cr<|wA (v:=I 0) rfl<|wn<|AI ?_;have gZ:=f6.nil;have g0:BH AH 133 w.heap.size gY (zf Z w [none,ob b,ob a,some b3,some b2,some b1]) none 0 ([]:List DL):=BH.nil _ _ _ _ _;replace c:=bind_some c;obtain⟨z24,bR,c⟩:=c;refine BX (fun c8 p o=>(c8=.exit 4∧∃j x,Fo X0 70 p∧sl p 2=pt b2 0∧sl p 3=pt b3 0∧Hp FN [] w [ob j,ob b,ob a,some b3,some b2,some b1] o∧BH (Bs (Ao .i64)) 31 w.heap.size o (zf Z w [ob j,ob b,ob a,some b3,some b2,some b1]) b g a4∧BH AH 133 w.heap.size o (zf Z w [ob j,ob b,ob a,some b3,some b2,some b1]) j x z24∧BH Az 131 w.heap.size o (zf Z w [ob j,ob b,ob a,some b3,some b2,some b1]) a d z4∧Bk o b2 38 #[.slice none 0 0,.slice none 0 0,.slice none 0 0]∧Bk o b3 38 #[.slice a z4.length d,.slice b a4.length g,.slice j z24.length x])) ?g1 ?g2
   case g1=>
    clear c;refine BW (fun cA p o=>∃aK,∃aF,∃m aM,FD cS s cA aK aF=some z24∧Fo X0 70 p∧sl p 1=pt b1 0∧sl p 2=pt b2 0∧sl p 3=pt b3 0∧sl p 6=I aK∧Hp FN [] w [ob m,ob b,ob a,some b3,some b2,some b1] o∧BH (Bs (Ao .i64)) 31 w.heap.size o (zf Z w [ob m,ob b,ob a,some b3,some b2,some b1]) b g a4∧BH Az 131 w.heap.size o (zf Z w [ob m,ob b,ob a,some b3,some b2,some b1]) a d z4∧BH AH 133 w.heap.size o (zf Z w [ob m,ob b,ob a,some b3,some b2,some b1]) m aM aF∧Bk o b1 26 (AE y z aA aB aC aD s).toArray∧Bk o b2 38 #[.slice none 0 0,.slice none 0 0,.slice none 0 0]∧Bk o b3 38 #[.slice a z4.length d,.slice b a4.length g,.slice m aF.length aM]∧Sl Az o (zf Z w [ob m,ob b,ob a,some b3,some b2,some b1]) y z s.Ax∧Sl (Bs (Ao .i64)) o (zf Z w [ob m,ob b,ob a,some b3,some b2,some b1]) aA aB s.Bv∧Sl AH o (zf Z w [ob m,ob b,ob a,some b3,some b2,some b1]) aC aD s.AQ) cS ?g3 ?g4
    case g3=>
     intro st;have bZ:=(bQ.up B8);have cL:=(bY.up B8);have fI:=eM;have fJ:=eN;have fK:=eO;have ⟨dV,dW,dX⟩:=DU dD dE dF B8;exact⟨(0:Int),([]:List DL),none,0,bR,qo st,sp st 1 eI,sp st 2 eJ,sp st 3 eK,sp st 6 rfl,gZ,bZ,cL,g0,fI,fJ,fK,dV,dW,dX⟩
    case g4=>
     rintro(_|cA) iM iN ⟨aK,aF,m,aM,bR,f7,cM,dG,bM,cN,dY,aX,a7,bD,bS,c0,c1,dH,dI,bX⟩
     ·exact absurd (show none=some _ from bR) (by simp)
     rw[FD.eq_2] at bR;have c:=bR;clear bR;refine ro f7<|Af<|cr<|wM (v:=I aK) cN<|wD (fun st=>Ad (ee st cM) (II _ _))<|wD (fun st=>As (v:=.slice aC s.AQ.length aD) JI (eR st) bS rfl)<|wD (fun st=>Be Tryz.underlying24 (eR st))<|wD (fun st=>B9 (eR st) (eR st))<|wn ?_;rcases Ae (decide (aK<(s.AQ.length:Int))) with cO|cO
     ·replace c:=Ap c cO;refine Am rfl cO<|cn<|Af<|AI<|cr<|wD (fun st=>Ad (ee st cM) (II _ _))<|wD (fun st=>As (v:=.slice aC s.AQ.length aD) JI (eR st) bS rfl)<|wM (v:=I aK) cN ?_;replace c:=AP c;obtain⟨i27,f,g5,g6,g7,c⟩:=c;obtain⟨iY,iZ,_,g8,rfl,g9⟩:=Sl.elem bX (by decide) g6;refine wD (fun st=>BD (k:=i27) Tryz.underlying24 OX (eR st) g8 (eR st) g5 g7)<|wD (fun st=>DF (l:=[.bool f.Ce,I f.Number,I f.AM,I f.AN]) OS (eR st) g9 rfl rfl)<|wE (fun st=>CR (cs:= #[.bool false,I 0,I 0,I 0]) Zn rfl) ?_;rintro _ i0 ⟨dJ,rfl,aH⟩;have aN:=dY.nb aH;have h8:=dY.BU aH;refine Cs rfl rfl (fun st=>Ca (n:=4) (l:=[.bool f.Ce,I f.Number,I f.AM,I f.AN]) (DO:= #[.bool f.Ce,I f.Number,I f.AM,I f.AN]) (eR st) (eR st) OX aH.bk rfl rfl (show 0+4≤4 by decide) (BJ rfl) rfl) ?_;rintro _ i1 aG;have fL:=aN.gr aG.gr 0 rfl;refine wn ?_;have dK:=((c1.ext aH.gr).gr aG.gr (aN.nq 4 0));replace c:=bind_some c;obtain⟨q,hA,c⟩:=c;refine BK 11 [Kc (pt b3 2),Kc (.slice m aF.length aM),Kc (pt dJ 0),Kc (.bool f.Ce),Kc (pt dJ 1),Kc (I f.Number),Kc (pt dJ 2),Kc (.agg #[I f.AM,I f.AN]),Kc (.agg #[I q.Lo,I q.Hi]),Kc (.agg #[.bool f.Ce,I f.Number,I q.Lo,I q.Hi]),Kv (Fq AH) (zf Z w [some dJ,ob m,ob b,ob a,some b3,some b2,some b1]) [(⟨f.Ce,f.Number,q.Lo,q.Hi⟩:DL)]] mixed rfl rfl
          (Aa (oD (fun K=>Ad (es ((K.out 3 rfl).trans bM)) (RA _ _)))
          (Aa (oD (fun K=>As U2 (es (K.dq 0 56)) (dK.ext K.AD) rfl))
          (Aa (oD (fun K=>Ad (K.kO 7) (NW _ _)))
          (Aa (oD (fun K=>As L3 (es (K.dq 2 58)) (aG.bk.ext K.AD) rfl))
          (Aa (oD (fun K=>Ad (K.kO 7) (Nj _ _)))
          (Aa (oD (fun K=>As Bh (es (K.dq 4 60)) (aG.bk.ext K.AD) rfl))
          (Aa (oD (fun K=>Ad (K.kO 7) (FZ _ _)))
          (Aa (oD (fun K=>AK (l:=[I f.AM,I f.AN]) GR (es (K.dq 6 62)) (aG.bk.ext K.AD) rfl rfl))
          (Aa (oE (fun K=>(Aj Aaw rfl (Cy (es (K.dq 7 63))) (a98 cS (⟨f.AM,f.AN⟩:Bl) ZA _ q hA)).mono (fun _ _ h=>⟨(by obtain⟨_,rfl,rfl⟩:=h.2;rfl),h.1⟩)))
          (Aa (oD (fun K=>Fp (vs:= #[(0,.bool f.Ce),(1,I f.Number),(2,.agg #[I q.Lo,I q.Hi])]) (v:=.agg #[.bool f.Ce,I f.Number,I q.Lo,I q.Hi]) (pm3 (es (K.dq 3 59)) (es (K.dq 5 61)) (es (K.dq 8 64))) (by kernel_rfl)))
          (Aa (MH rfl rfl (fun a' w' ph K=>(Cx (e:=133) (vs:= #[(0,.agg #[.bool f.Ce,I f.Number,I q.Lo,I q.Hi])]) (cs:= #[.bool f.Ce,I f.Number,I q.Lo,I q.Hi]) (I5 (es (K.dq 9 65))) (by kernel_rfl)).mono (fun u CO ⟨hX,hu,hn⟩=>⟨⟨_,_,hu,JQ (xs:=[(⟨f.Ce,f.Number,q.Lo,q.Hi⟩:DL)]) (CM:=[[.bool f.Ce,I f.Number,I q.Lo,I q.Hi]]) hn.bk ((fL.ext K.AD).kn (Nat.le_of_eq hn.IL.symm)) (R2.mv (Ac hn.gr) (show R2 AH w' (zf Z w [some dJ,ob m,ob b,ob a,some b3,some b2,some b1]) [[.bool f.Ce,I f.Number,I q.Lo,I q.Hi]] [(⟨f.Ce,f.Number,q.Lo,q.Hi⟩:DL)] from⟨rfl,trivial⟩)) rfl (Nat.le_refl _)⟩,hn.gr⟩)))
          (BI _)))))))))))) ?_
      intro i2;rintro _ rfl _ rfl _ rfl _ rfl _ rfl _ rfl _ rfl _ rfl _ rfl _ rfl _ ⟨hG,hH,rfl,dZ⟩ aO;have aP:=fL.ext aO;have cU:=(((bD.ext aH.gr (AA aH)).gr aG.gr (fun k hk=>aN.ne 1 0 rfl (congrArg some hk) rfl) (aN.Co aG.gr 0 rfl)).ext aO (Ac aO));replace c:=Ci c;obtain⟨fM,c⟩:=c;refine wE (fun st=>I0 (ys:=[(⟨f.Ce,f.Number,q.Lo,q.Hi⟩:DL)]) Tryz.underlying36 Abw rfl rfl (by decide) (eR st) rfl (eR st) cU dZ.n (by have:=fM;simp only[maxLen];omega) (by have:=fM;omega) aP.sz) ?_;rintro _ i3 ⟨fN,fO,rfl,aS,cP,hB⟩;have aT:=aP.row aS 1 rfl cP;have hC:=Eb hB (aP.DE aS 1 rfl (fun k hk=>(cP k hk).1));refine wD (fun st=>Ad (ee st bM) (RA _ _)) ?_;have fP:=((dK.ext aO).gr aS (aP.nq 4 1));refine Cs rfl rfl (fun st=>Ca (n:=1) (l:=[.slice fN ((aF++[(⟨f.Ce,f.Number,q.Lo,q.Hi⟩:DL)]).length) fO]) (DO:= #[.slice a z4.length d,.slice b a4.length g,.slice fN ((aF++[(⟨f.Ce,f.Number,q.Lo,q.Hi⟩:DL)]).length) fO]) (eR st) (eR st) Afs fP rfl rfl (show 2+1≤3 by decide) (BJ rfl) rfl) ?_;rintro _ i4 aQ;have hD:=aT.gr aQ.gr 4 rfl;refine AU<|CS<|Al<|wM (v:=I aK) cN ?_;replace c:=AF c;obtain⟨hE,c⟩:=c;refine wD (fun st=>BG (eR st) (eR st) hE)<|wA (v:=I (aK+1)) rfl<|AU ?_;have hF:=hD.erase 0;have b4:=((((((aX.ext aH.gr (AA aH)).gr aG.gr (fun k hk=>aN.ne 2 0 rfl (congrArg some hk) rfl) (aN.Co aG.gr 0 rfl)).ext aO (Ac aO)).gr aS (fun k hk=>aP.ne 2 1 rfl (congrArg some hk) rfl) (aP.DE aS 1 rfl (fun k hk=>(cP k hk).1))).gr aQ.gr (fun k hk=>aT.ne 2 4 rfl (congrArg some hk) rfl) (aT.Co aQ.gr 4 rfl)).up (AV 0));have cQ:=((((((a7.ext aH.gr (AA aH)).gr aG.gr (fun k hk=>aN.ne 3 0 rfl (congrArg some hk) rfl) (aN.Co aG.gr 0 rfl)).ext aO (Ac aO)).gr aS (fun k hk=>aP.ne 3 1 rfl (congrArg some hk) rfl) (aP.DE aS 1 rfl (fun k hk=>(cP k hk).1))).gr aQ.gr (fun k hk=>aT.ne 3 4 rfl (congrArg some hk) rfl) (aT.Co aQ.gr 4 rfl)).up (AV 0));have eP:=((hC.gr aQ.gr (fun k hk=>aT.ne 1 4 rfl (congrArg some hk) rfl) (aT.Co aQ.gr 4 rfl)).up (AV 0));have fQ:=(((((bS.ext aH.gr).gr aG.gr (aN.nq 6 0)).ext aO).gr aS (aP.nq 6 1)).gr aQ.gr (aT.nq 6 4));have fR:=(((((c0.ext aH.gr).gr aG.gr (aN.nq 5 0)).ext aO).gr aS (aP.nq 5 1)).gr aQ.gr (aT.nq 5 4));have fS:=aQ.bk;have ⟨d0,d1,d2⟩:=DU dH dI bX (mt (AA aH) (mt (aN.Co aG.gr 0 rfl) (mt (Ac aO) (mt (aP.DE aS 1 rfl (fun k hk=>(cP k hk).1)) (mt (aT.Co aQ.gr 4 rfl) (AV 0))))));refine Bi cA (Nat.lt_succ_self _) (fun st=>?_);exact⟨(aK+1),(aF++[(⟨f.Ce,f.Number,q.Lo,q.Hi⟩:DL)]),fN,fO,c,qo st,sp st 1 cM,sp st 2 dG,sp st 3 bM,sp st 6 rfl,hF,b4,cQ,eP,fQ,fR,fS,d0,d1,d2⟩
     ·replace c:=Aq c cO;refine An rfl cO<|Dq ?_;obtain rfl:=oi c;refine BC (fun st=>?_);exact⟨rfl,m,aM,qo st,sp st 2 dG,sp st 3 bM,dY,aX,bD,a7,c0,c1⟩
   case g2=>
    rintro c8 iF iO (⟨rfl,j,x,fT,c2,eQ,a3,bT,bU,b5,eS,eT⟩);refine lf fT<|AZ<|BS<|cr<|wD (fun st=>AK (l:=[.slice a z4.length d,.slice b a4.length g,.slice j z24.length x]) LH (ee st eQ) eT rfl rfl)<|Cs rfl rfl (fun st=>Ca (n:=3) (l:=[.slice a z4.length d,.slice b a4.length g,.slice j z24.length x]) (DO:= #[.slice a z4.length d,.slice b a4.length g,.slice j z24.length x]) (ee st c2) (eR st) Aci eS rfl rfl (show 0+3≤3 by decide) (BJ rfl) rfl) ?_;rintro _ i5 bE;have c6:=a3.gr bE.gr 4 rfl;refine wn<|Av ?_;obtain rfl:=oi c;refine Io (v:=.agg #[.slice a z4.length d,.slice b a4.length g,.slice j z24.length x]) rfl c2 (ET LH bE.bk rfl rfl) ?_;have cR:=(b5.gr bE.gr (fun k hk=>a3.ne 2 4 rfl (congrArg some hk) rfl) (a3.Co bE.gr 4 rfl));have b6:=(bT.gr bE.gr (fun k hk=>a3.ne 1 4 rfl (congrArg some hk) rfl) (a3.Co bE.gr 4 rfl));have b7:=(bU.gr bE.gr (fun k hk=>a3.ne 0 4 rfl (congrArg some hk) rfl) (a3.Co bE.gr 4 rfl));exact⟨c6.AS,⟨_,rfl,_,_,_,_,_,_,rfl,c6.HP (M:=[]) 2 rfl [] rfl trivial cR,c6.HP (M:=[]) 1 rfl [] rfl trivial b6,c6.HP (M:=[]) 0 rfl [] rfl trivial b7⟩⟩
theorem a23 aP b h i c d j m(Z:Nat→Prop) w(aQ:Sl Az w Z h i b.Ax)(aR:Sl (Bs (Ao .i64)) w Z c d b.Bv)(aS:Sl AH w Z j m b.AQ) a8(a:Ko aP b=some a8):
 B7 Tryz.prog 23 #[.agg (AE h i c d j m b).toArray] w (fun v w'=>Ext w w'∧Cm.R w' (zf Z w []) v a8):=by
 unfold Ko at a;refine rq (N:=42) Tryz.func23 fun bO ha bP=>?_;have aX:=sA 0 ha;clear ha;have aV:Hp FN [] w [] w:=Hp.start (BL.none w);have ⟨aH,s,aI⟩:=DU aQ aR aS (Bd (Z:=Z) (L:=[]) w);refine cr<|wE (fun st=>BP (v:=.agg (AE h i c d j m b).toArray) (cs:=(AE h i c d j m b).toArray) (ee st aX) rfl) ?_;rintro _ w1 ⟨b1,rfl,o⟩;have aB:=aV.nb o;have bL:=aV.BU o;refine wA (v:=.bool false) rfl<|wn<|Af<|cr<|wD (fun st=>Ad (eR st) (Ej _ _))<|wD (fun st=>As (v:=.slice h b.Ax.length i) EJ (eR st) o.bk rfl)<|wD (fun st=>Be Tryz.underlying22 (eR st))<|wD (fun st=>Gs (eR st) (eR st))<|wM (v:=.bool (decide ((5:Int)<(b.Ax.length:Int)))) rfl ?_;rcases Ae (decide ((5:Int)<(b.Ax.length:Int))) with f|f
 ·replace a:=Ap a f;refine wF f<|wF f<|wF f<|wF f<|wD (fun st=>AW (v:=.bool true) (eR st) f (eR st))<|wM (v:=.bool true) rfl<|wH<|wH<|wH<|wH<|wD (fun st=>AW (v:=.bool true) (eR st) rfl (eR st))<|wn<|Am rfl rfl<|cr<|wA (v:=.bool false) rfl<|wn<|Av<|AG ?_;obtain rfl:=oi a;refine Ay rfl rfl ?_;exact⟨aB.AS,rfl⟩
 ·replace a:=Aq a f;refine wG f (fun st=>Ad (eR st) (DP _ _))<|wG f (fun st=>As (v:=.slice c b.Bv.length d) DH (eR st) o.bk rfl)<|wG f (fun st=>Be Tryz.underlying23 (eR st))<|wG f (fun st=>Gs (eR st) (eR st))<|wD (fun st=>Bo (v:=.bool (decide ((5:Int)<(b.Bv.length:Int)))) (eR st) f (eR st))<|wM (v:=.bool (decide ((5:Int)<(b.Bv.length:Int)))) rfl ?_;rcases Ae (decide ((5:Int)<(b.Bv.length:Int))) with g|g
  ·replace a:=Ap a g;refine wF g<|wF g<|wF g<|wF g<|wD (fun st=>AW (v:=.bool true) (eR st) g (eR st))<|wn<|Am rfl rfl<|cr<|wA (v:=.bool false) rfl<|wn<|Av<|AG ?_;obtain rfl:=oi a;refine Ay rfl rfl ?_;exact⟨aB.AS,rfl⟩
  ·replace a:=Aq a g;refine wG g (fun st=>Ad (eR st) (II _ _))<|wG g (fun st=>As (v:=.slice j b.AQ.length m) JI (eR st) o.bk rfl)<|wG g (fun st=>Be Tryz.underlying24 (eR st))<|wG g (fun st=>Gs (eR st) (eR st))<|wD (fun st=>Bo (v:=.bool (decide ((7:Int)<(b.AQ.length:Int)))) (eR st) g (eR st))<|wn ?_;rcases Ae (decide ((7:Int)<(b.AQ.length:Int))) with aC|aC
   ·replace a:=Ap a aC;refine Am rfl aC<|cr<|wA (v:=.bool false) rfl<|wn<|Av<|AG ?_;obtain rfl:=oi a;refine Ay rfl rfl ?_;exact⟨aB.AS,rfl⟩
   ·replace a:=Aq a aC;refine An rfl aC<|cn<|Af<|cr<|wA (v:=I 0) rfl<|wn<|AI ?_;replace a:=bind_some a;obtain⟨z5,t,a⟩:=a;refine BX (fun aY q aT=>(aY=.ret∧∃u,z5=.inl u∧Fo X0 42 q∧sl q 2=.bool u∧w1=aT)∨(aY=.exit 0∧∃u,z5=.inr u∧Fo X0 42 q∧sl q 1=pt b1 0∧w1=aT)) ?a9 ?bA
    case a9=>
     clear a;refine BW (fun aZ q aT=>∃n,Gq b aZ n=some z5∧Fo X0 42 q∧sl q 1=pt b1 0∧sl q 3=I n∧w1=aT) aP ?bB ?bC
     case bB=>
      intro st;exact⟨(0:Int),t,qo st,sp st 1 rfl,sp st 3 rfl,rfl⟩
     case bC=>
      rintro(_|aZ) bQ _ ⟨n,t,a0,r,z,rfl⟩
      ·exact absurd (show none=some _ from t) (by simp)
      rw[Gq.eq_2] at t;have a:=t;clear t;refine ro a0<|Af<|cr<|wM (v:=I n) z<|wD (fun st=>Ad (ee st r) (DP _ _))<|wD (fun st=>As (v:=.slice c b.Bv.length d) DH (eR st) o.bk rfl)<|wD (fun st=>Be Tryz.underlying23 (eR st))<|wD (fun st=>B9 (eR st) (eR st))<|wn ?_;rcases Ae (decide (n<(b.Bv.length:Int))) with aD|aD
      ·replace a:=Ap a aD;refine Am rfl aD<|cn<|Af<|AI<|cr<|wD (fun st=>Ad (ee st r) (DP _ _))<|wD (fun st=>As (v:=.slice c b.Bv.length d) DH (eR st) o.bk rfl)<|wM (v:=I n) z ?_;replace a:=AP a;obtain⟨i7,bD,bE,bF,bG,a⟩:=a;have p:=(s.mv (AA o));obtain⟨bT,bU,_,bH,⟨a2,a3,rfl,bM⟩,bI⟩:=Sl.Cz p rfl bF;refine wD (fun st=>AR (k:=i7) Tryz.underlying23 ES (eR st) bH (eR st) bE bG)<|wD (fun st=>Bb (v:=.slice a2 bD.length a3) DB (eR st) bI rfl)<|wD (fun st=>Be Tryz.underlying31 (eR st))<|wD (fun st=>Gs (eR st) (eR st))<|wn ?_;rcases Ae (decide ((6:Int)<(bD.length:Int))) with aE|aE
       ·replace a:=Ap a aE;refine Am rfl aE<|cr<|wA (v:=.bool false) rfl<|wn<|Av<|Dd<|AG ?_;obtain rfl:=oi a;refine BC (fun st=>?_);exact .inl ⟨rfl,false,rfl,qo st,sp st 2 rfl,rfl⟩
       ·replace a:=Aq a aE;refine An rfl aE<|Ct<|CS<|Al<|wM (v:=I n) z ?_;replace a:=AF a;obtain⟨bJ,a⟩:=a;refine wD (fun st=>BG (eR st) (eR st) bJ)<|wA (v:=I (n+1)) rfl<|AU ?_;refine Bi aZ (Nat.lt_succ_self _) (fun st=>?_);exact⟨(n+1),a,qo st,sp st 1 r,sp st 3 rfl,rfl⟩
      ·replace a:=Aq a aD;refine An rfl aD<|Dq ?_;obtain rfl:=oi a;refine BC (fun st=>?_);exact .inr ⟨rfl,(),rfl,qo st,sp st 1 r,rfl⟩
    case bA=>
     rintro aY bN _ (⟨rfl,u,rfl,aA,aM,rfl⟩|⟨rfl,u,rfl,aA,aF,rfl⟩)
     ·skip
      replace a:=C9 a;refine lf aA<|Dd ?_;obtain rfl:=oi a;refine Ay rfl aM ?_;exact⟨aB.AS,rfl⟩
     ·skip
      replace a:=Da a;refine lf aA<|AZ<|BS<|cr<|wD (fun st=>AK (l:=(AE h i c d j m b)) Dt (ee st aF) o.bk rfl rfl) ?_;have ⟨x,p,y⟩:=DU aH s aI (AA o);replace a:=bind_some a;obtain⟨aN,a4,a⟩:=a;refine wE (fun st=>Aj Aav (eR st) (Cy (eR st)) (a24 aP b h i c d j m ZA _ x.all p.all y.all aN a4)) ?_;rintro _ bR ⟨aG,rfl⟩;have aW:=aB.ext aG;refine wD (fun st=>Db (eR st) (eR st))<|wM (v:=.bool (aN !=0)) rfl ?_;rcases Ae (aN !=0) with e|e
      ·replace a:=Ap a e;refine wF e<|wF e<|wF e<|wD (fun st=>AW (v:=.bool true) (eR st) e (eR st))<|wA (v:=.bool true) rfl<|wn<|Av ?_;obtain rfl:=oi a;refine Ay rfl rfl ?_;exact⟨aW.AS,rfl⟩
      ·replace a:=Aq a e;have aU:=(o.bk.ext aG);refine wG e (fun st=>AK (l:=(AE h i c d j m b)) Dt (ee st aF) aU rfl rfl) ?_;have ⟨aJ,aK,aL⟩:=DU x p y (Ac aG);replace a:=bind_some a;obtain⟨aO,a5,a⟩:=a;refine wX e (fun st=>Aj Ol (eR st) (Cy (eR st)) (a59 aP b h i c d j m ZA _ aJ.all aK.all aL.all aO a5)) ?_;rintro _ bS ⟨a7,rfl⟩;have bK:=aW.ext a7;refine wG e (fun st=>JP (eR st) (eR st))<|wD (fun st=>Bo (v:=.bool (decide (aO≤150))) (eR st) e (eR st))<|wA (v:=.bool (decide (aO≤150))) rfl<|wn<|Av ?_;obtain rfl:=oi a;refine Ay rfl rfl ?_;exact⟨bK.AS,rfl⟩
theorem Wx q a(Z:Nat→Prop) w i(j:Ge q a=some i):
 B7 Tryz.prog 66 #[.agg #[I a.Lo,I a.Hi]] w (fun v w'=>Ext w w'∧(Fx Az).R w' (zf Z w []) v i):=by
 unfold Ge at j;refine rq (N:=8) Tryz.func66 fun r ha s=>?_;have h:=sA 0 ha;clear ha;have e:Hp FN [] w [] w:=Hp.start (BL.none w);refine cr<|wE (fun st=>BP (v:=.agg #[I a.Lo,I a.Hi]) (cs:= #[I a.Lo,I a.Hi]) (ee st h) rfl) ?_;rintro _ w1 ⟨b1,rfl,d⟩;have f:=e.nb d;have o:=e.BU d;refine wE (fun st=>CR (cs:= #[I 0,I 0]) LP rfl) ?_;rintro _ w2 ⟨b2,rfl,b⟩;have k:=f.nb b;have p:=f.BU b;refine wr<|wD (fun st=>Ad (eR st) (JG _ _)) ?_;have c:=(d.bk.ext b.gr);refine wD (fun st=>As (v:=I a.Lo) Bh (eR st) c rfl)<|wD (fun st=>Ad (eR st) (Le _ _))<|wD (fun st=>As (v:=I a.Hi) Bh (eR st) c rfl)<|wD (fun st=>Fp (vs:= #[(0,I a.Lo),(1,I a.Hi)]) (v:=.agg #[I a.Lo,I a.Hi]) (Kz (eR st) (eR st)) (by kernel_rfl))<|Cs rfl rfl (fun st=>Ca (n:=2) (l:=[I a.Lo,I a.Hi]) (DO:= #[I a.Lo,I a.Hi]) (eR st) (eR st) IV b.bk rfl rfl (show 0+2≤2 by decide) (BJ rfl) rfl) ?_;rintro _ t g;have m:=k.gr g.gr 0 rfl;refine wn<|Av ?_;obtain rfl:=oi j;refine Io (v:=.agg #[I a.Lo,I a.Hi]) rfl rfl (ET Ht g.bk rfl rfl) ?_;exact⟨m.AS,⟨_,rfl,rfl⟩⟩
set_option maxHeartbeats 4000000 in
theorem M5 f9 x aN aO aP aQ aR aS aY aZ a0 a2 a3 a4(Z:Nat→Prop) w(jJ:Sl Az w Z aN aO x.Ag)(jK:Sl (Bs (Ao .i64)) w Z aP aQ x.Ab)(jL:Sl AH w Z aR aS x.Ak)(jM:Sl Ba w Z aY aZ x.AJ)(jN:Sl Bc w Z a0 a2 x.Aw)(jO:Sl Bp w Z a3 a4 x.Ar) l5(s:CD f9 x=some l5):
 B7 Tryz.prog 38 #[.agg (Ai aN aO aP aQ aR aS aY aZ a0 a2 a3 a4 x).toArray] w (fun v w'=>Ext w w'∧(Fx Pa).R w' (zf Z w []) v l5):=by
 unfold CD at s;refine rq (N:=90) Tryz.func38 fun mV ha mW=>?_;have kA:=sA 0 ha;clear ha;have jW:Hp FN [] w [] w:=Hp.start (BL.none w);have ⟨eM,eN,eO,hT,hU,hV⟩:=Cp jJ jK jL jM jN jO (Bd (Z:=Z) (L:=[]) w);refine cr<|wE (fun st=>BP (v:=.agg (Ai aN aO aP aQ aR aS aY aZ a0 a2 a3 a4 x).toArray) (cs:=(Ai aN aO aP aQ aR aS aY aZ a0 a2 a3 a4 x).toArray) (ee st kA) rfl) ?_;rintro _ w1 ⟨b1,rfl,eP⟩;have jX:=jW.nb eP;have mJ:=jW.BU eP;refine wE (fun st=>CR (cs:= #[.slice none 0 0,.slice none 0 0,.slice none 0 0,I 0,.slice none 0 0,.slice none 0 0,.slice none 0 0]) V0 rfl) ?_;rintro _ w2 ⟨b2,rfl,dZ⟩;have l6:=jX.nb dZ;have mK:=jX.BU dZ;refine wn<|Af ?_;have l7:=l6.nil;have hL:=(eP.bk.ext dZ.gr);have ⟨hW,hX,hY⟩:=DU eM eN eO (mt (AA eP) (mt (AA dZ) B8));replace s:=bind_some s;obtain⟨aB,l8,s⟩:=s;obtain⟨mN,bE⟩:∃m8:(Nat→Bool)→(Nat→Value)→World→Prop,m8=(fun D V r=>∃(aJ:Option Nat) (c:Nat) (d:Option Addr) (f:Nat) (g:Option Addr) (i:Nat) (j:Option Addr) (m:Nat),Hp FN [] w [aJ,some b2,some b1] r∧Ext w2 r∧(∀hZ,Mv w2 (ZZ FN [] hZ w.heap.size [none,some b2,some b1]) r (ZZ FN [] hZ w.heap.size [aJ,some b2,some b1]))∧(∀eD,aJ=some eD→w2.heap.size≤eD)∧(D 6=false→aJ=none)∧(D 0=true→V 0=pt b1 0)∧(D 1=true→V 1=.agg #[.slice aN x.Ag.length aO,.slice aP x.Ab.length aQ,.slice aR x.Ak.length aS])∧(D 2=true→V 2=.agg (AE d f g i j m aB).toArray∧Sl Az r (zf Z w [aJ,some b2,some b1]) d f aB.Ax∧Sl (Bs (Ao .i64)) r (zf Z w [aJ,some b2,some b1]) g i aB.Bv∧Sl AH r (zf Z w [aJ,some b2,some b1]) j m aB.AQ)∧(D 3=true→V 3=pt b1 3)∧(D 4=true→V 4=I x.Flat)∧(D 5=true→V 5=.agg #[.slice d aB.Ax.length f,.slice g aB.Bv.length i,.slice j aB.AQ.length m,I x.Flat,.slice none 0 0,.slice none 0 0,.slice none 0 0])∧(D 6=true→Bk r c 53 #[.slice none 0 0,.slice none 0 0,.slice none 0 0,I 0,.slice none 0 0,.slice none 0 0,.slice none 0 0])∧(D 6=true→V 6=pt c 0∧aJ=some c∧w.heap.size≤c)):=⟨_,rfl⟩;refine NS 7 mN mixed rfl rfl (by rw[bE];exact⟨none,0,none,0,none,0,none,0,(l7.ext (Fh _)),Fh _,fun _=>Ac (Fh _),fun _ bB=>(by cases bB),fun _=>rfl,fun bB=>absurd (show false=true from bB) (by decide),fun bB=>absurd (show false=true from bB) (by decide),fun bB=>absurd (show false=true from bB) (by decide),fun bB=>absurd (show false=true from bB) (by decide),fun bB=>absurd (show false=true from bB) (by decide),fun bB=>absurd (show false=true from bB) (by decide),fun bB=>absurd (show false=true from bB) (by decide),fun bB=>absurd (show false=true from bB) (by decide)⟩)
     ⟨sj (k:=0) rfl (fun D V a' w' K aC=>by
          rw[bE] at aC;refine X4 aC fun aJ c d f aC=>X4 aC fun g i j m aC=>Y8 aC fun a7 bG bH aD aE _ aT aI aC=>Y4 aC fun aU aV a8 aK aC=>?_;have aW:=aC;exact(Ad (es ((K.out 1 rfl).trans rfl)) (DQ _ _)).mono fun v CO ⟨c0,c1⟩=>by subst c0;subst c1;rw[bE];exact⟨aJ,c,d,f,g,i,j,m,a7,bG,bH,aD,aE,fun _=>rfl,aT,aI,aU,aV,a8,aK,aW⟩),
      sj (k:=1) rfl (fun D V a' w' K aC=>by
          rw[bE] at aC;refine X4 aC fun aJ c d f aC=>X4 aC fun g i j m aC=>Y8 aC fun a7 bG bH aD aE aX _ aI aC=>Y4 aC fun aU aV a8 aK aC=>?_;have aW:=aC;have hM:=aX (K.dn 0 rfl);exact(AK (l:=[.slice aN x.Ag.length aO,.slice aP x.Ab.length aQ,.slice aR x.Ak.length aS]) Dt (es (t:=7) (v:=pt b1 0) ((K.dq 0 7).trans hM)) (hL.ext bG) rfl rfl).mono fun v CO ⟨c0,c1⟩=>by subst c0;subst c1;rw[bE];exact⟨aJ,c,d,f,g,i,j,m,a7,bG,bH,aD,aE,aX,fun _=>rfl,aI,aU,aV,a8,aK,aW⟩),
      sj (k:=2) rfl (fun D V a' w' K aC=>by
          rw[bE] at aC;refine X4 aC fun aJ c d f aC=>X4 aC fun g i j m aC=>Y8 aC fun a7 bG bH aD aE aX aT _ aC=>Y4 aC fun aU aV _ aK aC=>?_;have aW:=aC;have hN:=aT (K.dn 1 rfl);refine(Aj Aax rfl (Cy (es (t:=8) (v:=.agg #[.slice aN x.Ag.length aO,.slice aP x.Ab.length aQ,.slice aR x.Ak.length aS]) ((K.dq 1 8).trans hN))) (a27 f9 (⟨x.Ag,x.Ab,x.Ak⟩:AO) aN aO aP aQ aR aS _ _ (hW.mv (bH _)) (hX.mv (bH _)) (hY.mv (bH _)) aB l8)).mono ?_;rintro v CO ⟨eZ,⟨_,rfl,⟨d,f,g,i,j,m,rfl,cL,cM,cN⟩⟩⟩;rw[bE];exact⟨aJ,c,d,f,g,i,j,m,(a7.ext eZ),(Ext.trans bG eZ),(fun hZ=>(bH hZ).trans (Ac eZ)),aD,aE,aX,aT,fun _=>⟨rfl,cL.mv (a7.CQ (Nat.le_refl _)),cM.mv (a7.CQ (Nat.le_refl _)),cN.mv (a7.CQ (Nat.le_refl _))⟩,aU,aV,fun bB=>(SN K.me (K.down 5 _ rfl bB 2 rfl)).elim,fun bB=>((aK bB).ext eZ),aW⟩),
      sj (k:=3) rfl (fun D V a' w' K aC=>by
          rw[bE] at aC;refine X4 aC fun aJ c d f aC=>X4 aC fun g i j m aC=>Y8 aC fun a7 bG bH aD aE aX aT aI aC=>Y4 aC fun _ aV a8 aK aC=>?_;have aW:=aC;exact(Ad (es ((K.out 1 rfl).trans rfl)) (Pf _ _)).mono fun v CO ⟨c0,c1⟩=>by subst c0;subst c1;rw[bE];exact⟨aJ,c,d,f,g,i,j,m,a7,bG,bH,aD,aE,aX,aT,aI,fun _=>rfl,aV,a8,aK,aW⟩),
      sj (k:=4) rfl (fun D V a' w' K aC=>by
          rw[bE] at aC;refine X4 aC fun aJ c d f aC=>X4 aC fun g i j m aC=>Y8 aC fun a7 bG bH aD aE aX aT aI aC=>Y4 aC fun aU _ a8 aK aC=>?_;have aW:=aC;have hO:=aU (K.dn 3 rfl);exact(As (v:=I x.Flat) Bh (es (t:=10) (v:=pt b1 3) ((K.dq 3 10).trans hO)) (hL.ext bG) rfl).mono fun v CO ⟨c0,c1⟩=>by subst c0;subst c1;rw[bE];exact⟨aJ,c,d,f,g,i,j,m,a7,bG,bH,aD,aE,aX,aT,aI,aU,fun _=>rfl,a8,aK,aW⟩),
      sj (k:=5) rfl (fun D V a' w' K aC=>by
          rw[bE] at aC;refine X4 aC fun aJ c d f aC=>X4 aC fun g i j m aC=>Y8 aC fun a7 bG bH aD aE aX aT aI aC=>Y4 aC fun aU aV _ aK aC=>?_;have aW:=aC;obtain⟨hP,cL,cM,cN⟩:=aI (K.dn 2 rfl);have hQ:=aV (K.dn 4 rfl);exact(Fp (vs:= #[(0,.agg (AE d f g i j m aB).toArray),(1,I x.Flat)]) (v:=.agg #[.slice d aB.Ax.length f,.slice g aB.Bv.length i,.slice j aB.AQ.length m,I x.Flat,.slice none 0 0,.slice none 0 0,.slice none 0 0]) (Kz (es (t:=9) (v:=.agg (AE d f g i j m aB).toArray) ((K.dq 2 9).trans hP)) (es (t:=11) (v:=I x.Flat) ((K.dq 4 11).trans hQ))) (by kernel_rfl)).mono fun v CO ⟨c0,c1⟩=>by subst c0;subst c1;rw[bE];exact⟨aJ,c,d,f,g,i,j,m,a7,bG,bH,aD,aE,aX,aT,aI,aU,aV,fun _=>rfl,aK,aW⟩),
      sj (k:=6) rfl (fun D V a' w' K aC=>by
          rw[bE] at aC;refine X4 aC fun _ _ d f aC=>X4 aC fun g i j m aC=>Y8 aC fun a7 bG bH aD aE aX aT aI aC=>Y4 aC fun aU aV a8 _ aC=>?_;have aW:=aC;have kB:=aE K.me;subst kB;refine(CR (cs:= #[.slice none 0 0,.slice none 0 0,.slice none 0 0,I 0,.slice none 0 0,.slice none 0 0,.slice none 0 0]) V0 rfl).mono ?_;rintro v CO ⟨iO,rfl,e0⟩;have eQ:=QH e0;have h3:=e0.gr;rw[bE];exact⟨(some iO),iO,d,f,g,i,j,m,(a7.row h3 0 rfl eQ),(Ext.trans bG h3),(fun hZ=>(bH hZ).trans (a7.DE h3 0 rfl (fun eD d0=>(eQ eD d0).1))),(Mc aD bG.size eQ),fun bB=>absurd (show true=false from bB) (by decide),aX,aT,fun bB=>⟨(aI bB).1,((aI bB).2.1.mv (a7.DE h3 0 rfl (fun eD d0=>(eQ eD d0).1))),((aI bB).2.2.1.mv (a7.DE h3 0 rfl (fun eD d0=>(eQ eD d0).1))),((aI bB).2.2.2.mv (a7.DE h3 0 rfl (fun eD d0=>(eQ eD d0).1)))⟩,aU,aV,a8,fun _=>e0.bk,fun _=>⟨rfl,rfl,Nat.le_trans a7.sz (Nat.le_of_eq e0.IL.symm)⟩⟩),trivial⟩ ?_
 intro m9 nA nB KR bI;rw[bE] at bI;clear bE;refine X4 bI fun aJ c d f bI=>X4 bI fun g i j m bI=>Y8 bI fun d1 iP kC aD aE aX aT aI bI=>Y4 bI fun aU aV a8 aK bI=>?_;have aW:=bI;clear bI;have hM:=aX (KR 0 (by decide));have hN:=aT (KR 1 (by decide));obtain⟨hP,cL,cM,cN⟩:=aI (KR 2 (by decide));have hO:=aU (KR 3 (by decide));have hQ:=aV (KR 4 (by decide));have jP:=a8 (KR 5 (by decide));obtain⟨hR,iQ,l0⟩:=aW (KR 6 (by decide));subst iQ;have iR:=aK (KR 6 (by decide));refine Cs rfl rfl (fun st=>Ca (n:=7) (l:=[.slice d aB.Ax.length f,.slice g aB.Bv.length i,.slice j aB.AQ.length m,I x.Flat,.slice none 0 0,.slice none 0 0,.slice none 0 0]) (DO:= #[.slice d aB.Ax.length f,.slice g aB.Bv.length i,.slice j aB.AQ.length m,I x.Flat,.slice none 0 0,.slice none 0 0,.slice none 0 0]) (ee st hR) (ee st jP) ZJ iR rfl rfl (show 0+7≤7 by decide) (BJ rfl) rfl) ?_;rintro _ mO eS;have l9:=d1.gr eS.gr 0 rfl;refine wn<|Af<|cr<|wA (v:=I 0) rfl<|wn<|AI ?_;have mA:=l9.nil;have mB:BH Ba 48 w.heap.size mO (zf Z w [none,some c,some b2,some b1]) none 0 ([]:List C6):=BH.nil _ _ _ _ _;replace s:=bind_some s;obtain⟨cC,eT,s⟩:=s;refine BX (fun fO aF r=>(fO=.exit 0∧∃a q,Fo X0 90 aF∧sl aF 1=pt b1 0∧sl aF 2=pt b2 0∧sl aF 3=pt c 0∧Hp FN [] w [ob a,some c,some b2,some b1] r∧BH Ba 48 w.heap.size r (zf Z w [ob a,some c,some b2,some b1]) a q cC∧Bk r b1 67 (Ai aN aO aP aQ aR aS aY aZ a0 a2 a3 a4 x).toArray∧Bk r b2 53 #[.slice none 0 0,.slice none 0 0,.slice none 0 0,I 0,.slice none 0 0,.slice none 0 0,.slice none 0 0]∧Bk r c 53 #[.slice d aB.Ax.length f,.slice g aB.Bv.length i,.slice j aB.AQ.length m,I x.Flat,.slice a cC.length q,.slice none 0 0,.slice none 0 0]∧Sl Az r (zf Z w [ob a,some c,some b2,some b1]) aN aO x.Ag∧Sl (Bs (Ao .i64)) r (zf Z w [ob a,some c,some b2,some b1]) aP aQ x.Ab∧Sl AH r (zf Z w [ob a,some c,some b2,some b1]) aR aS x.Ak∧Sl Ba r (zf Z w [ob a,some c,some b2,some b1]) aY aZ x.AJ∧Sl Bc r (zf Z w [ob a,some c,some b2,some b1]) a0 a2 x.Aw∧Sl Bp r (zf Z w [ob a,some c,some b2,some b1]) a3 a4 x.Ar∧Sl Az r (zf Z w [ob a,some c,some b2,some b1]) d f aB.Ax∧Sl (Bs (Ao .i64)) r (zf Z w [ob a,some c,some b2,some b1]) g i aB.Bv∧Sl AH r (zf Z w [ob a,some c,some b2,some b1]) j m aB.AQ)) ?mC ?mD
 case mC=>
  clear s;refine BW (fun d2 aF r=>∃bW,∃a5,∃z bF,Gc x d2 bW a5=some cC∧Fo X0 90 aF∧sl aF 1=pt b1 0∧sl aF 2=pt b2 0∧sl aF 3=pt c 0∧sl aF 4=I bW∧Hp FN [] w [ob z,some c,some b2,some b1] r∧BH Ba 48 w.heap.size r (zf Z w [ob z,some c,some b2,some b1]) z bF a5∧Bk r b1 67 (Ai aN aO aP aQ aR aS aY aZ a0 a2 a3 a4 x).toArray∧Bk r b2 53 #[.slice none 0 0,.slice none 0 0,.slice none 0 0,I 0,.slice none 0 0,.slice none 0 0,.slice none 0 0]∧Bk r c 53 #[.slice d aB.Ax.length f,.slice g aB.Bv.length i,.slice j aB.AQ.length m,I x.Flat,.slice z a5.length bF,.slice none 0 0,.slice none 0 0]∧Sl Az r (zf Z w [ob z,some c,some b2,some b1]) aN aO x.Ag∧Sl (Bs (Ao .i64)) r (zf Z w [ob z,some c,some b2,some b1]) aP aQ x.Ab∧Sl AH r (zf Z w [ob z,some c,some b2,some b1]) aR aS x.Ak∧Sl Ba r (zf Z w [ob z,some c,some b2,some b1]) aY aZ x.AJ∧Sl Bc r (zf Z w [ob z,some c,some b2,some b1]) a0 a2 x.Aw∧Sl Bp r (zf Z w [ob z,some c,some b2,some b1]) a3 a4 x.Ar∧Sl Az r (zf Z w [ob z,some c,some b2,some b1]) d f aB.Ax∧Sl (Bs (Ao .i64)) r (zf Z w [ob z,some c,some b2,some b1]) g i aB.Bv∧Sl AH r (zf Z w [ob z,some c,some b2,some b1]) j m aB.AQ) f9 ?mE ?mF
  case mE=>
   intro st;have jQ:=(((eP.bk.ext dZ.gr).ext iP).gr eS.gr (d1.nq 2 0));have jR:=((dZ.bk.ext iP).gr eS.gr (d1.nq 1 0));have h4:=eS.bk;have ⟨h6,h7,h8,h9,iA,iB⟩:=Cp eM eN eO hT hU hV (mt (AA eP) (mt (AA dZ) (mt B8 (mt (kC _) (mt (d1.Co eS.gr 0 rfl) B8)))));have ⟨fP,fQ,fR⟩:=DU cL cM cN (mt (d1.Co eS.gr 0 rfl) B8);exact⟨(0:Int),([]:List C6),none,0,eT,qo st,sp st 1 rfl,sp st 2 rfl,sp st 3 hR,sp st 4 rfl,mA,mB,jQ,jR,h4,h6,h7,h8,h9,iA,iB,fP,fQ,fR⟩
  case mF=>
   rintro(_|d2) mX mY ⟨bW,a5,z,bF,eT,kD,c2,hS,dX,dY,iS,cD,cE,fS,cV,d3,d4,d5,b6,d6,d7,c3,c4,c5⟩
   ·exact absurd (show none=some _ from eT) (by simp)
   rw[Gc.eq_2] at eT;have s:=eT;clear eT;refine ro kD<|Af<|cr<|wM (v:=I bW) dY<|wD (fun st=>Ad (ee st c2) (Jj _ _))<|wD (fun st=>As (v:=.slice aY x.AJ.length aZ) Ks (eR st) cE rfl)<|wD (fun st=>Be Tryz.underlying63 (eR st))<|wD (fun st=>B9 (eR st) (eR st))<|wn ?_;rcases Ae (decide (bW<(x.AJ.length:Int))) with fT|fT
   ·replace s:=Ap s fT;refine Am rfl fT<|cn<|Af<|AI ?_;replace s:=AP s;obtain⟨i10,bJ,kE,kF,kG,s⟩:=s;obtain⟨jY,jZ,_,kH,rfl,kI⟩:=Sl.elem b6 (by decide) kF;replace s:=AP s;obtain⟨i11,bK,kJ,kK,kL,s⟩:=s;obtain⟨j0,j1,_,kM,rfl,kN⟩:=Sl.elem b6 (by decide) kK;refine BK 16 [Kc (pt c 4),Kc (.slice z a5.length bF),Kc (pt b1 4),Kc (.slice aY x.AJ.length aZ),Kc (I bW),Kc (pt jY (jZ+i10*2)),Kc (pt jY (jZ+i10*2)),Kc (I bJ.BN),Kc (pt b1 4),Kc (.slice aY x.AJ.length aZ),Kc (I bW),Kc (pt j0 (j1+i11*2)),Kc (pt j0 (j1+i11*2+1)),Kc (I bK.Dn),Kc (.agg #[I bJ.BN,I bK.Dn]),Kv (Fq Ba) (zf Z w [ob z,some c,some b2,some b1]) [(⟨bJ.BN,bK.Dn⟩:C6)]] mixed rfl rfl
        (Aa (oD (fun K=>Ad (es ((K.out 3 rfl).trans dX)) (Qw _ _)))
        (Aa (oD (fun K=>As QK (es (K.dq 0 20)) (cV.ext K.AD) rfl))
        (Aa (oD (fun K=>Ad (es ((K.out 1 rfl).trans c2)) (Jj _ _)))
        (Aa (oD (fun K=>As Ks (es (K.dq 2 22)) (cE.ext K.AD) rfl))
        (Aa (oD (fun K=>Au (es ((K.out 4 rfl).trans dY))))
        (Aa (oD (fun K=>BD (k:=i10) Tryz.underlying63 Nl (es (K.dq 3 23)) kH (es (K.dq 4 24)) kE kG))
        (Aa (oD (fun K=>Ad (es (K.dq 5 25)) (Om _ _ _)))
        (Aa (oD (fun K=>Bb Bh (es (K.dq 6 26)) (kI.mv (Ac K.AD)) rfl))
        (Aa (oD (fun K=>Ad (es ((K.out 1 rfl).trans c2)) (Jj _ _)))
        (Aa (oD (fun K=>As Ks (es (K.dq 8 28)) (cE.ext K.AD) rfl))
        (Aa (oD (fun K=>Au (es ((K.out 4 rfl).trans dY))))
        (Aa (oD (fun K=>BD (k:=i11) Tryz.underlying63 Nl (es (K.dq 9 29)) kM (es (K.dq 10 30)) kJ kL))
        (Aa (oD (fun K=>Ad (es (K.dq 11 31)) (Ui _ _ _)))
        (Aa (oD (fun K=>Fu Bh (es (K.dq 12 32)) (kN.mv (Ac K.AD)) rfl))
        (Aa (oD (fun K=>Fp (vs:= #[(0,I bJ.BN),(1,I bK.Dn)]) (v:=.agg #[I bJ.BN,I bK.Dn]) (Kz (es (K.dq 7 27)) (es (K.dq 13 33))) (by kernel_rfl)))
        (Aa (MH rfl rfl (fun a' w' ph K=>(Cx (e:=48) (vs:= #[(0,.agg #[I bJ.BN,I bK.Dn])]) (cs:= #[I bJ.BN,I bK.Dn]) (I5 (es (K.dq 14 34))) (by kernel_rfl)).mono (fun u CO ⟨iO,hu,hn⟩=>⟨⟨_,_,hu,JQ (xs:=[(⟨bJ.BN,bK.Dn⟩:C6)]) (CM:=[[I bJ.BN,I bK.Dn]]) hn.bk ((iS.ext K.AD).kn (Nat.le_of_eq hn.IL.symm)) (R2.mv (Ac hn.gr) (show R2 Ba w' (zf Z w [ob z,some c,some b2,some b1]) [[I bJ.BN,I bK.Dn]] [(⟨bJ.BN,bK.Dn⟩:C6)] from⟨rfl,trivial⟩)) rfl (Nat.le_refl _)⟩,hn.gr⟩)))
        (BI _))))))))))))))))) ?_
    intro nC;rintro _ rfl _ rfl _ rfl _ rfl _ rfl _ rfl _ rfl _ rfl _ rfl _ rfl _ rfl _ rfl _ rfl _ rfl _ rfl _ ⟨mG,mH,rfl,iC⟩ d8;have d9:=iS.ext d8;have eE:=(cD.ext d8 (Ac d8));replace s:=Ci s;obtain⟨iT,s⟩:=s;refine wE (fun st=>I0 (ys:=[(⟨bJ.BN,bK.Dn⟩:C6)]) Tryz.underlying49 Ad6 rfl rfl (by decide) (eR st) rfl (eR st) eE iC.n (by have:=iT;simp only[maxLen];omega) (by have:=iT;omega) d9.sz) ?_;rintro _ mZ ⟨iU,iV,rfl,dH,gA,kP⟩;have eU:=d9.row dH 0 rfl gA;have kQ:=Eb kP (d9.DE dH 0 rfl (fun k hk=>(gA k hk).1));refine wD (fun st=>Ad (ee st dX) (Qw _ _)) ?_;have iD:=((cV.ext d8).gr dH (d9.nq 1 0));refine Cs rfl rfl (fun st=>Ca (n:=1) (l:=[.slice iU ((a5++[(⟨bJ.BN,bK.Dn⟩:C6)]).length) iV]) (DO:= #[.slice d aB.Ax.length f,.slice g aB.Bv.length i,.slice j aB.AQ.length m,I x.Flat,.slice iU ((a5++[(⟨bJ.BN,bK.Dn⟩:C6)]).length) iV,.slice none 0 0,.slice none 0 0]) (eR st) (eR st) Aft iD rfl rfl (show 4+1≤7 by decide) (BJ rfl) rfl) ?_;rintro _ m0 cW;have kR:=eU.gr cW.gr 1 rfl;refine AU<|CS<|Al<|wM (v:=I bW) dY ?_;replace s:=AF s;obtain⟨kS,s⟩:=s;refine wD (fun st=>BG (eR st) (eR st) kS)<|wA (v:=I (bW+1)) rfl<|AU ?_;have iE:=(kQ.gr cW.gr (fun k hk=>eU.ne 0 1 rfl (congrArg some hk) rfl) (eU.Co cW.gr 1 rfl));have iW:=(((cE.ext d8).gr dH (d9.nq 3 0)).gr cW.gr (eU.nq 3 1));have iX:=(((fS.ext d8).gr dH (d9.nq 2 0)).gr cW.gr (eU.nq 2 1));have ⟨gB,gC,gD,gE,gF,gG,e1,e2,e3⟩:=SO d3 d4 d5 b6 d6 d7 c3 c4 c5 (mt (Ac d8) (mt (d9.DE dH 0 rfl (fun k hk=>(gA k hk).1)) (eU.Co cW.gr 1 rfl)));refine Bi d2 (Nat.lt_succ_self _) (fun st=>?_);exact⟨(bW+1),(a5++[(⟨bJ.BN,bK.Dn⟩:C6)]),iU,iV,s,qo st,sp st 1 c2,sp st 2 hS,sp st 3 dX,sp st 4 rfl,kR,iE,iW,iX,cW.bk,gB,gC,gD,gE,gF,gG,e1,e2,e3⟩
   ·replace s:=Aq s fT;refine An rfl fT<|Dq ?_;obtain rfl:=oi s;refine BC (fun st=>?_);exact⟨rfl,z,bF,qo st,sp st 1 c2,sp st 2 hS,sp st 3 dX,iS,cD,cE,fS,cV,d3,d4,d5,b6,d6,d7,c3,c4,c5⟩
 case mD=>
  rintro fO mP mI (⟨rfl,a,q,jS,iY,iZ,i0,kT,dI,i1,i2,gH,gI,gJ,gK,gL,gM,gN,e4,e5,e6⟩);refine lf jS<|AZ<|BS<|Af<|cr<|wA (v:=I 0) rfl<|wn<|AI ?_;have kU:=kT.nil;have kV:BH Bc 134 w.heap.size mI (zf Z w [none,ob a,some c,some b2,some b1]) none 0 ([]:List CH):=BH.nil _ _ _ _ _;replace s:=bind_some s;obtain⟨cB,dJ,s⟩:=s;refine BX (fun fO aF r=>(fO=.exit 2∧∃b aA,Fo X0 90 aF∧sl aF 1=pt b1 0∧sl aF 2=pt b2 0∧sl aF 3=pt c 0∧Hp FN [] w [ob b,ob a,some c,some b2,some b1] r∧BH Bc 134 w.heap.size r (zf Z w [ob b,ob a,some c,some b2,some b1]) b aA cB∧BH Ba 48 w.heap.size r (zf Z w [ob b,ob a,some c,some b2,some b1]) a q cC∧Bk r b1 67 (Ai aN aO aP aQ aR aS aY aZ a0 a2 a3 a4 x).toArray∧Bk r b2 53 #[.slice none 0 0,.slice none 0 0,.slice none 0 0,I 0,.slice none 0 0,.slice none 0 0,.slice none 0 0]∧Bk r c 53 #[.slice d aB.Ax.length f,.slice g aB.Bv.length i,.slice j aB.AQ.length m,I x.Flat,.slice a cC.length q,.slice b cB.length aA,.slice none 0 0]∧Sl Az r (zf Z w [ob b,ob a,some c,some b2,some b1]) aN aO x.Ag∧Sl (Bs (Ao .i64)) r (zf Z w [ob b,ob a,some c,some b2,some b1]) aP aQ x.Ab∧Sl AH r (zf Z w [ob b,ob a,some c,some b2,some b1]) aR aS x.Ak∧Sl Ba r (zf Z w [ob b,ob a,some c,some b2,some b1]) aY aZ x.AJ∧Sl Bc r (zf Z w [ob b,ob a,some c,some b2,some b1]) a0 a2 x.Aw∧Sl Bp r (zf Z w [ob b,ob a,some c,some b2,some b1]) a3 a4 x.Ar∧Sl Az r (zf Z w [ob b,ob a,some c,some b2,some b1]) d f aB.Ax∧Sl (Bs (Ao .i64)) r (zf Z w [ob b,ob a,some c,some b2,some b1]) g i aB.Bv∧Sl AH r (zf Z w [ob b,ob a,some c,some b2,some b1]) j m aB.AQ)) ?kW ?kX
  case kW=>
   clear s;refine BW (fun d2 aF r=>∃bC,∃aL,∃p a9,FP x d2 bC aL=some cB∧Fo X0 90 aF∧sl aF 1=pt b1 0∧sl aF 2=pt b2 0∧sl aF 3=pt c 0∧sl aF 5=I bC∧Hp FN [] w [ob p,ob a,some c,some b2,some b1] r∧BH Ba 48 w.heap.size r (zf Z w [ob p,ob a,some c,some b2,some b1]) a q cC∧BH Bc 134 w.heap.size r (zf Z w [ob p,ob a,some c,some b2,some b1]) p a9 aL∧Bk r b1 67 (Ai aN aO aP aQ aR aS aY aZ a0 a2 a3 a4 x).toArray∧Bk r b2 53 #[.slice none 0 0,.slice none 0 0,.slice none 0 0,I 0,.slice none 0 0,.slice none 0 0,.slice none 0 0]∧Bk r c 53 #[.slice d aB.Ax.length f,.slice g aB.Bv.length i,.slice j aB.AQ.length m,I x.Flat,.slice a cC.length q,.slice p aL.length a9,.slice none 0 0]∧Sl Az r (zf Z w [ob p,ob a,some c,some b2,some b1]) aN aO x.Ag∧Sl (Bs (Ao .i64)) r (zf Z w [ob p,ob a,some c,some b2,some b1]) aP aQ x.Ab∧Sl AH r (zf Z w [ob p,ob a,some c,some b2,some b1]) aR aS x.Ak∧Sl Ba r (zf Z w [ob p,ob a,some c,some b2,some b1]) aY aZ x.AJ∧Sl Bc r (zf Z w [ob p,ob a,some c,some b2,some b1]) a0 a2 x.Aw∧Sl Bp r (zf Z w [ob p,ob a,some c,some b2,some b1]) a3 a4 x.Ar∧Sl Az r (zf Z w [ob p,ob a,some c,some b2,some b1]) d f aB.Ax∧Sl (Bs (Ao .i64)) r (zf Z w [ob p,ob a,some c,some b2,some b1]) g i aB.Bv∧Sl AH r (zf Z w [ob p,ob a,some c,some b2,some b1]) j m aB.AQ) f9 ?kY ?kZ
   case kY=>
    intro st;have dK:=(dI.up B8);have i3:=i1;have i4:=i2;have gO:=gH;have ⟨gP,gQ,gR,gS,gT,gU,e7,e8,e9⟩:=SO gI gJ gK gL gM gN e4 e5 e6 B8;exact⟨(0:Int),([]:List CH),none,0,dJ,qo st,sp st 1 iY,sp st 2 iZ,sp st 3 i0,sp st 5 rfl,kU,dK,kV,i3,i4,gO,gP,gQ,gR,gS,gT,gU,e7,e8,e9⟩
   case kZ=>
    rintro(_|d2) mQ mR ⟨bC,aL,p,a9,dJ,jT,cF,fU,c6,c7,gV,bS,bZ,b4,eV,cG,dQ,dR,dS,dT,bT,dU,cP,cQ,cR⟩
    ·exact absurd (show none=some _ from dJ) (by simp)
    rw[FP.eq_2] at dJ;have s:=dJ;clear dJ;refine ro jT<|Af<|cr<|wM (v:=I bC) c7<|wD (fun st=>Ad (ee st cF) (Hx _ _))<|wD (fun st=>As (v:=.slice a0 x.Aw.length a2) IG (eR st) b4 rfl)<|wD (fun st=>Be Tryz.underlying64 (eR st))<|wD (fun st=>B9 (eR st) (eR st))<|wn ?_;rcases Ae (decide (bC<(x.Aw.length:Int))) with eA|eA
    ·replace s:=Ap s eA;refine Am rfl eA<|cn<|Af<|AI ?_;replace s:=AP s;obtain⟨i20,bL,k0,k1,k2,s⟩:=s;obtain⟨j2,j3,_,k3,rfl,k4⟩:=Sl.elem bT (by decide) k1;replace s:=AP s;obtain⟨i21,bM,k5,k6,k7,s⟩:=s;obtain⟨j4,j5,_,k8,rfl,k9⟩:=Sl.elem bT (by decide) k6;refine BK 16 [Kc (pt c 5),Kc (.slice p aL.length a9),Kc (pt b1 5),Kc (.slice a0 x.Aw.length a2),Kc (I bC),Kc (pt j2 (j3+i20*2)),Kc (pt j2 (j3+i20*2)),Kc (I bL.Dh),Kc (pt b1 5),Kc (.slice a0 x.Aw.length a2),Kc (I bC),Kc (pt j4 (j5+i21*2)),Kc (pt j4 (j5+i21*2+1)),Kc (I bM.Df),Kc (.agg #[I bL.Dh,I bM.Df]),Kv (Fq Bc) (zf Z w [ob p,ob a,some c,some b2,some b1]) [(⟨bL.Dh,bM.Df⟩:CH)]] mixed rfl rfl
         (Aa (oD (fun K=>Ad (es ((K.out 3 rfl).trans c6)) (Mf _ _)))
         (Aa (oD (fun K=>As Ni (es (K.dq 0 45)) (cG.ext K.AD) rfl))
         (Aa (oD (fun K=>Ad (es ((K.out 1 rfl).trans cF)) (Hx _ _)))
         (Aa (oD (fun K=>As IG (es (K.dq 2 47)) (b4.ext K.AD) rfl))
         (Aa (oD (fun K=>Au (es ((K.out 5 rfl).trans c7))))
         (Aa (oD (fun K=>BD (k:=i20) Tryz.underlying64 Mr (es (K.dq 3 48)) k3 (es (K.dq 4 49)) k0 k2))
         (Aa (oD (fun K=>Ad (es (K.dq 5 50)) (QP _ _ _)))
         (Aa (oD (fun K=>Bb Bh (es (K.dq 6 51)) (k4.mv (Ac K.AD)) rfl))
         (Aa (oD (fun K=>Ad (es ((K.out 1 rfl).trans cF)) (Hx _ _)))
         (Aa (oD (fun K=>As IG (es (K.dq 8 53)) (b4.ext K.AD) rfl))
         (Aa (oD (fun K=>Au (es ((K.out 5 rfl).trans c7))))
         (Aa (oD (fun K=>BD (k:=i21) Tryz.underlying64 Mr (es (K.dq 9 54)) k8 (es (K.dq 10 55)) k5 k7))
         (Aa (oD (fun K=>Ad (es (K.dq 11 56)) (PO _ _ _)))
         (Aa (oD (fun K=>Fu Bh (es (K.dq 12 57)) (k9.mv (Ac K.AD)) rfl))
         (Aa (oD (fun K=>Fp (vs:= #[(0,I bL.Dh),(1,I bM.Df)]) (v:=.agg #[I bL.Dh,I bM.Df]) (Kz (es (K.dq 7 52)) (es (K.dq 13 58))) (by kernel_rfl)))
         (Aa (MH rfl rfl (fun a' w' ph K=>(Cx (e:=134) (vs:= #[(0,.agg #[I bL.Dh,I bM.Df])]) (cs:= #[I bL.Dh,I bM.Df]) (I5 (es (K.dq 14 59))) (by kernel_rfl)).mono (fun u CO ⟨iO,hu,hn⟩=>⟨⟨_,_,hu,JQ (xs:=[(⟨bL.Dh,bM.Df⟩:CH)]) (CM:=[[I bL.Dh,I bM.Df]]) hn.bk ((gV.ext K.AD).kn (Nat.le_of_eq hn.IL.symm)) (R2.mv (Ac hn.gr) (show R2 Bc w' (zf Z w [ob p,ob a,some c,some b2,some b1]) [[I bL.Dh,I bM.Df]] [(⟨bL.Dh,bM.Df⟩:CH)] from⟨rfl,trivial⟩)) rfl (Nat.le_refl _)⟩,hn.gr⟩)))
         (BI _))))))))))))))))) ?_
     intro m1;rintro _ rfl _ rfl _ rfl _ rfl _ rfl _ rfl _ rfl _ rfl _ rfl _ rfl _ rfl _ rfl _ rfl _ rfl _ rfl _ ⟨l1,l2,rfl,gW⟩ b7;have b8:=gV.ext b7;have dV:=(bZ.ext b7 (Ac b7));replace s:=Ci s;obtain⟨i5,s⟩:=s;refine wE (fun st=>I0 (ys:=[(⟨bL.Dh,bM.Df⟩:CH)]) Tryz.underlying50 Abx rfl rfl (by decide) (eR st) rfl (eR st) dV gW.n (by have:=i5;simp only[maxLen];omega) (by have:=i5;omega) b8.sz) ?_;rintro _ m2 ⟨i6,i7,rfl,cH,fA,lA⟩;have cI:=b8.row cH 0 rfl fA;have lB:=Eb lA (b8.DE cH 0 rfl (fun k hk=>(fA k hk).1));refine wD (fun st=>Ad (ee st c6) (Mf _ _)) ?_;have gX:=((cG.ext b7).gr cH (b8.nq 2 0));refine Cs rfl rfl (fun st=>Ca (n:=1) (l:=[.slice i6 ((aL++[(⟨bL.Dh,bM.Df⟩:CH)]).length) i7]) (DO:= #[.slice d aB.Ax.length f,.slice g aB.Bv.length i,.slice j aB.AQ.length m,I x.Flat,.slice a cC.length q,.slice i6 ((aL++[(⟨bL.Dh,bM.Df⟩:CH)]).length) i7,.slice none 0 0]) (eR st) (eR st) Afu gX rfl rfl (show 5+1≤7 by decide) (BJ rfl) rfl) ?_;rintro _ m3 b9;have lC:=cI.gr b9.gr 2 rfl;refine AU<|CS<|Al<|wM (v:=I bC) c7 ?_;replace s:=AF s;obtain⟨lD,s⟩:=s;refine wD (fun st=>BG (eR st) (eR st) lD)<|wA (v:=I (bC+1)) rfl<|AU ?_;have dL:=(((bS.ext b7 (Ac b7)).gr cH (fun k hk=>b8.ne 1 0 rfl (congrArg some hk) rfl) (b8.DE cH 0 rfl (fun k hk=>(fA k hk).1))).gr b9.gr (fun k hk=>cI.ne 1 2 rfl (congrArg some hk) rfl) (cI.Co b9.gr 2 rfl));have iF:=(lB.gr b9.gr (fun k hk=>cI.ne 0 2 rfl (congrArg some hk) rfl) (cI.Co b9.gr 2 rfl));have i8:=(((b4.ext b7).gr cH (b8.nq 4 0)).gr b9.gr (cI.nq 4 2));have i9:=(((eV.ext b7).gr cH (b8.nq 3 0)).gr b9.gr (cI.nq 3 2));have ⟨gY,gZ,g0,g1,g2,g3,fB,fC,fD⟩:=SO dQ dR dS dT bT dU cP cQ cR (mt (Ac b7) (mt (b8.DE cH 0 rfl (fun k hk=>(fA k hk).1)) (cI.Co b9.gr 2 rfl)));refine Bi d2 (Nat.lt_succ_self _) (fun st=>?_);exact⟨(bC+1),(aL++[(⟨bL.Dh,bM.Df⟩:CH)]),i6,i7,s,qo st,sp st 1 cF,sp st 2 fU,sp st 3 c6,sp st 5 rfl,lC,dL,iF,i8,i9,b9.bk,gY,gZ,g0,g1,g2,g3,fB,fC,fD⟩
    ·replace s:=Aq s eA;refine An rfl eA<|Dq ?_;obtain rfl:=oi s;refine BC (fun st=>?_);exact⟨rfl,p,a9,qo st,sp st 1 cF,sp st 2 fU,sp st 3 c6,gV,bZ,bS,b4,eV,cG,dQ,dR,dS,dT,bT,dU,cP,cQ,cR⟩
  case kX=>
   rintro fO mL lE (⟨rfl,b,aA,jA,iG,iH,iI,jU,cX,c8,iJ,iK,fV,fW,fX,fY,fZ,f0,f1,eF,eG,eH⟩);refine lf jA<|AZ<|BS<|Af<|cr<|wA (v:=I 0) rfl<|wn<|AI ?_;have lF:=jU.nil;have lG:BH Bp 136 w.heap.size lE (zf Z w [none,ob b,ob a,some c,some b2,some b1]) none 0 ([]:List Cu):=BH.nil _ _ _ _ _;replace s:=bind_some s;obtain⟨z26,dM,s⟩:=s;refine BX (fun fO aF r=>(fO=.exit 4∧∃y aG,Fo X0 90 aF∧sl aF 2=pt b2 0∧sl aF 3=pt c 0∧Hp FN [] w [ob y,ob b,ob a,some c,some b2,some b1] r∧BH Bc 134 w.heap.size r (zf Z w [ob y,ob b,ob a,some c,some b2,some b1]) b aA cB∧BH Bp 136 w.heap.size r (zf Z w [ob y,ob b,ob a,some c,some b2,some b1]) y aG z26∧BH Ba 48 w.heap.size r (zf Z w [ob y,ob b,ob a,some c,some b2,some b1]) a q cC∧Bk r b2 53 #[.slice none 0 0,.slice none 0 0,.slice none 0 0,I 0,.slice none 0 0,.slice none 0 0,.slice none 0 0]∧Bk r c 53 #[.slice d aB.Ax.length f,.slice g aB.Bv.length i,.slice j aB.AQ.length m,I x.Flat,.slice a cC.length q,.slice b cB.length aA,.slice y z26.length aG]∧Sl Az r (zf Z w [ob y,ob b,ob a,some c,some b2,some b1]) d f aB.Ax∧Sl (Bs (Ao .i64)) r (zf Z w [ob y,ob b,ob a,some c,some b2,some b1]) g i aB.Bv∧Sl AH r (zf Z w [ob y,ob b,ob a,some c,some b2,some b1]) j m aB.AQ)) ?lH ?lI
   case lH=>
    clear s;refine BW (fun d2 aF r=>∃bD,∃aM,∃o bA,FQ f9 x d2 bD aM=some z26∧Fo X0 90 aF∧sl aF 1=pt b1 0∧sl aF 2=pt b2 0∧sl aF 3=pt c 0∧sl aF 6=I bD∧Hp FN [] w [ob o,ob b,ob a,some c,some b2,some b1] r∧BH Bc 134 w.heap.size r (zf Z w [ob o,ob b,ob a,some c,some b2,some b1]) b aA cB∧BH Ba 48 w.heap.size r (zf Z w [ob o,ob b,ob a,some c,some b2,some b1]) a q cC∧BH Bp 136 w.heap.size r (zf Z w [ob o,ob b,ob a,some c,some b2,some b1]) o bA aM∧Bk r b1 67 (Ai aN aO aP aQ aR aS aY aZ a0 a2 a3 a4 x).toArray∧Bk r b2 53 #[.slice none 0 0,.slice none 0 0,.slice none 0 0,I 0,.slice none 0 0,.slice none 0 0,.slice none 0 0]∧Bk r c 53 #[.slice d aB.Ax.length f,.slice g aB.Bv.length i,.slice j aB.AQ.length m,I x.Flat,.slice a cC.length q,.slice b cB.length aA,.slice o aM.length bA]∧Sl Az r (zf Z w [ob o,ob b,ob a,some c,some b2,some b1]) aN aO x.Ag∧Sl (Bs (Ao .i64)) r (zf Z w [ob o,ob b,ob a,some c,some b2,some b1]) aP aQ x.Ab∧Sl AH r (zf Z w [ob o,ob b,ob a,some c,some b2,some b1]) aR aS x.Ak∧Sl Ba r (zf Z w [ob o,ob b,ob a,some c,some b2,some b1]) aY aZ x.AJ∧Sl Bc r (zf Z w [ob o,ob b,ob a,some c,some b2,some b1]) a0 a2 x.Aw∧Sl Bp r (zf Z w [ob o,ob b,ob a,some c,some b2,some b1]) a3 a4 x.Ar∧Sl Az r (zf Z w [ob o,ob b,ob a,some c,some b2,some b1]) d f aB.Ax∧Sl (Bs (Ao .i64)) r (zf Z w [ob o,ob b,ob a,some c,some b2,some b1]) g i aB.Bv∧Sl AH r (zf Z w [ob o,ob b,ob a,some c,some b2,some b1]) j m aB.AQ) f9 ?lJ ?lK
    case lJ=>
     intro st;have c9:=(cX.up B8);have dN:=(c8.up B8);have jB:=iJ;have jC:=iK;have g4:=fV;have ⟨g5,g6,g7,g8,g9,hA,fE,fF,fG⟩:=SO fW fX fY fZ f0 f1 eF eG eH B8;exact⟨(0:Int),([]:List Cu),none,0,dM,qo st,sp st 1 iG,sp st 2 iH,sp st 3 iI,sp st 6 rfl,lF,c9,dN,lG,jB,jC,g4,g5,g6,g7,g8,g9,hA,fE,fF,fG⟩
    case lK=>
     rintro(_|d2) mS mT ⟨bD,aM,o,bA,dM,jV,dA,f2,dB,dC,hB,bN,bU,b5,cO,eW,cJ,f3,f4,f5,f6,f7,cK,cS,cT,cU⟩
     ·exact absurd (show none=some _ from dM) (by simp)
     rw[FQ.eq_2] at dM;have s:=dM;clear dM;refine ro jV<|Af<|cr<|wM (v:=I bD) dC<|wD (fun st=>Ad (ee st dA) (EN _ _))<|wD (fun st=>As (v:=.slice a3 x.Ar.length a4) FE (eR st) cO rfl)<|wD (fun st=>Be Tryz.underlying65 (eR st))<|wD (fun st=>B9 (eR st) (eR st))<|wn ?_;rcases Ae (decide (bD<(x.Ar.length:Int))) with eB|eB
     ·replace s:=Ap s eB;refine Am rfl eB<|cn<|Af<|AI ?_;replace s:=AP s;obtain⟨i30,bO,lL,lM,lN,s⟩:=s;obtain⟨j6,j7,_,lO,rfl,lP⟩:=Sl.elem cK (by decide) lM;replace s:=AP s;obtain⟨i31,eX,lQ,lR,lS,s⟩:=s;obtain⟨j8,j9,_,lT,rfl,lU⟩:=Sl.elem cK (by decide) lR;replace s:=bind_some s;obtain⟨aH,lV,s⟩:=s;refine BK 17 [Kc (pt c 6),Kc (.slice o aM.length bA),Kc (pt b1 6),Kc (.slice a3 x.Ar.length a4),Kc (I bD),Kc (pt j6 (j7+i30*3)),Kc (pt j6 (j7+i30*3)),Kc (I bO.Ce),Kc (pt b1 6),Kc (.slice a3 x.Ar.length a4),Kc (I bD),Kc (pt j8 (j9+i31*3)),Kc (pt j8 (j9+i31*3+1)),Kc (.agg #[I eX.CA,I eX.CB]),Kc (.agg #[I aH.Lo,I aH.Hi]),Kc (.agg #[I bO.Ce,I aH.Lo,I aH.Hi]),Kv (Fq Bp) (zf Z w [ob o,ob b,ob a,some c,some b2,some b1]) [(⟨bO.Ce,aH.Lo,aH.Hi⟩:Cu)]] mixed rfl rfl
          (Aa (oD (fun K=>Ad (es ((K.out 3 rfl).trans dB)) (Oz _ _)))
          (Aa (oD (fun K=>As QL (es (K.dq 0 70)) (cJ.ext K.AD) rfl))
          (Aa (oD (fun K=>Ad (es ((K.out 1 rfl).trans dA)) (EN _ _)))
          (Aa (oD (fun K=>As FE (es (K.dq 2 72)) (cO.ext K.AD) rfl))
          (Aa (oD (fun K=>Au (es ((K.out 6 rfl).trans dC))))
          (Aa (oD (fun K=>BD (k:=i30) Tryz.underlying65 J4 (es (K.dq 3 73)) lO (es (K.dq 4 74)) lL lN))
          (Aa (oD (fun K=>Ad (es (K.dq 5 75)) (Mp _ _ _)))
          (Aa (oD (fun K=>Bb Bh (es (K.dq 6 76)) (lP.mv (Ac K.AD)) rfl))
          (Aa (oD (fun K=>Ad (es ((K.out 1 rfl).trans dA)) (EN _ _)))
          (Aa (oD (fun K=>As FE (es (K.dq 8 78)) (cO.ext K.AD) rfl))
          (Aa (oD (fun K=>Au (es ((K.out 6 rfl).trans dC))))
          (Aa (oD (fun K=>BD (k:=i31) Tryz.underlying65 J4 (es (K.dq 9 79)) lT (es (K.dq 10 80)) lQ lS))
          (Aa (oD (fun K=>Ad (es (K.dq 11 81)) (MY _ _ _)))
          (Aa (oD (fun K=>L9 (l:=[I eX.CA,I eX.CB]) GR (es (K.dq 12 82)) (lU.mv (Ac K.AD)) rfl rfl))
          (Aa (oE (fun K=>(Aj Qa rfl (Cy (es (K.dq 13 83))) (Wx f9 (⟨eX.CA,eX.CB⟩:Bl) ZA _ aH lV)).mono (fun _ _ h=>⟨(by obtain⟨_,rfl,rfl⟩:=h.2;rfl),h.1⟩)))
          (Aa (oD (fun K=>Fp (vs:= #[(0,I bO.Ce),(1,.agg #[I aH.Lo,I aH.Hi])]) (v:=.agg #[I bO.Ce,I aH.Lo,I aH.Hi]) (Kz (es (K.dq 7 77)) (es (K.dq 14 84))) (by kernel_rfl)))
          (Aa (MH rfl rfl (fun a' w' ph K=>(Cx (e:=136) (vs:= #[(0,.agg #[I bO.Ce,I aH.Lo,I aH.Hi])]) (cs:= #[I bO.Ce,I aH.Lo,I aH.Hi]) (I5 (es (K.dq 15 85))) (by kernel_rfl)).mono (fun u CO ⟨iO,hu,hn⟩=>⟨⟨_,_,hu,JQ (xs:=[(⟨bO.Ce,aH.Lo,aH.Hi⟩:Cu)]) (CM:=[[I bO.Ce,I aH.Lo,I aH.Hi]]) hn.bk ((hB.ext K.AD).kn (Nat.le_of_eq hn.IL.symm)) (R2.mv (Ac hn.gr) (show R2 Bp w' (zf Z w [ob o,ob b,ob a,some c,some b2,some b1]) [[I bO.Ce,I aH.Lo,I aH.Hi]] [(⟨bO.Ce,aH.Lo,aH.Hi⟩:Cu)] from⟨rfl,trivial⟩)) rfl (Nat.le_refl _)⟩,hn.gr⟩)))
          (BI _)))))))))))))))))) ?_
      intro m4;rintro _ rfl _ rfl _ rfl _ rfl _ rfl _ rfl _ rfl _ rfl _ rfl _ rfl _ rfl _ rfl _ rfl _ rfl _ rfl _ rfl _ ⟨l3,l4,rfl,hC⟩ bP;have bQ:=hB.ext bP;have dW:=(b5.ext bP (Ac bP));replace s:=Ci s;obtain⟨jD,s⟩:=s;refine wE (fun st=>I0 (ys:=[(⟨bO.Ce,aH.Lo,aH.Hi⟩:Cu)]) Tryz.underlying51 Aby rfl rfl (by decide) (eR st) rfl (eR st) dW hC.n (by have:=jD;simp only[maxLen];omega) (by have:=jD;omega) bQ.sz) ?_;rintro _ m5 ⟨jE,jF,rfl,bX,eC,lW⟩;have bY:=bQ.row bX 0 rfl eC;have lX:=Eb lW (bQ.DE bX 0 rfl (fun k hk=>(eC k hk).1));refine wD (fun st=>Ad (ee st dB) (Oz _ _)) ?_;have hD:=((cJ.ext bP).gr bX (bQ.nq 3 0));refine Cs rfl rfl (fun st=>Ca (n:=1) (l:=[.slice jE ((aM++[(⟨bO.Ce,aH.Lo,aH.Hi⟩:Cu)]).length) jF]) (DO:= #[.slice d aB.Ax.length f,.slice g aB.Bv.length i,.slice j aB.AQ.length m,I x.Flat,.slice a cC.length q,.slice b cB.length aA,.slice jE ((aM++[(⟨bO.Ce,aH.Lo,aH.Hi⟩:Cu)]).length) jF]) (eR st) (eR st) Ach hD rfl rfl (show 6+1≤7 by decide) (BJ rfl) rfl) ?_;rintro _ m6 bR;have lY:=bY.gr bR.gr 3 rfl;refine AU<|CS<|Al<|wM (v:=I bD) dC ?_;replace s:=AF s;obtain⟨lZ,s⟩:=s;refine wD (fun st=>BG (eR st) (eR st) lZ)<|wA (v:=I (bD+1)) rfl<|AU ?_;have dD:=(((bN.ext bP (Ac bP)).gr bX (fun k hk=>bQ.ne 1 0 rfl (congrArg some hk) rfl) (bQ.DE bX 0 rfl (fun k hk=>(eC k hk).1))).gr bR.gr (fun k hk=>bY.ne 1 3 rfl (congrArg some hk) rfl) (bY.Co bR.gr 3 rfl));have dO:=(((bU.ext bP (Ac bP)).gr bX (fun k hk=>bQ.ne 2 0 rfl (congrArg some hk) rfl) (bQ.DE bX 0 rfl (fun k hk=>(eC k hk).1))).gr bR.gr (fun k hk=>bY.ne 2 3 rfl (congrArg some hk) rfl) (bY.Co bR.gr 3 rfl));have iL:=(lX.gr bR.gr (fun k hk=>bY.ne 0 3 rfl (congrArg some hk) rfl) (bY.Co bR.gr 3 rfl));have jG:=(((cO.ext bP).gr bX (bQ.nq 5 0)).gr bR.gr (bY.nq 5 3));have jH:=(((eW.ext bP).gr bX (bQ.nq 4 0)).gr bR.gr (bY.nq 4 3));have ⟨hE,hF,hG,hH,hI,hJ,fH,fI,fJ⟩:=SO f3 f4 f5 f6 f7 cK cS cT cU (mt (Ac bP) (mt (bQ.DE bX 0 rfl (fun k hk=>(eC k hk).1)) (bY.Co bR.gr 3 rfl)));refine Bi d2 (Nat.lt_succ_self _) (fun st=>?_);exact⟨(bD+1),(aM++[(⟨bO.Ce,aH.Lo,aH.Hi⟩:Cu)]),jE,jF,s,qo st,sp st 1 dA,sp st 2 f2,sp st 3 dB,sp st 6 rfl,lY,dD,dO,iL,jG,jH,bR.bk,hE,hF,hG,hH,hI,hJ,fH,fI,fJ⟩
     ·replace s:=Aq s eB;refine An rfl eB<|Dq ?_;obtain rfl:=oi s;refine BC (fun st=>?_);exact⟨rfl,o,bA,qo st,sp st 2 f2,sp st 3 dB,hB,bN,b5,bU,eW,cJ,cS,cT,cU⟩
   case lI=>
    rintro fO mM mU (⟨rfl,y,aG,jI,eY,iM,bV,cY,cZ,dE,iN,f8,eI,eJ,eK⟩);refine lf jI<|AZ<|BS<|cr<|wD (fun st=>AK (l:=[.slice d aB.Ax.length f,.slice g aB.Bv.length i,.slice j aB.AQ.length m,I x.Flat,.slice a cC.length q,.slice b cB.length aA,.slice y z26.length aG]) FY (ee st iM) f8 rfl rfl)<|Cs rfl rfl (fun st=>Ca (n:=7) (l:=[.slice d aB.Ax.length f,.slice g aB.Bv.length i,.slice j aB.AQ.length m,I x.Flat,.slice a cC.length q,.slice b cB.length aA,.slice y z26.length aG]) (DO:= #[.slice d aB.Ax.length f,.slice g aB.Bv.length i,.slice j aB.AQ.length m,I x.Flat,.slice a cC.length q,.slice b cB.length aA,.slice y z26.length aG]) (ee st eY) (eR st) ZJ iN rfl rfl (show 0+7≤7 by decide) (BJ rfl) rfl) ?_;rintro _ m7 cA;have fK:=bV.gr cA.gr 4 rfl;refine wn<|Av ?_;obtain rfl:=oi s;refine Io (v:=.agg #[.slice d aB.Ax.length f,.slice g aB.Bv.length i,.slice j aB.AQ.length m,I x.Flat,.slice a cC.length q,.slice b cB.length aA,.slice y z26.length aG]) rfl eY (ET FY cA.bk rfl rfl) ?_;have ⟨fL,fM,fN⟩:=DU eI eJ eK (bV.Co cA.gr 4 rfl);have dP:=(dE.gr cA.gr (fun k hk=>bV.ne 2 4 rfl (congrArg some hk) rfl) (bV.Co cA.gr 4 rfl));have dF:=(cY.gr cA.gr (fun k hk=>bV.ne 1 4 rfl (congrArg some hk) rfl) (bV.Co cA.gr 4 rfl));have dG:=(cZ.gr cA.gr (fun k hk=>bV.ne 0 4 rfl (congrArg some hk) rfl) (bV.Co cA.gr 4 rfl));exact⟨fK.AS,⟨_,rfl,_,_,_,_,_,_,_,_,_,_,_,_,rfl,fL.mv (BQ (CE [] trivial)),fM.mv (BQ (CE [] trivial)),fN.mv (BQ (CE [] trivial)),fK.HP (M:=[]) 2 rfl [] rfl trivial dP,fK.HP (M:=[]) 1 rfl [] rfl trivial dF,fK.HP (M:=[]) 0 rfl [] rfl trivial dG⟩⟩
theorem S7 aP i o c d e f(Z:Nat→Prop) w(aG:Sl (Ao .i64) w Z c d i)(aH:Sl (Ao .i64) w Z e f o) aQ(a:Dk aP i o=some aQ):
 B7 Tryz.prog 41 #[.slice c i.length d,.slice e o.length f] w (fun v w'=>Ext w w'∧Cm.R w' (zf Z w []) v aQ):=by
 unfold Dk at a;refine rq (N:=26) Tryz.func41 fun bF ha bG=>?_;have aD:=sA 0 ha;have aE:=sA 1 ha;clear ha;have aI:Hp FN [] w [] w:=Hp.start (BL.none w);have ⟨y,z⟩:=Nb aG aH (Bd (Z:=Z) (L:=[]) w);refine cr<|wA (v:=.bool false) rfl<|wn<|Af<|cr<|wM (v:=.slice c i.length d) aD<|wD (fun st=>Be Tryz.underlying31 (eR st))<|wM (v:=.slice e o.length f) aE<|wD (fun st=>Be Tryz.underlying31 (eR st))<|wD (fun st=>Db (eR st) (eR st))<|wn ?_;rcases Ae ((i.length:Int) !=(o.length:Int)) with r|r
 ·replace a:=Ap a r;refine Am rfl r<|cr<|wA (v:=.bool false) rfl<|wn<|Av<|AG ?_;obtain rfl:=oi a;refine Ay rfl rfl ?_;exact⟨aI.AS,rfl⟩
 ·replace a:=Aq a r;refine An rfl r<|cn<|Af<|cr<|wA (v:=I 0) rfl<|wn<|AI ?_;replace a:=bind_some a;obtain⟨z2,m,a⟩:=a;refine BX (fun aM g aA=>(aM=.ret∧∃n,z2=.inl n∧Fo X0 26 g∧sl g 4=.bool n∧Hp FN [] w [] aA)∨(aM=.exit 0∧∃n,z2=.inr n∧Fo X0 26 g∧Hp FN [] w [] aA)) ?aR ?aS
  case aR=>
   clear a;refine BW (fun aN g aA=>∃b,CX i o aN b=some z2∧Fo X0 26 g∧sl g 0=.slice c i.length d∧sl g 1=.slice e o.length f∧sl g 5=I b∧Hp FN [] w [] aA∧Sl (Ao .i64) aA (zf Z w []) c d i∧Sl (Ao .i64) aA (zf Z w []) e f o) aP ?aT ?aU
   case aT=>
    intro st;exact⟨(0:Int),m,qo st,sp st 0 aD,sp st 1 aE,sp st 5 rfl,aI,y,z⟩
   case aU=>
    rintro(_|aN) bH bI ⟨b,m,aO,p,x,h,aJ,j,l⟩
    ·exact absurd (show none=some _ from m) (by simp)
    rw[CX.eq_2] at m;have a:=m;clear m;refine ro aO<|Af<|cr<|wM (v:=I b) h<|wM (v:=.slice c i.length d) p<|wD (fun st=>Be Tryz.underlying31 (eR st))<|wD (fun st=>B9 (eR st) (eR st))<|wn ?_;rcases Ae (decide (b<(i.length:Int))) with s|s
    ·replace a:=Ap a s;refine Am rfl s<|cn<|Af<|AI<|Af ?_;replace a:=AP a;obtain⟨i5,aV,aW,aX,aY,a⟩:=a;obtain⟨bA,bB,_,aZ,rfl,a0⟩:=Sl.Cz j rfl aX;replace a:=AP a;obtain⟨i6,a2,a3,a4,a5,a⟩:=a;obtain⟨bC,bD,_,a7,rfl,a8⟩:=Sl.Cz l rfl a4;refine BK 8 [Kc (.slice c i.length d),Kc (I b),Kc (pt bA (bB+i5)),Kc (I aV),Kc (.slice e o.length f),Kc (I b),Kc (pt bC (bD+i6)),Kc (I a2)] mixed rfl rfl
         (Aa (oD (fun K=>Au (es ((K.out 0 rfl).trans p))))
         (Aa (oD (fun K=>Au (es ((K.out 5 rfl).trans h))))
         (Aa (oD (fun K=>AR (k:=i5) Tryz.underlying31 C7 (es (K.dq 0 17)) aZ (es (K.dq 1 18)) aW aY))
         (Aa (oD (fun K=>Bb Bh (es (K.dq 2 19)) (a0.mv (Ac K.AD)) rfl))
         (Aa (oD (fun K=>Au (es ((K.out 1 rfl).trans x))))
         (Aa (oD (fun K=>Au (es ((K.out 5 rfl).trans h))))
         (Aa (oD (fun K=>AR (k:=i6) Tryz.underlying31 C7 (es (K.dq 4 21)) a7 (es (K.dq 5 22)) a3 a5))
         (Aa (oD (fun K=>Bb Bh (es (K.dq 6 23)) (a8.mv (Ac K.AD)) rfl))
         (BI _))))))))) ?_
     intro bK;rintro _ rfl _ rfl _ rfl _ rfl _ rfl _ rfl _ rfl _ rfl aK;have aL:=aJ.ext aK;refine wD (fun st=>Db (eR st) (eR st))<|wn ?_;rcases Ae (aV !=a2) with t|t
     ·replace a:=Ap a t;refine Am rfl t<|cr<|wA (v:=.bool false) rfl<|wn<|Av<|Dd<|AG ?_;obtain rfl:=oi a;refine BC (fun st=>?_);exact .inl ⟨rfl,false,rfl,qo st,sp st 4 rfl,aL⟩
     ·replace a:=Aq a t;refine An rfl t<|Ct<|CS<|Al<|wM (v:=I b) h ?_;replace a:=AF a;obtain⟨a9,a⟩:=a;refine wD (fun st=>BG (eR st) (eR st) a9)<|wA (v:=I (b+1)) rfl<|AU ?_;have ⟨aB,aC⟩:=Nb j l (Ac aK);refine Bi aN (Nat.lt_succ_self _) (fun st=>?_);exact⟨(b+1),a,qo st,sp st 0 p,sp st 1 x,sp st 5 rfl,aL,aB,aC⟩
    ·replace a:=Aq a s;refine An rfl s<|Dq ?_;obtain rfl:=oi a;refine BC (fun st=>?_);exact .inr ⟨rfl,(),rfl,qo st,aJ⟩
  case aS=>
   rintro aM bE bJ (⟨rfl,n,rfl,q,aF,u⟩|⟨rfl,n,rfl,q,u⟩)
   ·skip
    replace a:=C9 a;refine lf q<|Dd ?_;obtain rfl:=oi a;refine Ay rfl aF ?_;exact⟨u.AS,rfl⟩
   ·skip
    replace a:=Da a;refine lf q<|AZ<|BS<|cr<|wA (v:=.bool true) rfl<|wn<|Av ?_;obtain rfl:=oi a;refine Ay rfl rfl ?_;exact⟨u.AS,rfl⟩
theorem U8 aQ a f g h i j k m n o p q r(Z:Nat→Prop) w(aD:Sl Az w Z f g a.Ag)(aE:Sl (Bs (Ao .i64)) w Z h i a.Ab)(aF:Sl AH w Z j k a.Ak)(aG:Sl Ba w Z m n a.AJ)(aH:Sl Bc w Z o p a.Aw)(aI:Sl Bp w Z q r a.Ar) aR(b:FW aQ a=some aR):
 B7 Tryz.prog 36 #[.agg (Ai f g h i j k m n o p q r a).toArray] w (fun v w'=>Ext w w'∧Cm.R w' (zf Z w []) v aR):=by
 unfold FW at b;refine rq (N:=24) Tryz.func36 fun aV ha aW=>?_;have aL:=sA 0 ha;clear ha;have aJ:Hp FN [] w [] w:=Hp.start (BL.none w);have ⟨x,y,z,aN,aO,aP⟩:=Cp aD aE aF aG aH aI (Bd (Z:=Z) (L:=[]) w);refine cr<|wE (fun st=>BP (v:=.agg (Ai f g h i j k m n o p q r a).toArray) (cs:=(Ai f g h i j k m n o p q r a).toArray) (ee st aL) rfl) ?_;rintro _ w1 ⟨b1,rfl,t⟩;have aS:=aJ.nb t;have aU:=aJ.BU t;refine wA (v:=.bool false) rfl<|wr<|wD (fun st=>Ad (eR st) (DQ _ _))<|wD (fun st=>AK (l:=[.slice f a.Ag.length g,.slice h a.Ab.length i,.slice j a.Ak.length k]) Dt (eR st) t.bk rfl rfl) ?_;have ⟨aA,aB,aC⟩:=DU x y z (AA t);replace b:=bind_some b;obtain⟨aM,aT,b⟩:=b;refine wE (fun st=>Aj AeM (eR st) (Cy (eR st)) (a23 aQ (⟨a.Ag,a.Ab,a.Ak⟩:AO) f g h i j k ZA _ aA.all aB.all aC.all aM aT)) ?_;rintro _ aX ⟨aK,rfl⟩;have u:=aS.ext aK;refine wM (v:=.bool aM) rfl ?_;rcases Ae (aM) with c|c
 ·replace b:=Ap b c;refine wG c (fun st=>Ad (eR st) (Jj _ _)) ?_;have s:=(t.bk.ext aK);refine wG c (fun st=>As (v:=.slice m a.AJ.length n) Ks (eR st) s rfl)<|wG c (fun st=>Be Tryz.underlying63 (eR st))<|wG c (fun st=>JP (eR st) (eR st))<|wD (fun st=>AW (v:=.bool (decide ((a.AJ.length:Int)≤5))) (eR st) c (eR st))<|wM (v:=.bool (decide ((a.AJ.length:Int)≤5))) rfl ?_;rcases Ae (decide ((a.AJ.length:Int)≤5)) with d|d
  ·replace b:=Ap b d;refine wG d (fun st=>Ad (eR st) (Hx _ _))<|wG d (fun st=>As (v:=.slice o a.Aw.length p) IG (eR st) s rfl)<|wG d (fun st=>Be Tryz.underlying64 (eR st))<|wG d (fun st=>JP (eR st) (eR st))<|wD (fun st=>AW (v:=.bool (decide ((a.Aw.length:Int)≤5))) (eR st) d (eR st))<|wM (v:=.bool (decide ((a.Aw.length:Int)≤5))) rfl ?_;rcases Ae (decide ((a.Aw.length:Int)≤5)) with e|e
   ·replace b:=Ap b e;refine wG e (fun st=>Ad (eR st) (EN _ _))<|wG e (fun st=>As (v:=.slice q a.Ar.length r) FE (eR st) s rfl)<|wG e (fun st=>Be Tryz.underlying65 (eR st))<|wG e (fun st=>JP (eR st) (eR st))<|wD (fun st=>AW (v:=.bool (decide ((a.Ar.length:Int)≤7))) (eR st) e (eR st))<|wA (v:=.bool (decide ((a.Ar.length:Int)≤7))) rfl<|wn<|Av ?_;obtain rfl:=oi b;refine Ay rfl rfl ?_;exact⟨u.AS,rfl⟩
   ·replace b:=Aq b e;refine wF e<|wF e<|wF e<|wF e<|wD (fun st=>Bo (v:=.bool false) (eR st) e (eR st))<|wA (v:=.bool false) rfl<|wn<|Av ?_;obtain rfl:=oi b;refine Ay rfl rfl ?_;exact⟨u.AS,rfl⟩
  ·replace b:=Aq b d;refine wF d<|wF d<|wF d<|wF d<|wD (fun st=>Bo (v:=.bool false) (eR st) d (eR st))<|wM (v:=.bool false) rfl<|wH<|wH<|wH<|wH<|wD (fun st=>Bo (v:=.bool false) (eR st) rfl (eR st))<|wA (v:=.bool false) rfl<|wn<|Av ?_;obtain rfl:=oi b;refine Ay rfl rfl ?_;exact⟨u.AS,rfl⟩
 ·replace b:=Aq b c;refine wF c<|wF c<|wF c<|wF c<|wD (fun st=>Bo (v:=.bool false) (eR st) c (eR st))<|wM (v:=.bool false) rfl<|wH<|wH<|wH<|wH<|wD (fun st=>Bo (v:=.bool false) (eR st) rfl (eR st))<|wM (v:=.bool false) rfl<|wH<|wH<|wH<|wH<|wD (fun st=>Bo (v:=.bool false) (eR st) rfl (eR st))<|wA (v:=.bool false) rfl<|wn<|Av ?_;obtain rfl:=oi b;refine Ay rfl rfl ?_;exact⟨u.AS,rfl⟩
theorem a57 o a b(Z:Nat→Prop) w h(i:Gr o a b=some h):
 B7 Tryz.prog 57 #[I a,I b] w (fun v w'=>Ext w w'∧(Fx Az).R w' (zf Z w []) v h):=by
 unfold Gr at i;refine rq (N:=8) Tryz.func57 fun p ha q=>?_;have f:=sA 0 ha;have g:=sA 1 ha;clear ha;have d:Hp FN [] w [] w:=Hp.start (BL.none w);refine cr<|wE (fun st=>CR (cs:= #[I 0,I 0]) LP rfl) ?_;rintro _ w1 ⟨b1,rfl,c⟩;have j:=d.nb c;have m:=d.BU c;refine wr<|wM (v:=I a) f<|wM (v:=I b) g<|wD (fun st=>Fp (vs:= #[(0,I a),(1,I b)]) (v:=.agg #[I a,I b]) (Kz (eR st) (eR st)) (by kernel_rfl))<|Cs rfl rfl (fun st=>Ca (n:=2) (l:=[I a,I b]) (DO:= #[I a,I b]) (eR st) (eR st) IV c.bk rfl rfl (show 0+2≤2 by decide) (BJ rfl) rfl) ?_;rintro _ w2 e;have k:=j.gr e.gr 0 rfl;refine wn<|Av ?_;obtain rfl:=oi i;refine Io (v:=.agg #[I a,I b]) rfl rfl (ET Ht e.bk rfl rfl) ?_;exact⟨k.AS,⟨_,rfl,rfl⟩⟩
theorem Wy bK aD(Z:Nat→Prop) w bO(p:EA bK aD=some bO):
 B7 Tryz.prog 88 #[I aD] w (fun v w'=>Ext w w'∧(Fx Pa).R w' (zf Z w []) v bO):=by
 unfold EA at p;refine rq (N:=29) Tryz.func88 fun bW ha bX=>?_;have bL:=sA 0 ha;clear ha;have bC:Hp FN [] w [] w:=Hp.start (BL.none w);refine cr<|wE (fun st=>CR (cs:= #[.slice none 0 0,.slice none 0 0,.slice none 0 0,I 0,.slice none 0 0,.slice none 0 0,.slice none 0 0]) V0 rfl) ?_;rintro _ w1 ⟨b1,rfl,aP⟩;have bD:=bC.nb aP;have bT:=bC.BU aP;refine wr<|wD (fun st=>Fp (vs:= #[(0,I 40),(1,I 42)]) (v:=.agg #[I 40,I 42]) (Kz (eR st) (eR st)) (by kernel_rfl))<|wD (fun st=>Fp (vs:= #[(0,I 60),(1,I 63)]) (v:=.agg #[I 60,I 63]) (Kz (eR st) (eR st)) (by kernel_rfl))<|wE (fun st=>Cx (e:=131) (vs:= #[(0,.agg #[I 40,I 42]),(1,.agg #[I 60,I 63])]) (cs:= #[I 40,I 42,I 60,I 63]) (Kz (eR st) (eR st)) (by kernel_rfl)) ?_;rintro _ w2 ⟨b2,rfl,aL⟩;have bE:=bD.nb aL;have a5:=bD.BU aL;refine wE (fun st=>Cx (e:=3) (vs:= #[(0,I 10),(1,I 10)]) (cs:= #[I 10,I 10]) (Kz (eR st) (eR st)) (by kernel_rfl)) ?_;rintro _ b4 ⟨b3,rfl,aG⟩;have bF:=bE.nb aG;have a7:=bE.BU aG;refine wE (fun st=>Cx (e:=3) (vs:= #[(0,I 5),(1,I 15)]) (cs:= #[I 5,I 15]) (Kz (eR st) (eR st)) (by kernel_rfl)) ?_;rintro _ b5 ⟨t,rfl,aB⟩;have bG:=bF.nb aB;have a8:=bF.BU aB;refine wE (fun st=>Cx (e:=31) (vs:= #[(0,.slice (some ⟨b3,0,none⟩) 2 2),(1,.slice (some ⟨t,0,none⟩) 2 2)]) (cs:= #[.slice (some ⟨b3,0,none⟩) 2 2,.slice (some ⟨t,0,none⟩) 2 2]) (Kz (eR st) (eR st)) (by kernel_rfl)) ?_;rintro _ b6 ⟨f,rfl,x⟩;have bH:=bG.nb x;have a9:=bG.BU x;refine wD (fun st=>Fp (vs:= #[(0,.slice (some ⟨b2,0,none⟩) 2 2),(1,.slice (some ⟨f,0,none⟩) 2 2)]) (v:=.agg #[.slice (some ⟨b2,0,none⟩) 2 2,.slice (some ⟨f,0,none⟩) 2 2,.slice none 0 0]) (Kz (eR st) (eR st)) (by kernel_rfl))<|wE (fun st=>CR (cs:= #[.slice none 0 0,.slice none 0 0,.slice none 0 0]) VZ rfl) ?_;rintro _ b7 ⟨aH,rfl,s⟩;have aC:=bH.nb s;have bU:=bH.BU s;refine Cs rfl rfl (fun st=>Ca (n:=3) (l:=[.slice (some ⟨b2,0,none⟩) 2 2,.slice (some ⟨f,0,none⟩) 2 2,.slice none 0 0]) (DO:= #[.slice (some ⟨b2,0,none⟩) 2 2,.slice (some ⟨f,0,none⟩) 2 2,.slice none 0 0]) (eR st) (eR st) Aci s.bk rfl rfl (show 0+3≤3 by decide) (BJ rfl) rfl) ?_;rintro _ b8 y;have bP:=aC.gr y.gr 0 rfl;refine wn<|Af<|Al ?_;replace p:=bind_some p;obtain⟨b,bQ,p⟩:=p;refine wE (fun st=>Aj S4 (eR st) (CN (eR st) (eR st)) (a57 bK 80 80 ZA _ b bQ)) ?_;rintro _ b9 ⟨z,⟨_,rfl,rfl⟩⟩;have bR:=bP.ext z;refine wD (fun st=>Fp (vs:= #[(1,.agg #[I b.Lo,I b.Hi])]) (v:=.agg #[I 0,I b.Lo,I b.Hi]) (I5 (eR st)) (by kernel_rfl)) ?_;replace p:=bind_some p;obtain⟨a,bM,p⟩:=p;refine wE (fun st=>Aj S4 (eR st) (CN (eR st) (eR st)) (a57 bK 40 40 ZA _ a bM)) ?_;rintro _ bY ⟨m,⟨_,rfl,rfl⟩⟩;have bI:=bR.ext m;refine wD (fun st=>Fp (vs:= #[(1,.agg #[I a.Lo,I a.Hi])]) (v:=.agg #[I 0,I a.Lo,I a.Hi]) (I5 (eR st)) (by kernel_rfl))<|wE (fun st=>Cx (e:=136) (vs:= #[(0,.agg #[I 0,I b.Lo,I b.Hi]),(1,.agg #[I 0,I a.Lo,I a.Hi])]) (cs:= #[I 0,I b.Lo,I b.Hi,I 0,I a.Lo,I a.Hi]) (Kz (eR st) (eR st)) (by kernel_rfl)) ?_;rintro _ bS ⟨aQ,rfl,g⟩;have aR:=bI.nb g;have aS:=bI.BU g;refine wA (v:=.slice (some ⟨aQ,0,none⟩) 2 2) rfl<|wn<|Af ?_;have aI:=aR.erase 0;have aM:=g.bk;have aT:Sl Bp bS (zf Z w [some aH,some f,some t,some b3,some b2,some b1]) (some ⟨aQ,0,none⟩) 2 [(⟨0,b.Lo,b.Hi⟩:Cu),(⟨0,a.Lo,a.Hi⟩:Cu)]:=JQ (e:=Bp) (xs:=[(⟨0,b.Lo,b.Hi⟩:Cu),(⟨0,a.Lo,a.Hi⟩:Cu)]) (CM:=[[I 0,I b.Lo,I b.Hi],[I 0,I a.Lo,I a.Hi]]) aM (aR.lit 0 rfl aS) ⟨rfl,rfl,trivial⟩ rfl (Nat.le_refl _);have aU:=(((y.bk.ext z).ext m).ext g.gr);replace p:=O9 p;obtain⟨bN,p⟩:=p;refine BK 11 [Kc (.agg #[.slice (some ⟨b2,0,none⟩) 2 2,.slice (some ⟨f,0,none⟩) 2 2,.slice none 0 0]),Kc (.agg #[I 55,I 6]),Kc (.agg #[I 51,I 4]),Kc (.agg #[I 40,I 2]),Kv (Fq Ba) (zf Z w [some aH,some f,some t,some b3,some b2,some b1]) [(⟨55,6⟩:C6),(⟨51,4⟩:C6),(⟨40,2⟩:C6)],Kc (.agg #[I 0,I 20]),Kc (.agg #[I 1,I 10]),Kv (Fq Bc) (zf Z w [some aH,some f,some t,some b3,some b2,some b1]) [(⟨0,20⟩:CH),(⟨1,10⟩:CH)],Kc (.slice (some ⟨aQ,0,none⟩) 2 2),Kc (I aD),Kv (Fq Bp) (zf Z w [some aH,some f,some t,some b3,some b2,some b1]) (HL [(⟨0,b.Lo,b.Hi⟩:Cu),(⟨0,a.Lo,a.Hi⟩:Cu)] (0:Int) aD)] mixed rfl rfl
     (Aa (oD (fun K=>AK (l:=[.slice (some ⟨b2,0,none⟩) 2 2,.slice (some ⟨f,0,none⟩) 2 2,.slice none 0 0]) LH (K.kO 3) (aU.ext K.AD) rfl rfl))
     (Aa (oD (fun K=>Fp (vs:= #[(0,I 55),(1,I 6)]) (v:=.agg #[I 55,I 6]) (Kz (ec (v:=I 55)) (ec (v:=I 6))) (by kernel_rfl)))
     (Aa (oD (fun K=>Fp (vs:= #[(0,I 51),(1,I 4)]) (v:=.agg #[I 51,I 4]) (Kz (ec (v:=I 51)) (ec (v:=I 4))) (by kernel_rfl)))
     (Aa (oD (fun K=>Fp (vs:= #[(0,I 40),(1,I 2)]) (v:=.agg #[I 40,I 2]) (Kz (ec (v:=I 40)) (ec (v:=I 2))) (by kernel_rfl)))
     (Aa (MH rfl rfl (fun a' w' ph K=>(Cx (e:=48) (vs:= #[(0,.agg #[I 55,I 6]),(1,.agg #[I 51,I 4]),(2,.agg #[I 40,I 2])]) (cs:= #[I 55,I 6,I 51,I 4,I 40,I 2]) (pm3 (es (K.dq 1 18)) (es (K.dq 2 19)) (es (K.dq 3 20))) (by kernel_rfl)).mono (fun u CO ⟨bV,hu,hn⟩=>⟨⟨_,_,hu,JQ (xs:=[(⟨55,6⟩:C6),(⟨51,4⟩:C6),(⟨40,2⟩:C6)]) (CM:=[[I 55,I 6],[I 51,I 4],[I 40,I 2]]) hn.bk ((aI.ext K.AD).kn (Nat.le_of_eq hn.IL.symm)) (R2.mv (Ac hn.gr) (show R2 Ba w' (zf Z w [some aH,some f,some t,some b3,some b2,some b1]) [[I 55,I 6],[I 51,I 4],[I 40,I 2]] [(⟨55,6⟩:C6),(⟨51,4⟩:C6),(⟨40,2⟩:C6)] from⟨rfl,rfl,rfl,trivial⟩)) rfl (Nat.le_refl _)⟩,hn.gr⟩)))
     (Aa (oD (fun K=>Fp (vs:= #[(0,I 0),(1,I 20)]) (v:=.agg #[I 0,I 20]) (Kz (ec (v:=I 0)) (ec (v:=I 20))) (by kernel_rfl)))
     (Aa (oD (fun K=>Fp (vs:= #[(0,I 1),(1,I 10)]) (v:=.agg #[I 1,I 10]) (Kz (ec (v:=I 1)) (ec (v:=I 10))) (by kernel_rfl)))
     (Aa (MH rfl rfl (fun a' w' ph K=>(Cx (e:=134) (vs:= #[(0,.agg #[I 0,I 20]),(1,.agg #[I 1,I 10])]) (cs:= #[I 0,I 20,I 1,I 10]) (Kz (es (K.dq 5 22)) (es (K.dq 6 23))) (by kernel_rfl)).mono (fun u CO ⟨bV,hu,hn⟩=>⟨⟨_,_,hu,JQ (xs:=[(⟨0,20⟩:CH),(⟨1,10⟩:CH)]) (CM:=[[I 0,I 20],[I 1,I 10]]) hn.bk ((aI.ext K.AD).kn (Nat.le_of_eq hn.IL.symm)) (R2.mv (Ac hn.gr) (show R2 Bc w' (zf Z w [some aH,some f,some t,some b3,some b2,some b1]) [[I 0,I 20],[I 1,I 10]] [(⟨0,20⟩:CH),(⟨1,10⟩:CH)] from⟨rfl,rfl,trivial⟩)) rfl (Nat.le_refl _)⟩,hn.gr⟩)))
     (Aa (oD (fun K=>Au (K.kO 4)))
     (Aa (oD (fun K=>Au (es ((K.out 0 rfl).trans bL))))
     (Aa (oE (fun K=>(UR (e:=Bp) (Z:=_) (xs:=[(⟨0,b.Lo,b.Hi⟩:Cu),(⟨0,a.Lo,a.Hi⟩:Cu)]) Tryz.underlying51 S1 rfl (es (K.dq 8 25)) Vv (Xg (es (K.dq 9 26))) (aT.mv (Ac K.AD)) bN).mono (fun u CO ⟨h1,h2⟩=>by subst h2;exact⟨h1,Ext.refl _⟩)))
     (BI _)))))))))))) ?_
 intro bZ;rintro _ rfl _ rfl _ rfl _ rfl _ ⟨h,i,rfl,aN⟩ _ rfl _ rfl _ ⟨j,k,rfl,aO⟩ _ rfl _ rfl _ ⟨c,d,rfl,aJ⟩ q;have r:=aI.ext q;refine wD (fun st=>Fp (vs:= #[(0,.agg #[.slice (some ⟨b2,0,none⟩) 2 2,.slice (some ⟨f,0,none⟩) 2 2,.slice none 0 0]),(1,I 3),(2,.slice h ([(⟨55,6⟩:C6),(⟨51,4⟩:C6),(⟨40,2⟩:C6)].length) i),(3,.slice j ([(⟨0,20⟩:CH),(⟨1,10⟩:CH)].length) k),(4,.slice c ((HL [(⟨0,b.Lo,b.Hi⟩:Cu),(⟨0,a.Lo,a.Hi⟩:Cu)] (0:Int) aD).length) d)]) (v:=.agg #[.slice (some ⟨b2,0,none⟩) 2 2,.slice (some ⟨f,0,none⟩) 2 2,.slice none 0 0,I 3,.slice h ([(⟨55,6⟩:C6),(⟨51,4⟩:C6),(⟨40,2⟩:C6)].length) i,.slice j ([(⟨0,20⟩:CH),(⟨1,10⟩:CH)].length) k,.slice c ((HL [(⟨0,b.Lo,b.Hi⟩:Cu),(⟨0,a.Lo,a.Hi⟩:Cu)] (0:Int) aD).length) d]) (pm5 (eR st) (eR st) (eR st) (eR st) (eR st)) (by kernel_rfl)) ?_;have aV:=((((((((((aP.bk.ext aL.gr).ext aG.gr).ext aB.gr).ext x.gr).ext s.gr).gr y.gr (aC.nq 5 0)).ext z).ext m).ext g.gr).ext q);refine Cs rfl rfl (fun st=>Ca (n:=7) (l:=[.slice (some ⟨b2,0,none⟩) 2 2,.slice (some ⟨f,0,none⟩) 2 2,.slice none 0 0,I 3,.slice h ([(⟨55,6⟩:C6),(⟨51,4⟩:C6),(⟨40,2⟩:C6)].length) i,.slice j ([(⟨0,20⟩:CH),(⟨1,10⟩:CH)].length) k,.slice c ((HL [(⟨0,b.Lo,b.Hi⟩:Cu),(⟨0,a.Lo,a.Hi⟩:Cu)] (0:Int) aD).length) d]) (DO:= #[.slice (some ⟨b2,0,none⟩) 2 2,.slice (some ⟨f,0,none⟩) 2 2,.slice none 0 0,I 3,.slice h ([(⟨55,6⟩:C6),(⟨51,4⟩:C6),(⟨40,2⟩:C6)].length) i,.slice j ([(⟨0,20⟩:CH),(⟨1,10⟩:CH)].length) k,.slice c ((HL [(⟨0,b.Lo,b.Hi⟩:Cu),(⟨0,a.Lo,a.Hi⟩:Cu)] (0:Int) aD).length) d]) (eR st) (eR st) ZJ aV rfl rfl (show 0+7≤7 by decide) (BJ rfl) rfl) ?_;rintro _ bJ o;have aW:=r.gr o.gr 5 rfl;refine wn<|Av ?_;have aX:=aW.erase 3;have aY:=(((((((((aG.bk.ext aB.gr).ext x.gr).ext s.gr).gr y.gr (aC.nq 3 0)).ext z).ext m).ext g.gr).ext q).gr o.gr (r.nq 3 5));have bA:Sl (Ao .i64) bJ (zf Z w [some aH,some f,some t,some b2,some b1]) (some ⟨b3,0,none⟩) 2 [10,10]:=JQ (e:=(Ao .i64)) (xs:=[10,10]) (CM:=[[I 10],[I 10]]) aY (aW.lit 3 rfl a7) ⟨rfl,rfl,trivial⟩ rfl (Nat.le_refl _);have aK:=aX.erase 2;have aZ:=((((((((aB.bk.ext x.gr).ext s.gr).gr y.gr (aC.nq 2 0)).ext z).ext m).ext g.gr).ext q).gr o.gr (r.nq 2 5));have bB:Sl (Ao .i64) bJ (zf Z w [some aH,some f,some b2,some b1]) (some ⟨t,0,none⟩) 2 [5,15]:=JQ (e:=(Ao .i64)) (xs:=[5,15]) (CM:=[[I 5],[I 15]]) aZ (aX.lit 2 rfl a8) ⟨rfl,rfl,trivial⟩ rfl (Nat.le_refl _);obtain rfl:=oi p;have a0:=o.bk;refine Io (v:=.agg #[.slice (some ⟨b2,0,none⟩) 2 2,.slice (some ⟨f,0,none⟩) 2 2,.slice none 0 0,I 3,.slice h ([(⟨55,6⟩:C6),(⟨51,4⟩:C6),(⟨40,2⟩:C6)].length) i,.slice j ([(⟨0,20⟩:CH),(⟨1,10⟩:CH)].length) k,.slice c ((HL [(⟨0,b.Lo,b.Hi⟩:Cu),(⟨0,a.Lo,a.Hi⟩:Cu)] (0:Int) aD).length) d]) rfl rfl (ET FY a0 rfl rfl) ?_;have a2:=((((((((((aL.bk.ext aG.gr).ext aB.gr).ext x.gr).ext s.gr).gr y.gr (aC.nq 4 0)).ext z).ext m).ext g.gr).ext q).gr o.gr (r.nq 4 5));have a3:=(((((((x.bk.ext s.gr).gr y.gr (aC.nq 1 0)).ext z).ext m).ext g.gr).ext q).gr o.gr (r.nq 1 5));have a4:=(bA.mv (AV 2));have ⟨aE,aF,aA⟩:=DU aN aO aJ (mt (r.Co o.gr 5 rfl) (mt (AV 3) (AV 2)));exact⟨aK.AS,⟨_,rfl,_,_,_,_,_,_,_,_,_,_,_,_,rfl,JQ (e:=Az) (Z:=zf Z w []) (xs:=[(⟨40,42⟩:Bl),(⟨60,63⟩:Bl)]) (CM:=[[I 40,I 42],[I 60,I 63]]) a2 (.inr ⟨a5,fun hm=>aK.EU (F':=FN) (M:=[]) 2 rfl [] rfl trivial eL (.inr hm)⟩) ⟨rfl,rfl,trivial⟩ rfl (Nat.le_refl _),JQ (e:=(Bs (Ao .i64))) (Z:=zf Z w []) (xs:=[[10,10],[5,15]]) (CM:=[[.slice (some ⟨b3,0,none⟩) 2 2],[.slice (some ⟨t,0,none⟩) 2 2]]) a3 (.inr ⟨a9,fun hm=>aK.EU (F':=FN) (M:=[]) 1 rfl [] rfl trivial eL (.inr hm)⟩) ⟨⟨_,_,rfl,(a4.mv (BQ (CE [] trivial)))⟩,⟨_,_,rfl,(bB.mv (BQ (CE [] trivial)))⟩,trivial⟩ rfl (Nat.le_refl _),Sl.nil _ _ _,aE.mv (BQ (CE [] trivial)),aF.mv (BQ (CE [] trivial)),aA.mv (BQ (CE [] trivial))⟩⟩
set_option maxHeartbeats 4000000 in
theorem a37 i(Z:Nat→Prop) w(a:BF i=some true):
 B7 Tryz.prog 37 #[] w (fun v w'=>Ext w w'∧v=.bool true):=by
 unfold BF at a;refine rq (N:=148) Tryz.func37 fun jM ha jN=>?_;clear ha;have hM:Hp FN [] w [] w:=Hp.start (BL.none w);refine cr<|wA (v:=.bool false) rfl<|wn<|Af<|Al ?_;replace a:=bind_some a;obtain⟨i5,i6,a⟩:=a;refine wE (fun st=>Aj Qb (eR st) (Cy (eR st)) (Wy i 0 (zf Z w []) _ i5 i6)) ?_;rintro _ w2 ⟨i7,⟨_,rfl,⟨gE,gF,gG,gH,gI,gJ,gK,gL,gM,gN,gO,gP,rfl,b4,b5,b6,b7,b8,b9⟩⟩⟩;have hN:=hM.ext i7;have ⟨b4,b5,b6,b7,b8,b9⟩:=Cp b4 b5 b6 b7 b8 b9 (hM.CQ (Nat.le_refl _));refine wE (fun st=>Cx (e:=3) (vs:= #[(0,I 41),(1,I 62)]) (cs:= #[I 41,I 62]) (Kz (eR st) (eR st)) (by kernel_rfl)) ?_;rintro _ jL ⟨b3,rfl,d8⟩;have hO:=hN.nb d8;have hG:=hN.BU d8;have hP:=hO.erase 0;have hH:=d8.bk;have hI:Sl (Ao .i64) jL (zf Z w []) (some ⟨b3,0,none⟩) 2 [41,62]:=JQ (e:=(Ao .i64)) (xs:=[41,62]) (CM:=[[I 41],[I 62]]) hH (hO.lit 0 rfl hG) ⟨rfl,rfl,trivial⟩ rfl (Nat.le_refl _);have ⟨dT,dU,dV,dW,dX,dY⟩:=Cp b4 b5 b6 b7 b8 b9 (mt (AA d8) (AV 0));replace a:=bind_some a;obtain⟨cA,i8,a⟩:=a;refine wE (fun st=>Aj Aay (eR st) (CN (eR st) (eR st)) (a32 i i5 [41,62] gE gF gG gH gI gJ gK gL gM gN gO gP (some ⟨b3,0,none⟩) 2 (zf Z w []) _ dT dU dV dW dX dY hI cA i8)) ?_;rintro _ j5 ⟨i9,⟨_,_,rfl,⟨bY,bZ,rfl,c5⟩,rfl⟩⟩;have hQ:=hP.ext i9;have c5:=c5.mv (hP.CQ (Nat.le_refl _));refine wM (v:=.tuple #[.slice bY cA.1.length bZ,I cA.2]) rfl<|wD (fun st=>Bz (v:=.slice bY cA.1.length bZ) (eR st) rfl)<|wD (fun st=>Bz (v:=I cA.2) (eR st) rfl)<|wA (v:=.slice bY cA.1.length bZ) rfl<|wA (v:=I cA.2) rfl<|wn<|Af<|Al ?_;replace a:=bind_some a;obtain⟨jA,jB,a⟩:=a;refine wE (fun st=>Aj Qb (eR st) (Cy (eR st)) (Wy i 0 (zf Z w []) _ jA jB)) ?_;rintro _ j6 ⟨hR,⟨_,rfl,⟨gQ,gR,gS,gT,gU,gV,gW,gX,gY,gZ,g0,g1,rfl,cB,cC,cD,cE,cF,cG⟩⟩⟩;have hS:=hQ.ext hR;have ⟨cB,cC,cD,cE,cF,cG⟩:=Cp cB cC cD cE cF cG (hQ.CQ (Nat.le_refl _));replace a:=bind_some a;obtain⟨r,jC,a⟩:=a;refine wE (fun st=>Aj U6 (eR st) (Cy (eR st)) (a33 i jA gQ gR gS gT gU gV gW gX gY gZ g0 g1 (zf Z w []) _ cB cC cD cE cF cG r jC)) ?_;rintro _ j7 ⟨hT,⟨_,_,rfl,⟨aJ,aK,rfl,c6⟩,rfl⟩⟩;have hU:=hS.ext hT;have c6:=c6.mv (hS.CQ (Nat.le_refl _));refine wM (v:=.tuple #[.slice aJ r.1.length aK,I r.2]) rfl<|wD (fun st=>Bz (v:=.slice aJ r.1.length aK) (eR st) rfl)<|wD (fun st=>Bz (v:=I r.2) (eR st) rfl)<|wA (v:=.slice aJ r.1.length aK) rfl<|wA (v:=I r.2) rfl<|wn<|Af<|Al ?_;replace a:=bind_some a;obtain⟨hV,h7,a⟩:=a;refine wE (fun st=>Aj Qb (eR st) (Cy (eR st)) (Wy i 0 (zf Z w []) _ hV h7)) ?_;rintro _ jO ⟨d4,⟨_,rfl,⟨d9,eA,eB,eC,eD,eE,eF,eG,eH,eI,eJ,eK,rfl,aL,aM,aN,aO,aP,aQ⟩⟩⟩;have hW:=hU.ext d4;have ⟨aL,aM,aN,aO,aP,aQ⟩:=Cp aL aM aN aO aP aQ (hU.CQ (Nat.le_refl _));refine wE (fun st=>Cx (e:=3) (vs:= #[(0,I 0),(1,I 1)]) (cs:= #[I 0,I 1]) (Kz (eR st) (eR st)) (by kernel_rfl)) ?_;rintro _ jP ⟨d,rfl,cH⟩;have jD:=hW.nb cH;have jE:=hW.BU cH;have ⟨dG,dH,dI,dJ,dK,dL⟩:=Cp aL aM aN aO aP aQ (AA cH);replace a:=bind_some a;obtain⟨b,h8,a⟩:=a;refine wE (fun st=>Aj QN (eR st) (CN (eR st) (eR st)) (XX i hV [0,1] d9 eA eB eC eD eE eF eG eH eI eJ eK (some ⟨d,0,none⟩) 2 ZA _ dG.all dH.all dI.all dJ.all dK.all dL.all (JQ (e:=(Ao .i64)) (xs:=[0,1]) (CM:=[[I 0],[I 1]]) cH.bk trivial ⟨rfl,rfl,trivial⟩ rfl (Nat.le_refl _)) b h8)) ?_;rintro _ jQ ⟨d5,⟨_,_,rfl,⟨_,rfl,rfl⟩,rfl⟩⟩;have hX:=jD.ext d5;refine wM (v:=.tuple #[.agg #[I b.1.Lo,I b.1.Hi],I b.2]) rfl<|wD (fun st=>Bz (v:=.agg #[I b.1.Lo,I b.1.Hi]) (eR st) rfl)<|wD (fun st=>Bz (v:=I b.2) (eR st) rfl)<|wE (fun st=>CR (cs:= #[I 0,I 0]) LP rfl) ?_;rintro _ jR ⟨f,rfl,c7⟩;have d6:=hX.nb c7;have jF:=hX.BU c7;refine Cs rfl rfl (fun st=>Ca (n:=2) (l:=[I b.1.Lo,I b.1.Hi]) (DO:= #[I b.1.Lo,I b.1.Hi]) (eR st) (eR st) IV c7.bk rfl rfl (show 0+2≤2 by decide) (BJ rfl) rfl) ?_;rintro _ jS dM;have g2:=d6.gr dM.gr 0 rfl;refine wA (v:=I b.2) rfl<|wn<|Af<|Al ?_;replace a:=bind_some a;obtain⟨hY,h9,a⟩:=a;refine wE (fun st=>Aj Qb (eR st) (Cy (eR st)) (Wy i 0 (zf Z w [some f,some d]) _ hY h9)) ?_;rintro _ jT ⟨dN,⟨_,rfl,⟨eM,eN,eO,eP,eQ,eS,eT,eU,eV,eW,eX,eY,rfl,aR,aS,aT,aU,aV,aW⟩⟩⟩;have g3:=g2.ext dN;have ⟨aR,aS,aT,aU,aV,aW⟩:=Cp aR aS aT aU aV aW (g2.CQ (Nat.le_refl _));replace a:=bind_some a;obtain⟨c,iA,a⟩:=a;refine wE (fun st=>Aj XS (eR st) (Cy (eR st)) (a34 i hY eM eN eO eP eQ eS eT eU eV eW eX eY (zf Z w [some f,some d]) _ aR aS aT aU aV aW c iA)) ?_;rintro _ jU ⟨dO,⟨_,_,_,rfl,⟨aB,aC,rfl,cI⟩,rfl,rfl⟩⟩;have g4:=g3.ext dO;have cI:=cI.mv (g3.CQ (Nat.le_refl _));refine wM (v:=.tuple #[.slice aB c.1.length aC,I c.2.1,I c.2.2]) rfl<|wD (fun st=>Bz (v:=.slice aB c.1.length aC) (eR st) rfl)<|wD (fun st=>Bz (v:=I c.2.1) (eR st) rfl)<|wD (fun st=>Bz (v:=I c.2.2) (eR st) rfl)<|wA (v:=.slice aB c.1.length aC) rfl<|wA (v:=I c.2.1) rfl<|wA (v:=I c.2.2) rfl<|wn<|Af<|Al ?_;replace a:=bind_some a;obtain⟨hZ,iB,a⟩:=a;refine wE (fun st=>Aj Qb (eR st) (Cy (eR st)) (Wy i 1 (zf Z w [some f,some d]) _ hZ iB)) ?_;rintro _ jV ⟨c8,⟨_,rfl,⟨eZ,e0,e1,e2,e3,e4,e5,e6,e7,e8,e9,fA,rfl,aX,aY,aZ,a0,a2,a3⟩⟩⟩;have g5:=g4.ext c8;have ⟨aX,aY,aZ,a0,a2,a3⟩:=Cp aX aY aZ a0 a2 a3 (g4.CQ (Nat.le_refl _));replace a:=bind_some a;obtain⟨j,iC,a⟩:=a;refine wE (fun st=>Aj XT (eR st) (Cy (eR st)) (a81 i hZ eZ e0 e1 e2 e3 e4 e5 e6 e7 e8 e9 fA (zf Z w [some f,some d]) _ aX aY aZ a0 a2 a3 j iC)) ?_;rintro _ jW ⟨c9,⟨_,_,rfl,⟨aD,aE,rfl,cJ⟩,rfl⟩⟩;have g6:=g5.ext c9;have cJ:=cJ.mv (g5.CQ (Nat.le_refl _));refine wM (v:=.tuple #[.slice aD j.1.length aE,I j.2]) rfl<|wD (fun st=>Bz (v:=.slice aD j.1.length aE) (eR st) rfl)<|wD (fun st=>Bz (v:=I j.2) (eR st) rfl)<|wA (v:=.slice aD j.1.length aE) rfl<|wA (v:=I j.2) rfl<|wn<|Af<|Al ?_;replace a:=bind_some a;obtain⟨h3,iD,a⟩:=a;refine wE (fun st=>Aj Qb (eR st) (Cy (eR st)) (Wy i 0 (zf Z w [some f,some d]) _ h3 iD)) ?_;rintro _ jX ⟨cK,⟨_,rfl,⟨fB,fC,fD,fE,fF,fG,fH,fI,fJ,fK,fL,fM,rfl,a4,a5,a7,a8,a9,bA⟩⟩⟩;have g7:=g6.ext cK;have ⟨a4,a5,a7,a8,a9,bA⟩:=Cp a4 a5 a7 a8 a9 bA (g6.CQ (Nat.le_refl _));replace a:=bind_some a;obtain⟨m,iE,a⟩:=a;refine wE (fun st=>Aj XU (eR st) (Cy (eR st)) (a69 i h3 fB fC fD fE fF fG fH fI fJ fK fL fM (zf Z w [some f,some d]) _ a4 a5 a7 a8 a9 bA m iE)) ?_;rintro _ jY ⟨cL,⟨_,_,rfl,⟨aF,aG,rfl,cM⟩,rfl⟩⟩;have g8:=g7.ext cL;have cM:=cM.mv (g7.CQ (Nat.le_refl _));refine wM (v:=.tuple #[.slice aF m.1.length aG,I m.2]) rfl<|wD (fun st=>Bz (v:=.slice aF m.1.length aG) (eR st) rfl)<|wD (fun st=>Bz (v:=I m.2) (eR st) rfl)<|wA (v:=.slice aF m.1.length aG) rfl<|wA (v:=I m.2) rfl<|wn<|Af<|Al ?_;replace a:=bind_some a;obtain⟨h4,iF,a⟩:=a;refine wE (fun st=>Aj Qb (eR st) (Cy (eR st)) (Wy i 2 (zf Z w [some f,some d]) _ h4 iF)) ?_;rintro _ jZ ⟨bB,⟨_,rfl,⟨fN,fO,fP,fQ,fR,fS,fT,fU,fV,fW,fX,fY,rfl,bC,bD,bE,bF,bG,bH⟩⟩⟩;have iG:=g8.ext bB;have ⟨bC,bD,bE,bF,bG,bH⟩:=Cp bC bD bE bF bG bH (g8.CQ (Nat.le_refl _));replace a:=bind_some a;obtain⟨g,iH,a⟩:=a;refine wE (fun st=>Aj XV (eR st) (Cy (eR st)) (a42 i h4 fN fO fP fQ fR fS fT fU fV fW fX fY ZA _ bC.all bD.all bE.all bF.all bG.all bH.all g iH)) ?_;rintro _ j0 ⟨bI,⟨_,_,rfl,rfl,rfl⟩⟩;have g9:=iG.ext bI;refine wM (v:=.tuple #[I g.1,I g.2]) rfl<|wD (fun st=>Bz (v:=I g.1) (eR st) rfl)<|wD (fun st=>Bz (v:=I g.2) (eR st) rfl)<|wA (v:=I g.1) rfl<|wA (v:=I g.2) rfl<|wn<|Af<|Al ?_;replace a:=bind_some a;obtain⟨h6,iI,a⟩:=a;refine wE (fun st=>Aj Qb (eR st) (Cy (eR st)) (Wy i 2 (zf Z w [some f,some d]) _ h6 iI)) ?_;rintro _ j1 ⟨bJ,⟨_,rfl,⟨fZ,f0,f1,f2,f3,f4,f5,f6,f7,f8,f9,gA,rfl,bK,bL,bM,bN,bO,bP⟩⟩⟩;have hA:=g9.ext bJ;have ⟨bK,bL,bM,bN,bO,bP⟩:=Cp bK bL bM bN bO bP (g9.CQ (Nat.le_refl _));replace a:=bind_some a;obtain⟨o,iJ,a⟩:=a;refine wE (fun st=>Aj XW (eR st) (Cy (eR st)) (a43 i h6 fZ f0 f1 f2 f3 f4 f5 f6 f7 f8 f9 gA (zf Z w [some f,some d]) _ bK bL bM bN bO bP o iJ)) ?_;rintro _ j2 ⟨bQ,⟨_,_,rfl,⟨aH,aI,rfl,cN⟩,rfl⟩⟩;have cO:=hA.ext bQ;have cN:=cN.mv (hA.CQ (Nat.le_refl _));refine wM (v:=.tuple #[.slice aH o.1.length aI,I o.2]) rfl<|wD (fun st=>Bz (v:=.slice aH o.1.length aI) (eR st) rfl)<|wD (fun st=>Bz (v:=I o.2) (eR st) rfl)<|wA (v:=.slice aH o.1.length aI) rfl<|wA (v:=I o.2) rfl<|wn<|Af ?_;rcases Ae (cA.2==0) with bR|bR
 ·replace a:=Ap a bR;have dZ:=(((((((((((((((((c5.mv (Ac hR)).mv (Ac hT)).mv (Ac d4)).mv (AA cH)).mv (Ac d5)).mv (AA c7)).mv (d6.Co dM.gr 0 rfl)).mv (Ac dN)).mv (Ac dO)).mv (Ac c8)).mv (Ac c9)).mv (Ac cK)).mv (Ac cL)).mv (Ac bB)).mv (Ac bI)).mv (Ac bJ)).mv (Ac bQ));replace a:=bind_some a;obtain⟨d0,iK,a⟩:=a;rcases Ae (d0) with cP|cP
  ·replace a:=Ap a cP;rcases Ae (r.2==0) with bS|bS
   ·replace a:=Ap a bS;rcases Ae ((r.1.length:Int)==2) with z|z
    ·replace a:=Ap a z;replace a:=AP a;obtain⟨i43,p,iL,iM,iN,a⟩:=a;have c4:=(((((((((((((((c6.mv (Ac d4)).mv (AA cH)).mv (Ac d5)).mv (AA c7)).mv (d6.Co dM.gr 0 rfl)).mv (Ac dN)).mv (Ac dO)).mv (Ac c8)).mv (Ac c9)).mv (Ac cK)).mv (Ac cL)).mv (Ac bB)).mv (Ac bI)).mv (Ac bJ)).mv (Ac bQ));obtain⟨jG,jH,_,iO,rfl,iP⟩:=Sl.elem c4 (by decide) iM;replace a:=bind_some a;obtain⟨s,iQ,a⟩:=a;rcases Ae ([p.Lo,p.Hi]==[s.Lo,s.Hi]) with aA|aA
     ·replace a:=Ap a aA;replace a:=AP a;obtain⟨i46,q,iR,iS,iT,a⟩:=a;obtain⟨jI,jJ,_,iU,rfl,iV⟩:=Sl.elem c4 (by decide) iS;replace a:=bind_some a;obtain⟨x,iW,a⟩:=a;rcases Ae ([q.Lo,q.Hi]==[x.Lo,x.Hi]) with cQ|cQ
      ·replace a:=Ap a cQ;rcases Ae (b.2==0) with bT|bT
       ·replace a:=Ap a bT;have gB:=((((((((((dM.bk.ext dN).ext dO).ext c8).ext c9).ext cK).ext cL).ext bB).ext bI).ext bJ).ext bQ);replace a:=bind_some a;obtain⟨y,iX,a⟩:=a;rcases Ae ([b.1.Lo,b.1.Hi]==[y.Lo,y.Hi]) with cR|cR
        ·replace a:=Ap a cR;rcases Ae (c.2.2==0) with bU|bU
         ·replace a:=Ap a bU;have dP:=((((((((cI.mv (Ac c8)).mv (Ac c9)).mv (Ac cK)).mv (Ac cL)).mv (Ac bB)).mv (Ac bI)).mv (Ac bJ)).mv (Ac bQ));replace a:=bind_some a;obtain⟨d1,iY,a⟩:=a;rcases Ae (d1) with cS|cS
          ·replace a:=Ap a cS;rcases Ae (c.2.1==180) with cT|cT
           ·replace a:=Ap a cT;rcases Ae (j.2==0) with bV|bV
            ·replace a:=Ap a bV;have dQ:=((((((cJ.mv (Ac cK)).mv (Ac cL)).mv (Ac bB)).mv (Ac bI)).mv (Ac bJ)).mv (Ac bQ));replace a:=bind_some a;obtain⟨d2,iZ,a⟩:=a;rcases Ae (d2) with cU|cU
             ·replace a:=Ap a cU;rcases Ae (m.2==0) with bW|bW
              ·replace a:=Ap a bW;have dR:=((((cM.mv (Ac bB)).mv (Ac bI)).mv (Ac bJ)).mv (Ac bQ));replace a:=bind_some a;obtain⟨d3,i0,a⟩:=a;rcases Ae (d3) with cV|cV
               ·replace a:=Ap a cV;rcases Ae (g.2==0) with cW|cW
                ·replace a:=Ap a cW;rcases Ae (g.1==1) with cX|cX
                 ·replace a:=Ap a cX;rcases Ae (o.2==0) with bX|bX
                  ·replace a:=Ap a bX;refine BK 85 [Kc (I cA.2),Kc (.bool (cA.2==0)),Kc (.bool (cA.2==0)),Kc (.slice bY cA.1.length bZ),Kv (Fq (Ao .i64)) (zf Z w [some f,some d]) [80,120],Kc (.bool d0),Kc (.bool d0),Kc (.bool d0),Kc (I r.2),Kc (.bool (r.2==0)),Kc (.bool (r.2==0)),Kc (.bool (r.2==0)),Kc (.slice aJ r.1.length aK),Kc (I (r.1.length:Int)),Kc (.bool ((r.1.length:Int)==2)),Kc (.bool ((r.1.length:Int)==2)),Kc (.bool ((r.1.length:Int)==2)),Kc (.slice aJ r.1.length aK),Kc (pt jG (jH+i43*2)),Kc (.agg #[I p.Lo,I p.Hi]),Kc (.agg #[I s.Lo,I s.Hi]),Kc (.bool ([p.Lo,p.Hi]==[s.Lo,s.Hi])),Kc (.bool ([p.Lo,p.Hi]==[s.Lo,s.Hi])),Kc (.bool ([p.Lo,p.Hi]==[s.Lo,s.Hi])),Kc (.slice aJ r.1.length aK),Kc (pt jI (jJ+i46*2)),Kc (.agg #[I q.Lo,I q.Hi]),Kc (.agg #[I x.Lo,I x.Hi]),Kc (.bool ([q.Lo,q.Hi]==[x.Lo,x.Hi])),Kc (.bool ([q.Lo,q.Hi]==[x.Lo,x.Hi])),Kc (.bool ([q.Lo,q.Hi]==[x.Lo,x.Hi])),Kc (I b.2),Kc (.bool (b.2==0)),Kc (.bool (b.2==0)),Kc (.bool (b.2==0)),Kc (.agg #[I b.1.Lo,I b.1.Hi]),Kc (.agg #[I y.Lo,I y.Hi]),Kc (.bool ([b.1.Lo,b.1.Hi]==[y.Lo,y.Hi])),Kc (.bool ([b.1.Lo,b.1.Hi]==[y.Lo,y.Hi])),Kc (.bool ([b.1.Lo,b.1.Hi]==[y.Lo,y.Hi])),Kc (I c.2.2),Kc (.bool (c.2.2==0)),Kc (.bool (c.2.2==0)),Kc (.bool (c.2.2==0)),Kc (.slice aB c.1.length aC),Kv (Fq (Ao .i64)) (zf Z w [some f,some d]) [1],Kc (.bool d1),Kc (.bool d1),Kc (.bool d1),Kc (I c.2.1),Kc (.bool (c.2.1==180)),Kc (.bool (c.2.1==180)),Kc (.bool (c.2.1==180)),Kc (I j.2),Kc (.bool (j.2==0)),Kc (.bool (j.2==0)),Kc (.bool (j.2==0)),Kc (.slice aD j.1.length aE),Kv (Fq (Ao .i64)) (zf Z w [some f,some d]) [1,0],Kc (.bool d2),Kc (.bool d2),Kc (.bool d2),Kc (I m.2),Kc (.bool (m.2==0)),Kc (.bool (m.2==0)),Kc (.bool (m.2==0)),Kc (.slice aF m.1.length aG),Kv (Fq (Ao .i64)) (zf Z w [some f,some d]) [0,1],Kc (.bool d3),Kc (.bool d3),Kc (.bool d3),Kc (I g.2),Kc (.bool (g.2==0)),Kc (.bool (g.2==0)),Kc (.bool (g.2==0)),Kc (I g.1),Kc (.bool (g.1==1)),Kc (.bool (g.1==1)),Kc (.bool (g.1==1)),Kc (I o.2),Kc (.bool (o.2==0)),Kc (.bool (o.2==0)),Kc (.bool (o.2==0)),Kc (.slice aH o.1.length aI),Kv (Fq (Ao .i64)) (zf Z w [some f,some d]) [0]] mixed rfl rfl
                       (Aa (oD (fun K=>Au (K.kO 2)))
                       (Aa (oD (fun K=>CT (es (K.dq 0 61)) (ec (v:=I 0))))
                       (Aa (oD (fun K=>Au (es (K.dq 1 62))))
                       (Aa (oG bR (fun K=>Au (K.kO 1)))
                       (Aa (PG rfl rfl rfl (fun a' w' ph K=>Ob (K.dq 2 63) bR) (fun a' w' ph K=>(Cx (e:=3) (vs:= #[(0,I 80),(1,I 120)]) (cs:= #[I 80,I 120]) (Kz (ec (v:=I 80)) (ec (v:=I 120))) (by kernel_rfl)).mono (fun u CO ⟨hJ,hu,hn⟩=>⟨⟨_,_,hu,JQ (xs:=[80,120]) (CM:=[[I 80],[I 120]]) hn.bk ((cO.ext K.AD).kn (Nat.le_of_eq hn.IL.symm)) (R2.mv (Ac hn.gr) (show R2 (Ao .i64) w' (zf Z w [some f,some d]) [[I 80],[I 120]] [80,120] from⟨rfl,rfl,trivial⟩)) rfl (Nat.le_refl _)⟩,hn.gr⟩)))
                       (Aa (oX bR (fun K=>match K.dq 4 65 with|⟨dA,dB,hL,dF⟩=>(Aj On rfl (CN (es (K.dq 3 64)) (es (t:=65) (v:=.slice dA ([80,120].length) dB) hL)) (S7 i cA.1 [80,120] bY bZ dA dB ZA _ (dZ.mv (Ac K.AD)).all dF.all d0 iK)).mono (fun _ _ h=>⟨h.2,h.1⟩)))
                       (Aa (oD (fun K=>AW (es (K.dq 2 63)) bR (es (K.dq 5 66))))
                       (Aa (oD (fun K=>Au (es (K.dq 6 67))))
                       (Aa (oG cP (fun K=>Au (K.kO 4)))
                       (Aa (oG cP (fun K=>CT (es (K.dq 8 69)) (ec (v:=I 0))))
                       (Aa (oD (fun K=>AW (es (K.dq 7 68)) cP (es (K.dq 9 70))))
                       (Aa (oD (fun K=>Au (es (K.dq 10 71))))
                       (Aa (oG bS (fun K=>Au (K.kO 3)))
                       (Aa (oG bS (fun K=>Be Tryz.underlying55 (es (K.dq 12 73))))
                       (Aa (oG bS (fun K=>CT (es (K.dq 13 74)) (ec (v:=I 2))))
                       (Aa (oD (fun K=>AW (es (K.dq 11 72)) bS (es (K.dq 14 75))))
                       (Aa (oD (fun K=>Au (es (K.dq 15 76))))
                       (Aa (oG z (fun K=>Au (K.kO 3)))
                       (Aa (oG z (fun K=>BD (k:=i43) Tryz.underlying55 IV (es (K.dq 17 78)) iO (ec (v:=I 0)) iL iN))
                       (Aa (oG z (fun K=>DF (l:=[I p.Lo,I p.Hi]) Ht (es (K.dq 18 79)) (iP.mv (Ac K.AD)) rfl rfl))
                       (Aa (oX z (fun K=>(Aj S4 rfl (CN (ec (v:=I 40)) (ec (v:=I 80))) (a57 i 40 80 ZA _ s iQ)).mono (fun _ _ h=>⟨(by obtain⟨_,rfl,rfl⟩:=h.2;rfl),h.1⟩)))
                       (Aa (oG z (fun K=>Tz (x1:=[p.Lo,p.Hi]) (x2:=[s.Lo,s.Hi]) Np No (es (K.dq 19 80)) (es (K.dq 20 81)) rfl rfl rfl rfl))
                       (Aa (oD (fun K=>AW (es (K.dq 16 77)) z (es (K.dq 21 82))))
                       (Aa (oD (fun K=>Au (es (K.dq 22 83))))
                       (Aa (oG aA (fun K=>Au (K.kO 3)))
                       (Aa (oG aA (fun K=>BD (k:=i46) Tryz.underlying55 IV (es (K.dq 24 85)) iU (ec (v:=I 1)) iR iT))
                       (Aa (oG aA (fun K=>DF (l:=[I q.Lo,I q.Hi]) Ht (es (K.dq 25 86)) (iV.mv (Ac K.AD)) rfl rfl))
                       (Aa (oX aA (fun K=>(Aj S4 rfl (CN (ec (v:=I 120)) (ec (v:=I 120))) (a57 i 120 120 ZA _ x iW)).mono (fun _ _ h=>⟨(by obtain⟨_,rfl,rfl⟩:=h.2;rfl),h.1⟩)))
                       (Aa (oG aA (fun K=>Tz (x1:=[q.Lo,q.Hi]) (x2:=[x.Lo,x.Hi]) Np No (es (K.dq 26 87)) (es (K.dq 27 88)) rfl rfl rfl rfl))
                       (Aa (oD (fun K=>AW (es (K.dq 23 84)) aA (es (K.dq 28 89))))
                       (Aa (oD (fun K=>Au (es (K.dq 29 90))))
                       (Aa (oG cQ (fun K=>Au (K.kO 6)))
                       (Aa (oG cQ (fun K=>CT (es (K.dq 31 92)) (ec (v:=I 0))))
                       (Aa (oD (fun K=>AW (es (K.dq 30 91)) cQ (es (K.dq 32 93))))
                       (Aa (oD (fun K=>Au (es (K.dq 33 94))))
                       (Aa (oG bT (fun K=>AK (l:=[I b.1.Lo,I b.1.Hi]) Ht (K.kO 5) (gB.ext K.AD) rfl rfl))
                       (Aa (oX bT (fun K=>(Aj S4 rfl (CN (ec (v:=I 160)) (ec (v:=I 200))) (a57 i 160 200 ZA _ y iX)).mono (fun _ _ h=>⟨(by obtain⟨_,rfl,rfl⟩:=h.2;rfl),h.1⟩)))
                       (Aa (oG bT (fun K=>Tz (x1:=[b.1.Lo,b.1.Hi]) (x2:=[y.Lo,y.Hi]) Np No (es (K.dq 35 96)) (es (K.dq 36 97)) rfl rfl rfl rfl))
                       (Aa (oD (fun K=>AW (es (K.dq 34 95)) bT (es (K.dq 37 98))))
                       (Aa (oD (fun K=>Au (es (K.dq 38 99))))
                       (Aa (oG cR (fun K=>Au (K.kO 9)))
                       (Aa (oG cR (fun K=>CT (es (K.dq 40 101)) (ec (v:=I 0))))
                       (Aa (oD (fun K=>AW (es (K.dq 39 100)) cR (es (K.dq 41 102))))
                       (Aa (oD (fun K=>Au (es (K.dq 42 103))))
                       (Aa (oG bU (fun K=>Au (K.kO 7)))
                       (Aa (PG rfl rfl rfl (fun a' w' ph K=>Ob (K.dq 43 104) bU) (fun a' w' ph K=>(Cx (e:=3) (vs:= #[(0,I 1)]) (cs:= #[I 1]) (I5 (ec (v:=I 1))) (by kernel_rfl)).mono (fun u CO ⟨hJ,hu,hn⟩=>⟨⟨_,_,hu,JQ (xs:=[1]) (CM:=[[I 1]]) hn.bk ((cO.ext K.AD).kn (Nat.le_of_eq hn.IL.symm)) (R2.mv (Ac hn.gr) (show R2 (Ao .i64) w' (zf Z w [some f,some d]) [[I 1]] [1] from⟨rfl,trivial⟩)) rfl (Nat.le_refl _)⟩,hn.gr⟩)))
                       (Aa (oX bU (fun K=>match K.dq 45 106 with|⟨cY,cZ,hB,dC⟩=>(Aj On rfl (CN (es (K.dq 44 105)) (es (t:=106) (v:=.slice cY ([1].length) cZ) hB)) (S7 i c.1 [1] aB aC cY cZ ZA _ (dP.mv (Ac K.AD)).all dC.all d1 iY)).mono (fun _ _ h=>⟨h.2,h.1⟩)))
                       (Aa (oD (fun K=>AW (es (K.dq 43 104)) bU (es (K.dq 46 107))))
                       (Aa (oD (fun K=>Au (es (K.dq 47 108))))
                       (Aa (oG cS (fun K=>Au (K.kO 8)))
                       (Aa (oG cS (fun K=>CT (es (K.dq 49 110)) (ec (v:=I 180))))
                       (Aa (oD (fun K=>AW (es (K.dq 48 109)) cS (es (K.dq 50 111))))
                       (Aa (oD (fun K=>Au (es (K.dq 51 112))))
                       (Aa (oG cT (fun K=>Au (K.kO 11)))
                       (Aa (oG cT (fun K=>CT (es (K.dq 53 114)) (ec (v:=I 0))))
                       (Aa (oD (fun K=>AW (es (K.dq 52 113)) cT (es (K.dq 54 115))))
                       (Aa (oD (fun K=>Au (es (K.dq 55 116))))
                       (Aa (oG bV (fun K=>Au (K.kO 10)))
                       (Aa (PG rfl rfl rfl (fun a' w' ph K=>Ob (K.dq 56 117) bV) (fun a' w' ph K=>(Cx (e:=3) (vs:= #[(0,I 1),(1,I 0)]) (cs:= #[I 1,I 0]) (Kz (ec (v:=I 1)) (ec (v:=I 0))) (by kernel_rfl)).mono (fun u CO ⟨hJ,hu,hn⟩=>⟨⟨_,_,hu,JQ (xs:=[1,0]) (CM:=[[I 1],[I 0]]) hn.bk ((cO.ext K.AD).kn (Nat.le_of_eq hn.IL.symm)) (R2.mv (Ac hn.gr) (show R2 (Ao .i64) w' (zf Z w [some f,some d]) [[I 1],[I 0]] [1,0] from⟨rfl,rfl,trivial⟩)) rfl (Nat.le_refl _)⟩,hn.gr⟩)))
                       (Aa (oX bV (fun K=>match K.dq 58 119 with|⟨c0,c1,hC,dD⟩=>(Aj On rfl (CN (es (K.dq 57 118)) (es (t:=119) (v:=.slice c0 ([1,0].length) c1) hC)) (S7 i j.1 [1,0] aD aE c0 c1 ZA _ (dQ.mv (Ac K.AD)).all dD.all d2 iZ)).mono (fun _ _ h=>⟨h.2,h.1⟩)))
                       (Aa (oD (fun K=>AW (es (K.dq 56 117)) bV (es (K.dq 59 120))))
                       (Aa (oD (fun K=>Au (es (K.dq 60 121))))
                       (Aa (oG cU (fun K=>Au (K.kO 13)))
                       (Aa (oG cU (fun K=>CT (es (K.dq 62 123)) (ec (v:=I 0))))
                       (Aa (oD (fun K=>AW (es (K.dq 61 122)) cU (es (K.dq 63 124))))
                       (Aa (oD (fun K=>Au (es (K.dq 64 125))))
                       (Aa (oG bW (fun K=>Au (K.kO 12)))
                       (Aa (PG rfl rfl rfl (fun a' w' ph K=>Ob (K.dq 65 126) bW) (fun a' w' ph K=>(Cx (e:=3) (vs:= #[(0,I 0),(1,I 1)]) (cs:= #[I 0,I 1]) (Kz (ec (v:=I 0)) (ec (v:=I 1))) (by kernel_rfl)).mono (fun u CO ⟨hJ,hu,hn⟩=>⟨⟨_,_,hu,JQ (xs:=[0,1]) (CM:=[[I 0],[I 1]]) hn.bk ((cO.ext K.AD).kn (Nat.le_of_eq hn.IL.symm)) (R2.mv (Ac hn.gr) (show R2 (Ao .i64) w' (zf Z w [some f,some d]) [[I 0],[I 1]] [0,1] from⟨rfl,rfl,trivial⟩)) rfl (Nat.le_refl _)⟩,hn.gr⟩)))
                       (Aa (oX bW (fun K=>match K.dq 67 128 with|⟨c2,c3,hD,dE⟩=>(Aj On rfl (CN (es (K.dq 66 127)) (es (t:=128) (v:=.slice c2 ([0,1].length) c3) hD)) (S7 i m.1 [0,1] aF aG c2 c3 ZA _ (dR.mv (Ac K.AD)).all dE.all d3 i0)).mono (fun _ _ h=>⟨h.2,h.1⟩)))
                       (Aa (oD (fun K=>AW (es (K.dq 65 126)) bW (es (K.dq 68 129))))
                       (Aa (oD (fun K=>Au (es (K.dq 69 130))))
                       (Aa (oG cV (fun K=>Au (K.kO 15)))
                       (Aa (oG cV (fun K=>CT (es (K.dq 71 132)) (ec (v:=I 0))))
                       (Aa (oD (fun K=>AW (es (K.dq 70 131)) cV (es (K.dq 72 133))))
                       (Aa (oD (fun K=>Au (es (K.dq 73 134))))
                       (Aa (oG cW (fun K=>Au (K.kO 14)))
                       (Aa (oG cW (fun K=>CT (es (K.dq 75 136)) (ec (v:=I 1))))
                       (Aa (oD (fun K=>AW (es (K.dq 74 135)) cW (es (K.dq 76 137))))
                       (Aa (oD (fun K=>Au (es (K.dq 77 138))))
                       (Aa (oG cX (fun K=>Au (K.kO 17)))
                       (Aa (oG cX (fun K=>CT (es (K.dq 79 140)) (ec (v:=I 0))))
                       (Aa (oD (fun K=>AW (es (K.dq 78 139)) cX (es (K.dq 80 141))))
                       (Aa (oD (fun K=>Au (es (K.dq 81 142))))
                       (Aa (oG bX (fun K=>Au (K.kO 16)))
                       (Aa (PG rfl rfl rfl (fun a' w' ph K=>Ob (K.dq 82 143) bX) (fun a' w' ph K=>(Cx (e:=3) (vs:= #[(0,I 0)]) (cs:= #[I 0]) (I5 (ec (v:=I 0))) (by kernel_rfl)).mono (fun u CO ⟨hJ,hu,hn⟩=>⟨⟨_,_,hu,JQ (xs:=[0]) (CM:=[[I 0]]) hn.bk ((cO.ext K.AD).kn (Nat.le_of_eq hn.IL.symm)) (R2.mv (Ac hn.gr) (show R2 (Ao .i64) w' (zf Z w [some f,some d]) [[I 0]] [0] from⟨rfl,trivial⟩)) rfl (Nat.le_refl _)⟩,hn.gr⟩)))
                       (BI _)))))))))))))))))))))))))))))))))))))))))))))))))))))))))))))))))))))))))))))))))))))) ?_
                   intro j3;rintro _ rfl _ rfl _ rfl _ rfl _ ⟨dA,dB,rfl,dF⟩ _ rfl _ rfl _ rfl _ rfl _ rfl _ rfl _ rfl _ rfl _ rfl _ rfl _ rfl _ rfl _ rfl _ rfl _ rfl _ rfl _ rfl _ rfl _ rfl _ rfl _ rfl _ rfl _ rfl _ rfl _ rfl _ rfl _ rfl _ rfl _ rfl _ rfl _ rfl _ rfl _ rfl _ rfl _ rfl _ rfl _ rfl _ rfl _ rfl _ rfl _ ⟨cY,cZ,rfl,dC⟩ _ rfl _ rfl _ rfl _ rfl _ rfl _ rfl _ rfl _ rfl _ rfl _ rfl _ rfl _ rfl _ ⟨c0,c1,rfl,dD⟩ _ rfl _ rfl _ rfl _ rfl _ rfl _ rfl _ rfl _ rfl _ ⟨c2,c3,rfl,dE⟩ _ rfl _ rfl _ rfl _ rfl _ rfl _ rfl _ rfl _ rfl _ rfl _ rfl _ rfl _ rfl _ rfl _ rfl _ rfl _ rfl _ ⟨gC,gD,rfl,d7⟩ hE;have i1:=cO.ext hE;have dS:=(cN.mv (Ac hE));replace a:=bind_some a;obtain⟨hF,i2,a⟩:=a;refine wX bX (fun st=>Aj On (eR st) (CN (eR st) (eR st)) (S7 i o.1 [0] aH aI gC gD ZA _ dS.all d7.all hF i2)) ?_;rintro _ j4 ⟨i3,rfl⟩;have i4:=i1.ext i3;refine wD (fun st=>AW (v:=.bool hF) (eR st) bX (eR st))<|wA (v:=.bool hF) rfl<|wn<|Av ?_;have jK:=oi a;refine Ay rfl rfl ?_;exact⟨i4.AS,congrArg Value.bool jK⟩
                  ·replace a:=Aq a bX;exact absurd (oi a) (by decide)
                 ·replace a:=Aq a cX;exact absurd (oi a) (by decide)
                ·replace a:=Aq a cW;exact absurd (oi a) (by decide)
               ·replace a:=Aq a cV;exact absurd (oi a) (by decide)
              ·replace a:=Aq a bW;exact absurd (oi a) (by decide)
             ·replace a:=Aq a cU;exact absurd (oi a) (by decide)
            ·replace a:=Aq a bV;exact absurd (oi a) (by decide)
           ·replace a:=Aq a cT;exact absurd (oi a) (by decide)
          ·replace a:=Aq a cS;exact absurd (oi a) (by decide)
         ·replace a:=Aq a bU;exact absurd (oi a) (by decide)
        ·replace a:=Aq a cR;exact absurd (oi a) (by decide)
       ·replace a:=Aq a bT;exact absurd (oi a) (by decide)
      ·replace a:=Aq a cQ;exact absurd (oi a) (by decide)
     ·replace a:=Aq a aA;exact absurd (oi a) (by decide)
    ·replace a:=Aq a z;exact absurd (oi a) (by decide)
   ·replace a:=Aq a bS;exact absurd (oi a) (by decide)
  ·replace a:=Aq a cP;exact absurd (oi a) (by decide)
 ·replace a:=Aq a bR;exact absurd (oi a) (by decide)
end Go.Proofs.YtbhofkcbfblijaaGreat
end
section
namespace Go.Proofs.YtbhofkcbfblijaaGreat
open Go.RowKit Go.ChangeShapes Go.WideShapes
theorem XY{α β:Type}{g:α→Option β}:∀{l:List α} {r:List β},l.mapM g=some r→∀(i:Nat) (x:α),l[i]?=some x→∃y,r[i]?=some y∧g x=some y
 |[],_,_,i,x,b=>by simp at b
 |a::l,r,h,i,x,b=>by
  rw[List.mapM_cons] at h;obtain⟨y,d,h2⟩:=Option.bind_eq_some_iff.1 h;obtain⟨ys,c,e⟩:=Option.bind_eq_some_iff.1 h2;obtain rfl:y::ys=r:=by simpa using e
  cases i with
  |zero=>
   obtain rfl:a=x:=by simpa using b
   exact⟨y,rfl,d⟩
  |succ i=>exact XY c i x (by simpa using b)
theorem RF{H:Type}{P:Program}{e:TypeId}{d:DataW H}{n:Nat}(hn:n∈d.weights P e):∀{l:List (DataW H)},d∈l→n∈DataW.weightsAll P e l
 |[],h=>by cases h
 |a::l,h=>by
  rw[DataW.weightsAll,List.mem_append];rcases List.mem_cons.1 h with rfl|h
  ·exact .inl hn
  ·exact .inr (RF hn h)
def QR {H:Type} (P:Program) (t:TypeId) (d:DataW H):Prop:=∀n∈d.weights P t,n≤reachBytes
theorem LQ{H:Type}{P:Program}{a:List TypeId}{ds:List (DataW H)}(h:(DataW.weightsEach P a ds).all (· ≤reachBytes)=true){j:Nat}{t:TypeId}{d:DataW H}(b:a[j]?=some t)(c:ds[j]?=some d):QR P t d:=fun n hn=>by
 have:=List.all_eq_true.1 h _ (DataW.weights_mem_each b c n hn);simpa using this
def Qc {α:Type} (P:Program) (t:TypeId) (e:ED α) (wf:α→Prop):Prop:=
 ∀(H:Type) (enc:TypeId×Value→H) (w:World) (sp:Nat→Bool) (fuel:Nat) (cs:List Value) (x:DataW H×List MemPlace),DataW.trod enc P w 0 sp true fuel t cs=some x→QR P t x.1→∃a,e.R w ZA cs a∧wf a
def IH(k:IntKind)(n:Int):Prop:=(Lit.int k n).wf=true
section
variable{P:Program}{t:TypeId}
theorem Lf{k:IntKind}(a:P.underlying t=some (.int k)):Qc P t (Ao k) (IH k):=by
 intro H enc w sp fuel cs x h _;obtain⟨n,h1,_,b⟩:=DataW.trod_int a h;exact⟨n,h1,b⟩
theorem AbJ(a:P.underlying t=some .bool):Qc P t Afk (fun _=>True):=by
 intro H enc w sp fuel cs x h _;obtain⟨b,h1,_⟩:=DataW.trod_bool a h;exact⟨b,h1,trivial⟩
theorem MZ {e:Array Field} (g:P.underlying t=some (.struct e)) {H:Type} {enc:TypeId×Value→H} {w:World} {sp:Nat→Bool} {fuel:Nat} {cs:List Value} {x:DataW H×List MemPlace} (h:DataW.trod enc P w 0 sp true fuel t cs=some x):
  cs.length=P.cellsOf t∧∃c,∀(i a off:Nat),(e[i]?).map (fun f=>(f.type,f.offset))=some (a,off)→∃y,DataW.trod enc P w 0 sp true c a ((cs.drop off).take (P.cellsOf a))=some y∧(QR P t x.1→QR P a y.1):=by
 cases fuel with
 |zero=>simp[DataW.trod] at h
 |succ fuel=>
  unfold DataW.trod at h;simp only[g] at h;split at h
  ·rename_i hl
   obtain⟨xs,m,rfl⟩:=Option.map_eq_some_iff.1 h;refine⟨hl,fuel,fun i a off o=>?_⟩;obtain⟨f,b,he⟩:=Option.map_eq_some_iff.1 o;obtain⟨k,p⟩:f.type=a∧f.offset=off:=by simpa using he
   rw[←Array.getElem?_toList] at b;obtain⟨y,q,l⟩:=XY m i f b;rw[k,p] at l;refine⟨y,l,fun hs n hn=>hs n ?_⟩;simp only[DataW.weights,g];exact DataW.weights_mem_each (j:=i) (t:=a) (d:=y.1) (by rw[List.getElem?_map,b];simp[k]) (by rw[List.getElem?_map,q];rfl) n hn
  ·cases h
theorem ZL{w:World}{a:Addr}{n:Nat}{cs:List Value}(h:w.cells? 0 a n=some cs):cs.length=n∧∀j u,cs[j]?=some u→w.cell? (a.add j)=some u:=by
 unfold World.cells? at h;rw[if_pos (Nat.zero_le _)] at h;have hl:=mapM_some_length h;refine⟨by simpa using hl,?_⟩;have key:∀(l:List Nat) (r:List Value),l.mapM (fun i=>w.cell? (a.add i))=some r→∀(j i:Nat) (u:Value),l[j]?=some i→r[j]?=some u→w.cell? (a.add i)=some u:=by
  intro l
  induction l with
  |nil=>intro r _ j i u hj;simp at hj
  |cons b l ih=>
   intro r h j i u hj hr;rw[List.mapM_cons] at h;obtain⟨y,e,h2⟩:=Option.bind_eq_some_iff.1 h;obtain⟨ys,c,f⟩:=Option.bind_eq_some_iff.1 h2;obtain rfl:y::ys=r:=by simpa using f
   cases j with
   |zero=>
    obtain rfl:b=i:=by simpa using hj
    obtain rfl:y=u:=by simpa using hr
    exact e
   |succ j=>exact ih ys c j i u (by simpa using hj) (by simpa using hr)
 intro j u hj;have d:j<n:=by
  have:=(List.getElem?_eq_some_iff.1 hj).1;have h2:cs.length=n:=by simpa using hl
  omega
 exact key _ _ h j j u (by simp[d]) hj
theorem AaA{w:World}{a:Addr}{u:Value}(h:w.cell? a=some u):∃b o,a=⟨b,o,none⟩∧b<w.heap.size:=by
 obtain⟨b,o,pt⟩:=a;cases pt with
 |none=>
  refine⟨b,o,rfl,?_⟩;unfold World.cell? at h;cases hq:w.heap[b]? with
  |none=>simp[hq] at h
  |some o=>exact(Array.getElem?_eq_some_iff.1 hq).1
 |some q=>
  unfold World.cell? at h;cases hq:w.heap[b]? with
  |none=>simp[hq] at h
  |some ob=>cases ob<;>simp[hq] at h
theorem add_add{a:Addr}{k j:Nat}(h:k≤j):(a.add k).add (j-k)=a.add j:=by
 obtain⟨b,o,pt⟩:=a;cases pt with
 |none=>rw[KB,KB,KB];congr 1;omega
 |some q=>
  unfold Addr.add
  by_cases hj:j=0
  ·have:k=0:=by omega
   subst this;subst hj;simp
  ·by_cases hk:k=0
   ·subst hk;simp[hj]
   ·by_cases c:j-k=0
    ·have:j=k:=by omega
     subst this;simp[hk]
    ·simp[hj,hk,c];omega
theorem KX {α:Type} {e:TypeId} {ee:ED α} {wf:α→Prop} (s:P.underlying t=some (.slice e)) (aG:P.cellsOf e=ee.sz) (h0:0<ee.sz) (aH:Qc P e ee wf) {b:Nat} (y:P.bytesOf e=b):Qc P t (Bs ee) (fun xs=>xs.length*b≤140737488351232∧∀x∈xs,wf x):=by
 intro H enc w sp fuel cs x h q;rcases Go.Deep.open_slice s h with⟨rfl,_⟩|⟨a,len,cap,m,n0,D,aM,rfl,_,aA,aK,hm,aB,ON⟩
 ·exact⟨[],⟨none,0,rfl,Sl.nil _ _ _⟩,by simp,by simp⟩
 ·have aL:len≤m:=by rw[hm];split<;>omega
  subst aB;have g:len*b≤140737488351232:=by
   have:=q ((((List.range len).map D).length+((List.range (m-len)).map fun j=>D (len+j)).length)*P.bytesOf e) (by simp[DataW.weights,s]);rw[y] at this;have h2:len*b≤(((List.range len).map D).length+((List.range (m-len)).map fun j=>D (len+j)).length)*b:=Nat.mul_le_mul_right _ (by simp);exact Nat.le_trans h2 this
  have k:∀i,i<len→QR P e (D i):=fun i hi n hn=>q n (by
   simp only[DataW.weights,s];rw[List.mem_cons,List.mem_append];exact .inr (.inl (RF hn (List.mem_map.2 ⟨i,by simpa using hi,rfl⟩))))
  have key:∀n,n≤len→∃CM xs,R2 ee w ZA CM xs∧xs.length=n∧(∀x∈xs,wf x)∧∀j u,CM.flatten[j]?=some u→w.cell? (a.add j)=some u:=by
   intro n
   induction n with
   |zero=>exact fun _=>⟨[],[],trivial,rfl,by simp,by simp⟩
   |succ n ih=>
    intro hn;obtain⟨CM,xs,h1,h2,v,l⟩:=ih (by omega);obtain⟨ds,aI,aC⟩:=ON n (by omega);obtain⟨z,aJ,aD⟩:=aH _ _ _ _ _ _ _ aC (k n (by omega));obtain⟨hl,p⟩:=ZL aI;refine⟨CM++[ds],xs++[z],h1.append ⟨aJ,trivial⟩,by simp[h2],?_,?_⟩
    ·intro x c;rcases List.mem_append.1 c with c|c
     ·exact v x c
     ·rw[List.mem_singleton.1 c];exact aD
    ·intro j u hj;rw[List.flatten_append] at hj;rcases Nat.lt_or_ge j CM.flatten.length with d|f
     ·rw[List.getElem?_append_left d] at hj;exact l j u hj
     ·rw[List.getElem?_append_right f] at hj;have h5:=p (j-CM.flatten.length) u (by simpa using hj);have aE:CM.flatten.length=n*ee.sz:=by rw[h1.Rh,h2]
      rw[aE] at h5 f;rw[aG] at h5;rw[add_add f] at h5;exact h5
  obtain⟨CM,xs,h1,h2,v,l⟩:=key len (Nat.le_refl _);refine⟨xs,⟨some a,cap,by rw[h2],by rw[h2];exact aA,(fun e=>by cases e),CM,h1,?_⟩,by rw[h2];exact g,v⟩;cases aF:CM.flatten with
  |nil=>exact .inl rfl
  |cons u us=>
   have hu:=l 0 u (by rw[aF];rfl);obtain⟨b,o,r,d⟩:=AaA hu;have ha:a=⟨b,o,none⟩:=by
    obtain⟨b',o',pt⟩:=a;cases pt<;>simp[Addr.add] at r⊢;exact r
   subst ha;refine .inr ⟨b,o,rfl,trivial,d,fun j u hj=>?_⟩;have:=l j u (by rw[aF];exact hj);rw[KB] at this;exact this
end
section
variable{H:Type}{enc:TypeId×Value→H}{P:Program}{W W':World}
theorem Sp{sp:Nat→Bool}:∀{e:List TypeId} {vs:List Value} {ds:List (DataW H)} {ps:List MemPlace},DataW.TrodAll enc P W 0 sp true e vs ds ps→(∀p∈ps,W.sameAt W' p)→DataW.TrodAll enc P W' 0 sp true e vs ds ps
 |[],_,_,_,h,_=>by
  obtain⟨rfl,rfl,rfl⟩:=trodAll_nil h;exact rfl
 |_::_,_,_,_,h,hs=>by
  obtain⟨v,f,d,g,a,b,rfl,rfl,rfl,⟨n,hn⟩,h2⟩:=trodAll_cons h;exact⟨a,b,⟨n,DataW.trod_carry n _ _ _ hn fun p c=>hs p (List.mem_append_left _ c)⟩,Sp h2 fun p c=>hs p (List.mem_append_right _ c),rfl⟩
theorem MQ(K:Kids P (· <P.types.size))(c:∀t e,t<P.types.size→P.underlying t=some (.slice e)→0<P.cellsOf e){a:List TypeId}{vs:List Value}{ds:List (DataW H)}{ps:List MemPlace}(d:∀t∈a,t<P.types.size)
  (f:DataW.TrodAll enc P W 0 (fun _=>true) true a vs ds ps)(hb:Ext W W')(b:∀p∈ps,p.block<W.heap.size)(sp:Nat→Bool)(hs:∀p∈ps,sp p.block=true):DataW.TrodAll enc P W' 0 sp true a vs ds ps:=
 Sp (DataW.TrodAll.respare K c d f hs) fun p g=>(Su hb).same (b p g)
variable{α:Type}{e:ED α}{wf:α→Prop}{t:TypeId}{b0:Nat}{v:Value}{d:DataW H}{p:List MemPlace}{sp:Nat→Bool}
theorem OD{c:Array Field}(f:P.underlying t=some (.struct c))(g:Qc P t e wf)(b:Value.okWide P W .any b0 t v)(h:DataW.Trod enc P W 0 sp true t v d p)(hs:QR P t d):∃a cs,v=.agg cs.toArray∧e.R W ZA cs a∧wf a:=by
 unfold Value.okWide at b;rw[f] at b;obtain⟨cs,rfl,_⟩:=b;obtain⟨n,hn⟩:=h;obtain⟨a,h1,h2⟩:=g _ _ _ _ _ _ _ hn hs;exact⟨a,cs.toList,by simp,h1,h2⟩
theorem Lq {f:Func} {s:ChangeSpec} {apart fresh handsOn again:Bool} {args:Array Value} {v:Value} {ds gs:List (DataW H)} {before pa pv:List MemPlace}
  (k:DataW.Whole enc P f.params.toList s.vars apart W args.toList ds gs before)
  (g:∀(b:Nat) (sp:Nat→Bool) (m:Bool),DataW.TrodAll enc P W' b sp m f.resultTypes.toList (v.resultList f.resultTypes.size) (s.fn H (ds++gs)).results [])
  (c:∀sp:Nat→Bool,(∀p∈before,sp p.block=true)→DataW.TrodAll enc P W' 0 sp true f.params.toList args.toList (s.fn H (ds++gs)).args pa)
  (d:∀sp:Nat→Bool,(∀p∈before,sp p.block=true)→DataW.TrodVars enc P W' sp s.vars (s.fn H (ds++gs)).vars pv)
  (e:before=pa++pv) (n:Ext W W')
  (l:∀(j:Nat) (t:TypeId) (r:Value),f.resultTypes[j]?=some t→(v.resultList f.resultTypes.size)[j]?=some r→Value.okWide P W' .any 0 t r):
  s.post enc P f apart fresh handsOn again W args v W':=by
 have hb:=Su n;have h:∀p∈before,p.block<W.heap.size:=fun p a=>k.lt p a;have hold:∀p∈before,(fun b=>decide (b<W.heap.size)) p.block=true:=fun p a=>by simpa using h p a
 refine⟨ds,gs,before,[],pa,pv,k,g _ _ _,c _ hold,d _ hold,World.keptBut_mono (fun p a=>⟨a,?_⟩) (hb.frame (· ∈before)),fun _=>?_⟩
 ·rw[e,List.mem_append] at a;exact Or.inr a
 ·obtain⟨_,_,_,_,_,o,hn⟩:=k;refine⟨l,_,_,([]++pa)++pv,⟨[]++pa,pv,trodAll_append (c _ (fun _ _=>rfl)) (g _ _ _),d _ (fun _ _=>rfl),rfl,?_,?_⟩,?_⟩
  ·intro b off a;have i:MemPlace.cell b off∈before:=by rw[e];simpa using a
   rw[hb.frozen (h _ i)];exact o b off i
  ·intro ha;have:=hn ha;rw[e] at this;simpa using this
  ·intro p a _;rw[e];simpa using a
theorem MR{f:FuncId}{args:Array Value}{w:World}{R:Value→World→Prop}(h:B7 P f args w R):Calls P f args w (fun e w'=>∃v,e=.returned v∧R v w'):=h
end
theorem ZM:∀{cs:List Value},cs.length=2→∃a0 a1,cs=[a0,a1]
 |[a0,a1],_=>⟨a0,a1,rfl⟩
theorem Acl:∀{cs:List Value},cs.length=3→∃a0 a1 a2,cs=[a0,a1,a2]
 |[a0,a1,a2],_=>⟨a0,a1,a2,rfl⟩
theorem Afw:∀{cs:List Value},cs.length=4→∃a0 a1 a2 a3,cs=[a0,a1,a2,a3]
 |[a0,a1,a2,a3],_=>⟨a0,a1,a2,a3,rfl⟩
theorem Afx:∀{cs:List Value},cs.length=7→∃a0 a1 a2 a3 a4 a5 a6,cs=[a0,a1,a2,a3,a4,a5,a6]
 |[a0,a1,a2,a3,a4,a5,a6],_=>⟨a0,a1,a2,a3,a4,a5,a6,rfl⟩
theorem XZ:Qc Tryz.prog 44 Az (fun x=>(IH .i64 x.Lo∧IH .i64 x.Hi)):=by
 intro H enc w sp fuel cs x h c;obtain⟨hl,i,d⟩:=MZ Tryz.underlying44 h;have j:Tryz.prog.cellsOf 44=2:=by kernel_rfl
 rw[j] at hl;have e:Tryz.prog.cellsOf 3=1:=by kernel_rfl
 obtain⟨a0,a1,rfl⟩:=ZM hl;obtain⟨k,a,f⟩:=d 0 3 0 rfl;simp only[e,List.drop_zero,List.drop_succ_cons,List.take_succ_cons,List.take_zero] at a;obtain⟨n0,h0,w0⟩:=(Lf Tryz.underlying3) _ _ _ _ _ _ _ a (f c);cases h0;obtain⟨l,b,g⟩:=d 1 3 1 rfl;simp only[e,List.drop_zero,List.drop_succ_cons,List.take_succ_cons,List.take_zero] at b;obtain⟨n1,h1,w1⟩:=(Lf Tryz.underlying3) _ _ _ _ _ _ _ b (g c);cases h1;exact⟨⟨n0,n1⟩,rfl,w0,w1⟩
theorem Ae3:Qc Tryz.prog 46 AH (fun x=>(True∧IH .i64 x.Number∧(IH .i64 ((⟨x.AM,x.AN⟩:Bl).Lo)∧IH .i64 ((⟨x.AM,x.AN⟩:Bl).Hi)))):=by
 intro H enc w sp fuel cs x h d;obtain⟨hl,l,e⟩:=MZ Tryz.underlying46 h;have m:Tryz.prog.cellsOf 46=4:=by kernel_rfl
 rw[m] at hl;have n:Tryz.prog.cellsOf 3=1:=by kernel_rfl
 have o:Tryz.prog.cellsOf 4=1:=by kernel_rfl
 have f:Tryz.prog.cellsOf 44=2:=by kernel_rfl
 obtain⟨a0,a1,a2,a3,rfl⟩:=Afw hl;obtain⟨p,a,g⟩:=e 0 4 0 rfl;simp only[o,List.drop_zero,List.drop_succ_cons,List.take_succ_cons,List.take_zero] at a;obtain⟨n0,h0,w0⟩:=(AbJ Tryz.underlying4) _ _ _ _ _ _ _ a (g d);cases h0;obtain⟨q,b,i⟩:=e 1 3 1 rfl;simp only[n,List.drop_zero,List.drop_succ_cons,List.take_succ_cons,List.take_zero] at b;obtain⟨n1,h1,w1⟩:=(Lf Tryz.underlying3) _ _ _ _ _ _ _ b (i d);cases h1;obtain⟨r,c,j⟩:=e 2 44 2 rfl;simp only[f,List.drop_zero,List.drop_succ_cons,List.take_succ_cons,List.take_zero] at c;obtain⟨k,h2,w2⟩:=XZ _ _ _ _ _ _ _ c (j d);cases h2;exact⟨⟨n0,n1,k.Lo,k.Hi⟩,rfl,w0,w1,w2⟩
theorem Ae4:Qc Tryz.prog 26 Xm (fun x=>((x.Ax.length*16≤140737488351232∧∀y∈x.Ax,(IH .i64 y.Lo∧IH .i64 y.Hi))∧(x.Bv.length*24≤140737488351232∧∀y∈x.Bv,(y.length*8≤140737488351232∧∀g∈y,IH .i64 g))∧(x.AQ.length*32≤140737488351232∧∀y∈x.AQ,(True∧IH .i64 y.Number∧(IH .i64 ((⟨y.AM,y.AN⟩:Bl).Lo)∧IH .i64 ((⟨y.AM,y.AN⟩:Bl).Hi)))))):=by
 intro H enc w sp fuel cs x h e;obtain⟨hl,o,f⟩:=MZ Tryz.underlying26 h;have p:Tryz.prog.cellsOf 26=3:=by kernel_rfl
 rw[p] at hl;have i:Tryz.prog.cellsOf 22=1:=by kernel_rfl
 have j:Tryz.prog.cellsOf 23=1:=by kernel_rfl
 have k:Tryz.prog.cellsOf 24=1:=by kernel_rfl
 obtain⟨a0,a1,a2,rfl⟩:=Acl hl;obtain⟨z,a,l⟩:=f 0 22 0 rfl;simp only[i,List.drop_zero,List.drop_succ_cons,List.take_succ_cons,List.take_zero] at a;obtain⟨n0,⟨q,c0,h0,s0⟩,w0⟩:=(KX (b:=16) Tryz.underlying22 (by kernel_rfl) (by decide) XZ (by kernel_rfl)) _ _ _ _ _ _ _ a (l e);cases h0;obtain⟨aA,c,m⟩:=f 1 23 1 rfl;simp only[j,List.drop_zero,List.drop_succ_cons,List.take_succ_cons,List.take_zero] at c;obtain⟨n1,⟨r,s,h1,s1⟩,w1⟩:=(KX (b:=24) Tryz.underlying23 (by kernel_rfl) (by decide) (KX (b:=8) Tryz.underlying31 (by kernel_rfl) (by decide) (Lf Tryz.underlying3) (by kernel_rfl)) (by kernel_rfl)) _ _ _ _ _ _ _ c (m e);cases h1;obtain⟨aB,d,n⟩:=f 2 24 2 rfl;simp only[k,List.drop_zero,List.drop_succ_cons,List.take_succ_cons,List.take_zero] at d;obtain⟨t,⟨u,v,h2,s2⟩,w2⟩:=(KX (b:=32) Tryz.underlying24 (by kernel_rfl) (by decide) Ae3 (by kernel_rfl)) _ _ _ _ _ _ _ d (n e);cases h2;exact⟨⟨n0,n1,t⟩,⟨q,c0,r,s,u,v,rfl,s0,s1,s2⟩,w0,w1,w2⟩
theorem Ad7:Qc Tryz.prog 128 Ba (fun x=>(IH .i64 x.BN∧IH .i64 x.Dn)):=by
 intro H enc w sp fuel cs x h c;obtain⟨hl,i,d⟩:=MZ Tryz.underlying128 h;have j:Tryz.prog.cellsOf 128=2:=by kernel_rfl
 rw[j] at hl;have e:Tryz.prog.cellsOf 3=1:=by kernel_rfl
 obtain⟨a0,a1,rfl⟩:=ZM hl;obtain⟨k,a,f⟩:=d 0 3 0 rfl;simp only[e,List.drop_zero,List.drop_succ_cons,List.take_succ_cons,List.take_zero] at a;obtain⟨n0,h0,w0⟩:=(Lf Tryz.underlying3) _ _ _ _ _ _ _ a (f c);cases h0;obtain⟨l,b,g⟩:=d 1 3 1 rfl;simp only[e,List.drop_zero,List.drop_succ_cons,List.take_succ_cons,List.take_zero] at b;obtain⟨n1,h1,w1⟩:=(Lf Tryz.underlying3) _ _ _ _ _ _ _ b (g c);cases h1;exact⟨⟨n0,n1⟩,rfl,w0,w1⟩
theorem Ad8:Qc Tryz.prog 126 Bc (fun x=>(IH .i64 x.Dh∧IH .i64 x.Df)):=by
 intro H enc w sp fuel cs x h c;obtain⟨hl,i,d⟩:=MZ Tryz.underlying126 h;have j:Tryz.prog.cellsOf 126=2:=by kernel_rfl
 rw[j] at hl;have e:Tryz.prog.cellsOf 3=1:=by kernel_rfl
 obtain⟨a0,a1,rfl⟩:=ZM hl;obtain⟨k,a,f⟩:=d 0 3 0 rfl;simp only[e,List.drop_zero,List.drop_succ_cons,List.take_succ_cons,List.take_zero] at a;obtain⟨n0,h0,w0⟩:=(Lf Tryz.underlying3) _ _ _ _ _ _ _ a (f c);cases h0;obtain⟨l,b,g⟩:=d 1 3 1 rfl;simp only[e,List.drop_zero,List.drop_succ_cons,List.take_succ_cons,List.take_zero] at b;obtain⟨n1,h1,w1⟩:=(Lf Tryz.underlying3) _ _ _ _ _ _ _ b (g c);cases h1;exact⟨⟨n0,n1⟩,rfl,w0,w1⟩
theorem Ad9:Qc Tryz.prog 121 Bp (fun x=>(IH .i64 x.Ce∧(IH .i64 ((⟨x.CA,x.CB⟩:Bl).Lo)∧IH .i64 ((⟨x.CA,x.CB⟩:Bl).Hi)))):=by
 intro H enc w sp fuel cs x h c;obtain⟨hl,i,d⟩:=MZ Tryz.underlying121 h;have j:Tryz.prog.cellsOf 121=3:=by kernel_rfl
 rw[j] at hl;have k:Tryz.prog.cellsOf 3=1:=by kernel_rfl
 have e:Tryz.prog.cellsOf 44=2:=by kernel_rfl
 obtain⟨a0,a1,a2,rfl⟩:=Acl hl;obtain⟨l,a,f⟩:=d 0 3 0 rfl;simp only[k,List.drop_zero,List.drop_succ_cons,List.take_succ_cons,List.take_zero] at a;obtain⟨n0,h0,w0⟩:=(Lf Tryz.underlying3) _ _ _ _ _ _ _ a (f c);cases h0;obtain⟨m,b,g⟩:=d 1 44 1 rfl;simp only[e,List.drop_zero,List.drop_succ_cons,List.take_succ_cons,List.take_zero] at b;obtain⟨n1,h1,w1⟩:=XZ _ _ _ _ _ _ _ b (g c);cases h1;exact⟨⟨n0,n1.Lo,n1.Hi⟩,rfl,w0,w1⟩
theorem Ps:Qc Tryz.prog 67 Pa (fun x=>(((((⟨x.Ag,x.Ab,x.Ak⟩:AO).Ax).length*16≤140737488351232∧∀y∈((⟨x.Ag,x.Ab,x.Ak⟩:AO).Ax),(IH .i64 y.Lo∧IH .i64 y.Hi))∧(((⟨x.Ag,x.Ab,x.Ak⟩:AO).Bv).length*24≤140737488351232∧∀y∈((⟨x.Ag,x.Ab,x.Ak⟩:AO).Bv),(y.length*8≤140737488351232∧∀s∈y,IH .i64 s))∧(((⟨x.Ag,x.Ab,x.Ak⟩:AO).AQ).length*32≤140737488351232∧∀y∈((⟨x.Ag,x.Ab,x.Ak⟩:AO).AQ),(True∧IH .i64 y.Number∧(IH .i64 ((⟨y.AM,y.AN⟩:Bl).Lo)∧IH .i64 ((⟨y.AM,y.AN⟩:Bl).Hi)))))∧IH .i64 x.Flat∧(x.AJ.length*16≤140737488351232∧∀y∈x.AJ,(IH .i64 y.BN∧IH .i64 y.Dn))∧(x.Aw.length*16≤140737488351232∧∀y∈x.Aw,(IH .i64 y.Dh∧IH .i64 y.Df))∧(x.Ar.length*24≤140737488351232∧∀y∈x.Ar,(IH .i64 y.Ce∧(IH .i64 ((⟨y.CA,y.CB⟩:Bl).Lo)∧IH .i64 ((⟨y.CA,y.CB⟩:Bl).Hi)))))):=by
 intro H enc w sp fuel cs x h a;obtain⟨hl,aF,c⟩:=MZ Tryz.underlying67 h;have aG:Tryz.prog.cellsOf 67=7:=by kernel_rfl
 rw[aG] at hl;have aH:Tryz.prog.cellsOf 3=1:=by kernel_rfl
 have t:Tryz.prog.cellsOf 26=3:=by kernel_rfl
 have u:Tryz.prog.cellsOf 63=1:=by kernel_rfl
 have v:Tryz.prog.cellsOf 64=1:=by kernel_rfl
 have z:Tryz.prog.cellsOf 65=1:=by kernel_rfl
 obtain⟨a0,a1,a2,a3,a4,a5,a6,rfl⟩:=Afx hl;obtain⟨aX,d,aA⟩:=c 0 26 0 rfl;simp only[t,List.drop_zero,List.drop_succ_cons,List.take_succ_cons,List.take_zero] at d;obtain⟨n0,⟨j,k,l,m,n,o,h0,p,q,r⟩,w0⟩:=Ae4 _ _ _ _ _ _ _ d (aA a);cases h0;obtain⟨aY,e,aB⟩:=c 1 3 3 rfl;simp only[aH,List.drop_zero,List.drop_succ_cons,List.take_succ_cons,List.take_zero] at e;obtain⟨n1,h1,w1⟩:=(Lf Tryz.underlying3) _ _ _ _ _ _ _ e (aB a);cases h1;obtain⟨aZ,f,aC⟩:=c 2 63 4 rfl;simp only[u,List.drop_zero,List.drop_succ_cons,List.take_succ_cons,List.take_zero] at f;obtain⟨aI,⟨aJ,aK,h2,s2⟩,w2⟩:=(KX (b:=16) Tryz.underlying63 (by kernel_rfl) (by decide) Ad7 (by kernel_rfl)) _ _ _ _ _ _ _ f (aC a);cases h2;obtain⟨a7,g,aD⟩:=c 3 64 5 rfl;simp only[v,List.drop_zero,List.drop_succ_cons,List.take_succ_cons,List.take_zero] at g;obtain⟨aL,⟨aM,aN,aO,aP⟩,aQ⟩:=(KX (b:=16) Tryz.underlying64 (by kernel_rfl) (by decide) Ad8 (by kernel_rfl)) _ _ _ _ _ _ _ g (aD a);cases aO;obtain⟨a8,i,aE⟩:=c 4 65 6 rfl;simp only[z,List.drop_zero,List.drop_succ_cons,List.take_succ_cons,List.take_zero] at i;obtain⟨aR,⟨aS,aT,aU,aV⟩,aW⟩:=(KX (b:=24) Tryz.underlying65 (by kernel_rfl) (by decide) Ad9 (by kernel_rfl)) _ _ _ _ _ _ _ i (aE a);cases aU;exact⟨⟨n0.Ax,n0.Bv,n0.AQ,n1,aI,aL,aR⟩,⟨j,k,l,m,n,o,aJ,aK,aM,aN,aS,aT,rfl,p,q,r,s2,aP,aV⟩,w0,w1,w2,aQ,aW⟩
theorem R8:ownKnob Tryz.prog.godebug=none:=by kernel_rfl
theorem Qq:Kids Tryz.prog (· <Tryz.prog.types.size):=kids_rows (by kernel_rfl) (by kernel_rfl)
theorem Qr:∀t e,t<Tryz.prog.types.size→Tryz.prog.underlying t=some (.slice e)→0<Tryz.prog.cellsOf e:=slices_full_of Tryz.prog (by kernel_rfl)
end Go.Proofs.YtbhofkcbfblijaaGreat
end
section
namespace Go.Proofs.YtbhofkcbfblijaaGreat
open Go
theorem Bu{a b:Bool}(h:a=true)(g:b=true):(a&&b)=true:=by rw[h,g];rfl
theorem F8{a b:Bool}(h:(a&&b)=true):a=true:=(Bool.and_eq_true _ _▸h:a=true∧b=true).1
theorem JJ{a b:Bool}(h:(a&&b)=true):b=true:=(Bool.and_eq_true _ _▸h:a=true∧b=true).2
theorem Pt:laidOutB Tryz.checked.prog=true:=by kernel_rfl
theorem Pu:mapsRowed Tryz.checked.prog=true:=by kernel_rfl
theorem OE:(Tryz.checked.prog.stops==[])=true:=by kernel_rfl
theorem OF:(Tryz.checked.prog.stopKnobs==[])=true:=by kernel_rfl
theorem OG:Tryz.checked.prog.stopsHeard=true:=by kernel_rfl
theorem Pv:(Rows.tradePlaysRow.plainKeys==Tryz.checked.prog.plainKeys)=true:=by kernel_rfl
theorem Iu:(Tryz.checked.prog.mayEnter&&(Rows.tradePlaysRow.lifted==Tryz.checked.prog.liftsFinal)&&(Tryz.checked.prog.make==some Rows.tradePlaysRow.make))=true:=by kernel_rfl
end Go.Proofs.YtbhofkcbfblijaaGreat
end
