import Derived.Test.YtbhofkcbfblijaaGreatCK5
import Derived.WalkKit
import Derived.KernelRfl
import Derived.WalkSpells
import Derived.WalkLawsBesides
import Derived.Maps.AppendAt
import Derived.OrdersIn
import Derived.RangeFuncIn
import Derived.RangeFuncLeaves
import Derived.RangeFuncRecord
import Derived.RangeFuncSeq
import Derived.Scope
import Derived.DeepKeys3
import Derived.Laws.CopyRow
import Derived.Laws.OwnMore
import Derived.Laws.MakeOwn
import Derived.Laws.IdiomCopy
import Derived.Sort.OwnSortedInts
import Derived.Lib.RowBridge
import Derived.Shelf.Sort.Plain
import Derived.Ground.Names2Prog
import Derived.Shelf.Slices.Clone
import Derived.Shelf.Slices.CompactI
import Derived.Shelf.Slices.In.SortNone
import Derived.Ground.SlgnProg
import Derived.Shelf.SlicesE.Clone
import Derived.ProofKit
import Derived.ChangeSame
import Derived.SizedLaws
import Derived.Deep.Slices
import Derived.JoinedOf
import Derived.Test.YtbhofkcbfblijaaGreatProg
import Derived.Test.YtbhofkcbfblijaaGreatRows
/-
  The contracts of the functions of the program and of the reference, and the logic that they are proved in: the base that several claims of this seat share.
-/
set_option linter.all false
section
namespace Go.Proofs.YtbhofkcbfblijaaGreat
open Go.RowKit Go.WideShapes
set_option maxRecDepth 20000
open HF
attribute [local irreducible] Ce WL CC CW LV BN Hh E8 One Bb
theorem TW aM a aE e f b c g h i j l m n o(Z:Nat→Prop) w(u:Sl Ay w Z e f a.Aj)(x:Sl (BG (Ah .i64)) w Z b c a.Ab)(y:Sl AH w Z g h a.As)(z:Sl AY w Z i j a.Az)(aA:Sl Ba w Z l m a.AE)(aB:Sl Bm w Z n o a.AK) aN(d:Ej aM a aE=some aN):
 BN Tryz.prog 56 #[.agg (AB e f b c g h i j l m n o a).toArray,I aE] w (fun v w'=>Ext w w'∧(Dh .i64).R w' (zf Z w []) v aN):=by
 unfold Ej at d;refine rq (N:=12) Tryz.func56 fun aZ ha a0=>?_;have aF:=sA 0 ha;have aG:=sA 1 ha;clear ha;have aD:Hp FN [] w [] w:=Hp.start (By.none w);have ⟨aH,q,aI,aJ,aK,aL⟩:=CF u x y z aA aB (BB (Z:=Z) (L:=[]) w);refine cr<|wE (fun st=>BL (v:=.agg (AB e f b c g h i j l m n o a).toArray) (cs:=(AB e f b c g h i j l m n o a).toArray) (ee st aF) rfl) ?_;rintro _ w1 ⟨b1,rfl,p⟩;have aO:=aD.nb p;have aY:=aD.BJ p;refine wA (v:=I 0) rfl<|wr<|wD (fun st=>Ad (eR st) (FV _ _))<|wD (fun st=>Ad (eR st) (DZ _ _))<|wD (fun st=>Ag (v:=.slice b a.Ab.length c) Dg (eR st) p.bk rfl)<|wM (v:=I aE) aG ?_;replace d:=AX d;obtain⟨i2,x2,aP,aQ,aR,d⟩:=d;have r:=(q.mv (Ax p));obtain⟨b2,a2,_,aS,⟨s,t,rfl,aC⟩,aT⟩:=Sl.CB r rfl aQ;refine wD (fun st=>Bp (k:=i2) Tryz.underlying23 EP (eR st) aS (eR st) aP aR)<|wD (fun st=>Bs (v:=.slice s x2.length t) CK (eR st) aT rfl) ?_;replace d:=bind_some d;obtain⟨aU,aV,d⟩:=d;refine wE (fun st=>Al QR (eR st) (Cj (eR st)) (Zk aM x2 s t ZA _ aC.all aU aV)) ?_;rintro _ a3 ⟨aW,rfl⟩;have aX:=aO.ext aW;refine wA (v:=I aU) rfl<|wn<|Ak ?_;obtain rfl:=oi d;refine Aw rfl rfl ?_;exact⟨aX.Bf,rfl⟩
theorem a54 bN b aW aX i j f g m n c d o p q r aI aJ(Z:Nat→Prop) w(bV:Sl Ay w Z i j b.Aj)(bW:Sl (BG (Ah .i64)) w Z f g b.Ab)(bX:Sl AH w Z m n b.As)(bY:Sl AY w Z c d b.Az)(bZ:Sl Ba w Z o p b.AE)(b4:Sl Bm w Z q r b.AK)(b5:Sl (Ah .i64) w Z aI aJ aW) cT(a:GK bN b aW aX=some cT):
 BN Tryz.prog 54 #[.agg (AB i j f g m n c d o p q r b).toArray,.slice aI aW.length aJ,I aX] w (fun v w'=>Ext w w'∧(Dh .i64).R w' (zf Z w []) v cT):=by
 unfold GK at a;refine rq (N:=43) Tryz.func54 fun dL ha dM=>?_;have cD:=sA 0 ha;have cE:=sA 1 ha;have cF:=sA 2 ha;clear ha;have b9:Hp FN [] w [] w:=Hp.start (By.none w);have ⟨a9,bA,bB,bC,bD,bE,bF⟩:=I2 bV bW bX bY bZ b4 b5 (BB (Z:=Z) (L:=[]) w);refine cr<|wE (fun st=>BL (v:=.agg (AB i j f g m n c d o p q r b).toArray) (cs:=(AB i j f g m n c d o p q r b).toArray) (ee st cD) rfl) ?_;rintro _ w1 ⟨b1,rfl,aY⟩;have cU:=b9.nb aY;have dH:=b9.BJ aY;refine wA (v:=I 0) rfl<|wr<|wA (v:=I 0) rfl<|wn<|Af<|cr<|wD (fun st=>Ad (eR st) (FW _ _))<|wD (fun st=>Ag (v:=.slice c b.Az.length d) GO (eR st) aY.bk rfl)<|wD (fun st=>Bo Tryz.underlying63 (eR st)) ?_;replace a:=AN a;obtain⟨cV,a⟩:=a;refine wD (fun st=>EC (eR st) (eR st) cV)<|wA (v:=I ((b.Az.length:Int)-1)) rfl<|wn<|AL ?_;replace a:=bind_some a;obtain⟨z3,aS,a⟩:=a;refine BX (fun cW x u=>(cW=.exit 0∧Fo X0 43 x∧sl x 2=I aX∧sl x 3=pt b1 0∧sl x 7=I z3∧Hp FN [] w [some b1] u∧Bk u b1 67 (AB i j f g m n c d o p q r b).toArray∧(fun aG=>Sl Ay u aG i j b.Aj∧Sl (BG (Ah .i64)) u aG f g b.Ab∧Sl AH u aG m n b.As∧Sl AY u aG c d b.Az∧Sl Ba u aG o p b.AE∧Sl Bm u aG q r b.AK) (zf Z w [some b1]))) ?cX ?cY
 case cX=>
  clear a;refine BW (fun b6 x u=>∃aU,∃e,DO bN b aW aX b6 aU e=some z3∧Fo X0 43 x∧sl x 1=.slice aI aW.length aJ∧sl x 2=I aX∧sl x 3=pt b1 0∧sl x 7=I aU∧sl x 8=I e∧Hp FN [] w [some b1] u∧Bk u b1 67 (AB i j f g m n c d o p q r b).toArray∧(fun aG=>Sl Ay u aG i j b.Aj∧Sl (BG (Ah .i64)) u aG f g b.Ab∧Sl AH u aG m n b.As∧Sl AY u aG c d b.Az∧Sl Ba u aG o p b.AE∧Sl Bm u aG q r b.AK∧Sl (Ah .i64) u aG aI aJ aW) (zf Z w [some b1])) bN ?cZ ?c0
  case cZ=>
   intro st;have ⟨bG,bH,bI,bJ,bK,bL,bM⟩:=I2 a9 bA bB bC bD bE bF (Ax aY);exact⟨(0:Int),((b.Az.length:Int)-1),aS,qo st,sp st 1 cE,sp st 2 cF,sp st 3 rfl,sp st 7 rfl,sp st 8 rfl,cU,aY.bk,bG,bH,bI,bJ,bK,bL,bM⟩
  case c0=>
   rintro(_|b6) dN dO ⟨aU,e,aS,cG,aV,aQ,z,a8,aH,cA,y,aB,s,aC,t,aD,aE,aF⟩
   ·exact absurd (show none=some _ from aS) (by simp)
   rw[DO.eq_2] at aS;have a:=aS;clear aS;refine ro cG<|Af<|cr<|wM (v:=I e) aH<|wD (fun st=>Ir (eR st) (eR st))<|wn ?_;rcases Ae (decide ((0:Int)≤e)) with aZ|aZ
   ·replace a:=Aq a aZ;refine Ai rfl aZ<|cn<|Af<|AL<|Af ?_;replace a:=AX a;obtain⟨i6,c1,c2,c3,c4,a⟩:=a;obtain⟨dI,dJ,_,c5,⟨bO,bP,rfl,b7⟩,c6⟩:=Sl.CB s rfl c3;replace a:=bind_some a;obtain⟨cH,c7,a⟩:=a;replace a:=AX a;obtain⟨i8,c8,c9,dA,dB,a⟩:=a;obtain⟨dC,dD,_,dE,rfl,dF⟩:=Sl.elem t (by decide) dA;refine BZ 14 [Kc (.slice aI aW.length aJ),Kc (pt b1 0),Kc (pt b1 1),Kc (.slice f b.Ab.length g),Kc (I aX),Kc (pt dI (dJ+i6)),Kc (.slice bO c1.length bP),Kc (I cH),Kc (pt b1 4),Kc (.slice c b.Az.length d),Kc (I e),Kc (pt dC (dD+i8*2)),Kc (pt dC (dD+i8*2)),Kc (I c8.AT)] mixed rfl rfl
        (Aa (oD (fun K=>AA (es ((K.out 1 rfl).trans aV))))
        (Aa (oD (fun K=>Ad (es ((K.out 3 rfl).trans z)) (FV _ _)))
        (Aa (oD (fun K=>Ad (es (K.dq 1 18)) (DZ _ _)))
        (Aa (oD (fun K=>Ag Dg (es (K.dq 2 19)) (y.ext K.AV) rfl))
        (Aa (oD (fun K=>AA (es ((K.out 2 rfl).trans aQ))))
        (Aa (oD (fun K=>Bp (k:=i6) Tryz.underlying23 EP (es (K.dq 3 20)) c5 (es (K.dq 4 21)) c2 c4))
        (Aa (oD (fun K=>Bs CK (es (K.dq 5 22)) (c6.mv (Ac K.AV)) rfl))
        (Aa (oE (fun K=>(Al OB rfl (Cf (es (K.dq 0 17)) (es (K.dq 6 23))) (a87 bN aW c1 aI aJ bO bP ZA _ (aF.mv (Ac K.AV)).all (b7.mv (Ac K.AV)).all cH c7)).mono (fun _ _ h=>⟨h.2,h.1⟩)))
        (Aa (oD (fun K=>Ad (es ((K.out 3 rfl).trans z)) (FW _ _)))
        (Aa (oD (fun K=>Ag GO (es (K.dq 8 25)) (y.ext K.AV) rfl))
        (Aa (oD (fun K=>AA (es ((K.out 8 rfl).trans aH))))
        (Aa (oD (fun K=>Bu (k:=i8) Tryz.underlying63 I9 (es (K.dq 9 26)) dE (es (K.dq 10 27)) c9 dB))
        (Aa (oD (fun K=>Ad (es (K.dq 11 28)) (Kh _ _ _)))
        (Aa (oD (fun K=>Bs Bl (es (K.dq 12 29)) (dF.mv (Ac K.AV)) rfl))
        (BY _))))))))))))))) ?_
    intro dT;rintro _ rfl _ rfl _ rfl _ rfl _ rfl _ rfl _ rfl _ rfl _ rfl _ rfl _ rfl _ rfl _ rfl _ rfl aT;have cB:=cA.ext aT;refine wD (fun st=>Ir (eR st) (eR st))<|wn ?_;rcases Ae (decide (c8.AT≤cH)) with a0|a0
    ·replace a:=Aq a a0;refine Ai rfl a0<|An<|wD (fun st=>Ad (ee st z) (FW _ _)) ?_;have aR:=(y.ext aT);refine wD (fun st=>Ag (v:=.slice c b.Az.length d) GO (eR st) aR rfl)<|wM (v:=I e) aH ?_;replace a:=AX a;obtain⟨i10,bQ,cI,cJ,cK,a⟩:=a;have aA:=(t.mv (Ac aT));obtain⟨dP,dQ,_,cL,rfl,cM⟩:=Sl.elem aA (by decide) cJ;refine wD (fun st=>Bu (k:=i10) Tryz.underlying63 I9 (eR st) cL (eR st) cI cK)<|wD (fun st=>Ad (eR st) (NS _ _ _))<|wD (fun st=>DD (v:=I bQ.BT) Bl (eR st) cM rfl)<|wA (v:=I bQ.BT) rfl<|Bn<|C5<|An<|wM (v:=I e) aH ?_;replace a:=AN a;obtain⟨cN,a⟩:=a;refine wD (fun st=>EC (eR st) (eR st) cN)<|wA (v:=I (e-1)) rfl<|Bn ?_;have ⟨aK,aL,aM,aN,aO,aP⟩:=CF aB s aC aD aE aF (Ac aT);refine Bz b6 (Nat.lt_succ_self _) (fun st=>?_);exact⟨bQ.BT,(e-1),a,qo st,sp st 1 aV,sp st 2 aQ,sp st 3 z,sp st 7 rfl,sp st 8 rfl,cB,aR,aK,aL,aM,aA,aN,aO,aP⟩
    ·replace a:=Ar a a0;refine Au rfl a0<|Cm<|C5<|An<|wM (v:=I e) aH ?_;replace a:=AN a;obtain⟨cO,a⟩:=a;refine wD (fun st=>EC (eR st) (eR st) cO)<|wA (v:=I (e-1)) rfl<|Bn ?_;have aR:=(y.ext aT);have ⟨aK,aL,aM,aA,aN,aO,aP⟩:=I2 aB s aC t aD aE aF (Ac aT);refine Bz b6 (Nat.lt_succ_self _) (fun st=>?_);exact⟨aU,(e-1),a,qo st,sp st 1 aV,sp st 2 aQ,sp st 3 z,sp st 7 a8,sp st 8 rfl,cB,aR,aK,aL,aM,aA,aN,aO,aP⟩
   ·replace a:=Ar a aZ;refine Au rfl aZ<|Dy ?_;obtain rfl:=oi a;refine BF (fun st=>?_);exact⟨rfl,qo st,sp st 2 aQ,sp st 3 z,sp st 7 a8,cA,y,aB,s,aC,t,aD,aE⟩
 case cY=>
  rintro cW dK dR (⟨rfl,b8,bR,bS,bT,cP,bU,a2,a3,a4,a5,a6,a7⟩);refine lf b8<|Bi<|BM<|cr<|wM (v:=I z3) bT<|wD (fun st=>Bd (l:=(AB i j f g m n c d o p q r b)) GP (ee st bS) bU rfl rfl)<|wM (v:=I aX) bR ?_;replace a:=bind_some a;obtain⟨cC,cQ,a⟩:=a;refine wE (fun st=>Al MY (eR st) (Cf (eR st) (eR st)) (TW bN b aX i j f g m n c d o p q r ZA _ a2.all a3.all a4.all a5.all a6.all a7.all cC cQ)) ?_;rintro _ dS ⟨cR,rfl⟩;have dG:=cP.ext cR;replace a:=AN a;obtain⟨cS,a⟩:=a;refine wD (fun st=>LO (eR st) (eR st) cS)<|wA (v:=I (z3*cC)) rfl<|wn<|Ak ?_;obtain rfl:=oi a;refine Aw rfl rfl ?_;exact⟨dG.Bf,rfl⟩
theorem AaU bZ c aU f g i j m o p q r s d e z aA(Z:Nat→Prop) w(b6:Sl Ay w Z f g c.Aj)(b7:Sl (BG (Ah .i64)) w Z i j c.Ab)(b8:Sl AH w Z m o c.As)(b9:Sl AY w Z p q c.Az)(cA:Sl Ba w Z r s c.AE)(cB:Sl Bm w Z d e c.AK)(cC:Sl (Ah .i64) w Z z aA aU) cV(a:GL bZ c aU=some cV):
 BN Tryz.prog 114 #[.agg (AB f g i j m o p q r s d e c).toArray,.slice z aU.length aA] w (fun v w'=>Ext w w'∧(Dh .i64).R w' (zf Z w []) v cV):=by
 unfold GL at a;refine rq (N:=41) Tryz.func114 fun dO ha dP=>?_;have cK:=sA 0 ha;have cL:=sA 1 ha;clear ha;have cH:Hp FN [] w [] w:=Hp.start (By.none w);have ⟨a7,a8,a9,bA,bB,bC,bD⟩:=I2 b6 b7 b8 b9 cA cB cC (BB (Z:=Z) (L:=[]) w);refine cr<|wE (fun st=>BL (v:=.agg (AB f g i j m o p q r s d e c).toArray) (cs:=(AB f g i j m o p q r s d e c).toArray) (ee st cK) rfl) ?_;rintro _ w1 ⟨b1,rfl,a5⟩;have cW:=cH.nb a5;have dL:=cH.BJ a5;refine wA (v:=I 0) rfl<|wr<|wA (v:=I 0) rfl<|wn<|Af<|cr<|wA (v:=I 0) rfl<|wn<|AL ?_;replace a:=bind_some a;obtain⟨z2,aP,a⟩:=a;refine BX (fun cX aH aJ=>(cX=.exit 0∧Fo X0 41 aH∧sl aH 5=I z2∧Hp FN [] w [some b1] aJ)) ?cY ?cZ
 case cY=>
  clear a;refine BW (fun cD aH aJ=>∃y,∃b,DP bZ c aU cD y b=some z2∧Fo X0 41 aH∧sl aH 1=.slice z aU.length aA∧sl aH 2=pt b1 0∧sl aH 5=I y∧sl aH 6=I b∧Hp FN [] w [some b1] aJ∧Bk aJ b1 67 (AB f g i j m o p q r s d e c).toArray∧(fun aX=>Sl Ay aJ aX f g c.Aj∧Sl (BG (Ah .i64)) aJ aX i j c.Ab∧Sl AH aJ aX m o c.As∧Sl AY aJ aX p q c.Az∧Sl Ba aJ aX r s c.AE∧Sl Bm aJ aX d e c.AK∧Sl (Ah .i64) aJ aX z aA aU) (zf Z w [some b1])) bZ ?c0 ?c1
  case c0=>
   intro st;have ⟨bE,bF,bG,bH,bI,bJ,bK⟩:=I2 a7 a8 a9 bA bB bC bD (Ax a5);exact⟨(0:Int),(0:Int),aP,qo st,sp st 1 cL,sp st 2 rfl,sp st 5 rfl,sp st 6 rfl,cW,a5.bk,bE,bF,bG,bH,bI,bJ,bK⟩
  case c1=>
   rintro(_|cD) dQ dR ⟨y,b,aP,cM,aS,t,aT,u,b4,aK,aY,aZ,a0,a2,a3,aL,a4⟩
   ·exact absurd (show none=some _ from aP) (by simp)
   rw[DP.eq_2] at aP;have a:=aP;clear aP;refine ro cM<|Af<|cr<|wM (v:=I b) u<|wD (fun st=>Ad (ee st t) (Hz _ _))<|wD (fun st=>Ag (v:=.slice d c.AK.length e) Io (eR st) aK rfl)<|wD (fun st=>Bo Tryz.underlying65 (eR st))<|wD (fun st=>B6 (eR st) (eR st))<|wn ?_;rcases Ae (decide (b<(c.AK.length:Int))) with aV|aV
   ·replace a:=Aq a aV;refine Ai rfl aV<|cn<|Af<|AL<|cr<|wD (fun st=>Ad (ee st t) (Hz _ _))<|wD (fun st=>Ag (v:=.slice d c.AK.length e) Io (eR st) aK rfl)<|wM (v:=I b) u ?_;replace a:=AX a;obtain⟨i4,aO,c2,c3,c4,a⟩:=a;obtain⟨dU,dV,_,c5,rfl,c6⟩:=Sl.elem aL (by decide) c3;refine wD (fun st=>Bu (k:=i4) Tryz.underlying65 K9 (eR st) c5 (eR st) c2 c4)<|wD (fun st=>Ad (eR st) (NT _ _ _))<|wD (fun st=>MA (l:=[I aO.Cg,I aO.Ch]) IH (eR st) c6 rfl rfl)<|wE (fun st=>B5 (cs:= #[I 0,I 0]) Sn rfl) ?_;rintro _ dW ⟨c7,rfl,aQ⟩;have a6:=b4.nb aQ;have dM:=b4.BJ aQ;refine BH rfl rfl (fun st=>Bv (n:=2) (l:=[I aO.Cg,I aO.Ch]) (Cv:= #[I aO.Cg,I aO.Ch]) (eR st) (eR st) Lk aQ.bk rfl rfl (show 0+2≤2 by decide) (Be rfl) rfl) ?_;rintro _ dX aR;have c8:=a6.gr aR.gr 0 rfl;refine wn<|Af ?_;have aI:=((aK.ext aQ.gr).gr aR.gr (a6.nq 1 0));replace a:=AX a;obtain⟨i8,c9,dA,dB,dC,a⟩:=a;have x:=((aL.mv (Ax aQ)).mv (a6.Bx aR.gr 0 rfl));obtain⟨dD,dE,_,dF,rfl,dG⟩:=Sl.elem x (by decide) dB;have ⟨aB,aC,aD,aE,aF,aG⟩:=CF aY aZ a0 a2 a3 a4 (mt (Ax aQ) (a6.Bx aR.gr 0 rfl));replace a:=bind_some a;obtain⟨cN,dH,a⟩:=a;refine BZ 13 [Kc (.agg (AB f g i j m o p q r s d e c).toArray),Kc (.slice z aU.length aA),Kc (pt b1 6),Kc (.slice d c.AK.length e),Kc (I b),Kc (pt dD (dE+i8*3)),Kc (pt dD (dE+i8*3)),Kc (I c9.BP),Kc (I cN),Kc (pt c7 0),Kc (I aO.Cg),Kc (pt c7 1),Kc (I aO.Ch)] mixed rfl rfl
        (Aa (oD (fun K=>Bd (l:=(AB f g i j m o p q r s d e c)) GP (es ((K.out 2 rfl).trans t)) (aI.ext K.AV) rfl rfl))
        (Aa (oD (fun K=>AA (es ((K.out 1 rfl).trans aS))))
        (Aa (oD (fun K=>Ad (es ((K.out 2 rfl).trans t)) (Hz _ _)))
        (Aa (oD (fun K=>Ag Io (es (K.dq 2 23)) (aI.ext K.AV) rfl))
        (Aa (oD (fun K=>AA (es ((K.out 6 rfl).trans u))))
        (Aa (oD (fun K=>Bu (k:=i8) Tryz.underlying65 K9 (es (K.dq 3 24)) dF (es (K.dq 4 25)) dA dC))
        (Aa (oD (fun K=>Ad (es (K.dq 5 26)) (Mf _ _ _)))
        (Aa (oD (fun K=>Bs Bl (es (K.dq 6 27)) (dG.mv (Ac K.AV)) rfl))
        (Aa (oE (fun K=>(Al YM rfl (Ev (es (K.dq 0 21)) (es (K.dq 1 22)) (es (K.dq 7 28))) (a54 bZ c aU c9.BP f g i j m o p q r s d e z aA ZA _ (aB.mv (Ac K.AV)).all (aC.mv (Ac K.AV)).all (aD.mv (Ac K.AV)).all (aE.mv (Ac K.AV)).all (aF.mv (Ac K.AV)).all (x.mv (Ac K.AV)).all (aG.mv (Ac K.AV)).all cN dH)).mono (fun _ _ h=>⟨h.2,h.1⟩)))
        (Aa (oD (fun K=>Ad (K.kO 7) (Kf _ _)))
        (Aa (oD (fun K=>Ag Bl (es (K.dq 9 30)) (aR.bk.ext K.AV) rfl))
        (Aa (oD (fun K=>Ad (K.kO 7) (KT _ _)))
        (Aa (oD (fun K=>Ag Bl (es (K.dq 11 32)) (aR.bk.ext K.AV) rfl))
        (BY _)))))))))))))) ?_
    intro dY;rintro _ rfl _ rfl _ rfl _ rfl _ rfl _ rfl _ rfl _ rfl _ rfl _ rfl _ rfl _ rfl _ rfl aW;have dI:=c8.ext aW;replace a:=bind_some a;obtain⟨cI,cO,a⟩:=a;refine wE (fun st=>Al Ey (eR st) (Ev (eR st) (eR st) (eR st)) (Ia bZ cN aO.Cg aO.Ch ZA _ cI cO)) ?_;rintro _ dS ⟨aM,rfl⟩;have cJ:=dI.ext aM;refine wn ?_;rcases Ae (cI) with aN|aN
    ·replace a:=Aq a aN;refine Ai rfl aN<|An<|wM (v:=I y) aT<|wM (v:=I b) u ?_;replace a:=KZ a;obtain⟨cP,a⟩:=a;refine wD (fun st=>Mn (k:=.u64) YK Tryz.underlying91 (eR st) cP) ?_;replace a:=Pb a;obtain⟨cQ,a⟩:=a;refine wD (fun st=>Vl (eR st) (eR st) cQ) ?_;replace a:=Tb a;obtain⟨cR,a⟩:=a;refine wD (fun st=>Z5 (eR st) (eR st) cR)<|wA (v:=I (P0 y (J6 (1:Int) b))) rfl<|Bn<|C5<|An<|wM (v:=I b) u ?_;replace a:=AN a;obtain⟨cS,a⟩:=a;refine wD (fun st=>BR (eR st) (eR st) cS)<|wA (v:=I (b+1)) rfl<|Bn ?_;have dJ:=cJ.erase 0;have cE:=((aI.ext aW).ext aM);have ⟨bL,bM,bN,bO,bP,bQ,bR⟩:=I2 aB aC aD aE aF x aG (mt (Ac aW) (mt (Ac aM) (AD 0)));refine Bz cD (Nat.lt_succ_self _) (fun st=>?_);exact⟨(P0 y (J6 (1:Int) b)),(b+1),a,qo st,sp st 1 aS,sp st 2 t,sp st 5 rfl,sp st 6 rfl,dJ,cE,bL,bM,bN,bO,bP,bQ,bR⟩
    ·replace a:=Ar a aN;refine Au rfl aN<|Cm<|C5<|An<|wM (v:=I b) u ?_;replace a:=AN a;obtain⟨cT,a⟩:=a;refine wD (fun st=>BR (eR st) (eR st) cT)<|wA (v:=I (b+1)) rfl<|Bn ?_;have dK:=cJ.erase 0;have cF:=((aI.ext aW).ext aM);have ⟨bS,bT,bU,bV,bW,bX,bY⟩:=I2 aB aC aD aE aF x aG (mt (Ac aW) (mt (Ac aM) (AD 0)));refine Bz cD (Nat.lt_succ_self _) (fun st=>?_);exact⟨y,(b+1),a,qo st,sp st 1 aS,sp st 2 t,sp st 5 aT,sp st 6 rfl,dK,cF,bS,bT,bU,bV,bW,bX,bY⟩
   ·replace a:=Ar a aV;refine Au rfl aV<|Dy ?_;obtain rfl:=oi a;refine BF (fun st=>?_);exact⟨rfl,qo st,sp st 5 aT,b4⟩
 case cZ=>
  rintro cX dN dT (⟨rfl,cG,b5,cU⟩);refine lf cG<|Bi<|BM<|cr<|wM (v:=I z2) b5<|wA (v:=I z2) rfl<|wn<|Ak ?_;obtain rfl:=oi a;refine Aw rfl rfl ?_;exact⟨cU.Bf,rfl⟩
theorem a61 aM b e f g h i j l m n o c d(Z:Nat→Prop) w(q:Sl Ay w Z e f b.Aj)(r:Sl (BG (Ah .i64)) w Z g h b.Ab)(s:Sl AH w Z i j b.As)(t:Sl AY w Z l m b.Az)(u:Sl Ba w Z n o b.AE)(x:Sl Bm w Z c d b.AK) aG(a:Hb aM b=some aG):
 BN Tryz.prog 61 #[.agg (AB e f g h i j l m n o c d b).toArray] w (fun v w'=>Ext w w'∧(Dh .i64).R w' (zf Z w []) v aG):=by
 unfold Hb at a;refine rq (N:=9) Tryz.func61 fun aN ha aO=>?_;have z:=sA 0 ha;clear ha;have y:Hp FN [] w [] w:=Hp.start (By.none w);have ⟨aA,aB,aC,aD,aE,aF⟩:=CF q r s t u x (BB (Z:=Z) (L:=[]) w);refine cr<|wE (fun st=>BL (v:=.agg (AB e f g h i j l m n o c d b).toArray) (cs:=(AB e f g h i j l m n o c d b).toArray) (ee st z) rfl) ?_;rintro _ w1 ⟨b1,rfl,p⟩;have aH:=y.nb p;have aL:=y.BJ p;refine wA (v:=I 0) rfl<|wr<|wD (fun st=>Ad (eR st) (Hz _ _))<|wD (fun st=>Ag (v:=.slice c b.AK.length d) Io (eR st) p.bk rfl)<|wD (fun st=>Bo Tryz.underlying65 (eR st)) ?_;replace a:=KZ a;obtain⟨aI,a⟩:=a;refine wD (fun st=>Mn (k:=.u64) YK Tryz.underlying91 (eR st) aI) ?_;replace a:=Pb a;obtain⟨aJ,a⟩:=a;refine wD (fun st=>Vl (eR st) (eR st) aJ) ?_;replace a:=AN a;obtain⟨aK,a⟩:=a;refine wD (fun st=>EC (eR st) (eR st) aK)<|wA (v:=I ((J6 (1:Int) (b.AK.length:Int))-1)) rfl<|wn<|Ak ?_;obtain rfl:=oi a;refine Aw rfl rfl ?_;exact⟨aH.Bf,rfl⟩
theorem a53 bN c d f g i j m o p q r s t(Z:Nat→Prop) w(cR:Sl Ay w Z d f c.Aj)(cS:Sl (BG (Ah .i64)) w Z g i c.Ab)(cT:Sl AH w Z j m c.As)(cU:Sl AY w Z o p c.Az)(cV:Sl Ba w Z q r c.AE)(cW:Sl Bm w Z s t c.AK) dM(a:Gl bN c=some dM):
 BN Tryz.prog 53 #[.agg (AB d f g i j m o p q r s t c).toArray] w (fun v w'=>Ext w w'∧(Fk (BG (Ah .i64))).R w' (zf Z w []) v dM):=by
 unfold Gl at a;refine rq (N:=32) Tryz.func53 fun eC ha eD=>?_;have c9:=sA 0 ha;clear ha;have c3:Hp FN [] w [] w:=Hp.start (By.none w);have ⟨bO,bP,bQ,bR,bS,bT⟩:=CF cR cS cT cU cV cW (BB (Z:=Z) (L:=[]) w);refine cr<|wE (fun st=>BL (v:=.agg (AB d f g i j m o p q r s t c).toArray) (cs:=(AB d f g i j m o p q r s t c).toArray) (ee st c9) rfl) ?_;rintro _ w1 ⟨b1,rfl,a8⟩;have c4:=c3.nb a8;have d7:=c3.BJ a8;refine wA (v:=.slice none 0 0) rfl<|wr<|wA (v:=.slice none 0 0) rfl<|wr<|wD (fun st=>Ad (eR st) (FV _ _))<|wD (fun st=>Bd (l:=[.slice d c.Aj.length f,.slice g c.Ab.length i,.slice j c.As.length m]) Hu (eR st) a8.bk rfl rfl) ?_;have ⟨a9,bA,bB⟩:=Ee bO bP bQ (Ax a8);replace a:=bind_some a;obtain⟨bE,dN,a⟩:=a;refine wE (fun st=>Al YO (eR st) (Cj (eR st)) (a28 bN (⟨c.Aj,c.Ab,c.As⟩:AZ) d f g i j m (zf Z w [some b1]) _ a9 bA bB bE dN)) ?_;rintro _ d8 ⟨bM,⟨aD,aE,rfl,aW⟩⟩;have dO:=c4.ext bM;have aW:=aW.mv (c4.Ed (Nat.le_refl _));refine wA (v:=.slice aD bE.length aE) rfl<|wn<|Af<|cr<|wA (v:=I 0) rfl<|wn<|AL ?_;have dP:=dO.nil;have dQ:Bj (BG (Ah .i64)) 31 w.heap.size d8 (zf Z w [none,some b1]) none 0 ([]:List (List Int)):=Bj.nil _ _ _ _ _;replace a:=bind_some a;obtain⟨z4,bC,a⟩:=a;refine BX (fun dR aS aL=>(dR=.exit 0∧∃b u,Fo X0 32 aS∧sl aS 3=.slice b z4.length u∧Hp FN [] w [ob b,some b1] aL∧Bj (BG (Ah .i64)) 31 w.heap.size aL (zf Z w [ob b,some b1]) b u z4)) ?dS ?dT
 case dS=>
  clear a;refine BW (fun cX aS aL=>∃aB,∃n,∃y aF,DF bN c bE cX aB n=some z4∧Fo X0 32 aS∧sl aS 1=pt b1 0∧sl aS 3=.slice y aB.length aF∧sl aS 4=.slice aD bE.length aE∧sl aS 5=I n∧Hp FN [] w [ob y,some b1] aL∧(fun bH=>Bj (BG (Ah .i64)) 31 w.heap.size aL bH y aF aB∧Bk aL b1 67 (AB d f g i j m o p q r s t c).toArray∧Sl Ay aL bH d f c.Aj∧Sl (BG (Ah .i64)) aL bH g i c.Ab∧Sl AH aL bH j m c.As∧Sl AY aL bH o p c.Az∧Sl Ba aL bH q r c.AE∧Sl Bm aL bH s t c.AK∧Sl (BG (Ah .i64)) aL bH aD aE bE) (zf Z w [ob y,some b1])) bN ?dU ?dV
  case dU=>
   intro st;have cY:=(a8.bk.ext bM);have ⟨bU,bV,bW⟩:=Ee a9 bA bB (mt (Ac bM) Bq);have ⟨bX,bY,bZ⟩:=Ee bR bS bT (mt (Ax a8) (mt (Ac bM) Bq));have bJ:=(aW.mv Bq);exact⟨([]:List (List Int)),(0:Int),none,0,bC,qo st,sp st 1 rfl,sp st 3 rfl,sp st 4 rfl,sp st 5 rfl,dP,dQ,cY,bU,bV,bW,bX,bY,bZ,bJ⟩
  case dV=>
   rintro(_|cX) eE eF ⟨aB,n,y,aF,bC,dA,aT,bF,aI,aJ,c5,aH,aK,aX,aY,aZ,a0,a2,a3,aC⟩
   ·exact absurd (show none=some _ from bC) (by simp)
   rw[DF.eq_2] at bC;have a:=bC;clear bC;refine ro dA<|Af<|cr<|wM (v:=I n) aJ<|wM (v:=.slice aD bE.length aE) aI<|wD (fun st=>Bo Tryz.underlying23 (eR st))<|wD (fun st=>B6 (eR st) (eR st))<|wn ?_;rcases Ae (decide (n<(bE.length:Int))) with bI|bI
   ·replace a:=Aq a bI;refine Ai rfl bI<|cn<|Af<|AL<|Af ?_;replace a:=AX a;obtain⟨i8,dW,dX,dY,dZ,a⟩:=a;obtain⟨d9,eA,_,d0,⟨cI,cJ,rfl,cZ⟩,d1⟩:=Sl.CB aC rfl dY;replace a:=bind_some a;obtain⟨dB,d2,a⟩:=a;refine BZ 7 [Kc (.agg (AB d f g i j m o p q r s t c).toArray),Kc (.slice aD bE.length aE),Kc (I n),Kc (pt d9 (eA+i8)),Kc (.slice cI dW.length cJ),Kc (I dB),Kc (.agg (AB d f g i j m o p q r s t c).toArray)] mixed rfl rfl
        (Aa (oD (fun K=>Bd (l:=(AB d f g i j m o p q r s t c)) GP (es ((K.out 1 rfl).trans aT)) (aK.ext K.AV) rfl rfl))
        (Aa (oD (fun K=>AA (es ((K.out 4 rfl).trans aI))))
        (Aa (oD (fun K=>AA (es ((K.out 5 rfl).trans aJ))))
        (Aa (oD (fun K=>Bp (k:=i8) Tryz.underlying23 EP (es (K.dq 1 16)) d0 (es (K.dq 2 17)) dX dZ))
        (Aa (oD (fun K=>Bs CK (es (K.dq 3 18)) (d1.mv (Ac K.AV)) rfl))
        (Aa (oE (fun K=>(Al XG rfl (Cf (es (K.dq 0 15)) (es (K.dq 4 19))) (AaU bN c dW d f g i j m o p q r s t cI cJ ZA _ (aX.mv (Ac K.AV)).all (aY.mv (Ac K.AV)).all (aZ.mv (Ac K.AV)).all (a0.mv (Ac K.AV)).all (a2.mv (Ac K.AV)).all (a3.mv (Ac K.AV)).all (cZ.mv (Ac K.AV)).all dB d2)).mono (fun _ _ h=>⟨h.2,h.1⟩)))
        (Aa (oD (fun K=>Bd (l:=(AB d f g i j m o p q r s t c)) GP (es ((K.out 1 rfl).trans aT)) (aK.ext K.AV) rfl rfl))
        (BY _)))))))) ?_
    intro eO;rintro _ rfl _ rfl _ rfl _ rfl _ rfl _ rfl _ rfl aG;have d3:=c5.ext aG;have ⟨aM,aN,aO,aP,aQ,aR⟩:=CF aX aY aZ a0 a2 a3 (Ac aG);replace a:=bind_some a;obtain⟨c6,dC,a⟩:=a;refine wE (fun st=>Al YN (eR st) (Cj (eR st)) (a61 bN c d f g i j m o p q r s t ZA _ aM.all aN.all aO.all aP.all aQ.all aR.all c6 dC)) ?_;rintro _ eG ⟨x,rfl⟩;have cK:=d3.ext x;refine wD (fun st=>D0 (eR st) (eR st))<|wn ?_;rcases Ae (dB==c6) with a4|a4
    ·replace a:=Aq a a4;refine Ai rfl a4<|An<|wM (v:=.slice y aB.length aF) bF<|wM (v:=.slice aD bE.length aE) aI<|wM (v:=I n) aJ ?_;replace a:=AX a;obtain⟨i13,a5,dD,dE,dF,a⟩:=a;have z:=((aC.mv (Ac aG)).mv (Ac x));obtain⟨eH,eI,_,dG,⟨aU,aV,rfl,cL⟩,dH⟩:=Sl.CB z rfl dE;refine wD (fun st=>Bp (k:=i13) Tryz.underlying23 EP (eR st) dG (eR st) dD dF)<|wD (fun st=>Bs (v:=.slice aU a5.length aV) CK (eR st) dH rfl)<|wE (fun st=>BQ (e:=31) (vs:= #[(0,.slice aU a5.length aV)]) (cs:= #[.slice aU a5.length aV]) (HW (eR st)) (by kernel_rfl)) ?_;rintro _ eJ ⟨eK,rfl,aA⟩;have bD:=cK.nb aA;have d4:=cK.BJ aA;have b4:=(((aH.ext aG (Ac aG)).ext x (Ac x)).ext aA.gr (Ax aA));replace a:=Cu a;obtain⟨cM,a⟩:=a;have bK:=(cL.mv (Ax aA));refine wE (fun st=>ID (ys:=[a5]) Tryz.underlying23 Ng rfl rfl (by decide) (eR st) rfl (eR st) b4 (II (BE:=[[.slice aU a5.length aV]]) aA.bk ⟨⟨_,_,rfl,bK⟩,trivial⟩ rfl) (by have:=cM;simp only[maxLen];omega) (by have:=cM;omega) bD.sz (by simp)) ?_;rintro _ eM ⟨c7,c8,rfl,a6,bG,dI⟩;have d5:=bD.row a6 1 rfl bG;have dJ:=DJ dI (bD.CA a6 1 rfl (fun k cN=>(bG k cN).1));refine wA (v:=.slice c7 ((aB++[a5]).length) c8) rfl<|Bn<|C5<|An<|wM (v:=I n) aJ ?_;replace a:=AN a;obtain⟨dK,a⟩:=a;refine wD (fun st=>BR (eR st) (eR st) dK)<|wA (v:=I (n+1)) rfl<|Bn ?_;have d6:=d5.erase 0;have cO:=(dJ.up (AD 0));have c0:=((((aK.ext aG).ext x).ext aA.gr).gr a6 (bD.nq 2 1));have ⟨b5,b6,b7,b8,b9,cA⟩:=CF aM aN aO aP aQ aR (mt (Ac x) (mt (Ax aA) (mt (bD.CA a6 1 rfl (fun k cN=>(bG k cN).1)) (AD 0))));have bL:=(((z.mv (Ax aA)).mv (bD.CA a6 1 rfl (fun k cN=>(bG k cN).1))).mv (AD 0));refine Bz cX (Nat.lt_succ_self _) (fun st=>?_);exact⟨(aB++[a5]),(n+1),c7,c8,a,qo st,sp st 1 aT,sp st 3 rfl,sp st 4 aI,sp st 5 rfl,d6,cO,c0,b5,b6,b7,b8,b9,cA,bL⟩
    ·replace a:=Ar a a4;refine Au rfl a4<|Cm<|C5<|An<|wM (v:=I n) aJ ?_;replace a:=AN a;obtain⟨dL,a⟩:=a;refine wD (fun st=>BR (eR st) (eR st) dL)<|wA (v:=I (n+1)) rfl<|Bn ?_;have cB:=((aH.ext aG (Ac aG)).ext x (Ac x));have c1:=((aK.ext aG).ext x);have ⟨cC,cD,cE,cF,cG,cH⟩:=CF aM aN aO aP aQ aR (Ac x);have z:=((aC.mv (Ac aG)).mv (Ac x));refine Bz cX (Nat.lt_succ_self _) (fun st=>?_);exact⟨aB,(n+1),y,aF,a,qo st,sp st 1 aT,sp st 3 bF,sp st 4 aI,sp st 5 rfl,cK,cB,c1,cC,cD,cE,cF,cG,cH,z⟩
   ·replace a:=Ar a bI;refine Au rfl bI<|Dy ?_;obtain rfl:=oi a;refine BF (fun st=>?_);exact⟨rfl,y,aF,qo st,sp st 3 bF,c5,aH⟩
 case dT=>
  rintro dR eB eN (⟨rfl,b,u,c2,cP,cQ,a7⟩);refine lf c2<|Bi<|BM<|cr<|wM (v:=.slice b z4.length u) cP<|wA (v:=.slice b z4.length u) rfl<|wn<|Ak ?_;obtain rfl:=oi a;refine Aw rfl rfl ?_;exact⟨cQ.Bf,⟨_,_,rfl,cQ.IZ (M:=[]) 0 rfl [] rfl trivial a7⟩⟩
set_option maxHeartbeats 4000000 in
theorem a116 aS b aF aG aA aB aH aI o p s t u x(Z:Nat→Prop) w(fS:Sl Ay w Z aF aG b.Aj)(fT:Sl (BG (Ah .i64)) w Z aA aB b.Ab)(fU:Sl AH w Z aH aI b.As)(fV:Sl AY w Z o p b.Az)(fW:Sl Ba w Z s t b.AE)(fX:Sl Bm w Z u x b.AK) h5(a:GM aS b=some h5):
 BN Tryz.prog 116 #[.agg (AB aF aG aA aB aH aI o p s t u x b).toArray] w (fun v w'=>Ext w w'∧(Dh .i64).R w' (zf Z w []) v h5):=by
 unfold GM at a;refine rq (N:=149) Tryz.func116 fun iS ha iT=>?_;have f5:=sA 0 ha;clear ha;have f1:Hp FN [] w [] w:=Hp.start (By.none w);have ⟨eE,eF,eG,eH,eI,eJ⟩:=CF fS fT fU fV fW fX (BB (Z:=Z) (L:=[]) w);refine cr<|wE (fun st=>BL (v:=.agg (AB aF aG aA aB aH aI o p s t u x b).toArray) (cs:=(AB aF aG aA aB aH aI o p s t u x b).toArray) (ee st f5) rfl) ?_;rintro _ w1 ⟨b1,rfl,cE⟩;have h6:=f1.nb cE;have iF:=f1.BJ cE;refine wA (v:=I 0) rfl<|wn<|Af<|cr<|wD (fun st=>Ad (eR st) (FV _ _))<|wD (fun st=>Bd (l:=[.slice aF b.Aj.length aG,.slice aA b.Ab.length aB,.slice aH b.As.length aI]) Hu (eR st) cE.bk rfl rfl) ?_;have ⟨cF,cG,cH⟩:=Ee eE eF eG (Ax cE);replace a:=bind_some a;obtain⟨eK,h7,a⟩:=a;refine wE (fun st=>Al TQ (eR st) (Cj (eR st)) (a24 aS (⟨b.Aj,b.Ab,b.As⟩:AZ) aF aG aA aB aH aI ZA _ cF.all cG.all cH.all eK h7)) ?_;rintro _ i4 ⟨d1,rfl⟩;have cN:=h6.ext d1;refine wA (v:=I eK) rfl<|wr<|wM (v:=I eK) rfl<|wD (fun st=>DU (eR st) (eR st))<|wn ?_;rcases Ae (eK !=0) with cO|cO
 ·replace a:=Aq a cO;refine Ai rfl cO<|cr<|wM (v:=I eK) rfl<|wA (v:=I eK) rfl<|wn<|Ak<|AI ?_;obtain rfl:=oi a;refine Aw rfl rfl ?_;exact⟨cN.Bf,rfl⟩
 ·replace a:=Ar a cO;refine Au rfl cO<|cn<|Af<|cr<|wD (fun st=>Ad (eR st) (FW _ _)) ?_;have bE:=(cE.bk.ext d1);refine wD (fun st=>Ag (v:=.slice o b.Az.length p) GO (eR st) bE rfl)<|wD (fun st=>Bo Tryz.underlying63 (eR st))<|wD (fun st=>FY (eR st) (eR st))<|wM (v:=.bool (decide ((3:Int)<(b.Az.length:Int)))) rfl ?_;rcases Ae (decide ((3:Int)<(b.Az.length:Int))) with aV|aV
  ·replace a:=Aq a aV;refine wF aV<|wF aV<|wF aV<|wF aV<|wD (fun st=>Bc (v:=.bool true) (eR st) aV (eR st))<|wM (v:=.bool true) rfl<|wH<|wH<|wH<|wH<|wD (fun st=>Bc (v:=.bool true) (eR st) rfl (eR st))<|wn<|Ai rfl rfl<|cr<|wA (v:=I 3) rfl<|wn<|Ak<|AI ?_;obtain rfl:=oi a;refine Aw rfl rfl ?_;exact⟨cN.Bf,rfl⟩
  ·replace a:=Ar a aV;refine wG aV (fun st=>Ad (eR st) (FX _ _))<|wG aV (fun st=>Ag (v:=.slice s b.AE.length t) GQ (eR st) bE rfl)<|wG aV (fun st=>Bo Tryz.underlying64 (eR st))<|wG aV (fun st=>FY (eR st) (eR st))<|wD (fun st=>Bt (v:=.bool (decide ((3:Int)<(b.AE.length:Int)))) (eR st) aV (eR st))<|wM (v:=.bool (decide ((3:Int)<(b.AE.length:Int)))) rfl ?_;rcases Ae (decide ((3:Int)<(b.AE.length:Int))) with aW|aW
   ·replace a:=Aq a aW;refine wF aW<|wF aW<|wF aW<|wF aW<|wD (fun st=>Bc (v:=.bool true) (eR st) aW (eR st))<|wn<|Ai rfl rfl<|cr<|wA (v:=I 3) rfl<|wn<|Ak<|AI ?_;obtain rfl:=oi a;refine Aw rfl rfl ?_;exact⟨cN.Bf,rfl⟩
   ·replace a:=Ar a aW;refine wG aW (fun st=>Ad (eR st) (Hz _ _))<|wG aW (fun st=>Ag (v:=.slice u b.AK.length x) Io (eR st) bE rfl)<|wG aW (fun st=>Bo Tryz.underlying65 (eR st))<|wG aW (fun st=>FY (eR st) (eR st))<|wD (fun st=>Bt (v:=.bool (decide ((5:Int)<(b.AK.length:Int)))) (eR st) aW (eR st))<|wn ?_;rcases Ae (decide ((5:Int)<(b.AK.length:Int))) with cP|cP
    ·replace a:=Aq a cP;refine Ai rfl cP<|cr<|wA (v:=I 3) rfl<|wn<|Ak<|AI ?_;obtain rfl:=oi a;refine Aw rfl rfl ?_;exact⟨cN.Bf,rfl⟩
    ·replace a:=Ar a cP;refine Au rfl cP<|cn<|Af<|cr<|wD (fun st=>Ad (eR st) (Sp _ _))<|wD (fun st=>Ag (v:=I b.Flat) Bl (eR st) bE rfl) ?_;replace a:=bind_some a;obtain⟨e0,h8,a⟩:=a;refine wE (fun st=>Al Ey (eR st) (Ev (eR st) (eR st) (eR st)) (Ia aS b.Flat 0 100 ZA _ e0 h8)) ?_;rintro _ i5 ⟨d2,rfl⟩;have e1:=cN.ext d2;refine wD (fun st=>B7 (eR st))<|wM (v:=.bool !e0) rfl ?_;rcases Ae (!e0) with aK|aK
     ·replace a:=Aq a aK;have hO:e0=false:=by simpa using aK
      refine wF aK<|wF aK<|wF aK<|wF aK<|wD (fun st=>Bc (v:=.bool true) (eR st) aK (eR st))<|wn<|Ai rfl rfl<|cr<|wA (v:=I 1) rfl<|wn<|Ak<|AI ?_;obtain rfl:=oi a;refine Aw rfl rfl ?_;exact⟨e1.Bf,rfl⟩
     ·replace a:=Ar a aK;have hP:e0=true:=by simpa using aK
      refine wG aK (fun st=>Ad (eR st) (FW _ _)) ?_;have d3:=(bE.ext d2);refine wG aK (fun st=>Ag (v:=.slice o b.Az.length p) GO (eR st) d3 rfl)<|wG aK (fun st=>Bo Tryz.underlying63 (eR st))<|wG aK (fun st=>D0 (eR st) (eR st))<|wD (fun st=>Bt (v:=.bool ((b.Az.length:Int)==0)) (eR st) aK (eR st))<|wn ?_;rcases Ae ((b.Az.length:Int)==0) with bV|bV
      ·replace a:=Aq a bV;refine Ai rfl bV<|cr<|wA (v:=I 1) rfl<|wn<|Ak<|AI ?_;obtain rfl:=oi a;refine Aw rfl rfl ?_;exact⟨e1.Bf,rfl⟩
      ·replace a:=Ar a bV;refine Au rfl bV<|cn<|Af<|cr<|wA (v:=I 0) rfl<|wn<|AL ?_;replace a:=bind_some a;obtain⟨e2,bF,a⟩:=a;refine BX (fun bW z m=>(bW=.ret∧∃bG,e2=.inl bG∧Fo X0 149 z∧sl z 2=I bG∧Hp FN [] w [some b1] m)∨(bW=.exit 0∧∃bG,e2=.inr bG∧Fo X0 149 z∧sl z 1=pt b1 0∧Hp FN [] w [some b1] m∧Bk m b1 67 (AB aF aG aA aB aH aI o p s t u x b).toArray∧(fun aE=>Sl Ay m aE aF aG b.Aj∧Sl (BG (Ah .i64)) m aE aA aB b.Ab∧Sl AH m aE aH aI b.As∧Sl AY m aE o p b.Az∧Sl Ba m aE s t b.AE∧Sl Bm m aE u x b.AK) (zf Z w [some b1]))) ?f6 ?f7
       case f6=>
        clear a;refine BW (fun bT z m=>∃e,DG aS b bT e=some e2∧Fo X0 149 z∧sl z 1=pt b1 0∧sl z 4=I e∧Hp FN [] w [some b1] m∧Bk m b1 67 (AB aF aG aA aB aH aI o p s t u x b).toArray∧(fun aE=>Sl Ay m aE aF aG b.Aj∧Sl (BG (Ah .i64)) m aE aA aB b.Ab∧Sl AH m aE aH aI b.As∧Sl AY m aE o p b.Az∧Sl Ba m aE s t b.AE∧Sl Bm m aE u x b.AK) (zf Z w [some b1])) aS ?f8 ?f9
        case f8=>
         intro st;have ⟨eM,eN,eO⟩:=Ee cF cG cH (mt (Ac d1) (Ac d2));have ⟨eP,eQ,eS⟩:=Ee eH eI eJ (mt (Ax cE) (mt (Ac d1) (Ac d2)));exact⟨(0:Int),bF,qo st,sp st 1 rfl,sp st 4 rfl,e1,d3,eM,eN,eO,eP,eQ,eS⟩
        case f9=>
         rintro(_|bT) iJ iK ⟨e,bF,fY,aQ,aJ,e3,aX,a0,a2,a3,aU,a4,a5⟩
         ·exact absurd (show none=some _ from bF) (by simp)
         rw[DG.eq_2] at bF;have a:=bF;clear bF;refine ro fY<|Af<|cr<|wM (v:=I e) aJ<|wD (fun st=>Ad (ee st aQ) (FW _ _))<|wD (fun st=>Ag (v:=.slice o b.Az.length p) GO (eR st) aX rfl)<|wD (fun st=>Bo Tryz.underlying63 (eR st))<|wD (fun st=>B6 (eR st) (eR st))<|wn ?_;rcases Ae (decide (e<(b.Az.length:Int))) with bX|bX
         ·replace a:=Aq a bX;refine Ai rfl bX<|cn<|Af<|AL<|cr<|wD (fun st=>Ad (ee st aQ) (FW _ _))<|wD (fun st=>Ag (v:=.slice o b.Az.length p) GO (eR st) aX rfl)<|wM (v:=I e) aJ ?_;replace a:=AX a;obtain⟨i16,g,gA,gB,gC,a⟩:=a;obtain⟨iU,iV,_,gD,rfl,gE⟩:=Sl.elem aU (by decide) gB;refine wD (fun st=>Bu (k:=i16) Tryz.underlying63 I9 (eR st) gD (eR st) gA gC)<|wD (fun st=>CD (l:=[I g.AT,I g.BT]) XH (eR st) gE rfl rfl)<|wE (fun st=>B5 (cs:= #[I 0,I 0]) U0 rfl) ?_;rintro _ iW ⟨aZ,rfl,aY⟩;have bY:=e3.nb aY;have h9:=e3.BJ aY;refine BH rfl rfl (fun st=>Bv (n:=2) (l:=[I g.AT,I g.BT]) (Cv:= #[I g.AT,I g.BT]) (eR st) (eR st) I9 aY.bk rfl rfl (show 0+2≤2 by decide) (Be rfl) rfl) ?_;rintro _ iX y;have cQ:=bY.gr y.gr 0 rfl;refine wn<|Af ?_;replace a:=bind_some a;obtain⟨aC,bZ,a⟩:=a;rcases Ae (!aC) with f|f
          ·replace a:=Aq a f;have hQ:aC=false:=by simpa using f
           refine BZ 34 [Kc (pt aZ 0),Kc (I g.AT),Kc (.bool aC),Kc (.bool !aC),Kc (.bool !aC),Kc undef,Kc undef,Kc undef,Kc undef,Kc (.bool true),Kc (.bool true),Kc undef,Kc undef,Kc undef,Kc undef,Kc undef,Kc undef,Kc undef,Kc undef,Kc undef,Kc undef,Kc undef,Kc undef,Kc undef,Kc undef,Kc undef,Kc undef,Kc undef,Kc undef,Kc undef,Kc undef,Kc undef,Kc undef,Kc undef] mixed rfl rfl
               (Aa (oD (fun K=>Ad (K.kO 5) (Jy _ _)))
               (Aa (oD (fun K=>Ag Bl (es (K.dq 0 52)) (y.bk.ext K.AV) rfl))
               (Aa (oE (fun K=>(Al Ey rfl (Ev (es (K.dq 1 53)) (ec (v:=I 0)) (ec (v:=I 100))) (Ia aS g.AT 0 100 ZA _ aC bZ)).mono (fun _ _ h=>⟨h.2,h.1⟩)))
               (Aa (oD (fun K=>B7 (es (K.dq 2 54))))
               (Aa (oD (fun K=>AA (es (K.dq 3 55))))
               (Aa (oT f)
               (Aa (oT f)
               (Aa (oT f)
               (Aa (oT f)
               (Aa (oD (fun K=>Bc (es (K.dq 4 56)) f (ec (v:=.bool true))))
               (Aa (oD (fun K=>AA (es (K.dq 9 61))))
               (Aa (oS (c:=true) (fun a' w' ph K=>(show sl a' 62=.bool true from K.dq 10 62)))
               (Aa (oS (c:=true) (fun a' w' ph K=>(show sl a' 62=.bool true from K.dq 10 62)))
               (Aa (oS (c:=true) (fun a' w' ph K=>(show sl a' 62=.bool true from K.dq 10 62)))
               (Aa (oU)
               (Aa (oU)
               (Aa (oU)
               (Aa (oU)
               (Aa (oU)
               (Aa (oU)
               (Aa (oU)
               (Aa (oU)
               (Aa (oU)
               (Aa (oU)
               (Aa (oU)
               (Aa (oU)
               (Aa (oU)
               (Aa (oU)
               (Aa (oU)
               (Aa (oU)
               (Aa (oU)
               (Aa (oU)
               (Aa (oU)
               (Aa (oU)
               (BY _))))))))))))))))))))))))))))))))))) ?_
           intro d4;rintro _ rfl _ rfl _ rfl _ rfl _ rfl _ rfl _ rfl _ rfl _ rfl _ rfl _ rfl _ rfl _ rfl _ rfl _ rfl _ rfl _ rfl _ rfl _ rfl _ rfl _ rfl _ rfl _ rfl _ rfl _ rfl _ rfl _ rfl _ rfl _ rfl _ rfl _ rfl _ rfl _ rfl _ rfl aL;have iA:=cQ.ext aL;refine Ks rfl rfl rfl rfl (by decide)<|Ks rfl rfl rfl rfl (by decide)<|wH<|wD (fun st=>Bc (v:=.bool true) (eR st) rfl (eR st))<|wn<|Ai rfl rfl<|cr<|wA (v:=I 1) rfl<|wn<|Ak<|CH<|AI ?_;have iB:=iA.erase 0;obtain rfl:=oi a;refine BF (fun st=>?_);exact .inl ⟨rfl,(1:Int),rfl,qo st,sp st 2 rfl,iB⟩
          ·replace a:=Ar a f;have hR:aC=true:=by simpa using f
           replace a:=bind_some a;obtain⟨aD,cI,a⟩:=a;rcases Ae (!aD) with i|i
           ·replace a:=Aq a i;have hS:aD=false:=by simpa using i
            refine BZ 34 [Kc (pt aZ 0),Kc (I g.AT),Kc (.bool aC),Kc (.bool !aC),Kc (.bool !aC),Kc (pt aZ 1),Kc (I g.BT),Kc (.bool aD),Kc (.bool !aD),Kc (.bool !aD),Kc (.bool !aD),Kc undef,Kc undef,Kc undef,Kc undef,Kc undef,Kc undef,Kc undef,Kc undef,Kc undef,Kc undef,Kc undef,Kc undef,Kc undef,Kc undef,Kc undef,Kc undef,Kc undef,Kc undef,Kc undef,Kc undef,Kc undef,Kc undef,Kc undef] mixed rfl rfl
                (Aa (oD (fun K=>Ad (K.kO 5) (Jy _ _)))
                (Aa (oD (fun K=>Ag Bl (es (K.dq 0 52)) (y.bk.ext K.AV) rfl))
                (Aa (oE (fun K=>(Al Ey rfl (Ev (es (K.dq 1 53)) (ec (v:=I 0)) (ec (v:=I 100))) (Ia aS g.AT 0 100 ZA _ aC bZ)).mono (fun _ _ h=>⟨h.2,h.1⟩)))
                (Aa (oD (fun K=>B7 (es (K.dq 2 54))))
                (Aa (oD (fun K=>AA (es (K.dq 3 55))))
                (Aa (oG f (fun K=>Ad (K.kO 5) (La _ _)))
                (Aa (oG f (fun K=>Ag Bl (es (K.dq 5 57)) (y.bk.ext K.AV) rfl))
                (Aa (oX f (fun K=>(Al Ey rfl (Ev (es (K.dq 6 58)) (ec (v:=I 0)) (ec (v:=I 100))) (Ia aS g.BT 0 100 ZA _ aD cI)).mono (fun _ _ h=>⟨h.2,h.1⟩)))
                (Aa (oG f (fun K=>B7 (es (K.dq 7 59))))
                (Aa (oD (fun K=>Bt (es (K.dq 4 56)) f (es (K.dq 8 60))))
                (Aa (oD (fun K=>AA (es (K.dq 9 61))))
                (Aa (oT i)
                (Aa (oT i)
                (Aa (oT i)
                (Aa (oU)
                (Aa (oU)
                (Aa (oU)
                (Aa (oU)
                (Aa (oU)
                (Aa (oU)
                (Aa (oU)
                (Aa (oU)
                (Aa (oU)
                (Aa (oU)
                (Aa (oU)
                (Aa (oU)
                (Aa (oU)
                (Aa (oU)
                (Aa (oU)
                (Aa (oU)
                (Aa (oU)
                (Aa (oU)
                (Aa (oU)
                (Aa (oU)
                (BY _))))))))))))))))))))))))))))))))))) ?_
            intro d4;rintro _ rfl _ rfl _ rfl _ rfl _ rfl _ rfl _ rfl _ rfl _ rfl _ rfl _ rfl _ rfl _ rfl _ rfl _ rfl _ rfl _ rfl _ rfl _ rfl _ rfl _ rfl _ rfl _ rfl _ rfl _ rfl _ rfl _ rfl _ rfl _ rfl _ rfl _ rfl _ rfl _ rfl _ rfl aL;have iC:=cQ.ext aL;refine Ks rfl rfl rfl rfl (by decide)<|Ks rfl rfl rfl rfl (by decide)<|wF i<|wD (fun st=>Bc (v:=.bool true) (eR st) i (eR st))<|wn<|Ai rfl rfl<|cr<|wA (v:=I 1) rfl<|wn<|Ak<|CH<|AI ?_;have gF:=iC.erase 0;obtain rfl:=oi a;refine BF (fun st=>?_);exact .inl ⟨rfl,(1:Int),rfl,qo st,sp st 2 rfl,gF⟩
           ·replace a:=Ar a i;have hT:aD=true:=by simpa using i
            rcases Ae (decide ((0:Int)<e)) with d|d
            ·replace a:=Aq a d;have bU:=((aX.ext aY.gr).gr y.gr (bY.nq 1 0));replace a:=AN a;obtain⟨e4,a⟩:=a;replace a:=AX a;obtain⟨i30,b4,e5,gG,e6,a⟩:=a;have bH:=((aU.mv (Ax aY)).mv (bY.Bx y.gr 0 rfl));obtain⟨d5,d6,_,e7,rfl,e8⟩:=Sl.elem bH (by decide) gG;rcases Ae (decide (b4.AT≤g.AT)) with j|j
             ·replace a:=Aq a j;refine BZ 34 [Kc (pt aZ 0),Kc (I g.AT),Kc (.bool aC),Kc (.bool !aC),Kc (.bool !aC),Kc (pt aZ 1),Kc (I g.BT),Kc (.bool aD),Kc (.bool !aD),Kc (.bool !aD),Kc (.bool !aD),Kc (I e),Kc (.bool (decide ((0:Int)<e))),Kc (.bool (decide ((0:Int)<e))),Kc (pt aZ 0),Kc (I g.AT),Kc (pt b1 4),Kc (.slice o b.Az.length p),Kc (I e),Kc (I (e-1)),Kc (pt d5 (d6+i30*2)),Kc (pt d5 (d6+i30*2)),Kc (I b4.AT),Kc (.bool (decide (b4.AT≤g.AT))),Kc (.bool (decide (b4.AT≤g.AT))),Kc undef,Kc undef,Kc undef,Kc undef,Kc undef,Kc undef,Kc undef,Kc undef,Kc undef] mixed rfl rfl
                  (Aa (oD (fun K=>Ad (K.kO 5) (Jy _ _)))
                  (Aa (oD (fun K=>Ag Bl (es (K.dq 0 52)) (y.bk.ext K.AV) rfl))
                  (Aa (oE (fun K=>(Al Ey rfl (Ev (es (K.dq 1 53)) (ec (v:=I 0)) (ec (v:=I 100))) (Ia aS g.AT 0 100 ZA _ aC bZ)).mono (fun _ _ h=>⟨h.2,h.1⟩)))
                  (Aa (oD (fun K=>B7 (es (K.dq 2 54))))
                  (Aa (oD (fun K=>AA (es (K.dq 3 55))))
                  (Aa (oG f (fun K=>Ad (K.kO 5) (La _ _)))
                  (Aa (oG f (fun K=>Ag Bl (es (K.dq 5 57)) (y.bk.ext K.AV) rfl))
                  (Aa (oX f (fun K=>(Al Ey rfl (Ev (es (K.dq 6 58)) (ec (v:=I 0)) (ec (v:=I 100))) (Ia aS g.BT 0 100 ZA _ aD cI)).mono (fun _ _ h=>⟨h.2,h.1⟩)))
                  (Aa (oG f (fun K=>B7 (es (K.dq 7 59))))
                  (Aa (oD (fun K=>Bt (es (K.dq 4 56)) f (es (K.dq 8 60))))
                  (Aa (oD (fun K=>AA (es (K.dq 9 61))))
                  (Aa (oG i (fun K=>AA (es ((K.out 4 rfl).trans aJ))))
                  (Aa (oG i (fun K=>FY (es (K.dq 11 63)) (ec (v:=I 0))))
                  (Aa (oG i (fun K=>AA (es (K.dq 12 64))))
                  (Aa (oG d (fun K=>Ad (K.kO 5) (Jy _ _)))
                  (Aa (oG d (fun K=>Ag Bl (es (K.dq 14 66)) (y.bk.ext K.AV) rfl))
                  (Aa (oG d (fun K=>Ad (es ((K.out 1 rfl).trans aQ)) (FW _ _)))
                  (Aa (oG d (fun K=>Ag GO (es (K.dq 16 68)) (bU.ext K.AV) rfl))
                  (Aa (oG d (fun K=>AA (es ((K.out 4 rfl).trans aJ))))
                  (Aa (oG d (fun K=>EC (es (K.dq 18 70)) (ec (v:=I 1)) e4))
                  (Aa (oG d (fun K=>Bu (k:=i30) Tryz.underlying63 I9 (es (K.dq 17 69)) e7 (es (K.dq 19 71)) e5 e6))
                  (Aa (oG d (fun K=>Ad (es (K.dq 20 72)) (Kh _ _ _)))
                  (Aa (oG d (fun K=>Bs Bl (es (K.dq 21 73)) (e8.mv (Ac K.AV)) rfl))
                  (Aa (oG d (fun K=>Ir (es (K.dq 15 67)) (es (K.dq 22 74))))
                  (Aa (oG d (fun K=>AA (es (K.dq 23 75))))
                  (Aa (oT j)
                  (Aa (oT j)
                  (Aa (oT j)
                  (Aa (oT j)
                  (Aa (oT j)
                  (Aa (oT j)
                  (Aa (oT j)
                  (Aa (oT j)
                  (Aa (oT j)
                  (BY _))))))))))))))))))))))))))))))))))) ?_
              intro d4;rintro _ rfl _ rfl _ rfl _ rfl _ rfl _ rfl _ rfl _ rfl _ rfl _ rfl _ rfl _ rfl _ rfl _ rfl _ rfl _ rfl _ rfl _ rfl _ rfl _ rfl _ rfl _ rfl _ rfl _ rfl _ rfl _ rfl _ rfl _ rfl _ rfl _ rfl _ rfl _ rfl _ rfl _ rfl aL;have gH:=cQ.ext aL;refine wF j<|wG d (fun st=>Bc (v:=.bool true) (eR st) j (eR st))<|wG i (fun st=>Bc (v:=.bool true) (eR st) d (eR st))<|wD (fun st=>Bt (v:=.bool true) (eR st) i (eR st))<|wn<|Ai rfl rfl<|cr<|wA (v:=I 1) rfl<|wn<|Ak<|CH<|AI ?_;have gI:=gH.erase 0;obtain rfl:=oi a;refine BF (fun st=>?_);exact .inl ⟨rfl,(1:Int),rfl,qo st,sp st 2 rfl,gI⟩
             ·replace a:=Ar a j;replace a:=AN a;obtain⟨gJ,a⟩:=a;replace a:=AX a;obtain⟨i33,cR,gK,gL,gM,a⟩:=a;obtain⟨f2,f3,_,gN,rfl,gO⟩:=Sl.elem bH (by decide) gL;refine BZ 34 [Kc (pt aZ 0),Kc (I g.AT),Kc (.bool aC),Kc (.bool !aC),Kc (.bool !aC),Kc (pt aZ 1),Kc (I g.BT),Kc (.bool aD),Kc (.bool !aD),Kc (.bool !aD),Kc (.bool !aD),Kc (I e),Kc (.bool (decide ((0:Int)<e))),Kc (.bool (decide ((0:Int)<e))),Kc (pt aZ 0),Kc (I g.AT),Kc (pt b1 4),Kc (.slice o b.Az.length p),Kc (I e),Kc (I (e-1)),Kc (pt d5 (d6+i30*2)),Kc (pt d5 (d6+i30*2)),Kc (I b4.AT),Kc (.bool (decide (b4.AT≤g.AT))),Kc (.bool (decide (b4.AT≤g.AT))),Kc (pt aZ 1),Kc (I g.BT),Kc (pt b1 4),Kc (.slice o b.Az.length p),Kc (I e),Kc (I (e-1)),Kc (pt f2 (f3+i33*2)),Kc (pt f2 (f3+i33*2+1)),Kc (I cR.BT)] mixed rfl rfl
                  (Aa (oD (fun K=>Ad (K.kO 5) (Jy _ _)))
                  (Aa (oD (fun K=>Ag Bl (es (K.dq 0 52)) (y.bk.ext K.AV) rfl))
                  (Aa (oE (fun K=>(Al Ey rfl (Ev (es (K.dq 1 53)) (ec (v:=I 0)) (ec (v:=I 100))) (Ia aS g.AT 0 100 ZA _ aC bZ)).mono (fun _ _ h=>⟨h.2,h.1⟩)))
                  (Aa (oD (fun K=>B7 (es (K.dq 2 54))))
                  (Aa (oD (fun K=>AA (es (K.dq 3 55))))
                  (Aa (oG f (fun K=>Ad (K.kO 5) (La _ _)))
                  (Aa (oG f (fun K=>Ag Bl (es (K.dq 5 57)) (y.bk.ext K.AV) rfl))
                  (Aa (oX f (fun K=>(Al Ey rfl (Ev (es (K.dq 6 58)) (ec (v:=I 0)) (ec (v:=I 100))) (Ia aS g.BT 0 100 ZA _ aD cI)).mono (fun _ _ h=>⟨h.2,h.1⟩)))
                  (Aa (oG f (fun K=>B7 (es (K.dq 7 59))))
                  (Aa (oD (fun K=>Bt (es (K.dq 4 56)) f (es (K.dq 8 60))))
                  (Aa (oD (fun K=>AA (es (K.dq 9 61))))
                  (Aa (oG i (fun K=>AA (es ((K.out 4 rfl).trans aJ))))
                  (Aa (oG i (fun K=>FY (es (K.dq 11 63)) (ec (v:=I 0))))
                  (Aa (oG i (fun K=>AA (es (K.dq 12 64))))
                  (Aa (oG d (fun K=>Ad (K.kO 5) (Jy _ _)))
                  (Aa (oG d (fun K=>Ag Bl (es (K.dq 14 66)) (y.bk.ext K.AV) rfl))
                  (Aa (oG d (fun K=>Ad (es ((K.out 1 rfl).trans aQ)) (FW _ _)))
                  (Aa (oG d (fun K=>Ag GO (es (K.dq 16 68)) (bU.ext K.AV) rfl))
                  (Aa (oG d (fun K=>AA (es ((K.out 4 rfl).trans aJ))))
                  (Aa (oG d (fun K=>EC (es (K.dq 18 70)) (ec (v:=I 1)) e4))
                  (Aa (oG d (fun K=>Bu (k:=i30) Tryz.underlying63 I9 (es (K.dq 17 69)) e7 (es (K.dq 19 71)) e5 e6))
                  (Aa (oG d (fun K=>Ad (es (K.dq 20 72)) (Kh _ _ _)))
                  (Aa (oG d (fun K=>Bs Bl (es (K.dq 21 73)) (e8.mv (Ac K.AV)) rfl))
                  (Aa (oG d (fun K=>Ir (es (K.dq 15 67)) (es (K.dq 22 74))))
                  (Aa (oG d (fun K=>AA (es (K.dq 23 75))))
                  (Aa (oG j (fun K=>Ad (K.kO 5) (La _ _)))
                  (Aa (oG j (fun K=>Ag Bl (es (K.dq 25 77)) (y.bk.ext K.AV) rfl))
                  (Aa (oG j (fun K=>Ad (es ((K.out 1 rfl).trans aQ)) (FW _ _)))
                  (Aa (oG j (fun K=>Ag GO (es (K.dq 27 79)) (bU.ext K.AV) rfl))
                  (Aa (oG j (fun K=>AA (es ((K.out 4 rfl).trans aJ))))
                  (Aa (oG j (fun K=>EC (es (K.dq 29 81)) (ec (v:=I 1)) gJ))
                  (Aa (oG j (fun K=>Bu (k:=i33) Tryz.underlying63 I9 (es (K.dq 28 80)) gN (es (K.dq 30 82)) gK gM))
                  (Aa (oG j (fun K=>Ad (es (K.dq 31 83)) (NS _ _ _)))
                  (Aa (oG j (fun K=>DD Bl (es (K.dq 32 84)) (gO.mv (Ac K.AV)) rfl))
                  (BY _))))))))))))))))))))))))))))))))))) ?_
              intro d4;rintro _ rfl _ rfl _ rfl _ rfl _ rfl _ rfl _ rfl _ rfl _ rfl _ rfl _ rfl _ rfl _ rfl _ rfl _ rfl _ rfl _ rfl _ rfl _ rfl _ rfl _ rfl _ rfl _ rfl _ rfl _ rfl _ rfl _ rfl _ rfl _ rfl _ rfl _ rfl _ rfl _ rfl _ rfl aL;have e9:=cQ.ext aL;refine wG j (fun st=>FY (eR st) (eR st))<|wG d (fun st=>Bt (v:=.bool (decide (cR.BT<g.BT))) (eR st) j (eR st))<|wG i (fun st=>Bc (v:=.bool (decide (cR.BT<g.BT))) (eR st) d (eR st))<|wD (fun st=>Bt (v:=.bool (decide (cR.BT<g.BT))) (eR st) i (eR st))<|wn ?_;rcases Ae (decide (cR.BT<g.BT)) with b5|b5
              ·replace a:=Aq a b5;refine Ai rfl b5<|cr<|wA (v:=I 1) rfl<|wn<|Ak<|CH<|AI ?_;have gP:=e9.erase 0;obtain rfl:=oi a;refine BF (fun st=>?_);exact .inl ⟨rfl,(1:Int),rfl,qo st,sp st 2 rfl,gP⟩
              ·replace a:=Ar a b5;refine Au rfl b5<|Cm<|C5<|An<|wM (v:=I e) aJ ?_;replace a:=AN a;obtain⟨gQ,a⟩:=a;refine wD (fun st=>BR (eR st) (eR st) gQ)<|wA (v:=I (e+1)) rfl<|Bn ?_;have gR:=e9.erase 0;have fA:=(bU.ext aL);have ⟨dB,dC,dD⟩:=Ee a0 a2 a3 (mt (Ax aY) (mt (bY.Bx y.gr 0 rfl) (mt (Ac aL) (AD 0))));have dE:=((bH.mv (Ac aL)).mv (AD 0));have ⟨dF,dG⟩:=K3 a4 a5 (mt (Ax aY) (mt (bY.Bx y.gr 0 rfl) (mt (Ac aL) (AD 0))));refine Bz bT (Nat.lt_succ_self _) (fun st=>?_);exact⟨(e+1),a,qo st,sp st 1 aQ,sp st 4 rfl,gR,fA,dB,dC,dD,dE,dF,dG⟩
            ·replace a:=Ar a d;refine BZ 34 [Kc (pt aZ 0),Kc (I g.AT),Kc (.bool aC),Kc (.bool !aC),Kc (.bool !aC),Kc (pt aZ 1),Kc (I g.BT),Kc (.bool aD),Kc (.bool !aD),Kc (.bool !aD),Kc (.bool !aD),Kc (I e),Kc (.bool (decide ((0:Int)<e))),Kc (.bool (decide ((0:Int)<e))),Kc undef,Kc undef,Kc undef,Kc undef,Kc undef,Kc undef,Kc undef,Kc undef,Kc undef,Kc undef,Kc undef,Kc undef,Kc undef,Kc undef,Kc undef,Kc undef,Kc undef,Kc undef,Kc undef,Kc undef] mixed rfl rfl
                 (Aa (oD (fun K=>Ad (K.kO 5) (Jy _ _)))
                 (Aa (oD (fun K=>Ag Bl (es (K.dq 0 52)) (y.bk.ext K.AV) rfl))
                 (Aa (oE (fun K=>(Al Ey rfl (Ev (es (K.dq 1 53)) (ec (v:=I 0)) (ec (v:=I 100))) (Ia aS g.AT 0 100 ZA _ aC bZ)).mono (fun _ _ h=>⟨h.2,h.1⟩)))
                 (Aa (oD (fun K=>B7 (es (K.dq 2 54))))
                 (Aa (oD (fun K=>AA (es (K.dq 3 55))))
                 (Aa (oG f (fun K=>Ad (K.kO 5) (La _ _)))
                 (Aa (oG f (fun K=>Ag Bl (es (K.dq 5 57)) (y.bk.ext K.AV) rfl))
                 (Aa (oX f (fun K=>(Al Ey rfl (Ev (es (K.dq 6 58)) (ec (v:=I 0)) (ec (v:=I 100))) (Ia aS g.BT 0 100 ZA _ aD cI)).mono (fun _ _ h=>⟨h.2,h.1⟩)))
                 (Aa (oG f (fun K=>B7 (es (K.dq 7 59))))
                 (Aa (oD (fun K=>Bt (es (K.dq 4 56)) f (es (K.dq 8 60))))
                 (Aa (oD (fun K=>AA (es (K.dq 9 61))))
                 (Aa (oG i (fun K=>AA (es ((K.out 4 rfl).trans aJ))))
                 (Aa (oG i (fun K=>FY (es (K.dq 11 63)) (ec (v:=I 0))))
                 (Aa (oG i (fun K=>AA (es (K.dq 12 64))))
                 (Aa (oT d)
                 (Aa (oT d)
                 (Aa (oT d)
                 (Aa (oT d)
                 (Aa (oT d)
                 (Aa (oT d)
                 (Aa (oT d)
                 (Aa (oT d)
                 (Aa (oT d)
                 (Aa (oT d)
                 (Aa (oT d)
                 (Aa (oU)
                 (Aa (oU)
                 (Aa (oU)
                 (Aa (oU)
                 (Aa (oU)
                 (Aa (oU)
                 (Aa (oU)
                 (Aa (oU)
                 (Aa (oU)
                 (BY _))))))))))))))))))))))))))))))))))) ?_
             intro d4;rintro _ rfl _ rfl _ rfl _ rfl _ rfl _ rfl _ rfl _ rfl _ rfl _ rfl _ rfl _ rfl _ rfl _ rfl _ rfl _ rfl _ rfl _ rfl _ rfl _ rfl _ rfl _ rfl _ rfl _ rfl _ rfl _ rfl _ rfl _ rfl _ rfl _ rfl _ rfl _ rfl _ rfl _ rfl aL;have gS:=cQ.ext aL;refine Ks rfl rfl rfl rfl (by decide)<|wF d<|wG i (fun st=>Bt (v:=.bool false) (eR st) d (eR st))<|wD (fun st=>Bt (v:=.bool false) (eR st) i (eR st))<|wn<|Au rfl rfl<|Cm<|C5<|An<|wM (v:=I e) aJ ?_;replace a:=AN a;obtain⟨gT,a⟩:=a;refine wD (fun st=>BR (eR st) (eR st) gT)<|wA (v:=I (e+1)) rfl<|Bn ?_;have gU:=gS.erase 0;have fB:=(((aX.ext aY.gr).gr y.gr (bY.nq 1 0)).ext aL);have ⟨dH,dI,dJ,dK,dL,dM⟩:=CF a0 a2 a3 aU a4 a5 (mt (Ax aY) (mt (bY.Bx y.gr 0 rfl) (mt (Ac aL) (AD 0))));refine Bz bT (Nat.lt_succ_self _) (fun st=>?_);exact⟨(e+1),a,qo st,sp st 1 aQ,sp st 4 rfl,gU,fB,dH,dI,dJ,dK,dL,dM⟩
         ·replace a:=Ar a bX;refine Au rfl bX<|Dy ?_;obtain rfl:=oi a;refine BF (fun st=>?_);exact .inr ⟨rfl,(),rfl,qo st,sp st 1 aQ,e3,aX,a0,a2,a3,aU,a4,a5⟩
       case f7=>
        rintro bW iG iL (⟨rfl,bG,rfl,b6,eT,cJ⟩|⟨rfl,bG,rfl,b6,eU,cJ,eV,cS,cT,cU,cV,cW,cX⟩)
        ·skip
         replace a:=CU a;refine lf b6<|CH ?_;obtain rfl:=oi a;refine Aw rfl eT ?_;exact⟨cJ.Bf,rfl⟩
        ·skip
         replace a:=CV a;refine lf b6<|Bi<|BM<|Af<|cr<|wA (v:=I 0) rfl<|wn<|AL ?_;replace a:=bind_some a;obtain⟨z37,bI,a⟩:=a;refine BX (fun bW z m=>(bW=.ret∧∃bJ,z37=.inl bJ∧Fo X0 149 z∧sl z 2=I bJ∧Hp FN [] w [some b1] m)∨(bW=.exit 2∧∃bJ,z37=.inr bJ∧Fo X0 149 z∧sl z 1=pt b1 0∧Hp FN [] w [some b1] m∧Bk m b1 67 (AB aF aG aA aB aH aI o p s t u x b).toArray∧(fun aE=>Sl Ay m aE aF aG b.Aj∧Sl (BG (Ah .i64)) m aE aA aB b.Ab∧Sl AH m aE aH aI b.As∧Sl AY m aE o p b.Az∧Sl Ba m aE s t b.AE∧Sl Bm m aE u x b.AK) (zf Z w [some b1]))) ?gV ?gW
         case gV=>
          clear a;refine BW (fun bT z m=>∃aN,CN aS b bT aN=some z37∧Fo X0 149 z∧sl z 1=pt b1 0∧sl z 6=I aN∧Hp FN [] w [some b1] m∧Bk m b1 67 (AB aF aG aA aB aH aI o p s t u x b).toArray∧(fun aE=>Sl Ay m aE aF aG b.Aj∧Sl (BG (Ah .i64)) m aE aA aB b.Ab∧Sl AH m aE aH aI b.As∧Sl AY m aE o p b.Az∧Sl Ba m aE s t b.AE∧Sl Bm m aE u x b.AK) (zf Z w [some b1])) aS ?gX ?gY
          case gX=>
           intro st;exact⟨(0:Int),bI,qo st,sp st 1 eU,sp st 6 rfl,cJ,eV,cS,cT,cU,cV,cW,cX⟩
          case gY=>
           rintro(_|bT) iM iN ⟨aN,bI,fZ,aR,a6,dN,aM,bN,bO,bP,bQ,a7,bR⟩
           ·exact absurd (show none=some _ from bI) (by simp)
           rw[CN.eq_2] at bI;have a:=bI;clear bI;refine ro fZ<|Af<|cr<|wM (v:=I aN) a6<|wD (fun st=>Ad (ee st aR) (FX _ _))<|wD (fun st=>Ag (v:=.slice s b.AE.length t) GQ (eR st) aM rfl)<|wD (fun st=>Bo Tryz.underlying64 (eR st))<|wD (fun st=>B6 (eR st) (eR st))<|wn ?_;rcases Ae (decide (aN<(b.AE.length:Int))) with b7|b7
           ·replace a:=Aq a b7;refine Ai rfl b7<|cn<|Af<|AL<|Af ?_;replace a:=AX a;obtain⟨i40,d7,fC,gZ,fD,a⟩:=a;obtain⟨d8,d9,_,fE,rfl,fF⟩:=Sl.elem a7 (by decide) gZ;replace a:=AN a;obtain⟨fG,a⟩:=a;replace a:=bind_some a;obtain⟨a8,fH,a⟩:=a;rcases Ae (!a8) with q|q
            ·replace a:=Aq a q;have hU:a8=false:=by simpa using q
             refine BZ 16 [Kc (pt b1 5),Kc (.slice s b.AE.length t),Kc (I aN),Kc (pt d8 (d9+i40*2)),Kc (pt d8 (d9+i40*2)),Kc (I d7.Cr),Kc (pt b1 4),Kc (.slice o b.Az.length p),Kc (I (b.Az.length:Int)),Kc (I ((b.Az.length:Int)-1)),Kc (.bool a8),Kc (.bool !a8),Kc (.bool !a8),Kc undef,Kc undef,Kc undef] mixed rfl rfl
                 (Aa (oD (fun K=>Ad (es ((K.out 1 rfl).trans aR)) (FX _ _)))
                 (Aa (oD (fun K=>Ag GQ (es (K.dq 0 97)) (aM.ext K.AV) rfl))
                 (Aa (oD (fun K=>AA (es ((K.out 6 rfl).trans a6))))
                 (Aa (oD (fun K=>Bu (k:=i40) Tryz.underlying64 Ja (es (K.dq 1 98)) fE (es (K.dq 2 99)) fC fD))
                 (Aa (oD (fun K=>Ad (es (K.dq 3 100)) (Lb _ _ _)))
                 (Aa (oD (fun K=>Bs Bl (es (K.dq 4 101)) (fF.mv (Ac K.AV)) rfl))
                 (Aa (oD (fun K=>Ad (es ((K.out 1 rfl).trans aR)) (FW _ _)))
                 (Aa (oD (fun K=>Ag GO (es (K.dq 6 103)) (aM.ext K.AV) rfl))
                 (Aa (oD (fun K=>Bo Tryz.underlying63 (es (K.dq 7 104))))
                 (Aa (oD (fun K=>EC (es (K.dq 8 105)) (ec (v:=I 1)) fG))
                 (Aa (oE (fun K=>(Al Ey rfl (Ev (es (K.dq 5 102)) (ec (v:=I 0)) (es (K.dq 9 106))) (Ia aS d7.Cr 0 ((b.Az.length:Int)-1) ZA _ a8 fH)).mono (fun _ _ h=>⟨h.2,h.1⟩)))
                 (Aa (oD (fun K=>B7 (es (K.dq 10 107))))
                 (Aa (oD (fun K=>AA (es (K.dq 11 108))))
                 (Aa (oT q)
                 (Aa (oT q)
                 (Aa (oT q)
                 (BY _))))))))))))))))) ?_
             intro iD;rintro _ rfl _ rfl _ rfl _ rfl _ rfl _ rfl _ rfl _ rfl _ rfl _ rfl _ rfl _ rfl _ rfl _ rfl _ rfl _ rfl bB;have g0:=dN.ext bB;refine wF q<|wF q<|wF q<|wF q<|wF q<|wD (fun st=>Bc (v:=.bool true) (eR st) q (eR st))<|wn<|Ai rfl rfl<|cr<|wA (v:=I 1) rfl<|wn<|Ak<|CH<|AI ?_;obtain rfl:=oi a;refine BF (fun st=>?_);exact .inl ⟨rfl,(1:Int),rfl,qo st,sp st 2 rfl,g0⟩
            ·replace a:=Ar a q;have hV:a8=true:=by simpa using q
             refine BZ 16 [Kc (pt b1 5),Kc (.slice s b.AE.length t),Kc (I aN),Kc (pt d8 (d9+i40*2)),Kc (pt d8 (d9+i40*2)),Kc (I d7.Cr),Kc (pt b1 4),Kc (.slice o b.Az.length p),Kc (I (b.Az.length:Int)),Kc (I ((b.Az.length:Int)-1)),Kc (.bool a8),Kc (.bool !a8),Kc (.bool !a8),Kc (pt b1 5),Kc (.slice s b.AE.length t),Kc (I aN)] mixed rfl rfl
                 (Aa (oD (fun K=>Ad (es ((K.out 1 rfl).trans aR)) (FX _ _)))
                 (Aa (oD (fun K=>Ag GQ (es (K.dq 0 97)) (aM.ext K.AV) rfl))
                 (Aa (oD (fun K=>AA (es ((K.out 6 rfl).trans a6))))
                 (Aa (oD (fun K=>Bu (k:=i40) Tryz.underlying64 Ja (es (K.dq 1 98)) fE (es (K.dq 2 99)) fC fD))
                 (Aa (oD (fun K=>Ad (es (K.dq 3 100)) (Lb _ _ _)))
                 (Aa (oD (fun K=>Bs Bl (es (K.dq 4 101)) (fF.mv (Ac K.AV)) rfl))
                 (Aa (oD (fun K=>Ad (es ((K.out 1 rfl).trans aR)) (FW _ _)))
                 (Aa (oD (fun K=>Ag GO (es (K.dq 6 103)) (aM.ext K.AV) rfl))
                 (Aa (oD (fun K=>Bo Tryz.underlying63 (es (K.dq 7 104))))
                 (Aa (oD (fun K=>EC (es (K.dq 8 105)) (ec (v:=I 1)) fG))
                 (Aa (oE (fun K=>(Al Ey rfl (Ev (es (K.dq 5 102)) (ec (v:=I 0)) (es (K.dq 9 106))) (Ia aS d7.Cr 0 ((b.Az.length:Int)-1) ZA _ a8 fH)).mono (fun _ _ h=>⟨h.2,h.1⟩)))
                 (Aa (oD (fun K=>B7 (es (K.dq 10 107))))
                 (Aa (oD (fun K=>AA (es (K.dq 11 108))))
                 (Aa (oG q (fun K=>Ad (es ((K.out 1 rfl).trans aR)) (FX _ _)))
                 (Aa (oG q (fun K=>Ag GQ (es (K.dq 13 110)) (aM.ext K.AV) rfl))
                 (Aa (oG q (fun K=>AA (es ((K.out 6 rfl).trans a6))))
                 (BY _))))))))))))))))) ?_
             intro iD;rintro _ rfl _ rfl _ rfl _ rfl _ rfl _ rfl _ rfl _ rfl _ rfl _ rfl _ rfl _ rfl _ rfl _ rfl _ rfl _ rfl bB;have g1:=dN.ext bB;replace a:=AX a;obtain⟨i46,f4,g2,g3,g4,a⟩:=a;have b8:=(a7.mv (Ac bB));obtain⟨iY,iZ,_,g5,rfl,g6⟩:=Sl.elem b8 (by decide) g3;refine wG q (fun st=>Bu (k:=i46) Tryz.underlying64 Ja (eR st) g5 (eR st) g2 g4)<|wG q (fun st=>Ad (eR st) (Ki _ _ _))<|wG q (fun st=>DD (v:=I f4.Cc) Bl (eR st) g6 rfl) ?_;replace a:=bind_some a;obtain⟨cY,g7,a⟩:=a;refine wX q (fun st=>Al Ey (eR st) (Ev (eR st) (eR st) (eR st)) (Ia aS f4.Cc 1 90 ZA _ cY g7)) ?_;rintro _ i0 ⟨b9,rfl⟩;have fI:=g1.ext b9;refine wG q (fun st=>B7 (eR st))<|wD (fun st=>Bt (v:=.bool !cY) (eR st) q (eR st))<|wn ?_;rcases Ae (!cY) with bC|bC
             ·replace a:=Aq a bC;have hW:cY=false:=by simpa using bC
              refine Ai rfl bC<|cr<|wA (v:=I 1) rfl<|wn<|Ak<|CH<|AI ?_;obtain rfl:=oi a;refine BF (fun st=>?_);exact .inl ⟨rfl,(1:Int),rfl,qo st,sp st 2 rfl,fI⟩
             ·replace a:=Ar a bC;have hX:cY=true:=by simpa using bC
              refine Au rfl bC<|Cm<|C5<|An<|wM (v:=I aN) a6 ?_;replace a:=AN a;obtain⟨g8,a⟩:=a;refine wD (fun st=>BR (eR st) (eR st) g8)<|wA (v:=I (aN+1)) rfl<|Bn ?_;have fJ:=((aM.ext bB).ext b9);have ⟨dO,dP,dQ,dR⟩:=HY bN bO bP bQ (mt (Ac bB) (Ac b9));have dS:=(b8.mv (Ac b9));have dT:=((bR.mv (Ac bB)).mv (Ac b9));refine Bz bT (Nat.lt_succ_self _) (fun st=>?_);exact⟨(aN+1),a,qo st,sp st 1 aR,sp st 6 rfl,fI,fJ,dO,dP,dQ,dR,dS,dT⟩
           ·replace a:=Ar a b7;refine Au rfl b7<|Dy ?_;obtain rfl:=oi a;refine BF (fun st=>?_);exact .inr ⟨rfl,(),rfl,qo st,sp st 1 aR,dN,aM,bN,bO,bP,bQ,a7,bR⟩
         case gW=>
          rintro bW iH iO (⟨rfl,bJ,rfl,cA,eW,cK⟩|⟨rfl,bJ,rfl,cA,eX,cK,eY,cZ,c0,c1,c2,c3,c4⟩)
          ·skip
           replace a:=CU a;refine lf cA<|CH ?_;obtain rfl:=oi a;refine Aw rfl eW ?_;exact⟨cK.Bf,rfl⟩
          ·skip
           replace a:=CV a;refine lf cA<|Bi<|BM<|Af<|cr<|wA (v:=I 0) rfl<|wn<|AL ?_;replace a:=bind_some a;obtain⟨z53,bK,a⟩:=a;refine BX (fun bW z m=>(bW=.ret∧∃bL,z53=.inl bL∧Fo X0 149 z∧sl z 2=I bL∧Hp FN [] w [some b1] m)∨(bW=.exit 4∧∃bL,z53=.inr bL∧Fo X0 149 z∧Hp FN [] w [some b1] m)) ?g9 ?hA
           case g9=>
            clear a;refine BW (fun bT z m=>∃aO,CO aS b bT aO=some z53∧Fo X0 149 z∧sl z 1=pt b1 0∧sl z 7=I aO∧Hp FN [] w [some b1] m∧Bk m b1 67 (AB aF aG aA aB aH aI o p s t u x b).toArray∧(fun aE=>Sl Ay m aE aF aG b.Aj∧Sl (BG (Ah .i64)) m aE aA aB b.Ab∧Sl AH m aE aH aI b.As∧Sl AY m aE o p b.Az∧Sl Ba m aE s t b.AE∧Sl Bm m aE u x b.AK) (zf Z w [some b1])) aS ?hB ?hC
            case hB=>
             intro st;exact⟨(0:Int),bK,qo st,sp st 1 eX,sp st 7 rfl,cK,eY,cZ,c0,c1,c2,c3,c4⟩
            case hC=>
             rintro(_|bT) iP iQ ⟨aO,bK,f0,aT,a9,dU,aP,c5,c6,c7,c8,c9,bS⟩
             ·exact absurd (show none=some _ from bK) (by simp)
             rw[CO.eq_2] at bK;have a:=bK;clear bK;refine ro f0<|Af<|cr<|wM (v:=I aO) a9<|wD (fun st=>Ad (ee st aT) (Hz _ _))<|wD (fun st=>Ag (v:=.slice u b.AK.length x) Io (eR st) aP rfl)<|wD (fun st=>Bo Tryz.underlying65 (eR st))<|wD (fun st=>B6 (eR st) (eR st))<|wn ?_;rcases Ae (decide (aO<(b.AK.length:Int))) with cB|cB
             ·replace a:=Aq a cB;refine Ai rfl cB<|cn<|Af<|AL<|Af ?_;replace a:=AX a;obtain⟨i56,eA,fK,hD,fL,a⟩:=a;obtain⟨eB,eC,_,fM,rfl,fN⟩:=Sl.elem bS (by decide) hD;replace a:=AN a;obtain⟨fO,a⟩:=a;replace a:=bind_some a;obtain⟨bA,fP,a⟩:=a;rcases Ae (!bA) with r|r
              ·replace a:=Aq a r;have hY:bA=false:=by simpa using r
               refine BZ 17 [Kc (pt b1 6),Kc (.slice u b.AK.length x),Kc (I aO),Kc (pt eB (eC+i56*3)),Kc (pt eB (eC+i56*3)),Kc (I eA.BP),Kc (pt b1 0),Kc (pt b1 1),Kc (.slice aA b.Ab.length aB),Kc (I (b.Ab.length:Int)),Kc (I ((b.Ab.length:Int)-1)),Kc (.bool bA),Kc (.bool !bA),Kc (.bool !bA),Kc undef,Kc undef,Kc undef] mixed rfl rfl
                   (Aa (oD (fun K=>Ad (es ((K.out 1 rfl).trans aT)) (Hz _ _)))
                   (Aa (oD (fun K=>Ag Io (es (K.dq 0 126)) (aP.ext K.AV) rfl))
                   (Aa (oD (fun K=>AA (es ((K.out 7 rfl).trans a9))))
                   (Aa (oD (fun K=>Bu (k:=i56) Tryz.underlying65 K9 (es (K.dq 1 127)) fM (es (K.dq 2 128)) fK fL))
                   (Aa (oD (fun K=>Ad (es (K.dq 3 129)) (Mf _ _ _)))
                   (Aa (oD (fun K=>Bs Bl (es (K.dq 4 130)) (fN.mv (Ac K.AV)) rfl))
                   (Aa (oD (fun K=>Ad (es ((K.out 1 rfl).trans aT)) (FV _ _)))
                   (Aa (oD (fun K=>Ad (es (K.dq 6 132)) (DZ _ _)))
                   (Aa (oD (fun K=>Ag Dg (es (K.dq 7 133)) (aP.ext K.AV) rfl))
                   (Aa (oD (fun K=>Bo Tryz.underlying23 (es (K.dq 8 134))))
                   (Aa (oD (fun K=>EC (es (K.dq 9 135)) (ec (v:=I 1)) fO))
                   (Aa (oE (fun K=>(Al Ey rfl (Ev (es (K.dq 5 131)) (ec (v:=I 0)) (es (K.dq 10 136))) (Ia aS eA.BP 0 ((b.Ab.length:Int)-1) ZA _ bA fP)).mono (fun _ _ h=>⟨h.2,h.1⟩)))
                   (Aa (oD (fun K=>B7 (es (K.dq 11 137))))
                   (Aa (oD (fun K=>AA (es (K.dq 12 138))))
                   (Aa (oT r)
                   (Aa (oT r)
                   (Aa (oT r)
                   (BY _)))))))))))))))))) ?_
               intro iE;rintro _ rfl _ rfl _ rfl _ rfl _ rfl _ rfl _ rfl _ rfl _ rfl _ rfl _ rfl _ rfl _ rfl _ rfl _ rfl _ rfl _ rfl bM;have hE:=dU.ext bM;refine wF r<|wF r<|wF r<|wF r<|wF r<|wD (fun st=>Bc (v:=.bool true) (eR st) r (eR st))<|wn<|Ai rfl rfl<|cr<|wA (v:=I 1) rfl<|wn<|Ak<|CH<|AI ?_;obtain rfl:=oi a;refine BF (fun st=>?_);exact .inl ⟨rfl,(1:Int),rfl,qo st,sp st 2 rfl,hE⟩
              ·replace a:=Ar a r;have hZ:bA=true:=by simpa using r
               refine BZ 17 [Kc (pt b1 6),Kc (.slice u b.AK.length x),Kc (I aO),Kc (pt eB (eC+i56*3)),Kc (pt eB (eC+i56*3)),Kc (I eA.BP),Kc (pt b1 0),Kc (pt b1 1),Kc (.slice aA b.Ab.length aB),Kc (I (b.Ab.length:Int)),Kc (I ((b.Ab.length:Int)-1)),Kc (.bool bA),Kc (.bool !bA),Kc (.bool !bA),Kc (pt b1 6),Kc (.slice u b.AK.length x),Kc (I aO)] mixed rfl rfl
                   (Aa (oD (fun K=>Ad (es ((K.out 1 rfl).trans aT)) (Hz _ _)))
                   (Aa (oD (fun K=>Ag Io (es (K.dq 0 126)) (aP.ext K.AV) rfl))
                   (Aa (oD (fun K=>AA (es ((K.out 7 rfl).trans a9))))
                   (Aa (oD (fun K=>Bu (k:=i56) Tryz.underlying65 K9 (es (K.dq 1 127)) fM (es (K.dq 2 128)) fK fL))
                   (Aa (oD (fun K=>Ad (es (K.dq 3 129)) (Mf _ _ _)))
                   (Aa (oD (fun K=>Bs Bl (es (K.dq 4 130)) (fN.mv (Ac K.AV)) rfl))
                   (Aa (oD (fun K=>Ad (es ((K.out 1 rfl).trans aT)) (FV _ _)))
                   (Aa (oD (fun K=>Ad (es (K.dq 6 132)) (DZ _ _)))
                   (Aa (oD (fun K=>Ag Dg (es (K.dq 7 133)) (aP.ext K.AV) rfl))
                   (Aa (oD (fun K=>Bo Tryz.underlying23 (es (K.dq 8 134))))
                   (Aa (oD (fun K=>EC (es (K.dq 9 135)) (ec (v:=I 1)) fO))
                   (Aa (oE (fun K=>(Al Ey rfl (Ev (es (K.dq 5 131)) (ec (v:=I 0)) (es (K.dq 10 136))) (Ia aS eA.BP 0 ((b.Ab.length:Int)-1) ZA _ bA fP)).mono (fun _ _ h=>⟨h.2,h.1⟩)))
                   (Aa (oD (fun K=>B7 (es (K.dq 11 137))))
                   (Aa (oD (fun K=>AA (es (K.dq 12 138))))
                   (Aa (oG r (fun K=>Ad (es ((K.out 1 rfl).trans aT)) (Hz _ _)))
                   (Aa (oG r (fun K=>Ag Io (es (K.dq 14 140)) (aP.ext K.AV) rfl))
                   (Aa (oG r (fun K=>AA (es ((K.out 7 rfl).trans a9))))
                   (BY _)))))))))))))))))) ?_
               intro iE;rintro _ rfl _ rfl _ rfl _ rfl _ rfl _ rfl _ rfl _ rfl _ rfl _ rfl _ rfl _ rfl _ rfl _ rfl _ rfl _ rfl _ rfl bM;have hF:=dU.ext bM;replace a:=AX a;obtain⟨i62,eD,hG,hH,hI,a⟩:=a;have cC:=(bS.mv (Ac bM));obtain⟨i1,i2,_,hJ,rfl,hL⟩:=Sl.elem cC (by decide) hH;refine wG r (fun st=>Bu (k:=i62) Tryz.underlying65 K9 (eR st) hJ (eR st) hG hI)<|wG r (fun st=>Ad (eR st) (NT _ _ _))<|wG r (fun st=>MA (l:=[I eD.Cg,I eD.Ch]) IH (eR st) hL rfl rfl) ?_;replace a:=bind_some a;obtain⟨dA,hM,a⟩:=a;refine wX r (fun st=>Al Oz (eR st) (Ev (eR st) (eR st) (eR st)) (Vz aS (⟨eD.Cg,eD.Ch⟩:AP) 0 9000 ZA _ dA hM)) ?_;rintro _ i3 ⟨cL,rfl⟩;have fQ:=hF.ext cL;refine wG r (fun st=>B7 (eR st))<|wD (fun st=>Bt (v:=.bool !dA) (eR st) r (eR st))<|wn ?_;rcases Ae (!dA) with bD|bD
               ·replace a:=Aq a bD;have h3:dA=false:=by simpa using bD
                refine Ai rfl bD<|cr<|wA (v:=I 1) rfl<|wn<|Ak<|CH<|AI ?_;obtain rfl:=oi a;refine BF (fun st=>?_);exact .inl ⟨rfl,(1:Int),rfl,qo st,sp st 2 rfl,fQ⟩
               ·replace a:=Ar a bD;have h4:dA=true:=by simpa using bD
                refine Au rfl bD<|Cm<|C5<|An<|wM (v:=I aO) a9 ?_;replace a:=AN a;obtain⟨hN,a⟩:=a;refine wD (fun st=>BR (eR st) (eR st) hN)<|wA (v:=I (aO+1)) rfl<|Bn ?_;have fR:=((aP.ext bM).ext cL);have ⟨dV,dW,dX,dY,dZ⟩:=Ye c5 c6 c7 c8 c9 (mt (Ac bM) (Ac cL));have d0:=(cC.mv (Ac cL));refine Bz bT (Nat.lt_succ_self _) (fun st=>?_);exact⟨(aO+1),a,qo st,sp st 1 aT,sp st 7 rfl,fQ,fR,dV,dW,dX,dY,dZ,d0⟩
             ·replace a:=Ar a cB;refine Au rfl cB<|Dy ?_;obtain rfl:=oi a;refine BF (fun st=>?_);exact .inr ⟨rfl,(),rfl,qo st,dU⟩
           case hA=>
            rintro bW iI iR (⟨rfl,bL,rfl,cD,eZ,cM⟩|⟨rfl,bL,rfl,cD,cM⟩)
            ·skip
             replace a:=CU a;refine lf cD<|CH ?_;obtain rfl:=oi a;refine Aw rfl eZ ?_;exact⟨cM.Bf,rfl⟩
            ·skip
             replace a:=CV a;refine lf cD<|Bi<|BM<|cr<|wA (v:=I 0) rfl<|wn<|Ak ?_;obtain rfl:=oi a;refine Aw rfl rfl ?_;exact⟨cM.Bf,rfl⟩
theorem Z0 q a(Z:Nat→Prop) w i(j:GW q a=some i):
 BN Tryz.prog 98 #[.agg #[I a.Lo,I a.Hi]] w (fun v w'=>Ext w w'∧(Ds Ay).R w' (zf Z w []) v i):=by
 unfold GW at j;refine rq (N:=8) Tryz.func98 fun r ha s=>?_;have h:=sA 0 ha;clear ha;have e:Hp FN [] w [] w:=Hp.start (By.none w);refine cr<|wE (fun st=>BL (v:=.agg #[I a.Lo,I a.Hi]) (cs:= #[I a.Lo,I a.Hi]) (ee st h) rfl) ?_;rintro _ w1 ⟨b1,rfl,d⟩;have f:=e.nb d;have o:=e.BJ d;refine wE (fun st=>B5 (cs:= #[I 0,I 0]) Ma rfl) ?_;rintro _ w2 ⟨b2,rfl,b⟩;have k:=f.nb b;have p:=f.BJ b;refine wr<|wD (fun st=>Ad (eR st) (Kf _ _)) ?_;have c:=(d.bk.ext b.gr);refine wD (fun st=>Ag (v:=I a.Lo) Bl (eR st) c rfl)<|wD (fun st=>Ad (eR st) (KT _ _))<|wD (fun st=>Ag (v:=I a.Hi) Bl (eR st) c rfl)<|wD (fun st=>DI (vs:= #[(0,I a.Lo),(1,I a.Hi)]) (v:=.agg #[I a.Lo,I a.Hi]) (He (eR st) (eR st)) (by kernel_rfl))<|BH rfl rfl (fun st=>Bv (n:=2) (l:=[I a.Lo,I a.Hi]) (Cv:= #[I a.Lo,I a.Hi]) (eR st) (eR st) Kz b.bk rfl rfl (show 0+2≤2 by decide) (Be rfl) rfl) ?_;rintro _ t g;have m:=k.gr g.gr 0 rfl;refine wn<|Ak ?_;obtain rfl:=oi j;refine Gt (v:=.agg #[I a.Lo,I a.Hi]) rfl rfl (Dv HU g.bk rfl rfl) ?_;exact⟨m.Bf,⟨_,rfl,rfl⟩⟩
theorem a99 z d a b(Z:Nat→Prop) w(j:Sl (Ah .i64) w Z a b d) t(f:Hc z d=some t):
 BN Tryz.prog 99 #[.slice a d.length b] w (fun v w'=>Ext w w'∧(Fk (Ah .i64)).R w' (zf Z w []) v t):=by
 unfold Hc at f;refine rq (N:=6) Tryz.func99 fun aD ha aE=>?_;have s:=sA 0 ha;clear ha;have m:Hp FN [] w [] w:=Hp.start (By.none w);have g:=j.mv (BB (Z:=Z) (L:=[]) w);refine cr<|wA (v:=.slice none 0 0) rfl<|wr<|wE (fun st=>BQ (e:=3) (vs:= #[]) (cs:= #[]) Vg (by kernel_rfl)) ?_;rintro _ w1 ⟨b1,rfl,c⟩;have i:=m.nb c;have l:=m.BJ c;refine wM (v:=.slice a d.length b) s ?_;have u:Bj (Ah .i64) 3 w.heap.size w1 (zf Z w [some b1]) (some ⟨b1,0,none⟩) 0 ([]:List Int):=Kw (BE:=[]) c.bk l trivial rfl (by simp[maxLen]);replace f:=Cu f;obtain⟨o,f⟩:=f;have h:=(g.mv (Ax c));refine wE (fun st=>GD (ys:=d) Tryz.underlying31 Ht rfl rfl (by decide) (eR st) rfl (eR st) u h.n (by have:=o;simp only[maxLen];omega) (by have:=o;omega) i.sz) ?_;rintro _ aF ⟨aA,aB,rfl,p,q,x⟩;have r:=i.row p 0 rfl q;have y:=DJ x (i.CA p 0 rfl (fun k aC=>(q k aC).1));refine wA (v:=.slice aA ((([]:List Int)++d).length) aB) rfl<|wn<|Ak ?_;obtain rfl:=oi f;refine Aw rfl rfl ?_;exact⟨r.Bf,⟨_,_,rfl,r.IZ (M:=[]) 0 rfl [] rfl trivial y⟩⟩
set_option maxHeartbeats 4000000 in
theorem a27 cU r z aA aB aC aD aE(Z:Nat→Prop) w(fW:Sl Ay w Z z aA r.Av)(fX:Sl (BG (Ah .i64)) w Z aB aC r.AW)(fY:Sl AH w Z aD aE r.AO) hL(c:FD cU r=some hL):
 BN Tryz.prog 27 #[.agg (AR z aA aB aC aD aE r).toArray] w (fun v w'=>Ext w w'∧(Ds Qb).R w' (zf Z w []) v hL):=by
 unfold FD at c;refine rq (N:=70) Tryz.func27 fun iQ ha iR=>?_;have gE:=sA 0 ha;clear ha;have gA:Hp FN [] w [] w:=Hp.start (By.none w);have ⟨d9,eA,eB⟩:=Ee fW fX fY (BB (Z:=Z) (L:=[]) w);refine cr<|wE (fun st=>BL (v:=.agg (AR z aA aB aC aD aE r).toArray) (cs:=(AR z aA aB aC aD aE r).toArray) (ee st gE) rfl) ?_;rintro _ w1 ⟨b1,rfl,d5⟩;have gB:=gA.nb d5;have iA:=gA.BJ d5;refine wE (fun st=>B5 (cs:= #[.slice none 0 0,.slice none 0 0,.slice none 0 0]) O6 rfl) ?_;rintro _ w2 ⟨b2,rfl,c9⟩;have gC:=gB.nb c9;have iB:=gB.BJ c9;refine wr<|wE (fun st=>B5 (cs:= #[.slice none 0 0,.slice none 0 0,.slice none 0 0]) O6 rfl) ?_;rintro _ iH ⟨b3,rfl,cX⟩;have hM:=gC.nb cX;have iC:=gC.BJ cX;refine wn<|Af<|cr<|wA (v:=I 0) rfl<|wn<|AL ?_;have hN:=hM.nil;have hO:Bj Ay 131 w.heap.size iH (zf Z w [none,some b3,some b2,some b1]) none 0 ([]:List AP):=Bj.nil _ _ _ _ _;replace c:=bind_some c;obtain⟨z4,cY,c⟩:=c;refine BX (fun dA m i=>(dA=.exit 0∧∃a d,Fo X0 70 m∧sl m 1=pt b1 0∧sl m 2=pt b2 0∧sl m 3=pt b3 0∧Hp FN [] w [ob a,some b3,some b2,some b1] i∧(fun aF=>Bj Ay 131 w.heap.size i aF a d z4∧Bk i b1 26 (AR z aA aB aC aD aE r).toArray∧Bk i b2 38 #[.slice none 0 0,.slice none 0 0,.slice none 0 0]∧Bk i b3 38 #[.slice a z4.length d,.slice none 0 0,.slice none 0 0]∧Sl Ay i aF z aA r.Av∧Sl (BG (Ah .i64)) i aF aB aC r.AW∧Sl AH i aF aD aE r.AO) (zf Z w [ob a,some b3,some b2,some b1]))) ?hP ?hQ
 case hP=>
  clear c;refine BW (fun cC m i=>∃a0,∃aK,∃y aW,C6 cU r cC a0 aK=some z4∧Fo X0 70 m∧sl m 1=pt b1 0∧sl m 2=pt b2 0∧sl m 3=pt b3 0∧sl m 4=I a0∧Hp FN [] w [ob y,some b3,some b2,some b1] i∧(fun aF=>Bj Ay 131 w.heap.size i aF y aW aK∧Bk i b1 26 (AR z aA aB aC aD aE r).toArray∧Bk i b2 38 #[.slice none 0 0,.slice none 0 0,.slice none 0 0]∧Bk i b3 38 #[.slice y aK.length aW,.slice none 0 0,.slice none 0 0]∧Sl Ay i aF z aA r.Av∧Sl (BG (Ah .i64)) i aF aB aC r.AW∧Sl AH i aF aD aE r.AO) (zf Z w [ob y,some b3,some b2,some b1])) cU ?hR ?hS
  case hR=>
   intro st;have fZ:=((d5.bk.ext c9.gr).ext cX.gr);have f0:=(c9.bk.ext cX.gr);have f1:=cX.bk;have ⟨eC,eD,eE⟩:=Ee d9 eA eB (mt (Ax d5) (mt (Ax c9) (mt (Ax cX) Bq)));exact⟨(0:Int),([]:List AP),none,0,cY,qo st,sp st 1 rfl,sp st 2 rfl,sp st 3 rfl,sp st 4 rfl,hN,hO,fZ,f0,f1,eC,eD,eE⟩
  case hS=>
   rintro(_|cC) iS iT ⟨a0,aK,y,aW,cY,gF,cA,d6,cB,c5,eW,bJ,bK,dB,cD,bH,cE,cF⟩
   ·exact absurd (show none=some _ from cY) (by simp)
   rw[C6.eq_2] at cY;have c:=cY;clear cY;refine ro gF<|Af<|cr<|wM (v:=I a0) c5<|wD (fun st=>Ad (ee st cA) (FT _ _))<|wD (fun st=>Ag (v:=.slice z r.Av.length aA) GN (eR st) bK rfl)<|wD (fun st=>Bo Tryz.underlying22 (eR st))<|wD (fun st=>B6 (eR st) (eR st))<|wn ?_;rcases Ae (decide (a0<(r.Av.length:Int))) with dC|dC
   ·replace c:=Aq c dC;refine Ai rfl dC<|cn<|Af<|AL ?_;replace c:=AX c;obtain⟨i8,eX,hT,hU,hV,c⟩:=c;obtain⟨iI,iJ,_,hW,rfl,hX⟩:=Sl.elem bH (by decide) hU;replace c:=bind_some c;obtain⟨a9,hY,c⟩:=c;refine BZ 9 [Kc (pt b3 0),Kc (.slice y aK.length aW),Kc (pt b1 0),Kc (.slice z r.Av.length aA),Kc (I a0),Kc (pt iI (iJ+i8*2)),Kc (.agg #[I eX.Lo,I eX.Hi]),Kc (.agg #[I a9.Lo,I a9.Hi]),Kv (Fk Ay) (zf Z w [ob y,some b3,some b2,some b1]) [a9]] mixed rfl rfl
        (Aa (oD (fun K=>Ad (es ((K.out 3 rfl).trans cB)) (Hg _ _)))
        (Aa (oD (fun K=>Ag Im (es (K.dq 0 15)) (cD.ext K.AV) rfl))
        (Aa (oD (fun K=>Ad (es ((K.out 1 rfl).trans cA)) (FT _ _)))
        (Aa (oD (fun K=>Ag GN (es (K.dq 2 17)) (bK.ext K.AV) rfl))
        (Aa (oD (fun K=>AA (es ((K.out 4 rfl).trans c5))))
        (Aa (oD (fun K=>Bu (k:=i8) Tryz.underlying22 Lk (es (K.dq 3 18)) hW (es (K.dq 4 19)) hT hV))
        (Aa (oD (fun K=>CD (l:=[I eX.Lo,I eX.Hi]) IH (es (K.dq 5 20)) (hX.mv (Ac K.AV)) rfl rfl))
        (Aa (oE (fun K=>(Al TR rfl (Cj (es (K.dq 6 21))) (Z0 cU eX ZA _ a9 hY)).mono (fun _ _ h=>⟨(by obtain⟨_,rfl,rfl⟩:=h.2;rfl),h.1⟩)))
        (Aa (Ij rfl rfl (fun a' w' ph K=>(BQ (e:=131) (vs:= #[(0,.agg #[I a9.Lo,I a9.Hi])]) (cs:= #[I a9.Lo,I a9.Hi]) (HW (es (K.dq 7 22))) (by kernel_rfl)).mono (fun u BD ⟨hZ,hu,bL⟩=>⟨⟨_,_,hu,FZ (xs:=[a9]) (BE:=[[I a9.Lo,I a9.Hi]]) bL.bk ((eW.ext K.AV).kn (Nat.le_of_eq bL.E9.symm)) (R2.mv (Ac bL.gr) (show R2 Ay w' (zf Z w [ob y,some b3,some b2,some b1]) [[I a9.Lo,I a9.Hi]] [a9] from⟨rfl,trivial⟩)) rfl (Nat.le_refl _)⟩,bL.gr⟩)))
        (BY _)))))))))) ?_
    intro i7;rintro _ rfl _ rfl _ rfl _ rfl _ rfl _ rfl _ rfl _ rfl _ ⟨iD,iE,rfl,eY⟩ cG;have cH:=eW.ext cG;have dD:=(bJ.ext cG (Ac cG));replace c:=Cu c;obtain⟨eZ,c⟩:=c;refine wE (fun st=>GD (ys:=[a9]) Tryz.underlying35 U1 rfl rfl (by decide) (eR st) rfl (eR st) dD eY.n (by have:=eZ;simp only[maxLen];omega) (by have:=eZ;omega) cH.sz) ?_;rintro _ iU ⟨e0,e1,rfl,bP,dN,gG⟩;have cZ:=cH.row bP 0 rfl dN;have gH:=DJ gG (cH.CA bP 0 rfl (fun k o=>(dN k o).1));refine wD (fun st=>Ad (ee st cB) (Hg _ _)) ?_;have f2:=((cD.ext cG).gr bP (cH.nq 1 0));refine BH rfl rfl (fun st=>Bv (n:=1) (l:=[.slice e0 ((aK++[a9]).length) e1]) (Cv:= #[.slice e0 ((aK++[a9]).length) e1,.slice none 0 0,.slice none 0 0]) (eR st) (eR st) ZF f2 rfl rfl (show 0+1≤3 by decide) (Be rfl) rfl) ?_;rintro _ iV bI;have h3:=cZ.gr bI.gr 1 rfl;refine Bn<|C5<|An<|wM (v:=I a0) c5 ?_;replace c:=AN c;obtain⟨gI,c⟩:=c;refine wD (fun st=>BR (eR st) (eR st) gI)<|wA (v:=I (a0+1)) rfl<|Bn ?_;have e2:=(gH.gr bI.gr (fun k o=>cZ.ne 0 1 rfl (congrArg some o) rfl) (cZ.Bx bI.gr 1 rfl));have f3:=(((bK.ext cG).gr bP (cH.nq 3 0)).gr bI.gr (cZ.nq 3 1));have f4:=(((dB.ext cG).gr bP (cH.nq 2 0)).gr bI.gr (cZ.nq 2 1));have ⟨eF,eG,eH⟩:=Ee bH cE cF (mt (Ac cG) (mt (cH.CA bP 0 rfl (fun k o=>(dN k o).1)) (cZ.Bx bI.gr 1 rfl)));refine Bz cC (Nat.lt_succ_self _) (fun st=>?_);exact⟨(a0+1),(aK++[a9]),e0,e1,c,qo st,sp st 1 cA,sp st 2 d6,sp st 3 cB,sp st 4 rfl,h3,e2,f3,f4,bI.bk,eF,eG,eH⟩
   ·replace c:=Ar c dC;refine Au rfl dC<|Dy ?_;obtain rfl:=oi c;refine BF (fun st=>?_);exact⟨rfl,y,aW,qo st,sp st 1 cA,sp st 2 d6,sp st 3 cB,eW,bJ,bK,dB,cD,bH,cE,cF⟩
 case hQ=>
  rintro dA iK h4 (⟨rfl,a,d,f5,e3,e4,e5,gJ,cI,e6,e7,e8,dO,dP,dQ⟩);refine lf f5<|Bi<|BM<|Af<|cr<|wA (v:=I 0) rfl<|wn<|AL ?_;have gK:=gJ.nil;have gL:Bj (BG (Ah .i64)) 31 w.heap.size h4 (zf Z w [none,ob a,some b3,some b2,some b1]) none 0 ([]:List (List Int)):=Bj.nil _ _ _ _ _;replace c:=bind_some c;obtain⟨a6,bQ,c⟩:=c;refine BX (fun dA m i=>(dA=.exit 2∧∃b g,Fo X0 70 m∧sl m 1=pt b1 0∧sl m 2=pt b2 0∧sl m 3=pt b3 0∧Hp FN [] w [ob b,ob a,some b3,some b2,some b1] i∧(fun aF=>Bj (BG (Ah .i64)) 31 w.heap.size i aF b g a6∧Bj Ay 131 w.heap.size i aF a d z4∧Bk i b1 26 (AR z aA aB aC aD aE r).toArray∧Bk i b2 38 #[.slice none 0 0,.slice none 0 0,.slice none 0 0]∧Bk i b3 38 #[.slice a z4.length d,.slice b a6.length g,.slice none 0 0]∧Sl Ay i aF z aA r.Av∧Sl (BG (Ah .i64)) i aF aB aC r.AW∧Sl AH i aF aD aE r.AO) (zf Z w [ob b,ob a,some b3,some b2,some b1]))) ?gM ?gN
  case gM=>
   clear c;refine BW (fun cC m i=>∃aL,∃aG,∃p aN,C2 cU r cC aL aG=some a6∧Fo X0 70 m∧sl m 1=pt b1 0∧sl m 2=pt b2 0∧sl m 3=pt b3 0∧sl m 5=I aL∧Hp FN [] w [ob p,ob a,some b3,some b2,some b1] i∧(fun aF=>Bj Ay 131 w.heap.size i aF a d z4∧Bj (BG (Ah .i64)) 31 w.heap.size i aF p aN aG∧Bk i b1 26 (AR z aA aB aC aD aE r).toArray∧Bk i b2 38 #[.slice none 0 0,.slice none 0 0,.slice none 0 0]∧Bk i b3 38 #[.slice a z4.length d,.slice p aG.length aN,.slice none 0 0]∧Sl Ay i aF z aA r.Av∧Sl (BG (Ah .i64)) i aF aB aC r.AW∧Sl AH i aF aD aE r.AO) (zf Z w [ob p,ob a,some b3,some b2,some b1])) cU ?gO ?gP
   case gO=>
    intro st;have cJ:=(cI.up Bq);have e9:=e6;have fA:=e7;have fB:=e8;have ⟨dR,dS,dT⟩:=Ee dO dP dQ Bq;exact⟨(0:Int),([]:List (List Int)),none,0,bQ,qo st,sp st 1 e3,sp st 2 e4,sp st 3 e5,sp st 5 rfl,gK,cJ,gL,e9,fA,fB,dR,dS,dT⟩
   case gP=>
    rintro(_|cC) iL iM ⟨aL,aG,p,aN,bQ,f6,bM,dE,bN,cK,c6,a7,bA,bG,c0,bR,bX,bB,bY⟩
    ·exact absurd (show none=some _ from bQ) (by simp)
    rw[C2.eq_2] at bQ;have c:=bQ;clear bQ;refine ro f6<|Af<|cr<|wM (v:=I aL) cK<|wD (fun st=>Ad (ee st bM) (DZ _ _))<|wD (fun st=>Ag (v:=.slice aB r.AW.length aC) Dg (eR st) bG rfl)<|wD (fun st=>Bo Tryz.underlying23 (eR st))<|wD (fun st=>B6 (eR st) (eR st))<|wn ?_;rcases Ae (decide (aL<(r.AW.length:Int))) with cL|cL
    ·replace c:=Aq c cL;refine Ai rfl cL<|cn<|Af<|AL ?_;replace c:=AX c;obtain⟨i18,gD,gQ,gR,gS,c⟩:=c;obtain⟨h5,h6,_,gT,⟨d7,d8,rfl,fC⟩,gU⟩:=Sl.CB bB rfl gR;replace c:=bind_some c;obtain⟨aT,gV,c⟩:=c;refine BZ 9 [Kc (pt b3 1),Kc (.slice p aG.length aN),Kc (pt b1 1),Kc (.slice aB r.AW.length aC),Kc (I aL),Kc (pt h5 (h6+i18)),Kc (.slice d7 gD.length d8),Kv (Fk (Ah .i64)) (zf Z w [ob p,ob a,some b3,some b2,some b1]) aT,Kv (Fk (BG (Ah .i64))) (zf Z w [ob p,ob a,some b3,some b2,some b1]) [aT]] mixed rfl rfl
         (Aa (oD (fun K=>Ad (es ((K.out 3 rfl).trans bN)) (HV _ _)))
         (Aa (oD (fun K=>Ag Dg (es (K.dq 0 33)) (bR.ext K.AV) rfl))
         (Aa (oD (fun K=>Ad (es ((K.out 1 rfl).trans bM)) (DZ _ _)))
         (Aa (oD (fun K=>Ag Dg (es (K.dq 2 35)) (bG.ext K.AV) rfl))
         (Aa (oD (fun K=>AA (es ((K.out 5 rfl).trans cK))))
         (Aa (oD (fun K=>Bp (k:=i18) Tryz.underlying23 EP (es (K.dq 3 36)) gT (es (K.dq 4 37)) gQ gS))
         (Aa (oD (fun K=>Bs CK (es (K.dq 5 38)) (gU.mv (Ac K.AV)) rfl))
         (Aa (oE (fun K=>(Al YP rfl (Cj (es (K.dq 6 39))) (a99 cU gD d7 d8 (zf Z w [ob p,ob a,some b3,some b2,some b1]) _ (fC.mv (Ac K.AV)) aT gV)).mono (fun _ _ h=>⟨(Fk (Ah .i64)).mv h.2 ((c6.ext K.AV).Ed (Nat.le_refl _)),h.1⟩)))
         (Aa (Ij rfl rfl (fun a' w' ph K=>match K.dq 7 40 with|⟨aX,aY,f7,c1⟩=>(BQ (e:=31) (vs:= #[(0,.slice aX aT.length aY)]) (cs:= #[.slice aX aT.length aY]) (HW (es (t:=40) (v:=.slice aX aT.length aY) f7)) (by kernel_rfl)).mono (fun u BD ⟨hZ,hu,bL⟩=>⟨⟨_,_,hu,FZ (xs:=[aT]) (BE:=[[.slice aX aT.length aY]]) bL.bk ((c6.ext K.AV).kn (Nat.le_of_eq bL.E9.symm)) (R2.mv (Ac bL.gr) (show R2 (BG (Ah .i64)) w' (zf Z w [ob p,ob a,some b3,some b2,some b1]) [[.slice aX aT.length aY]] [aT] from⟨⟨_,_,rfl,c1⟩,trivial⟩)) rfl (Nat.le_refl _)⟩,bL.gr⟩)))
         (BY _)))))))))) ?_
     intro iW;rintro _ rfl _ rfl _ rfl _ rfl _ rfl _ rfl _ rfl _ ⟨aX,aY,rfl,c1⟩ _ ⟨h7,h8,rfl,eI⟩ a2;have a3:=c6.ext a2;have cV:=(bA.ext a2 (Ac a2));replace c:=Cu c;obtain⟨fD,c⟩:=c;refine wE (fun st=>GD (ys:=[aT]) Tryz.underlying23 Ng rfl rfl (by decide) (eR st) rfl (eR st) cV eI.n (by have:=fD;simp only[maxLen];omega) (by have:=fD;omega) a3.sz) ?_;rintro _ iX ⟨fE,fF,rfl,bC,c7,gW⟩;have bD:=a3.row bC 0 rfl c7;have gX:=DJ gW (a3.CA bC 0 rfl (fun k o=>(c7 k o).1));refine wD (fun st=>Ad (ee st bN) (HV _ _)) ?_;have fG:=((bR.ext a2).gr bC (a3.nq 2 0));refine BH rfl rfl (fun st=>Bv (n:=1) (l:=[.slice fE ((aG++[aT]).length) fF]) (Cv:= #[.slice a z4.length d,.slice fE ((aG++[aT]).length) fF,.slice none 0 0]) (eR st) (eR st) Vw fG rfl rfl (show 1+1≤3 by decide) (Be rfl) rfl) ?_;rintro _ iY a4;have gY:=bD.gr a4.gr 2 rfl;refine Bn<|C5<|An<|wM (v:=I aL) cK ?_;replace c:=AN c;obtain⟨gZ,c⟩:=c;refine wD (fun st=>BR (eR st) (eR st) gZ)<|wA (v:=I (aL+1)) rfl<|Bn ?_;have cM:=(((a7.ext a2 (Ac a2)).gr bC (fun k o=>a3.ne 1 0 rfl (congrArg some o) rfl) (a3.CA bC 0 rfl (fun k o=>(c7 k o).1))).gr a4.gr (fun k o=>bD.ne 1 2 rfl (congrArg some o) rfl) (bD.Bx a4.gr 2 rfl));have eJ:=(gX.gr a4.gr (fun k o=>bD.ne 0 2 rfl (congrArg some o) rfl) (bD.Bx a4.gr 2 rfl));have fH:=(((bG.ext a2).gr bC (a3.nq 4 0)).gr a4.gr (bD.nq 4 2));have fI:=(((c0.ext a2).gr bC (a3.nq 3 0)).gr a4.gr (bD.nq 3 2));have ⟨dU,dV,dW⟩:=Ee bX bB bY (mt (Ac a2) (mt (a3.CA bC 0 rfl (fun k o=>(c7 k o).1)) (bD.Bx a4.gr 2 rfl)));refine Bz cC (Nat.lt_succ_self _) (fun st=>?_);exact⟨(aL+1),(aG++[aT]),fE,fF,c,qo st,sp st 1 bM,sp st 2 dE,sp st 3 bN,sp st 5 rfl,gY,cM,eJ,fH,fI,a4.bk,dU,dV,dW⟩
    ·replace c:=Ar c cL;refine Au rfl cL<|Dy ?_;obtain rfl:=oi c;refine BF (fun st=>?_);exact⟨rfl,p,aN,qo st,sp st 1 bM,sp st 2 dE,sp st 3 bN,c6,bA,a7,bG,c0,bR,bX,bB,bY⟩
  case gN=>
   rintro dA iF g0 (⟨rfl,b,g,fJ,eK,eM,eN,f8,bS,b4,eO,eP,eQ,dF,dG,dH⟩);refine lf fJ<|Bi<|BM<|Af<|cr<|wA (v:=I 0) rfl<|wn<|AL ?_;have g1:=f8.nil;have g2:Bj AH 133 w.heap.size g0 (zf Z w [none,ob b,ob a,some b3,some b2,some b1]) none 0 ([]:List Cp):=Bj.nil _ _ _ _ _;replace c:=bind_some c;obtain⟨z24,bT,c⟩:=c;refine BX (fun dA m i=>(dA=.exit 4∧∃j s,Fo X0 70 m∧sl m 2=pt b2 0∧sl m 3=pt b3 0∧Hp FN [] w [ob j,ob b,ob a,some b3,some b2,some b1] i∧(fun aF=>Bj (BG (Ah .i64)) 31 w.heap.size i aF b g a6∧Bj AH 133 w.heap.size i aF j s z24∧Bj Ay 131 w.heap.size i aF a d z4∧Bk i b2 38 #[.slice none 0 0,.slice none 0 0,.slice none 0 0]∧Bk i b3 38 #[.slice a z4.length d,.slice b a6.length g,.slice j z24.length s]) (zf Z w [ob j,ob b,ob a,some b3,some b2,some b1]))) ?g3 ?g4
   case g3=>
    clear c;refine BW (fun cC m i=>∃aM,∃aH,∃x aO,C3 cU r cC aM aH=some z24∧Fo X0 70 m∧sl m 1=pt b1 0∧sl m 2=pt b2 0∧sl m 3=pt b3 0∧sl m 6=I aM∧Hp FN [] w [ob x,ob b,ob a,some b3,some b2,some b1] i∧(fun aF=>Bj (BG (Ah .i64)) 31 w.heap.size i aF b g a6∧Bj Ay 131 w.heap.size i aF a d z4∧Bj AH 133 w.heap.size i aF x aO aH∧Bk i b1 26 (AR z aA aB aC aD aE r).toArray∧Bk i b2 38 #[.slice none 0 0,.slice none 0 0,.slice none 0 0]∧Bk i b3 38 #[.slice a z4.length d,.slice b a6.length g,.slice x aH.length aO]∧Sl Ay i aF z aA r.Av∧Sl (BG (Ah .i64)) i aF aB aC r.AW∧Sl AH i aF aD aE r.AO) (zf Z w [ob x,ob b,ob a,some b3,some b2,some b1])) cU ?g5 ?g6
    case g5=>
     intro st;have b5:=(bS.up Bq);have cN:=(b4.up Bq);have fK:=eO;have fL:=eP;have fM:=eQ;have ⟨dX,dY,dZ⟩:=Ee dF dG dH Bq;exact⟨(0:Int),([]:List Cp),none,0,bT,qo st,sp st 1 eK,sp st 2 eM,sp st 3 eN,sp st 6 rfl,g1,b5,cN,g2,fK,fL,fM,dX,dY,dZ⟩
    case g6=>
     rintro(_|cC) iN iO ⟨aM,aH,x,aO,bT,f9,cO,dI,bO,cP,d0,aZ,a8,bE,bU,c2,c3,dJ,dK,bZ⟩
     ·exact absurd (show none=some _ from bT) (by simp)
     rw[C3.eq_2] at bT;have c:=bT;clear bT;refine ro f9<|Af<|cr<|wM (v:=I aM) cP<|wD (fun st=>Ad (ee st cO) (JG _ _))<|wD (fun st=>Ag (v:=.slice aD r.AO.length aE) KA (eR st) bU rfl)<|wD (fun st=>Bo Tryz.underlying24 (eR st))<|wD (fun st=>B6 (eR st) (eR st))<|wn ?_;rcases Ae (decide (aM<(r.AO.length:Int))) with cQ|cQ
     ·replace c:=Aq c cQ;refine Ai rfl cQ<|cn<|Af<|AL<|cr<|wD (fun st=>Ad (ee st cO) (JG _ _))<|wD (fun st=>Ag (v:=.slice aD r.AO.length aE) KA (eR st) bU rfl)<|wM (v:=I aM) cP ?_;replace c:=AX c;obtain⟨i27,f,g7,g8,g9,c⟩:=c;obtain⟨iZ,i0,_,hA,rfl,hB⟩:=Sl.elem bZ (by decide) g8;refine wD (fun st=>Bu (k:=i27) Tryz.underlying24 OA (eR st) hA (eR st) g7 g9)<|wD (fun st=>CD (l:=[.bool f.BP,I f.Number,I f.Bg,I f.Bh]) QS (eR st) hB rfl rfl)<|wE (fun st=>B5 (cs:= #[.bool false,I 0,I 0,I 0]) Sm rfl) ?_;rintro _ i1 ⟨dL,rfl,aJ⟩;have aP:=d0.nb aJ;have h9:=d0.BJ aJ;refine BH rfl rfl (fun st=>Bv (n:=4) (l:=[.bool f.BP,I f.Number,I f.Bg,I f.Bh]) (Cv:= #[.bool f.BP,I f.Number,I f.Bg,I f.Bh]) (eR st) (eR st) OA aJ.bk rfl rfl (show 0+4≤4 by decide) (Be rfl) rfl) ?_;rintro _ i2 aI;have fN:=aP.gr aI.gr 0 rfl;refine wn ?_;have dM:=((c3.ext aJ.gr).gr aI.gr (aP.nq 4 0));replace c:=bind_some c;obtain⟨q,hC,c⟩:=c;refine BZ 11 [Kc (pt b3 2),Kc (.slice x aH.length aO),Kc (pt dL 0),Kc (.bool f.BP),Kc (pt dL 1),Kc (I f.Number),Kc (pt dL 2),Kc (.agg #[I f.Bg,I f.Bh]),Kc (.agg #[I q.Lo,I q.Hi]),Kc (.agg #[.bool f.BP,I f.Number,I q.Lo,I q.Hi]),Kv (Fk AH) (zf Z w [some dL,ob x,ob b,ob a,some b3,some b2,some b1]) [(⟨f.BP,f.Number,q.Lo,q.Hi⟩:Cp)]] mixed rfl rfl
          (Aa (oD (fun K=>Ad (es ((K.out 3 rfl).trans bO)) (LC _ _)))
          (Aa (oD (fun K=>Ag Ov (es (K.dq 0 56)) (dM.ext K.AV) rfl))
          (Aa (oD (fun K=>Ad (K.kO 7) (O5 _ _)))
          (Aa (oD (fun K=>Ag JX (es (K.dq 2 58)) (aI.bk.ext K.AV) rfl))
          (Aa (oD (fun K=>Ad (K.kO 7) (Nh _ _)))
          (Aa (oD (fun K=>Ag Bl (es (K.dq 4 60)) (aI.bk.ext K.AV) rfl))
          (Aa (oD (fun K=>Ad (K.kO 7) (Kg _ _)))
          (Aa (oD (fun K=>Bd (l:=[I f.Bg,I f.Bh]) IH (es (K.dq 6 62)) (aI.bk.ext K.AV) rfl rfl))
          (Aa (oE (fun K=>(Al TR rfl (Cj (es (K.dq 7 63))) (Z0 cU (⟨f.Bg,f.Bh⟩:AP) ZA _ q hC)).mono (fun _ _ h=>⟨(by obtain⟨_,rfl,rfl⟩:=h.2;rfl),h.1⟩)))
          (Aa (oD (fun K=>DI (vs:= #[(0,.bool f.BP),(1,I f.Number),(2,.agg #[I q.Lo,I q.Hi])]) (v:=.agg #[.bool f.BP,I f.Number,I q.Lo,I q.Hi]) (ZR (es (K.dq 3 59)) (es (K.dq 5 61)) (es (K.dq 8 64))) (by kernel_rfl)))
          (Aa (Ij rfl rfl (fun a' w' ph K=>(BQ (e:=133) (vs:= #[(0,.agg #[.bool f.BP,I f.Number,I q.Lo,I q.Hi])]) (cs:= #[.bool f.BP,I f.Number,I q.Lo,I q.Hi]) (HW (es (K.dq 9 65))) (by kernel_rfl)).mono (fun u BD ⟨hZ,hu,bL⟩=>⟨⟨_,_,hu,FZ (xs:=[(⟨f.BP,f.Number,q.Lo,q.Hi⟩:Cp)]) (BE:=[[.bool f.BP,I f.Number,I q.Lo,I q.Hi]]) bL.bk ((fN.ext K.AV).kn (Nat.le_of_eq bL.E9.symm)) (R2.mv (Ac bL.gr) (show R2 AH w' (zf Z w [some dL,ob x,ob b,ob a,some b3,some b2,some b1]) [[.bool f.BP,I f.Number,I q.Lo,I q.Hi]] [(⟨f.BP,f.Number,q.Lo,q.Hi⟩:Cp)] from⟨rfl,trivial⟩)) rfl (Nat.le_refl _)⟩,bL.gr⟩)))
          (BY _)))))))))))) ?_
      intro i3;rintro _ rfl _ rfl _ rfl _ rfl _ rfl _ rfl _ rfl _ rfl _ rfl _ rfl _ ⟨hI,hJ,rfl,d1⟩ aQ;have aR:=fN.ext aQ;have cW:=(((bE.ext aJ.gr (Ax aJ)).gr aI.gr (fun k o=>aP.ne 1 0 rfl (congrArg some o) rfl) (aP.Bx aI.gr 0 rfl)).ext aQ (Ac aQ));replace c:=Cu c;obtain⟨fO,c⟩:=c;refine wE (fun st=>GD (ys:=[(⟨f.BP,f.Number,q.Lo,q.Hi⟩:Cp)]) Tryz.underlying36 U2 rfl rfl (by decide) (eR st) rfl (eR st) cW d1.n (by have:=fO;simp only[maxLen];omega) (by have:=fO;omega) aR.sz) ?_;rintro _ i4 ⟨fP,fQ,rfl,aU,cR,hD⟩;have aV:=aR.row aU 1 rfl cR;have hE:=DJ hD (aR.CA aU 1 rfl (fun k o=>(cR k o).1));refine wD (fun st=>Ad (ee st bO) (LC _ _)) ?_;have fR:=((dM.ext aQ).gr aU (aR.nq 4 1));refine BH rfl rfl (fun st=>Bv (n:=1) (l:=[.slice fP ((aH++[(⟨f.BP,f.Number,q.Lo,q.Hi⟩:Cp)]).length) fQ]) (Cv:= #[.slice a z4.length d,.slice b a6.length g,.slice fP ((aH++[(⟨f.BP,f.Number,q.Lo,q.Hi⟩:Cp)]).length) fQ]) (eR st) (eR st) ZG fR rfl rfl (show 2+1≤3 by decide) (Be rfl) rfl) ?_;rintro _ i5 aS;have hF:=aV.gr aS.gr 4 rfl;refine Bn<|C5<|An<|wM (v:=I aM) cP ?_;replace c:=AN c;obtain⟨hG,c⟩:=c;refine wD (fun st=>BR (eR st) (eR st) hG)<|wA (v:=I (aM+1)) rfl<|Bn ?_;have hH:=hF.erase 0;have b6:=((((((aZ.ext aJ.gr (Ax aJ)).gr aI.gr (fun k o=>aP.ne 2 0 rfl (congrArg some o) rfl) (aP.Bx aI.gr 0 rfl)).ext aQ (Ac aQ)).gr aU (fun k o=>aR.ne 2 1 rfl (congrArg some o) rfl) (aR.CA aU 1 rfl (fun k o=>(cR k o).1))).gr aS.gr (fun k o=>aV.ne 2 4 rfl (congrArg some o) rfl) (aV.Bx aS.gr 4 rfl)).up (AD 0));have cS:=((((((a8.ext aJ.gr (Ax aJ)).gr aI.gr (fun k o=>aP.ne 3 0 rfl (congrArg some o) rfl) (aP.Bx aI.gr 0 rfl)).ext aQ (Ac aQ)).gr aU (fun k o=>aR.ne 3 1 rfl (congrArg some o) rfl) (aR.CA aU 1 rfl (fun k o=>(cR k o).1))).gr aS.gr (fun k o=>aV.ne 3 4 rfl (congrArg some o) rfl) (aV.Bx aS.gr 4 rfl)).up (AD 0));have eS:=((hE.gr aS.gr (fun k o=>aV.ne 1 4 rfl (congrArg some o) rfl) (aV.Bx aS.gr 4 rfl)).up (AD 0));have fS:=(((((bU.ext aJ.gr).gr aI.gr (aP.nq 6 0)).ext aQ).gr aU (aR.nq 6 1)).gr aS.gr (aV.nq 6 4));have fT:=(((((c2.ext aJ.gr).gr aI.gr (aP.nq 5 0)).ext aQ).gr aU (aR.nq 5 1)).gr aS.gr (aV.nq 5 4));have fU:=aS.bk;have ⟨d2,d3,d4⟩:=Ee dJ dK bZ (mt (Ax aJ) (mt (aP.Bx aI.gr 0 rfl) (mt (Ac aQ) (mt (aR.CA aU 1 rfl (fun k o=>(cR k o).1)) (mt (aV.Bx aS.gr 4 rfl) (AD 0))))));refine Bz cC (Nat.lt_succ_self _) (fun st=>?_);exact⟨(aM+1),(aH++[(⟨f.BP,f.Number,q.Lo,q.Hi⟩:Cp)]),fP,fQ,c,qo st,sp st 1 cO,sp st 2 dI,sp st 3 bO,sp st 6 rfl,hH,b6,cS,eS,fS,fT,fU,d2,d3,d4⟩
     ·replace c:=Ar c cQ;refine Au rfl cQ<|Dy ?_;obtain rfl:=oi c;refine BF (fun st=>?_);exact⟨rfl,x,aO,qo st,sp st 2 dI,sp st 3 bO,d0,aZ,bE,a8,c2,c3⟩
   case g4=>
    rintro dA iG iP (⟨rfl,j,s,fV,c4,eT,a5,bV,bW,b7,eU,eV⟩);refine lf fV<|Bi<|BM<|cr<|wD (fun st=>Bd (l:=[.slice a z4.length d,.slice b a6.length g,.slice j z24.length s]) Hs (ee st eT) eV rfl rfl)<|BH rfl rfl (fun st=>Bv (n:=3) (l:=[.slice a z4.length d,.slice b a6.length g,.slice j z24.length s]) (Cv:= #[.slice a z4.length d,.slice b a6.length g,.slice j z24.length s]) (ee st c4) (eR st) Vy eU rfl rfl (show 0+3≤3 by decide) (Be rfl) rfl) ?_;rintro _ i6 bF;have c8:=a5.gr bF.gr 4 rfl;refine wn<|Ak ?_;obtain rfl:=oi c;refine Gt (v:=.agg #[.slice a z4.length d,.slice b a6.length g,.slice j z24.length s]) rfl c4 (Dv Hs bF.bk rfl rfl) ?_;have cT:=(b7.gr bF.gr (fun k o=>a5.ne 2 4 rfl (congrArg some o) rfl) (a5.Bx bF.gr 4 rfl));have b8:=(bV.gr bF.gr (fun k o=>a5.ne 1 4 rfl (congrArg some o) rfl) (a5.Bx bF.gr 4 rfl));have b9:=(bW.gr bF.gr (fun k o=>a5.ne 0 4 rfl (congrArg some o) rfl) (a5.Bx bF.gr 4 rfl));exact⟨c8.Bf,⟨_,rfl,_,_,_,_,_,_,rfl,c8.IZ (M:=[]) 2 rfl [] rfl trivial cT,c8.IZ (M:=[]) 1 rfl [] rfl trivial b8,c8.IZ (M:=[]) 0 rfl [] rfl trivial b9⟩⟩
theorem a23 aP b h i c d j m(Z:Nat→Prop) w(aQ:Sl Ay w Z h i b.Av)(aR:Sl (BG (Ah .i64)) w Z c d b.AW)(aS:Sl AH w Z j m b.AO) a7(a:F7 aP b=some a7):
 BN Tryz.prog 23 #[.agg (AR h i c d j m b).toArray] w (fun v w'=>Ext w w'∧BC.R w' (zf Z w []) v a7):=by
 unfold F7 at a;refine rq (N:=42) Tryz.func23 fun bN ha bO=>?_;have aX:=sA 0 ha;clear ha;have aV:Hp FN [] w [] w:=Hp.start (By.none w);have ⟨aH,s,aI⟩:=Ee aQ aR aS (BB (Z:=Z) (L:=[]) w);refine cr<|wE (fun st=>BL (v:=.agg (AR h i c d j m b).toArray) (cs:=(AR h i c d j m b).toArray) (ee st aX) rfl) ?_;rintro _ w1 ⟨b1,rfl,o⟩;have aB:=aV.nb o;have bK:=aV.BJ o;refine wA (v:=.bool false) rfl<|wn<|Af<|cr<|wD (fun st=>Ad (eR st) (FT _ _))<|wD (fun st=>Ag (v:=.slice h b.Av.length i) GN (eR st) o.bk rfl)<|wD (fun st=>Bo Tryz.underlying22 (eR st))<|wD (fun st=>FY (eR st) (eR st))<|wM (v:=.bool (decide ((5:Int)<(b.Av.length:Int)))) rfl ?_;rcases Ae (decide ((5:Int)<(b.Av.length:Int))) with f|f
 ·replace a:=Aq a f;refine wF f<|wF f<|wF f<|wF f<|wD (fun st=>Bc (v:=.bool true) (eR st) f (eR st))<|wM (v:=.bool true) rfl<|wH<|wH<|wH<|wH<|wD (fun st=>Bc (v:=.bool true) (eR st) rfl (eR st))<|wn<|Ai rfl rfl<|cr<|wA (v:=.bool false) rfl<|wn<|Ak<|AI ?_;obtain rfl:=oi a;refine Aw rfl rfl ?_;exact⟨aB.Bf,rfl⟩
 ·replace a:=Ar a f;refine wG f (fun st=>Ad (eR st) (DZ _ _))<|wG f (fun st=>Ag (v:=.slice c b.AW.length d) Dg (eR st) o.bk rfl)<|wG f (fun st=>Bo Tryz.underlying23 (eR st))<|wG f (fun st=>FY (eR st) (eR st))<|wD (fun st=>Bt (v:=.bool (decide ((5:Int)<(b.AW.length:Int)))) (eR st) f (eR st))<|wM (v:=.bool (decide ((5:Int)<(b.AW.length:Int)))) rfl ?_;rcases Ae (decide ((5:Int)<(b.AW.length:Int))) with g|g
  ·replace a:=Aq a g;refine wF g<|wF g<|wF g<|wF g<|wD (fun st=>Bc (v:=.bool true) (eR st) g (eR st))<|wn<|Ai rfl rfl<|cr<|wA (v:=.bool false) rfl<|wn<|Ak<|AI ?_;obtain rfl:=oi a;refine Aw rfl rfl ?_;exact⟨aB.Bf,rfl⟩
  ·replace a:=Ar a g;refine wG g (fun st=>Ad (eR st) (JG _ _))<|wG g (fun st=>Ag (v:=.slice j b.AO.length m) KA (eR st) o.bk rfl)<|wG g (fun st=>Bo Tryz.underlying24 (eR st))<|wG g (fun st=>FY (eR st) (eR st))<|wD (fun st=>Bt (v:=.bool (decide ((7:Int)<(b.AO.length:Int)))) (eR st) g (eR st))<|wn ?_;rcases Ae (decide ((7:Int)<(b.AO.length:Int))) with aC|aC
   ·replace a:=Aq a aC;refine Ai rfl aC<|cr<|wA (v:=.bool false) rfl<|wn<|Ak<|AI ?_;obtain rfl:=oi a;refine Aw rfl rfl ?_;exact⟨aB.Bf,rfl⟩
   ·replace a:=Ar a aC;refine Au rfl aC<|cn<|Af<|cr<|wA (v:=I 0) rfl<|wn<|AL ?_;replace a:=bind_some a;obtain⟨z5,t,a⟩:=a;refine BX (fun aY q aT=>(aY=.ret∧∃u,z5=.inl u∧Fo X0 42 q∧sl q 2=.bool u∧w1=aT)∨(aY=.exit 0∧∃u,z5=.inr u∧Fo X0 42 q∧sl q 1=pt b1 0∧w1=aT)) ?a8 ?a9
    case a8=>
     clear a;refine BW (fun aZ q aT=>∃n,Dp b aZ n=some z5∧Fo X0 42 q∧sl q 1=pt b1 0∧sl q 3=I n∧w1=aT) aP ?bA ?bB
     case bA=>
      intro st;exact⟨(0:Int),t,qo st,sp st 1 rfl,sp st 3 rfl,rfl⟩
     case bB=>
      rintro(_|aZ) bP _ ⟨n,t,a0,r,z,rfl⟩
      ·exact absurd (show none=some _ from t) (by simp)
      rw[Dp.eq_2] at t;have a:=t;clear t;refine ro a0<|Af<|cr<|wM (v:=I n) z<|wD (fun st=>Ad (ee st r) (DZ _ _))<|wD (fun st=>Ag (v:=.slice c b.AW.length d) Dg (eR st) o.bk rfl)<|wD (fun st=>Bo Tryz.underlying23 (eR st))<|wD (fun st=>B6 (eR st) (eR st))<|wn ?_;rcases Ae (decide (n<(b.AW.length:Int))) with aD|aD
      ·replace a:=Aq a aD;refine Ai rfl aD<|cn<|Af<|AL<|cr<|wD (fun st=>Ad (ee st r) (DZ _ _))<|wD (fun st=>Ag (v:=.slice c b.AW.length d) Dg (eR st) o.bk rfl)<|wM (v:=I n) z ?_;replace a:=AX a;obtain⟨i7,bC,bD,bE,bF,a⟩:=a;have p:=(s.mv (Ax o));obtain⟨bS,bT,_,bG,⟨a2,a3,rfl,bL⟩,bH⟩:=Sl.CB p rfl bE;refine wD (fun st=>Bp (k:=i7) Tryz.underlying23 EP (eR st) bG (eR st) bD bF)<|wD (fun st=>Bs (v:=.slice a2 bC.length a3) CK (eR st) bH rfl)<|wD (fun st=>Bo Tryz.underlying31 (eR st))<|wD (fun st=>FY (eR st) (eR st))<|wn ?_;rcases Ae (decide ((6:Int)<(bC.length:Int))) with aE|aE
       ·replace a:=Aq a aE;refine Ai rfl aE<|cr<|wA (v:=.bool false) rfl<|wn<|Ak<|CH<|AI ?_;obtain rfl:=oi a;refine BF (fun st=>?_);exact .inl ⟨rfl,false,rfl,qo st,sp st 2 rfl,rfl⟩
       ·replace a:=Ar a aE;refine Au rfl aE<|Cm<|C5<|An<|wM (v:=I n) z ?_;replace a:=AN a;obtain⟨bI,a⟩:=a;refine wD (fun st=>BR (eR st) (eR st) bI)<|wA (v:=I (n+1)) rfl<|Bn ?_;refine Bz aZ (Nat.lt_succ_self _) (fun st=>?_);exact⟨(n+1),a,qo st,sp st 1 r,sp st 3 rfl,rfl⟩
      ·replace a:=Ar a aD;refine Au rfl aD<|Dy ?_;obtain rfl:=oi a;refine BF (fun st=>?_);exact .inr ⟨rfl,(),rfl,qo st,sp st 1 r,rfl⟩
    case a9=>
     rintro aY bM _ (⟨rfl,u,rfl,aA,aM,rfl⟩|⟨rfl,u,rfl,aA,aF,rfl⟩)
     ·skip
      replace a:=CU a;refine lf aA<|CH ?_;obtain rfl:=oi a;refine Aw rfl aM ?_;exact⟨aB.Bf,rfl⟩
     ·skip
      replace a:=CV a;refine lf aA<|Bi<|BM<|cr<|wD (fun st=>Bd (l:=(AR h i c d j m b)) Hu (ee st aF) o.bk rfl rfl) ?_;have ⟨x,p,y⟩:=Ee aH s aI (Ax o);replace a:=bind_some a;obtain⟨aN,a4,a⟩:=a;refine wE (fun st=>Al TQ (eR st) (Cj (eR st)) (a24 aP b h i c d j m ZA _ x.all p.all y.all aN a4)) ?_;rintro _ bQ ⟨aG,rfl⟩;have aW:=aB.ext aG;refine wD (fun st=>DU (eR st) (eR st))<|wM (v:=.bool (aN !=0)) rfl ?_;rcases Ae (aN !=0) with e|e
      ·replace a:=Aq a e;refine wF e<|wF e<|wF e<|wD (fun st=>Bc (v:=.bool true) (eR st) e (eR st))<|wA (v:=.bool true) rfl<|wn<|Ak ?_;obtain rfl:=oi a;refine Aw rfl rfl ?_;exact⟨aW.Bf,rfl⟩
      ·replace a:=Ar a e;have aU:=(o.bk.ext aG);refine wG e (fun st=>Bd (l:=(AR h i c d j m b)) Hu (ee st aF) aU rfl rfl) ?_;have ⟨aJ,aK,aL⟩:=Ee x p y (Ac aG);replace a:=bind_some a;obtain⟨aO,a5,a⟩:=a;refine wX e (fun st=>Al QT (eR st) (Cj (eR st)) (a59 aP b h i c d j m ZA _ aJ.all aK.all aL.all aO a5)) ?_;rintro _ bR ⟨a6,rfl⟩;have bJ:=aW.ext a6;refine wG e (fun st=>Hv (eR st) (eR st))<|wD (fun st=>Bt (v:=.bool (decide (aO≤150))) (eR st) e (eR st))<|wA (v:=.bool (decide (aO≤150))) rfl<|wn<|Ak ?_;obtain rfl:=oi a;refine Aw rfl rfl ?_;exact⟨bJ.Bf,rfl⟩
theorem a51 u c a b(Z:Nat→Prop) w(h:Sl (Ah .i64) w Z a b c) p(d:F8 u c=some p):
 BN Tryz.prog 51 #[.slice a c.length b] w (fun v w'=>Ext w w'∧(Fk (Ah .i64)).R w' (zf Z w []) v p):=by
 unfold F8 at d;refine rq (N:=5) Tryz.func51 fun aA ha aB=>?_;have o:=sA 0 ha;clear ha;have q:Hp FN [] w [] w:=Hp.start (By.none w);have e:=h.mv (BB (Z:=Z) (L:=[]) w);refine cr<|wA (v:=.slice none 0 0) rfl<|wr<|wM (v:=.slice a c.length b) o ?_;have g:=q.nil;have r:Bj (Ah .i64) 3 w.heap.size w (zf Z w [none]) none 0 ([]:List Int):=Bj.nil _ _ _ _ _;replace d:=Cu d;obtain⟨i,d⟩:=d;have f:=(e.mv Bq);refine wE (fun st=>GD (ys:=c) Tryz.underlying31 Ht rfl rfl (by decide) (eR st) rfl (eR st) r f.n (by have:=i;simp only[maxLen];omega) (by have:=i;omega) g.sz) ?_;rintro _ aC ⟨x,y,rfl,j,l,s⟩;have m:=g.row j 0 rfl l;have t:=DJ s (g.CA j 0 rfl (fun k z=>(l k z).1));refine wA (v:=.slice x ((([]:List Int)++c).length) y) rfl<|wn<|Ak ?_;obtain rfl:=oi d;refine Aw rfl rfl ?_;exact⟨m.Bf,⟨_,_,rfl,m.IZ (M:=[]) 0 rfl [] rfl trivial t⟩⟩
theorem a66 q a(Z:Nat→Prop) w i(j:IA q a=some i):
 BN Tryz.prog 66 #[.agg #[I a.Lo,I a.Hi]] w (fun v w'=>Ext w w'∧(Ds Ay).R w' (zf Z w []) v i):=by
 unfold IA at j;refine rq (N:=8) Tryz.func66 fun r ha s=>?_;have h:=sA 0 ha;clear ha;have e:Hp FN [] w [] w:=Hp.start (By.none w);refine cr<|wE (fun st=>BL (v:=.agg #[I a.Lo,I a.Hi]) (cs:= #[I a.Lo,I a.Hi]) (ee st h) rfl) ?_;rintro _ w1 ⟨b1,rfl,d⟩;have f:=e.nb d;have o:=e.BJ d;refine wE (fun st=>B5 (cs:= #[I 0,I 0]) JE rfl) ?_;rintro _ w2 ⟨b2,rfl,b⟩;have k:=f.nb b;have p:=f.BJ b;refine wr<|wD (fun st=>Ad (eR st) (Kf _ _)) ?_;have c:=(d.bk.ext b.gr);refine wD (fun st=>Ag (v:=I a.Lo) Bl (eR st) c rfl)<|wD (fun st=>Ad (eR st) (KT _ _))<|wD (fun st=>Ag (v:=I a.Hi) Bl (eR st) c rfl)<|wD (fun st=>DI (vs:= #[(0,I a.Lo),(1,I a.Hi)]) (v:=.agg #[I a.Lo,I a.Hi]) (He (eR st) (eR st)) (by kernel_rfl))<|BH rfl rfl (fun st=>Bv (n:=2) (l:=[I a.Lo,I a.Hi]) (Cv:= #[I a.Lo,I a.Hi]) (eR st) (eR st) HN b.bk rfl rfl (show 0+2≤2 by decide) (Be rfl) rfl) ?_;rintro _ t g;have m:=k.gr g.gr 0 rfl;refine wn<|Ak ?_;obtain rfl:=oi j;refine Gt (v:=.agg #[I a.Lo,I a.Hi]) rfl rfl (Dv Gr g.bk rfl rfl) ?_;exact⟨m.Bf,⟨_,rfl,rfl⟩⟩
set_option maxHeartbeats 4000000 in
theorem Sr gB r aP aQ aR aS aT aU a0 a2 a3 a4 a5 a6(Z:Nat→Prop) w(jK:Sl Ay w Z aP aQ r.Aj)(jL:Sl (BG (Ah .i64)) w Z aR aS r.Ab)(jM:Sl AH w Z aT aU r.As)(jN:Sl AY w Z a0 a2 r.Az)(jO:Sl Ba w Z a3 a4 r.AE)(jP:Sl Bm w Z a5 a6 r.AK) l6(q:DC gB r=some l6):
 BN Tryz.prog 38 #[.agg (AB aP aQ aR aS aT aU a0 a2 a3 a4 a5 a6 r).toArray] w (fun v w'=>Ext w w'∧(Ds OH).R w' (zf Z w []) v l6):=by
 unfold DC at q;refine rq (N:=90) Tryz.func38 fun mW ha mX=>?_;have kB:=sA 0 ha;clear ha;have jX:Hp FN [] w [] w:=Hp.start (By.none w);have ⟨eO,eP,eQ,hV,hW,hX⟩:=CF jK jL jM jN jO jP (BB (Z:=Z) (L:=[]) w);refine cr<|wE (fun st=>BL (v:=.agg (AB aP aQ aR aS aT aU a0 a2 a3 a4 a5 a6 r).toArray) (cs:=(AB aP aQ aR aS aT aU a0 a2 a3 a4 a5 a6 r).toArray) (ee st kB) rfl) ?_;rintro _ w1 ⟨b1,rfl,eS⟩;have jY:=jX.nb eS;have mK:=jX.BJ eS;refine wE (fun st=>B5 (cs:= #[.slice none 0 0,.slice none 0 0,.slice none 0 0,I 0,.slice none 0 0,.slice none 0 0,.slice none 0 0]) O7 rfl) ?_;rintro _ w2 ⟨b2,rfl,d1⟩;have l7:=jY.nb d1;have mL:=jY.BJ d1;refine wn<|Af ?_;have l8:=l7.nil;have hN:=(eS.bk.ext d1.gr);have ⟨hY,hZ,h3⟩:=Ee eO eP eQ (mt (Ax eS) (mt (Ax d1) Bq));replace q:=bind_some q;obtain⟨x,l9,q⟩:=q;obtain⟨mO,bF⟩:∃m9:(Nat→Bool)→(Nat→Value)→World→Prop,m9=(fun D V p=>∃(aK:Option Nat) (m:Nat) (b:Option Addr) (c:Nat) (d:Option Addr) (f:Nat) (g:Option Addr) (i:Nat),Hp FN [] w [aK,some b2,some b1] p∧Ext w2 p∧(∀h4,Mv w2 (ZZ FN [] h4 w.heap.size [none,some b2,some b1]) p (ZZ FN [] h4 w.heap.size [aK,some b2,some b1]))∧(∀eF,aK=some eF→w2.heap.size≤eF)∧(D 6=false→aK=none)∧(D 0=true→V 0=pt b1 0)∧(D 1=true→V 1=.agg #[.slice aP r.Aj.length aQ,.slice aR r.Ab.length aS,.slice aT r.As.length aU])∧(D 2=true→V 2=.agg (AR b c d f g i x).toArray∧Sl Ay p (zf Z w [aK,some b2,some b1]) b c x.Av∧Sl (BG (Ah .i64)) p (zf Z w [aK,some b2,some b1]) d f x.AW∧Sl AH p (zf Z w [aK,some b2,some b1]) g i x.AO)∧(D 3=true→V 3=pt b1 3)∧(D 4=true→V 4=I r.Flat)∧(D 5=true→V 5=.agg #[.slice b x.Av.length c,.slice d x.AW.length f,.slice g x.AO.length i,I r.Flat,.slice none 0 0,.slice none 0 0,.slice none 0 0])∧(D 6=true→Bk p m 53 #[.slice none 0 0,.slice none 0 0,.slice none 0 0,I 0,.slice none 0 0,.slice none 0 0,.slice none 0 0])∧(D 6=true→V 6=pt m 0∧aK=some m∧w.heap.size≤m)):=⟨_,rfl⟩;refine Jc 7 mO mixed rfl rfl (by rw[bF];exact⟨none,0,none,0,none,0,none,0,(l8.ext (CT _)),CT _,fun _=>Ac (CT _),fun _ bC=>(by cases bC),fun _=>rfl,fun bC=>absurd (show false=true from bC) (by decide),fun bC=>absurd (show false=true from bC) (by decide),fun bC=>absurd (show false=true from bC) (by decide),fun bC=>absurd (show false=true from bC) (by decide),fun bC=>absurd (show false=true from bC) (by decide),fun bC=>absurd (show false=true from bC) (by decide),fun bC=>absurd (show false=true from bC) (by decide),fun bC=>absurd (show false=true from bC) (by decide)⟩)
     ⟨sj (k:=0) rfl (fun D V a' w' K y=>by
          rw[bF] at y;refine X4 y fun aK m b c y=>X4 y fun d f g i y=>Y8 y fun a8 bH bI aB aC _ aV aI y=>Y4 y fun aW aX a9 aL y=>?_;have aY:=y;exact(Ad (es ((K.out 1 rfl).trans rfl)) (FV _ _)).mono fun v BD ⟨c1,c2⟩=>by subst c1;subst c2;rw[bF];exact⟨aK,m,b,c,d,f,g,i,a8,bH,bI,aB,aC,fun _=>rfl,aV,aI,aW,aX,a9,aL,aY⟩),
      sj (k:=1) rfl (fun D V a' w' K y=>by
          rw[bF] at y;refine X4 y fun aK m b c y=>X4 y fun d f g i y=>Y8 y fun a8 bH bI aB aC aZ _ aI y=>Y4 y fun aW aX a9 aL y=>?_;have aY:=y;have hO:=aZ (K.dn 0 rfl);exact(Bd (l:=[.slice aP r.Aj.length aQ,.slice aR r.Ab.length aS,.slice aT r.As.length aU]) Hu (es (t:=7) (v:=pt b1 0) ((K.dq 0 7).trans hO)) (hN.ext bH) rfl rfl).mono fun v BD ⟨c1,c2⟩=>by subst c1;subst c2;rw[bF];exact⟨aK,m,b,c,d,f,g,i,a8,bH,bI,aB,aC,aZ,fun _=>rfl,aI,aW,aX,a9,aL,aY⟩),
      sj (k:=2) rfl (fun D V a' w' K y=>by
          rw[bF] at y;refine X4 y fun aK m b c y=>X4 y fun d f g i y=>Y8 y fun a8 bH bI aB aC aZ aV _ y=>Y4 y fun aW aX _ aL y=>?_;have aY:=y;have hP:=aV (K.dn 1 rfl);refine(Al YQ rfl (Cj (es (t:=8) (v:=.agg #[.slice aP r.Aj.length aQ,.slice aR r.Ab.length aS,.slice aT r.As.length aU]) ((K.dq 1 8).trans hP))) (a27 gB (⟨r.Aj,r.Ab,r.As⟩:AZ) aP aQ aR aS aT aU _ _ (hY.mv (bI _)) (hZ.mv (bI _)) (h3.mv (bI _)) x l9)).mono ?_;rintro v BD ⟨e1,⟨_,rfl,⟨b,c,d,f,g,i,rfl,cM,cN,cO⟩⟩⟩;rw[bF];exact⟨aK,m,b,c,d,f,g,i,(a8.ext e1),(Ext.trans bH e1),(fun h4=>(bI h4).trans (Ac e1)),aB,aC,aZ,aV,fun _=>⟨rfl,cM.mv (a8.Ed (Nat.le_refl _)),cN.mv (a8.Ed (Nat.le_refl _)),cO.mv (a8.Ed (Nat.le_refl _))⟩,aW,aX,fun bC=>(MG K.me (K.down 5 _ rfl bC 2 rfl)).elim,fun bC=>((aL bC).ext e1),aY⟩),
      sj (k:=3) rfl (fun D V a' w' K y=>by
          rw[bF] at y;refine X4 y fun aK m b c y=>X4 y fun d f g i y=>Y8 y fun a8 bH bI aB aC aZ aV aI y=>Y4 y fun _ aX a9 aL y=>?_;have aY:=y;exact(Ad (es ((K.out 1 rfl).trans rfl)) (Sp _ _)).mono fun v BD ⟨c1,c2⟩=>by subst c1;subst c2;rw[bF];exact⟨aK,m,b,c,d,f,g,i,a8,bH,bI,aB,aC,aZ,aV,aI,fun _=>rfl,aX,a9,aL,aY⟩),
      sj (k:=4) rfl (fun D V a' w' K y=>by
          rw[bF] at y;refine X4 y fun aK m b c y=>X4 y fun d f g i y=>Y8 y fun a8 bH bI aB aC aZ aV aI y=>Y4 y fun aW _ a9 aL y=>?_;have aY:=y;have hQ:=aW (K.dn 3 rfl);exact(Ag (v:=I r.Flat) Bl (es (t:=10) (v:=pt b1 3) ((K.dq 3 10).trans hQ)) (hN.ext bH) rfl).mono fun v BD ⟨c1,c2⟩=>by subst c1;subst c2;rw[bF];exact⟨aK,m,b,c,d,f,g,i,a8,bH,bI,aB,aC,aZ,aV,aI,aW,fun _=>rfl,a9,aL,aY⟩),
      sj (k:=5) rfl (fun D V a' w' K y=>by
          rw[bF] at y;refine X4 y fun aK m b c y=>X4 y fun d f g i y=>Y8 y fun a8 bH bI aB aC aZ aV aI y=>Y4 y fun aW aX _ aL y=>?_;have aY:=y;obtain⟨hR,cM,cN,cO⟩:=aI (K.dn 2 rfl);have hS:=aX (K.dn 4 rfl);exact(DI (vs:= #[(0,.agg (AR b c d f g i x).toArray),(1,I r.Flat)]) (v:=.agg #[.slice b x.Av.length c,.slice d x.AW.length f,.slice g x.AO.length i,I r.Flat,.slice none 0 0,.slice none 0 0,.slice none 0 0]) (He (es (t:=9) (v:=.agg (AR b c d f g i x).toArray) ((K.dq 2 9).trans hR)) (es (t:=11) (v:=I r.Flat) ((K.dq 4 11).trans hS))) (by kernel_rfl)).mono fun v BD ⟨c1,c2⟩=>by subst c1;subst c2;rw[bF];exact⟨aK,m,b,c,d,f,g,i,a8,bH,bI,aB,aC,aZ,aV,aI,aW,aX,fun _=>rfl,aL,aY⟩),
      sj (k:=6) rfl (fun D V a' w' K y=>by
          rw[bF] at y;refine X4 y fun _ _ b c y=>X4 y fun d f g i y=>Y8 y fun a8 bH bI aB aC aZ aV aI y=>Y4 y fun aW aX a9 _ y=>?_;have aY:=y;have kC:=aC K.me;subst kC;refine(B5 (cs:= #[.slice none 0 0,.slice none 0 0,.slice none 0 0,I 0,.slice none 0 0,.slice none 0 0,.slice none 0 0]) O7 rfl).mono ?_;rintro v BD ⟨iP,rfl,e2⟩;have eT:=K2 e2;have h5:=e2.gr;rw[bF];exact⟨(some iP),iP,b,c,d,f,g,i,(a8.row h5 0 rfl eT),(Ext.trans bH h5),(fun h4=>(bI h4).trans (a8.CA h5 0 rfl (fun eF d2=>(eT eF d2).1))),(Hx aB bH.size eT),fun bC=>absurd (show true=false from bC) (by decide),aZ,aV,fun bC=>⟨(aI bC).1,((aI bC).2.1.mv (a8.CA h5 0 rfl (fun eF d2=>(eT eF d2).1))),((aI bC).2.2.1.mv (a8.CA h5 0 rfl (fun eF d2=>(eT eF d2).1))),((aI bC).2.2.2.mv (a8.CA h5 0 rfl (fun eF d2=>(eT eF d2).1)))⟩,aW,aX,a9,fun _=>e2.bk,fun _=>⟨rfl,rfl,Nat.le_trans a8.sz (Nat.le_of_eq e2.E9.symm)⟩⟩),trivial⟩ ?_
 intro nA nB nC Gs bJ;rw[bF] at bJ;clear bF;refine X4 bJ fun aK m b c bJ=>X4 bJ fun d f g i bJ=>Y8 bJ fun d3 iQ kD aB aC aZ aV aI bJ=>Y4 bJ fun aW aX a9 aL bJ=>?_;have aY:=bJ;clear bJ;have hO:=aZ (Gs 0 (by decide));have hP:=aV (Gs 1 (by decide));obtain⟨hR,cM,cN,cO⟩:=aI (Gs 2 (by decide));have hQ:=aW (Gs 3 (by decide));have hS:=aX (Gs 4 (by decide));have jQ:=a9 (Gs 5 (by decide));obtain⟨hT,iR,l1⟩:=aY (Gs 6 (by decide));subst iR;have iS:=aL (Gs 6 (by decide));refine BH rfl rfl (fun st=>Bv (n:=7) (l:=[.slice b x.Av.length c,.slice d x.AW.length f,.slice g x.AO.length i,I r.Flat,.slice none 0 0,.slice none 0 0,.slice none 0 0]) (Cv:= #[.slice b x.Av.length c,.slice d x.AW.length f,.slice g x.AO.length i,I r.Flat,.slice none 0 0,.slice none 0 0,.slice none 0 0]) (ee st hT) (ee st jQ) SV iS rfl rfl (show 0+7≤7 by decide) (Be rfl) rfl) ?_;rintro _ mP eU;have mA:=d3.gr eU.gr 0 rfl;refine wn<|Af<|cr<|wA (v:=I 0) rfl<|wn<|AL ?_;have mB:=mA.nil;have mC:Bj AY 48 w.heap.size mP (zf Z w [none,some m,some b2,some b1]) none 0 ([]:List BI):=Bj.nil _ _ _ _ _;replace q:=bind_some q;obtain⟨cD,eV,q⟩:=q;refine BX (fun fQ aF p=>(fQ=.exit 0∧∃a o,Fo X0 90 aF∧sl aF 1=pt b1 0∧sl aF 2=pt b2 0∧sl aF 3=pt m 0∧Hp FN [] w [ob a,some m,some b2,some b1] p∧(fun z=>Bj AY 48 w.heap.size p z a o cD∧Bk p b1 67 (AB aP aQ aR aS aT aU a0 a2 a3 a4 a5 a6 r).toArray∧Bk p b2 53 #[.slice none 0 0,.slice none 0 0,.slice none 0 0,I 0,.slice none 0 0,.slice none 0 0,.slice none 0 0]∧Bk p m 53 #[.slice b x.Av.length c,.slice d x.AW.length f,.slice g x.AO.length i,I r.Flat,.slice a cD.length o,.slice none 0 0,.slice none 0 0]∧Sl Ay p z aP aQ r.Aj∧Sl (BG (Ah .i64)) p z aR aS r.Ab∧Sl AH p z aT aU r.As∧Sl AY p z a0 a2 r.Az∧Sl Ba p z a3 a4 r.AE∧Sl Bm p z a5 a6 r.AK∧Sl Ay p z b c x.Av∧Sl (BG (Ah .i64)) p z d f x.AW∧Sl AH p z g i x.AO) (zf Z w [ob a,some m,some b2,some b1]))) ?mD ?mE
 case mD=>
  clear q;refine BW (fun d4 aF p=>∃bX,∃a7,∃aJ bG,Dd r d4 bX a7=some cD∧Fo X0 90 aF∧sl aF 1=pt b1 0∧sl aF 2=pt b2 0∧sl aF 3=pt m 0∧sl aF 4=I bX∧Hp FN [] w [ob aJ,some m,some b2,some b1] p∧(fun z=>Bj AY 48 w.heap.size p z aJ bG a7∧Bk p b1 67 (AB aP aQ aR aS aT aU a0 a2 a3 a4 a5 a6 r).toArray∧Bk p b2 53 #[.slice none 0 0,.slice none 0 0,.slice none 0 0,I 0,.slice none 0 0,.slice none 0 0,.slice none 0 0]∧Bk p m 53 #[.slice b x.Av.length c,.slice d x.AW.length f,.slice g x.AO.length i,I r.Flat,.slice aJ a7.length bG,.slice none 0 0,.slice none 0 0]∧Sl Ay p z aP aQ r.Aj∧Sl (BG (Ah .i64)) p z aR aS r.Ab∧Sl AH p z aT aU r.As∧Sl AY p z a0 a2 r.Az∧Sl Ba p z a3 a4 r.AE∧Sl Bm p z a5 a6 r.AK∧Sl Ay p z b c x.Av∧Sl (BG (Ah .i64)) p z d f x.AW∧Sl AH p z g i x.AO) (zf Z w [ob aJ,some m,some b2,some b1])) gB ?mF ?mG
  case mF=>
   intro st;have jR:=(((eS.bk.ext d1.gr).ext iQ).gr eU.gr (d3.nq 2 0));have jS:=((d1.bk.ext iQ).gr eU.gr (d3.nq 1 0));have h6:=eU.bk;have ⟨h7,h8,h9,iA,iB,iC⟩:=CF eO eP eQ hV hW hX (mt (Ax eS) (mt (Ax d1) (mt Bq (mt (kD _) (mt (d3.Bx eU.gr 0 rfl) Bq)))));have ⟨fR,fS,fT⟩:=Ee cM cN cO (mt (d3.Bx eU.gr 0 rfl) Bq);exact⟨(0:Int),([]:List BI),none,0,eV,qo st,sp st 1 rfl,sp st 2 rfl,sp st 3 hT,sp st 4 rfl,mB,mC,jR,jS,h6,h7,h8,h9,iA,iB,iC,fR,fS,fT⟩
  case mG=>
   rintro(_|d4) mY mZ ⟨bX,a7,aJ,bG,eV,kE,c3,hU,dZ,d0,iT,cE,cF,fU,cW,d5,d6,d7,b7,d8,d9,c4,c5,c6⟩
   ·exact absurd (show none=some _ from eV) (by simp)
   rw[Dd.eq_2] at eV;have q:=eV;clear eV;refine ro kE<|Af<|cr<|wM (v:=I bX) d0<|wD (fun st=>Ad (ee st c3) (FW _ _))<|wD (fun st=>Ag (v:=.slice a0 r.Az.length a2) GO (eR st) cF rfl)<|wD (fun st=>Bo Tryz.underlying63 (eR st))<|wD (fun st=>B6 (eR st) (eR st))<|wn ?_;rcases Ae (decide (bX<(r.Az.length:Int))) with fV|fV
   ·replace q:=Aq q fV;refine Ai rfl fV<|cn<|Af<|AL ?_;replace q:=AX q;obtain⟨i10,bK,kF,kG,kH,q⟩:=q;obtain⟨jZ,j0,_,kI,rfl,kJ⟩:=Sl.elem b7 (by decide) kG;replace q:=AX q;obtain⟨i11,bL,kK,kL,kM,q⟩:=q;obtain⟨j1,j2,_,kN,rfl,kP⟩:=Sl.elem b7 (by decide) kL;refine BZ 16 [Kc (pt m 4),Kc (.slice aJ a7.length bG),Kc (pt b1 4),Kc (.slice a0 r.Az.length a2),Kc (I bX),Kc (pt jZ (j0+i10*2)),Kc (pt jZ (j0+i10*2)),Kc (I bK.AT),Kc (pt b1 4),Kc (.slice a0 r.Az.length a2),Kc (I bX),Kc (pt j1 (j2+i11*2)),Kc (pt j1 (j2+i11*2+1)),Kc (I bL.BT),Kc (.agg #[I bK.AT,I bL.BT]),Kv (Fk AY) (zf Z w [ob aJ,some m,some b2,some b1]) [(⟨bK.AT,bL.BT⟩:BI)]] mixed rfl rfl
        (Aa (oD (fun K=>Ad (es ((K.out 3 rfl).trans dZ)) (KR _ _)))
        (Aa (oD (fun K=>Ag K6 (es (K.dq 0 20)) (cW.ext K.AV) rfl))
        (Aa (oD (fun K=>Ad (es ((K.out 1 rfl).trans c3)) (FW _ _)))
        (Aa (oD (fun K=>Ag GO (es (K.dq 2 22)) (cF.ext K.AV) rfl))
        (Aa (oD (fun K=>AA (es ((K.out 4 rfl).trans d0))))
        (Aa (oD (fun K=>Bu (k:=i10) Tryz.underlying63 I9 (es (K.dq 3 23)) kI (es (K.dq 4 24)) kF kH))
        (Aa (oD (fun K=>Ad (es (K.dq 5 25)) (Kh _ _ _)))
        (Aa (oD (fun K=>Bs Bl (es (K.dq 6 26)) (kJ.mv (Ac K.AV)) rfl))
        (Aa (oD (fun K=>Ad (es ((K.out 1 rfl).trans c3)) (FW _ _)))
        (Aa (oD (fun K=>Ag GO (es (K.dq 8 28)) (cF.ext K.AV) rfl))
        (Aa (oD (fun K=>AA (es ((K.out 4 rfl).trans d0))))
        (Aa (oD (fun K=>Bu (k:=i11) Tryz.underlying63 I9 (es (K.dq 9 29)) kN (es (K.dq 10 30)) kK kM))
        (Aa (oD (fun K=>Ad (es (K.dq 11 31)) (NS _ _ _)))
        (Aa (oD (fun K=>DD Bl (es (K.dq 12 32)) (kP.mv (Ac K.AV)) rfl))
        (Aa (oD (fun K=>DI (vs:= #[(0,I bK.AT),(1,I bL.BT)]) (v:=.agg #[I bK.AT,I bL.BT]) (He (es (K.dq 7 27)) (es (K.dq 13 33))) (by kernel_rfl)))
        (Aa (Ij rfl rfl (fun a' w' ph K=>(BQ (e:=48) (vs:= #[(0,.agg #[I bK.AT,I bL.BT])]) (cs:= #[I bK.AT,I bL.BT]) (HW (es (K.dq 14 34))) (by kernel_rfl)).mono (fun u BD ⟨iP,hu,c7⟩=>⟨⟨_,_,hu,FZ (xs:=[(⟨bK.AT,bL.BT⟩:BI)]) (BE:=[[I bK.AT,I bL.BT]]) c7.bk ((iT.ext K.AV).kn (Nat.le_of_eq c7.E9.symm)) (R2.mv (Ac c7.gr) (show R2 AY w' (zf Z w [ob aJ,some m,some b2,some b1]) [[I bK.AT,I bL.BT]] [(⟨bK.AT,bL.BT⟩:BI)] from⟨rfl,trivial⟩)) rfl (Nat.le_refl _)⟩,c7.gr⟩)))
        (BY _))))))))))))))))) ?_
    intro nD;rintro _ rfl _ rfl _ rfl _ rfl _ rfl _ rfl _ rfl _ rfl _ rfl _ rfl _ rfl _ rfl _ rfl _ rfl _ rfl _ ⟨mH,mI,rfl,iD⟩ eA;have eB:=iT.ext eA;have eG:=(cE.ext eA (Ac eA));replace q:=Cu q;obtain⟨iU,q⟩:=q;refine wE (fun st=>GD (ys:=[(⟨bK.AT,bL.BT⟩:BI)]) Tryz.underlying49 XI rfl rfl (by decide) (eR st) rfl (eR st) eG iD.n (by have:=iU;simp only[maxLen];omega) (by have:=iU;omega) eB.sz) ?_;rintro _ m0 ⟨iV,iW,rfl,dJ,gC,kQ⟩;have eW:=eB.row dJ 0 rfl gC;have kR:=DJ kQ (eB.CA dJ 0 rfl (fun k aM=>(gC k aM).1));refine wD (fun st=>Ad (ee st dZ) (KR _ _)) ?_;have iE:=((cW.ext eA).gr dJ (eB.nq 1 0));refine BH rfl rfl (fun st=>Bv (n:=1) (l:=[.slice iV ((a7++[(⟨bK.AT,bL.BT⟩:BI)]).length) iW]) (Cv:= #[.slice b x.Av.length c,.slice d x.AW.length f,.slice g x.AO.length i,I r.Flat,.slice iV ((a7++[(⟨bK.AT,bL.BT⟩:BI)]).length) iW,.slice none 0 0,.slice none 0 0]) (eR st) (eR st) ZH iE rfl rfl (show 4+1≤7 by decide) (Be rfl) rfl) ?_;rintro _ m1 cX;have kS:=eW.gr cX.gr 1 rfl;refine Bn<|C5<|An<|wM (v:=I bX) d0 ?_;replace q:=AN q;obtain⟨kT,q⟩:=q;refine wD (fun st=>BR (eR st) (eR st) kT)<|wA (v:=I (bX+1)) rfl<|Bn ?_;have iF:=(kR.gr cX.gr (fun k aM=>eW.ne 0 1 rfl (congrArg some aM) rfl) (eW.Bx cX.gr 1 rfl));have iX:=(((cF.ext eA).gr dJ (eB.nq 3 0)).gr cX.gr (eW.nq 3 1));have iY:=(((fU.ext eA).gr dJ (eB.nq 2 0)).gr cX.gr (eW.nq 2 1));have ⟨gD,gE,gF,gG,gH,gI,e3,e4,e5⟩:=MH d5 d6 d7 b7 d8 d9 c4 c5 c6 (mt (Ac eA) (mt (eB.CA dJ 0 rfl (fun k aM=>(gC k aM).1)) (eW.Bx cX.gr 1 rfl)));refine Bz d4 (Nat.lt_succ_self _) (fun st=>?_);exact⟨(bX+1),(a7++[(⟨bK.AT,bL.BT⟩:BI)]),iV,iW,q,qo st,sp st 1 c3,sp st 2 hU,sp st 3 dZ,sp st 4 rfl,kS,iF,iX,iY,cX.bk,gD,gE,gF,gG,gH,gI,e3,e4,e5⟩
   ·replace q:=Ar q fV;refine Au rfl fV<|Dy ?_;obtain rfl:=oi q;refine BF (fun st=>?_);exact⟨rfl,aJ,bG,qo st,sp st 1 c3,sp st 2 hU,sp st 3 dZ,iT,cE,cF,fU,cW,d5,d6,d7,b7,d8,d9,c4,c5,c6⟩
 case mE=>
  rintro fQ mQ mJ (⟨rfl,a,o,jT,iZ,i0,i1,kU,dK,i2,i3,gJ,gK,gL,gM,gN,gO,gP,e6,e7,e8⟩);refine lf jT<|Bi<|BM<|Af<|cr<|wA (v:=I 0) rfl<|wn<|AL ?_;have kV:=kU.nil;have kW:Bj Ba 134 w.heap.size mJ (zf Z w [none,ob a,some m,some b2,some b1]) none 0 ([]:List BS):=Bj.nil _ _ _ _ _;replace q:=bind_some q;obtain⟨cC,dL,q⟩:=q;refine BX (fun fQ aF p=>(fQ=.exit 2∧∃j s,Fo X0 90 aF∧sl aF 1=pt b1 0∧sl aF 2=pt b2 0∧sl aF 3=pt m 0∧Hp FN [] w [ob j,ob a,some m,some b2,some b1] p∧(fun z=>Bj Ba 134 w.heap.size p z j s cC∧Bj AY 48 w.heap.size p z a o cD∧Bk p b1 67 (AB aP aQ aR aS aT aU a0 a2 a3 a4 a5 a6 r).toArray∧Bk p b2 53 #[.slice none 0 0,.slice none 0 0,.slice none 0 0,I 0,.slice none 0 0,.slice none 0 0,.slice none 0 0]∧Bk p m 53 #[.slice b x.Av.length c,.slice d x.AW.length f,.slice g x.AO.length i,I r.Flat,.slice a cD.length o,.slice j cC.length s,.slice none 0 0]∧Sl Ay p z aP aQ r.Aj∧Sl (BG (Ah .i64)) p z aR aS r.Ab∧Sl AH p z aT aU r.As∧Sl AY p z a0 a2 r.Az∧Sl Ba p z a3 a4 r.AE∧Sl Bm p z a5 a6 r.AK∧Sl Ay p z b c x.Av∧Sl (BG (Ah .i64)) p z d f x.AW∧Sl AH p z g i x.AO) (zf Z w [ob j,ob a,some m,some b2,some b1]))) ?kX ?kY
  case kX=>
   clear q;refine BW (fun d4 aF p=>∃bD,∃aN,∃aD bA,C7 r d4 bD aN=some cC∧Fo X0 90 aF∧sl aF 1=pt b1 0∧sl aF 2=pt b2 0∧sl aF 3=pt m 0∧sl aF 5=I bD∧Hp FN [] w [ob aD,ob a,some m,some b2,some b1] p∧(fun z=>Bj AY 48 w.heap.size p z a o cD∧Bj Ba 134 w.heap.size p z aD bA aN∧Bk p b1 67 (AB aP aQ aR aS aT aU a0 a2 a3 a4 a5 a6 r).toArray∧Bk p b2 53 #[.slice none 0 0,.slice none 0 0,.slice none 0 0,I 0,.slice none 0 0,.slice none 0 0,.slice none 0 0]∧Bk p m 53 #[.slice b x.Av.length c,.slice d x.AW.length f,.slice g x.AO.length i,I r.Flat,.slice a cD.length o,.slice aD aN.length bA,.slice none 0 0]∧Sl Ay p z aP aQ r.Aj∧Sl (BG (Ah .i64)) p z aR aS r.Ab∧Sl AH p z aT aU r.As∧Sl AY p z a0 a2 r.Az∧Sl Ba p z a3 a4 r.AE∧Sl Bm p z a5 a6 r.AK∧Sl Ay p z b c x.Av∧Sl (BG (Ah .i64)) p z d f x.AW∧Sl AH p z g i x.AO) (zf Z w [ob aD,ob a,some m,some b2,some b1])) gB ?kZ ?k0
   case kZ=>
    intro st;have dM:=(dK.up Bq);have i4:=i2;have i5:=i3;have gQ:=gJ;have ⟨gR,gS,gT,gU,gV,gW,e9,fA,fB⟩:=MH gK gL gM gN gO gP e6 e7 e8 Bq;exact⟨(0:Int),([]:List BS),none,0,dL,qo st,sp st 1 iZ,sp st 2 i0,sp st 3 i1,sp st 5 rfl,kV,dM,kW,i4,i5,gQ,gR,gS,gT,gU,gV,gW,e9,fA,fB⟩
   case k0=>
    rintro(_|d4) mR mS ⟨bD,aN,aD,bA,dL,jU,cG,fW,c8,c9,gX,bT,b4,b5,eX,cH,dS,dT,dU,dV,bU,dW,cQ,cR,cS⟩
    ·exact absurd (show none=some _ from dL) (by simp)
    rw[C7.eq_2] at dL;have q:=dL;clear dL;refine ro jU<|Af<|cr<|wM (v:=I bD) c9<|wD (fun st=>Ad (ee st cG) (FX _ _))<|wD (fun st=>Ag (v:=.slice a3 r.AE.length a4) GQ (eR st) b5 rfl)<|wD (fun st=>Bo Tryz.underlying64 (eR st))<|wD (fun st=>B6 (eR st) (eR st))<|wn ?_;rcases Ae (decide (bD<(r.AE.length:Int))) with eC|eC
    ·replace q:=Aq q eC;refine Ai rfl eC<|cn<|Af<|AL ?_;replace q:=AX q;obtain⟨i20,bM,k1,k2,k3,q⟩:=q;obtain⟨j3,j4,_,k4,rfl,k5⟩:=Sl.elem bU (by decide) k2;replace q:=AX q;obtain⟨i21,bN,k6,k7,k8,q⟩:=q;obtain⟨j5,j6,_,k9,rfl,lA⟩:=Sl.elem bU (by decide) k7;refine BZ 16 [Kc (pt m 5),Kc (.slice aD aN.length bA),Kc (pt b1 5),Kc (.slice a3 r.AE.length a4),Kc (I bD),Kc (pt j3 (j4+i20*2)),Kc (pt j3 (j4+i20*2)),Kc (I bM.Cr),Kc (pt b1 5),Kc (.slice a3 r.AE.length a4),Kc (I bD),Kc (pt j5 (j6+i21*2)),Kc (pt j5 (j6+i21*2+1)),Kc (I bN.Cc),Kc (.agg #[I bM.Cr,I bN.Cc]),Kv (Fk Ba) (zf Z w [ob aD,ob a,some m,some b2,some b1]) [(⟨bM.Cr,bN.Cc⟩:BS)]] mixed rfl rfl
         (Aa (oD (fun K=>Ad (es ((K.out 3 rfl).trans c8)) (Ji _ _)))
         (Aa (oD (fun K=>Ag JY (es (K.dq 0 45)) (cH.ext K.AV) rfl))
         (Aa (oD (fun K=>Ad (es ((K.out 1 rfl).trans cG)) (FX _ _)))
         (Aa (oD (fun K=>Ag GQ (es (K.dq 2 47)) (b5.ext K.AV) rfl))
         (Aa (oD (fun K=>AA (es ((K.out 5 rfl).trans c9))))
         (Aa (oD (fun K=>Bu (k:=i20) Tryz.underlying64 Ja (es (K.dq 3 48)) k4 (es (K.dq 4 49)) k1 k3))
         (Aa (oD (fun K=>Ad (es (K.dq 5 50)) (Lb _ _ _)))
         (Aa (oD (fun K=>Bs Bl (es (K.dq 6 51)) (k5.mv (Ac K.AV)) rfl))
         (Aa (oD (fun K=>Ad (es ((K.out 1 rfl).trans cG)) (FX _ _)))
         (Aa (oD (fun K=>Ag GQ (es (K.dq 8 53)) (b5.ext K.AV) rfl))
         (Aa (oD (fun K=>AA (es ((K.out 5 rfl).trans c9))))
         (Aa (oD (fun K=>Bu (k:=i21) Tryz.underlying64 Ja (es (K.dq 9 54)) k9 (es (K.dq 10 55)) k6 k8))
         (Aa (oD (fun K=>Ad (es (K.dq 11 56)) (Ki _ _ _)))
         (Aa (oD (fun K=>DD Bl (es (K.dq 12 57)) (lA.mv (Ac K.AV)) rfl))
         (Aa (oD (fun K=>DI (vs:= #[(0,I bM.Cr),(1,I bN.Cc)]) (v:=.agg #[I bM.Cr,I bN.Cc]) (He (es (K.dq 7 52)) (es (K.dq 13 58))) (by kernel_rfl)))
         (Aa (Ij rfl rfl (fun a' w' ph K=>(BQ (e:=134) (vs:= #[(0,.agg #[I bM.Cr,I bN.Cc])]) (cs:= #[I bM.Cr,I bN.Cc]) (HW (es (K.dq 14 59))) (by kernel_rfl)).mono (fun u BD ⟨iP,hu,c7⟩=>⟨⟨_,_,hu,FZ (xs:=[(⟨bM.Cr,bN.Cc⟩:BS)]) (BE:=[[I bM.Cr,I bN.Cc]]) c7.bk ((gX.ext K.AV).kn (Nat.le_of_eq c7.E9.symm)) (R2.mv (Ac c7.gr) (show R2 Ba w' (zf Z w [ob aD,ob a,some m,some b2,some b1]) [[I bM.Cr,I bN.Cc]] [(⟨bM.Cr,bN.Cc⟩:BS)] from⟨rfl,trivial⟩)) rfl (Nat.le_refl _)⟩,c7.gr⟩)))
         (BY _))))))))))))))))) ?_
     intro m2;rintro _ rfl _ rfl _ rfl _ rfl _ rfl _ rfl _ rfl _ rfl _ rfl _ rfl _ rfl _ rfl _ rfl _ rfl _ rfl _ ⟨l2,l3,rfl,gY⟩ b8;have b9:=gX.ext b8;have dX:=(b4.ext b8 (Ac b8));replace q:=Cu q;obtain⟨i6,q⟩:=q;refine wE (fun st=>GD (ys:=[(⟨bM.Cr,bN.Cc⟩:BS)]) Tryz.underlying50 U3 rfl rfl (by decide) (eR st) rfl (eR st) dX gY.n (by have:=i6;simp only[maxLen];omega) (by have:=i6;omega) b9.sz) ?_;rintro _ m3 ⟨i7,i8,rfl,cI,fC,lB⟩;have cJ:=b9.row cI 0 rfl fC;have lC:=DJ lB (b9.CA cI 0 rfl (fun k aM=>(fC k aM).1));refine wD (fun st=>Ad (ee st c8) (Ji _ _)) ?_;have gZ:=((cH.ext b8).gr cI (b9.nq 2 0));refine BH rfl rfl (fun st=>Bv (n:=1) (l:=[.slice i7 ((aN++[(⟨bM.Cr,bN.Cc⟩:BS)]).length) i8]) (Cv:= #[.slice b x.Av.length c,.slice d x.AW.length f,.slice g x.AO.length i,I r.Flat,.slice a cD.length o,.slice i7 ((aN++[(⟨bM.Cr,bN.Cc⟩:BS)]).length) i8,.slice none 0 0]) (eR st) (eR st) ZI gZ rfl rfl (show 5+1≤7 by decide) (Be rfl) rfl) ?_;rintro _ m4 cA;have lD:=cJ.gr cA.gr 2 rfl;refine Bn<|C5<|An<|wM (v:=I bD) c9 ?_;replace q:=AN q;obtain⟨lE,q⟩:=q;refine wD (fun st=>BR (eR st) (eR st) lE)<|wA (v:=I (bD+1)) rfl<|Bn ?_;have dN:=(((bT.ext b8 (Ac b8)).gr cI (fun k aM=>b9.ne 1 0 rfl (congrArg some aM) rfl) (b9.CA cI 0 rfl (fun k aM=>(fC k aM).1))).gr cA.gr (fun k aM=>cJ.ne 1 2 rfl (congrArg some aM) rfl) (cJ.Bx cA.gr 2 rfl));have iG:=(lC.gr cA.gr (fun k aM=>cJ.ne 0 2 rfl (congrArg some aM) rfl) (cJ.Bx cA.gr 2 rfl));have i9:=(((b5.ext b8).gr cI (b9.nq 4 0)).gr cA.gr (cJ.nq 4 2));have jA:=(((eX.ext b8).gr cI (b9.nq 3 0)).gr cA.gr (cJ.nq 3 2));have ⟨g0,g1,g2,g3,g4,g5,fD,fE,fF⟩:=MH dS dT dU dV bU dW cQ cR cS (mt (Ac b8) (mt (b9.CA cI 0 rfl (fun k aM=>(fC k aM).1)) (cJ.Bx cA.gr 2 rfl)));refine Bz d4 (Nat.lt_succ_self _) (fun st=>?_);exact⟨(bD+1),(aN++[(⟨bM.Cr,bN.Cc⟩:BS)]),i7,i8,q,qo st,sp st 1 cG,sp st 2 fW,sp st 3 c8,sp st 5 rfl,lD,dN,iG,i9,jA,cA.bk,g0,g1,g2,g3,g4,g5,fD,fE,fF⟩
    ·replace q:=Ar q eC;refine Au rfl eC<|Dy ?_;obtain rfl:=oi q;refine BF (fun st=>?_);exact⟨rfl,aD,bA,qo st,sp st 1 cG,sp st 2 fW,sp st 3 c8,gX,b4,bT,b5,eX,cH,dS,dT,dU,dV,bU,dW,cQ,cR,cS⟩
  case kY=>
   rintro fQ mM lF (⟨rfl,j,s,jB,iH,iI,iJ,jV,cY,dA,iK,iL,fX,fY,fZ,f0,f1,f2,f3,eH,eI,eJ⟩);refine lf jB<|Bi<|BM<|Af<|cr<|wA (v:=I 0) rfl<|wn<|AL ?_;have lG:=jV.nil;have lH:Bj Bm 136 w.heap.size lF (zf Z w [none,ob j,ob a,some m,some b2,some b1]) none 0 ([]:List B2):=Bj.nil _ _ _ _ _;replace q:=bind_some q;obtain⟨z26,dO,q⟩:=q;refine BX (fun fQ aF p=>(fQ=.exit 4∧∃aA aG,Fo X0 90 aF∧sl aF 2=pt b2 0∧sl aF 3=pt m 0∧Hp FN [] w [ob aA,ob j,ob a,some m,some b2,some b1] p∧(fun z=>Bj Ba 134 w.heap.size p z j s cC∧Bj Bm 136 w.heap.size p z aA aG z26∧Bj AY 48 w.heap.size p z a o cD∧Bk p b2 53 #[.slice none 0 0,.slice none 0 0,.slice none 0 0,I 0,.slice none 0 0,.slice none 0 0,.slice none 0 0]∧Bk p m 53 #[.slice b x.Av.length c,.slice d x.AW.length f,.slice g x.AO.length i,I r.Flat,.slice a cD.length o,.slice j cC.length s,.slice aA z26.length aG]∧Sl Ay p z b c x.Av∧Sl (BG (Ah .i64)) p z d f x.AW∧Sl AH p z g i x.AO) (zf Z w [ob aA,ob j,ob a,some m,some b2,some b1]))) ?lI ?lJ
   case lI=>
    clear q;refine BW (fun d4 aF p=>∃bE,∃aO,∃aE bB,C8 gB r d4 bE aO=some z26∧Fo X0 90 aF∧sl aF 1=pt b1 0∧sl aF 2=pt b2 0∧sl aF 3=pt m 0∧sl aF 6=I bE∧Hp FN [] w [ob aE,ob j,ob a,some m,some b2,some b1] p∧(fun z=>Bj Ba 134 w.heap.size p z j s cC∧Bj AY 48 w.heap.size p z a o cD∧Bj Bm 136 w.heap.size p z aE bB aO∧Bk p b1 67 (AB aP aQ aR aS aT aU a0 a2 a3 a4 a5 a6 r).toArray∧Bk p b2 53 #[.slice none 0 0,.slice none 0 0,.slice none 0 0,I 0,.slice none 0 0,.slice none 0 0,.slice none 0 0]∧Bk p m 53 #[.slice b x.Av.length c,.slice d x.AW.length f,.slice g x.AO.length i,I r.Flat,.slice a cD.length o,.slice j cC.length s,.slice aE aO.length bB]∧Sl Ay p z aP aQ r.Aj∧Sl (BG (Ah .i64)) p z aR aS r.Ab∧Sl AH p z aT aU r.As∧Sl AY p z a0 a2 r.Az∧Sl Ba p z a3 a4 r.AE∧Sl Bm p z a5 a6 r.AK∧Sl Ay p z b c x.Av∧Sl (BG (Ah .i64)) p z d f x.AW∧Sl AH p z g i x.AO) (zf Z w [ob aE,ob j,ob a,some m,some b2,some b1])) gB ?lK ?lL
    case lK=>
     intro st;have dB:=(cY.up Bq);have dP:=(dA.up Bq);have jC:=iK;have jD:=iL;have g6:=fX;have ⟨g7,g8,g9,hA,hB,hC,fG,fH,fI⟩:=MH fY fZ f0 f1 f2 f3 eH eI eJ Bq;exact⟨(0:Int),([]:List B2),none,0,dO,qo st,sp st 1 iH,sp st 2 iI,sp st 3 iJ,sp st 6 rfl,lG,dB,dP,lH,jC,jD,g6,g7,g8,g9,hA,hB,hC,fG,fH,fI⟩
    case lL=>
     rintro(_|d4) mT mU ⟨bE,aO,aE,bB,dO,jW,dC,f4,dD,dE,hD,bO,bV,b6,cP,eY,cK,f5,f6,f7,f8,f9,cL,cT,cU,cV⟩
     ·exact absurd (show none=some _ from dO) (by simp)
     rw[C8.eq_2] at dO;have q:=dO;clear dO;refine ro jW<|Af<|cr<|wM (v:=I bE) dE<|wD (fun st=>Ad (ee st dC) (Hz _ _))<|wD (fun st=>Ag (v:=.slice a5 r.AK.length a6) Io (eR st) cP rfl)<|wD (fun st=>Bo Tryz.underlying65 (eR st))<|wD (fun st=>B6 (eR st) (eR st))<|wn ?_;rcases Ae (decide (bE<(r.AK.length:Int))) with eD|eD
     ·replace q:=Aq q eD;refine Ai rfl eD<|cn<|Af<|AL ?_;replace q:=AX q;obtain⟨i30,bP,lM,lN,lO,q⟩:=q;obtain⟨j7,j8,_,lP,rfl,lQ⟩:=Sl.elem cL (by decide) lN;replace q:=AX q;obtain⟨i31,eZ,lR,lS,lT,q⟩:=q;obtain⟨j9,kA,_,lU,rfl,lV⟩:=Sl.elem cL (by decide) lS;replace q:=bind_some q;obtain⟨aH,lW,q⟩:=q;refine BZ 17 [Kc (pt m 6),Kc (.slice aE aO.length bB),Kc (pt b1 6),Kc (.slice a5 r.AK.length a6),Kc (I bE),Kc (pt j7 (j8+i30*3)),Kc (pt j7 (j8+i30*3)),Kc (I bP.BP),Kc (pt b1 6),Kc (.slice a5 r.AK.length a6),Kc (I bE),Kc (pt j9 (kA+i31*3)),Kc (pt j9 (kA+i31*3+1)),Kc (.agg #[I eZ.Cg,I eZ.Ch]),Kc (.agg #[I aH.Lo,I aH.Hi]),Kc (.agg #[I bP.BP,I aH.Lo,I aH.Hi]),Kv (Fk Bm) (zf Z w [ob aE,ob j,ob a,some m,some b2,some b1]) [(⟨bP.BP,aH.Lo,aH.Hi⟩:B2)]] mixed rfl rfl
          (Aa (oD (fun K=>Ad (es ((K.out 3 rfl).trans dD)) (Jj _ _)))
          (Aa (oD (fun K=>Ag K7 (es (K.dq 0 70)) (cK.ext K.AV) rfl))
          (Aa (oD (fun K=>Ad (es ((K.out 1 rfl).trans dC)) (Hz _ _)))
          (Aa (oD (fun K=>Ag Io (es (K.dq 2 72)) (cP.ext K.AV) rfl))
          (Aa (oD (fun K=>AA (es ((K.out 6 rfl).trans dE))))
          (Aa (oD (fun K=>Bu (k:=i30) Tryz.underlying65 K9 (es (K.dq 3 73)) lP (es (K.dq 4 74)) lM lO))
          (Aa (oD (fun K=>Ad (es (K.dq 5 75)) (Mf _ _ _)))
          (Aa (oD (fun K=>Bs Bl (es (K.dq 6 76)) (lQ.mv (Ac K.AV)) rfl))
          (Aa (oD (fun K=>Ad (es ((K.out 1 rfl).trans dC)) (Hz _ _)))
          (Aa (oD (fun K=>Ag Io (es (K.dq 8 78)) (cP.ext K.AV) rfl))
          (Aa (oD (fun K=>AA (es ((K.out 6 rfl).trans dE))))
          (Aa (oD (fun K=>Bu (k:=i31) Tryz.underlying65 K9 (es (K.dq 9 79)) lU (es (K.dq 10 80)) lR lT))
          (Aa (oD (fun K=>Ad (es (K.dq 11 81)) (NT _ _ _)))
          (Aa (oD (fun K=>MA (l:=[I eZ.Cg,I eZ.Ch]) IH (es (K.dq 12 82)) (lV.mv (Ac K.AV)) rfl rfl))
          (Aa (oE (fun K=>(Al YR rfl (Cj (es (K.dq 13 83))) (a66 gB (⟨eZ.Cg,eZ.Ch⟩:AP) ZA _ aH lW)).mono (fun _ _ h=>⟨(by obtain⟨_,rfl,rfl⟩:=h.2;rfl),h.1⟩)))
          (Aa (oD (fun K=>DI (vs:= #[(0,I bP.BP),(1,.agg #[I aH.Lo,I aH.Hi])]) (v:=.agg #[I bP.BP,I aH.Lo,I aH.Hi]) (He (es (K.dq 7 77)) (es (K.dq 14 84))) (by kernel_rfl)))
          (Aa (Ij rfl rfl (fun a' w' ph K=>(BQ (e:=136) (vs:= #[(0,.agg #[I bP.BP,I aH.Lo,I aH.Hi])]) (cs:= #[I bP.BP,I aH.Lo,I aH.Hi]) (HW (es (K.dq 15 85))) (by kernel_rfl)).mono (fun u BD ⟨iP,hu,c7⟩=>⟨⟨_,_,hu,FZ (xs:=[(⟨bP.BP,aH.Lo,aH.Hi⟩:B2)]) (BE:=[[I bP.BP,I aH.Lo,I aH.Hi]]) c7.bk ((hD.ext K.AV).kn (Nat.le_of_eq c7.E9.symm)) (R2.mv (Ac c7.gr) (show R2 Bm w' (zf Z w [ob aE,ob j,ob a,some m,some b2,some b1]) [[I bP.BP,I aH.Lo,I aH.Hi]] [(⟨bP.BP,aH.Lo,aH.Hi⟩:B2)] from⟨rfl,trivial⟩)) rfl (Nat.le_refl _)⟩,c7.gr⟩)))
          (BY _)))))))))))))))))) ?_
      intro m5;rintro _ rfl _ rfl _ rfl _ rfl _ rfl _ rfl _ rfl _ rfl _ rfl _ rfl _ rfl _ rfl _ rfl _ rfl _ rfl _ rfl _ ⟨l4,l5,rfl,hE⟩ bQ;have bR:=hD.ext bQ;have dY:=(b6.ext bQ (Ac bQ));replace q:=Cu q;obtain⟨jE,q⟩:=q;refine wE (fun st=>GD (ys:=[(⟨bP.BP,aH.Lo,aH.Hi⟩:B2)]) Tryz.underlying51 U4 rfl rfl (by decide) (eR st) rfl (eR st) dY hE.n (by have:=jE;simp only[maxLen];omega) (by have:=jE;omega) bR.sz) ?_;rintro _ m6 ⟨jF,jG,rfl,bY,eE,lX⟩;have bZ:=bR.row bY 0 rfl eE;have lY:=DJ lX (bR.CA bY 0 rfl (fun k aM=>(eE k aM).1));refine wD (fun st=>Ad (ee st dD) (Jj _ _)) ?_;have hF:=((cK.ext bQ).gr bY (bR.nq 3 0));refine BH rfl rfl (fun st=>Bv (n:=1) (l:=[.slice jF ((aO++[(⟨bP.BP,aH.Lo,aH.Hi⟩:B2)]).length) jG]) (Cv:= #[.slice b x.Av.length c,.slice d x.AW.length f,.slice g x.AO.length i,I r.Flat,.slice a cD.length o,.slice j cC.length s,.slice jF ((aO++[(⟨bP.BP,aH.Lo,aH.Hi⟩:B2)]).length) jG]) (eR st) (eR st) Vx hF rfl rfl (show 6+1≤7 by decide) (Be rfl) rfl) ?_;rintro _ m7 bS;have lZ:=bZ.gr bS.gr 3 rfl;refine Bn<|C5<|An<|wM (v:=I bE) dE ?_;replace q:=AN q;obtain⟨l0,q⟩:=q;refine wD (fun st=>BR (eR st) (eR st) l0)<|wA (v:=I (bE+1)) rfl<|Bn ?_;have dF:=(((bO.ext bQ (Ac bQ)).gr bY (fun k aM=>bR.ne 1 0 rfl (congrArg some aM) rfl) (bR.CA bY 0 rfl (fun k aM=>(eE k aM).1))).gr bS.gr (fun k aM=>bZ.ne 1 3 rfl (congrArg some aM) rfl) (bZ.Bx bS.gr 3 rfl));have dQ:=(((bV.ext bQ (Ac bQ)).gr bY (fun k aM=>bR.ne 2 0 rfl (congrArg some aM) rfl) (bR.CA bY 0 rfl (fun k aM=>(eE k aM).1))).gr bS.gr (fun k aM=>bZ.ne 2 3 rfl (congrArg some aM) rfl) (bZ.Bx bS.gr 3 rfl));have iM:=(lY.gr bS.gr (fun k aM=>bZ.ne 0 3 rfl (congrArg some aM) rfl) (bZ.Bx bS.gr 3 rfl));have jH:=(((cP.ext bQ).gr bY (bR.nq 5 0)).gr bS.gr (bZ.nq 5 3));have jI:=(((eY.ext bQ).gr bY (bR.nq 4 0)).gr bS.gr (bZ.nq 4 3));have ⟨hG,hH,hI,hJ,hL,hM,fJ,fK,fL⟩:=MH f5 f6 f7 f8 f9 cL cT cU cV (mt (Ac bQ) (mt (bR.CA bY 0 rfl (fun k aM=>(eE k aM).1)) (bZ.Bx bS.gr 3 rfl)));refine Bz d4 (Nat.lt_succ_self _) (fun st=>?_);exact⟨(bE+1),(aO++[(⟨bP.BP,aH.Lo,aH.Hi⟩:B2)]),jF,jG,q,qo st,sp st 1 dC,sp st 2 f4,sp st 3 dD,sp st 6 rfl,lZ,dF,dQ,iM,jH,jI,bS.bk,hG,hH,hI,hJ,hL,hM,fJ,fK,fL⟩
     ·replace q:=Ar q eD;refine Au rfl eD<|Dy ?_;obtain rfl:=oi q;refine BF (fun st=>?_);exact⟨rfl,aE,bB,qo st,sp st 2 f4,sp st 3 dD,hD,bO,b6,bV,eY,cK,cT,cU,cV⟩
   case lJ=>
    rintro fQ mN mV (⟨rfl,aA,aG,jJ,e0,iN,bW,cZ,c0,dG,iO,gA,eK,eM,eN⟩);refine lf jJ<|Bi<|BM<|cr<|wD (fun st=>Bd (l:=[.slice b x.Av.length c,.slice d x.AW.length f,.slice g x.AO.length i,I r.Flat,.slice a cD.length o,.slice j cC.length s,.slice aA z26.length aG]) DR (ee st iN) gA rfl rfl)<|BH rfl rfl (fun st=>Bv (n:=7) (l:=[.slice b x.Av.length c,.slice d x.AW.length f,.slice g x.AO.length i,I r.Flat,.slice a cD.length o,.slice j cC.length s,.slice aA z26.length aG]) (Cv:= #[.slice b x.Av.length c,.slice d x.AW.length f,.slice g x.AO.length i,I r.Flat,.slice a cD.length o,.slice j cC.length s,.slice aA z26.length aG]) (ee st e0) (eR st) SV iO rfl rfl (show 0+7≤7 by decide) (Be rfl) rfl) ?_;rintro _ m8 cB;have fM:=bW.gr cB.gr 4 rfl;refine wn<|Ak ?_;obtain rfl:=oi q;refine Gt (v:=.agg #[.slice b x.Av.length c,.slice d x.AW.length f,.slice g x.AO.length i,I r.Flat,.slice a cD.length o,.slice j cC.length s,.slice aA z26.length aG]) rfl e0 (Dv DR cB.bk rfl rfl) ?_;have ⟨fN,fO,fP⟩:=Ee eK eM eN (bW.Bx cB.gr 4 rfl);have dR:=(dG.gr cB.gr (fun k aM=>bW.ne 2 4 rfl (congrArg some aM) rfl) (bW.Bx cB.gr 4 rfl));have dH:=(cZ.gr cB.gr (fun k aM=>bW.ne 1 4 rfl (congrArg some aM) rfl) (bW.Bx cB.gr 4 rfl));have dI:=(c0.gr cB.gr (fun k aM=>bW.ne 0 4 rfl (congrArg some aM) rfl) (bW.Bx cB.gr 4 rfl));exact⟨fM.Bf,⟨_,rfl,_,_,_,_,_,_,_,_,_,_,_,_,rfl,fN.mv (AS (Bw [] trivial)),fO.mv (AS (Bw [] trivial)),fP.mv (AS (Bw [] trivial)),fM.IZ (M:=[]) 2 rfl [] rfl trivial dR,fM.IZ (M:=[]) 1 rfl [] rfl trivial dH,fM.IZ (M:=[]) 0 rfl [] rfl trivial dI⟩⟩
theorem TX aP i o c d e f(Z:Nat→Prop) w(aG:Sl (Ah .i64) w Z c d i)(aH:Sl (Ah .i64) w Z e f o) aQ(a:Dj aP i o=some aQ):
 BN Tryz.prog 41 #[.slice c i.length d,.slice e o.length f] w (fun v w'=>Ext w w'∧BC.R w' (zf Z w []) v aQ):=by
 unfold Dj at a;refine rq (N:=26) Tryz.func41 fun bE ha bF=>?_;have aD:=sA 0 ha;have aE:=sA 1 ha;clear ha;have aI:Hp FN [] w [] w:=Hp.start (By.none w);have ⟨y,z⟩:=K3 aG aH (BB (Z:=Z) (L:=[]) w);refine cr<|wA (v:=.bool false) rfl<|wn<|Af<|cr<|wM (v:=.slice c i.length d) aD<|wD (fun st=>Bo Tryz.underlying31 (eR st))<|wM (v:=.slice e o.length f) aE<|wD (fun st=>Bo Tryz.underlying31 (eR st))<|wD (fun st=>DU (eR st) (eR st))<|wn ?_;rcases Ae ((i.length:Int) !=(o.length:Int)) with r|r
 ·replace a:=Aq a r;refine Ai rfl r<|cr<|wA (v:=.bool false) rfl<|wn<|Ak<|AI ?_;obtain rfl:=oi a;refine Aw rfl rfl ?_;exact⟨aI.Bf,rfl⟩
 ·replace a:=Ar a r;refine Au rfl r<|cn<|Af<|cr<|wA (v:=I 0) rfl<|wn<|AL ?_;replace a:=bind_some a;obtain⟨z2,m,a⟩:=a;refine BX (fun aM g aA=>(aM=.ret∧∃n,z2=.inl n∧Fo X0 26 g∧sl g 4=.bool n∧Hp FN [] w [] aA)∨(aM=.exit 0∧∃n,z2=.inr n∧Fo X0 26 g∧Hp FN [] w [] aA)) ?aR ?aS
  case aR=>
   clear a;refine BW (fun aN g aA=>∃b,Hf i o aN b=some z2∧Fo X0 26 g∧sl g 0=.slice c i.length d∧sl g 1=.slice e o.length f∧sl g 5=I b∧Hp FN [] w [] aA∧Sl (Ah .i64) aA (zf Z w []) c d i∧Sl (Ah .i64) aA (zf Z w []) e f o) aP ?aT ?aU
   case aT=>
    intro st;exact⟨(0:Int),m,qo st,sp st 0 aD,sp st 1 aE,sp st 5 rfl,aI,y,z⟩
   case aU=>
    rintro(_|aN) bG bH ⟨b,m,aO,p,x,h,aJ,j,l⟩
    ·exact absurd (show none=some _ from m) (by simp)
    rw[Hf.eq_2] at m;have a:=m;clear m;refine ro aO<|Af<|cr<|wM (v:=I b) h<|wM (v:=.slice c i.length d) p<|wD (fun st=>Bo Tryz.underlying31 (eR st))<|wD (fun st=>B6 (eR st) (eR st))<|wn ?_;rcases Ae (decide (b<(i.length:Int))) with s|s
    ·replace a:=Aq a s;refine Ai rfl s<|cn<|Af<|AL<|Af ?_;replace a:=AX a;obtain⟨i5,aV,aW,aX,aY,a⟩:=a;obtain⟨a9,bA,_,aZ,rfl,a0⟩:=Sl.CB j rfl aX;replace a:=AX a;obtain⟨i6,a2,a3,a4,a5,a⟩:=a;obtain⟨bB,bC,_,a6,rfl,a7⟩:=Sl.CB l rfl a4;refine BZ 8 [Kc (.slice c i.length d),Kc (I b),Kc (pt a9 (bA+i5)),Kc (I aV),Kc (.slice e o.length f),Kc (I b),Kc (pt bB (bC+i6)),Kc (I a2)] mixed rfl rfl
         (Aa (oD (fun K=>AA (es ((K.out 0 rfl).trans p))))
         (Aa (oD (fun K=>AA (es ((K.out 5 rfl).trans h))))
         (Aa (oD (fun K=>Bp (k:=i5) Tryz.underlying31 CR (es (K.dq 0 17)) aZ (es (K.dq 1 18)) aW aY))
         (Aa (oD (fun K=>Bs Bl (es (K.dq 2 19)) (a0.mv (Ac K.AV)) rfl))
         (Aa (oD (fun K=>AA (es ((K.out 1 rfl).trans x))))
         (Aa (oD (fun K=>AA (es ((K.out 5 rfl).trans h))))
         (Aa (oD (fun K=>Bp (k:=i6) Tryz.underlying31 CR (es (K.dq 4 21)) a6 (es (K.dq 5 22)) a3 a5))
         (Aa (oD (fun K=>Bs Bl (es (K.dq 6 23)) (a7.mv (Ac K.AV)) rfl))
         (BY _))))))))) ?_
     intro bJ;rintro _ rfl _ rfl _ rfl _ rfl _ rfl _ rfl _ rfl _ rfl aK;have aL:=aJ.ext aK;refine wD (fun st=>DU (eR st) (eR st))<|wn ?_;rcases Ae (aV !=a2) with t|t
     ·replace a:=Aq a t;refine Ai rfl t<|cr<|wA (v:=.bool false) rfl<|wn<|Ak<|CH<|AI ?_;obtain rfl:=oi a;refine BF (fun st=>?_);exact .inl ⟨rfl,false,rfl,qo st,sp st 4 rfl,aL⟩
     ·replace a:=Ar a t;refine Au rfl t<|Cm<|C5<|An<|wM (v:=I b) h ?_;replace a:=AN a;obtain⟨a8,a⟩:=a;refine wD (fun st=>BR (eR st) (eR st) a8)<|wA (v:=I (b+1)) rfl<|Bn ?_;have ⟨aB,aC⟩:=K3 j l (Ac aK);refine Bz aN (Nat.lt_succ_self _) (fun st=>?_);exact⟨(b+1),a,qo st,sp st 0 p,sp st 1 x,sp st 5 rfl,aL,aB,aC⟩
    ·replace a:=Ar a s;refine Au rfl s<|Dy ?_;obtain rfl:=oi a;refine BF (fun st=>?_);exact .inr ⟨rfl,(),rfl,qo st,aJ⟩
  case aS=>
   rintro aM bD bI (⟨rfl,n,rfl,q,aF,u⟩|⟨rfl,n,rfl,q,u⟩)
   ·skip
    replace a:=CU a;refine lf q<|CH ?_;obtain rfl:=oi a;refine Aw rfl aF ?_;exact⟨u.Bf,rfl⟩
   ·skip
    replace a:=CV a;refine lf q<|Bi<|BM<|cr<|wA (v:=.bool true) rfl<|wn<|Ak ?_;obtain rfl:=oi a;refine Aw rfl rfl ?_;exact⟨u.Bf,rfl⟩
theorem a36 aQ a f g h i j k m n o p q r(Z:Nat→Prop) w(aD:Sl Ay w Z f g a.Aj)(aE:Sl (BG (Ah .i64)) w Z h i a.Ab)(aF:Sl AH w Z j k a.As)(aG:Sl AY w Z m n a.Az)(aH:Sl Ba w Z o p a.AE)(aI:Sl Bm w Z q r a.AK) aR(b:Hd aQ a=some aR):
 BN Tryz.prog 36 #[.agg (AB f g h i j k m n o p q r a).toArray] w (fun v w'=>Ext w w'∧BC.R w' (zf Z w []) v aR):=by
 unfold Hd at b;refine rq (N:=24) Tryz.func36 fun aV ha aW=>?_;have aL:=sA 0 ha;clear ha;have aJ:Hp FN [] w [] w:=Hp.start (By.none w);have ⟨x,y,z,aN,aO,aP⟩:=CF aD aE aF aG aH aI (BB (Z:=Z) (L:=[]) w);refine cr<|wE (fun st=>BL (v:=.agg (AB f g h i j k m n o p q r a).toArray) (cs:=(AB f g h i j k m n o p q r a).toArray) (ee st aL) rfl) ?_;rintro _ w1 ⟨b1,rfl,t⟩;have aS:=aJ.nb t;have aU:=aJ.BJ t;refine wA (v:=.bool false) rfl<|wr<|wD (fun st=>Ad (eR st) (FV _ _))<|wD (fun st=>Bd (l:=[.slice f a.Aj.length g,.slice h a.Ab.length i,.slice j a.As.length k]) Hu (eR st) t.bk rfl rfl) ?_;have ⟨aA,aB,aC⟩:=Ee x y z (Ax t);replace b:=bind_some b;obtain⟨aM,aT,b⟩:=b;refine wE (fun st=>Al YS (eR st) (Cj (eR st)) (a23 aQ (⟨a.Aj,a.Ab,a.As⟩:AZ) f g h i j k ZA _ aA.all aB.all aC.all aM aT)) ?_;rintro _ aX ⟨aK,rfl⟩;have u:=aS.ext aK;refine wM (v:=.bool aM) rfl ?_;rcases Ae (aM) with c|c
 ·replace b:=Aq b c;refine wG c (fun st=>Ad (eR st) (FW _ _)) ?_;have s:=(t.bk.ext aK);refine wG c (fun st=>Ag (v:=.slice m a.Az.length n) GO (eR st) s rfl)<|wG c (fun st=>Bo Tryz.underlying63 (eR st))<|wG c (fun st=>Hv (eR st) (eR st))<|wD (fun st=>Bc (v:=.bool (decide ((a.Az.length:Int)≤5))) (eR st) c (eR st))<|wM (v:=.bool (decide ((a.Az.length:Int)≤5))) rfl ?_;rcases Ae (decide ((a.Az.length:Int)≤5)) with d|d
  ·replace b:=Aq b d;refine wG d (fun st=>Ad (eR st) (FX _ _))<|wG d (fun st=>Ag (v:=.slice o a.AE.length p) GQ (eR st) s rfl)<|wG d (fun st=>Bo Tryz.underlying64 (eR st))<|wG d (fun st=>Hv (eR st) (eR st))<|wD (fun st=>Bc (v:=.bool (decide ((a.AE.length:Int)≤5))) (eR st) d (eR st))<|wM (v:=.bool (decide ((a.AE.length:Int)≤5))) rfl ?_;rcases Ae (decide ((a.AE.length:Int)≤5)) with e|e
   ·replace b:=Aq b e;refine wG e (fun st=>Ad (eR st) (Hz _ _))<|wG e (fun st=>Ag (v:=.slice q a.AK.length r) Io (eR st) s rfl)<|wG e (fun st=>Bo Tryz.underlying65 (eR st))<|wG e (fun st=>Hv (eR st) (eR st))<|wD (fun st=>Bc (v:=.bool (decide ((a.AK.length:Int)≤7))) (eR st) e (eR st))<|wA (v:=.bool (decide ((a.AK.length:Int)≤7))) rfl<|wn<|Ak ?_;obtain rfl:=oi b;refine Aw rfl rfl ?_;exact⟨u.Bf,rfl⟩
   ·replace b:=Ar b e;refine wF e<|wF e<|wF e<|wF e<|wD (fun st=>Bt (v:=.bool false) (eR st) e (eR st))<|wA (v:=.bool false) rfl<|wn<|Ak ?_;obtain rfl:=oi b;refine Aw rfl rfl ?_;exact⟨u.Bf,rfl⟩
  ·replace b:=Ar b d;refine wF d<|wF d<|wF d<|wF d<|wD (fun st=>Bt (v:=.bool false) (eR st) d (eR st))<|wM (v:=.bool false) rfl<|wH<|wH<|wH<|wH<|wD (fun st=>Bt (v:=.bool false) (eR st) rfl (eR st))<|wA (v:=.bool false) rfl<|wn<|Ak ?_;obtain rfl:=oi b;refine Aw rfl rfl ?_;exact⟨u.Bf,rfl⟩
 ·replace b:=Ar b c;refine wF c<|wF c<|wF c<|wF c<|wD (fun st=>Bt (v:=.bool false) (eR st) c (eR st))<|wM (v:=.bool false) rfl<|wH<|wH<|wH<|wH<|wD (fun st=>Bt (v:=.bool false) (eR st) rfl (eR st))<|wM (v:=.bool false) rfl<|wH<|wH<|wH<|wH<|wD (fun st=>Bt (v:=.bool false) (eR st) rfl (eR st))<|wA (v:=.bool false) rfl<|wn<|Ak ?_;obtain rfl:=oi b;refine Aw rfl rfl ?_;exact⟨u.Bf,rfl⟩
theorem TY o a b(Z:Nat→Prop) w h(i:Dq o a b=some h):
 BN Tryz.prog 57 #[I a,I b] w (fun v w'=>Ext w w'∧(Ds Ay).R w' (zf Z w []) v h):=by
 unfold Dq at i;refine rq (N:=8) Tryz.func57 fun p ha q=>?_;have f:=sA 0 ha;have g:=sA 1 ha;clear ha;have d:Hp FN [] w [] w:=Hp.start (By.none w);refine cr<|wE (fun st=>B5 (cs:= #[I 0,I 0]) JE rfl) ?_;rintro _ w1 ⟨b1,rfl,c⟩;have j:=d.nb c;have m:=d.BJ c;refine wr<|wM (v:=I a) f<|wM (v:=I b) g<|wD (fun st=>DI (vs:= #[(0,I a),(1,I b)]) (v:=.agg #[I a,I b]) (He (eR st) (eR st)) (by kernel_rfl))<|BH rfl rfl (fun st=>Bv (n:=2) (l:=[I a,I b]) (Cv:= #[I a,I b]) (eR st) (eR st) HN c.bk rfl rfl (show 0+2≤2 by decide) (Be rfl) rfl) ?_;rintro _ w2 e;have k:=j.gr e.gr 0 rfl;refine wn<|Ak ?_;obtain rfl:=oi i;refine Gt (v:=.agg #[I a,I b]) rfl rfl (Dv Gr e.bk rfl rfl) ?_;exact⟨k.Bf,⟨_,rfl,rfl⟩⟩
theorem Pv bK aD(Z:Nat→Prop) w bO(p:Cq bK aD=some bO):
 BN Tryz.prog 88 #[I aD] w (fun v w'=>Ext w w'∧(Ds OH).R w' (zf Z w []) v bO):=by
 unfold Cq at p;refine rq (N:=29) Tryz.func88 fun bW ha bX=>?_;have bL:=sA 0 ha;clear ha;have bC:Hp FN [] w [] w:=Hp.start (By.none w);refine cr<|wE (fun st=>B5 (cs:= #[.slice none 0 0,.slice none 0 0,.slice none 0 0,I 0,.slice none 0 0,.slice none 0 0,.slice none 0 0]) O7 rfl) ?_;rintro _ w1 ⟨b1,rfl,aQ⟩;have bD:=bC.nb aQ;have bT:=bC.BJ aQ;refine wr<|wD (fun st=>DI (vs:= #[(0,I 40),(1,I 42)]) (v:=.agg #[I 40,I 42]) (He (eR st) (eR st)) (by kernel_rfl))<|wD (fun st=>DI (vs:= #[(0,I 60),(1,I 63)]) (v:=.agg #[I 60,I 63]) (He (eR st) (eR st)) (by kernel_rfl))<|wE (fun st=>BQ (e:=131) (vs:= #[(0,.agg #[I 40,I 42]),(1,.agg #[I 60,I 63])]) (cs:= #[I 40,I 42,I 60,I 63]) (He (eR st) (eR st)) (by kernel_rfl)) ?_;rintro _ w2 ⟨b2,rfl,aM⟩;have bE:=bD.nb aM;have a6:=bD.BJ aM;refine wE (fun st=>BQ (e:=3) (vs:= #[(0,I 10),(1,I 10)]) (cs:= #[I 10,I 10]) (He (eR st) (eR st)) (by kernel_rfl)) ?_;rintro _ b4 ⟨b3,rfl,aH⟩;have bF:=bE.nb aH;have a7:=bE.BJ aH;refine wE (fun st=>BQ (e:=3) (vs:= #[(0,I 5),(1,I 15)]) (cs:= #[I 5,I 15]) (He (eR st) (eR st)) (by kernel_rfl)) ?_;rintro _ b5 ⟨t,rfl,aB⟩;have bG:=bF.nb aB;have a8:=bF.BJ aB;refine wE (fun st=>BQ (e:=31) (vs:= #[(0,.slice (some ⟨b3,0,none⟩) 2 2),(1,.slice (some ⟨t,0,none⟩) 2 2)]) (cs:= #[.slice (some ⟨b3,0,none⟩) 2 2,.slice (some ⟨t,0,none⟩) 2 2]) (He (eR st) (eR st)) (by kernel_rfl)) ?_;rintro _ b6 ⟨f,rfl,x⟩;have bH:=bG.nb x;have a9:=bG.BJ x;refine wD (fun st=>DI (vs:= #[(0,.slice (some ⟨b2,0,none⟩) 2 2),(1,.slice (some ⟨f,0,none⟩) 2 2)]) (v:=.agg #[.slice (some ⟨b2,0,none⟩) 2 2,.slice (some ⟨f,0,none⟩) 2 2,.slice none 0 0]) (He (eR st) (eR st)) (by kernel_rfl))<|wE (fun st=>B5 (cs:= #[.slice none 0 0,.slice none 0 0,.slice none 0 0]) O6 rfl) ?_;rintro _ b7 ⟨aI,rfl,s⟩;have aC:=bH.nb s;have bU:=bH.BJ s;refine BH rfl rfl (fun st=>Bv (n:=3) (l:=[.slice (some ⟨b2,0,none⟩) 2 2,.slice (some ⟨f,0,none⟩) 2 2,.slice none 0 0]) (Cv:= #[.slice (some ⟨b2,0,none⟩) 2 2,.slice (some ⟨f,0,none⟩) 2 2,.slice none 0 0]) (eR st) (eR st) Vy s.bk rfl rfl (show 0+3≤3 by decide) (Be rfl) rfl) ?_;rintro _ b8 y;have bP:=aC.gr y.gr 0 rfl;refine wn<|Af<|An ?_;replace p:=bind_some p;obtain⟨b,bQ,p⟩:=p;refine wE (fun st=>Al MZ (eR st) (Cf (eR st) (eR st)) (TY bK 80 80 ZA _ b bQ)) ?_;rintro _ b9 ⟨z,⟨_,rfl,rfl⟩⟩;have bR:=bP.ext z;refine wD (fun st=>DI (vs:= #[(1,.agg #[I b.Lo,I b.Hi])]) (v:=.agg #[I 0,I b.Lo,I b.Hi]) (HW (eR st)) (by kernel_rfl)) ?_;replace p:=bind_some p;obtain⟨a,bM,p⟩:=p;refine wE (fun st=>Al MZ (eR st) (Cf (eR st) (eR st)) (TY bK 40 40 ZA _ a bM)) ?_;rintro _ bY ⟨m,⟨_,rfl,rfl⟩⟩;have bI:=bR.ext m;refine wD (fun st=>DI (vs:= #[(1,.agg #[I a.Lo,I a.Hi])]) (v:=.agg #[I 0,I a.Lo,I a.Hi]) (HW (eR st)) (by kernel_rfl))<|wE (fun st=>BQ (e:=136) (vs:= #[(0,.agg #[I 0,I b.Lo,I b.Hi]),(1,.agg #[I 0,I a.Lo,I a.Hi])]) (cs:= #[I 0,I b.Lo,I b.Hi,I 0,I a.Lo,I a.Hi]) (He (eR st) (eR st)) (by kernel_rfl)) ?_;rintro _ bS ⟨aR,rfl,g⟩;have aS:=bI.nb g;have aT:=bI.BJ g;refine wA (v:=.slice (some ⟨aR,0,none⟩) 2 2) rfl<|wn<|Af ?_;have aJ:=aS.erase 0;have aN:=g.bk;have aU:Sl Bm bS (zf Z w [some aI,some f,some t,some b3,some b2,some b1]) (some ⟨aR,0,none⟩) 2 [(⟨0,b.Lo,b.Hi⟩:B2),(⟨0,a.Lo,a.Hi⟩:B2)]:=FZ (e:=Bm) (xs:=[(⟨0,b.Lo,b.Hi⟩:B2),(⟨0,a.Lo,a.Hi⟩:B2)]) (BE:=[[I 0,I b.Lo,I b.Hi],[I 0,I a.Lo,I a.Hi]]) aN (aS.lit 0 rfl aT) ⟨rfl,rfl,trivial⟩ rfl (Nat.le_refl _);have aV:=(((y.bk.ext z).ext m).ext g.gr);replace p:=Kx p;obtain⟨bN,p⟩:=p;refine BZ 11 [Kc (.agg #[.slice (some ⟨b2,0,none⟩) 2 2,.slice (some ⟨f,0,none⟩) 2 2,.slice none 0 0]),Kc (.agg #[I 55,I 6]),Kc (.agg #[I 51,I 4]),Kc (.agg #[I 40,I 2]),Kv (Fk AY) (zf Z w [some aI,some f,some t,some b3,some b2,some b1]) [(⟨55,6⟩:BI),(⟨51,4⟩:BI),(⟨40,2⟩:BI)],Kc (.agg #[I 0,I 20]),Kc (.agg #[I 1,I 10]),Kv (Fk Ba) (zf Z w [some aI,some f,some t,some b3,some b2,some b1]) [(⟨0,20⟩:BS),(⟨1,10⟩:BS)],Kc (.slice (some ⟨aR,0,none⟩) 2 2),Kc (I aD),Kv (Fk Bm) (zf Z w [some aI,some f,some t,some b3,some b2,some b1]) (Ff [(⟨0,b.Lo,b.Hi⟩:B2),(⟨0,a.Lo,a.Hi⟩:B2)] (0:Int) aD)] mixed rfl rfl
     (Aa (oD (fun K=>Bd (l:=[.slice (some ⟨b2,0,none⟩) 2 2,.slice (some ⟨f,0,none⟩) 2 2,.slice none 0 0]) Hs (K.kO 3) (aV.ext K.AV) rfl rfl))
     (Aa (oD (fun K=>DI (vs:= #[(0,I 55),(1,I 6)]) (v:=.agg #[I 55,I 6]) (He (ec (v:=I 55)) (ec (v:=I 6))) (by kernel_rfl)))
     (Aa (oD (fun K=>DI (vs:= #[(0,I 51),(1,I 4)]) (v:=.agg #[I 51,I 4]) (He (ec (v:=I 51)) (ec (v:=I 4))) (by kernel_rfl)))
     (Aa (oD (fun K=>DI (vs:= #[(0,I 40),(1,I 2)]) (v:=.agg #[I 40,I 2]) (He (ec (v:=I 40)) (ec (v:=I 2))) (by kernel_rfl)))
     (Aa (Ij rfl rfl (fun a' w' ph K=>(BQ (e:=48) (vs:= #[(0,.agg #[I 55,I 6]),(1,.agg #[I 51,I 4]),(2,.agg #[I 40,I 2])]) (cs:= #[I 55,I 6,I 51,I 4,I 40,I 2]) (ZR (es (K.dq 1 18)) (es (K.dq 2 19)) (es (K.dq 3 20))) (by kernel_rfl)).mono (fun u BD ⟨bV,hu,aE⟩=>⟨⟨_,_,hu,FZ (xs:=[(⟨55,6⟩:BI),(⟨51,4⟩:BI),(⟨40,2⟩:BI)]) (BE:=[[I 55,I 6],[I 51,I 4],[I 40,I 2]]) aE.bk ((aJ.ext K.AV).kn (Nat.le_of_eq aE.E9.symm)) (R2.mv (Ac aE.gr) (show R2 AY w' (zf Z w [some aI,some f,some t,some b3,some b2,some b1]) [[I 55,I 6],[I 51,I 4],[I 40,I 2]] [(⟨55,6⟩:BI),(⟨51,4⟩:BI),(⟨40,2⟩:BI)] from⟨rfl,rfl,rfl,trivial⟩)) rfl (Nat.le_refl _)⟩,aE.gr⟩)))
     (Aa (oD (fun K=>DI (vs:= #[(0,I 0),(1,I 20)]) (v:=.agg #[I 0,I 20]) (He (ec (v:=I 0)) (ec (v:=I 20))) (by kernel_rfl)))
     (Aa (oD (fun K=>DI (vs:= #[(0,I 1),(1,I 10)]) (v:=.agg #[I 1,I 10]) (He (ec (v:=I 1)) (ec (v:=I 10))) (by kernel_rfl)))
     (Aa (Ij rfl rfl (fun a' w' ph K=>(BQ (e:=134) (vs:= #[(0,.agg #[I 0,I 20]),(1,.agg #[I 1,I 10])]) (cs:= #[I 0,I 20,I 1,I 10]) (He (es (K.dq 5 22)) (es (K.dq 6 23))) (by kernel_rfl)).mono (fun u BD ⟨bV,hu,aE⟩=>⟨⟨_,_,hu,FZ (xs:=[(⟨0,20⟩:BS),(⟨1,10⟩:BS)]) (BE:=[[I 0,I 20],[I 1,I 10]]) aE.bk ((aJ.ext K.AV).kn (Nat.le_of_eq aE.E9.symm)) (R2.mv (Ac aE.gr) (show R2 Ba w' (zf Z w [some aI,some f,some t,some b3,some b2,some b1]) [[I 0,I 20],[I 1,I 10]] [(⟨0,20⟩:BS),(⟨1,10⟩:BS)] from⟨rfl,rfl,trivial⟩)) rfl (Nat.le_refl _)⟩,aE.gr⟩)))
     (Aa (oD (fun K=>AA (K.kO 4)))
     (Aa (oD (fun K=>AA (es ((K.out 0 rfl).trans bL))))
     (Aa (oE (fun K=>(P6 (e:=Bm) (Z:=_) (xs:=[(⟨0,b.Lo,b.Hi⟩:B2),(⟨0,a.Lo,a.Hi⟩:B2)]) Tryz.underlying51 MW rfl (es (K.dq 8 25)) P5 (SF (es (K.dq 9 26))) (aU.mv (Ac K.AV)) bN).mono (fun u BD ⟨h1,h2⟩=>by subst h2;exact⟨h1,Ext.refl _⟩)))
     (BY _)))))))))))) ?_
 intro bZ;rintro _ rfl _ rfl _ rfl _ rfl _ ⟨h,i,rfl,aO⟩ _ rfl _ rfl _ ⟨j,k,rfl,aP⟩ _ rfl _ rfl _ ⟨c,d,rfl,aK⟩ q;have r:=aJ.ext q;refine wD (fun st=>DI (vs:= #[(0,.agg #[.slice (some ⟨b2,0,none⟩) 2 2,.slice (some ⟨f,0,none⟩) 2 2,.slice none 0 0]),(1,I 3),(2,.slice h ([(⟨55,6⟩:BI),(⟨51,4⟩:BI),(⟨40,2⟩:BI)].length) i),(3,.slice j ([(⟨0,20⟩:BS),(⟨1,10⟩:BS)].length) k),(4,.slice c ((Ff [(⟨0,b.Lo,b.Hi⟩:B2),(⟨0,a.Lo,a.Hi⟩:B2)] (0:Int) aD).length) d)]) (v:=.agg #[.slice (some ⟨b2,0,none⟩) 2 2,.slice (some ⟨f,0,none⟩) 2 2,.slice none 0 0,I 3,.slice h ([(⟨55,6⟩:BI),(⟨51,4⟩:BI),(⟨40,2⟩:BI)].length) i,.slice j ([(⟨0,20⟩:BS),(⟨1,10⟩:BS)].length) k,.slice c ((Ff [(⟨0,b.Lo,b.Hi⟩:B2),(⟨0,a.Lo,a.Hi⟩:B2)] (0:Int) aD).length) d]) (pm5 (eR st) (eR st) (eR st) (eR st) (eR st)) (by kernel_rfl)) ?_;have aW:=((((((((((aQ.bk.ext aM.gr).ext aH.gr).ext aB.gr).ext x.gr).ext s.gr).gr y.gr (aC.nq 5 0)).ext z).ext m).ext g.gr).ext q);refine BH rfl rfl (fun st=>Bv (n:=7) (l:=[.slice (some ⟨b2,0,none⟩) 2 2,.slice (some ⟨f,0,none⟩) 2 2,.slice none 0 0,I 3,.slice h ([(⟨55,6⟩:BI),(⟨51,4⟩:BI),(⟨40,2⟩:BI)].length) i,.slice j ([(⟨0,20⟩:BS),(⟨1,10⟩:BS)].length) k,.slice c ((Ff [(⟨0,b.Lo,b.Hi⟩:B2),(⟨0,a.Lo,a.Hi⟩:B2)] (0:Int) aD).length) d]) (Cv:= #[.slice (some ⟨b2,0,none⟩) 2 2,.slice (some ⟨f,0,none⟩) 2 2,.slice none 0 0,I 3,.slice h ([(⟨55,6⟩:BI),(⟨51,4⟩:BI),(⟨40,2⟩:BI)].length) i,.slice j ([(⟨0,20⟩:BS),(⟨1,10⟩:BS)].length) k,.slice c ((Ff [(⟨0,b.Lo,b.Hi⟩:B2),(⟨0,a.Lo,a.Hi⟩:B2)] (0:Int) aD).length) d]) (eR st) (eR st) SV aW rfl rfl (show 0+7≤7 by decide) (Be rfl) rfl) ?_;rintro _ bJ o;have aX:=r.gr o.gr 5 rfl;refine wn<|Ak ?_;have aY:=aX.erase 3;have aZ:=(((((((((aH.bk.ext aB.gr).ext x.gr).ext s.gr).gr y.gr (aC.nq 3 0)).ext z).ext m).ext g.gr).ext q).gr o.gr (r.nq 3 5));have bA:Sl (Ah .i64) bJ (zf Z w [some aI,some f,some t,some b2,some b1]) (some ⟨b3,0,none⟩) 2 [10,10]:=FZ (e:=(Ah .i64)) (xs:=[10,10]) (BE:=[[I 10],[I 10]]) aZ (aX.lit 3 rfl a7) ⟨rfl,rfl,trivial⟩ rfl (Nat.le_refl _);have aL:=aY.erase 2;have a0:=((((((((aB.bk.ext x.gr).ext s.gr).gr y.gr (aC.nq 2 0)).ext z).ext m).ext g.gr).ext q).gr o.gr (r.nq 2 5));have bB:Sl (Ah .i64) bJ (zf Z w [some aI,some f,some b2,some b1]) (some ⟨t,0,none⟩) 2 [5,15]:=FZ (e:=(Ah .i64)) (xs:=[5,15]) (BE:=[[I 5],[I 15]]) a0 (aY.lit 2 rfl a8) ⟨rfl,rfl,trivial⟩ rfl (Nat.le_refl _);obtain rfl:=oi p;have a2:=o.bk;refine Gt (v:=.agg #[.slice (some ⟨b2,0,none⟩) 2 2,.slice (some ⟨f,0,none⟩) 2 2,.slice none 0 0,I 3,.slice h ([(⟨55,6⟩:BI),(⟨51,4⟩:BI),(⟨40,2⟩:BI)].length) i,.slice j ([(⟨0,20⟩:BS),(⟨1,10⟩:BS)].length) k,.slice c ((Ff [(⟨0,b.Lo,b.Hi⟩:B2),(⟨0,a.Lo,a.Hi⟩:B2)] (0:Int) aD).length) d]) rfl rfl (Dv DR a2 rfl rfl) ?_;have a3:=((((((((((aM.bk.ext aH.gr).ext aB.gr).ext x.gr).ext s.gr).gr y.gr (aC.nq 4 0)).ext z).ext m).ext g.gr).ext q).gr o.gr (r.nq 4 5));have a4:=(((((((x.bk.ext s.gr).gr y.gr (aC.nq 1 0)).ext z).ext m).ext g.gr).ext q).gr o.gr (r.nq 1 5));have a5:=(bA.mv (AD 2));have ⟨aF,aG,aA⟩:=Ee aO aP aK (mt (r.Bx o.gr 5 rfl) (mt (AD 3) (AD 2)));exact⟨aL.Bf,⟨_,rfl,_,_,_,_,_,_,_,_,_,_,_,_,rfl,FZ (e:=Ay) (Z:=zf Z w []) (xs:=[(⟨40,42⟩:AP),(⟨60,63⟩:AP)]) (BE:=[[I 40,I 42],[I 60,I 63]]) a3 (.inr ⟨a6,fun hm=>aL.Cz (F':=FN) (M:=[]) 2 rfl [] rfl trivial eL (.inr hm)⟩) ⟨rfl,rfl,trivial⟩ rfl (Nat.le_refl _),FZ (e:=(BG (Ah .i64))) (Z:=zf Z w []) (xs:=[[10,10],[5,15]]) (BE:=[[.slice (some ⟨b3,0,none⟩) 2 2],[.slice (some ⟨t,0,none⟩) 2 2]]) a4 (.inr ⟨a9,fun hm=>aL.Cz (F':=FN) (M:=[]) 1 rfl [] rfl trivial eL (.inr hm)⟩) ⟨⟨_,_,rfl,(a5.mv (AS (Bw [] trivial)))⟩,⟨_,_,rfl,(bB.mv (AS (Bw [] trivial)))⟩,trivial⟩ rfl (Nat.le_refl _),Sl.nil _ _ _,aF.mv (AS (Bw [] trivial)),aG.mv (AS (Bw [] trivial)),aA.mv (AS (Bw [] trivial))⟩⟩
theorem a48 aV p a b c d e f g h i j k m(Z:Nat→Prop) w(aM:Sl Ay w Z a b p.Aj)(aN:Sl (BG (Ah .i64)) w Z c d p.Ab)(aO:Sl AH w Z e f p.As)(aP:Sl AY w Z g h p.Az)(aQ:Sl Ba w Z i j p.AE)(aR:Sl Bm w Z k m p.AK) aZ(o:Fe aV p=some aZ):
 BN Tryz.prog 48 #[.agg (AB a b c d e f g h i j k m p).toArray] w (fun v w'=>Ext w w'∧BC.R w' (zf Z w []) v aZ):=by
 unfold Fe at o;refine rq (N:=10) Tryz.func48 fun a7 ha a8=>?_;have aW:=sA 0 ha;clear ha;have aT:Hp FN [] w [] w:=Hp.start (By.none w);have ⟨z,aA,aB,aC,aD,aE⟩:=CF aM aN aO aP aQ aR (BB (Z:=Z) (L:=[]) w);refine cr<|wE (fun st=>BL (v:=.agg (AB a b c d e f g h i j k m p).toArray) (cs:=(AB a b c d e f g h i j k m p).toArray) (ee st aW) rfl) ?_;rintro _ w1 ⟨b1,rfl,y⟩;have a0:=aT.nb y;have a6:=aT.BJ y;refine wA (v:=.bool false) rfl<|wr<|wD (fun st=>Bd (l:=(AB a b c d e f g h i j k m p)) GP (eR st) y.bk rfl rfl) ?_;have ⟨q,r,s,t,u,x⟩:=CF z aA aB aC aD aE (Ax y);replace o:=bind_some o;obtain⟨aX,a2,o⟩:=o;refine wE (fun st=>Al YU (eR st) (Cj (eR st)) (a36 aV p a b c d e f g h i j k m ZA _ q.all r.all s.all t.all u.all x.all aX a2)) ?_;rintro _ a9 ⟨aL,rfl⟩;have aU:=a0.ext aL;refine wM (v:=.bool aX) rfl ?_;rcases Ae (aX) with n|n
 ·replace o:=Aq o n;have aS:=(y.bk.ext aL);refine wG n (fun st=>Bd (l:=(AB a b c d e f g h i j k m p)) GP (eR st) aS rfl rfl) ?_;have ⟨aF,aG,aH,aI,aJ,aK⟩:=CF q r s t u x (Ac aL);replace o:=bind_some o;obtain⟨aY,a3,o⟩:=o;refine wX n (fun st=>Al XJ (eR st) (Cj (eR st)) (a116 aV p a b c d e f g h i j k m ZA _ aF.all aG.all aH.all aI.all aJ.all aK.all aY a3)) ?_;rintro _ bA ⟨a4,rfl⟩;have a5:=aU.ext a4;refine wG n (fun st=>D0 (eR st) (eR st))<|wD (fun st=>Bc (v:=.bool (aY==0)) (eR st) n (eR st))<|wA (v:=.bool (aY==0)) rfl<|wn<|Ak ?_;obtain rfl:=oi o;refine Aw rfl rfl ?_;exact⟨a5.Bf,rfl⟩
 ·replace o:=Ar o n;refine wF n<|wF n<|wF n<|wD (fun st=>Bt (v:=.bool false) (eR st) n (eR st))<|wA (v:=.bool false) rfl<|wn<|Ak ?_;obtain rfl:=oi o;refine Aw rfl rfl ?_;exact⟨aU.Bf,rfl⟩
theorem Z4 x e l b c(Z:Nat→Prop) w(h:Sl (Ah .u16) w Z b c e) n(a:F9 x e l=some n):
 BN Tryz.prog 86 #[.slice b e.length c,I l] w (fun v w'=>Ext w w'∧(Dh .i64).R w' (zf Z w []) v n):=by
 unfold F9 at a;refine rq (N:=16) Tryz.func86 fun y ha z=>?_;have f:=sA 0 ha;have m:=sA 1 ha;clear ha;have i:Hp FN [] w [] w:=Hp.start (By.none w);have g:=h.mv (BB (Z:=Z) (L:=[]) w);refine cr<|wA (v:=I 0) rfl<|wn<|Af<|cr<|wM (v:=.slice b e.length c) f<|wD (fun st=>Bo Tryz.underlying113 (eR st))<|wD (fun st=>D0 (eR st) (eR st))<|wn ?_;rcases Ae ((e.length:Int)==0) with d|d
 ·replace a:=Aq a d;refine Ai rfl d<|cr<|wA (v:=I 0) rfl<|wn<|Ak<|AI ?_;obtain rfl:=oi a;refine Aw rfl rfl ?_;exact⟨i.Bf,rfl⟩
 ·replace a:=Ar a d;refine Au rfl d<|cn<|cr<|wM (v:=.slice b e.length c) f<|wM (v:=I l) m<|wM (v:=.slice b e.length c) f<|wD (fun st=>Bo Tryz.underlying113 (eR st)) ?_;replace a:=J5 a;obtain⟨j,a⟩:=a;refine wD (fun st=>M6 (eR st) (eR st) j.1 j.2) ?_;replace a:=AX a;obtain⟨i3,o,p,q,r,a⟩:=a;obtain⟨b3,aA,_,s,rfl,t⟩:=Sl.CB g rfl q;refine wD (fun st=>Bp (k:=i3) Tryz.underlying113 ZJ (eR st) s (eR st) p r)<|wD (fun st=>Bs (v:=.int .u16 o) YV (eR st) t rfl) ?_;replace a:=KZ a;obtain⟨u,a⟩:=a;refine wD (fun st=>Mn (k:=.i64) SW Tryz.underlying3 (eR st) u)<|wA (v:=I o) rfl<|wn<|Ak ?_;obtain rfl:=oi a;refine Aw rfl rfl ?_;exact⟨i.Bf,rfl⟩
set_option maxHeartbeats 4000000 in
theorem a37 i(Z:Nat→Prop) w(a:Db i=some true):
 BN Tryz.prog 37 #[] w (fun v w'=>Ext w w'∧v=.bool true):=by
 unfold Db at a;refine rq (N:=148) Tryz.func37 fun jL ha jM=>?_;clear ha;have hM:Hp FN [] w [] w:=Hp.start (By.none w);refine cr<|wA (v:=.bool false) rfl<|wn<|Af<|An ?_;replace a:=bind_some a;obtain⟨i4,i5,a⟩:=a;refine wE (fun st=>Al KB (eR st) (Cj (eR st)) (Pv i 0 (zf Z w []) _ i4 i5)) ?_;rintro _ w2 ⟨i6,⟨_,rfl,⟨gE,gF,gG,gH,gI,gJ,gK,gL,gM,gN,gO,gP,rfl,b4,b5,b6,b7,b8,b9⟩⟩⟩;have hN:=hM.ext i6;have ⟨b4,b5,b6,b7,b8,b9⟩:=CF b4 b5 b6 b7 b8 b9 (hM.Ed (Nat.le_refl _));refine wE (fun st=>BQ (e:=3) (vs:= #[(0,I 41),(1,I 62)]) (cs:= #[I 41,I 62]) (He (eR st) (eR st)) (by kernel_rfl)) ?_;rintro _ jK ⟨b3,rfl,d8⟩;have hO:=hN.nb d8;have hG:=hN.BJ d8;have hP:=hO.erase 0;have hH:=d8.bk;have hI:Sl (Ah .i64) jK (zf Z w []) (some ⟨b3,0,none⟩) 2 [41,62]:=FZ (e:=(Ah .i64)) (xs:=[41,62]) (BE:=[[I 41],[I 62]]) hH (hO.lit 0 rfl hG) ⟨rfl,rfl,trivial⟩ rfl (Nat.le_refl _);have ⟨dT,dU,dV,dW,dX,dY⟩:=CF b4 b5 b6 b7 b8 b9 (mt (Ax d8) (AD 0));replace a:=bind_some a;obtain⟨cA,i7,a⟩:=a;refine wE (fun st=>Al YW (eR st) (Cf (eR st) (eR st)) (a32 i i4 [41,62] gE gF gG gH gI gJ gK gL gM gN gO gP (some ⟨b3,0,none⟩) 2 (zf Z w []) _ dT dU dV dW dX dY hI cA i7)) ?_;rintro _ j4 ⟨i8,⟨_,_,rfl,⟨bY,bZ,rfl,c5⟩,rfl⟩⟩;have hQ:=hP.ext i8;have c5:=c5.mv (hP.Ed (Nat.le_refl _));refine wM (v:=.tuple #[.slice bY cA.1.length bZ,I cA.2]) rfl<|wD (fun st=>BA (v:=.slice bY cA.1.length bZ) (eR st) rfl)<|wD (fun st=>BA (v:=I cA.2) (eR st) rfl)<|wA (v:=.slice bY cA.1.length bZ) rfl<|wA (v:=I cA.2) rfl<|wn<|Af<|An ?_;replace a:=bind_some a;obtain⟨i9,jA,a⟩:=a;refine wE (fun st=>Al KB (eR st) (Cj (eR st)) (Pv i 0 (zf Z w []) _ i9 jA)) ?_;rintro _ j5 ⟨hR,⟨_,rfl,⟨gQ,gR,gS,gT,gU,gV,gW,gX,gY,gZ,g0,g1,rfl,cB,cC,cD,cE,cF,cG⟩⟩⟩;have hS:=hQ.ext hR;have ⟨cB,cC,cD,cE,cF,cG⟩:=CF cB cC cD cE cF cG (hQ.Ed (Nat.le_refl _));replace a:=bind_some a;obtain⟨s,jB,a⟩:=a;refine wE (fun st=>Al YX (eR st) (Cj (eR st)) (a33 i i9 gQ gR gS gT gU gV gW gX gY gZ g0 g1 (zf Z w []) _ cB cC cD cE cF cG s jB)) ?_;rintro _ j6 ⟨hT,⟨_,_,rfl,⟨aK,aL,rfl,c6⟩,rfl⟩⟩;have hU:=hS.ext hT;have c6:=c6.mv (hS.Ed (Nat.le_refl _));refine wM (v:=.tuple #[.slice aK s.1.length aL,I s.2]) rfl<|wD (fun st=>BA (v:=.slice aK s.1.length aL) (eR st) rfl)<|wD (fun st=>BA (v:=I s.2) (eR st) rfl)<|wA (v:=.slice aK s.1.length aL) rfl<|wA (v:=I s.2) rfl<|wn<|Af<|An ?_;replace a:=bind_some a;obtain⟨hV,h6,a⟩:=a;refine wE (fun st=>Al KB (eR st) (Cj (eR st)) (Pv i 0 (zf Z w []) _ hV h6)) ?_;rintro _ jN ⟨d4,⟨_,rfl,⟨d9,eA,eB,eC,eD,eE,eF,eG,eH,eI,eJ,eK,rfl,aM,aN,aO,aP,aQ,aR⟩⟩⟩;have hW:=hU.ext d4;have ⟨aM,aN,aO,aP,aQ,aR⟩:=CF aM aN aO aP aQ aR (hU.Ed (Nat.le_refl _));refine wE (fun st=>BQ (e:=3) (vs:= #[(0,I 0),(1,I 1)]) (cs:= #[I 0,I 1]) (He (eR st) (eR st)) (by kernel_rfl)) ?_;rintro _ jO ⟨d,rfl,cH⟩;have jC:=hW.nb cH;have jD:=hW.BJ cH;have ⟨dG,dH,dI,dJ,dK,dL⟩:=CF aM aN aO aP aQ aR (Ax cH);replace a:=bind_some a;obtain⟨b,h7,a⟩:=a;refine wE (fun st=>Al YE (eR st) (Cf (eR st) (eR st)) (a50 i hV [0,1] d9 eA eB eC eD eE eF eG eH eI eJ eK (some ⟨d,0,none⟩) 2 ZA _ dG.all dH.all dI.all dJ.all dK.all dL.all (FZ (e:=(Ah .i64)) (xs:=[0,1]) (BE:=[[I 0],[I 1]]) cH.bk trivial ⟨rfl,rfl,trivial⟩ rfl (Nat.le_refl _)) b h7)) ?_;rintro _ jP ⟨d5,⟨_,_,rfl,⟨_,rfl,rfl⟩,rfl⟩⟩;have hX:=jC.ext d5;refine wM (v:=.tuple #[.agg #[I b.1.Lo,I b.1.Hi],I b.2]) rfl<|wD (fun st=>BA (v:=.agg #[I b.1.Lo,I b.1.Hi]) (eR st) rfl)<|wD (fun st=>BA (v:=I b.2) (eR st) rfl)<|wE (fun st=>B5 (cs:= #[I 0,I 0]) JE rfl) ?_;rintro _ jQ ⟨f,rfl,c7⟩;have d6:=hX.nb c7;have jE:=hX.BJ c7;refine BH rfl rfl (fun st=>Bv (n:=2) (l:=[I b.1.Lo,I b.1.Hi]) (Cv:= #[I b.1.Lo,I b.1.Hi]) (eR st) (eR st) HN c7.bk rfl rfl (show 0+2≤2 by decide) (Be rfl) rfl) ?_;rintro _ jR dM;have g2:=d6.gr dM.gr 0 rfl;refine wA (v:=I b.2) rfl<|wn<|Af<|An ?_;replace a:=bind_some a;obtain⟨hY,h8,a⟩:=a;refine wE (fun st=>Al KB (eR st) (Cj (eR st)) (Pv i 0 (zf Z w [some f,some d]) _ hY h8)) ?_;rintro _ jS ⟨dN,⟨_,rfl,⟨eM,eN,eO,eP,eQ,eS,eT,eU,eV,eW,eX,eY,rfl,aS,aT,aU,aV,aW,aX⟩⟩⟩;have g3:=g2.ext dN;have ⟨aS,aT,aU,aV,aW,aX⟩:=CF aS aT aU aV aW aX (g2.Ed (Nat.le_refl _));replace a:=bind_some a;obtain⟨c,h9,a⟩:=a;refine wE (fun st=>Al YY (eR st) (Cj (eR st)) (a34 i hY eM eN eO eP eQ eS eT eU eV eW eX eY (zf Z w [some f,some d]) _ aS aT aU aV aW aX c h9)) ?_;rintro _ jT ⟨dO,⟨_,_,_,rfl,⟨aC,aD,rfl,cI⟩,rfl,rfl⟩⟩;have g4:=g3.ext dO;have cI:=cI.mv (g3.Ed (Nat.le_refl _));refine wM (v:=.tuple #[.slice aC c.1.length aD,I c.2.1,I c.2.2]) rfl<|wD (fun st=>BA (v:=.slice aC c.1.length aD) (eR st) rfl)<|wD (fun st=>BA (v:=I c.2.1) (eR st) rfl)<|wD (fun st=>BA (v:=I c.2.2) (eR st) rfl)<|wA (v:=.slice aC c.1.length aD) rfl<|wA (v:=I c.2.1) rfl<|wA (v:=I c.2.2) rfl<|wn<|Af<|An ?_;replace a:=bind_some a;obtain⟨hZ,iA,a⟩:=a;refine wE (fun st=>Al KB (eR st) (Cj (eR st)) (Pv i 1 (zf Z w [some f,some d]) _ hZ iA)) ?_;rintro _ jU ⟨c8,⟨_,rfl,⟨eZ,e0,e1,e2,e3,e4,e5,e6,e7,e8,e9,fA,rfl,aY,aZ,a0,a2,a3,a4⟩⟩⟩;have g5:=g4.ext c8;have ⟨aY,aZ,a0,a2,a3,a4⟩:=CF aY aZ a0 a2 a3 a4 (g4.Ed (Nat.le_refl _));replace a:=bind_some a;obtain⟨m,iB,a⟩:=a;refine wE (fun st=>Al TU (eR st) (Cj (eR st)) (ZX i hZ eZ e0 e1 e2 e3 e4 e5 e6 e7 e8 e9 fA (zf Z w [some f,some d]) _ aY aZ a0 a2 a3 a4 m iB)) ?_;rintro _ jV ⟨c9,⟨_,_,rfl,⟨aE,aF,rfl,cJ⟩,rfl⟩⟩;have g6:=g5.ext c9;have cJ:=cJ.mv (g5.Ed (Nat.le_refl _));refine wM (v:=.tuple #[.slice aE m.1.length aF,I m.2]) rfl<|wD (fun st=>BA (v:=.slice aE m.1.length aF) (eR st) rfl)<|wD (fun st=>BA (v:=I m.2) (eR st) rfl)<|wA (v:=.slice aE m.1.length aF) rfl<|wA (v:=I m.2) rfl<|wn<|Af<|An ?_;replace a:=bind_some a;obtain⟨h3,iC,a⟩:=a;refine wE (fun st=>Al KB (eR st) (Cj (eR st)) (Pv i 0 (zf Z w [some f,some d]) _ h3 iC)) ?_;rintro _ jW ⟨cK,⟨_,rfl,⟨fB,fC,fD,fE,fF,fG,fH,fI,fJ,fK,fL,fM,rfl,a5,a6,a7,a8,a9,bA⟩⟩⟩;have g7:=g6.ext cK;have ⟨a5,a6,a7,a8,a9,bA⟩:=CF a5 a6 a7 a8 a9 bA (g6.Ed (Nat.le_refl _));replace a:=bind_some a;obtain⟨o,iD,a⟩:=a;refine wE (fun st=>Al TV (eR st) (Cj (eR st)) (ZY i h3 fB fC fD fE fF fG fH fI fJ fK fL fM (zf Z w [some f,some d]) _ a5 a6 a7 a8 a9 bA o iD)) ?_;rintro _ jX ⟨cL,⟨_,_,rfl,⟨aG,aH,rfl,cM⟩,rfl⟩⟩;have g8:=g7.ext cL;have cM:=cM.mv (g7.Ed (Nat.le_refl _));refine wM (v:=.tuple #[.slice aG o.1.length aH,I o.2]) rfl<|wD (fun st=>BA (v:=.slice aG o.1.length aH) (eR st) rfl)<|wD (fun st=>BA (v:=I o.2) (eR st) rfl)<|wA (v:=.slice aG o.1.length aH) rfl<|wA (v:=I o.2) rfl<|wn<|Af<|An ?_;replace a:=bind_some a;obtain⟨h4,iE,a⟩:=a;refine wE (fun st=>Al KB (eR st) (Cj (eR st)) (Pv i 2 (zf Z w [some f,some d]) _ h4 iE)) ?_;rintro _ jY ⟨bB,⟨_,rfl,⟨fN,fO,fP,fQ,fR,fS,fT,fU,fV,fW,fX,fY,rfl,bC,bD,bE,bF,bG,bH⟩⟩⟩;have iF:=g8.ext bB;have ⟨bC,bD,bE,bF,bG,bH⟩:=CF bC bD bE bF bG bH (g8.Ed (Nat.le_refl _));replace a:=bind_some a;obtain⟨g,iG,a⟩:=a;refine wE (fun st=>Al YZ (eR st) (Cj (eR st)) (a42 i h4 fN fO fP fQ fR fS fT fU fV fW fX fY ZA _ bC.all bD.all bE.all bF.all bG.all bH.all g iG)) ?_;rintro _ jZ ⟨bI,⟨_,_,rfl,rfl,rfl⟩⟩;have g9:=iF.ext bI;refine wM (v:=.tuple #[I g.1,I g.2]) rfl<|wD (fun st=>BA (v:=I g.1) (eR st) rfl)<|wD (fun st=>BA (v:=I g.2) (eR st) rfl)<|wA (v:=I g.1) rfl<|wA (v:=I g.2) rfl<|wn<|Af<|An ?_;replace a:=bind_some a;obtain⟨h5,iH,a⟩:=a;refine wE (fun st=>Al KB (eR st) (Cj (eR st)) (Pv i 2 (zf Z w [some f,some d]) _ h5 iH)) ?_;rintro _ j0 ⟨bJ,⟨_,rfl,⟨fZ,f0,f1,f2,f3,f4,f5,f6,f7,f8,f9,gA,rfl,bK,bL,bM,bN,bO,bP⟩⟩⟩;have hA:=g9.ext bJ;have ⟨bK,bL,bM,bN,bO,bP⟩:=CF bK bL bM bN bO bP (g9.Ed (Nat.le_refl _));replace a:=bind_some a;obtain⟨p,iI,a⟩:=a;refine wE (fun st=>Al Y0 (eR st) (Cj (eR st)) (a43 i h5 fZ f0 f1 f2 f3 f4 f5 f6 f7 f8 f9 gA (zf Z w [some f,some d]) _ bK bL bM bN bO bP p iI)) ?_;rintro _ j1 ⟨bQ,⟨_,_,rfl,⟨aI,aJ,rfl,cN⟩,rfl⟩⟩;have cO:=hA.ext bQ;have cN:=cN.mv (hA.Ed (Nat.le_refl _));refine wM (v:=.tuple #[.slice aI p.1.length aJ,I p.2]) rfl<|wD (fun st=>BA (v:=.slice aI p.1.length aJ) (eR st) rfl)<|wD (fun st=>BA (v:=I p.2) (eR st) rfl)<|wA (v:=.slice aI p.1.length aJ) rfl<|wA (v:=I p.2) rfl<|wn<|Af ?_;rcases Ae (cA.2==0) with bR|bR
 ·replace a:=Aq a bR;have dZ:=(((((((((((((((((c5.mv (Ac hR)).mv (Ac hT)).mv (Ac d4)).mv (Ax cH)).mv (Ac d5)).mv (Ax c7)).mv (d6.Bx dM.gr 0 rfl)).mv (Ac dN)).mv (Ac dO)).mv (Ac c8)).mv (Ac c9)).mv (Ac cK)).mv (Ac cL)).mv (Ac bB)).mv (Ac bI)).mv (Ac bJ)).mv (Ac bQ));replace a:=bind_some a;obtain⟨d0,iJ,a⟩:=a;rcases Ae (d0) with cP|cP
  ·replace a:=Aq a cP;rcases Ae (s.2==0) with bS|bS
   ·replace a:=Aq a bS;rcases Ae ((s.1.length:Int)==2) with aA|aA
    ·replace a:=Aq a aA;replace a:=AX a;obtain⟨i43,q,iK,iL,iM,a⟩:=a;have c4:=(((((((((((((((c6.mv (Ac d4)).mv (Ax cH)).mv (Ac d5)).mv (Ax c7)).mv (d6.Bx dM.gr 0 rfl)).mv (Ac dN)).mv (Ac dO)).mv (Ac c8)).mv (Ac c9)).mv (Ac cK)).mv (Ac cL)).mv (Ac bB)).mv (Ac bI)).mv (Ac bJ)).mv (Ac bQ));obtain⟨jF,jG,_,iN,rfl,iO⟩:=Sl.elem c4 (by decide) iL;replace a:=bind_some a;obtain⟨x,iP,a⟩:=a;rcases Ae ([q.Lo,q.Hi]==[x.Lo,x.Hi]) with aB|aB
     ·replace a:=Aq a aB;replace a:=AX a;obtain⟨i46,r,iQ,iR,iS,a⟩:=a;obtain⟨jH,jI,_,iT,rfl,iU⟩:=Sl.elem c4 (by decide) iR;replace a:=bind_some a;obtain⟨y,iV,a⟩:=a;rcases Ae ([r.Lo,r.Hi]==[y.Lo,y.Hi]) with cQ|cQ
      ·replace a:=Aq a cQ;rcases Ae (b.2==0) with bT|bT
       ·replace a:=Aq a bT;have gB:=((((((((((dM.bk.ext dN).ext dO).ext c8).ext c9).ext cK).ext cL).ext bB).ext bI).ext bJ).ext bQ);replace a:=bind_some a;obtain⟨z,iW,a⟩:=a;rcases Ae ([b.1.Lo,b.1.Hi]==[z.Lo,z.Hi]) with cR|cR
        ·replace a:=Aq a cR;rcases Ae (c.2.2==0) with bU|bU
         ·replace a:=Aq a bU;have dP:=((((((((cI.mv (Ac c8)).mv (Ac c9)).mv (Ac cK)).mv (Ac cL)).mv (Ac bB)).mv (Ac bI)).mv (Ac bJ)).mv (Ac bQ));replace a:=bind_some a;obtain⟨d1,iX,a⟩:=a;rcases Ae (d1) with cS|cS
          ·replace a:=Aq a cS;rcases Ae (c.2.1==180) with cT|cT
           ·replace a:=Aq a cT;rcases Ae (m.2==0) with bV|bV
            ·replace a:=Aq a bV;have dQ:=((((((cJ.mv (Ac cK)).mv (Ac cL)).mv (Ac bB)).mv (Ac bI)).mv (Ac bJ)).mv (Ac bQ));replace a:=bind_some a;obtain⟨d2,iY,a⟩:=a;rcases Ae (d2) with cU|cU
             ·replace a:=Aq a cU;rcases Ae (o.2==0) with bW|bW
              ·replace a:=Aq a bW;have dR:=((((cM.mv (Ac bB)).mv (Ac bI)).mv (Ac bJ)).mv (Ac bQ));replace a:=bind_some a;obtain⟨d3,iZ,a⟩:=a;rcases Ae (d3) with cV|cV
               ·replace a:=Aq a cV;rcases Ae (g.2==0) with cW|cW
                ·replace a:=Aq a cW;rcases Ae (g.1==1) with cX|cX
                 ·replace a:=Aq a cX;rcases Ae (p.2==0) with bX|bX
                  ·replace a:=Aq a bX;refine BZ 85 [Kc (I cA.2),Kc (.bool (cA.2==0)),Kc (.bool (cA.2==0)),Kc (.slice bY cA.1.length bZ),Kv (Fk (Ah .i64)) (zf Z w [some f,some d]) [80,120],Kc (.bool d0),Kc (.bool d0),Kc (.bool d0),Kc (I s.2),Kc (.bool (s.2==0)),Kc (.bool (s.2==0)),Kc (.bool (s.2==0)),Kc (.slice aK s.1.length aL),Kc (I (s.1.length:Int)),Kc (.bool ((s.1.length:Int)==2)),Kc (.bool ((s.1.length:Int)==2)),Kc (.bool ((s.1.length:Int)==2)),Kc (.slice aK s.1.length aL),Kc (pt jF (jG+i43*2)),Kc (.agg #[I q.Lo,I q.Hi]),Kc (.agg #[I x.Lo,I x.Hi]),Kc (.bool ([q.Lo,q.Hi]==[x.Lo,x.Hi])),Kc (.bool ([q.Lo,q.Hi]==[x.Lo,x.Hi])),Kc (.bool ([q.Lo,q.Hi]==[x.Lo,x.Hi])),Kc (.slice aK s.1.length aL),Kc (pt jH (jI+i46*2)),Kc (.agg #[I r.Lo,I r.Hi]),Kc (.agg #[I y.Lo,I y.Hi]),Kc (.bool ([r.Lo,r.Hi]==[y.Lo,y.Hi])),Kc (.bool ([r.Lo,r.Hi]==[y.Lo,y.Hi])),Kc (.bool ([r.Lo,r.Hi]==[y.Lo,y.Hi])),Kc (I b.2),Kc (.bool (b.2==0)),Kc (.bool (b.2==0)),Kc (.bool (b.2==0)),Kc (.agg #[I b.1.Lo,I b.1.Hi]),Kc (.agg #[I z.Lo,I z.Hi]),Kc (.bool ([b.1.Lo,b.1.Hi]==[z.Lo,z.Hi])),Kc (.bool ([b.1.Lo,b.1.Hi]==[z.Lo,z.Hi])),Kc (.bool ([b.1.Lo,b.1.Hi]==[z.Lo,z.Hi])),Kc (I c.2.2),Kc (.bool (c.2.2==0)),Kc (.bool (c.2.2==0)),Kc (.bool (c.2.2==0)),Kc (.slice aC c.1.length aD),Kv (Fk (Ah .i64)) (zf Z w [some f,some d]) [1],Kc (.bool d1),Kc (.bool d1),Kc (.bool d1),Kc (I c.2.1),Kc (.bool (c.2.1==180)),Kc (.bool (c.2.1==180)),Kc (.bool (c.2.1==180)),Kc (I m.2),Kc (.bool (m.2==0)),Kc (.bool (m.2==0)),Kc (.bool (m.2==0)),Kc (.slice aE m.1.length aF),Kv (Fk (Ah .i64)) (zf Z w [some f,some d]) [1,0],Kc (.bool d2),Kc (.bool d2),Kc (.bool d2),Kc (I o.2),Kc (.bool (o.2==0)),Kc (.bool (o.2==0)),Kc (.bool (o.2==0)),Kc (.slice aG o.1.length aH),Kv (Fk (Ah .i64)) (zf Z w [some f,some d]) [0,1],Kc (.bool d3),Kc (.bool d3),Kc (.bool d3),Kc (I g.2),Kc (.bool (g.2==0)),Kc (.bool (g.2==0)),Kc (.bool (g.2==0)),Kc (I g.1),Kc (.bool (g.1==1)),Kc (.bool (g.1==1)),Kc (.bool (g.1==1)),Kc (I p.2),Kc (.bool (p.2==0)),Kc (.bool (p.2==0)),Kc (.bool (p.2==0)),Kc (.slice aI p.1.length aJ),Kv (Fk (Ah .i64)) (zf Z w [some f,some d]) [0]] mixed rfl rfl
                       (Aa (oD (fun K=>AA (K.kO 2)))
                       (Aa (oD (fun K=>D0 (es (K.dq 0 61)) (ec (v:=I 0))))
                       (Aa (oD (fun K=>AA (es (K.dq 1 62))))
                       (Aa (oG bR (fun K=>AA (K.kO 1)))
                       (Aa (J1 rfl rfl rfl (fun a' w' ph K=>IY (K.dq 2 63) bR) (fun a' w' ph K=>(BQ (e:=3) (vs:= #[(0,I 80),(1,I 120)]) (cs:= #[I 80,I 120]) (He (ec (v:=I 80)) (ec (v:=I 120))) (by kernel_rfl)).mono (fun u BD ⟨hJ,hu,j⟩=>⟨⟨_,_,hu,FZ (xs:=[80,120]) (BE:=[[I 80],[I 120]]) j.bk ((cO.ext K.AV).kn (Nat.le_of_eq j.E9.symm)) (R2.mv (Ac j.gr) (show R2 (Ah .i64) w' (zf Z w [some f,some d]) [[I 80],[I 120]] [80,120] from⟨rfl,rfl,trivial⟩)) rfl (Nat.le_refl _)⟩,j.gr⟩)))
                       (Aa (oX bR (fun K=>match K.dq 4 65 with|⟨dA,dB,hL,dF⟩=>(Al M0 rfl (Cf (es (K.dq 3 64)) (es (t:=65) (v:=.slice dA ([80,120].length) dB) hL)) (TX i cA.1 [80,120] bY bZ dA dB ZA _ (dZ.mv (Ac K.AV)).all dF.all d0 iJ)).mono (fun _ _ h=>⟨h.2,h.1⟩)))
                       (Aa (oD (fun K=>Bc (es (K.dq 2 63)) bR (es (K.dq 5 66))))
                       (Aa (oD (fun K=>AA (es (K.dq 6 67))))
                       (Aa (oG cP (fun K=>AA (K.kO 4)))
                       (Aa (oG cP (fun K=>D0 (es (K.dq 8 69)) (ec (v:=I 0))))
                       (Aa (oD (fun K=>Bc (es (K.dq 7 68)) cP (es (K.dq 9 70))))
                       (Aa (oD (fun K=>AA (es (K.dq 10 71))))
                       (Aa (oG bS (fun K=>AA (K.kO 3)))
                       (Aa (oG bS (fun K=>Bo Tryz.underlying55 (es (K.dq 12 73))))
                       (Aa (oG bS (fun K=>D0 (es (K.dq 13 74)) (ec (v:=I 2))))
                       (Aa (oD (fun K=>Bc (es (K.dq 11 72)) bS (es (K.dq 14 75))))
                       (Aa (oD (fun K=>AA (es (K.dq 15 76))))
                       (Aa (oG aA (fun K=>AA (K.kO 3)))
                       (Aa (oG aA (fun K=>Bu (k:=i43) Tryz.underlying55 HN (es (K.dq 17 78)) iN (ec (v:=I 0)) iK iM))
                       (Aa (oG aA (fun K=>CD (l:=[I q.Lo,I q.Hi]) Gr (es (K.dq 18 79)) (iO.mv (Ac K.AV)) rfl rfl))
                       (Aa (oX aA (fun K=>(Al MZ rfl (Cf (ec (v:=I 40)) (ec (v:=I 80))) (TY i 40 80 ZA _ x iP)).mono (fun _ _ h=>⟨(by obtain⟨_,rfl,rfl⟩:=h.2;rfl),h.1⟩)))
                       (Aa (oG aA (fun K=>SD (x1:=[q.Lo,q.Hi]) (x2:=[x.Lo,x.Hi]) QV QU (es (K.dq 19 80)) (es (K.dq 20 81)) rfl rfl rfl rfl))
                       (Aa (oD (fun K=>Bc (es (K.dq 16 77)) aA (es (K.dq 21 82))))
                       (Aa (oD (fun K=>AA (es (K.dq 22 83))))
                       (Aa (oG aB (fun K=>AA (K.kO 3)))
                       (Aa (oG aB (fun K=>Bu (k:=i46) Tryz.underlying55 HN (es (K.dq 24 85)) iT (ec (v:=I 1)) iQ iS))
                       (Aa (oG aB (fun K=>CD (l:=[I r.Lo,I r.Hi]) Gr (es (K.dq 25 86)) (iU.mv (Ac K.AV)) rfl rfl))
                       (Aa (oX aB (fun K=>(Al MZ rfl (Cf (ec (v:=I 120)) (ec (v:=I 120))) (TY i 120 120 ZA _ y iV)).mono (fun _ _ h=>⟨(by obtain⟨_,rfl,rfl⟩:=h.2;rfl),h.1⟩)))
                       (Aa (oG aB (fun K=>SD (x1:=[r.Lo,r.Hi]) (x2:=[y.Lo,y.Hi]) QV QU (es (K.dq 26 87)) (es (K.dq 27 88)) rfl rfl rfl rfl))
                       (Aa (oD (fun K=>Bc (es (K.dq 23 84)) aB (es (K.dq 28 89))))
                       (Aa (oD (fun K=>AA (es (K.dq 29 90))))
                       (Aa (oG cQ (fun K=>AA (K.kO 6)))
                       (Aa (oG cQ (fun K=>D0 (es (K.dq 31 92)) (ec (v:=I 0))))
                       (Aa (oD (fun K=>Bc (es (K.dq 30 91)) cQ (es (K.dq 32 93))))
                       (Aa (oD (fun K=>AA (es (K.dq 33 94))))
                       (Aa (oG bT (fun K=>Bd (l:=[I b.1.Lo,I b.1.Hi]) Gr (K.kO 5) (gB.ext K.AV) rfl rfl))
                       (Aa (oX bT (fun K=>(Al MZ rfl (Cf (ec (v:=I 160)) (ec (v:=I 200))) (TY i 160 200 ZA _ z iW)).mono (fun _ _ h=>⟨(by obtain⟨_,rfl,rfl⟩:=h.2;rfl),h.1⟩)))
                       (Aa (oG bT (fun K=>SD (x1:=[b.1.Lo,b.1.Hi]) (x2:=[z.Lo,z.Hi]) QV QU (es (K.dq 35 96)) (es (K.dq 36 97)) rfl rfl rfl rfl))
                       (Aa (oD (fun K=>Bc (es (K.dq 34 95)) bT (es (K.dq 37 98))))
                       (Aa (oD (fun K=>AA (es (K.dq 38 99))))
                       (Aa (oG cR (fun K=>AA (K.kO 9)))
                       (Aa (oG cR (fun K=>D0 (es (K.dq 40 101)) (ec (v:=I 0))))
                       (Aa (oD (fun K=>Bc (es (K.dq 39 100)) cR (es (K.dq 41 102))))
                       (Aa (oD (fun K=>AA (es (K.dq 42 103))))
                       (Aa (oG bU (fun K=>AA (K.kO 7)))
                       (Aa (J1 rfl rfl rfl (fun a' w' ph K=>IY (K.dq 43 104) bU) (fun a' w' ph K=>(BQ (e:=3) (vs:= #[(0,I 1)]) (cs:= #[I 1]) (HW (ec (v:=I 1))) (by kernel_rfl)).mono (fun u BD ⟨hJ,hu,j⟩=>⟨⟨_,_,hu,FZ (xs:=[1]) (BE:=[[I 1]]) j.bk ((cO.ext K.AV).kn (Nat.le_of_eq j.E9.symm)) (R2.mv (Ac j.gr) (show R2 (Ah .i64) w' (zf Z w [some f,some d]) [[I 1]] [1] from⟨rfl,trivial⟩)) rfl (Nat.le_refl _)⟩,j.gr⟩)))
                       (Aa (oX bU (fun K=>match K.dq 45 106 with|⟨cY,cZ,hB,dC⟩=>(Al M0 rfl (Cf (es (K.dq 44 105)) (es (t:=106) (v:=.slice cY ([1].length) cZ) hB)) (TX i c.1 [1] aC aD cY cZ ZA _ (dP.mv (Ac K.AV)).all dC.all d1 iX)).mono (fun _ _ h=>⟨h.2,h.1⟩)))
                       (Aa (oD (fun K=>Bc (es (K.dq 43 104)) bU (es (K.dq 46 107))))
                       (Aa (oD (fun K=>AA (es (K.dq 47 108))))
                       (Aa (oG cS (fun K=>AA (K.kO 8)))
                       (Aa (oG cS (fun K=>D0 (es (K.dq 49 110)) (ec (v:=I 180))))
                       (Aa (oD (fun K=>Bc (es (K.dq 48 109)) cS (es (K.dq 50 111))))
                       (Aa (oD (fun K=>AA (es (K.dq 51 112))))
                       (Aa (oG cT (fun K=>AA (K.kO 11)))
                       (Aa (oG cT (fun K=>D0 (es (K.dq 53 114)) (ec (v:=I 0))))
                       (Aa (oD (fun K=>Bc (es (K.dq 52 113)) cT (es (K.dq 54 115))))
                       (Aa (oD (fun K=>AA (es (K.dq 55 116))))
                       (Aa (oG bV (fun K=>AA (K.kO 10)))
                       (Aa (J1 rfl rfl rfl (fun a' w' ph K=>IY (K.dq 56 117) bV) (fun a' w' ph K=>(BQ (e:=3) (vs:= #[(0,I 1),(1,I 0)]) (cs:= #[I 1,I 0]) (He (ec (v:=I 1)) (ec (v:=I 0))) (by kernel_rfl)).mono (fun u BD ⟨hJ,hu,j⟩=>⟨⟨_,_,hu,FZ (xs:=[1,0]) (BE:=[[I 1],[I 0]]) j.bk ((cO.ext K.AV).kn (Nat.le_of_eq j.E9.symm)) (R2.mv (Ac j.gr) (show R2 (Ah .i64) w' (zf Z w [some f,some d]) [[I 1],[I 0]] [1,0] from⟨rfl,rfl,trivial⟩)) rfl (Nat.le_refl _)⟩,j.gr⟩)))
                       (Aa (oX bV (fun K=>match K.dq 58 119 with|⟨c0,c1,hC,dD⟩=>(Al M0 rfl (Cf (es (K.dq 57 118)) (es (t:=119) (v:=.slice c0 ([1,0].length) c1) hC)) (TX i m.1 [1,0] aE aF c0 c1 ZA _ (dQ.mv (Ac K.AV)).all dD.all d2 iY)).mono (fun _ _ h=>⟨h.2,h.1⟩)))
                       (Aa (oD (fun K=>Bc (es (K.dq 56 117)) bV (es (K.dq 59 120))))
                       (Aa (oD (fun K=>AA (es (K.dq 60 121))))
                       (Aa (oG cU (fun K=>AA (K.kO 13)))
                       (Aa (oG cU (fun K=>D0 (es (K.dq 62 123)) (ec (v:=I 0))))
                       (Aa (oD (fun K=>Bc (es (K.dq 61 122)) cU (es (K.dq 63 124))))
                       (Aa (oD (fun K=>AA (es (K.dq 64 125))))
                       (Aa (oG bW (fun K=>AA (K.kO 12)))
                       (Aa (J1 rfl rfl rfl (fun a' w' ph K=>IY (K.dq 65 126) bW) (fun a' w' ph K=>(BQ (e:=3) (vs:= #[(0,I 0),(1,I 1)]) (cs:= #[I 0,I 1]) (He (ec (v:=I 0)) (ec (v:=I 1))) (by kernel_rfl)).mono (fun u BD ⟨hJ,hu,j⟩=>⟨⟨_,_,hu,FZ (xs:=[0,1]) (BE:=[[I 0],[I 1]]) j.bk ((cO.ext K.AV).kn (Nat.le_of_eq j.E9.symm)) (R2.mv (Ac j.gr) (show R2 (Ah .i64) w' (zf Z w [some f,some d]) [[I 0],[I 1]] [0,1] from⟨rfl,rfl,trivial⟩)) rfl (Nat.le_refl _)⟩,j.gr⟩)))
                       (Aa (oX bW (fun K=>match K.dq 67 128 with|⟨c2,c3,hD,dE⟩=>(Al M0 rfl (Cf (es (K.dq 66 127)) (es (t:=128) (v:=.slice c2 ([0,1].length) c3) hD)) (TX i o.1 [0,1] aG aH c2 c3 ZA _ (dR.mv (Ac K.AV)).all dE.all d3 iZ)).mono (fun _ _ h=>⟨h.2,h.1⟩)))
                       (Aa (oD (fun K=>Bc (es (K.dq 65 126)) bW (es (K.dq 68 129))))
                       (Aa (oD (fun K=>AA (es (K.dq 69 130))))
                       (Aa (oG cV (fun K=>AA (K.kO 15)))
                       (Aa (oG cV (fun K=>D0 (es (K.dq 71 132)) (ec (v:=I 0))))
                       (Aa (oD (fun K=>Bc (es (K.dq 70 131)) cV (es (K.dq 72 133))))
                       (Aa (oD (fun K=>AA (es (K.dq 73 134))))
                       (Aa (oG cW (fun K=>AA (K.kO 14)))
                       (Aa (oG cW (fun K=>D0 (es (K.dq 75 136)) (ec (v:=I 1))))
                       (Aa (oD (fun K=>Bc (es (K.dq 74 135)) cW (es (K.dq 76 137))))
                       (Aa (oD (fun K=>AA (es (K.dq 77 138))))
                       (Aa (oG cX (fun K=>AA (K.kO 17)))
                       (Aa (oG cX (fun K=>D0 (es (K.dq 79 140)) (ec (v:=I 0))))
                       (Aa (oD (fun K=>Bc (es (K.dq 78 139)) cX (es (K.dq 80 141))))
                       (Aa (oD (fun K=>AA (es (K.dq 81 142))))
                       (Aa (oG bX (fun K=>AA (K.kO 16)))
                       (Aa (J1 rfl rfl rfl (fun a' w' ph K=>IY (K.dq 82 143) bX) (fun a' w' ph K=>(BQ (e:=3) (vs:= #[(0,I 0)]) (cs:= #[I 0]) (HW (ec (v:=I 0))) (by kernel_rfl)).mono (fun u BD ⟨hJ,hu,j⟩=>⟨⟨_,_,hu,FZ (xs:=[0]) (BE:=[[I 0]]) j.bk ((cO.ext K.AV).kn (Nat.le_of_eq j.E9.symm)) (R2.mv (Ac j.gr) (show R2 (Ah .i64) w' (zf Z w [some f,some d]) [[I 0]] [0] from⟨rfl,trivial⟩)) rfl (Nat.le_refl _)⟩,j.gr⟩)))
                       (BY _)))))))))))))))))))))))))))))))))))))))))))))))))))))))))))))))))))))))))))))))))))))) ?_
                   intro j2;rintro _ rfl _ rfl _ rfl _ rfl _ ⟨dA,dB,rfl,dF⟩ _ rfl _ rfl _ rfl _ rfl _ rfl _ rfl _ rfl _ rfl _ rfl _ rfl _ rfl _ rfl _ rfl _ rfl _ rfl _ rfl _ rfl _ rfl _ rfl _ rfl _ rfl _ rfl _ rfl _ rfl _ rfl _ rfl _ rfl _ rfl _ rfl _ rfl _ rfl _ rfl _ rfl _ rfl _ rfl _ rfl _ rfl _ rfl _ rfl _ rfl _ ⟨cY,cZ,rfl,dC⟩ _ rfl _ rfl _ rfl _ rfl _ rfl _ rfl _ rfl _ rfl _ rfl _ rfl _ rfl _ rfl _ ⟨c0,c1,rfl,dD⟩ _ rfl _ rfl _ rfl _ rfl _ rfl _ rfl _ rfl _ rfl _ ⟨c2,c3,rfl,dE⟩ _ rfl _ rfl _ rfl _ rfl _ rfl _ rfl _ rfl _ rfl _ rfl _ rfl _ rfl _ rfl _ rfl _ rfl _ rfl _ rfl _ ⟨gC,gD,rfl,d7⟩ hE;have i0:=cO.ext hE;have dS:=(cN.mv (Ac hE));replace a:=bind_some a;obtain⟨hF,i1,a⟩:=a;refine wX bX (fun st=>Al M0 (eR st) (Cf (eR st) (eR st)) (TX i p.1 [0] aI aJ gC gD ZA _ dS.all d7.all hF i1)) ?_;rintro _ j3 ⟨i2,rfl⟩;have i3:=i0.ext i2;refine wD (fun st=>Bc (v:=.bool hF) (eR st) bX (eR st))<|wA (v:=.bool hF) rfl<|wn<|Ak ?_;have jJ:=oi a;refine Aw rfl rfl ?_;exact⟨i3.Bf,congrArg Value.bool jJ⟩
                  ·replace a:=Ar a bX;exact absurd (oi a) (by decide)
                 ·replace a:=Ar a cX;exact absurd (oi a) (by decide)
                ·replace a:=Ar a cW;exact absurd (oi a) (by decide)
               ·replace a:=Ar a cV;exact absurd (oi a) (by decide)
              ·replace a:=Ar a bW;exact absurd (oi a) (by decide)
             ·replace a:=Ar a cU;exact absurd (oi a) (by decide)
            ·replace a:=Ar a bV;exact absurd (oi a) (by decide)
           ·replace a:=Ar a cT;exact absurd (oi a) (by decide)
          ·replace a:=Ar a cS;exact absurd (oi a) (by decide)
         ·replace a:=Ar a bU;exact absurd (oi a) (by decide)
        ·replace a:=Ar a cR;exact absurd (oi a) (by decide)
       ·replace a:=Ar a bT;exact absurd (oi a) (by decide)
      ·replace a:=Ar a cQ;exact absurd (oi a) (by decide)
     ·replace a:=Ar a aB;exact absurd (oi a) (by decide)
    ·replace a:=Ar a aA;exact absurd (oi a) (by decide)
   ·replace a:=Ar a bS;exact absurd (oi a) (by decide)
  ·replace a:=Ar a cP;exact absurd (oi a) (by decide)
 ·replace a:=Ar a bR;exact absurd (oi a) (by decide)
end Go.Proofs.YtbhofkcbfblijaaGreat
end
section
namespace Go.Proofs.YtbhofkcbfblijaaGreat
open Go.RowKit Go.ChangeShapes Go.WideShapes
theorem QY{α β:Type}{g:α→Option β}:∀{l:List α} {r:List β},l.mapM g=some r→∀(i:Nat) (x:α),l[i]?=some x→∃y,r[i]?=some y∧g x=some y
 |[],_,_,i,x,b=>by simp at b
 |a::l,r,h,i,x,b=>by
  rw[List.mapM_cons] at h;obtain⟨y,d,h2⟩:=Option.bind_eq_some_iff.1 h;obtain⟨ys,c,e⟩:=Option.bind_eq_some_iff.1 h2;obtain rfl:y::ys=r:=by simpa using e
  cases i with
  |zero=>
   obtain rfl:a=x:=by simpa using b
   exact⟨y,rfl,d⟩
  |succ i=>exact QY c i x (by simpa using b)
theorem LL{H:Type}{P:Program}{e:TypeId}{d:DataW H}{n:Nat}(b:n∈d.weights P e):∀{l:List (DataW H)},d∈l→n∈DataW.weightsAll P e l
 |[],h=>by cases h
 |a::l,h=>by
  rw[DataW.weightsAll,List.mem_append];rcases List.mem_cons.1 h with rfl|h
  ·exact .inl b
  ·exact .inr (LL b h)
def NW {H:Type} (P:Program) (t:TypeId) (d:DataW H):Prop:=∀n∈d.weights P t,n≤reachBytes
theorem Ss{H:Type}{P:Program}{a:List TypeId}{ds:List (DataW H)}(h:(DataW.weightsEach P a ds).all (· ≤reachBytes)=true){j:Nat}{t:TypeId}{d:DataW H}(b:a[j]?=some t)(c:ds[j]?=some d):NW P t d:=fun n e=>by
 have:=List.all_eq_true.1 h _ (DataW.weights_mem_each b c n e);simpa using this
def LM {α:Type} (P:Program) (t:TypeId) (e:Cx α) (wf:α→Prop):Prop:=
 ∀(H:Type) (enc:TypeId×Value→H) (w:World) (sp:Nat→Bool) (fuel:Nat) (cs:List Value) (x:DataW H×List MemPlace),DataW.trod enc P w 0 sp true fuel t cs=some x→NW P t x.1→∃a,e.R w ZA cs a∧wf a
def GR(k:IntKind)(n:Int):Prop:=(Lit.int k n).wf=true
section
variable{P:Program}{t:TypeId}
theorem Ip{k:IntKind}(a:P.underlying t=some (.int k)):LM P t (Ah k) (GR k):=by
 intro H enc w sp fuel cs x h _;obtain⟨n,h1,_,b⟩:=DataW.trod_int a h;exact⟨n,h1,b⟩
theorem Vb(a:P.underlying t=some .bool):LM P t Zu (fun _=>True):=by
 intro H enc w sp fuel cs x h _;obtain⟨b,h1,_⟩:=DataW.trod_bool a h;exact⟨b,h1,trivial⟩
theorem H8 {e:Array Field} (g:P.underlying t=some (.struct e)) {H:Type} {enc:TypeId×Value→H} {w:World} {sp:Nat→Bool} {fuel:Nat} {cs:List Value} {x:DataW H×List MemPlace} (h:DataW.trod enc P w 0 sp true fuel t cs=some x):
  cs.length=P.cellsOf t∧∃c,∀(i a off:Nat),(e[i]?).map (fun f=>(f.type,f.offset))=some (a,off)→∃y,DataW.trod enc P w 0 sp true c a ((cs.drop off).take (P.cellsOf a))=some y∧(NW P t x.1→NW P a y.1):=by
 cases fuel with
 |zero=>simp[DataW.trod] at h
 |succ fuel=>
  unfold DataW.trod at h;simp only[g] at h;split at h
  ·rename_i hl
   obtain⟨xs,m,rfl⟩:=Option.map_eq_some_iff.1 h;refine⟨hl,fuel,fun i a off o=>?_⟩;obtain⟨f,b,he⟩:=Option.map_eq_some_iff.1 o;obtain⟨k,p⟩:f.type=a∧f.offset=off:=by simpa using he
   rw[←Array.getElem?_toList] at b;obtain⟨y,q,l⟩:=QY m i f b;rw[k,p] at l;refine⟨y,l,fun hs n r=>hs n ?_⟩;simp only[DataW.weights,g];exact DataW.weights_mem_each (j:=i) (t:=a) (d:=y.1) (by rw[List.getElem?_map,b];simp[k]) (by rw[List.getElem?_map,q];rfl) n r
  ·cases h
theorem SY{w:World}{a:Addr}{n:Nat}{cs:List Value}(h:w.cells? 0 a n=some cs):cs.length=n∧∀j u,cs[j]?=some u→w.cell? (a.add j)=some u:=by
 unfold World.cells? at h;rw[if_pos (Nat.zero_le _)] at h;have hl:=mapM_some_length h;refine⟨by simpa using hl,?_⟩;have key:∀(l:List Nat) (r:List Value),l.mapM (fun i=>w.cell? (a.add i))=some r→∀(j i:Nat) (u:Value),l[j]?=some i→r[j]?=some u→w.cell? (a.add i)=some u:=by
  intro l
  induction l with
  |nil=>intro r _ j i u hj;simp at hj
  |cons b l ih=>
   intro r h j i u hj c;rw[List.mapM_cons] at h;obtain⟨y,f,h2⟩:=Option.bind_eq_some_iff.1 h;obtain⟨ys,d,g⟩:=Option.bind_eq_some_iff.1 h2;obtain rfl:y::ys=r:=by simpa using g
   cases j with
   |zero=>
    obtain rfl:b=i:=by simpa using hj
    obtain rfl:y=u:=by simpa using c
    exact f
   |succ j=>exact ih ys d j i u (by simpa using hj) (by simpa using c)
 intro j u hj;have e:j<n:=by
  have:=(List.getElem?_eq_some_iff.1 hj).1;have h2:cs.length=n:=by simpa using hl
  omega
 exact key _ _ h j j u (by simp[e]) hj
theorem TZ{w:World}{a:Addr}{u:Value}(h:w.cell? a=some u):∃b o,a=⟨b,o,none⟩∧b<w.heap.size:=by
 obtain⟨b,o,pt⟩:=a;cases pt with
 |none=>
  refine⟨b,o,rfl,?_⟩;unfold World.cell? at h;cases c:w.heap[b]? with
  |none=>simp[c] at h
  |some o=>exact(Array.getElem?_eq_some_iff.1 c).1
 |some q=>
  unfold World.cell? at h;cases c:w.heap[b]? with
  |none=>simp[c] at h
  |some ob=>cases ob<;>simp[c] at h
theorem add_add{a:Addr}{k j:Nat}(h:k≤j):(a.add k).add (j-k)=a.add j:=by
 obtain⟨b,o,pt⟩:=a;cases pt with
 |none=>rw[Ge,Ge,Ge];congr 1;omega
 |some q=>
  unfold Addr.add
  by_cases hj:j=0
  ·have:k=0:=by omega
   subst this;subst hj;simp
  ·by_cases c:k=0
   ·subst c;simp[hj]
   ·by_cases d:j-k=0
    ·have:j=k:=by omega
     subst this;simp[c]
    ·simp[hj,c,d];omega
theorem Iq {α:Type} {e:TypeId} {ee:Cx α} {wf:α→Prop} (v:P.underlying t=some (.slice e)) (aI:P.cellsOf e=ee.sz) (h0:0<ee.sz) (aJ:LM P e ee wf) {b:Nat} (aA:P.bytesOf e=b):LM P t (BG ee) (fun xs=>xs.length*b≤140737488351232∧∀x∈xs,wf x):=by
 intro H enc w sp fuel cs x h r;rcases Go.Deep.open_slice v h with⟨rfl,_⟩|⟨a,len,cap,m,n0,D,aO,rfl,_,aB,aM,hm,aC,Lc⟩
 ·exact⟨[],⟨none,0,rfl,Sl.nil _ _ _⟩,by simp,by simp⟩
 ·have aN:len≤m:=by rw[hm];split<;>omega
  subst aC;have g:len*b≤140737488351232:=by
   have:=r ((((List.range len).map D).length+((List.range (m-len)).map fun j=>D (len+j)).length)*P.bytesOf e) (by simp[DataW.weights,v]);rw[aA] at this;have h2:len*b≤(((List.range len).map D).length+((List.range (m-len)).map fun j=>D (len+j)).length)*b:=Nat.mul_le_mul_right _ (by simp);exact Nat.le_trans h2 this
  have k:∀i,i<len→NW P e (D i):=fun i hi n aD=>r n (by
   simp only[DataW.weights,v];rw[List.mem_cons,List.mem_append];exact .inr (.inl (LL aD (List.mem_map.2 ⟨i,by simpa using hi,rfl⟩))))
  have key:∀n,n≤len→∃BE xs,R2 ee w ZA BE xs∧xs.length=n∧(∀x∈xs,wf x)∧∀j u,BE.flatten[j]?=some u→w.cell? (a.add j)=some u:=by
   intro n
   induction n with
   |zero=>exact fun _=>⟨[],[],trivial,rfl,by simp,by simp⟩
   |succ n ih=>
    intro aD;obtain⟨BE,xs,h1,h2,y,l⟩:=ih (by omega);obtain⟨ds,aK,aE⟩:=Lc n (by omega);obtain⟨z,aL,aF⟩:=aJ _ _ _ _ _ _ _ aE (k n (by omega));obtain⟨hl,p⟩:=SY aK;refine⟨BE++[ds],xs++[z],h1.append ⟨aL,trivial⟩,by simp[h2],?_,?_⟩
    ·intro x c;rcases List.mem_append.1 c with c|c
     ·exact y x c
     ·rw[List.mem_singleton.1 c];exact aF
    ·intro j u hj;rw[List.flatten_append] at hj;rcases Nat.lt_or_ge j BE.flatten.length with d|f
     ·rw[List.getElem?_append_left d] at hj;exact l j u hj
     ·rw[List.getElem?_append_right f] at hj;have q:=p (j-BE.flatten.length) u (by simpa using hj);have aG:BE.flatten.length=n*ee.sz:=by rw[h1.Lm,h2]
      rw[aG] at q f;rw[aI] at q;rw[add_add f] at q;exact q
  obtain⟨BE,xs,h1,h2,y,l⟩:=key len (Nat.le_refl _);refine⟨xs,⟨some a,cap,by rw[h2],by rw[h2];exact aB,(fun e=>by cases e),BE,h1,?_⟩,by rw[h2];exact g,y⟩;cases aH:BE.flatten with
  |nil=>exact .inl rfl
  |cons u us=>
   have hu:=l 0 u (by rw[aH];rfl);obtain⟨b,o,s,d⟩:=TZ hu;have ha:a=⟨b,o,none⟩:=by
    obtain⟨b',o',pt⟩:=a;cases pt<;>simp[Addr.add] at s⊢;exact s
   subst ha;refine .inr ⟨b,o,rfl,trivial,d,fun j u hj=>?_⟩;have:=l j u (by rw[aH];exact hj);rw[Ge] at this;exact this
end
section
variable{H:Type}{enc:TypeId×Value→H}{P:Program}{W W':World}
theorem Mk{sp:Nat→Bool}:∀{e:List TypeId} {vs:List Value} {ds:List (DataW H)} {ps:List MemPlace},DataW.TrodAll enc P W 0 sp true e vs ds ps→(∀p∈ps,W.sameAt W' p)→DataW.TrodAll enc P W' 0 sp true e vs ds ps
 |[],_,_,_,h,_=>by
  obtain⟨rfl,rfl,rfl⟩:=trodAll_nil h;exact rfl
 |_::_,_,_,_,h,hs=>by
  obtain⟨v,g,d,i,a,b,rfl,rfl,rfl,⟨n,f⟩,h2⟩:=trodAll_cons h;exact⟨a,b,⟨n,DataW.trod_carry n _ _ _ f fun p c=>hs p (List.mem_append_left _ c)⟩,Mk h2 fun p c=>hs p (List.mem_append_right _ c),rfl⟩
theorem T0(K:Kids P (· <P.types.size))(c:∀t e,t<P.types.size→P.underlying t=some (.slice e)→0<P.cellsOf e){a:List TypeId}{vs:List Value}{ds:List (DataW H)}{ps:List MemPlace}(d:∀t∈a,t<P.types.size)
  (f:DataW.TrodAll enc P W 0 (fun _=>true) true a vs ds ps)(hb:Ext W W')(b:∀p∈ps,p.block<W.heap.size)(sp:Nat→Bool)(hs:∀p∈ps,sp p.block=true):DataW.TrodAll enc P W' 0 sp true a vs ds ps:=
 Mk (DataW.TrodAll.respare K c d f hs) fun p g=>(Ml hb).same (b p g)
variable{α:Type}{e:Cx α}{wf:α→Prop}{t:TypeId}{b0:Nat}{v:Value}{d:DataW H}{p:List MemPlace}{sp:Nat→Bool}
theorem XK{c:Array Field}(f:P.underlying t=some (.struct c))(g:LM P t e wf)(b:Value.okWide P W .any b0 t v)(h:DataW.Trod enc P W 0 sp true t v d p)(hs:NW P t d):∃a cs,v=.agg cs.toArray∧e.R W ZA cs a∧wf a:=by
 unfold Value.okWide at b;rw[f] at b;obtain⟨cs,rfl,_⟩:=b;obtain⟨n,i⟩:=h;obtain⟨a,h1,h2⟩:=g _ _ _ _ _ _ _ i hs;exact⟨a,cs.toList,by simp,h1,h2⟩
theorem Zl{ee:TypeId}(f:P.underlying t=some (.slice ee)){wf:List α→Prop}(g:LM P t (BG e) wf)(i:Value.okWide P W .any b0 t v)(h:DataW.Trod enc P W 0 sp true t v d p)(hs:NW P t d):∃xs A c,v=.slice A xs.length c∧Sl e W ZA A c xs∧wf xs:=by
 obtain⟨A,n,c,rfl⟩:=okWide_slice f i;obtain⟨m,hm⟩:=h;obtain⟨xs,⟨a,b,h1,h2⟩,j⟩:=g _ _ _ _ _ _ _ hm hs;have:Value.slice A n c=Value.slice a xs.length b:=by simpa[Value.cells] using h1
 exact⟨xs,a,b,this,h2,j⟩
theorem XL{k:IntKind}(a:P.underlying t=some (.int k))(b:Value.okWide P W .any b0 t v)(h:DataW.Trod enc P W 0 sp true t v d p):∃n,v=.int k n∧GR k n:=by
 obtain⟨n,h1,_,_,c⟩:=open_int a b h;exact⟨n,h1,c⟩
theorem Rk {f:Func} {s:ChangeSpec} {apart fresh handsOn again:Bool} {args:Array Value} {v:Value} {ds gs:List (DataW H)} {before pa pv:List MemPlace}
  (k:DataW.Whole enc P f.params.toList s.vars apart W args.toList ds gs before)
  (g:∀(b:Nat) (sp:Nat→Bool) (m:Bool),DataW.TrodAll enc P W' b sp m f.resultTypes.toList (v.resultList f.resultTypes.size) (s.fn H (ds++gs)).results [])
  (c:∀sp:Nat→Bool,(∀p∈before,sp p.block=true)→DataW.TrodAll enc P W' 0 sp true f.params.toList args.toList (s.fn H (ds++gs)).args pa)
  (d:∀sp:Nat→Bool,(∀p∈before,sp p.block=true)→DataW.TrodVars enc P W' sp s.vars (s.fn H (ds++gs)).vars pv)
  (e:before=pa++pv) (n:Ext W W')
  (l:∀(j:Nat) (t:TypeId) (r:Value),f.resultTypes[j]?=some t→(v.resultList f.resultTypes.size)[j]?=some r→Value.okWide P W' .any 0 t r):
  s.post enc P f apart fresh handsOn again W args v W':=by
 have hb:=Ml n;have h:∀p∈before,p.block<W.heap.size:=fun p a=>k.lt p a;have hold:∀p∈before,(fun b=>decide (b<W.heap.size)) p.block=true:=fun p a=>by simpa using h p a
 refine⟨ds,gs,before,[],pa,pv,k,g _ _ _,c _ hold,d _ hold,World.keptBut_mono (fun p a=>⟨a,?_⟩) (hb.frame (· ∈before)),fun _=>?_⟩
 ·rw[e,List.mem_append] at a;exact Or.inr a
 ·obtain⟨_,_,_,_,_,o,q⟩:=k;refine⟨l,_,_,([]++pa)++pv,⟨[]++pa,pv,trodAll_append (c _ (fun _ _=>rfl)) (g _ _ _),d _ (fun _ _=>rfl),rfl,?_,?_⟩,?_⟩
  ·intro b off a;have i:MemPlace.cell b off∈before:=by rw[e];simpa using a
   rw[hb.frozen (h _ i)];exact o b off i
  ·intro ha;have:=q ha;rw[e] at this;simpa using this
  ·intro p a _;rw[e];simpa using a
theorem T1{f:FuncId}{args:Array Value}{w:World}{R:Value→World→Prop}(h:BN P f args w R):Calls P f args w (fun e w'=>∃v,e=.returned v∧R v w'):=h
end
theorem SZ:∀{cs:List Value},cs.length=2→∃a0 a1,cs=[a0,a1]
 |[a0,a1],_=>⟨a0,a1,rfl⟩
theorem VA:∀{cs:List Value},cs.length=3→∃a0 a1 a2,cs=[a0,a1,a2]
 |[a0,a1,a2],_=>⟨a0,a1,a2,rfl⟩
theorem ZL:∀{cs:List Value},cs.length=4→∃a0 a1 a2 a3,cs=[a0,a1,a2,a3]
 |[a0,a1,a2,a3],_=>⟨a0,a1,a2,a3,rfl⟩
theorem ZM:∀{cs:List Value},cs.length=7→∃a0 a1 a2 a3 a4 a5 a,cs=[a0,a1,a2,a3,a4,a5,a]
 |[a0,a1,a2,a3,a4,a5,a],_=>⟨a0,a1,a2,a3,a4,a5,a,rfl⟩
theorem QZ:LM Tryz.prog 44 Ay (fun x=>(GR .i64 x.Lo∧GR .i64 x.Hi)):=by
 intro H enc w sp fuel cs x h c;obtain⟨hl,i,d⟩:=H8 Tryz.underlying44 h;have j:Tryz.prog.cellsOf 44=2:=by kernel_rfl
 rw[j] at hl;have e:Tryz.prog.cellsOf 3=1:=by kernel_rfl
 obtain⟨a0,a1,rfl⟩:=SZ hl;obtain⟨k,a,f⟩:=d 0 3 0 rfl;simp only[e,List.drop_zero,List.drop_succ_cons,List.take_succ_cons,List.take_zero] at a;obtain⟨n0,h0,w0⟩:=(Ip Tryz.underlying3) _ _ _ _ _ _ _ a (f c);cases h0;obtain⟨l,b,g⟩:=d 1 3 1 rfl;simp only[e,List.drop_zero,List.drop_succ_cons,List.take_succ_cons,List.take_zero] at b;obtain⟨n1,h1,w1⟩:=(Ip Tryz.underlying3) _ _ _ _ _ _ _ b (g c);cases h1;exact⟨⟨n0,n1⟩,rfl,w0,w1⟩
theorem Zm:LM Tryz.prog 46 AH (fun x=>(True∧GR .i64 x.Number∧(GR .i64 ((⟨x.Bg,x.Bh⟩:AP).Lo)∧GR .i64 ((⟨x.Bg,x.Bh⟩:AP).Hi)))):=by
 intro H enc w sp fuel cs x h d;obtain⟨hl,l,e⟩:=H8 Tryz.underlying46 h;have m:Tryz.prog.cellsOf 46=4:=by kernel_rfl
 rw[m] at hl;have n:Tryz.prog.cellsOf 3=1:=by kernel_rfl
 have o:Tryz.prog.cellsOf 4=1:=by kernel_rfl
 have f:Tryz.prog.cellsOf 44=2:=by kernel_rfl
 obtain⟨a0,a1,a2,a3,rfl⟩:=ZL hl;obtain⟨p,a,g⟩:=e 0 4 0 rfl;simp only[o,List.drop_zero,List.drop_succ_cons,List.take_succ_cons,List.take_zero] at a;obtain⟨n0,h0,w0⟩:=(Vb Tryz.underlying4) _ _ _ _ _ _ _ a (g d);cases h0;obtain⟨q,b,i⟩:=e 1 3 1 rfl;simp only[n,List.drop_zero,List.drop_succ_cons,List.take_succ_cons,List.take_zero] at b;obtain⟨n1,h1,w1⟩:=(Ip Tryz.underlying3) _ _ _ _ _ _ _ b (i d);cases h1;obtain⟨r,c,j⟩:=e 2 44 2 rfl;simp only[f,List.drop_zero,List.drop_succ_cons,List.take_succ_cons,List.take_zero] at c;obtain⟨k,h2,w2⟩:=QZ _ _ _ _ _ _ _ c (j d);cases h2;exact⟨⟨n0,n1,k.Lo,k.Hi⟩,rfl,w0,w1,w2⟩
theorem Zn:LM Tryz.prog 26 Qb (fun x=>((x.Av.length*16≤140737488351232∧∀y∈x.Av,(GR .i64 y.Lo∧GR .i64 y.Hi))∧(x.AW.length*24≤140737488351232∧∀y∈x.AW,(y.length*8≤140737488351232∧∀g∈y,GR .i64 g))∧(x.AO.length*32≤140737488351232∧∀y∈x.AO,(True∧GR .i64 y.Number∧(GR .i64 ((⟨y.Bg,y.Bh⟩:AP).Lo)∧GR .i64 ((⟨y.Bg,y.Bh⟩:AP).Hi)))))):=by
 intro H enc w sp fuel cs x h e;obtain⟨hl,o,f⟩:=H8 Tryz.underlying26 h;have p:Tryz.prog.cellsOf 26=3:=by kernel_rfl
 rw[p] at hl;have i:Tryz.prog.cellsOf 22=1:=by kernel_rfl
 have j:Tryz.prog.cellsOf 23=1:=by kernel_rfl
 have k:Tryz.prog.cellsOf 24=1:=by kernel_rfl
 obtain⟨a0,a1,a2,rfl⟩:=VA hl;obtain⟨aA,a,l⟩:=f 0 22 0 rfl;simp only[i,List.drop_zero,List.drop_succ_cons,List.take_succ_cons,List.take_zero] at a;obtain⟨n0,⟨q,r,h0,s0⟩,w0⟩:=(Iq (b:=16) Tryz.underlying22 (by kernel_rfl) (by decide) QZ (by kernel_rfl)) _ _ _ _ _ _ _ a (l e);cases h0;obtain⟨aB,c,m⟩:=f 1 23 1 rfl;simp only[j,List.drop_zero,List.drop_succ_cons,List.take_succ_cons,List.take_zero] at c;obtain⟨n1,⟨s,t,h1,s1⟩,w1⟩:=(Iq (b:=24) Tryz.underlying23 (by kernel_rfl) (by decide) (Iq (b:=8) Tryz.underlying31 (by kernel_rfl) (by decide) (Ip Tryz.underlying3) (by kernel_rfl)) (by kernel_rfl)) _ _ _ _ _ _ _ c (m e);cases h1;obtain⟨aC,d,n⟩:=f 2 24 2 rfl;simp only[k,List.drop_zero,List.drop_succ_cons,List.take_succ_cons,List.take_zero] at d;obtain⟨u,⟨v,z,h2,s2⟩,w2⟩:=(Iq (b:=32) Tryz.underlying24 (by kernel_rfl) (by decide) Zm (by kernel_rfl)) _ _ _ _ _ _ _ d (n e);cases h2;exact⟨⟨n0,n1,u⟩,⟨q,r,s,t,v,z,rfl,s0,s1,s2⟩,w0,w1,w2⟩
theorem XM:LM Tryz.prog 128 AY (fun x=>(GR .i64 x.AT∧GR .i64 x.BT)):=by
 intro H enc w sp fuel cs x h c;obtain⟨hl,i,d⟩:=H8 Tryz.underlying128 h;have j:Tryz.prog.cellsOf 128=2:=by kernel_rfl
 rw[j] at hl;have e:Tryz.prog.cellsOf 3=1:=by kernel_rfl
 obtain⟨a0,a1,rfl⟩:=SZ hl;obtain⟨k,a,f⟩:=d 0 3 0 rfl;simp only[e,List.drop_zero,List.drop_succ_cons,List.take_succ_cons,List.take_zero] at a;obtain⟨n0,h0,w0⟩:=(Ip Tryz.underlying3) _ _ _ _ _ _ _ a (f c);cases h0;obtain⟨l,b,g⟩:=d 1 3 1 rfl;simp only[e,List.drop_zero,List.drop_succ_cons,List.take_succ_cons,List.take_zero] at b;obtain⟨n1,h1,w1⟩:=(Ip Tryz.underlying3) _ _ _ _ _ _ _ b (g c);cases h1;exact⟨⟨n0,n1⟩,rfl,w0,w1⟩
theorem XN:LM Tryz.prog 126 Ba (fun x=>(GR .i64 x.Cr∧GR .i64 x.Cc)):=by
 intro H enc w sp fuel cs x h c;obtain⟨hl,i,d⟩:=H8 Tryz.underlying126 h;have j:Tryz.prog.cellsOf 126=2:=by kernel_rfl
 rw[j] at hl;have e:Tryz.prog.cellsOf 3=1:=by kernel_rfl
 obtain⟨a0,a1,rfl⟩:=SZ hl;obtain⟨k,a,f⟩:=d 0 3 0 rfl;simp only[e,List.drop_zero,List.drop_succ_cons,List.take_succ_cons,List.take_zero] at a;obtain⟨n0,h0,w0⟩:=(Ip Tryz.underlying3) _ _ _ _ _ _ _ a (f c);cases h0;obtain⟨l,b,g⟩:=d 1 3 1 rfl;simp only[e,List.drop_zero,List.drop_succ_cons,List.take_succ_cons,List.take_zero] at b;obtain⟨n1,h1,w1⟩:=(Ip Tryz.underlying3) _ _ _ _ _ _ _ b (g c);cases h1;exact⟨⟨n0,n1⟩,rfl,w0,w1⟩
theorem XO:LM Tryz.prog 121 Bm (fun x=>(GR .i64 x.BP∧(GR .i64 ((⟨x.Cg,x.Ch⟩:AP).Lo)∧GR .i64 ((⟨x.Cg,x.Ch⟩:AP).Hi)))):=by
 intro H enc w sp fuel cs x h c;obtain⟨hl,i,d⟩:=H8 Tryz.underlying121 h;have j:Tryz.prog.cellsOf 121=3:=by kernel_rfl
 rw[j] at hl;have k:Tryz.prog.cellsOf 3=1:=by kernel_rfl
 have e:Tryz.prog.cellsOf 44=2:=by kernel_rfl
 obtain⟨a0,a1,a2,rfl⟩:=VA hl;obtain⟨l,a,f⟩:=d 0 3 0 rfl;simp only[k,List.drop_zero,List.drop_succ_cons,List.take_succ_cons,List.take_zero] at a;obtain⟨n0,h0,w0⟩:=(Ip Tryz.underlying3) _ _ _ _ _ _ _ a (f c);cases h0;obtain⟨m,b,g⟩:=d 1 44 1 rfl;simp only[e,List.drop_zero,List.drop_succ_cons,List.take_succ_cons,List.take_zero] at b;obtain⟨n1,h1,w1⟩:=QZ _ _ _ _ _ _ _ b (g c);cases h1;exact⟨⟨n0,n1.Lo,n1.Hi⟩,rfl,w0,w1⟩
theorem Zo:LM Tryz.prog 67 OH (fun x=>(((((⟨x.Aj,x.Ab,x.As⟩:AZ).Av).length*16≤140737488351232∧∀y∈((⟨x.Aj,x.Ab,x.As⟩:AZ).Av),(GR .i64 y.Lo∧GR .i64 y.Hi))∧(((⟨x.Aj,x.Ab,x.As⟩:AZ).AW).length*24≤140737488351232∧∀y∈((⟨x.Aj,x.Ab,x.As⟩:AZ).AW),(y.length*8≤140737488351232∧∀s∈y,GR .i64 s))∧(((⟨x.Aj,x.Ab,x.As⟩:AZ).AO).length*32≤140737488351232∧∀y∈((⟨x.Aj,x.Ab,x.As⟩:AZ).AO),(True∧GR .i64 y.Number∧(GR .i64 ((⟨y.Bg,y.Bh⟩:AP).Lo)∧GR .i64 ((⟨y.Bg,y.Bh⟩:AP).Hi)))))∧GR .i64 x.Flat∧(x.Az.length*16≤140737488351232∧∀y∈x.Az,(GR .i64 y.AT∧GR .i64 y.BT))∧(x.AE.length*16≤140737488351232∧∀y∈x.AE,(GR .i64 y.Cr∧GR .i64 y.Cc))∧(x.AK.length*24≤140737488351232∧∀y∈x.AK,(GR .i64 y.BP∧(GR .i64 ((⟨y.Cg,y.Ch⟩:AP).Lo)∧GR .i64 ((⟨y.Cg,y.Ch⟩:AP).Hi)))))):=by
 intro H enc w sp fuel cs x h a;obtain⟨hl,aF,c⟩:=H8 Tryz.underlying67 h;have aG:Tryz.prog.cellsOf 67=7:=by kernel_rfl
 rw[aG] at hl;have aH:Tryz.prog.cellsOf 3=1:=by kernel_rfl
 have t:Tryz.prog.cellsOf 26=3:=by kernel_rfl
 have u:Tryz.prog.cellsOf 63=1:=by kernel_rfl
 have v:Tryz.prog.cellsOf 64=1:=by kernel_rfl
 have z:Tryz.prog.cellsOf 65=1:=by kernel_rfl
 obtain⟨a0,a1,a2,a3,a4,a5,aX,rfl⟩:=ZM hl;obtain⟨aY,d,aA⟩:=c 0 26 0 rfl;simp only[t,List.drop_zero,List.drop_succ_cons,List.take_succ_cons,List.take_zero] at d;obtain⟨n0,⟨j,k,l,m,n,o,h0,p,q,r⟩,w0⟩:=Zn _ _ _ _ _ _ _ d (aA a);cases h0;obtain⟨aZ,e,aB⟩:=c 1 3 3 rfl;simp only[aH,List.drop_zero,List.drop_succ_cons,List.take_succ_cons,List.take_zero] at e;obtain⟨n1,h1,w1⟩:=(Ip Tryz.underlying3) _ _ _ _ _ _ _ e (aB a);cases h1;obtain⟨a6,f,aC⟩:=c 2 63 4 rfl;simp only[u,List.drop_zero,List.drop_succ_cons,List.take_succ_cons,List.take_zero] at f;obtain⟨aI,⟨aJ,aK,h2,s2⟩,w2⟩:=(Iq (b:=16) Tryz.underlying63 (by kernel_rfl) (by decide) XM (by kernel_rfl)) _ _ _ _ _ _ _ f (aC a);cases h2;obtain⟨a7,g,aD⟩:=c 3 64 5 rfl;simp only[v,List.drop_zero,List.drop_succ_cons,List.take_succ_cons,List.take_zero] at g;obtain⟨aL,⟨aM,aN,aO,aP⟩,aQ⟩:=(Iq (b:=16) Tryz.underlying64 (by kernel_rfl) (by decide) XN (by kernel_rfl)) _ _ _ _ _ _ _ g (aD a);cases aO;obtain⟨a8,i,aE⟩:=c 4 65 6 rfl;simp only[z,List.drop_zero,List.drop_succ_cons,List.take_succ_cons,List.take_zero] at i;obtain⟨aR,⟨aS,aT,aU,aV⟩,aW⟩:=(Iq (b:=24) Tryz.underlying65 (by kernel_rfl) (by decide) XO (by kernel_rfl)) _ _ _ _ _ _ _ i (aE a);cases aU;exact⟨⟨n0.Av,n0.AW,n0.AO,n1,aI,aL,aR⟩,⟨j,k,l,m,n,o,aJ,aK,aM,aN,aS,aT,rfl,p,q,r,s2,aP,aV⟩,w0,w1,w2,aQ,aW⟩
theorem AaV:ownKnob Tryz.prog.godebug=none:=by kernel_rfl
theorem ZN:Kids Tryz.prog (· <Tryz.prog.types.size):=kids_rows (by kernel_rfl) (by kernel_rfl)
theorem ZO:∀t e,t<Tryz.prog.types.size→Tryz.prog.underlying t=some (.slice e)→0<Tryz.prog.cellsOf e:=slices_full_of Tryz.prog (by kernel_rfl)
theorem Vc{x:Int}(h:GR .u16 x):0≤x∧x<65536:=by
 have h2:(decide (IntKind.u16.min≤x)&&decide (x≤IntKind.u16.max))=true:=h;rw[Bool.and_eq_true,decide_eq_true_eq,decide_eq_true_eq] at h2;have a:IntKind.u16.min=0:=by decide
 have b:IntKind.u16.max=65535:=by decide
 omega
end Go.Proofs.YtbhofkcbfblijaaGreat
end
section
namespace Go.Proofs.YtbhofkcbfblijaaGreat
open Go
theorem E3{a b:Bool}(h:a=true)(g:b=true):(a&&b)=true:=by rw[h,g];rfl
theorem OC{a b:Bool}(h:(a&&b)=true):a=true:=(Bool.and_eq_true _ _▸h:a=true∧b=true).1
theorem T3{a b:Bool}(h:(a&&b)=true):b=true:=(Bool.and_eq_true _ _▸h:a=true∧b=true).2
theorem Zp:laidOutB Tryz.checked.prog=true:=by kernel_rfl
theorem Zq:mapsRowed Tryz.checked.prog=true:=by kernel_rfl
theorem XP:(Tryz.checked.prog.stops==[])=true:=by kernel_rfl
theorem XQ:(Tryz.checked.prog.stopKnobs==[])=true:=by kernel_rfl
theorem XS:Tryz.checked.prog.stopsHeard=true:=by kernel_rfl
theorem Zr:(Rows.tradePlaysRow.plainKeys==Tryz.checked.prog.plainKeys)=true:=by kernel_rfl
theorem Q0:(Tryz.checked.prog.mayEnter&&(Rows.tradePlaysRow.lifted==Tryz.checked.prog.liftsFinal)&&(Tryz.checked.prog.make==some Rows.tradePlaysRow.make))=true:=by kernel_rfl
end Go.Proofs.YtbhofkcbfblijaaGreat
end
